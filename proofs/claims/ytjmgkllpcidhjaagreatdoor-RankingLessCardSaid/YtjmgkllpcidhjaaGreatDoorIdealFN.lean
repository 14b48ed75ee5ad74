/-
  The ideal machine, 32: rounds.
-/
import Derived.Test.YtjmgkllpcidhjaaGreatDoorIdealEN
set_option linter.all false
namespace Go.Ideal
variable {P:Program}
theorem Zb(n p:Nat)(ps:List Tmp)(v:Value)(args:List Value)(t:T Value):qZ n (p::ps) (v::args) t=qZ n ps args (cond (Nat.blt p n) (t.set p (some v)) t):=rfl
theorem Zc{β:az}{n:Nat}:∀(ps:List Tmp) (args gY:List Value) (t:T Value) (tm:Array Value),args.length=ps.length->aJ β args gY->tm.size=n->(∀i,VR β (bV t i) (tm.getD i undef))->(∀i,n<=i->bV t i=bU)->
 (((ps.zip gY).foldl (λtmps (x:Tmp×Value)=>tmps.setIfInBounds x.1 x.2) tm).size=n/\(∀i,VR β (bV (qZ n ps args t) i) (((ps.zip gY).foldl (λtmps (x:Tmp×Value)=>tmps.setIfInBounds x.1 x.2) tm).getD i undef))/\∀i,n<=i->bV (qZ n ps args t) i=bU):=by
 intro ps;induction ps with
 |nil=>
  intro args gY t tm hl ha hs hv ho;cases args with
  |nil=>cases ha;exact⟨hs,hv,ho⟩
  |cons v args=>simp at hl
 |cons p ps ih=>
  intro args gY t tm hl ha hs hv ho;cases args with
  |nil=>simp at hl
  |cons v args=>
   cases ha with
   | @cons _ v' _ gY h1 h2=>
     rw[Zb];simp only[List.zip_cons_cons,Ih];refine ih args gY _ (tm.setIfInBounds p v') (by simpa using hl) h2 (by simpa using hs) (λi=>?_) (λi hi=>?_)
     ·cases hb:Nat.blt p n with
      |true=>
       have hlt: @LT.lt Nat _ p n:=by simpa[pu]using hb
       simp only[cond_true];rw[zD,EX tm p v' i (by omega)];by_cases e:i=p
       ·rw[if_pos e,if_pos e];exact h1
       ·rw[if_neg e,if_neg e];exact hv i
      |false=>
       have hge:n<=p:=by
        rcases oZ p n with hh|hh
        ·have:Nat.blt p n=true:=by simpa[pu]using hh
         rw[this]at hb;cases hb
        ·exact hh
       simp only[cond_false];by_cases e:i=p
       ·rw[ho i (by omega)];exact .bU _
       ·rw[qj,Ew (Ne.symm e),<- qj];exact hv i
     ·cases hb:Nat.blt p n with
      |true=>
       have hlt: @LT.lt Nat _ p n:=by simpa[pu]using hb
       simp only[cond_true];rw[zD,if_neg (by omega)];exact ho i hi
      |false=>exact ho i hi
section
variable {b:Frame} {tm:Array Value} {df:List Deferred} {k:List Item} {cs:List Frame} {w:World}
theorem Zd{l:Nat}{r:Loop}(hb:b.roundOf=some l)(h:w.heap[l]? =some (.loop r))(hr:r.state=.ready):
 step P (lone (fr b tm df (.beginRound::k)) cs w)=.next (lone (fr b tm df k) cs (w.putObj l (.loop {r with state:=.busy}))):=by
 have h1:=run_beginRound (P:=P) h hr;refine step_lone_go ?_;simp[stepG,stepG.exec,fr,hb,stepG.apply,h1,Frame.finish]
theorem Ze{l:Nat}{r:Loop}{todo:List Item}(hb:b.roundOf=some l)(hk:b.kind=.normal)(h:w.heap[l]? =some (.loop r))(jump:Option Code)
 (ht:(todo=[]/\jump=none)\/(∃t,todo=.code .ret::t/\jump=some .ret)\/∃id t,todo=.code (.exit id)::t/\exitTo id t=none/\jump=some (.exit id)) (c:Frame):
 step P (lone (fr b tm df todo) (c::cs) w)=.next (lone (c.finish (.bool jump.isNone)) cs (w.putObj l (.loop {r with state:=if jump.isNone then .ready else .done,pending:=jump}))):=by
 have h1:=run_endRound (P:=P) jump h;refine step_lone_go ?_;rcases ht with⟨rfl,rfl⟩|⟨t,rfl,rfl⟩|⟨id,t,rfl,he,rfl⟩
 ·simp[stepG,stepG.exec,fr,hb,h1,doReturn,hk]
 ·simp[stepG,stepG.exec,fr,hb,h1,doReturn,hk]
 ·simp[stepG,stepG.exec,fr,hb,h1,doReturn,hk,he]
end
end Go.Ideal
namespace Go.Ideal
variable {P:Program}
theorem JG{w:World}{l:Nat}{o:Obj}(hl:l<w.heap.size):(w.putObj l o).heap.size=w.heap.size/\(∀b,b≠l->(w.putObj l o).heap[b]? =w.heap[b]?)/\(w.putObj l o).heap[l]? =some o:=Ch hl
theorem Zf{q:bQ}{h:IH}{K:KR}(l:Nat)(hq:q.fn=.yield l)(hpm:q.pm=none)(r:mP)(hr:h.get l=some (.loop r))(hargs:q.args.length=r.params.length)
 (M:KO) (h1:jq P r.assign {n:=r.n,tmps:=qZ r.n r.params q.args r.tmps,defers:=[],pm:=none,ro:=some l} h M)
 (h2:∀o a' h',M o a' h'->o=.normal/\∃r1,h'.get l=some (.loop r1)/\r1.state=.ready)
 (h3:∀a' h' r1,M .normal a' h'->h'.get l=some (.loop r1)->jq P r.body a' (h'.set l (.loop {r1 with state:=.busy})) λo a'' h''=>∃r2,h''.get l=some (.loop r2)/\a''.defers=[]/\
   match o with
   | .panic ch=>K (.fI ch) none h''
   | .normal=>K (.ok (.bool true)) none (h''.set l (.loop {r2 with state:=.ready,pending:=none}))
   |o=>K (.ok (.bool false)) none (h''.set l (.loop {r2 with state:=.done,pending:=some o}))):iG P q h K:=by
 intro β w fn' args' cap' hG hW hfr ha hcap;rw[hq]at hfr;cases hfr with
 | @yield _ g hg=>
 obtain⟨r',o1,L⟩:=hW.obj l g _ hg hr;have hsz:(⟨args'⟩:Array Value).size=r'.params.size:=by
  have e1:args'.length=q.args.length:=ha.length;have e2:r'.params.size=r.params.length:=by rw[<- L.params];simp
  show args'.length=_;omega
 refine⟨_,_,by
  show(Instr.yield g.b ⟨args'⟩).run P w=_;exact run_yield o1 hsz,rfl,λcs0 _=>?_⟩
 rw[hpm];have ES:(r'.params.zip (⟨args'⟩:Array Value)).foldl (λtmps (x:Tmp×Value)=>tmps.setIfInBounds x.1 x.2) r'.tmps=(r.params.zip args').foldl (λtmps (x:Tmp×Value)=>tmps.setIfInBounds x.1 x.2) r'.tmps:=by
  rw[<- NG,Array.toList_zip,L.params]
 obtain⟨t1,t2,t3⟩:=Zc (β:=β) (n:=r.n) r.params q.args args' r.tmps r'.tmps hargs ha L.size L.tmps L.out;rw[<- ES]at t1 t2;let b:Frame:={(default:Frame)with fn:=r'.fn,kind:=.normal,roundOf:=some g.b}
 have hcx:CX P β none (some l) b cs0:=⟨L.zF,.inr ⟨l,g,rfl,hg,rfl⟩,rfl,λm hm=>by cases hm⟩
 have hA:AR β none' {n:=r.n,tmps:=qZ r.n r.params q.args r.tmps,defers:=[],pm:=none,ro:=some l} ((r'.params.zip (⟨args'⟩:Array Value)).foldl (λtmps (x:Tmp×Value)=>tmps.setIfInBounds x.1 x.2) r'.tmps) []:=
  ⟨t1,λi _=>t2 i,t3,.nil⟩
 obtain⟨o,a',h',β',w',tm',dZ,cs',q1,q2,q3,q4,q5,q6,q7⟩:=h1 r'.assign _ L.assign (.inl rfl) β w b _ [] [.beginRound,.code r'.body] cs0 hG hW hA hcx;obtain⟨rfl,r1,hr1,hst⟩:=h2 o a' h' q1;have hle:=q3.le hW.dom;have hg':=hle _ _ hg;obtain⟨r1',o2,L1⟩:=q2.obj l g _ hg' hr1;have hlt1:g.b<w'.heap.size:=by
  rcases oZ g.b w'.heap.size with hh|hh
  ·exact hh
  ·rw[o8 hh]at o2;cases o2
 obtain⟨z1,z2,z3⟩:=JG (w:=w') (o:=.loop {r1' with state:=.busy}) hlt1;obtain⟨y1,y2⟩:=q2.write hg' hr1 (.loop {r1 with state:=.busy}) z1 z2 rfl rfl rfl (aH _) ⟨_,z3,{L1 with state:=rfl}⟩;have JH:a'.pm=none:=by
  have h5:=q5;generalize a'.pm=x at h5;cases h5;rfl
 have s1:Steps P (lone (Frame.round g.b r'.fn ((r'.params.zip (⟨args'⟩:Array Value)).foldl (λtmps (x:Tmp×Value)=>tmps.setIfInBounds x.1 x.2) r'.tmps) r'.assign r'.body .normal) cs0 w) (lone (fr b tm' dZ [.code r'.body]) cs' (w'.putObj g.b (.loop {r1' with state:=.busy}))):=by
  refine Steps.trans q7 (.one (Zd rfl o2 (by rw[L1.state];exact hst)))
 have hcs':cs'=cs0:=by
  have h5:=q5;rw[JH]at h5;cases h5;rfl
 subst hcs';have Zg:CX P β' a'.pm a'.ro b cs':=by
  rw[JH,q6];exact⟨L.zF,.inr ⟨l,g,rfl,hg',rfl⟩,rfl,λm hm=>by cases hm⟩
 obtain⟨Pt,a2,h4,β2,w2,Pv,df2,cs2,p1,p2,p3,p4,p5,p6,p7⟩:=h3 a' h' r1 q1 hr1 r'.body _ L.body (.inl rfl) β' _ b tm' dZ [] cs' (hG.le hle) y1 q4 Zg;obtain⟨r2,hr2,hdf,hK⟩:=p1;have hle2:=p3.le y1.dom;have hg2:=hle2 _ _ hg';have hcs2:cs2=cs'/\a2.pm=none:=by
  have h5:=p5;rw[JH]at h5;generalize a2.pm=x at h5;cases h5;exact⟨rfl,rfl⟩
 obtain⟨rfl,aiZ⟩:=hcs2;obtain⟨r2',o3,L2⟩:=p2.obj l g _ hg2 hr2;have hlt2:g.b<w2.heap.size:=by
  rcases oZ g.b w2.heap.size with hh|hh
  ·exact hh
  ·rw[o8 hh]at o3;cases o3
 have Zh:df2=[]:=by
  have h5:=p4.defers;rw[hdf]at h5;cases h5;rfl
 have hE:Eff β h w β2 h4 w2:=(q3.trans y2).trans p3;by_cases iM:∃ch,Pt=.panic ch
 ·obtain⟨ch,rfl⟩:=iM;obtain⟨todo,ch',e1,e2⟩:=p7;refine⟨.fI ch,none,h4,β2,w2,.panicked ch',cs2,hK,p2,hE,.fI e1,.none _,.inr ⟨⟨rfl,l,hq⟩,λc rest hc=>?_⟩⟩;subst hc;refine(s1.trans e2).trans (.one ?_);obtain⟨fn,hfn⟩:=L.zF;subst Zh;exact step_leave_panicked ⟨rfl,rfl,fn,hfn⟩
 ·have key:∃(jump:Option Code) (out:Option Out) (todo:List Item),jump=out.bind Oe/\(∀ch,out≠some (.panic ch))/\jump.isNone=out.isNone/\
   ((todo=[]/\jump=none)\/(∃t,todo=.code .ret::t/\jump=some .ret)\/∃id t,todo=.code (.exit id)::t/\exitTo id t=none/\jump=some (.exit id))/\
   Steps P (lone (fr b tm' dZ [.code r'.body]) cs2 (w'.putObj g.b (.loop {r1' with state:=.busy}))) (lone (fr b Pv df2 todo) cs2 w2)/\
   K (.ok (.bool out.isNone)) none (h4.set l (.loop {r2 with state:=if out.isNone then .ready else .done,pending:=out})):=by
   cases Pt with
   |panic ch=>exact absurd ⟨ch,rfl⟩ iM
   |normal=>exact⟨none,none,[],rfl,by simp,rfl,.inl ⟨rfl,rfl⟩,p7,hK⟩
   |exit id=>
    obtain⟨todo,e1,e2⟩:=p7;exact⟨some (.exit id),some (.exit id),_,rfl,by simp,rfl,.inr (.inr ⟨id,todo,rfl,e1,rfl⟩),e2,hK⟩
   |ret=>
    obtain⟨todo,e2⟩:=p7;exact⟨some .ret,some .ret,_,rfl,by simp,rfl,.inr (.inl ⟨todo,rfl,rfl⟩),e2,hK⟩
  obtain⟨jump,out,todo,k1,k2,k3,k4,k5,k6⟩:=key;obtain⟨x1,x2,x3⟩:=JG (w:=w2) (o:=.loop {r2' with state:=if jump.isNone then .ready else .done,pending:=jump}) hlt2;obtain⟨u1,u2⟩:=p2.write hg2 hr2 (.loop {r2 with state:=if out.isNone then .ready else .done,pending:=out}) x1 x2 rfl rfl rfl (aH _) ⟨_,x3,{L2 with state:=by rw[k3],pending:=k1,BP:=k2}⟩;refine⟨_,none,_,β2,_,.returned (.bool out.isNone),cs2,k6,u1,hE.trans u2,.ok (.bool _),.none _,.inr ⟨⟨rfl,l,hq⟩,λc rest hc=>?_⟩⟩;subst hc;refine(s1.trans k5).trans (.one ?_);have:=Ze (P:=P) (tm:=Pv) (df:=df2) (cs:=rest) (b:=b) rfl rfl o3 jump k4 c;rw[k3]at this;rw[k3];exact this
end Go.Ideal
namespace Go.Ideal
variable {P:Program}
section
variable {b:Frame} {tm:Array Value} {df:List Deferred} {k:List Item} {cs:List Frame} {w:World}
theorem Zi{f:Operand}{ps:Array Tmp}{x y:Code}{l:Nat}{mark:List Deferred}{w1:World}(he:(Instr.enterLoop b.fn tm ps x y b.roundOf).run P w=.ok (l,mark) w1){fn:Fn}{first captured:Array Value}
 (hf:Act.eval ⟨tm,df⟩ f=.func fn first captured) {nx:Next} {F0:Frame} (hi:(invoke (.fn fn captured) (first++ #[.func (.yield l) #[] #[]])).run P w1=.ok nx w1) (hn:entry P .normal nx=some F0):
 step P (lone (fr b tm df (.code (.rangeFunc f ps x y)::k)) cs w)=.next (lone F0 (fr b tm (mark++df) (.inRangeFunc l::k)::cs) w1):=by
 refine step_lone_go ?_;have hev:({fr b tm df (.code (.rangeFunc f ps x y)::k)with todo:=.inRangeFunc l::k,defers:=mark++df}:Frame).eval f=.func fn first captured:=by
  rw[<- hf];cases f<;>rfl
 have hcall:(do let d <- resolve ({fr b tm df (.code (.rangeFunc f ps x y)::k)with todo:=.inRangeFunc l::k,defers:=mark++df}:Frame).eval {callee:=.value f,args:= #[.const (.func (.yield l) #[] #[])],argTypes:= #[]} 0;invoke d.target d.args:Sem Next).run P w1=.ok nx w1:=by
  have hc:({fr b tm df (.code (.rangeFunc f ps x y)::k)with todo:=.inRangeFunc l::k,defers:=mark++df}:Frame).eval (.const (.func (.yield l) #[] #[]))=.func (.yield l) #[] #[]:=rfl;simp only[resolve,hev,Deferred.ofValue,bP,dB,bR];have:(#[Operand.const (.func (.yield l) #[] #[])].map ({fr b tm df (.code (.rangeFunc f ps x y)::k)with todo:=.inRangeFunc l::k,defers:=mark++df}:Frame).eval)= #[.func (.yield l) #[] #[]]:=by simp[hc]
  rw[this];exact hi
 have hfr:({fr b tm df (.code (.rangeFunc f ps x y)::k)with todo:=.inRangeFunc l::k,defers:=mark++df}:Frame)=fr b tm (mark++df) (.inRangeFunc l::k):=rfl;rw[hfr]at hcall;have he':(Instr.enterLoop (fr b tm df (.code (.rangeFunc f ps x y)::k)).fn (fr b tm df (.code (.rangeFunc f ps x y)::k)).tmps ps x y (fr b tm df (.code (.rangeFunc f ps x y)::k)).roundOf).run P w=.ok (l,mark) w1:=he;cases nx<;>simp only[entry,aA,reduceCtorEq]at hn
 ·subst hn;simp only[fr]at he' hcall⊢;simp[stepG,stepG.exec,he',stepG.apply,hcall]
 ·subst hn;simp only[fr]at he' hcall⊢;simp[stepG,stepG.exec,he',stepG.apply,hcall]
theorem Zj{l:Nat}{r:Loop}(h:w.heap[l]? =some (.loop r))(hb:r.state≠.busy):
 step P (lone (fr b tm df (.endRangeFunc l::k)) cs w)=.next (lone (fr b tm df ((r.pending.map Item.code).toList++k)) cs (w.putObj l (.loop {r with state:=.exhausted}))):=by
 have h1:=run_endLoop (P:=P) h hb;refine step_lone_go ?_;simp[stepG,stepG.exec,fr,h1]
end
end Go.Ideal
namespace Go.Ideal
variable {P:Program}
theorem Pw{a:aR}{h:IH}{K:KO}{f:Operand}{ps:List Tmp}{assign body:cB}(fn:Fn)(first captured:List Value)(hf:a.eval f=.func fn ⟨first⟩ ⟨captured⟩)(a1:aR)(h1:IH)(r:Nat)(M:KR)
 (ha1:a1.tmps=a.tmps/\a1.n=a.n/\a1.pm=a.pm/\a1.ro=a.ro)
 (hc:iG P ⟨fn,je first [.func (.yield h1.next) #[] #[]],captured,none⟩ (h1.new (.loop {state:=.ready,pending:=none,tmps:=a.tmps,n:=a.n,params:=ps,assign,body,defers:=r})) M)
 (hok:∀v pm h2,M (.ok v) pm h2->∃lp,h2.get h1.next=some (.loop lp)/\lp.state≠.busy/\K (lp.pending.getD .normal) a1 (h2.set h1.next (.loop {lp with state:=.exhausted})))
 (iM:∀ch pm h2,M (.fI ch) pm h2->K (.panic ch) a1 h2)
 {params:Array Tmp} {x y:Code} (hps:params.toList=ps) (hx:compile P x=assign) (hy:compile P y=body) (rD:xG P f=true)
 {β:az} {w:World} {b:Frame} {tm:Array Value} {df:List Deferred} {k:List Item} {cs:List Frame} (hG:jg P β) (hW:WR P β h w) (hA:AR β none' a tm df) (hcx:CX P β a.pm a.ro b cs)
 {β1:az} {w1:World} {oC mark:List Deferred} {gr:fE} (hW1:WR P β1 h1 w1) (hE1:Eff β h w β1 h1 w1) (hdf:oC=mark++df) (hdr:qA β1 a1.defers oC) (hgr:β1 r=some gr)
 (hent:(Instr.enterLoop b.fn tm params x y b.roundOf).run P w=.ok (w1.heap.size,mark) (w1.alloc (.loop {state:=.ready,pending:=none,fn:=b.fn,tmps:=tm,params,assign:=x,body:=y,defers:=gr.b}))):
 Post P β h w a.pm a.ro b cs k K (lone (fr b tm df (.code (.rangeFunc f params x y)::k)) cs w):=by
 obtain⟨e1,e2,e3,e4⟩:=ha1;have hle1:=hE1.le hW.dom;let g:fE:=⟨w1.heap.size,0,0,0,0⟩
 let JI:Loop:={state:=.ready,pending:=none,fn:=b.fn,tmps:=tm,params,assign:=x,body:=y,defers:=gr.b}
 have hle2:β1.le (β1.add h1.next g):=az.uE g hW1.vX;have Zk:LR P (β1.add h1.next g) {state:=.ready,pending:=none,tmps:=a.tmps,n:=a.n,params:=ps,assign,body,defers:=r} JI:=
  {state:=rfl,pending:=rfl,BP:=by simp,size:=hA.size,tmps:=λi=>((hA.tmps i λhh=>hh).mono hle1).mono hle2,out:=hA.out,params:=hps,assign:=hx,body:=hy,defers:=⟨gr,hle2 _ _ hgr,rfl⟩,zF:=hcx.fn}
 obtain⟨hW2,hE2⟩:=hW1.alloc (.loop {state:=.ready,pending:=none,tmps:=a.tmps,n:=a.n,params:=ps,assign,body,defers:=r}) (.loop JI) g rfl rfl ⟨JI,by simp[g],Zk⟩
 -- the function
 have rG:=hA.eval (dZ:=df) hG rD (λ_ _ hh=>hh);rw[hf]at rG;obtain⟨fn',f',c',k1,k2,k3,k4⟩:=rG.vZ;have Px:(β1.add h1.next g) h1.next=some g:=az.jS _ _ _
 have hG2:jg P (β1.add h1.next g):=(hG.le hle1).le hle2;obtain⟨nx,F0,n1,n2,n3⟩:=hc.call rfl hG2 hW2 ((k1.mono hle1).mono hle2) (args':=f'++[.func (.yield w1.heap.size) #[] #[]]) (by
  rw[gV];refine((k2.mono hle1).mono hle2).append (.cons ?_ .nil);exact .func (.yield Px) .nil .nil) ((k3.mono hle1).mono hle2)
 have hargs:(⟨f'⟩:Array Value)++ #[.func (.yield w1.heap.size) #[] #[]]=⟨f'++[.func (.yield w1.heap.size) #[] #[]]⟩:=by apply Array.ext';simp
 have hstep:=Zi (P:=P) (b:=b) (tm:=tm) (df:=df) (k:=k) (cs:=cs) hent k4 (nx:=nx) (F0:=F0) (by rw[hargs];exact n1) n2;rw[<- hdf]at hstep;obtain⟨res,h3,β3,w3,r',q1,q2,q3,q4,q5⟩:=n3 (fr b tm oC (.inRangeFunc w1.heap.size::k)) cs;have hle3:=q3.le hW2.dom;have hA3:AR β3 none' a1 tm oC:=by
  refine⟨by rw[e2];exact hA.size,λi hi=>?_,λi hi=>?_,(hdr.mono hle2).mono hle3⟩
  ·rw[e1];exact(((hA.tmps i hi).mono hle1).mono hle2).mono hle3
  ·rw[e1];exact hA.out i (by rw[<- e2];exact hi)
 have hE:Eff β h w β3 h3 w3:=(hE1.trans hE2).trans q3;have hcs:lq β3 a.pm a1.pm cs cs:=by rw[e3];exact((hcx.start.mono hle1).mono hle2).mono hle3
 cases q4 with
 | @fI ch ch' hch=>
   refine⟨.panic ch,a1,h3,β3,w3,tm,oC,cs,iM ch none h3 q1,q2,hE,hA3,hcs,e4,.inRangeFunc w1.heap.size::k,ch',hch,.head hstep q5⟩
 | @ok v v' hv=>
   obtain⟨lp,l1,l2,l3⟩:=hok v none h3 q1;have hg3:=hle3 _ _ Px;obtain⟨sQ,o1,L⟩:=q2.obj _ g _ hg3 l1;have o1:w3.heap[w1.heap.size]? =some (.loop sQ):=o1;have hlt:w1.heap.size<w3.heap.size:=by
    rcases oZ w1.heap.size w3.heap.size with hh|hh
    ·exact hh
    ·rw[o8 hh]at o1;cases o1
   obtain⟨z1,z2,z3⟩:=JG (w:=w3) (o:=.loop {sQ with state:=.exhausted}) hlt;obtain⟨y1,y2⟩:=q2.write hg3 l1 (.loop {lp with state:=.exhausted}) z1 z2 rfl rfl rfl (aH _) ⟨_,z3,{L with state:=rfl}⟩;have hfin:recv (fr b tm oC (.inRangeFunc w1.heap.size::k)) (.returned v')=fr b tm oC (.endRangeFunc w1.heap.size::k):=rfl;rw[hfin]at q5;have s2:=Zj (P:=P) (b:=b) (tm:=tm) (df:=oC) (k:=k) (cs:=cs) o1 (by rw[L.state];exact l2);have hst:=(Steps.head hstep q5).trans (.one s2);have oD:=L.pending;cases hlp:lp.pending with
   |none=>
    have hgd:lp.pending.getD .normal=.normal:=by rw[hlp];rfl
    rw[hgd]at l3;rw[hlp]at oD;have oD:sQ.pending=none:=oD;have hto:(sQ.pending.map Item.code).toList++k=k:=by rw[oD];rfl
    rw[hto]at hst;exact⟨.normal,a1,_,β3,_,tm,oC,cs,l3,y1,hE.trans y2,hA3,hcs,e4,hst⟩
   |some o=>
    have hgd:lp.pending.getD .normal=o:=by rw[hlp];rfl
    rw[hgd]at l3;rw[hlp]at oD;cases o with
    |normal=>
     have oD:sQ.pending=none:=oD;have hto:(sQ.pending.map Item.code).toList++k=k:=by rw[oD];rfl
     rw[hto]at hst;exact⟨.normal,a1,_,β3,_,tm,oC,cs,l3,y1,hE.trans y2,hA3,hcs,e4,hst⟩
    |exit id=>
     have oD:sQ.pending=some (.exit id):=oD;have hto:(sQ.pending.map Item.code).toList++k=.code (.exit id)::k:=by rw[oD];rfl
     rw[hto]at hst;exact⟨.exit id,a1,_,β3,_,tm,oC,cs,l3,y1,hE.trans y2,hA3,hcs,e4,k,rfl,hst⟩
    |ret=>
     have oD:sQ.pending=some .ret:=oD;have hto:(sQ.pending.map Item.code).toList++k=.code .ret::k:=by rw[oD];rfl
     rw[hto]at hst;exact⟨.ret,a1,_,β3,_,tm,oC,cs,l3,y1,hE.trans y2,hA3,hcs,e4,k,hst⟩
    |panic ch=>exact absurd hlp (L.BP ch)
theorem Zl{a:aR}{h:IH}{K:KO}{f:Operand}{ps:List Tmp}{assign body:cB}(fn:Fn)(first captured:List Value)(hf:a.eval f=.func fn ⟨first⟩ ⟨captured⟩)(a1:aR)(h1:IH)(r:Nat)
 (hr:(a.ro=none/\a1={a with defers:={target:=.collected h.next,args:= #[]}::a.defers}/\h1=h.new (.fV true)/\r=h.next)\/(∃l0 r0,a.ro=some l0/\a1=a/\h1=h/\h.get l0=some (.loop r0)/\r=r0.defers))
 (M:KR) (hc:iG P ⟨fn,je first [.func (.yield h1.next) #[] #[]],captured,none⟩ (h1.new (.loop {state:=.ready,pending:=none,tmps:=a.tmps,n:=a.n,params:=ps,assign,body,defers:=r})) M)
 (hok:∀v pm h2,M (.ok v) pm h2->∃lp,h2.get h1.next=some (.loop lp)/\lp.state≠.busy/\K (lp.pending.getD .normal) a1 (h2.set h1.next (.loop {lp with state:=.exhausted})))
 (iM:∀ch pm h2,M (.fI ch) pm h2->K (.panic ch) a1 h2):jq P (.rangeFunc f ps assign body) a h K:=by
 intro code it hcode hst β w b tm df k cs hG hW hA hcx;cases code<;>simp only[compile,reduceCtorEq]at hcode
 case region id ops draw=>rcases uM hcode with⟨_,_,h1⟩|h1<;>cases h1
 case rangeFunc f' params x y=>
  split at hcode
  ·rename_i rD;simp only[cB.rangeFunc.injEq]at hcode;obtain⟨rfl,hps,hx,hy⟩:=hcode;obtain rfl:=hst.code (by simp);rcases hr with⟨hro,rfl,rfl,rfl⟩|⟨l0,r0,hro,rfl,rfl,hl0,rfl⟩
   ·have hbr:b.roundOf=none:=by
     rcases hcx.round with⟨_,h2⟩|⟨l,g,h2,_⟩
     ·exact h2
     ·rw[hro]at h2;cases h2
    let g:fE:=⟨w.heap.size,0,0,0,0⟩
    obtain⟨hW1,hE1⟩:=hW.alloc (.fV true) (.deferred (some [])) g rfl rfl (by show _=_;simp[g]);refine Pw fn first captured hf {a with defers:={target:=.collected h.next,args:= #[]}::a.defers} (h.new (.fV true)) h.next M ⟨rfl,rfl,rfl,rfl⟩ hc hok iM hps hx hy rD hG hW hA hcx (β1:=β.add h.next g) (oC:={target:=.collected w.heap.size,args:= #[]}::df) (mark:=[{target:=.collected w.heap.size,args:= #[]}]) (gr:=g) hW1 hE1 rfl ?_ (az.jS _ _ _) ?_
    ·exact .coll (g:=g) (az.jS _ _ _) (hA.defers.mono (az.uE g hW.vX))
    ·have hs:({w with heap:=w.heap.push (.deferred (some []))}:World).heap.size=w.heap.size+1:=by show(w.heap.push _).size=_;simp
     rw[hbr,run_enterLoop_outer,hs];rfl
   ·obtain⟨g0,hb1,hb2⟩:∃g0,β l0=some g0/\b.roundOf=some g0.b:=by
     rcases hcx.round with⟨h2,_⟩|⟨l,g,h2,h3,h4⟩
     ·rw[hro]at h2;cases h2
     ·rw[hro]at h2;simp only[aA]at h2;subst h2;exact⟨g,h3,h4⟩
    obtain⟨r0',o1,L⟩:=hW.obj l0 g0 _ hb1 hl0;obtain⟨gr,hgr,Zm⟩:=L.defers;refine Pw fn first captured hf _ _ _ M ⟨rfl,rfl,rfl,rfl⟩ hc hok iM hps hx hy rD hG hW hA hcx (β1:=β) (oC:=df) (mark:=[]) (gr:=gr) hW (Eff.refl _ _ _ hW.dom) rfl hA.defers hgr ?_
    rw[hb2];simp only[Instr.enterLoop,bP,run_getLoop o1,bR,dB,Zm,run_newObj_alloc]
  ·cases hcode
end Go.Ideal
namespace Go.Ideal
variable {P:Program}
def az.cut(β:az)(m:Nat):az:=λi=>if i<m then β i else none
theorem az.Py(β:az)(m:Nat):(β.cut m).le β:=λi g h=>by
 simp only[az.cut]at h;split at h
 ·exact h
 ·cases h
theorem az.zS{β:az}{m i:Nat}(h:i<m):β.cut m i=β i:=by simp only[az.cut];rw[if_pos h]
theorem zT{a b:Nat}(h:Nat.blt a b=true):a<b:=jY h
mutual
theorem VR.cut{β:az}{m:Nat}:∀{v v':Value},VR β v v'->kK m v=true->VR (β.cut m) v v'
 |_,_,.bU v,_=>.bU v
 |_,_,.skip,_=>.skip
 |_,_,.bool b,_=>.bool b
 |_,_,.int k n,_=>.int k n
 |_,_,.float k n,_=>.float k n
 |_,_,.complex k n o,_=>.complex k n o
 |_,_,.string s,_=>.string s
 |_,_,.nilFunc,_=>.nilFunc
 |_,_,.nilIface,_=>.nilIface
 |_,_,.vV,_=>.vV
 |_,_,.ptr hi,hb=>.ptr (by rw[az.zS (zT (by simpa[kK]using hb))];exact hi)
 |_,_,.sl0 n c,_=>.sl0 n c
 |_,_,.aI hi q1 q2 q3,hb=>.aI (by rw[az.zS (zT (by simpa[kK]using hb))];exact hi) q1 q2 q3
 |_,_,.lV hi q1 q2 q3 q4 q5 q6 q7 q8,hb=>.lV (by rw[az.zS (zT (by simpa[kK]using hb))];exact hi) q1 q2 q3 q4 q5 q6 q7 q8
 |_,_,.uD,_=>.uD
 |_,_,.map hi,hb=>.map (by rw[az.zS (zT (by simpa[kK]using hb))];exact hi)
 |_,_,.func hf h1 h2,hb=>by
  simp only[kK,eG]at hb;refine .func ?_ (aJ.cut h1 hb.1.2) (aJ.cut h2 hb.2);cases hf with
  |func f=>exact .func f
  |method n=>exact .method n
  |methodOf t n=>exact .methodOf t n
  |yield hl=>simp at hb
 |_,_,.iface t hv,hb=>.iface t (VR.cut hv (by simpa[kK]using hb))
 |_,_,.agg hc hl,hb=>.agg hc (aJ.cut hl (by simpa[kK]using hb))
 |_,_,.tuple hl,hb=>.tuple (aJ.cut hl (by simpa[kK]using hb))
theorem aJ.cut{β:az}{m:Nat}:∀{v v':List Value},aJ β v v'->pQ m v=true->aJ (β.cut m) v v'
 |_,_,.nil,_=>.nil
 |_,_,.cons hv hl,hb=>by
  simp only[pQ,eG]at hb;exact .cons (VR.cut hv hb.1) (aJ.cut hl hb.2)
end
theorem Pz{m:Nat}:∀{l:List Value},pQ m l=true->∀(j:Nat) v,l[j]? =some v->kK m v=true
 |[],_,j,v,h=>by simp at h
 |x::l,hb,0,v,h=>by simp only[pQ,eG]at hb;simp at h;rw[<- h];exact hb.1
 |x::l,hb,j+1,v,h=>by simp only[pQ,eG]at hb;exact Pz hb.2 j v (by simpa using h)
theorem dU.cut{β:az}{m:Nat}{l l':List MapEntry}(he:dU β l l')(hb:∀e∈l,kK m e.val=true):dU (β.cut m) l l':=by
 induction he with
 |nil=>exact .nil
 |cons hk hf hbn hv _ ih=>exact .cons hk hf hbn (hv.cut (hb _ (bz ..))) (ih λe he=>hb e (dh _ he))
theorem OR.cut{β:az}{m:Nat}{g:fE}{w:World}{o:bB}(k:OR P β g w o)(hb:zA m o=true):OR P (β.cut m) g w o:=by
 cases o with
 |cells cs=>
  obtain⟨h1,h2,h3,h5,h6,h7⟩:=k;exact⟨h1,h2,h3,h5,h6,λj v hj=>let⟨v',a,b⟩:=h7 j v hj;⟨v',a,b.cut (Pz hb j v hj)⟩⟩
 |map es clock=>obtain⟨es',h1,h2⟩:=k;exact⟨es',h1,h2.cut (by simpa[zA]using hb)⟩
 |_=>cases hb
theorem Zn{q:bQ}{h:IH}{K:KR}(h0:IH)(v:Value)(hv:bY v=true)(hq:q.pm=none)(hfn:kK h0.next (.func q.fn ⟨q.args⟩ ⟨q.captured⟩)=true)
 (hgl:P.globals.size<=h0.next)
 (hsub:∀i o,h0.get i=some o->i<h0.next/\h.get i=some o/\zA h0.next o=true)
 (M:KR) (hc:iG P q h0 M) (h1:∀r pm h',M r pm h'->pm=none/\r=.ok v/\h'.low=h0.next)
 (hk:K (.ok v) none h):iG P q h K:=by
 intro β w fn' args' cap' hG hW hfr ha hcap;have hb0:∀i g,β.cut h0.next i=some g->i<h0.next/\β i=some g:=λi g hg=>by
  simp only[az.cut]at hg;split at hg
  ·rename_i hi;exact⟨hi,hg⟩
  ·cases hg
 have hb1:∀i,i<h0.next->β.cut h0.next i=β i:=λi hi=>az.zS hi
 have hG0:jg P (β.cut h0.next):=λg hg=>by
  obtain⟨i,h1,h2⟩:=hG g hg;exact⟨i,by rw[hb1 g (jP hg hgl)];exact h1,h2⟩
 have hlive:∀i,h0.get i≠none->h.get i≠none:=λi hi=>by
  cases e:h0.get i with
  |none=>exact absurd e hi
  |some o=>rw[(hsub i o e).2.1];simp
 have hW0:WR P (β.cut h0.next) h0 w:=by
  refine⟨λi g hg=>(hb0 i g hg).1,λi o ho=>(hsub i o ho).1,?_,?_⟩
  ·intro i g o hg ho;obtain⟨_,hget,hcl⟩:=hsub i o ho;exact(hW.obj i g _ (hb0 i g hg).2 hget).cut hcl
  ·intro i j g k hg hk hi hj hr he;have pass:∀x,h0.get x≠none->(∀cs,h0.get x≠some (.fP cs))->∀cs,h.get x≠some (.fP cs):=λx hx q cs e=>by
    cases e0:h0.get x with
    |none=>exact hx e0
    |some o=>rw[(hsub x o e0).2.1]at e;exact q cs (by rw[e0];exact e)
   exact hW.inj i j g k (hb0 i g hg).2 (hb0 j k hk).2 (hlive i hi) (hlive j hj) (hr.imp (pass _ hi) (pass _ hj)) he
 have rG:=(VR.func hfr ha hcap).cut hfn;cases rG with
 |func JJ ha0 hcap0=>
 obtain⟨nx,F0,n1,n2,n3⟩:=hc (β.cut h0.next) w fn' args' cap' hG0 hW0 JJ ha0 hcap0;refine⟨nx,F0,n1,n2,λcs0 oz=>?_⟩;obtain⟨r,pm',h',β',w',r',cs1,q1,q2,q3,q4,q5,q6⟩:=n3 cs0 (by intro m hm;rw[hq]at hm;cases hm);obtain⟨hpm,rfl,hlow'⟩:=h1 r pm' h' q1;subst hpm;cases q4 with
 | @ok v v' kL=>
   have hvv:=kL.lg hv;subst hvv;have Cy:WR P β h w':=by
    refine⟨hW.dom,hW.live,?_,hW.inj⟩;intro i g o hg ho;have hor:=hW.obj i g o hg ho;by_cases hb:∀j k,β.cut h0.next j=some k->h0.get j≠none->k.b≠g.b
    ·exact hor.congr (q3.keep g.b hor.lt hb)
    ·have hb:∃j k,β.cut h0.next j=some k/\h0.get j≠none/\k.b=g.b:=by
      apply Classical.byContradiction;intro hc;exact hb λj k hk hj hkb=>hc ⟨j,k,hk,hj,hkb⟩
     obtain⟨j,k,hk,hj,hkb⟩:=hb;cases e:h0.get j with
     |none=>exact absurd e hj
     |some o0=>
      obtain⟨hjn,hget,hcl⟩:=hsub j o0 e;have hij:i=j:=hW.inj i j g k hg (hb0 j k hk).2 (by rw[ho];simp) (by rw[hget];simp) (.inr (by rw[hget];intro cs e;cases e;cases hcl)) hkb.symm;subst hij;rw[hget]at ho;cases ho;have JK:g=k:=by have:=(hb0 i k hk).2;rw[hg]at this;cases this;rfl
      subst JK;have hk':h'.get i=some o:=by rw[q3.kept i (by rw[hlow'];exact hjn) hjn];exact e
      have JL:=q2.obj i g _ (by rw[q3.agree i hjn];exact hk) hk';exact((hor.cut hcl).restrict (q3.le hW0.dom) JL).mono (az.Py _ _)
   have hE:Eff β h w β h w':=
    {agree:=λ_ _=>rfl
     next:=aH _
     alive:=λ_ _ hn=>hn
     hid:=λ_ _ _=>rfl
     low:=aH _
     kept:=λ_ _ _=>rfl
     os:=q3.os,tape:=q3.tape,output:=q3.output,drawn:=q3.drawn,size:=q3.size
     keep:=λb hb hno=>q3.keep b hb λi g hg hn=>hno i g (hb0 i g hg).2 (hlive i hn)
     fresh:=λi g hg hi=>absurd (hW.dom i g hg) (by omega)
     lW:=λi g _ hi hg hn hgb=>by
      by_cases hb:∀j k,β.cut h0.next j=some k->h0.get j≠none->k.b≠g.b
      ·exact q3.keep g.b hgb hb
      ·have hb:∃j k,β.cut h0.next j=some k/\h0.get j≠none/\k.b=g.b:=by
        apply Classical.byContradiction;intro hc;exact hb λj k hk hj hkb=>hc ⟨j,k,hk,hj,hkb⟩
       obtain⟨j,k,hk,hj,hkb⟩:=hb;have hjn:=(hb0 j k hk).1;rw[<- hkb];exact q3.lW j k (by rw[hlow'];exact hjn) hjn hk hj (by rw[hkb];exact hgb)}
   exact⟨_,none,h,β,w',.returned v',cs1,hk,Cy,hE,.ok (VR.free hv),by rw[hq]at q5⊢;cases q5;exact .none _,by
    rcases q6 with h6|h6
    ·exact .inl h6
    ·exact .inr h6⟩
theorem Zo{q:bQ}{h:IH}{K:KR}(M:KR)(hc:iG P q h M)
 (hk:∀r pm h',M r pm h'->∃h'',h''.next=h'.next/\h''.low=h'.low/\(∀i,h''.get i=h'.get i\/(h.next<=i/\h''.get i=none))/\K r pm h''):iG P q h K:=by
 intro β w fn' args' cap' hG hW hfr ha hcap;obtain⟨nx,F0,n1,n2,n3⟩:=hc β w fn' args' cap' hG hW hfr ha hcap;refine⟨nx,F0,n1,n2,λcs0 oz=>?_⟩;obtain⟨r,pm',h',β',w',r',cs1,q1,q2,q3,q4,q5,q6⟩:=n3 cs0 oz;obtain⟨h'',e1,e2,e3,e4⟩:=hk r pm' h' q1;have hlive:∀i,h''.get i≠none->h'.get i≠none:=λi hi=>by
  rcases e3 i with e|e
  ·rw[e]at hi;exact hi
  ·exact absurd e.2 hi
 have hget:∀i o,h''.get i=some o->h'.get i=some o:=λi o ho=>by
  rcases e3 i with e|e
  ·rw[e]at ho;exact ho
  ·rw[e.2]at ho;cases ho
 have pass:∀x,h''.get x≠none->(∀cs,h''.get x≠some (.fP cs))->∀cs,h'.get x≠some (.fP cs):=λx hx q cs e=>by
  rcases e3 x with e'|e'
  ·exact q cs (by rw[e'];exact e)
  ·exact hx e'.2
 have hold:∀i,i<h.next->h''.get i=h'.get i:=λi hi=>by
  rcases e3 i with e|e
  ·exact e
  ·omega
 have Cy:WR P β' h'' w':=
  ⟨λi g hg=>by rw[e1];exact q2.dom i g hg,λi o ho=>by rw[e1];exact q2.live i o (hget i o ho),λi g o hg ho=>q2.obj i g o hg (hget i o ho),
   λi j g k hg hk hi hj hr he=>q2.inj i j g k hg hk (hlive i hi) (hlive j hj) (hr.imp (pass _ hi) (pass _ hj)) he⟩
 have hE:Eff β h w β' h'' w':=
  {agree:=q3.agree
   next:=by rw[e1];exact q3.next
   alive:=λi hi hn=>q3.alive i hi (hlive i hn)
   hid:=λi hi hb=>by rw[hold i hi];exact q3.hid i hi hb
   low:=by rw[e2];exact q3.low
   kept:=λi hl hi=>by rw[hold i hi];exact q3.kept i (by rw[<- e2];exact hl) hi
   os:=q3.os,tape:=q3.tape,output:=q3.output,drawn:=q3.drawn,size:=q3.size,keep:=q3.keep,fresh:=q3.fresh
   lW:=λj k hl hj hk hn hb=>q3.lW j k (by rw[<- e2];exact hl) hj hk hn hb}
 exact⟨r,pm',h'',β',w',r',cs1,e4,Cy,hE,q4,q5,q6⟩
theorem Fh(l5:P.follows .mixedOrders=true){q:bQ}{h:IH}{K:KR}(e:CALL P q h K):iG P q h K:=by
 refine CALL.rec (P:=P) (motive_1:=λc a h K _=>jq P c a h K) (motive_2:=λds l a h K _=>lu P ds l a h K) (motive_3:=λcf ts ds m h K _=>uJ P cf ts ds m h K) (motive_4:=λq h K _=>iG P q h K)
  ?_ ?_ ?_ ?_ ?_ ?_ ?_ ?_ ?_ ?_ ?_ ?_ ?_ ?_ ?_ ?_ ?_ ?_ ?_ ?_ ?_ ?_ ?_ ?_ ?_ ?_ ?_ ?_ ?_ ?_ ?_ ?_ e
 ·intros;apply YG;assumption
 ·intros;apply YF l5;assumption
 ·intro x y a h K M _ _ h3 i1 i2;exact YH M i1 i2 h3
 ·intro c x y a h K hc _ i1;exact Pg (t:=true) hc i1
 ·intro c x y a h K hc _ i1;exact Pg (t:=false) hc i1
 ·intro id c a h K M _ h2 i1;exact YJ M i1 h2
 ·intro c a h K M _ _ h3 i1 i2;exact YK M i1 i2 h3
 ·intro c a h K _ i1;exact YL i1
 ·intro id a h K hk;exact YM hk
 ·intro a h K hk;exact YN hk
 ·intro f ps assign body a h K fn first captured hf a1 h1 r hr M _ hok iM i1;exact Zl fn first captured hf a1 h1 r hr M i1 hok iM
 ·intro c a h K a0 hw hn _ i1;exact YO a0 hw hn i1
 ·intro ds a h K hk;exact X5 hk
 ·intro ds s l a h K hw _ i1;exact X6 hw i1
 ·intro ds s l a h K hw v h' hr hs _ i1;exact X7 hw v h' hr hs i1
 ·intro ds s l a h K hw q hq M _ hs _ iM i1 i2;exact Yh hw q hq M i1 hs i2 iM
 ·intro ds s l a h K hw ho hre hm hro _ i1;exact Yn hw ho hre hm hro i1
 ·intro ds s l a h K hw ho hre m hm hro _ i1;exact Yp hw ho hre m hm hro i1
 ·intro ds s l a h K hw x ho t v hx hk;exact Yj hw x ho t v hx hk
 ·intro ds s l a h K hw f args ho hre hro fn first captured hf _ i1;exact Yl hw f args ho hre hro fn first captured hf i1
 ·intro ds s l a h K hw x ho hre alts ha _ i1;exact Yx hw x ho hre alts ha i1
 ·intro cf ts h K v hv hk;exact YV v hv hk
 ·intro cf ts h K ch hk;exact YW ch hk
 ·intro cf ts args ds m h K hm r hr _ i1;exact YX hm r hr i1
 ·intro cf ts fn captured args ds m h K hm M _ hpm _ _ i1 i2 i3;exact Y0 hm M i1 hpm i2 i3
 ·intro q h K f args ht fn hf cf hcf M _ h2 _ i1 i3;exact Y4 f args ht fn hf cf hcf M i1 h2 i3
 ·intro q h K l hq hpm r hr hargs M _ h2 _ i1 i3;exact Zf l hq hpm r hr hargs M i1 h2 i3
 ·intro q h K cs n f hcs hne hf M _ hq h1 hk i1;exact Y7 cs n f hcs hne hf M i1 hq h1 hk
 ·intro q h K M _ hk i1;exact Cw M i1 hk
 ·intro q h K M _ hk i1;exact Zo M i1 hk
 ·intro q h K h0 v hv hq hfn hnext hgl hsub M _ h1 hk i1;exact Zn h0 v hv hq hfn hgl hsub M i1 h1 hk
 ·intro q h K hm;exact hm

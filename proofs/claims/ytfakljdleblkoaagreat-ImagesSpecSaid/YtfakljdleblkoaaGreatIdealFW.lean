/-
  Part IdealFW.
-/
import Derived.Test.YtfakljdleblkoaaGreatIdealEW
set_option linter.all false
namespace Go.Ideal
variable {P:Program}
theorem ZN(n p:Nat)(ps:List Tmp)(v:Value)(args:List Value)(t:T Value):tZ n (p::ps) (v::args) t=tZ n ps args (cond (Nat.blt p n) (t.set p (some v)) t):=rfl
theorem ZO{β:aC}{n:Nat}:∀(ps:List Tmp) (args jN:List Value) (t:T Value) (tm:Array Value),args.length=ps.length->aZ β args jN->tm.size=n->(∀i,VR β (dF t i) (tm.getD i undef))->(∀i,n<=i->dF t i=dO)->
 (((ps.zip jN).foldl (λtmps (x:Tmp×Value)=>tmps.setIfInBounds x.1 x.2) tm).size=n/\(∀i,VR β (dF (tZ n ps args t) i) (((ps.zip jN).foldl (λtmps (x:Tmp×Value)=>tmps.setIfInBounds x.1 x.2) tm).getD i undef))/\∀i,n<=i->dF (tZ n ps args t) i=dO):=by
 intro ps;induction ps with
 |nil=>
  intro args jN t tm hl ha hs hv ho;cases args with
  |nil=>cases ha;exact⟨hs,hv,ho⟩
  |cons v args=>simp at hl
 |cons p ps ih=>
  intro args jN t tm hl ha hs hv ho;cases args with
  |nil=>simp at hl
  |cons v args=>
   cases ha with
   | @cons _ v' _ jN h1 h2=>
     rw[ZN];simp only[List.zip_cons_cons,tN];refine ih args jN _ (tm.setIfInBounds p v') (by simpa using hl) h2 (by simpa using hs) (λi=>?_) (λi hi=>?_)
     ·cases hb:Nat.blt p n with
      |true=>
       have hlt: @LT.lt Nat _ p n:=yb
       simp only[cond_true];rw[Bj,Gg tm p v' i vj];by_cases e:i=p
       ·rw[if_pos e,if_pos e];exact h1
       ·rw[if_neg e,if_neg e];exact hv i
      |false=>
       have hge:n<=p:=by
        rcases qJ p n with hh|hh
        ·have:Nat.blt p n=true:=by simpa[rV]using hh
         rw[this]at hb;cases hb
        ·exact hh
       simp only[cond_false];by_cases e:i=p
       ·rw[ho i vj];exact .dO _
       ·rw[rX,Fx (Ne.symm e),<- rX];exact hv i
     ·cases hb:Nat.blt p n with
      |true=>
       have hlt: @LT.lt Nat _ p n:=yb
       simp only[cond_true];rw[Bj,if_neg vj];exact ho i hi
      |false=>exact ho i hi
section
variable {b:Frame} {tm:Array Value} {df:List Deferred} {k:List Item} {cs:List Frame} {w:World}
variable{l:Nat}{r:Loop}
theorem ZP(hb:b.roundOf=some l)(h:w.heap[l]? =some (.loop r))(hr:r.state=.ready):
 step P (lone (fr b tm df (.beginRound::k)) cs w)=.next (lone (fr b tm df k) cs (w.putObj l (.loop {r with state:=.busy}))):=by
 have h1:=run_beginRound (P:=P) h hr;refine step_lone_go ?_;simp[stepG,stepG.exec,fr,hb,stepG.apply,h1,Frame.finish]
theorem ZQ{todo:List Item}(hb:b.roundOf=some l)(hk:b.kind=.normal)(h:w.heap[l]? =some (.loop r))(jump:Option Code)
 (ht:(todo=[]/\jump=none)\/(∃t,todo=.code .ret::t/\jump=some .ret)\/∃id t,todo=.code (.exit id)::t/\exitTo id t=none/\jump=some (.exit id)) (c:Frame):
 step P (lone (fr b tm df todo) (c::cs) w)=.next (lone (c.finish (.bool jump.isNone)) cs (w.putObj l (.loop {r with state:=if jump.isNone then .ready else .done,pending:=jump}))):=by
 have h1:=run_endRound (P:=P) jump h;refine step_lone_go ?_;rcases ht with⟨rfl,rfl⟩|⟨t,rfl,rfl⟩|⟨id,t,rfl,he,rfl⟩
 ·simp[stepG,stepG.exec,fr,hb,h1,doReturn,hk]
 ·simp[stepG,stepG.exec,fr,hb,h1,doReturn,hk]
 ·simp[stepG,stepG.exec,fr,hb,h1,doReturn,hk,he]
end
end Go.Ideal
namespace Go.Ideal
variable {P:Program}
theorem Lf{w:World}{l:Nat}{o:Obj}(hl:l<w.heap.size):(w.putObj l o).heap.size=w.heap.size/\(∀b,b≠l->(w.putObj l o).heap[b]? =w.heap[b]?)/\(w.putObj l o).heap[l]? =some o:=Dx hl
theorem ZR{q:gD}{h:IH}{K:KR}(l:Nat)(hq:q.fn=.yield l)(hpm:q.pm=none)(r:oG)(hr:h.get l=some (.loop r))(hargs:q.args.length=r.params.length)
 (M:KO) (h1:kX P r.assign {n:=r.n,tmps:=tZ r.n r.params q.args r.tmps,defers:=[],pm:=none,ro:=some l} h M)
 (h2:∀o a' h',M o a' h'->o=.normal/\∃r1,h'.get l=some (.loop r1)/\r1.state=.ready)
 (h3:∀a' h' r1,M .normal a' h'->h'.get l=some (.loop r1)->kX P r.body a' (h'.set l (.loop {r1 with state:=.busy})) λo a'' h''=>∃r2,h''.get l=some (.loop r2)/\a''.defers=[]/\
   match o with
   | .panic ch=>K (.fJ ch) none h''
   | .normal=>K (.ok (.bool true)) none (h''.set l (.loop {r2 with state:=.ready,pending:=none}))
   |o=>K (.ok (.bool false)) none (h''.set l (.loop {r2 with state:=.done,pending:=some o}))):mG P q h K:=by
 intro β w fn' args' cap' hG hW hfr ha hcap;rw[hq]at hfr;cases hfr with
 | @yield _ g hg=>
 obtain⟨r',o1,L⟩:=hW.obj l g _ hg hr;have hsz:(⟨args'⟩:Array Value).size=r'.params.size:=by
  have e1:args'.length=q.args.length:=ha.length;have e2:r'.params.size=r.params.length:=by rw[<- L.params];simp
  show args'.length=_;omega
 refine⟨_,_,by
  show(Instr.yield g.b ⟨args'⟩).run P w=_;exact run_yield o1 hsz,rfl,λcs0 _=>?_⟩
 rw[hpm];have Ga:(r'.params.zip (⟨args'⟩:Array Value)).foldl (λtmps (x:Tmp×Value)=>tmps.setIfInBounds x.1 x.2) r'.tmps=(r.params.zip args').foldl (λtmps (x:Tmp×Value)=>tmps.setIfInBounds x.1 x.2) r'.tmps:=by
  rw[<- OM,Array.toList_zip,L.params]
 obtain⟨t1,t2,t3⟩:=ZO (β:=β) (n:=r.n) r.params q.args args' r.tmps r'.tmps hargs ha L.size L.tmps L.out;rw[<- Ga]at t1 t2;let b:Frame:={(default:Frame)with fn:=r'.fn,kind:=.normal,roundOf:=some g.b}
 have hcx:CX P β none (some l) b cs0:=⟨L.Bl,.inr ⟨l,g,rfl,hg,rfl⟩,rfl,λm hm=>by cases hm⟩
 have hA:AR β none' {n:=r.n,tmps:=tZ r.n r.params q.args r.tmps,defers:=[],pm:=none,ro:=some l} ((r'.params.zip (⟨args'⟩:Array Value)).foldl (λtmps (x:Tmp×Value)=>tmps.setIfInBounds x.1 x.2) r'.tmps) []:=
  ⟨t1,λi _=>t2 i,t3,.nil⟩
 obtain⟨o,a',h',β',w',tm',fV,cs',q1,q2,q3,q4,q5,q6,q7⟩:=h1 r'.assign _ L.assign (.inl rfl) β w b _ [] [.beginRound,.code r'.body] cs0 hG hW hA hcx;obtain⟨rfl,r1,hr1,hst⟩:=h2 o a' h' q1;have hle:=q3.le hW.dom;have hg':=hle _ _ hg;obtain⟨r1',o2,L1⟩:=q2.obj l g _ hg' hr1;have hlt1:g.b<w'.heap.size:=by
  rcases qJ g.b w'.heap.size with hh|hh
  ·exact hh
  ·rw[tL hh]at o2;cases o2
 obtain⟨z1,z2,z3⟩:=Lf (w:=w') (o:=.loop {r1' with state:=.busy}) hlt1;obtain⟨y1,y2⟩:=q2.write hg' hr1 (.loop {r1 with state:=.busy}) z1 z2 rfl rfl rfl (bV _) ⟨_,z3,{L1 with state:=rfl}⟩;have Lg:a'.pm=none:=by
  have h5:=q5;generalize a'.pm=x at h5;cases h5;rfl
 have s1:Steps P (lone (Frame.round g.b r'.fn ((r'.params.zip (⟨args'⟩:Array Value)).foldl (λtmps (x:Tmp×Value)=>tmps.setIfInBounds x.1 x.2) r'.tmps) r'.assign r'.body .normal) cs0 w) (lone (fr b tm' fV [.code r'.body]) cs' (w'.putObj g.b (.loop {r1' with state:=.busy}))):=by
  refine Steps.trans q7 (.one (ZP rfl o2 (by rw[L1.state];exact hst)))
 have hcs':cs'=cs0:=by
  have h5:=q5;rw[Lg]at h5;cases h5;rfl
 subst hcs';have ZT:CX P β' a'.pm a'.ro b cs':=by
  rw[Lg,q6];exact⟨L.Bl,.inr ⟨l,g,rfl,hg',rfl⟩,rfl,λm hm=>by cases hm⟩
 obtain⟨QA,a2,h4,β2,w2,QB,df2,cs2,p1,p2,p3,p4,p5,p6,p7⟩:=h3 a' h' r1 q1 hr1 r'.body _ L.body (.inl rfl) β' _ b tm' fV [] cs' (hG.le hle) y1 q4 ZT;obtain⟨r2,hr2,hdf,hK⟩:=p1;have hle2:=p3.le y1.dom;have hg2:=hle2 _ _ hg';have hcs2:cs2=cs'/\a2.pm=none:=by
  have h5:=p5;rw[Lg]at h5;generalize a2.pm=x at h5;cases h5;exact⟨rfl,rfl⟩
 obtain⟨rfl,ai3⟩:=hcs2;obtain⟨r2',o3,L2⟩:=p2.obj l g _ hg2 hr2;have hlt2:g.b<w2.heap.size:=by
  rcases qJ g.b w2.heap.size with hh|hh
  ·exact hh
  ·rw[tL hh]at o3;cases o3
 have ZU:df2=[]:=by
  have h5:=p4.defers;rw[hdf]at h5;cases h5;rfl
 have hE:Eff β h w β2 h4 w2:=(q3.trans y2).trans p3;by_cases jH:∃ch,QA=.panic ch
 ·obtain⟨ch,rfl⟩:=jH;obtain⟨todo,ch',e1,e2⟩:=p7;refine⟨.fJ ch,none,h4,β2,w2,.panicked ch',cs2,hK,p2,hE,.fJ e1,.none _,.inr ⟨⟨rfl,l,hq⟩,λc rest hc=>?_⟩⟩;subst hc;refine(s1.trans e2).trans (.one ?_);obtain⟨fn,hfn⟩:=L.Bl;subst ZU;exact step_leave_panicked ⟨rfl,rfl,fn,hfn⟩
 ·have key:∃(jump:Option Code) (out:Option Out) (todo:List Item),jump=out.bind Po/\(∀ch,out≠some (.panic ch))/\jump.isNone=out.isNone/\
   ((todo=[]/\jump=none)\/(∃t,todo=.code .ret::t/\jump=some .ret)\/∃id t,todo=.code (.exit id)::t/\exitTo id t=none/\jump=some (.exit id))/\
   Steps P (lone (fr b tm' fV [.code r'.body]) cs2 (w'.putObj g.b (.loop {r1' with state:=.busy}))) (lone (fr b QB df2 todo) cs2 w2)/\
   K (.ok (.bool out.isNone)) none (h4.set l (.loop {r2 with state:=if out.isNone then .ready else .done,pending:=out})):=by
   cases QA with
   |panic ch=>exact absurd ⟨ch,rfl⟩ jH
   |normal=>exact⟨none,none,[],rfl,vm,rfl,.inl ⟨rfl,rfl⟩,p7,hK⟩
   |exit id=>
    obtain⟨todo,e1,e2⟩:=p7;exact⟨some (.exit id),some (.exit id),_,rfl,vm,rfl,.inr (.inr ⟨id,todo,rfl,e1,rfl⟩),e2,hK⟩
   |ret=>
    obtain⟨todo,e2⟩:=p7;exact⟨some .ret,some .ret,_,rfl,vm,rfl,.inr (.inl ⟨todo,rfl,rfl⟩),e2,hK⟩
  obtain⟨jump,out,todo,k1,k2,k3,k4,k5,k6⟩:=key;obtain⟨x1,x2,x3⟩:=Lf (w:=w2) (o:=.loop {r2' with state:=if jump.isNone then .ready else .done,pending:=jump}) hlt2;obtain⟨u1,u2⟩:=p2.write hg2 hr2 (.loop {r2 with state:=if out.isNone then .ready else .done,pending:=out}) x1 x2 rfl rfl rfl (bV _) ⟨_,x3,{L2 with state:=by rw[k3],pending:=k1,Dj:=k2}⟩;refine⟨_,none,_,β2,_,.returned (.bool out.isNone),cs2,k6,u1,hE.trans u2,.ok (.bool _),.none _,.inr ⟨⟨rfl,l,hq⟩,λc rest hc=>?_⟩⟩;subst hc;refine(s1.trans k5).trans (.one ?_);have:=ZQ (P:=P) (tm:=QB) (df:=df2) (cs:=rest) (b:=b) rfl rfl o3 jump k4 c;rw[k3]at this;rw[k3];exact this
end Go.Ideal
namespace Go.Ideal
variable {P:Program}
section
variable {b:Frame} {tm:Array Value} {df:List Deferred} {k:List Item} {cs:List Frame} {w:World}
variable{l:Nat}
theorem ZV{f:Operand}{ps:Array Tmp}{x y:Code}{mark:List Deferred}{w1:World}(he:(Instr.enterLoop b.fn tm ps x y b.roundOf).run P w=.ok (l,mark) w1){fn:Fn}{first captured:Array Value}
 (hf:Act.eval ⟨tm,df⟩ f=.func fn first captured) {nx:Next} {F0:Frame} (hi:(invoke (.fn fn captured) (first++ #[.func (.yield l) #[] #[]])).run P w1=.ok nx w1) (hn:entry P .normal nx=some F0):
 step P (lone (fr b tm df (.code (.rangeFunc f ps x y)::k)) cs w)=.next (lone F0 (fr b tm (mark++df) (.inRangeFunc l::k)::cs) w1):=by
 refine step_lone_go ?_;have hev:({fr b tm df (.code (.rangeFunc f ps x y)::k)with todo:=.inRangeFunc l::k,defers:=mark++df}:Frame).eval f=.func fn first captured:=by
  rw[<- hf];cases f<;>rfl
 have hcall:(do let d <- resolve ({fr b tm df (.code (.rangeFunc f ps x y)::k)with todo:=.inRangeFunc l::k,defers:=mark++df}:Frame).eval {callee:=.value f,args:= #[.const (.func (.yield l) #[] #[])],argTypes:= #[]} 0;invoke d.target d.args:Sem Next).run P w1=.ok nx w1:=by
  have hc:({fr b tm df (.code (.rangeFunc f ps x y)::k)with todo:=.inRangeFunc l::k,defers:=mark++df}:Frame).eval (.const (.func (.yield l) #[] #[]))=.func (.yield l) #[] #[]:=rfl;simp only[resolve,hev,Deferred.ofValue,dz,eX,dD];have:(#[Operand.const (.func (.yield l) #[] #[])].map ({fr b tm df (.code (.rangeFunc f ps x y)::k)with todo:=.inRangeFunc l::k,defers:=mark++df}:Frame).eval)= #[.func (.yield l) #[] #[]]:=by simp[hc]
  rw[this];exact hi
 have hfr:({fr b tm df (.code (.rangeFunc f ps x y)::k)with todo:=.inRangeFunc l::k,defers:=mark++df}:Frame)=fr b tm (mark++df) (.inRangeFunc l::k):=rfl;rw[hfr]at hcall;have he':(Instr.enterLoop (fr b tm df (.code (.rangeFunc f ps x y)::k)).fn (fr b tm df (.code (.rangeFunc f ps x y)::k)).tmps ps x y (fr b tm df (.code (.rangeFunc f ps x y)::k)).roundOf).run P w=.ok (l,mark) w1:=he;cases nx<;>simp only[entry,aA,reduceCtorEq]at hn
 ·exact sR
 ·exact sR
theorem ZW{r:Loop}(h:w.heap[l]? =some (.loop r))(hb:r.state≠.busy):
 step P (lone (fr b tm df (.endRangeFunc l::k)) cs w)=.next (lone (fr b tm df ((r.pending.map Item.code).toList++k)) cs (w.putObj l (.loop {r with state:=.exhausted}))):=by
 have h1:=run_endLoop (P:=P) h hb;refine step_lone_go ?_;simp[stepG,stepG.exec,fr,h1]
end
end Go.Ideal
namespace Go.Ideal
variable {P:Program}
variable{a:aV}{f:Operand}
theorem QC{h:IH}{K:KO}{ps:List Tmp}{assign body:dB}(fn:Fn)(first captured:List Value)(hf:a.eval f=.func fn ⟨first⟩ ⟨captured⟩)(a1:aV)(h1:IH)(r:Nat)(M:KR)
 (ha1:a1.tmps=a.tmps/\a1.n=a.n/\a1.pm=a.pm/\a1.ro=a.ro)
 (hc:mG P ⟨fn,jY first [.func (.yield h1.next) #[] #[]],captured,none⟩ (h1.new (.loop {state:=.ready,pending:=none,tmps:=a.tmps,n:=a.n,params:=ps,assign,body,defers:=r})) M)
 (hok:∀v pm h2,M (.ok v) pm h2->∃lp,h2.get h1.next=some (.loop lp)/\lp.state≠.busy/\K (lp.pending.getD .normal) a1 (h2.set h1.next (.loop {lp with state:=.exhausted})))
 (jH:∀ch pm h2,M (.fJ ch) pm h2->K (.panic ch) a1 h2)
 {params:Array Tmp} {x y:Code} (hps:params.toList=ps) (hx:compile P x=assign) (hy:compile P y=body) (uo:zw P f=true)
 {β:aC} {w:World} {b:Frame} {tm:Array Value} {df:List Deferred} {k:List Item} {cs:List Frame} (hG:kz P β) (hW:WR P β h w) (hA:AR β none' a tm df) (hcx:CX P β a.pm a.ro b cs)
 {β1:aC} {w1:World} {qm mark:List Deferred} {gr:iD} (hW1:WR P β1 h1 w1) (hE1:Eff β h w β1 h1 w1) (hdf:qm=mark++df) (hdr:sH β1 a1.defers qm) (hgr:β1 r=some gr)
 (hent:(Instr.enterLoop b.fn tm params x y b.roundOf).run P w=.ok (w1.heap.size,mark) (w1.alloc (.loop {state:=.ready,pending:=none,fn:=b.fn,tmps:=tm,params,assign:=x,body:=y,defers:=gr.b}))):
 Post P β h w a.pm a.ro b cs k K (lone (fr b tm df (.code (.rangeFunc f params x y)::k)) cs w):=by
 obtain⟨e1,e2,e3,e4⟩:=ha1;have hle1:=hE1.le hW.dom;let g:iD:=⟨w1.heap.size,0,0,0,0⟩
 let Lh:Loop:={state:=.ready,pending:=none,fn:=b.fn,tmps:=tm,params,assign:=x,body:=y,defers:=gr.b}
 have hle2:β1.le (β1.add h1.next g):=aC.wL g hW1.x9;have ZX:LR P (β1.add h1.next g) {state:=.ready,pending:=none,tmps:=a.tmps,n:=a.n,params:=ps,assign,body,defers:=r} Lh:=
  {state:=rfl,pending:=rfl,Dj:=vm,size:=hA.size,tmps:=λi=>((hA.tmps i λhh=>hh).mono hle1).mono hle2,out:=hA.out,params:=hps,assign:=hx,body:=hy,defers:=⟨gr,hle2 _ _ hgr,rfl⟩,Bl:=hcx.fn}
 obtain⟨hW2,hE2⟩:=hW1.alloc (.loop {state:=.ready,pending:=none,tmps:=a.tmps,n:=a.n,params:=ps,assign,body,defers:=r}) (.loop Lh) g rfl rfl ⟨Lh,by simp[g],ZX⟩
 -- the function
 have wQ:=hA.eval (fV:=df) hG uo (λ_ _ hh=>hh);rw[hf]at wQ;obtain⟨fn',f',c',k1,k2,k3,k4⟩:=wQ.zI;have QD:(β1.add h1.next g) h1.next=some g:=aC.lV _ _ _
 have hG2:kz P (β1.add h1.next g):=(hG.le hle1).le hle2;obtain⟨nx,F0,n1,n2,n3⟩:=hc.call rfl hG2 hW2 ((k1.mono hle1).mono hle2) (args':=f'++[.func (.yield w1.heap.size) #[] #[]]) (by
  rw[jF];refine((k2.mono hle1).mono hle2).append (.cons ?_ .nil);exact .func (.yield QD) .nil .nil) ((k3.mono hle1).mono hle2)
 have hargs:(⟨f'⟩:Array Value)++ #[.func (.yield w1.heap.size) #[] #[]]=⟨f'++[.func (.yield w1.heap.size) #[] #[]]⟩:=zc
 have hstep:=ZV (P:=P) (b:=b) (tm:=tm) (df:=df) (k:=k) (cs:=cs) hent k4 (nx:=nx) (F0:=F0) (by rw[hargs];exact n1) n2;rw[<- hdf]at hstep;obtain⟨res,h3,β3,w3,r',q1,q2,q3,q4,q5⟩:=n3 (fr b tm qm (.inRangeFunc w1.heap.size::k)) cs;have hle3:=q3.le hW2.dom;have hA3:AR β3 none' a1 tm qm:=by
  refine⟨by rw[e2];exact hA.size,λi hi=>?_,λi hi=>?_,(hdr.mono hle2).mono hle3⟩
  ·rw[e1];exact(((hA.tmps i hi).mono hle1).mono hle2).mono hle3
  ·rw[e1];exact hA.out i (by rw[<- e2];exact hi)
 have hE:Eff β h w β3 h3 w3:=(hE1.trans hE2).trans q3;have hcs:nJ β3 a.pm a1.pm cs cs:=by rw[e3];exact((hcx.start.mono hle1).mono hle2).mono hle3
 cases q4 with
 | @fJ ch ch' hch=>
   refine⟨.panic ch,a1,h3,β3,w3,tm,qm,cs,jH ch none h3 q1,q2,hE,hA3,hcs,e4,.inRangeFunc w1.heap.size::k,ch',hch,.head hstep q5⟩
 | @ok v v' hv=>
   obtain⟨lp,l1,l2,l3⟩:=hok v none h3 q1;have hg3:=hle3 _ _ QD;obtain⟨vC,o1,L⟩:=q2.obj _ g _ hg3 l1;have o1:w3.heap[w1.heap.size]? =some (.loop vC):=o1;have hlt:w1.heap.size<w3.heap.size:=by
    rcases qJ w1.heap.size w3.heap.size with hh|hh
    ·exact hh
    ·rw[tL hh]at o1;cases o1
   obtain⟨z1,z2,z3⟩:=Lf (w:=w3) (o:=.loop {vC with state:=.exhausted}) hlt;obtain⟨y1,y2⟩:=q2.write hg3 l1 (.loop {lp with state:=.exhausted}) z1 z2 rfl rfl rfl (bV _) ⟨_,z3,{L with state:=rfl}⟩;have hfin:recv (fr b tm qm (.inRangeFunc w1.heap.size::k)) (.returned v')=fr b tm qm (.endRangeFunc w1.heap.size::k):=rfl;rw[hfin]at q5;have s2:=ZW (P:=P) (b:=b) (tm:=tm) (df:=qm) (k:=k) (cs:=cs) o1 (by rw[L.state];exact l2);have hst:=(Steps.head hstep q5).trans (.one s2);have qo:=L.pending;cases hlp:lp.pending with
   |none=>
    have hgd:lp.pending.getD .normal=.normal:=by rw[hlp];rfl
    rw[hgd]at l3;rw[hlp]at qo;exact j9
   |some o=>
    have hgd:lp.pending.getD .normal=o:=by rw[hlp];rfl
    rw[hgd]at l3;rw[hlp]at qo;cases o with
    |normal=>
     exact j9
    |exit id=>
     have qo:vC.pending=some (.exit id):=qo;have hto:(vC.pending.map Item.code).toList++k=.code (.exit id)::k:=by rw[qo];rfl
     rw[hto]at hst;exact⟨.exit id,a1,_,β3,_,tm,qm,cs,l3,y1,hE.trans y2,hA3,hcs,e4,k,rfl,hst⟩
    |ret=>
     have qo:vC.pending=some .ret:=qo;have hto:(vC.pending.map Item.code).toList++k=.code .ret::k:=by rw[qo];rfl
     rw[hto]at hst;exact⟨.ret,a1,_,β3,_,tm,qm,cs,l3,y1,hE.trans y2,hA3,hcs,e4,k,hst⟩
    |panic ch=>exact absurd hlp (L.Dj ch)
theorem ZY{h:IH}{K:KO}{ps:List Tmp}{assign body:dB}(fn:Fn)(first captured:List Value)(hf:a.eval f=.func fn ⟨first⟩ ⟨captured⟩)(a1:aV)(h1:IH)(r:Nat)
 (hr:(a.ro=none/\a1={a with defers:={target:=.collected h.next,args:= #[]}::a.defers}/\h1=h.new (.iY true)/\r=h.next)\/(∃l0 r0,a.ro=some l0/\a1=a/\h1=h/\h.get l0=some (.loop r0)/\r=r0.defers))
 (M:KR) (hc:mG P ⟨fn,jY first [.func (.yield h1.next) #[] #[]],captured,none⟩ (h1.new (.loop {state:=.ready,pending:=none,tmps:=a.tmps,n:=a.n,params:=ps,assign,body,defers:=r})) M)
 (hok:∀v pm h2,M (.ok v) pm h2->∃lp,h2.get h1.next=some (.loop lp)/\lp.state≠.busy/\K (lp.pending.getD .normal) a1 (h2.set h1.next (.loop {lp with state:=.exhausted})))
 (jH:∀ch pm h2,M (.fJ ch) pm h2->K (.panic ch) a1 h2):kX P (.rangeFunc f ps assign body) a h K:=by
 intro code it hcode hst β w b tm df k cs hG hW hA hcx;cases code<;>simp only[compile,reduceCtorEq]at hcode
 case region id ops draw=>rcases wS hcode with⟨_,_,h1⟩|h1<;>cases h1
 case rangeFunc f' params x y=>
  split at hcode
  ·rename_i uo;simp only[dB.rangeFunc.injEq]at hcode;obtain⟨rfl,hps,hx,hy⟩:=hcode;obtain rfl:=hst.code vm;rcases hr with⟨hro,rfl,rfl,rfl⟩|⟨l0,r0,hro,rfl,rfl,hl0,rfl⟩
   ·have hbr:b.roundOf=none:=by
     rcases hcx.round with⟨_,h2⟩|⟨l,g,h2,_⟩
     ·exact h2
     ·rw[hro]at h2;cases h2
    let g:iD:=⟨w.heap.size,0,0,0,0⟩
    obtain⟨hW1,hE1⟩:=hW.alloc (.iY true) (.deferred (some [])) g rfl rfl (by show _=_;simp[g]);refine QC fn first captured hf {a with defers:={target:=.collected h.next,args:= #[]}::a.defers} (h.new (.iY true)) h.next M ⟨rfl,rfl,rfl,rfl⟩ hc hok jH hps hx hy uo hG hW hA hcx (β1:=β.add h.next g) (qm:={target:=.collected w.heap.size,args:= #[]}::df) (mark:=[{target:=.collected w.heap.size,args:= #[]}]) (gr:=g) hW1 hE1 rfl ?_ (aC.lV _ _ _) ?_
    ·exact .coll (g:=g) (aC.lV _ _ _) (hA.defers.mono (aC.wL g hW.x9))
    ·have hs:({w with heap:=w.heap.push (.deferred (some []))}:World).heap.size=w.heap.size+1:=by show(w.heap.push _).size=_;simp
     rw[hbr,run_enterLoop_outer,hs];rfl
   ·obtain⟨g0,hb1,hb2⟩:∃g0,β l0=some g0/\b.roundOf=some g0.b:=by
     rcases hcx.round with⟨h2,_⟩|⟨l,g,h2,h3,h4⟩
     ·rw[hro]at h2;cases h2
     ·rw[hro]at h2;simp only[aA]at h2;subst h2;exact⟨g,h3,h4⟩
    obtain⟨r0',o1,L⟩:=hW.obj l0 g0 _ hb1 hl0;obtain⟨gr,hgr,ZZ⟩:=L.defers;refine QC fn first captured hf _ _ _ M ⟨rfl,rfl,rfl,rfl⟩ hc hok jH hps hx hy uo hG hW hA hcx (β1:=β) (qm:=df) (mark:=[]) (gr:=gr) hW (Eff.refl _ _ _ hW.dom) rfl hA.defers hgr ?_
    rw[hb2];simp only[Instr.enterLoop,dz,run_getLoop o1,dD,eX,ZZ,run_newObj_alloc]
  ·cases hcode
end Go.Ideal
namespace Go.Ideal
variable {P:Program}
def aC.cut(β:aC)(m:Nat):aC:=λi=>if i<m then β i else none
theorem aC.Z0(β:aC)(m:Nat):(β.cut m).le β:=λi g h=>by
 simp only[aC.cut]at h;split at h
 ·exact h
 ·cases h
theorem aC.DW{β:aC}{m i:Nat}(h:i<m):β.cut m i=β i:=by simp only[aC.cut];rw[if_pos h]
theorem BB{a b:Nat}(h:Nat.blt a b=true):a<b:=mD h
mutual
theorem VR.cut{β:aC}{m:Nat}:∀{v v':Value},VR β v v'->nH m v=true->VR (β.cut m) v v'
 |_,_,.dO v,_=>.dO v
 |_,_,.skip,_=>.skip
 |_,_,.bool b,_=>.bool b
 |_,_,.int k n,_=>.int k n
 |_,_,.float k n,_=>.float k n
 |_,_,.complex k n o,_=>.complex k n o
 |_,_,.string s,_=>.string s
 |_,_,.nilFunc,_=>.nilFunc
 |_,_,.nilIface,_=>.nilIface
 |_,_,.xZ,_=>.xZ
 |_,_,.ptr hi,hb=>.ptr DA
 |_,_,.sl0 n c,_=>.sl0 n c
 |_,_,.ak hi q1 q2 q3,hb=>.ak DA q1 q2 q3
 |_,_,.pE hi q1 q2 q3 q4 q5 q6 q7 q8,hb=>.pE DA q1 q2 q3 q4 q5 q6 q7 q8
 |_,_,.wK,_=>.wK
 |_,_,.map hi,hb=>.map DA
 |_,_,.func hf h1 h2,hb=>by
  simp only[nH,eB]at hb;refine .func ?_ (aZ.cut h1 hb.1.2) (aZ.cut h2 hb.2);cases hf with
  |func f=>exact .func f
  |method n=>exact .method n
  |methodOf t n=>exact .methodOf t n
  |yield hl=>simp at hb
 |_,_,.iface t hv,hb=>.iface t (VR.cut hv yq)
 |_,_,.agg hc hl,hb=>.agg hc (aZ.cut hl yq)
 |_,_,.tuple hl,hb=>.tuple (aZ.cut hl yq)
theorem aZ.cut{β:aC}{m:Nat}:∀{v v':List Value},aZ β v v'->qU m v=true->aZ (β.cut m) v v'
 |_,_,.nil,_=>.nil
 |_,_,.cons hv hl,hb=>by
  simp only[qU,eB]at hb;exact .cons (VR.cut hv hb.1) (aZ.cut hl hb.2)
end
theorem QE{m:Nat}:∀{l:List Value},qU m l=true->∀(j:Nat) v,l[j]? =some v->nH m v=true
 |[],_,j,v,h=>by simp at h
 |x::l,hb,0,v,h=>by simp only[qU,eB]at hb;simp at h;rw[<- h];exact hb.1
 |x::l,hb,j+1,v,h=>by simp only[qU,eB]at hb;exact QE hb.2 j v wq
theorem fP.cut{β:aC}{m:Nat}{l l':List MapEntry}(he:fP β l l')(hb:∀e∈l,nH m e.val=true):fP (β.cut m) l l':=by
 induction he with
 |nil=>exact .nil
 |cons hk hf hbn hv _ ih=>exact .cons hk hf hbn (hv.cut (hb _ (cZ ..))) (ih λe he=>hb e (dA _ he))
theorem OR.cut{β:aC}{m:Nat}{g:iD}{w:World}{o:dQ}(k:OR P β g w o)(hb:De m o=true):OR P (β.cut m) g w o:=by
 cases o with
 |cells cs=>
  obtain⟨h1,h2,h3,h5,h6,h7⟩:=k;exact⟨h1,h2,h3,h5,h6,λj v hj=>let⟨v',a,b⟩:=h7 j v hj;⟨v',a,b.cut (QE hb j v hj)⟩⟩
 |map es clock=>obtain⟨es',h1,h2⟩:=k;exact⟨es',h1,h2.cut (by simpa[De]using hb)⟩
 |_=>cases hb
theorem Z4{q:gD}{h:IH}{K:KR}(h0:IH)(v:Value)(hv:bY v=true)(hq:q.pm=none)(hfn:nH h0.next (.func q.fn ⟨q.args⟩ ⟨q.captured⟩)=true)
 (hgl:P.globals.size<=h0.next)
 (hsub:∀i o,h0.get i=some o->i<h0.next/\h.get i=some o/\De h0.next o=true)
 (M:KR) (hc:mG P q h0 M) (h1:∀r pm h',M r pm h'->pm=none/\r=.ok v/\h'.low=h0.next)
 (hk:K (.ok v) none h):mG P q h K:=by
 intro β w fn' args' cap' hG hW hfr ha hcap;have hb0:∀i g,β.cut h0.next i=some g->i<h0.next/\β i=some g:=λi g hg=>by
  simp only[aC.cut]at hg;split at hg
  ·rename_i hi;exact⟨hi,hg⟩
  ·cases hg
 have hb1:∀i,i<h0.next->β.cut h0.next i=β i:=λi hi=>aC.DW hi
 have hG0:kz P (β.cut h0.next):=λg hg=>by
  obtain⟨i,h1,h2⟩:=hG g hg;exact⟨i,by rw[hb1 g (lS hg hgl)];exact h1,h2⟩
 have hlive:∀i,h0.get i≠none->h.get i≠none:=λi hi=>by
  cases e:h0.get i with
  |none=>exact absurd e hi
  |some o=>rw[(hsub i o e).2.1];simp
 have hW0:WR P (β.cut h0.next) h0 w:=by
  refine⟨λi g hg=>(hb0 i g hg).1,λi o ho=>(hsub i o ho).1,?_,?_⟩
  ·intro i g o hg ho;obtain⟨_,hget,hcl⟩:=hsub i o ho;exact(hW.obj i g _ (hb0 i g hg).2 hget).cut hcl
  ·intro i j g k hg hk hi hj hr he;have pass:∀x,h0.get x≠none->(∀cs,h0.get x≠some (.je cs))->∀cs,h.get x≠some (.je cs):=λx hx q cs e=>by
    cases e0:h0.get x with
    |none=>exact hx e0
    |some o=>rw[(hsub x o e0).2.1]at e;exact q cs (by rw[e0];exact e)
   exact hW.inj i j g k (hb0 i g hg).2 (hb0 j k hk).2 (hlive i hi) (hlive j hj) (hr.imp (pass _ hi) (pass _ hj)) he
 have wQ:=(VR.func hfr ha hcap).cut hfn;cases wQ with
 |func Z5 ha0 hcap0=>
 obtain⟨nx,F0,n1,n2,n3⟩:=hc (β.cut h0.next) w fn' args' cap' hG0 hW0 Z5 ha0 hcap0;refine⟨nx,F0,n1,n2,λcs0 zO=>?_⟩;obtain⟨r,pm',h',β',w',r',cs1,q1,q2,q3,q4,q5,q6⟩:=n3 cs0 (by intro m hm;rw[hq]at hm;cases hm);obtain⟨hpm,rfl,hlow'⟩:=h1 r pm' h' q1;subst hpm;cases q4 with
 | @ok v v' qW=>
   have hvv:=qW.pF hv;subst hvv;have Li:WR P β h w':=by
    refine⟨hW.dom,hW.live,?_,hW.inj⟩;intro i g o hg ho;have hor:=hW.obj i g o hg ho;by_cases hb:∀j k,β.cut h0.next j=some k->h0.get j≠none->k.b≠g.b
    ·exact hor.congr (q3.keep g.b hor.lt hb)
    ·have hb:∃j k,β.cut h0.next j=some k/\h0.get j≠none/\k.b=g.b:=by
      exact rB
     obtain⟨j,k,hk,hj,hkb⟩:=hb;cases e:h0.get j with
     |none=>exact absurd e hj
     |some o0=>
      obtain⟨hjn,hget,hcl⟩:=hsub j o0 e;have hij:i=j:=hW.inj i j g k hg (hb0 j k hk).2 (by rw[ho];simp) (by rw[hget];simp) (.inr (by rw[hget];intro cs e;cases e;cases hcl)) hkb.symm;subst hij;rw[hget]at ho;cases ho;have Z6:g=k:=by have:=(hb0 i k hk).2;rw[hg]at this;cases this;rfl
      subst Z6;have hk':h'.get i=some o:=by rw[q3.kept i (by rw[hlow'];exact hjn) hjn];exact e
      have Z7:=q2.obj i g _ (by rw[q3.agree i hjn];exact hk) hk';exact((hor.cut hcl).restrict (q3.le hW0.dom) Z7).mono (aC.Z0 _ _)
   have hE:Eff β h w β h w':=
    {agree:=λ_ _=>rfl
     next:=bV _
     alive:=λ_ _ hn=>hn
     hid:=λ_ _ _=>rfl
     low:=bV _
     kept:=λ_ _ _=>rfl
     os:=q3.os,tape:=q3.tape,output:=q3.output,drawn:=q3.drawn,size:=q3.size
     keep:=λb hb hno=>q3.keep b hb λi g hg hn=>hno i g (hb0 i g hg).2 (hlive i hn)
     fresh:=λi g hg hi=>absurd (hW.dom i g hg) vj
     sF:=λi g _ hi hg hn hgb=>by
      by_cases hb:∀j k,β.cut h0.next j=some k->h0.get j≠none->k.b≠g.b
      ·exact q3.keep g.b hgb hb
      ·have hb:∃j k,β.cut h0.next j=some k/\h0.get j≠none/\k.b=g.b:=by
        exact rB
       obtain⟨j,k,hk,hj,hkb⟩:=hb;have hjn:=(hb0 j k hk).1;rw[<- hkb];exact q3.sF j k (by rw[hlow'];exact hjn) hjn hk hj (by rw[hkb];exact hgb)}
   exact⟨_,none,h,β,w',.returned v',cs1,hk,Li,hE,.ok (VR.free hv),by rw[hq]at q5⊢;cases q5;exact .none _,by
    rcases q6 with h6|h6
    ·exact .inl h6
    ·exact .inr h6⟩
theorem Z8{q:gD}{h:IH}{K:KR}(M:KR)(hc:mG P q h M)
 (hk:∀r pm h',M r pm h'->∃h'',h''.next=h'.next/\h''.low=h'.low/\(∀i,h''.get i=h'.get i\/(h.next<=i/\h''.get i=none))/\K r pm h''):mG P q h K:=by
 intro β w fn' args' cap' hG hW hfr ha hcap;obtain⟨nx,F0,n1,n2,n3⟩:=hc β w fn' args' cap' hG hW hfr ha hcap;refine⟨nx,F0,n1,n2,λcs0 zO=>?_⟩;obtain⟨r,pm',h',β',w',r',cs1,q1,q2,q3,q4,q5,q6⟩:=n3 cs0 zO;obtain⟨h'',e1,e2,e3,e4⟩:=hk r pm' h' q1;have hlive:∀i,h''.get i≠none->h'.get i≠none:=λi hi=>by
  rcases e3 i with e|e
  ·rw[e]at hi;exact hi
  ·exact absurd e.2 hi
 have hget:∀i o,h''.get i=some o->h'.get i=some o:=λi o ho=>by
  rcases e3 i with e|e
  ·rw[e]at ho;exact ho
  ·rw[e.2]at ho;cases ho
 have pass:∀x,h''.get x≠none->(∀cs,h''.get x≠some (.je cs))->∀cs,h'.get x≠some (.je cs):=λx hx q cs e=>by
  rcases e3 x with e'|e'
  ·exact q cs (by rw[e'];exact e)
  ·exact hx e'.2
 have hold:∀i,i<h.next->h''.get i=h'.get i:=λi hi=>by
  rcases e3 i with e|e
  ·exact e
  ·omega
 have Li:WR P β' h'' w':=
  ⟨λi g hg=>by rw[e1];exact q2.dom i g hg,λi o ho=>by rw[e1];exact q2.live i o (hget i o ho),λi g o hg ho=>q2.obj i g o hg (hget i o ho),
   λi j g k hg hk hi hj hr he=>q2.inj i j g k hg hk (hlive i hi) (hlive j hj) (hr.imp (pass _ hi) (pass _ hj)) he⟩
 have hE:Eff β h w β' h'' w':=
  {agree:=q3.agree
   next:=by rw[e1];exact q3.next
   alive:=λi hi hn=>q3.alive i hi (hlive i hn)
   hid:=λi hi hb=>by rw[hold i hi];exact q3.hid i hi hb
   low:=by rw[e2];exact q3.low
   kept:=λi hl hi=>by rw[hold i hi];exact q3.kept i (by rw[<- e2];exact hl) hi
   os:=q3.os,tape:=q3.tape,output:=q3.output,drawn:=q3.drawn,size:=q3.size,keep:=q3.keep,fresh:=q3.fresh
   sF:=λj k hl hj hk hn hb=>q3.sF j k (by rw[<- e2];exact hl) hj hk hn hb}
 exact⟨r,pm',h'',β',w',r',cs1,e4,Li,hE,q4,q5,q6⟩
theorem Z9(zN:P.follows .mixedOrders=true){q:gD}{h:IH}{K:KR}(e:CALL P q h K):mG P q h K:=by
 refine CALL.rec (P:=P) (motive_1:=λc a h K _=>kX P c a h K) (motive_2:=λds l a h K _=>nK P ds l a h K) (motive_3:=λcf ts ds m h K _=>wP P cf ts ds m h K) (motive_4:=λq h K _=>mG P q h K)
  ?_ ?_ ?_ ?_ ?_ ?_ ?_ ?_ ?_ ?_ ?_ ?_ ?_ ?_ ?_ ?_ ?_ ?_ ?_ ?_ ?_ ?_ ?_ ?_ ?_ ?_ ?_ ?_ ?_ ?_ ?_ ?_ e
 ·intros;apply Zf;assumption
 ·intros;apply Ze zN;assumption
 ·intro x y a h K M _ _ h3 i1 i2;exact Zg M i1 i2 h3
 ·intro c x y a h K hc _ i1;exact Qo (t:=true) hc i1
 ·intro c x y a h K hc _ i1;exact Qo (t:=false) hc i1
 ·intro id c a h K M _ h2 i1;exact Zi M i1 h2
 ·intro c a h K M _ _ h3 i1 i2;exact Zj M i1 i2 h3
 ·intro c a h K _ i1;exact Zk i1
 ·intro id a h K hk;exact Zl hk
 ·intro a h K hk;exact Zm hk
 ·intro f ps assign body a h K fn first captured hf a1 h1 r hr M _ hok jH i1;exact ZY fn first captured hf a1 h1 r hr M i1 hok jH
 ·intro c a h K a0 hw hn _ i1;exact Zn a0 hw hn i1
 ·intro ds a h K hk;exact YF hk
 ·intro ds s l a h K hw _ i1;exact YG hw i1
 ·intro ds s l a h K hw v h' hr hs _ i1;exact YH hw v h' hr hs i1
 ·intro ds s l a h K hw q hq M _ hs _ jH i1 i2;exact YR hw q hq M i1 hs i2 jH
 ·intro ds s l a h K hw ho hre hm hro _ i1;exact YW hw ho hre hm hro i1
 ·intro ds s l a h K hw ho hre m hm hro _ i1;exact YY hw ho hre m hm hro i1
 ·intro ds s l a h K hw x ho t v hx hk;exact YT hw x ho t v hx hk
 ·intro ds s l a h K hw f args ho hre hro fn first captured hf _ i1;exact YV hw f args ho hre hro fn first captured hf i1
 ·intro ds s l a h K hw x ho hre alts ha _ i1;exact Y5 hw x ho hre alts ha i1
 ·intro cf ts h K v hv hk;exact Zv v hv hk
 ·intro cf ts h K ch hk;exact Zw ch hk
 ·intro cf ts args ds m h K hm r hr _ i1;exact Zx hm r hr i1
 ·intro cf ts fn captured args ds m h K hm M _ hpm _ _ i1 i2 i3;exact ZA hm M i1 hpm i2 i3
 ·intro q h K f args ht fn hf cf hcf M _ h2 _ i1 i3;exact ZF f args ht fn hf cf hcf M i1 h2 i3
 ·intro q h K l hq hpm r hr hargs M _ h2 _ i1 i3;exact ZR l hq hpm r hr hargs M i1 h2 i3
 ·intro q h K cs n f hcs hne hf M _ hq h1 hk i1;exact ZJ cs n f hcs hne hf M i1 hq h1 hk
 ·intro q h K M _ hk i1;exact Qt M i1 hk
 ·intro q h K M _ hk i1;exact Z8 M i1 hk
 ·intro q h K h0 v hv hq hfn hnext hgl hsub M _ h1 hk i1;exact Z4 h0 v hv hq hfn hgl hsub M i1 h1 hk
 ·intro q h K hm;exact hm

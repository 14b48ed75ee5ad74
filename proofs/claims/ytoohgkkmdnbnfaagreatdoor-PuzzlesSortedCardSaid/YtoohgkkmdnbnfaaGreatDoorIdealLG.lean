/-
  The ideal machine, 57: loops over functions, seen from all states of a kind; functions that leave collected ends behind.
-/
import Derived.Test.YtoohgkkmdnbnfaaGreatDoorIdealKG
set_option linter.all false
namespace Go.Ideal
variable {P:Program}
def wZ(P:Program)(cf:cu)(K:KR):KO:=λo a h=>match mY o with
 |none=>False
 |some m=>LEAVE P cf a.tmps a.defers m h λr h''=>K r a.pm h''
theorem M0{Y:Type}{f:FuncId}{args cap:List Value}{kl:List OA}{F:List ay}{val:Y->Value}{kl':Y->List OA}{fs:Y->List ay}{pr:Y->Prop}{c:aM}{m:Nat}{l0:List (Nat×Value)}(cf:cu)(hF:(iV P lN lQ).F f=some cf)
 (hb:∀B w0,R (λh=>EV P c (act m l0 [] none none) h (wZ P cf (Left B w0 val kl' fs pr))) B w0 kl F)
 (h1:cf.body=c:=by conv=>lhs;(reduce;(try simp only[Int.reduceOfNat,Int.reduceNegSucc]))) (h2:kM cf.ntmps (bY (args++cap))=m:=by conv=>lhs;whnf) (h3:kX 0 (args++cap) []=l0:=by dsimp only[kX,Nat.reduceAdd,List.append_nil,List.cons_append,List.nil_append]):cB P (.func f) args cap kl F val kl' fs pr:=by
 intro B w s;obtain⟨fn,e1,e2⟩:=(oJ P lN lQ (λf q h v h' hm=>by cases hm)).fn f cf hF;refine Lj cf fn e1 e2 ?_;rw[EE,h1,h2,h3];exact hb B w w s
section
variable {B:List Nat} {w0:Wd} {kl kl' aQ:List OA} {F:List ay} {K:KO} {n:Nat} {l:List (Nat×Value)} {D:List Deferred} {pm:Option FrameMode} {ro:Option Nat}
inductive kw:List OA->List Deferred->List OA->Prop
 |nil {kl:List OA}:kw kl [] kl
 |cons {kl kl' dD:List OA} {r:Nat} {args:Array Value} {D:List Deferred} (h:ax (pt r (.bZ true)) kl kl') (t:kw kl' D dD):kw kl ({target:=.collected r,args}::D) dD
theorem kw.leave{cf:cu}{ts:T Value}{Kr:fF->IH->Prop}:∀{D:List Deferred} {kl dD:List OA},kw kl D dD->(∀w',St B w0 dD F w'->∃v,jU cf.results ts w'.h=some v/\Kr (.ok v) w'.h)->∀w,St B w0 kl F w->LEAVE P cf ts D .returning w.h Kr
 |_,_,_,.nil,hk,w,s=>by
  obtain⟨v,h1,h2⟩:=hk w s;exact .ret v h1 h2
 |_,_,_,.cons (r:=r) h t,hk,w,s=>by
  have s1:=s.dB h;refine .coll (by intro e;cases e) r s1.get.1 ?_;exact kw.leave t hk _ (s1.write (o':=.bZ false)).tail
theorem M3{Y:Type}{o:Out}{cf:cu}{vs:List Value}{val:Y->Value}{k1:Y->List OA}{fs:Y->List ay}{pr:Y->Prop}{dD:List OA}(y:Y)(hD:kw kl D dD)(hr:RS l dD cf.results vs)(hv:qA vs=val y)(hp:pr y)(hk:bG (k1 y) dD aQ)(hF:Sub (fs y) F)
 (ho:o=.normal\/o=.ret):R (λh=>wZ P cf (Left B w0 val k1 fs pr) o (act n l D none ro) h) B w0 kl F:=by
 intro w s;have key:LEAVE P cf (bU l) D .returning w.h λr h''=>Left B w0 val k1 fs pr r none h'':=by
  refine kw.leave hD (λw' s'=>⟨val y,?_,rfl,w',y,rfl,((s'.gV hk).drop).sub hF,rfl,hp⟩) w s;unfold jU;rw[hr.all s',<- hv];match vs with
  |[]=>rfl
  |[v]=>rfl
  |_::_::_=>rfl
 rcases ho with rfl|rfl
 ·exact key
 ·exact key
def nK(L:gL):gL:={L with state:=.busy}
def gJ(L:gL)(o:Out):gL:=match o with
 | .normal=>{L with state:=.ready,pending:=none}
 |o=>{L with state:=.done,pending:=some o}
def iK(o:Out):Bool:=match o with
 | .normal=>true
 |_=>false
def tK(o:Out):Prop:=match o with
 | .panic _=>False
 |_=>True
def tL{Y:Type}(B:List Nat)(w0:Wd)(lo:Nat)(L:gL)(out:Y->Out)(k1:Y->List OA)(fs:Y->List ay)(pr:Y->Prop):KO:=λo a h=>
 a.defers=[]/\∃(w:Wd) (y:Y),w.h=h/\o=out y/\tK o/\St B w0 (pt lo (.loop (nK L))::k1 y) (fs y) w/\pr y
theorem M4{Y:Type}{lo:Nat}{L:gL}{out:Y->Out}{k1:Y->List OA}{fs:Y->List ay}{pr:Y->Prop}{o:Out}{dD:List OA}(y:Y)(ho:o=out y)(hn:tK o)(hp:pr y)(hk:bG (pt lo (.loop (nK L))::k1 y) kl dD)(hF:Sub (fs y) F):
 R (λh=>tL B w0 lo L out k1 fs pr o (act n l [] none ro) h) B w0 kl F:=λw s=>⟨rfl,w,y,rfl,ho,hn,((s.gV hk).drop).sub hF,hp⟩
theorem EN(n:Nat):∀(ps:List Tmp) (args:List Value) (l:List (Nat×Value)),ps.all (λp=>Nat.blt p n)=true->ps.length=args.length->∃l2,jV n ps args (bU l)=bU l2/\l2=(ps.zip args).reverse++l
 |[],[],l,_,_=>⟨l,rfl,rfl⟩
 |p::ps,v::args,l,h,e=>by
  simp only[qQ,bE]at h;obtain⟨l2,h1,h2⟩:=EN n ps args ((p,v)::l) h.2 (by simpa using e);refine⟨l2,?_,by rw[h2];simp⟩;rw[<- h1];show jV n ps args (cond (Nat.blt p n) ((bU l).set p (some v)) (bU l))=_;rw[h.1];rfl
theorem M5{Y:Type}{f:Operand}{ps:List Tmp}{assign body:aM}{fn:Fn}{first captured:List Value}{k1:List OA}{F1:List ay}{Af:Y->Value}{out:Y->Out}{k1':Y->List OA}{fs:Y->List ay}{pr:Y->Prop}
 (hf:ev l f=.func fn ⟨first⟩ ⟨captured⟩)
 (it:∀lo r,cB P fn (first++[.func (.yield lo) #[] #[]]) captured (pt lo (.loop ⟨.ready,none,bU l,n,ps,assign,body,r⟩)::k1) F1 Af (λy=>pt lo (.loop (gJ ⟨.ready,none,bU l,n,ps,assign,body,r⟩ (out y)))::k1' y) fs pr)
 (hk:bG k1 kl aQ) (hF:Sub F1 F)
 (next:∀r y,pr y->R (λh=>K (out y) (act n l ({target:=.collected r,args:= #[]}::D) pm none) h) B w0 (k1' y++(pt r (.bZ true)::aQ)) (fs y++F)):
 R (λh=>EV P (.rangeFunc f ps assign body) (act n l D pm none) h K) B w0 kl F:=by
 intro w s;let L:Nat->gL:=λr=>⟨.ready,none,bU l,n,ps,assign,body,r⟩
 let r:=w.h.next
 let w1:=w.new (.bZ true)
 have s1:St B w0 (pt r (.bZ true)::kl) F w1:=s.new _;let lo:=w1.h.next
 let w2:=w1.new (.loop (L r))
 have s2:St B w0 (pt lo (.loop (L r))::pt r (.bZ true)::kl) F w2:=s1.new _;have s3:St B w0 ((pt lo (.loop (L r))::k1)++(pt r (.bZ true)::aQ)) F w2:=s2.gV (k:=pt lo (.loop (L r))::k1) (kl':=pt r (.bZ true)::aQ) (.cons .here (by
  have:∀{k kl aQ:List OA} (A:OA),bG k kl aQ->bG k (A::kl) (A::aQ):=by
   intro k kl aQ A h;induction h with
   |nil=>exact .nil
   |cons h1 _ ih=>exact .cons (.there h1) ih
  exact this _ hk))
 obtain⟨S,h1,h2,h3⟩:=s3.own;obtain⟨S1,S2,q1,q2,hp⟩:=h1.gV (k:=pt lo (.loop (L r))::k1) (kl':=pt r (.bZ true)::aQ) (by
  have:∀(k kr:List OA),bG k (k++kr) kr:=by
   intro k kr;induction k with
   |nil=>exact .nil
   |cons A k ih=>exact .cons .here ih
  exact this _ _)
 have hsub:∀i∈S1,i∈S:=λi hi=>hp.mem_iff.2 (gY _ hi);have st1:St S1 w2 (pt lo (.loop (L r))::k1) F1 w2:=⟨⟨aB _,λ_ _ _=>rfl,λ_ _=>rfl⟩,Wd.Le.refl w2,λi _ hz=>.inl hz,⟨S1,q1,(pE.1 (hp.nodup h2)).1,λi hi=>⟨.inr hi,(h3 i (hsub i hi)).2⟩⟩,λf hf=>s2.facts f (hF.mem f hf)⟩
 have hc:=it lo r S1 w2 st1;refine .rangeFunc fn first captured (by rw[gU];exact hf) (act n l ({target:=.collected r,args:= #[]}::D) pm none) w1.h r (.inl ⟨rfl,rfl,rfl,rfl⟩) (Left S1 w2 Af (λy=>pt lo (.loop (gJ (L r) (out y)))::k1' y) fs pr) ?_ ?_ ?_
 ·rw[dH];exact hc
 ·rintro v pm' h' ⟨rfl,w',y,rfl,c,hv,hpr⟩;have sc:St B w0 ((pt lo (.loop (gJ (L r) (out y)))::k1' y)++(pt r (.bZ true)::aQ)) (fs y++F) w':=s3.call (k1:=pt lo (.loop (L r))::k1) (F1:=F1) ⟨S,hp,h2,h3⟩ q2 c;have hg:=(show St B w0 (pt lo (.loop (gJ (L r) (out y)))::(k1' y++(pt r (.bZ true)::aQ))) (fs y++F) w' from sc).get;refine⟨gJ (L r) (out y),hg.1,?_,?_⟩
  ·cases out y<;>simp[gJ]
  ·have e:(gJ (L r) (out y)).pending.getD .normal=out y:=by cases out y<;>rfl
   rw[e];exact next r y hpr _ (St.write (o':=.loop {gJ (L r) (out y)with state:=.exhausted}) sc).tail
 ·rintro ch pm' h' ⟨rfl,w',y,rfl,c,hv,hpr⟩;cases hv
end
end Go.Ideal
namespace Go.Ideal
variable {P:Program}
def iL{S α:Type}(step:S->α->S×Bool):S->List α->S
 |s,[]=>s
 |s,x::xs=>match step s x with
  |(s',true)=>iL step s' xs
  |(s',false)=>s'
def iM{S α:Type}(step:S->α->S×Out):S->List α->S×Out
 |s,[]=>(s,.normal)
 |s,x::xs=>match step s x with
  |(s',.normal)=>iM step s' xs
  |(s',o)=>(s',o)
theorem Sub.refl'{α:Type}:∀(l k:List α),Sub l (k++l)
 |[],_=>.nil
 |a::l,k=>.cons (jq _ (bC ..)) (by have:=Sub.refl' l (k++[a]);rwa [fD]at this)
theorem Sub.app{α:Type}:∀{k1 k2 l:List α},Sub k1 l->Sub k2 l->Sub (k1++k2) l
 |_,_,_,.nil,h=>h
 |_,_,_,.cons h h1,h2=>.cons h (h1.app h2)
section
variable {B:List Nat} {w0:Wd} {kl kl' aQ:List OA} {F:List ay} {K:KO} {n:Nat} {l:List (Nat×Value)} {D:List Deferred} {pm:Option FrameMode} {ro:Option Nat}
theorem EO{S α:Type}{step:S->α->S×Out}:∀(xs:List α) (s:S),iL (λ(so:S×Out) x=>(step so.1 x,iK (step so.1 x).2)) (s,Out.normal) xs=iM step s xs
 |[],s=>rfl
 |x::xs,s=>by
  have ih:=EO (step:=step) xs;simp only[iL,iM];cases h:step s x with
  |mk s' o=>
   cases o with
   |normal=>simp only[iK];exact ih s'
   |_=>simp only[iK]
end
end Go.Ideal
namespace Go.Ideal
variable {P:Program} {ρ:Operand->Value}
theorem wrapN{m:Nat}(h:m<9223372036854775808):IntKind.i64.wrap (m:Int)=m:=wrap64 (by omega) (by omega)
end Go.Ideal
namespace Go.Ideal
variable {P:Program}
def Ag{X:Type}(f:X->List OA):OA:=⟨λw S=>∃x,dn w (f x) S,λa h ⟨x,hx⟩=>⟨x,dn.loc a h hx⟩⟩
section
variable {B:List Nat} {w0:Wd} {kl kl' aQ:List OA} {F:List ay} {K:KO} {n:Nat} {l:List (Nat×Value)} {D:List Deferred} {pm:Option FrameMode} {ro:Option Nat}
theorem EP{X:Type}{f:X->List OA}{dD:X->List OA}{Q:IH->Prop}(hk:ax (Ag f) kl kl':=by exact eU)(ha:∀x,bi (f x) kl' (dD x):=by intro x;repeat (first|exact bi.nil|apply bi.cons|exact bi.self|exact bi.app))(h:∀x,R Q B w0 (dD x) F):R Q B w0 kl F:=λw s=>by
 obtain⟨S,⟨S1,S2,⟨x,q1⟩,q2,e⟩,h2,h3⟩:=(s.dB hk).own;refine h x w ?_;rw[<- (ha x).eq];exact⟨s.agree,s.le,s.bR,⟨S,by rw[e];exact q1.app q2,h2,h3⟩,s.facts⟩
theorem EQ{X:Type}(f:X->List OA)(x:X){Q:IH->Prop}(hk:bG (f x) kl aQ:=by exact mi)(h:R Q B w0 (Ag f::aQ) F):R Q B w0 kl F:=λw s=>by
 obtain⟨S,h1,h2,h3⟩:=s.own;obtain⟨S1,S2,q1,q2,hp⟩:=h1.gV hk;exact h w ⟨s.agree,s.le,s.bR,⟨S1++S2,⟨S1,S2,⟨x,q1⟩,q2,rfl⟩,hp.nodup h2,λi hi=>h3 i (hp.mem_iff.2 hi)⟩,s.facts⟩
theorem M6{Q:IH->Prop}(g:ay)(hg:∀w:Wd,(∀f∈F,f.p w)->g.p w)(h:R Q B w0 kl (g::F)):R Q B w0 kl F:=λw s=>
 h w ⟨s.agree,s.le,s.bR,s.own,λf hf=>by
  rcases aR.1 hf with rfl|hf
  ·exact hg w s.facts
  ·exact s.facts f hf⟩
theorem M7{Y:Type}{f:FuncId}{args cap:List Value}{kl:List OA}{F:List ay}{val:Y->Value}{kl':Y->List OA}{fs:Y->List ay}{pr:Y->Prop}{c:aM}{m:Nat}{l0:List (Nat×Value)}(cf:cu)(hF:(iV P lN lQ).F f=some cf)
 (hb:∀B w0,R (λh=>EV P c (act m l0 [] none none) h (wZ P cf (Left B w0 val kl' fs pr))) B w0 kl F)
 (h1:cf.body=c:=by conv=>lhs;(reduce;(try simp only[Int.reduceOfNat,Int.reduceNegSucc]))) (h2:kM cf.ntmps (bY (args++cap))=m:=by conv=>lhs;whnf) (h3:kX 0 (args++cap) []=l0:=by dsimp only[kX,Nat.reduceAdd,List.append_nil,List.cons_append,List.nil_append]):cB P (.func f) args cap kl F val kl' fs pr:=
 M0 cf hF hb h1 h2 h3
theorem M8{Y:Type}{o:Out}{cf:cu}{vs:List Value}{val:Y->Value}{k1:Y->List OA}{fs:Y->List ay}{pr:Y->Prop}{dD:List OA}(y:Y)(hD:kw kl D dD:=by repeat (first|exact kw.nil|(apply kw.cons;(focus (repeat (first|with_reducible exact ax.here|with_reducible apply ax.there|with_reducible apply ax.app))))))
 (hr:RS l dD cf.results vs:=by exact EG) (hv:qA vs=val y) (hp:pr y)
 (hk:bG (k1 y) dD aQ:=by exact mi) (hF:Sub (fs y) F:=by exact mh)
 (ho:o=.normal\/o=.ret:=by first|exact .inl rfl|exact .inr rfl):R (λh=>wZ P cf (Left B w0 val k1 fs pr) o (act n l D none ro) h) B w0 kl F:=
 M3 y hD hr hv hp hk hF ho
theorem M9{Y:Type}{lo:Nat}{L:gL}{out:Y->Out}{k1:Y->List OA}{fs:Y->List ay}{pr:Y->Prop}{o:Out}{dD:List OA}(y:Y)(ho:o=out y)(hn:tK o)(hp:pr y)
 (hk:bG (pt lo (.loop (nK L))::k1 y) kl dD:=by exact mi) (hF:Sub (fs y) F:=by exact mh):
 R (λh=>tL B w0 lo L out k1 fs pr o (act n l [] none ro) h) B w0 kl F:=M4 y ho hn hp hk hF
theorem Na{α:Type}(E:Enc α){ds:List Tmp}{rest:List aC}{d:Nat}{g:Option (Tmp×Bool)}{e:TypeId}{size bytes b':Nat}{s x:Operand}{v:Value}{xs:List α}(a:α)(y:E.Y){cs:List Value}{k1 k2:List OA}
 (hm:(xs.length+1)*bytes<=1073741824/\(xs.length+1)*size<=1073741824/\xs.length+1<=1073741824)
 (next:∀ad,R (λh=>aj P ds rest (act n ((d,.slice ad (xs.length+1) (xs.length+1))::l) D pm ro) h K) B w0 (ap E (.slice ad (xs.length+1) (xs.length+1)) (xs++[a])::k2) F)
 (hn:Nat.blt d n=true:=by rfl) (hg:aT l g=true:=by rfl)
 (hs:ev l s=v:=by conv=>lhs;whnf) (hx:ev l x=.slice (some ⟨b',0,some 0⟩) 1 1:=by rfl) (hk:ax (ap E v xs) kl k1:=by exact eU) (hc:ax (pt b' (.cells cs)) k1 k2:=by exact eU) (hp:cs=E.pat a y:=by rfl) (hF:Sub (E.fs a y) F:=by exact mh) (hz:E.n=size:=by rfl):
 R (λh=>aj P ds (⟨⟨some d,g,.append e size bytes s x⟩,[]⟩::rest) (act n l D pm ro) h K) B w0 kl F:=
 (ME hn hg hs hx hk hc hp hF hz hm).h λv' w st=>by
   obtain⟨S,⟨S1,S2,q,_⟩,_⟩:=st.own;obtain⟨ad,e⟩:=Ey q;rw[dO,xY]at e;subst e;exact next ad w st
section
variable {ds:List Tmp} {rest:List aC} {d:Nat} {g:Option (Tmp×Bool)}
end
end

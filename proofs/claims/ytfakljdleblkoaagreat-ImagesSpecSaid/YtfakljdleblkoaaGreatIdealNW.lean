/-
  Part IdealNW.
-/
import Derived.Test.YtfakljdleblkoaaGreatIdealMW
import Derived.Sort.Row
import Derived.Sort.Grow
import Derived.Laws.StructEq
set_option linter.all false
namespace Go.Ideal
variable {P:Program}
def zZ{Y:Type}(B:List Nat)(w0:Wd)(ret:Y->iP)(kl':Y->List OA)(fs:Y->List aK)(pr:Y->Prop):KR:=λr pm h'=>
 pm=none/\∃(w':Wd) (y:Y),w'.h=h'/\St B w0 (kl' y) (fs y) w'/\r=ret y/\pr y
def qx{Y:Type}(P:Program)(fn:Fn)(args cap:List Value)(kl:List OA)(F:List aK)(ret:Y->iP)(kl':Y->List OA)(fs:Y->List aK)(pr:Y->Prop):Prop:=
 ∀(B:List Nat) (w:Wd),St B w kl F w->CALL P ⟨fn,args,cap,none⟩ w.h (zZ B w ret kl' fs pr)
variable{args cap:List Value}{Y:Type}{kl:List OA}{F:List aK}
theorem qx.toC{fn:Fn}{ret:Y->iP}{kl':Y->List OA}{fs:Y->List aK}{pr:Y->Prop}(val:Y->Value)(h:qx P fn args cap kl F ret kl' fs pr)
 (hv:∀y,pr y->ret y=.ok (val y)):aU P fn args cap kl F val kl' fs pr:=λB w s=>by
 refine .qY _ (h B w s) ?_;rintro r pm h' ⟨e,w',y,e1,st,er,hp⟩;exact⟨e,w',y,e1,st,er.trans (hv y hp),hp⟩
def Mk{Y:Type}(B:List Nat)(w0:Wd)(ret:Y->iP)(md:Y->FrameMode)(kl':Y->List OA)(fs:Y->List aK)(pr:Y->Prop):KR:=λr pm h'=>
 ∃(w':Wd) (y:Y),pm=some (md y)/\w'.h=h'/\St B w0 (kl' y) (fs y) w'/\r=ret y/\pr y
def H8{Y:Type}(P:Program)(fn:Fn)(args cap:List Value)(m:FrameMode)(kl:List OA)(F:List aK)(ret:Y->iP)(md:Y->FrameMode)(kl':Y->List OA)(fs:Y->List aK)(pr:Y->Prop):Prop:=
 ∀(B:List Nat) (w:Wd),St B w kl F w->CALL P ⟨fn,args,cap,some m⟩ w.h (Mk B w ret md kl' fs pr)
variable{f:FuncId}{c:dB}{m:Nat}{l0:List (Nat×Value)}
theorem RD{K:KR}{pm:Option FrameMode}(cf:gU)(hF:(pu P qi pz).F f=some cf)(h1:cf.body=c)(h2:qR cf.ntmps (iF (args++cap))=m)(h3:pK 0 (args++cap) []=l0){h:IH}
 (hb:EV P c (act m l0 [] pm none) h (ry P cf K)):CALL P ⟨.func f,args,cap,pm⟩ h K:=by
 obtain⟨fn,e1,e2⟩:=(BD P qi pz (λf q h v h' hm=>by cases hm)).fn f cf hF;refine QX cf fn e1 e2 ?_;rw[L9,h1,h2,h3];exact hb
theorem yG{ret:Y->iP}{kl':Y->List OA}{fs:Y->List aK}{pr:Y->Prop}(cf:gU)(hF:(pu P qi pz).F f=some cf)
 (hb:∀B w0,R (λh=>EV P c (act m l0 [] none none) h (ry P cf (zZ B w0 ret kl' fs pr))) B w0 kl F)
 (h1:cf.body=c:=by conv=>lhs;(reduce;(try simp only[Int.reduceOfNat,Int.reduceNegSucc]))) (h2:qR cf.ntmps (iF (args++cap))=m:=by conv=>lhs;whnf) (h3:pK 0 (args++cap) []=l0:=by dsimp only[pK,Nat.reduceAdd,List.append_nil,List.cons_append,List.nil_append]):qx P (.func f) args cap kl F ret kl' fs pr:=
 λB w s=>RD cf hF h1 h2 h3 (hb B w w s)
theorem RG{pm:FrameMode}{ret:Y->iP}{md:Y->FrameMode}{kl':Y->List OA}{fs:Y->List aK}{pr:Y->Prop}(cf:gU)(hF:(pu P qi pz).F f=some cf)
 (hb:∀B w0,R (λh=>EV P c (act m l0 [] (some pm) none) h (ry P cf (Mk B w0 ret md kl' fs pr))) B w0 kl F)
 (h1:cf.body=c:=by conv=>lhs;(reduce;(try simp only[Int.reduceOfNat,Int.reduceNegSucc]))) (h2:qR cf.ntmps (iF (args++cap))=m:=by conv=>lhs;whnf) (h3:pK 0 (args++cap) []=l0:=by dsimp only[pK,Nat.reduceAdd,List.append_nil,List.cons_append,List.nil_append]):H8 P (.func f) args cap pm kl F ret md kl' fs pr:=
 λB w s=>RD cf hF h1 h2 h3 (hb B w w s)
section
variable {B:List Nat} {w0:Wd} {kl kl' bG:List OA} {F:List aK} {K:KO} {ds:List Tmp} {rest:List bT} {n:Nat} {l:List (Nat×Value)} {D:List Deferred} {pm:Option FrameMode} {ro:Option Nat} {d:Nat} {g:Option (Tmp×Bool)}
variable{k1:List OA}{F1:List aK}
theorem St.H9{w:Wd}{bG:List OA}(s:St B w0 kl F w)(hk:aI k1 kl bG)(hF:Sub F1 F):
 ∃S1,St S1 w k1 F1 w/\∀(w':Wd) (k1':List OA) (F':List aK),St S1 w k1' F' w'->St B w0 (k1'++bG) (F'++F) w':=by
 obtain⟨S,h1,h2,h3⟩:=s.own;obtain⟨S1,S2,q1,q2,hp⟩:=h1.j4 hk;have hsub:∀i∈S1,i∈S:=λi hi=>hp.mem_iff.2 (jW _ hi);exact⟨S1,⟨⟨bV _,λ_ _ _=>rfl,λ_ _=>rfl⟩,Wd.Le.refl w,λi _ hz=>.inl hz,⟨S1,q1,(gX.1 (hp.nodup h2)).1,λi hi=>⟨.inr hi,(h3 i (hsub i hi)).2⟩⟩,λf hf=>s.facts f (hF.mem f hf)⟩,
  λw' k1' F' c=>s.call (k1:=k1) (F1:=F1) ⟨S,hp,h2,h3⟩ q2 c⟩
variable{Y:Type}{vs captured first as:List Value}{fn:Fn}{f:Operand}{xs:List Operand}
theorem abZ{re:List ik}{ret:Y->iP}{k1':Y->List OA}{fs:Y->List aK}{pr:Y->Prop}
 (hc:qx P fn as captured k1 F1 ret k1' fs pr) (hn:Nat.blt d n=true) (hg:bZ l g=true) (hf:ev l f=.func fn ⟨first⟩ ⟨captured⟩) (hx:EvL (ev l) xs vs) (ha:first++vs=as)
 (hk:aI k1 kl bG) (hF:Sub F1 F)
 (hs:∀y v,pr y->ret y=.ok v->Same P re (ev ((d,v)::l)) ((d,v)::l) B w0 (k1' y++bG) (fs y++F))
 (next:∀y v,pr y->ret y=.ok v->R (λh=>aG P ds rest (act n ((d,v)::l) D pm ro) h K) B w0 (k1' y++bG) (fs y++F))
 (Eo:∀y ch,pr y->ret y=.fJ ch->R (λh=>K (.panic ch) (act n (zT ds n l) D pm ro) h) B w0 (k1' y++bG) (fs y++F)):
 R (λh=>aG P ds (⟨⟨some d,g,.call f xs⟩,re⟩::rest) (act n l D pm ro) h K) B w0 kl F:=by
 intro w s;obtain⟨S1,s1,back⟩:=s.H9 hk hF;have hcall:=hc S1 w s1;subst ha;rw[<- hx.map]at hcall;refine s_call hn hg fn hf _ hcall ?_ ?_ ?_ ?_
 ·rintro v h' ⟨_,w',y,rfl,c,hv,hpr⟩;exact hs y v hpr hv.symm w' (back w' _ _ c)
 ·rintro v h' ⟨_,w',y,rfl,c,hv,hpr⟩;exact next y v hpr hv.symm w' (back w' _ _ c)
 ·rintro ch h' ⟨_,w',y,rfl,c,hv,hpr⟩;rw[Gw];exact Eo y ch hpr hv.symm w' (back w' _ _ c)
 ·rintro r p h' ⟨e,_⟩;exact e
theorem uB{re:List ik}{ret:Y->iP}{k1':Y->List OA}{fs:Y->List aK}{pr:Y->Prop}{eU:Y->List OA}{F2:Y->List aK}
 (hc:qx P fn as captured k1 F1 ret k1' fs pr)
 (next:∀y v,pr y->ret y=.ok v->R (λh=>aG P ds rest (act n ((d,v)::l) D pm ro) h K) B w0 (eU y) (F2 y))
 (Eo:∀y ch,pr y->ret y=.fJ ch->R (λh=>K (.panic ch) (act n (zT ds n l) D pm ro) h) B w0 (eU y) (F2 y))
 (hn:Nat.blt d n=true:=by rfl) (hg:bZ l g=true:=by rfl) (hf:ev l f=.func fn ⟨first⟩ ⟨captured⟩:=by rfl) (hx:EvL (ev l) xs vs:=by repeat (first|with_reducible exact EvL.nil|((with_reducible apply EvL.cons);(conv=>lhs;whnf)))) (ha:first++vs=as:=by rfl)
 (hk:aI k1 kl bG:=by exact oK) (hF:Sub F1 F:=by exact oJ) (hk2:∀y,bR (k1' y) bG (eU y):=by intro y;repeat (first|exact bR.nil|apply bR.cons|exact bR.self|exact bR.app)) (hF2:∀y,bR (fs y) F (F2 y):=by intro y;repeat (first|exact bR.nil|apply bR.cons|exact bR.self|exact bR.app))
 (hs:∀y v,pr y->ret y=.ok v->Same P re (ev ((d,v)::l)) ((d,v)::l) B w0 (eU y) (F2 y):=by intro _ _ _ _;repeat (first|exact BL|refine BM rfl xb wl rfl ?_|refine Ea rfl (by(repeat (first|with_reducible exact cZ .. |with_reducible apply dA));first|done|fail) wl rfl ?_|refine Eb rfl (by(repeat (first|with_reducible exact cZ .. |with_reducible apply dA));first|done|fail) wl rfl ?_|refine Ec rfl xb wl rfl ?_|refine Ed rfl (by(repeat (first|with_reducible exact cZ .. |with_reducible apply dA));first|done|fail) wl rfl ?_|refine Ee rfl (by(repeat (first|with_reducible exact cZ .. |with_reducible apply dA));first|done|fail) wl rfl ?_)):
 R (λh=>aG P ds (⟨⟨some d,g,.call f xs⟩,re⟩::rest) (act n l D pm ro) h K) B w0 kl F:=
 abZ hc hn hg hf hx ha hk hF (λy v a b=>by rw[(hk2 y).eq,(hF2 y).eq];exact hs y v a b) (λy v a b=>by rw[(hk2 y).eq,(hF2 y).eq];exact next y v a b) (λy v a b=>by rw[(hk2 y).eq,(hF2 y).eq];exact Eo y v a b)
variable{v:Value}
theorem BV{x:Operand}{t:TypeId}{dst:Option Tmp}{re:List ik}
 (next:R (λh=>K (.panic [{v:=.iface t v,recovered:=false}]) (act n (zT ds n l) D pm ro) h) B w0 kl F)
 (hx:ev l x=.iface t v:=by rfl) (hg:bZ l g=true:=by rfl):R (λh=>aG P ds (⟨⟨dst,g,.panic x⟩,re⟩::rest) (act n l D pm ro) h K) B w0 kl F:=λw s=>aav hg hx (next w s)
theorem ab0{f:Operand}{args:List Operand}
 (next:R (λh=>aG P ds rest (act n l ({target:=.fn fn ⟨captured⟩,args:=⟨first++vs⟩}::D) pm none) h K) B w0 kl F)
 (hf:ev l f=.func fn ⟨first⟩ ⟨captured⟩:=by rfl) (hx:EvL (ev l) args vs:=by repeat (first|with_reducible exact EvL.nil|((with_reducible apply EvL.cons);(conv=>lhs;whnf)))) (hg:bZ l g=true:=by rfl):
 R (λh=>aG P ds (⟨⟨none,g,.dcall f args⟩,[]⟩::rest) (act n l D pm none) h K) B w0 kl F:=λw s=>by
 refine aaw hg rfl hf ?_;rw[hx.map];exact next w s
variable{m:FrameMode}
theorem RH{m':FrameMode}(he:jy m=(v,m'))
 (next:R (λh=>aG P ds rest (act n ((d,v)::l) D (some m') none) h K) B w0 kl F) (hn:Nat.blt d n=true:=by rfl) (hg:bZ l g=true:=by rfl):
 R (λh=>aG P ds (⟨⟨some d,g,.recover⟩,[]⟩::rest) (act n l D (some m) none) h K) B w0 kl F:=λw s=>by
 refine aax hn hg rfl ?_;rw[he];exact next w s
def RL(P:Program)(cf:gU)(l:List (Nat×Value))(D:List Deferred)(m:FrameMode)(Kr:iP->IH->Prop)(B:List Nat)(w0:Wd)(kl:List OA)(F:List aK):Prop:=∀w,St B w0 kl F w->LEAVE P cf (iQ l) D m w.h Kr
theorem Ep{cf:gU}{Kr:KR}{o:Out}(h:RL P cf l D m (λr h=>Kr r pm h) B w0 kl F)(hm:tY o=some m:=by rfl):R (λh=>ry P cf Kr o (act n l D pm ro) h) B w0 kl F:=λw s=>by
 show(match tY o with
  |none=>False
  |some m=>LEAVE P cf (iQ l) D m w.h λr h''=>Kr r pm h'')
 rw[hm];exact h w s
variable {cf:gU} {Kr:iP->IH->Prop}
theorem ab1(hk:∀w,St B w0 kl F w->Kr (.ok (uA vs)) w.h)(hr:RS l kl cf.results vs:=by exact BN):RL P cf l [] .returning Kr B w0 kl F:=λw s=>by
 refine .ret (uA vs) ?_ (hk w s);unfold qh;rw[hr.all s];exact sX
theorem RI{args:List Value}{ret:Y->iP}{md:Y->FrameMode}{k1':Y->List OA}{fs:Y->List aK}{pr:Y->Prop}{eU:Y->List OA}{F2:Y->List aK}
 (hc:H8 P fn args captured m k1 F1 ret md k1' fs pr)
 (next:∀y v,pr y->ret y=.ok v->RL P cf l D (xY (md y)) Kr B w0 (eU y) (F2 y))
 (Eo:∀y ch,pr y->ret y=.fJ ch->RL P cf l D (Be (md y) ch) Kr B w0 (eU y) (F2 y))
 (hk:aI k1 kl bG:=by exact oK) (hF:Sub F1 F:=by exact oJ) (hk2:∀y,bR (k1' y) bG (eU y):=by intro y;repeat (first|exact bR.nil|apply bR.cons|exact bR.self|exact bR.app)) (hF2:∀y,bR (fs y) F (F2 y):=by intro y;repeat (first|exact bR.nil|apply bR.cons|exact bR.self|exact bR.app)) (hm:m≠.run:=by intro e;cases e):
 RL P cf l ({target:=.fn fn ⟨captured⟩,args:=⟨args⟩}::D) m Kr B w0 kl F:=λw s=>by
 obtain⟨S1,s1,back⟩:=s.H9 hk hF;refine .call hm _ (hc S1 w s1) ?_ ?_ ?_
 ·rintro r p h' ⟨w',y,e,_⟩ hp;rw[e]at hp;cases hp
 ·rintro v m' h' ⟨w',y,e,rfl,c,hv,hpr⟩;injection e with e;subst e;have:=next y v hpr hv.symm w' CN
  exact this
 ·rintro ch m' h' ⟨w',y,e,rfl,c,hv,hpr⟩;injection e with e;subst e;exact Eo y ch hpr hv.symm w' CN
variable{eU:List OA}
theorem z8{o:Out}{ret:Y->iP}{k1:Y->List OA}{fs:Y->List aK}{pr:Y->Prop}(y:Y)(hv:ret y=.ok (uA vs))(hp:pr y)(hD:jQ kl D eU:=by repeat (first|exact jQ.nil|(apply jQ.cons;(focus (repeat (first|with_reducible exact ay.here|with_reducible apply ay.there|with_reducible apply ay.app))))))
 (hr:RS l eU cf.results vs:=by exact BN) (hk:aI (k1 y) eU bG:=by exact oK) (hF:Sub (fs y) F:=by exact oJ) (ho:o=.normal\/o=.ret:=by first|exact .inl rfl|exact .inr rfl):
 R (λh=>ry P cf (zZ B w0 ret k1 fs pr) o (act n l D none ro) h) B w0 kl F:=by
 refine Ep (m:=.returning) ?_ (by rcases ho with rfl|rfl<;>rfl);intro w s;refine jQ.leave hD (λw' s'=>⟨uA vs,?_,rfl,w',y,rfl,((s'.j4 hk).drop).sub hF,hv.symm,hp⟩) w s;unfold qh;rw[hr.all s'];match vs with
 |[]=>rfl
 |[v]=>rfl
 |_::_::_=>rfl
theorem jQ.RJ{ts:T Value}{ch:List PanicEntry}:∀{D:List Deferred} {kl eU:List OA},jQ kl D eU->(∀w',St B w0 eU F w'->Kr (.fJ ch) w'.h)->∀w,St B w0 kl F w->LEAVE P cf ts D (.panicking ch) w.h Kr
 |_,_,_,.nil,hk,w,s=>.fJ ch (hk w s)
 |_,_,_,.cons (r:=r) h t,hk,w,s=>by
  have s1:=s.gK h;refine .coll AF r s1.get.1 ?_;exact jQ.RJ t hk _ (s1.write (o':=.iY false)).tail
theorem Aa{ch:List PanicEntry}{ret:Y->iP}{k1:Y->List OA}{fs:Y->List aK}{pr:Y->Prop}(y:Y)(hv:ret y=.fJ ch)(hp:pr y)(hD:jQ kl D eU:=by repeat (first|exact jQ.nil|(apply jQ.cons;(focus (repeat (first|with_reducible exact ay.here|with_reducible apply ay.there|with_reducible apply ay.app))))))
 (hk:aI (k1 y) eU bG:=by exact oK) (hF:Sub (fs y) F:=by exact oJ):
 R (λh=>ry P cf (zZ B w0 ret k1 fs pr) (.panic ch) (act n l D none ro) h) B w0 kl F:=by
 refine Ep (m:=.panicking ch) ?_;intro w s;exact jQ.RJ hD (λw' s'=>⟨rfl,w',y,rfl,((s'.j4 hk).drop).sub hF,hv.symm,hp⟩) w s
theorem RN{o:Out}{ret:Y->iP}{md:Y->FrameMode}{k1:Y->List OA}{fs:Y->List aK}{pr:Y->Prop}(y:Y)(hv:ret y=.ok (uA vs))(hm:md y=m)(hp:pr y)(hD:jQ kl D eU:=by repeat (first|exact jQ.nil|(apply jQ.cons;(focus (repeat (first|with_reducible exact ay.here|with_reducible apply ay.there|with_reducible apply ay.app))))))
 (hr:RS l eU cf.results vs:=by exact BN) (hk:aI (k1 y) eU bG:=by exact oK) (hF:Sub (fs y) F:=by exact oJ) (ho:o=.normal\/o=.ret:=by first|exact .inl rfl|exact .inr rfl):
 R (λh=>ry P cf (Mk B w0 ret md k1 fs pr) o (act n l D (some m) ro) h) B w0 kl F:=by
 refine Ep (m:=.returning) ?_ (by rcases ho with rfl|rfl<;>rfl);intro w s;refine jQ.leave hD (λw' s'=>⟨uA vs,?_,w',y,by rw[hm],rfl,((s'.j4 hk).drop).sub hF,hv.symm,hp⟩) w s;unfold qh;rw[hr.all s'];match vs with
 |[]=>rfl
 |[v]=>rfl
 |_::_::_=>rfl
theorem RO{ret:Y->iP}{k1:Y->List OA}{fs:Y->List aK}{pr:Y->Prop}(y:Y)(hv:ret y=.ok (uA vs))(hp:pr y)(hr:RS l kl cf.results vs:=by exact BN)(hk:aI (k1 y) kl bG:=by exact oK)(hF:Sub (fs y) F:=by exact oJ):
 RL P cf l [] .returning (λr h=>zZ B w0 ret k1 fs pr r none h) B w0 kl F:=
 ab1 (λw s=>⟨rfl,w,y,rfl,((s.j4 hk).drop).sub hF,hv.symm,hp⟩) hr
end
end Go.Ideal
namespace Go.Ideal
variable {P:Program}
variable{α:Type}
theorem RP{β:Type}(f:α->β)(hf:∀a b,f a=f b->a=b){l1 l2:List α}(h:(l1.map f).Perm (l2.map f)):l1.Perm l2:=by
 classical
 rw[List.perm_iff_count];intro a;have:=h.count_eq (f a);have key:∀l:List α,(l.map f).count (f a)=l.count a:=by
  intro l;induction l with
  |nil=>rfl
  |cons x l ih=>
   rw[ic,List.count_cons,List.count_cons,ih];by_cases e:x=a
   ·subst e;simp
   ·have:¬f x=f a:=λh=>e (hf _ _ h);simp[e,this]
 rw[key,key]at this;exact this
theorem RQ{α β:Type}{f:α->β}:∀{l:List α},(l.map f).Nodup->∀{a b:α},a∈l->b∈l->f a=f b->a=b
 |[],_,a,b,ha,_,_=>by cases ha
 |x::l,h,a,b,ha,hb,e=>by
  rw[ic,wo]at h;obtain⟨hx,hl⟩:=h;rcases dH.1 ha with h1|ha<;>rcases dH.1 hb with h2|hb
  ·rw[h1,h2]
  ·rw[<- h1,e]at hx;exact absurd (JR hb) hx
  ·rw[<- h2,<- e]at hx;exact absurd (JR ha) hx
  ·exact RQ hl ha hb e
def oM{α:Type}[DecidableEq α](a:α):List (α×Value)->Nat->Option (Nat×Value)
 |[],_=>none
 |(b,v)::l,i=>if a=b then some (i,v)else oM a l (i+1)
def dG{α β:Type}[DecidableEq α](a:α):List (α×β)->Option β
 |[]=>none
 |(b,v)::l=>if a=b then some v else dG a l
def upd{α β:Type}[DecidableEq α](a:α)(v:β):List (α×β)->List (α×β)
 |[]=>[(a,v)]
 |(b,u)::l=>if a=b then(a,v)::l else(b,u)::upd a v l
def oN{α:Type}(aX:α->Value)(aj:List (α×Value))(es:List MapEntry):Prop:=es.map (λe=>(e.key,e.val))=aj.map λp=>(aX p.1,p.2)
structure rC(P:Program)(kt:TypeId){α:Type}[DecidableEq α](aX:α->Value):Prop where
 Er:∀a,qO P kt (aX a)=true
 find:∀a aj es,oN aX aj es->sj P kt (aX a) es=some (oM a aj 0)
 same:∀a,Instr.sameBits 10000 (aX a) (aX a)=true
variable{kt:TypeId}
theorem RU{v:Value}(ha:bY v=true)(h:∀b,dV P (Instr.checkKey b 10000 kt v)=some ()):qO P kt v=true:=by
 unfold qO;rw[ha,h true,h false];rfl
theorem Ml{aX:α->Value}{p:α×Value}{aj:List (α×Value)}{es:List MapEntry}(h:oN aX (p::aj) es):∃e es',es=e::es'/\e.key=aX p.1/\e.val=p.2/\oN aX aj es':=by
 cases es with
 |nil=>cases h
 |cons e es=>
  unfold oN at h;rw[ic,ic]at h;injection h with h1 h2;injection h1 with h1 h3;exact⟨e,es,rfl,h1,h3,h2⟩
theorem RV{α:Type}[DecidableEq α]{aX:α->Value}{d:TypeDesc}(hs:∀a b,Instr.sameNow d (aX a) (aX b)=some (decide (a=b)))(a:α):∀(aj:List (α×Value)) (es:List MapEntry) (i:Nat),oN aX aj es->Instr.findNow d (aX a) es i=some (oM a aj i)
 |[],es,i,h=>by
  exact s8
 |p::aj,es,i,h=>by
  obtain⟨e,es',rfl,h1,h2,h3⟩:=Ml h;have ih:=RV hs a aj es' (i+1) h3;show(match Instr.sameNow d (aX a) e.key with
   |some true=>some (some (i,e.val))
   |some false=>Instr.findNow d (aX a) es' (i+1)
   |none=>none)=_
  rw[h1,hs a p.1];unfold oM;by_cases hab:a=p.1
  ·rw[eY hab,if_pos hab,h2]
  ·rw[aS hab,if_neg hab];exact ih
theorem RX[DecidableEq α]{aX:α->Value}{kt:TypeId}{d:TypeDesc}(hu:P.underlying kt=some d)(hs:∀a b,Instr.sameNow d (aX a) (aX b)=some (decide (a=b)))(a:α)(aj:List (α×Value))(es:List MapEntry)(h:oN aX aj es):sj P kt (aX a) es=some (oM a aj 0):=by
 unfold sj Instr.findKey;rw[gY,rq hu];simp only[iV,RV hs a aj es 0 h];rfl
theorem ab2(hu:P.underlying kt=some (.int .i64)):rC P kt (λn:Int=>.int .i64 n) where
 Er a:=RU rfl λb=>by
  exact sC
 find a aj es h:=RX hu (λa b=>by
  show(if IntKind.i64=IntKind.i64 then some (a==b)else none)=_;rw[if_pos rfl];congr 1) a aj es h
 same a:=by
  show(IntKind.i64==IntKind.i64&&a==a)=true;simp
theorem bytes_beq(a b:ByteArray):(a==b)=decide (a=b):=by
 have:(a==b)=(a.data==b.data):=rfl;rw[this];by_cases h:a=b
 ·subst h;simp
 ·rw[aS h];cases hb:a.data==b.data with
  |false=>rfl
  |true=>exact absurd (ByteArray.ext (eq_of_beq hb)) h
theorem ab3(hu:P.underlying kt=some .string):rC P kt (λs:ByteArray=>.string s) where
 Er a:=RU rfl λb=>by
  exact sC
 find a aj es h:=RX hu (λa b=>by
  show some (a==b)=_;rw[bytes_beq]) a aj es h
 same a:=by
  show(a==a)=true;rw[bytes_beq];simp
theorem RY{α:Type}[DecidableEq α](a:α):∀(aj:List (α×Value)) (i:Nat),(oM a aj i).map (·.2)=dG a aj
 |[],_=>rfl
 |(b,v)::l,i=>by
  unfold oM dG;by_cases h:a=b
  ·rw[if_pos h,if_pos h];rfl
  ·rw[if_neg h,if_neg h];exact RY a l (i+1)
theorem RZ[DecidableEq α]{aX:α->Value}{kt:TypeId}(hk:rC P kt aX){h:IH}{m zero:Value}{ok:Bool}{a:α}{aj:List (α×Value)}{es:List MapEntry}(he:entriesOf m h=some es)(ho:oN aX aj es):
 zu P kt zero m (aX a) ok h=some (match dG a aj with
  |some v=>cond ok (.tuple #[v,.bool true]) v
  |none=>cond ok (.tuple #[zero,.bool false]) zero):=by
 unfold zu;simp only[he,hk.Er,cond_true,hk.find a aj es ho];have:=RY a aj 0;cases hf:oM a aj 0 with
 |none=>rw[hf]at this;rw[<- this];rfl
 |some p=>rw[hf]at this;rw[<- this];rfl
theorem R3{α:Type}[DecidableEq α](a:α):∀(aj:List (α×Value)) (i j:Nat) (v:Value),oM a aj i=some (j,v)->∃k,j=i+k/\aj[k]? =some (a,v)/\∀u,upd a u aj=aj.set k (a,u)
 |[],i,j,v,h=>by cases h
 |(b,w)::l,i,j,v,h=>by
  unfold oM at h;split at h
  ·rename_i hab;subst hab;cases h;exact⟨0,rfl,rfl,λu=>by simp[upd]⟩
  ·rename_i hab;obtain⟨k,h1,h2,h3⟩:=R3 a l (i+1) j v h;exact⟨k+1,vj,by simpa using h2,λu=>by simp[upd,if_neg hab,h3]⟩
theorem R4{α:Type}[DecidableEq α](a:α):∀(aj:List (α×Value)) (i:Nat),oM a aj i=none->(∀p∈aj,a≠p.1)/\∀u,upd a u aj=aj++[(a,u)]
 |[],i,h=>⟨λp hp=>(by cases hp),λu=>rfl⟩
 |(b,w)::l,i,h=>by
  unfold oM at h;split at h
  ·cases h
  ·rename_i hab;obtain⟨h1,h2⟩:=R4 a l (i+1) h;refine⟨λp hp=>?_,λu=>by simp[upd,if_neg hab,h2]⟩;rcases dH.1 hp with rfl|hp
   ·exact hab
   ·exact h1 p hp
structure Ab{α:Type}(aX:α->Value)(aj:List (α×Value))(es:List MapEntry)(clock:Nat):Prop where
 sP:oN aX aj es
 lt:∀e∈es,e.born<clock
 nd:(es.map (·.born)).Nodup
 keys:(aj.map (·.1)).Nodup
theorem ab4[DecidableEq α]{aX:α->Value}{kt:TypeId}(hk:rC P kt aX){h:IH}{b:Nat}{a:α}{v:Value}{aj:List (α×Value)}{es:List MapEntry}{clock:Nat}(hg:h.get b=some (.map es clock))(ho:Ab aX aj es clock):
 ∃es' clock',CZ P kt (.map (some b)) (aX a) v h=some (h.set b (.map es' clock'))/\Ab aX (upd a v aj) es' clock':=by
 unfold CZ;simp only[hg,hk.Er,cond_true,hk.find a aj es ho.sP];cases hf:oM a aj 0 with
 |none=>
  obtain⟨h1,h2⟩:=R4 a aj 0 hf;refine⟨_,_,rfl,?_⟩;rw[h2,jF];refine⟨?_,λe he=>?_,?_,?_⟩
  ·unfold oN;rw[fD,fD,ho.sP];rfl
  ·rcases dW.1 he with he|he
   ·exact JO (ho.lt e he)
   ·rw[bK.1 he];exact wh _
  ·rw[fD,gX];refine⟨ho.nd,vm,λx hx y hy e=>?_⟩;obtain⟨e0,he0,rfl⟩:=eG.1 hx;have:y=clock:=by simpa using hy
   have:=ho.lt e0 he0;omega
  ·rw[fD,gX];refine⟨ho.keys,vm,λx hx y hy e=>?_⟩;obtain⟨p,hp,rfl⟩:=eG.1 hx;have:y=a:=by simpa using hy
   exact h1 p hp (by rw[e,this])
 |some p=>
  obtain⟨j,u⟩:=p;obtain⟨k,rfl,h2,h3⟩:=R3 a aj 0 j u hf;rw[fC];have hlen:es.length=aj.length:=by
   have:=congrArg List.length ho.sP;simpa using this
  have hk':=(bC.1 h2).1;have Mm:es[k]? =some es[k]:=bW vj;have hkey:es[k].key=aX a:=by
   have:=congrArg (λl=>l[k]?) ho.sP;simp only[dK,Mm,h2,jU]at this;injection this with this;injection this
  simp only[ql,Mm,hkey,hk.same,cond_true];refine⟨_,_,rfl,?_⟩;rw[h3,Pn];refine⟨?_,λe he=>?_,?_,?_⟩
  ·unfold oN;apply jv;intro i;have:=congrArg (λl=>l[i]?) ho.sP;simp only[dK]at this;simp only[dK,List.getElem?_modify,o9];by_cases hi:k=i
   ·subst hi;simp[Mm,hk']
   ·rw[if_neg hi];cases he:es[i]? with
    |none=>rw[he]at this;simp only[Option.map_none]at this⊢;simp[hi,<- this]
    |some e=>rw[he]at this;simp only[jU]at this⊢;simp[hi,<- this]
  ·obtain⟨i,he⟩:=uW.1 he;rw[List.getElem?_modify]at he;cases Mo:es[i]? with
   |none=>rw[Mo]at he;simp at he
   |some e0=>
    rw[Mo]at he;have hlt:=ho.lt e0 (aP Mo);injection he with he;rw[<- he];split<;>exact hlt
  ·have:(es.modify k λe=>{e with key:=aX a,val:=v}).map (·.born)=es.map (·.born):=by
    apply jv;intro i;simp only[dK,List.getElem?_modify];cases es[i]? with
    |none=>rfl
    |some e=>simp only[jU];split<;>rfl
   rw[this];exact ho.nd
  ·have:(aj.set k (a,v)).map (·.1)=aj.map (·.1):=by
    apply jv;intro i;simp only[dK,o9];by_cases hi:k=i
    ·subst hi;rw[if_pos rfl,if_pos hk',h2];rfl
    ·rw[if_neg hi]
   rw[this];exact ho.keys
def gI{α:Type}(aX:α->Value)(b:Nat)(aj:List (α×Value)):OA:=⟨λw S=>S=[b]/\∃es clock,w.h.get b=some (.map es clock)/\Ab aX aj es clock,λa h ⟨h1,es,clock,h2,h3⟩=>⟨h1,es,clock,by rw[h b zd];exact h2,h3⟩⟩
def wX{α:Type}(aX:α->Value)(b:Nat)(aj:List (α×Value)):aK:=⟨λw=>w.z b/\∃es clock,w.h.get b=some (.map es clock)/\Ab aX aj es clock,λa ⟨h1,es,clock,h2,h3⟩=>⟨a.z b h1,es,clock,by rw[a.get b h1];exact h2,h3⟩⟩
theorem BX{aX:α->Value}{b:Nat}{aj:List (α×Value)}:uz (gI aX b aj) [wX aX b aj]:=by
 intro w w' S ⟨h1,es,clock,h2,h3⟩ hle hh hz f hf;rw[bK.1 hf];exact⟨hz b zd,es,clock,by rw[hh];exact h2,h3⟩
section
variable {B:List Nat} {w0:Wd} {kl kl' bG:List OA} {F:List aK} {K:KO} {ds:List Tmp} {rest:List bT} {n:Nat} {l:List (Nat×Value)} {D:List Deferred} {pm:Option FrameMode} {ro:Option Nat} {d:Nat} {g:Option (Tmp×Bool)}
variable {α:Type} [DecidableEq α] {aX:α->Value}
variable{aj:List (α×Value)}{b:Nat}
theorem St.R5{w:Wd}(h:St B w0 (gI aX b aj::kl) F w):∃es clock,Ab aX aj es clock/\St B w0 (pt b (.map es clock)::kl) F w:=by
 obtain⟨S,⟨S1,S2,⟨q1,es,clock,q3,q4⟩,q2,e⟩,h2,h3⟩:=h.own;exact⟨es,clock,q4,h.agree,h.le,h.gF,⟨S,⟨S1,S2,⟨q1,q3⟩,q2,e⟩,h2,h3⟩,h.facts⟩
theorem yH(aX:α->Value)
 (next:∀b,R (λh=>aG P ds rest (act n ((d,.map (some b))::l) D pm ro) h K) B w0 (gI aX b []::kl) F) (hn:Nat.blt d n=true:=by rfl) (hg:bZ l g=true:=by rfl):
 R (λh=>aG P ds (⟨⟨some d,g,.uY⟩,[]⟩::rest) (act n l D pm ro) h K) B w0 kl F:=λw s=>
 lW hn hg (h':=w.h.new (.map [] 0)) (by simp only[aB.run,aB.alloc,qQ]) (next w.h.next (w.new _) ((s.new _).zW (A:=pt w.h.next (.map [] 0)) (A':=gI aX w.h.next []) λw S hp=>⟨hp.1,[],0,hp.2,⟨rfl,λe he=>(by cases he),wy,wy⟩⟩))
def kG{α:Type}[DecidableEq α](ok:Bool)(zero:Value)(a:α)(aj:List (α×Value)):Value:=match dG a aj with
 |some v=>cond ok (.tuple #[v,.bool true]) v
 |none=>cond ok (.tuple #[zero,.bool false]) zero
variable{m k:Operand}{kt:TypeId}{zero:Value}{ok:Bool}
theorem R6(hk:rC P kt aX)(a:α)
 (next:R (λh=>aG P ds rest (act n ((d,kG ok zero a aj)::l) D pm ro) h K) B w0 kl F)
 (hm:ev l m=.map (some b):=by rfl) (ha:ev l k=aX a:=by conv=>lhs;whnf) (hf:wX aX b aj∈F:=by exact vF) (hn:Nat.blt d n=true:=by rfl) (hg:bZ l g=true:=by rfl):
 R (λh=>aG P ds (⟨⟨some d,g,.lookup kt zero m k ok⟩,[]⟩::rest) (act n l D pm ro) h K) B w0 kl F:=λw s=>by
 obtain⟨_,es,clock,h1,h2⟩:=s.facts _ hf;refine lW hn hg (v:=kG ok zero a aj) ?_ (next w s);have:zu P kt zero (.map (some b)) (aX a) ok w.h=_:=RZ hk (by simp only[entriesOf,h1]) h2.sP;simp only[aB.run,hm,ha,this];rfl
theorem Es(hk:rC P kt aX)(a:α)
 (next:R (λh=>aG P ds rest (act n ((d,kG ok zero a aj)::l) D pm ro) h K) B w0 kl F)
 (hm:ev l m=.map (some b):=by rfl) (ha:ev l k=aX a:=by conv=>lhs;whnf) (hs:ay (gI aX b aj) kl kl':=by exact iw) (hn:Nat.blt d n=true:=by rfl) (hg:bZ l g=true:=by rfl):
 R (λh=>aG P ds (⟨⟨some d,g,.lookup kt zero m k ok⟩,[]⟩::rest) (act n l D pm ro) h K) B w0 kl F:=λw s=>by
 obtain⟨es,clock,h2,s1⟩:=(s.gK hs).R5;refine lW hn hg (v:=kG ok zero a aj) ?_ (next w s);have:zu P kt zero (.map (some b)) (aX a) ok w.h=_:=RZ hk (by simp only[entriesOf,s1.get.1]) h2.sP;simp only[aB.run,hm,ha,this];rfl
variable{x:Operand}
theorem wY{v:Value}(hk:rC P kt aX)(a:α)
 (next:R (λh=>aG P ds rest (act n l D pm ro) h K) B w0 (gI aX b (upd a v aj)::kl') F)
 (hm:ev l m=.map (some b):=by rfl) (ha:ev l k=aX a:=by conv=>lhs;whnf) (hv:ev l x=v:=by conv=>lhs;whnf) (hs:ay (gI aX b aj) kl kl':=by exact iw) (hg:bZ l g=true:=by rfl):
 R (λh=>aG P ds (⟨⟨none,g,.FQ kt m k x⟩,[]⟩::rest) (act n l D pm ro) h K) B w0 kl F:=λw s=>by
 obtain⟨es,clock,h2,s1⟩:=(s.gK hs).R5;obtain⟨es',clock',e1,e2⟩:=ab4 (v:=v) hk (a:=a) s1.get.1 h2;refine LD hg (v:=dO) (h':=w.h.set b (.map es' clock')) ?_ (next _ ((s1.write (o':=.map es' clock')).zW (A:=pt b (.map es' clock')) (A':=gI aX b (upd a v aj)) λw S hp=>⟨hp.1,es',clock',hp.2,e2⟩));simp only[aB.run,hm,ha,hv,e1]
variable{es:List MapEntry}
theorem R7{clock:Nat}(h:Ab aX aj es clock):es.length=aj.length:=by
 have:=congrArg List.length h.sP;simpa using this
def BZ{α:Type}(aX:α->Value)(r b:Nat)(aj kH:List (α×Value)):OA:=⟨λw S=>S=[r]/\∃es clock seen last,w.h.get b=some (.map es clock)/\w.z b/\Ab aX aj es clock/\w.h.get r=some (.mapIter (some b) clock seen last)/\last=clock/\
 (∃ve rem:List MapEntry,oN aX kH ve/\ve.map (·.born)=seen/\(ve++rem).Perm es),
 λa h ⟨h1,es,clock,seen,last,h2,h3,h4,h5,h6,h7⟩=>⟨h1,es,clock,seen,last,by rw[a.get b h3];exact h2,a.z b h3,h4,by rw[h r zd];exact h5,h6,h7⟩⟩
theorem ab5
 (next:∀r,R (λh=>aG P ds rest (act n ((d,.pointer (some ⟨r,0,none⟩))::l) D pm ro) h K) B w0 (BZ aX r b aj []::kl) F)
 (hm:ev l m=.map (some b):=by rfl) (hf:wX aX b aj∈F:=by exact vF) (hn:Nat.blt d n=true:=by rfl) (hg:bZ l g=true:=by rfl):
 R (λh=>aG P ds (⟨⟨some d,g,.rangeMap m⟩,[]⟩::rest) (act n l D pm ro) h K) B w0 kl F:=λw s=>by
 obtain⟨hz,es,clock,h1,h2⟩:=s.facts _ hf;refine lW hn hg (h':=w.h.new (.mapIter (some b) clock [] clock)) (by simp only[aB.run,hm,h1]) (next w.h.next (w.new _) ?_);have s1:=s.new (.mapIter (some b) clock [] clock);obtain⟨hz',es',clock',h1',h2'⟩:=s1.facts _ hf;refine s1.BI λS hp=>⟨hp.1,es',clock',[],clock,h1',hz',h2',?_,?_,[],es',rfl,rfl,.refl _⟩
 ·have:clock'=clock:=by
   have e:(w.new (.mapIter (some b) clock [] clock)).h.get b=w.h.get b:=by
    exact tw
   rw[e,h1]at h1';injection h1' with h1';injection h1' with _ h1';exact h1'.symm
  rw[this];exact hp.2
 ·have e:(w.new (.mapIter (some b) clock [] clock)).h.get b=w.h.get b:=by
   exact tw
  rw[e,h1]at h1';injection h1' with h1';injection h1' with _ h1'
theorem ab6{ve rem:List MapEntry}(hp:(ve++rem).Perm es)(hn:(es.map (·.born)).Nodup):(es.filter λe=>!(ve.map (·.born)).contains e.born).Perm rem:=by
 have hp2:((ve++rem).filter λe=>!(ve.map (·.born)).contains e.born).Perm (es.filter λe=>!(ve.map (·.born)).contains e.born):=hp.filter _;rw[FJ]at hp2;have h1:ve.filter (λe=>!(ve.map (·.born)).contains e.born)=[]:=by
  rw[List.filter_eq_nil_iff];intro e he;simp only[FD,Bool.not_eq_false',List.contains_eq_mem,zh];simp;exact⟨e,he,rfl⟩
 have hnd:((ve++rem).map (·.born)).Nodup:=(hp.map _).nodup_iff.2 hn;rw[fD,gX]at hnd;have h2:rem.filter (λe=>!(ve.map (·.born)).contains e.born)=rem:=by
  rw[List.filter_eq_self];intro e he;simp only[FD,List.contains_eq_mem,decide_eq_false_iff_not];intro hm;exact hnd.2.2 _ hm _ (JR he) rfl
 rw[h1,h2,dX]at hp2;exact hp2.symm
variable{kH:List (α×Value)}{r:Nat}
theorem ab7
 (more:∀p rem,(kH++p::rem).Perm aj->R (λh=>aG P ds rest (act n ((d,.tuple #[.bool true,aX p.1,p.2])::l) D pm ro) h K) B w0 (BZ aX r b aj (kH++[p])::kl') F)
 (done:kH.Perm aj->R (λh=>aG P ds rest (act n ((d,.tuple #[.bool false])::l) D pm ro) h K) B w0 (BZ aX r b aj kH::kl') F)
 (inj:∀a c,aX a=aX c->a=c)
 (hx:ev l x=.pointer (some ⟨r,0,none⟩):=by rfl) (hs:ay (BZ aX r b aj kH) kl kl':=by exact iw) (hn:Nat.blt d n=true:=by rfl) (hg:bZ l g=true:=by rfl):
 R (λh=>aG P ds (⟨⟨some d,g,.wC x⟩,[]⟩::rest) (act n l D pm ro) h K) B w0 kl F:=λw s0=>by
 have s:=s0.gK hs;obtain⟨S,⟨S1,S2,⟨q1,es,clock,seen,last,h1,hz,h2,h3,h4,ve,rem,h5,h6,h7⟩,q2,eS⟩,hnd,hown⟩:=s.own;subst h4 h6;have hpl:=ab6 h7 h2.nd;have hold:((es.filter λe=>!(ve.map (·.born)).contains e.born).filter λe=>Nat.blt e.born last)=es.filter λe=>!(ve.map (·.born)).contains e.born:=by
  rw[List.filter_eq_self];intro e he;have:=h2.lt e (rY.1 he).1;rw[rV];exact this
 have hnew:((es.filter λe=>!(ve.map (·.born)).contains e.born).filter λe=>Nat.ble last e.born)=[]:=by
  rw[List.filter_eq_nil_iff];intro e he;have:=h2.lt e (rY.1 he).1;rw[uR];omega
 have hcl:(!(ve.map (·.born)).isEmpty&&!es.isEmpty&&es.all (λe=>Nat.ble last e.born))=false:=by
  cases es with
  |nil=>simp
  |cons e es=>
   have:=h2.lt e (cZ ..);have:Nat.ble last e.born=false:=by
    cases hb:Nat.ble last e.born with
    |false=>rfl
    |true=>rw[uR]at hb;omega
   simp[this]
 have ab8:zz (ev l x) w.h=some ((if(es.filter λe=>!(ve.map (·.born)).contains e.born).isEmpty then[(.tuple #[.bool false],w.h)]else[])++
  (es.filter λe=>!(ve.map (·.born)).contains e.born).map λe=>(.tuple #[.bool true,e.key,e.val],w.h.set r (.mapIter (some b) last (ve.map (·.born)++[e.born]) last))):=by
  rw[hx];unfold zz;simp only[h3,h1];rw[hcl];simp only[cond_false,hold,hnew,iI]
 -- a pair for an entry
 have ajb:∀(ajc:List MapEntry) (ajd:List (α×Value)),True:=λ_ _=>trivial;refine .next (vD hg) x rfl rfl _ (by rw[ng];exact ab8) ?_
 intro vh hm;rcases dW.1 hm with hm|hm
 ·split at hm
  ·rename_i hemp;rw[bK.1 hm,pJ hn];have ab9:rem=[]:=by
    have:(es.filter λe=>!(ve.map (·.born)).contains e.born)=[]:=by simpa using hemp
    rw[this]at hpl;exact List.nil_perm.1 hpl|>λh=>h
   refine done ?_ w s;subst ab9;rw[iI]at h7;have hm1:=h7.map (λe=>(e.key,e.val));rw[h5,h2.sP]at hm1;exact RP (λp:α×Value=>(aX p.1,p.2)) (λp q hpq=>by
    injection hpq with e1 e2;exact Prod.ext (inj _ _ e1) e2) hm1
  ·cases hm
 ·obtain⟨e,he,rfl⟩:=eG.1 hm;have hr:e∈rem:=hpl.mem_iff.1 he;obtain⟨r1,r2,acd⟩:=List.append_of_mem hr
  -- the pair
  obtain⟨i,hi,hie⟩:∃i,i<aj.length/\es[i]? =some e:=by
   obtain⟨i,hi⟩:=uW.1 (rY.1 he).1;have:=(bC.1 hi).1;rw[R7 h2]at this;exact⟨i,this,hi⟩
  have hpe:(e.key,e.val)=(aX aj[i].1,aj[i].2):=by
   have:=congrArg (λl=>l[i]?) h2.sP;simp only[dK,hie,bW hi,jU]at this;injection this
  injection hpe with hpk hpv;rw[pJ hn,hpk,hpv];have hperm:(ve++[e]++(r1++r2)).Perm es:=by
   refine List.Perm.trans ?_ h7;rw[acd,fU];refine List.Perm.append_left _ ?_;exact(List.perm_middle (l₁:=r1) (l₂:=r2) (a:=e)).symm
  have Et:oN aX (kH++[aj[i]]) (ve++[e]):=by
   unfold oN;rw[fD,fD,h5];simp[hpk,hpv]
  obtain⟨Mq,ace⟩:∃Mq:List (α×Value),(kH++aj[i]::Mq).Perm aj:=by
   have hm1:=hperm.map (λe=>(e.key,e.val));rw[fD,Et,h2.sP]at hm1;have hex:∀ls:List MapEntry,(∀x∈ls,∃p:α×Value,(x.key,x.val)=(aX p.1,p.2))->∃ps:List (α×Value),ls.map (λe=>(e.key,e.val))=ps.map λp=>(aX p.1,p.2):=by
    intro ls;induction ls with
    |nil=>intro _;exact⟨[],rfl⟩
    |cons x ls ih=>
     intro h;obtain⟨p,hp⟩:=h x (cZ ..);obtain⟨ps,hps⟩:=ih λy hy=>h y (dA _ hy);exact⟨p::ps,by rw[ic,ic,hp,hps]⟩
   obtain⟨ps,hps⟩:=hex (r1++r2) (λy hy=>by
    have hy':y∈es:=hperm.mem_iff.1 (oF _ hy);obtain⟨j,hj⟩:=uW.1 hy';have hj':=(bC.1 hj).1;rw[R7 h2]at hj';have:=congrArg (λl=>l[j]?) h2.sP;simp only[dK,hj,bW hj',jU]at this;injection this with this;exact⟨_,this⟩)
   rw[hps,<- fD]at hm1;refine⟨ps,?_⟩;have:=RP (λp:α×Value=>(aX p.1,p.2)) (λp q hpq=>by
    injection hpq with e1 e2;exact Prod.ext (inj _ _ e1) e2) hm1
   rwa [fU]at this
  refine more aj[i] Mq ace ⟨w.h.set r (.mapIter (some b) last (ve.map (·.born)++[e.born]) last),w.z,λi hi=>w.ni i hi⟩ ?_
  -- the state behind the step
  have s2:St B w0 (pt r (.mapIter (some b) last (ve.map (·.born)) last)::kl') F w:=⟨s.agree,s.le,s.gF,⟨S,⟨S1,S2,⟨q1,h3⟩,q2,eS⟩,hnd,hown⟩,s.facts⟩
  have s3:=s2.write (o':=.mapIter (some b) last (ve.map (·.born)++[e.born]) last);refine s3.BI λS' hp=>⟨hp.1,es,last,_,last,?_,hz,h2,hp.2,rfl,ve++[e],r1++r2,Et,by rw[fD];rfl,hperm⟩
  have hrb:r≠b:=λer=>by
   have:=s2.own;obtain⟨S0,⟨T1,T2,⟨u1,_⟩,_,ue⟩,_,ho⟩:=this;exact(ho r (by rw[ue,u1];simp)).2.2 (er▸hz)
  show(w.h.set r _).get b=_;rw[IH.mZ,if_neg (λer=>hrb er.symm)];exact h1
theorem acf{p:α×Value}
 (next:R (λh=>aG P ds rest (act n ((d,.tuple #[aX p.1,p.2])::l) D pm ro) h K) B w0 kl F)
 (hx:ev l x=.pointer (some ⟨r,0,none⟩):=by rfl) (hs:ay (BZ aX r b aj (kH++[p])) kl kl':=by exact iw) (hn:Nat.blt d n=true:=by rfl) (hg:bZ l g=true:=by rfl):
 R (λh=>aG P ds (⟨⟨some d,g,.entry x⟩,[]⟩::rest) (act n l D pm ro) h K) B w0 kl F:=λw s0=>by
 have s:=s0.gK hs;obtain⟨S,⟨S1,S2,⟨q1,es,clock,seen,last,h1,hz,h2,h3,h4,ve,rem,h5,h6,h7⟩,q2,e⟩,hnd,hown⟩:=s.own;subst h4 h6;obtain⟨R8,x0,Et,hx0,hx1⟩:∃R8 x0,ve=R8++[x0]/\x0.key=aX p.1/\x0.val=p.2:=by
  unfold oN at h5;rw[fD]at h5;obtain⟨a1,a2,e1,e2,e3⟩:=List.map_eq_append_iff.1 h5;obtain⟨x0,a3,e4,e5,e6⟩:=List.map_eq_cons_iff.1 e3;have:a3=[]:=by simpa using e6
  subst this;injection e5 with e5 e7;exact⟨a1,x0,by rw[e1,e4],e5,e7⟩
 have hfind:es.find? (λy=>Nat.beq y.born x0.born)=some x0:=by
  have hm:x0∈es:=h7.mem_iff.1 (jW _ (by rw[Et];simp));cases hf:es.find? (λy=>Nat.beq y.born x0.born)with
  |none=>
   have:=List.find?_eq_none.1 hf x0 hm;simp[ahD]at this
  |some y=>
   have hy:=List.find?_some hf;have hym:=OV hf;have hb:y.born=x0.born:=p9 hy;congr 1;exact RQ h2.nd hym hm hb
 refine lW hn hg (v:=.tuple #[aX p.1,p.2]) ?_ (next w s0);simp only[aB.run,hx,h3,h1];rw[Et];simp only[fD,ic,List.map_nil,List.getLast?_append,List.getLast?_singleton,Option.some_or,ahD,cond_true,hfind,hx0,hx1]
end
end Go.Ideal
namespace Go.Ideal
open Go.Sort
variable {P:Program}
theorem WR.grow{β:aC}{h:IH}{w:World}(hW:WR P β h w)(os:Array Obj):WR P β h (grow w os)/\Eff β h w β h (grow w os):=by
 have hold:∀b,b<w.heap.size->(Go.Sort.grow w os).heap[b]? =w.heap[b]?:=λb hb=>by
  show(w.heap++os)[b]? =_;rw[akS hb]
 refine⟨⟨hW.dom,hW.live,λi g o h1 h2=>?_,hW.inj⟩,⟨λ_ _=>rfl,bV _,λ_ _ h=>h,λ_ _ _=>rfl,bV _,λ_ _ _=>rfl,rfl,rfl,rfl,?_,λb hb _=>hold b hb,λi g hg hi=>absurd (hW.dom _ _ hg) vj,λi g _ _ _ _ hb=>hold _ hb,bV _⟩⟩
 ·have hO:=hW.obj i g o h1 h2;exact hO.congr (hold _ hO.lt)
 ·show w.heap.size<=(w.heap++os).size;rw[Array.size_append];omega
def Ia(o:Nat):List Value->Array Value->Array Value
 |[],c=>c
 |v::vs,c=>Ia (o+1) vs (c.setIfInBounds o v)
theorem R9(b:Nat):∀(vs:List Value) (o:Nat) (w:World),w.setCells b o vs=mapBlock w b (Ia o vs)
 |[],o,w=>(mapBlock_id w b _ λc e fr h=>rfl).symm
 |v::vs,o,w=>by
  show(w.setCell ⟨b,o,none⟩ v).setCells b (o+1) vs=_;rw[R9 b vs (o+1),setCell_eq,mapBlock_mapBlock];rfl
theorem Sa:∀(vs:List Value) (o:Nat) (c:Array Value) (k:Nat),(Ia o vs c)[k]? =if o<=k/\k<o+vs.length/\k<c.size then vs[k - o]? else c[k]?
 |[],o,c,k=>by
  rw[if_neg (by rw[CQ];omega)];rfl
 |v::vs,o,c,k=>by
  show(Ia (o+1) vs (c.setIfInBounds o v))[k]? =_;rw[Sa vs (o+1),Array.size_setIfInBounds,oD];by_cases h1:o+1<=k/\k<o+1+vs.length/\k<c.size
  ·rw[if_pos h1,if_pos ⟨vj,vj,h1.2.2⟩];rw[show k - o=(k - (o+1))+1 by omega,qI]
  ·rw[if_neg h1,WE];by_cases h2:o=k
   ·subst h2;rw[if_pos rfl];by_cases h3:o<c.size
    ·rw[if_pos h3,if_pos ⟨bV _,vj,h3⟩,ww];rfl
    ·rw[if_neg h3,if_neg vj];exact(tL vj).symm
   ·rw[if_neg h2,if_neg vj]
theorem setCells_putRow{α:Type}[Inhabited α](enc:α->Value)(w:World)(b o:Nat)(d:Array α):w.setCells b o (d.toList.map enc)=putRow enc w b o d:=by
 rw[R9];unfold putRow;refine mapBlock_congr w b _ _ λc e fr hc=>?_;apply Array.ext_getElem?;intro k;rw[Sa,putCells,Array.getElem?_mapIdx,cz,Array.length_toList];by_cases hk:k<c.size
 ·by_cases h:o<=k/\k<o+d.size
  ·rw[if_pos ⟨h.1,h.2,hk⟩,WJ hk,jU,if_pos h,dK,zg,WJ vj];rw[jU,getElem!_pos d _ vj]
  ·rw[if_neg (λq=>h ⟨q.1,q.2.1⟩),WJ hk,jU,if_neg h]
 ·rw[if_neg vj,tL vj];rfl
def Mr(P:Program)(f:FuncId):Prop:=∀(blk off cap:Nat) (zs:List Int) (w:World),Holds (Value.int .i64) w blk off zs.toArray->blk<w.heap.size->zs.length<4611686018427387904->
 Calls P f #[.slice (some ⟨blk,off,none⟩) zs.length cap] w λe w'=>e=.returned (.tuple #[])/\∃n os,w'=Go.Sort.grow (putRow (Value.int .i64) (Sort.ahead w n) blk off (zs.mergeSort λx y=>decide (x<=y)).toArray) os
def bM(zs:List Int):List Int:=zs.mergeSort λx y=>decide (x<=y)
theorem yI(zs:List Int):(bM zs).length=zs.length:=List.length_mergeSort zs
variable{f:FuncId}
theorem acg(hS:Mr P f){fn:Func}(hfn:P.funcs[f]? =some fn){body:Code}(hb:fn.body=some body)(hname:fn.name≠ "runtime.NumGoroutine"){b o c:Nat}{fl:Option Nat}{zs:List Int}{h h':IH}{cs:List Value}
 (hg:h.get b=some (.cells cs)) (hz:∀(j:Nat) z,zs[j]? =some z->cs[o+j]? =some (.int .i64 z)) (hne:0<zs.length) (hlen:zs.length<4611686018427387904) (hs:h.storeAt b o ((bM zs).map (.int .i64))=some h'):
 mG P ⟨.func f,[.slice (some ⟨b,o,fl⟩) zs.length c],[],none⟩ h (λr pm h2=>pm=none/\r=.ok (.tuple ⟨[]⟩)/\h2=h'):=by
 intro β w fn' args' cap' hG hW hf ha hcap;obtain⟨jN,t1,t2⟩:=Qv (P:=P) (q:=⟨.func f,[.slice (some ⟨b,o,fl⟩) zs.length c],[],none⟩) (f:=f) (args:=[.slice (some ⟨b,o,fl⟩) zs.length c]) B5 hf ha hcap hfn hb hname w;cases t2 with|cons hv tl=>
 cases tl;obtain⟨g,a,c',hi,rfl,hab,_,hn,hcc,hao,_⟩:=hv.nI;have hao:a.off=g.off+o/\a.spot=none:=by
  rcases hao with e|e
  ·omega
  ·exact e
 obtain⟨⟨c0,t0,fz0,hh⟩,q2,q3,q4,q5,q6⟩:=hW.obj b g _ hi hg;have ea:a=⟨g.b,g.off+o,none⟩:=by
  obtain⟨ab,ao,as⟩:=a;simp only at hab hao;rw[hab,hao.1,hao.2]
 subst ea;have hin:∀j,j<zs.length->o+j<cs.length:=λj hj=>(bC.1 (hz j _ (bW hj))).1;have hH:Holds (Value.int .i64) w g.b (g.off+o) zs.toArray:=λj hj=>by
  have hj:j<zs.length:=by simpa using hj
  obtain⟨v',h1,h2⟩:=q6 (o+j) _ (hz j _ (bW hj));have:=h2.mF;subst this;refine⟨?_,(q4 _ (by have:=hin j hj;omega)).2⟩;rw[qb,h1];congr 2;rw[getElem!_pos zs.toArray j (by simpa using hj)];simp
 have hlt:g.b<w.heap.size:=(WG.1 hh).1;have hC:=hS g.b (g.off+o) c' zs w hH hlt hlen;obtain⟨_,w1,w2⟩:=Kl hW hi hs (vs':=(bM zs).map (.int .i64)) (aZ.free (by
  have:∀l:List Int,fO (l.map (Value.int .i64))=true:=by
   intro l;induction l with
   |nil=>rfl
   |cons x l ih=>rw[ic];simp[fO,bY,Ideal.cellV,ih]
  exact this _)) (by
  rw[kR];intro x hx;obtain⟨z,_,rfl⟩:=eG.1 hx;rfl)
 refine⟨_,Frame.enter P f ⟨_⟩ .normal,t1,rfl,λcs0 zO=>?_⟩;obtain⟨e,w',fr,⟨he,k,os,hw'⟩,hcomes,hfr,hlv⟩:=hC cs0;subst he;have hw1:putRow (Value.int .i64) (Sort.ahead w k) g.b (g.off+o) (zs.mergeSort λx y=>decide (x<=y)).toArray=Sort.ahead (w.setCells g.b (g.off+o) ((bM zs).map (.int .i64))) k:=by
  have:=setCells_putRow (Value.int .i64) w g.b (g.off+o) (bM zs).toArray;rw[show(bM zs).toArray.toList=bM zs from rfl]at this;rw[this];rfl
 rw[hw1]at hw';have w3:WR P β h' (Sort.ahead (w.setCells g.b (g.off+o) ((bM zs).map (.int .i64))) k):=w1.uh rfl;have w4:=w2.trans (Eff.uh (w':=Sort.ahead (w.setCells g.b (g.off+o) ((bM zs).map (.int .i64))) k) w1.dom rfl rfl rfl rfl (Nat.le_add_right _ _));obtain⟨w5,w6⟩:=w3.grow os;rw[<- hw']at w5 w6;refine⟨.ok (.tuple ⟨[]⟩),none,h',β,w',.returned (.tuple #[]),cs0,⟨rfl,rfl,rfl⟩,w5,w4.trans w6,.ok (.dO _),.none cs0,.inl ⟨f,_,fr,rfl,hcomes,hfr,hlv.2.2.1,hlv.1,hlv.2.1,hlv.2.2.2⟩⟩
theorem Ms{α:Type}:∀(l:List α) (o:Nat) (xs:List α),o+xs.length<=l.length->∃r,jK l o xs=some r
 |[],o,xs,h=>by
  have h1:xs=[]:=jw.1 (by rw[CQ]at h;omega);have h2:o=0:=by rw[CQ]at h;omega
  exact⟨[],by rw[Pk,if_pos ⟨h1,h2⟩]⟩
 |c::l,0,[],h=>⟨_,Pm c l⟩
 |c::l,0,x::xs,h=>by
  obtain⟨r,hr⟩:=Ms l 0 xs (by simp only[oD]at h;omega);exact⟨x::r,by rw[Kg,hr];rfl⟩
 |c::l,o+1,xs,h=>by
  obtain⟨r,hr⟩:=Ms l o xs (by simp only[oD]at h;omega);exact⟨c::r,by rw[Kh,hr];rfl⟩
theorem ach(hS:Mr P f){fn:Func}(hfn:P.funcs[f]? =some fn){body:Code}(hb:fn.body=some body)(hname:fn.name≠ "runtime.NumGoroutine"){a:Option Addr}{zs:List Int}(hne:0<zs.length)(hlen:zs.length<4611686018427387904):
 aU P (.func f) [.slice a zs.length zs.length] [] [ap ae (.slice a zs.length zs.length) zs] [] (λ_:Unit=>.tuple ⟨[]⟩) (λ_=>[ap ae (.slice a zs.length zs.length) (bM zs)]) (λ_=>[]) (λ_=>True):=by
 intro B w s;obtain⟨S,⟨S1,S2,q1,q2,e⟩,h2,h3⟩:=s.own;rcases q1 with⟨h,_⟩|⟨b,o,fl,cells,e1,hf,e2,hb',hcl,hel⟩
 ·rw[h]at hne;simp at hne
 injection e1 with e1 e1';subst e1;have hcl:cells.length=o+zs.length:=by rw[hcl];simp[ae]
 have hz:∀(j:Nat) z,zs[j]? =some z->cells[o+j]? =some (.int .i64 z):=λj z hj=>by
  obtain⟨y,u1,_⟩:=hel j z hj;exact rS
 have hst:∃cs2,w.h.storeAt b o ((bM zs).map (.int .i64))=some (w.h.set b (.cells cs2))/\cs2.length=cells.length/\∀(k:Nat) z,(bM zs)[k]? =some z->cs2[o+k]? =some (.int .i64 z):=by
  have hov:∃cs2,jK cells o ((bM zs).map (.int .i64))=some cs2:=Ms _ _ _ (by rw[cz,yI];omega);obtain⟨cs2,hl⟩:=hov;obtain⟨l1,l2,l3⟩:=Ki hl;refine⟨cs2,?_,l2,λk z hk=>?_⟩
  ·unfold IH.storeAt;simp only[hb',hl]
  ·rw[l3,if_pos ⟨vj,by have:=(bC.1 hk).1;rw[cz];omega⟩,WI,dK,hk];rfl
 obtain⟨cs2,hst,hl2,aci⟩:=hst;refine .real (Qt _ (acg hS hfn hb hname hb' hz hne hlen hst) ?_);rintro r pm h' ⟨rfl,rfl,rfl⟩;have s1:St B w [pt b (.cells cells)] [] w:=⟨s.agree,s.le,s.gF,⟨S,⟨S1,S2,⟨e2,hb'⟩,q2,e⟩,h2,h3⟩,λf hf=>by cases hf⟩
 refine⟨rfl,⟨w.h.set b (.cells cs2),w.z,λi hi=>w.ni i hi⟩,(),rfl,?_,rfl,trivial⟩;refine(s1.write (o':=.cells cs2)).zW (A:=pt b (.cells cs2)) λw' S' hp=>?_;refine .inr ⟨b,o,fl,cs2,by rw[yI],hf,hp.1,hp.2,by rw[hl2,hcl,yI];simp[ae],λk x hk=>⟨(),λj u hj=>?_,λf hf=>by cases hf⟩⟩;match j,hj with
 |0,hj=>
  cases hj;have:=aci k x hk;simpa[ae]using this
end Go.Ideal
namespace Go.Ideal
variable {P:Program}
def yJ{α:Type}(P:Program)(vals:α->List Value)(fn:Fn)(first cap:List Value)(F:List aK)(X:List α->Prop):Prop:=
 ∀(S:Type) (inv:S->List OA) (ok:List α->S->Prop) (step:S->α->S×Bool) (s0:S) (Eu:Fn) (y1 y2:List Value) (F':List aK),ok [] s0->
  (∀vs s x rest,ok vs s->X (vs++x::rest)->(step s x).2=true->ok (vs++[x]) (step s x).1)->
  (∀vs s x rest,ok vs s->X (vs++x::rest)->aU P Eu (y1++vals x) y2 (inv s) F' (λ_:Unit=>.bool (step s x).2) (λ_=>inv (step s x).1) (λ_=>[]) (λ_=>True))->
  aU P fn (first++[.func Eu ⟨y1⟩ ⟨y2⟩]) cap (inv s0) (F++F') (λ_:List α=>.tuple ⟨[]⟩) (λxs=>inv (lX step s0 xs)) (λ_=>[]) X
section
variable {B:List Nat} {w0:Wd} {kl kl' bG:List OA} {F:List aK} {K:KO} {n:Nat} {l:List (Nat×Value)} {D:List Deferred} {pm:Option FrameMode} {ro:Option Nat}
def Ib{Z:Type}(B:List Nat)(w0:Wd)(n:Nat)(l3:Z->List (Nat×Value))(lo:Nat)(o:dQ)(kl:Z->List OA)(F:List aK):KO:=λoo a h=>
 oo=.normal/\∃z,a=act n (l3 z) [] none (some lo)/\∃w:Wd,w.h=h/\St B w0 (pt lo o::kl z) F w
variable{Z:Type}{lo:Nat}
theorem Ic{l3:Z->List (Nat×Value)}{o:dQ}{k3:Z->List OA}(z:Z)(hl:l3 z=l)(hk:aI (pt lo o::k3 z) kl bG:=by exact oK):R (λh=>Ib B w0 n l3 lo o k3 F .normal (act n l [] none (some lo)) h) B w0 kl F:=λw s=>
 ⟨rfl,z,by rw[hl],w,rfl,(s.j4 hk).drop⟩
theorem acj{Y:Type}{L:oG}{args:List Value}{k1:List OA}{out:Y->Out}{k1':Y->List OA}{fs:Y->List aK}{pr:Y->Prop}(l:List (Nat×Value))(l3:Z->List (Nat×Value))(k3:Z->List OA)(hl:L.tmps=iQ l)(hst:L.state=.ready)(hps:L.params.all (λp=>Nat.blt p L.n)=true)(hlen:L.params.length=args.length)
 (ha:∀B w0,R (λh=>EV P L.assign (act L.n ((L.params.zip args).reverse++l) [] none (some lo)) h (Ib B w0 L.n l3 lo (.loop L) k3 F)) B w0 (pt lo (.loop L)::k1) F)
 (hb:∀z B w0,R (λh=>EV P L.body (act L.n (l3 z) [] none (some lo)) h (Ej B w0 lo L out k1' fs pr)) B w0 (pt lo (.loop (yD L))::k3 z) F):
 aU P (.yield lo) args [] (pt lo (.loop L)::k1) F (λy:Y=>.bool (qp (out y))) (λy=>pt lo (.loop (ol L (out y)))::k1' y) fs pr:=by
 intro B w s;obtain⟨l2,e1,e2⟩:=Ru L.n L.params args l hps hlen;refine .round lo rfl rfl L s.get.1 hlen.symm _ (by
  rw[hl];show EV P L.assign (aV.mk L.n (tZ L.n L.params args (iQ l)) [] none (some lo)) w.h _;rw[e1,e2];exact ha B w w s) ?_ ?_
 ·rintro o a h ⟨rfl,z,rfl,w1,rfl,s1⟩;exact⟨rfl,L,s1.get.1,hst⟩
 ·rintro a h r1 ⟨_,z,rfl,w1,rfl,s1⟩ hr;have hr1:r1=L:=by
   have:=s1.get.1;rw[hr]at this;injection this with this;injection this
  subst hr1;have hb:=hb z B w _ (s1.write (o':=.loop (yD r1)));refine Lm hb _ ?_;rintro o a h ⟨hd,w2,y,rfl,rfl,hn,s2,hp⟩;refine⟨yD r1,s2.get.1,hd,?_⟩;have fin:∀o',qp o'=qp (out y)->ol r1 o'=ol r1 (out y)->Left B w (λy:Y=>.bool (qp (out y))) (λy=>pt lo (.loop (ol r1 (out y)))::k1' y) fs pr (.ok (.bool (qp (out y)))) none (w2.h.set lo (.loop (ol r1 (out y)))):=λo' _ _=>
   ⟨rfl,_,y,rfl,s2.write,rfl,hp⟩
  cases ho:out y with
  |normal=>have:=fin .normal (by rw[ho]) (by rw[ho]);rw[ho]at this;exact this
  |exit j=>have:=fin (.exit j) (by rw[ho]) (by rw[ho]);rw[ho]at this;exact this
  |ret=>have:=fin .ret (by rw[ho]) (by rw[ho]);rw[ho]at this;exact this
  |panic ch=>rw[ho]at hn;exact hn.elim
variable{S α:Type}{ps:List Tmp}{assign body:dB}{fn:Fn}{first captured:List Value}{F1:List aK}
theorem ack{f:Operand}{vals:α->List Value}{X:List α->Prop}(step:S->α->S×Out)(inv:S->List OA)(ok:List α->S->Prop)(s0:S)(h0:ok [] s0)
 (hok:∀vs s x rest,ok vs s->X (vs++x::rest)->(step s x).2=.normal->ok (vs++[x]) (step s x).1) (hit:yJ P vals fn first captured F1 X)
 (hf:ev l f=.func fn ⟨first⟩ ⟨captured⟩) (hps:ps.all (λp=>Nat.blt p n)=true) (hlen:∀x,ps.length=(vals x).length) (hk:aI (inv s0) kl bG) (hF:Sub F1 F) (jH:∀s x,Ei (step s x).2)
 (l3:α->Z->List (Nat×Value)) (k3:α->Z->List OA)
 (ha:∀(s:S) (x:α) (lo:Nat) (o:dQ) B w0,R (λh=>EV P assign (act n ((ps.zip (vals x)).reverse++l) [] none (some lo)) h (Ib B w0 n (l3 x) lo o (λz=>k3 x z++inv s) F)) B w0 (pt lo o::inv s) F)
 (hb:∀(vs:List α) (s:S) (x:α) (rest:List α) (z:Z) (lo:Nat) (L:oG) B w0,ok vs s->X (vs++x::rest)->R (λh=>EV P body (act n (l3 x z) [] none (some lo)) h (Ej B w0 lo L (λ_:Unit=>(step s x).2) (λ_=>inv (step s x).1) (λ_=>[]) (λ_=>True))) B w0 (pt lo (.loop (yD L))::(k3 x z++inv s)) F)
 (next:∀r xs,X xs->R (λh=>K (oL step s0 xs).2 (act n l ({target:=.collected r,args:= #[]}::D) pm none) h) B w0 (inv (oL step s0 xs).1++(pt r (.iY true)::bG)) F):
 R (λh=>EV P (.rangeFunc f ps assign body) (act n l D pm none) h K) B w0 kl F:=by
 refine abS (Y:=List α) (k1:=inv s0) (F1:=F1++F) (Mc:=λ_=>.tuple ⟨[]⟩) (out:=λxs=>(oL step s0 xs).2) (k1':=λxs=>inv (oL step s0 xs).1) (fs:=λ_=>[]) (pr:=X) hf ?_ hk (hF.app (Sub.refl' F [])) (λr y hy=>next r y hy);intro lo r;have:=hit (S×Out) (λso=>pt lo (.loop (ol ⟨.ready,none,iQ l,n,ps,assign,body,r⟩ so.2))::inv so.1) (λvs so=>so.2=.normal/\ok vs so.1) (λso x=>(step so.1 x,qp (step so.1 x).2)) (s0,.normal) (.yield lo) [] [] F ⟨rfl,h0⟩
  (λvs so x rest ho hx h=>by
    exact eA)
  (λvs so x rest ho hx=>by
    exact cS)
 have e:(λxs:List α=>pt lo (.loop (ol ⟨.ready,none,iQ l,n,ps,assign,body,r⟩ (lX (λ(so:S×Out) x=>(step so.1 x,qp (step so.1 x).2)) (s0,.normal) xs).2))::inv (lX (λ(so:S×Out) x=>(step so.1 x,qp (step so.1 x).2)) (s0,.normal) xs).1)=λxs=>pt lo (.loop (ol ⟨.ready,none,iQ l,n,ps,assign,body,r⟩ (oL step s0 xs).2))::inv (oL step s0 xs).1:=by
  funext xs
  rw[Rv]
 have h2:aU P fn (first++[.func (.yield lo) ⟨[]⟩ ⟨[]⟩]) captured (pt lo (.loop ⟨.ready,none,iQ l,n,ps,assign,body,r⟩)::inv s0) (F1++F) (λ_:List α=>.tuple ⟨[]⟩) (λxs=>pt lo (.loop (ol ⟨.ready,none,iQ l,n,ps,assign,body,r⟩ (lX (λ(so:S×Out) x=>(step so.1 x,qp (step so.1 x).2)) (s0,.normal) xs).2))::inv (lX (λ(so:S×Out) x=>(step so.1 x,qp (step so.1 x).2)) (s0,.normal) xs).1) (λ_=>[]) X:=this;rw[e]at h2;exact h2
theorem Ie{f:Operand}{vals:α->List Value}{X:List α->Prop}(step:S->α->S×Out)(inv:S->List OA)(ok:List α->S->Prop)(s0:S)(l3:α->Z->List (Nat×Value))(k3:α->Z->List OA)(h0:ok [] s0)
 (hok:∀vs s x rest,ok vs s->X (vs++x::rest)->(step s x).2=.normal->ok (vs++[x]) (step s x).1) (hit:yJ P vals fn first captured F1 X)
 (ha:∀(s:S) (x:α) (lo:Nat) (o:dQ) B w0,R (λh=>EV P assign (act n ((ps.zip (vals x)).reverse++l) [] none (some lo)) h (Ib B w0 n (l3 x) lo o (λz=>k3 x z++inv s) F)) B w0 (pt lo o::inv s) F)
 (hb:∀(vs:List α) (s:S) (x:α) (rest:List α) (z:Z) (lo:Nat) (L:oG) B w0,ok vs s->X (vs++x::rest)->R (λh=>EV P body (act n (l3 x z) [] none (some lo)) h (Ej B w0 lo L (λ_:Unit=>(step s x).2) (λ_=>inv (step s x).1) (λ_=>[]) (λ_=>True))) B w0 (pt lo (.loop (yD L))::(k3 x z++inv s)) F)
 (next:∀r xs,X xs->R (λh=>K (oL step s0 xs).2 (act n l ({target:=.collected r,args:= #[]}::D) pm none) h) B w0 (inv (oL step s0 xs).1++(pt r (.iY true)::bG)) F)
 (jH:∀s x,Ei (step s x).2)
 (hf:ev l f=.func fn ⟨first⟩ ⟨captured⟩:=by rfl) (hps:ps.all (λp=>Nat.blt p n)=true:=by rfl) (hlen:∀x,ps.length=(vals x).length:=by intro _;rfl)
 (hk:aI (inv s0) kl bG:=by exact oK) (hF:Sub F1 F:=by exact oJ):
 R (λh=>EV P (.rangeFunc f ps assign body) (act n l D pm none) h K) B w0 kl F:=
 ack step inv ok s0 h0 hok hit hf hps hlen hk hF jH l3 k3 ha hb next
end
end Go.Ideal
namespace Go.Ideal
variable {P:Program}
def fZ{α:Type}(E:Enc α)(aF:List (α×E.Y)):List Value:=aF.flatMap λp=>E.pat p.1 p.2
theorem Ew{α:Type}{E:Enc α}:∀aF:List (α×E.Y),(fZ E aF).length=aF.length*E.n
 |[]=>by simp[fZ]
 |p::l=>by
  have ih:=Ew l;unfold fZ at ih⊢;rw[JS,iE,ih,E.len,oD,rW];omega
theorem Ac{α:Type}{E:Enc α}:∀{aF:List (α×E.Y)} {k:Nat} {p:α×E.Y} {j:Nat} {u:Value},aF[k]? =some p->(E.pat p.1 p.2)[j]? =some u->(fZ E aF)[k*E.n+j]? =some u
 |[],k,p,j,u,h,_=>by cases h
 |q::l,0,p,j,u,h,hj=>by
  cases h;unfold fZ;rw[JS,FI,fC,qL (bC.1 hj).1];exact hj
 |q::l,k+1,p,j,u,h,hj=>by
  have ih:=Ac (aF:=l) (k:=k) wq hj;unfold fZ at ih⊢;rw[JS,qa (by rw[E.len,rW];omega),E.len,show(k+1)*E.n+j - E.n=k*E.n+j by rw[rW];omega];exact ih
theorem Mt{α:Type}{E:Enc α}{j:Nat}{v:Value}:∀{aF:List (α×E.Y)} {k:Nat} {p p':α×E.Y},aF[k]? =some p->(E.pat p.1 p.2).set j v=E.pat p'.1 p'.2->j<E.n->(fZ E aF).set (k*E.n+j) v=fZ E (aF.set k p')
 |[],k,p,p',h,_,_=>by cases h
 |q::l,0,p,p',h,hp,hj=>by
  cases h;unfold fZ;rw[JS,FI,fC,List.set_append_left _ _ (by rw[E.len];exact hj),hp];rfl
 |q::l,k+1,p,p',h,hp,hj=>by
  have ih:=Mt (aF:=l) (k:=k) wq hp hj;unfold fZ at ih⊢;rw[JS,JU _ _ (by rw[E.len,rW];omega),E.len,show(k+1)*E.n+j - E.n=k*E.n+j by rw[rW];omega,ih];rfl
def rD{α:Type}(E:Enc α)(v:Value)(aF:List (α×E.Y)):aK:=
 ⟨λw=>(aF=[]/\∃a c,v=.slice a 0 c/\LW E.n a)\/∃i o f c cells,(v=.slice (some ⟨i,o,some f⟩) aF.length c/\aF.length<=c/\(f=0\/f=E.n))/\Fz w i cells/\
  ∀(k:Nat) p,aF[k]? =some p->(∀(j:Nat) u,(E.pat p.1 p.2)[j]? =some u->cells[o+k*E.n+j]? =some u)/\∀f∈E.fs p.1 p.2,f.p w,
  λa h=>by
   rcases h with h|⟨i,o,f,c,cells,h1,h2,h3⟩
   ·exact .inl h
   ·refine .inr ⟨i,o,f,c,cells,h1,h2.mono a,λk x hk=>?_⟩;obtain⟨q1,q2⟩:=h3 k x hk;exact⟨q1,λf hf=>f.mono a (q2 f hf)⟩⟩
def wZ{α:Type}(E:Enc α)(aF:List (α×E.Y)):aK:=⟨λw=>∀p∈aF,∀f∈E.fs p.1 p.2,f.p w,λa h p hp f hf=>f.mono a (h p hp f hf)⟩
variable{α:Type}{v:Value}{w:Wd}
theorem acm{E:Enc α}{aF:List (α×E.Y)}(h:(rD E v aF).p w):(wZ E aF).p w:=by
 intro p hp f hf;rcases h with⟨rfl,_⟩|⟨i,o,fl,c,cells,_,_,h3⟩
 ·cases hp
 ·obtain⟨k,hk⟩:=uW.1 hp;exact(h3 k p hk).2 f hf
theorem acn{E:Enc α}{aF:List (α×E.Y)}(h:(rD E v aF).p w):(ai E v (aF.map (·.1))).p w:=by
 rcases h with⟨rfl,h⟩|⟨i,o,f,c,cells,h1,h2,h3⟩
 ·exact .inl ⟨rfl,h⟩
 ·refine .inr ⟨i,o,f,c,cells,by rw[cz];exact h1,h2,λk x hk=>?_⟩;rw[dK]at hk;cases hp:aF[k]? with
  |none=>rw[hp]at hk;cases hk
  |some p=>
   rw[hp]at hk;cases hk;exact⟨p.2,h3 k p hp⟩
theorem Sb{E:Enc α}{xs:List α}(h:(ai E v xs).p w):∃aF:List (α×E.Y),aF.map (·.1)=xs/\(rD E v aF).p w:=by
 rcases h with⟨rfl,h⟩|⟨i,o,f,c,cells,h1,h2,h3⟩
 ·exact⟨[],rfl,.inl ⟨rfl,h⟩⟩
 ·obtain⟨l,hl,hp⟩:=Ma (p:=λk (p:α×E.Y)=>xs[k]? =some p.1/\(∀(j:Nat) u,(E.pat p.1 p.2)[j]? =some u->cells[o+k*E.n+j]? =some u)/\∀f∈E.fs p.1 p.2,f.p w) xs.length (λk hk=>by
   obtain⟨y,q1,q2⟩:=h3 k xs[k] (bW hk);exact⟨(xs[k],y),bW hk,q1,q2⟩)
  have hm:l.map (·.1)=xs:=by
   exact me
  exact⟨l,hm,.inr ⟨i,o,f,c,cells,by rw[hl];exact h1,h2,λk p hk=>(hp k p hk).2⟩⟩
def ar{α:Type}(E:Enc α)(v:Value)(aF:List (α×E.Y)):OA:=
 ⟨λw S=>(aF=[]/\(∃a,v=.slice a 0 0/\LW E.n a)/\S=[])\/∃b f,v=.slice (some ⟨b,0,some f⟩) aF.length aF.length/\(f=0\/f=E.n)/\S=[b]/\w.h.get b=some (.cells (fZ E aF)),
  λa h hp=>by
   rcases hp with hp|⟨b,f,h1,h2,h3,h4⟩
   ·exact .inl hp
   ·exact .inr ⟨b,f,h1,h2,h3,by rw[h b A6];exact h4⟩⟩
theorem aco{E:Enc α}{aF:List (α×E.Y)}(w w':Wd)(S:List Nat)(hp:(ar E v aF).p w S)(hle:w.Le w')(hh:w'.h=w.h)(hz:∀i∈S,w'.z i)(ha:(wZ E aF).p w):(rD E v aF).p w':=by
 rcases hp with⟨h1,⟨a,h2,h3⟩,_⟩|⟨b,f,h1,h2,h3,h4⟩
 ·exact .inl ⟨h1,a,0,h2,h3⟩
 ·refine .inr ⟨b,0,f,_,_,⟨h1,bV _,h2⟩,⟨hz b A6,.inl (by rw[hh];exact h4)⟩,λk p hk=>⟨λj u hj=>?_,λf hf=>f.mono hle (ha p (aP hk) f hf)⟩⟩;rw[fC];exact Ac hk hj
section
variable {B:List Nat} {w0:Wd} {kl kl' bG:List OA} {F:List aK} {K:KO} {ds:List Tmp} {rest:List bT} {n:Nat} {l:List (Nat×Value)} {D:List Deferred} {pm:Option FrameMode} {ro:Option Nat} {d:Nat} {g:Option (Tmp×Bool)}
variable {α:Type} {E:Enc α} {v:Value}
variable{Q:IH->Prop}
theorem Ig{xs:List α}(E:Enc α)(v:Value)(h:∀aF:List (α×E.Y),aF.map (·.1)=xs->R Q B w0 kl (rD E v aF::F))(hf:ai E v xs∈F:=by exact vF):R Q B w0 kl F:=λw s=>by
 obtain⟨aF,h1,h2⟩:=Sb (s.facts _ hf);exact h aF h1 w ⟨s.agree,s.le,s.gF,s.own,λf hf=>by
  rcases dH.1 hf with rfl|hf
  ·exact h2
  ·exact s.facts f hf⟩
variable{aF:List (α×E.Y)}
theorem Sc(h:R Q B w0 kl (wZ E aF::F))(hf:rD E v aF∈F:=by exact vF):R Q B w0 kl F:=λw s=>
 h w ⟨s.agree,s.le,s.gF,s.own,λf hf'=>by
  rcases dH.1 hf' with rfl|hf'
  ·exact acm (s.facts _ hf)
  ·exact s.facts f hf'⟩
theorem Ih(h:R Q B w0 kl' (rD E v aF::ai E v (aF.map (·.1))::F))(ha:∀w,(∀f∈F,f.p w)->(wZ E aF).p w)(hk:ay (ar E v aF) kl kl':=by exact iw):R Q B w0 kl F:=λw s=>by
 have hall:=ha w s.facts
 -- freeze by hand
 obtain⟨S,⟨S1,S2,q1,q2,e⟩,h2,h3⟩:=(s.gK hk).own;subst e;let w':Wd:=⟨w.h,λi=>w.z i\/i∈S1,λi hi=>hi.elim (w.ni i) λhi=>(h3 i (jW _ hi)).2.1⟩
 have hle:w.Le w':=⟨bV _,λi hi=>.inl hi,λ_ _=>rfl⟩
 have hnd:=gX.1 h2;have hel:=aco w w' S1 q1 hle rfl (λi hi=>.inr hi) hall;refine h w' ⟨s.agree,s.le.trans hle,λi hi hz=>?_,⟨S2,fB.loc hle (λ_ _=>rfl) q2,hnd.2.1,λi hi=>?_⟩,λf hf=>?_⟩
 ·rcases hz with hz|hz
  ·exact s.gF i hi hz
  ·rcases(h3 i (jW _ hz)).1 with q|q
   ·omega
   ·exact .inr q
 ·exact oS
 ·rcases dH.1 hf with rfl|hf
  ·exact hel
  ·rcases dH.1 hf with rfl|hf
   ·exact acn hel
   ·exact f.mono hle (s.facts f hf)
theorem Sd(hlen:0<aF.length)(h:∀b f,(f=0\/f=E.n)->v=.slice (some ⟨b,0,some f⟩) aF.length aF.length->R Q B w0 (pt b (.cells (fZ E aF))::kl') F)(hk:ay (ar E v aF) kl kl':=by exact iw):R Q B w0 kl F:=λw s=>by
 have s1:=s.gK hk;obtain⟨S,⟨S1,S2,q1,q2,e⟩,h2,h3⟩:=s1.own;rcases q1 with⟨h0,_⟩|⟨b,f,h4,h5,h6,h7⟩
 ·rw[h0]at hlen;simp at hlen
 ·exact h b f h5 h4 w ⟨s1.agree,s1.le,s1.gF,⟨S,⟨S1,S2,⟨h6,h7⟩,q2,e⟩,h2,h3⟩,s1.facts⟩
theorem sQ{α:Type}(E:Enc α){aF:List (α×E.Y)}{Q:IH->Prop}{b f m:Nat}(hm:m=aF.length)(hf:f=0\/f=E.n)(h:R Q B w0 (ar E (.slice (some ⟨b,0,some f⟩) m m) aF::kl') F)(hk:ay (pt b (.cells (fZ E aF))) kl kl':=by exact iw):R Q B w0 kl F:=λw s=>by
 refine h w ((s.gK hk).zW (A:=pt b (.cells (fZ E aF))) λw S hp=>.inr ⟨b,f,by rw[hm],hf,hp.1,hp.2⟩)
theorem Sg(h:∀a,v=.slice a aF.length aF.length->R Q B w0 kl F)(hk:ay (ar E v aF) kl kl':=by exact iw):R Q B w0 kl F:=λw s=>by
 obtain⟨S,⟨S1,S2,q1,q2,e⟩,h2,h3⟩:=(s.gK hk).own;rcases q1 with⟨rfl,⟨a,h1,_⟩,_⟩|⟨b,f,h4,_⟩
 ·exact h a h1 w s
 ·exact h _ h4 w s
variable{x:Operand}{c m:Nat}{t e:TypeId}
theorem Ex(hu:P.underlying t=some (.slice e))(hx:ev l x=.slice none m c):Pu P (ev l) (.bin .eql t x (.const (.slice none 0 0))) (.bool true):=λh=>by
 have he:dV P (Op.equal t (.slice none m c) (.slice none 0 0))=some true:=by
  show dV P (Op.equalIn (9999+1) t (.slice none m c) (.slice none 0 0))=_;unfold Op.equalIn;rw[gY,rq hu];rfl
 have h1:kv P (do eqGuard .eql t x (.const (.slice none 0 0)) (.slice none m c) (.slice none 0 0);binOp .eql t (.slice none m c) (.slice none 0 0))=some (.bool true):=by
  exact ju
 have h2:lU P .eql t x (.const (.slice none 0 0)) (.slice none m c) (.slice none 0 0)=some (.bool true):=by
  by_cases hmc:m=0/\c=0
  ·show cond (bY (Value.slice none m c)&&bY (Value.slice none 0 0)) (kv P (do eqGuard .eql t x (.const (.slice none 0 0)) (.slice none m c) (.slice none 0 0);binOp .eql t (.slice none m c) (.slice none 0 0))) _=_;rw[h1];obtain⟨rfl,rfl⟩:=hmc;simp[bY]
  ·have e0:bY (Value.slice none m c)=false:=by
    cases hb:bY (Value.slice none m c)with
    |false=>rfl
    |true=>exact absurd (by simpa[bY]using hb) hmc
   have e1:su P t (.slice none m c) (.slice none 0 0)=some true:=by
    unfold su;rw[hu]
   show cond (bY (Value.slice none m c)&&bY (Value.slice none 0 0)) _ (match su P t (.slice none m c) (.slice none 0 0)with|some b=>some (Value.bool b)|none=>none)=_;rw[e0,e1];rfl
 simp only[aB.run,hx];show(match lU P .eql t x (.const (.slice none 0 0)) (.slice none m c) (.slice none 0 0)with|some v=>some (v,h)|none=>none)=_;rw[h2]
theorem yK{a:Addr}(hu:P.underlying t=some (.slice e))(hx:ev l x=.slice (some a) m c):Pu P (ev l) (.bin .eql t x (.const (.slice none 0 0))) (.bool false):=λh=>by
 have h2:lU P .eql t x (.const (.slice none 0 0)) (.slice (some a) m c) (.slice none 0 0)=some (.bool false):=by
  have:su P t (.slice (some a) m c) (.slice none 0 0)=some false:=by
   unfold su;rw[hu]
  show(match su P t (.slice (some a) m c) (.slice none 0 0)with|some b=>some (Value.bool b)|none=>none)=_;rw[this]
 simp only[aB.run,hx];show(match lU P .eql t x (.const (.slice none 0 0)) (.slice (some a) m c) (.slice none 0 0)with|some v=>some (v,h)|none=>none)=_;rw[h2]
variable{s:Operand}{b:Nat}
theorem Ii{e:TypeId}{size bytes:Nat}{a:Option Addr}
 (next:R (λh=>aG P ds rest (act n ((d,.slice (some ⟨b,0,some 0⟩) 0 0)::l) D pm ro) h K) B w0 (pt b (.cells [])::kl') F)
 (hs:ev l s=.slice (some ⟨b,0,some 0⟩) 0 0:=by rfl) (hx:ev l x=.slice a 0 c:=by rfl) (hk:ay (pt b (.cells [])) kl kl':=by exact iw) (hn:Nat.blt d n=true:=by rfl) (hg:bZ l g=true:=by rfl):
 R (λh=>aG P ds (⟨⟨some d,g,.append e size bytes s x⟩,[]⟩::rest) (act n l D pm ro) h K) B w0 kl F:=λw st=>by
 have st1:=st.gK hk;refine lW hn hg (v:=.slice (some ⟨b,0,some 0⟩) 0 0) (h':=w.h.set b (.cells [])) ?_ (next ⟨w.h.set b (.cells []),w.z,λi hi=>w.ni i hi⟩ st1.write);have h0:∀m,Nat.mul 0 m=0:=λm=>FI m;have e1:w.h.storeAt b 0 []=some (w.h.set b (.cells [])):=by
  unfold IH.storeAt;simp only[st1.get.1];rfl
 simp only[aB.run,hx,hs,oH,xV,wE];show cond (Nat.ble (Nat.mul (Nat.add 0 0) bytes) small&&Nat.ble (Nat.mul (Nat.add 0 0) size) small&&Nat.ble (Nat.add 0 0) small) (cond (Nat.ble (Nat.add 0 0) 0) (match w.h.storeAt b (Nat.add 0 (Nat.mul 0 size)) []with|some h=>some (Value.slice (some ⟨b,0,some 0⟩) (Nat.add 0 0) 0,h)|none=>none) _) none=_;rw[show Nat.add 0 0=0 from rfl,h0,h0,show Nat.add 0 0=0 from rfl,e1];have:(Nat.ble 0 small&&Nat.ble 0 small&&Nat.ble 0 small)=true:=rfl;rw[this];rfl
theorem Ij{α:Type}{e:TypeId}{size bytes:Nat}(E:Enc α)(aF:List (α×E.Y))(hne:0<aF.length)(hm:aF.length*bytes<=1073741824/\aF.length*size<=1073741824/\aF.length<=1073741824)
 (next:∀b',R (λh=>aG P ds rest (act n ((d,.slice (some ⟨b',0,some size⟩) aF.length aF.length)::l) D pm ro) h K) B w0 (pt b' (.cells (fZ E aF))::kl') F)
 (hs:ev l s=.slice (some ⟨b,0,some 0⟩) 0 0:=by rfl) (hx:ev l x=v:=by conv=>lhs;whnf) (hf:rD E v aF∈F:=by exact vF) (hz:E.n=size:=by rfl) (hk:ay (pt b (.cells [])) kl kl':=by exact iw) (hn:Nat.blt d n=true:=by rfl) (hg:bZ l g=true:=by rfl):
 R (λh=>aG P ds (⟨⟨some d,g,.append e size bytes s x⟩,[]⟩::rest) (act n l D pm ro) h K) B w0 kl F:=λw st=>by
 subst hz;have st1:=st.gK hk;have hat:At w.h b (.cells []):=st.at_ hk;obtain⟨k,hk'⟩:∃k,aF.length=k+1:=⟨aF.length - 1,vj⟩
 rcases st.facts _ hf with⟨rfl,_⟩|⟨i,o,f,c,cells,⟨e1,hc⟩,q2,q3⟩
 ·simp at hne
 have hfl:=Ew aF;have hcells:∀j,j<aF.length*E.n->cells[o+j]? =(fZ E aF)[j]?:=λj hj=>by
  have hn0:0<E.n:=by
   rcases JL E.n with h0|h0
   ·rw[h0]at hj;omega
   ·exact h0
  have hd:j/E.n<aF.length:=by rw[ake hn0];exact hj
  have hmod:=aht j hn0;have hpk:=bW hd;have hu:(E.pat (aF[j/E.n]).1 (aF[j/E.n]).2)[j%E.n]? =some ((E.pat (aF[j/E.n]).1 (aF[j/E.n]).2)[j%E.n]'(by rw[E.len];exact hmod)):=bW _;have h1:=(q3 (j/E.n) _ hpk).1 (j%E.n) _ hu;have h2:=Ac hpk hu;have D5:j/E.n*E.n+j%E.n=j:=by rw[ahy];exact Nat.div_add_mod j E.n
  rw[qb,D5]at h1;rw[D5]at h2;rw[h1,h2]
 have hlen:o+aF.length*E.n<=cells.length\/aF.length*E.n=0:=by
  rcases JL (aF.length*E.n)with h0|h0
  ·exact .inr h0
  ·left;have h1:=hcells (aF.length*E.n - 1) vj;have hx0:(fZ E aF)[aF.length*E.n - 1]? =some ((fZ E aF)[aF.length*E.n - 1]'(vj)):=bW _;rw[hx0]at h1;have:=(bC.1 h1).1;omega
 have hpos:0<E.n\/E.n=0:=vj
 have hread:w.h.iW i o (aF.length*E.n)=some (fZ E aF):=by
  rw[q2.cells.iW,qV,sD,if_pos xp];congr 1;apply jv;intro j;rw[tO];by_cases hj:j<aF.length*E.n
  ·rw[if_pos hj,qK];exact hcells j hj
  ·rw[if_neg hj,gJ vj]
 refine QV (b:=b) (o:=0) (m:=0) (k:=k) (f:=some 0) (old:=[]) (xs:=fZ E aF) hn hg hs (by rw[hx,e1,hk'];rfl) ?_ ?_ (.inl rfl) ?_ λh' mv=>?_
 ·rw[hx,e1,<- hk'];exact hread
 ·rw[hat.c.iW,FI];rfl
 ·rw[fC,<- hk'];omega
 obtain⟨w',rfl,lF,Ho⟩:=st1.move mv;rw[dX]at lF;have:=next w.h.next w' lF
 rw[hk']at this;rw[fC];exact this
end
end Go.Ideal
namespace Go.Ideal
variable {P:Program}
inductive Ca(P:Program)(ty:TypeId):Value->Value->Bool->Prop
 |int {a b:Int} (h:P.underlying ty=some (.int .i64)):Ca P ty (.int .i64 a) (.int .i64 b) (decide (a=b))
 |str {a b:ByteArray} (h:P.underlying ty=some .string):Ca P ty (.string a) (.string b) (decide (a=b))
theorem Ik:dV P program=some P:=rfl
theorem Mv{α:Type}{c:Prop}[Decidable c]{a b:Sem α}:dV P (if c then a else b)=if c then dV P a else dV P b:=by split<;>rfl
variable{r:Bool}{ty:TypeId}{a b:Value}
theorem Si(c:Ca P ty a b r)(d:Nat):dV P (Op.equalIn (d+1) ty a b)=some r:=by
 cases c with
 |int h=>
  unfold Op.equalIn;rw[gY,rq h];simp only[iV,if_true];rfl
 |str h=>
  unfold Op.equalIn;rw[gY,rq h];show some (_==_)=_;rw[bytes_beq]
theorem Il{v:Value}(c:Ca P ty a b r){xs:Array Value}{o:Nat}(hx:xs[o]? =some v):dV P (part ty xs o)=some v:=by
 have hu:∃d,P.underlying ty=some d/\(∀fs,d≠.struct fs)/\∀n e,d≠.array n e:=by
  cases c with
  |int h=>exact⟨_,h,(by intro _ e;cases e),(by intro _ _ e;cases e)⟩
  |str h=>exact⟨_,h,(by intro _ e;cases e),(by intro _ _ e;cases e)⟩
 obtain⟨d,h1,h2,h3⟩:=hu;have hag:dV P (isAgg ty)=some false:=by
  unfold isAgg;rw[gY,rq h1];cases d with
  |struct fs=>exact absurd rfl (h2 fs)
  |array n e=>exact absurd rfl (h3 n e)
  |_=>rfl
 unfold part;rw[gY,hag];show dV P (match xs[o]? with|some v=>pure v|none=>stuck "part: no such cell")=_;rw[hx];rfl
inductive Cb(P:Program)(xs ys:List Value):List Field->Bool->Prop
 |nil:Cb P xs ys [] true
 |cons {f:Field} {fs:List Field} {a b:Value} {r r':Bool} (hn:(f.name== "_")=false) (hx:xs[f.offset]? =some a) (hy:ys[f.offset]? =some b) (c:Ca P f.type a b r) (t:Cb P xs ys fs r'):Cb P xs ys (f::fs) (r&&r')
theorem acp{d:Nat}{t:TypeId}{fs:Array Field}{xs ys:List Value}(hu:P.underlying t=some (.struct fs))(hp:P.stoodInHeld t=false)(h:Cb P xs ys fs.toList r):dV P (Op.equalIn (d+2) t (.agg ⟨xs⟩) (.agg ⟨ys⟩))=some r:=by
 unfold Op.equalIn;rw[gY,rq hu];simp only[iV];rw[gY,Ik];simp only[iV,hp,uS,if_false];rw[<- Array.forIn_toList];generalize fs.toList=l at h;clear hu;induction h with
 |nil=>rfl
 | @cons f fs a b r r' hn hx hy c t ih=>
   have hn:f.name≠ "_" :=by simpa using hn
   rw[List.forIn_cons];simp only[gY,Mv,if_pos hn,hn,ne_eq,not_false_eq_true,if_true]at ih⊢;rw[Il (xs:=⟨xs⟩) c w8,iV,Il (xs:=⟨ys⟩) c (by simpa using hy),iV,Si c,iV];cases r with
   |false=>rfl
   |true=>exact ih
section
variable {l:List (Nat×Value)}
variable{t:TypeId}{x y:Operand}{op:BinOp}
theorem acr{a b:Array Value}(hm:P.eqGuardType P.depth t=false):dV P (eqGuard op t x y (.agg a) (.agg b))=some ():=by
 have key:dV P (do if !(<- program).eqGuardType (<- program).depth t then return
                   if <- Op.eqGuardIn Op.maxDepth t (.agg a) (.agg b)then unsupported (.noEntry "binop\x2feql: two nil values of an interface type with methods, in a part of a struct or an array"))=some ():=by
  rw[gY,Ik];simp only[iV];rw[gY,Ik];simp only[iV,hm,Bool.not_false,if_true];rfl
 cases op<;>first|exact key|rfl
theorem Sj{a b:List Value}{v:Value}(ha:fO a=true)(hb:fO b=true)(hm:P.eqGuardType P.depth t=false)(hv:dV P (binOp op t (.agg ⟨a⟩) (.agg ⟨b⟩))=some v)(hf:bY v=true):lU P op t x y (.agg ⟨a⟩) (.agg ⟨b⟩)=some v:=by
 have h1:kv P (do eqGuard op t x y (.agg ⟨a⟩) (.agg ⟨b⟩);binOp op t (.agg ⟨a⟩) (.agg ⟨b⟩))=some v:=by
  unfold kv;rw[gY,acr hm];simp only[iV,hv,hf,cond]
 show cond (bY (.agg ⟨a⟩)&&bY (.agg ⟨b⟩)) (kv P (do eqGuard op t x y (.agg ⟨a⟩) (.agg ⟨b⟩);binOp op t (.agg ⟨a⟩) (.agg ⟨b⟩))) _=_;rw[h1];simp[bY,ha,hb]
theorem Cc{fs:Array Field}{xs ys:List Value}{r:Bool}(hx:ev l x=.agg ⟨xs⟩)(hy:ev l y=.agg ⟨ys⟩)(hu:P.underlying t=some (.struct fs))(hp:P.stoodInHeld t=false)(hm:P.eqGuardType P.depth t=false)(h:Cb P xs ys fs.toList r)(ha:fO xs=true)(hb:fO ys=true):
 Pu P (ev l) (.bin .neq t x y) (.bool (!r)):=λh0=>by
 simp only[aB.run,hx,hy];rw[Sj ha hb hm (v:=.bool (!r)) (by
  show dV P (do pure (Value.bool (!(<- Op.equal t (.agg ⟨xs⟩) (.agg ⟨ys⟩)))))=_;rw[gY,show dV P (Op.equal t (.agg ⟨xs⟩) (.agg ⟨ys⟩))=some r from acp (d:=9998) hu hp h];rfl) rfl]
variable{e:TypeId}{n:Nat}{xs ys:List Int}
theorem Sk{d:Nat}(hu:P.underlying t=some (.array n e))(he:P.underlying e=some (.int .i64))(hs:P.info? e|>.map (·.size)|>(·=some 1))(hx:xs.length=n)(hy:ys.length=n):
 dV P (Op.equalIn (d+2) t (.agg ⟨xs.map (.int .i64)⟩) (.agg ⟨ys.map (.int .i64)⟩))=some (decide (xs=ys)):=by
 have hsz:dV P (sizeOf e)=some 1:=by
  unfold sizeOf typeInfo;cases hi:P.info? e with
  |none=>rw[hi]at hs;cases hs
  |some i=>
   rw[hi]at hs;have hs:i.size=1:=by simpa using hs
   simp only[gY,Ik,iV,hi];rw[<- hs];rfl
 unfold Op.equalIn;rw[gY,rq hu];simp only[iV];rw[gY,hsz];simp only[iV,uV];rw[Std.Legacy.Range.forIn_eq_forIn_range'];simp only[Std.Legacy.Range.size,CR,Nat.add_sub_cancel,Nat.div_one];have key:∀(m i:Nat),i+m=n->dV P (do
  let Sl <- forIn (List.range' i m 1) ((none,()):Option Bool×Unit) λi Sl=>
   (do let a <- part e ⟨xs.map (.int .i64)⟩ i
       let b <- part e ⟨ys.map (.int .i64)⟩ i
       let r <- Op.equalIn (d+1) e a b
       if(!r)=true then pure (ForInStep.done (some false,()))else pure (ForInStep.yield (none,())))
  match Sl.fst with
  |some r=>pure r
  |none=>pure true)=some (decide (xs.drop i=ys.drop i)):=by
  intro m;induction m with
  |zero=>
   intro i hi;rw[ahE vj,ahE vj];rfl
  |succ m ih=>
   intro i hi;have hix:i<xs.length:=vj
   have Sm:i<ys.length:=vj
   have c:Ca P e (.int .i64 xs[i]) (.int .i64 ys[i]) (decide (xs[i]=ys[i])):=.int he;rw[List.range'_succ,List.forIn_cons];simp only[gY,Mv];rw[Il (xs:=⟨xs.map (.int .i64)⟩) (o:=i) (v:=.int .i64 xs[i]) c (by simp[hix]),iV,Il (xs:=⟨ys.map (.int .i64)⟩) (o:=i) (v:=.int .i64 ys[i]) c (by simp[Sm]),iV,Si c,iV];rw[wz hix,wz Sm];have ih:=ih (i+1) vj;simp only[gY,Mv]at ih;by_cases hxy:xs[i]=ys[i]
   ·rw[eY hxy];simp only[Bool.not_true,uS,if_false];show(dV P _).bind _=_;rw[show decide (xs[i]::xs.drop (i+1)=ys[i]::ys.drop (i+1))=decide (xs.drop (i+1)=ys.drop (i+1))from nS.2 (by rw[AZ];exact⟨λh=>h.2,λh=>⟨hxy,h⟩⟩)];exact ih
   ·rw[aS hxy];simp only[Bool.not_false,if_true];rw[show decide (xs[i]::xs.drop (i+1)=ys[i]::ys.drop (i+1))=false from aS (λh=>hxy (List.cons.inj h).1)];rfl
 have:=key n 0 vj;rw[CS,CS]at this;refine Eq.trans ?_ this;simp only[gY];congr 1;funext s
 cases s.fst<;>rfl
theorem acs(hx:ev l x=.agg ⟨xs.map (.int .i64)⟩)(hy:ev l y=.agg ⟨ys.map (.int .i64)⟩)(hu:P.underlying t=some (.array n e))(he:P.underlying e=some (.int .i64))(hs:P.info? e|>.map (·.size)|>(·=some 1))(hxl:xs.length=n)(hyl:ys.length=n)(hm:P.eqGuardType P.depth t=false):
 Pu P (ev l) (.bin .eql t x y) (.bool (decide (xs=ys))):=λh0=>by
 have hfr:∀zs:List Int,fO (zs.map (Value.int .i64))=true:=by
  intro zs;induction zs with
  |nil=>rfl
  |cons z zs ih=>rw[ic];simp[fO,bY,Ideal.cellV,ih]
 simp only[aB.run,hx,hy];rw[Sj (hfr xs) (hfr ys) hm (v:=.bool (decide (xs=ys))) (by
  show dV P (do pure (Value.bool (<- Op.equal t (.agg ⟨xs.map (.int .i64)⟩) (.agg ⟨ys.map (.int .i64)⟩))))=_;rw[gY,show dV P (Op.equal t (.agg ⟨xs.map (.int .i64)⟩) (.agg ⟨ys.map (.int .i64)⟩))=some (decide (xs=ys))from Sk (d:=9998) hu he hs hxl hyl];rfl) rfl]
def Ey(P:Program):List Field->Nat->List Bool->Bool
 |[],_,[]=>true
 |f::fs,i,k::ks=>!(f.name== "_")&&f.offset==i&&(match P.underlying f.type with
  |some (.int .i64)=>k
  |some .string=>!k
  |_=>false)&&Ey P fs (i+1) ks
 |_,_,_=>false
def cellsE:List Value->List Value->Bool
 | .int .i64 a::xs,.int .i64 b::ys=>decide (a=b)&&cellsE xs ys
 | .string a::xs,.string b::ys=>decide (a=b)&&cellsE xs ys
 |_,_=>true
def Im:List Bool->List Value->Bool
 |[],[]=>true
 |true::ks,.int .i64 _::vs=>Im ks vs
 |false::ks,.string _::vs=>Im ks vs
 |_,_=>false
theorem row_of{xs ys:List Value}:∀{fs:List Field} {i:Nat} {ks:List Bool} {xs' ys':List Value},Ey P fs i ks=true->Im ks xs'=true->Im ks ys'=true->(∀j,xs[i+j]? =xs'[j]?)->(∀j,ys[i+j]? =ys'[j]?)->Cb P xs ys fs (cellsE xs' ys')
 |[],i,[],[],[],_,_,_,_,_=>.nil
 |f::fs,i,k::ks,[],ys',h,hx,hy,ex,ey=>by cases k<;>cases hx
 |f::fs,i,k::ks,x::xs',[],h,hx,hy,ex,ey=>by cases k<;>cases hy
 |f::fs,i,k::ks,x::xs',y::ys',h,hx,hy,ex,ey=>by
  simp only[Ey,eB]at h;obtain⟨⟨⟨h1,h2⟩,h3⟩,h4⟩:=h;have h2:f.offset=i:=zj
  have e1:xs[f.offset]? =some x:=by have:=ex 0;rw[AV]at this;rw[h2,this];rfl
  have e2:ys[f.offset]? =some y:=by have:=ey 0;rw[AV]at this;rw[h2,this];rfl
  have Sn:∀j,xs[i+1+j]? =xs'[j]?:=λj=>by have:=ex (j+1);rw[show i+1+j=i+(j+1)by omega,this];rfl
  have Sq:∀j,ys[i+1+j]? =ys'[j]?:=λj=>by have:=ey (j+1);rw[show i+1+j=i+(j+1)by omega,this];rfl
  cases k with
  |true=>
   match x,hx,y,hy with
   | .int .i64 a,hx,.int .i64 b,hy=>
     have hu:P.underlying f.type=some (.int .i64):=by
      cases hq:P.underlying f.type with
      |none=>rw[hq]at h3;cases h3
      |some q=>
       rw[hq]at h3;cases q with
       |int kk=>cases kk<;>first|rfl|cases h3
       |string=>cases h3
       |_=>cases h3
     exact .cons ya e1 e2 (.int hu) (row_of h4 hx hy Sn Sq)
  |false=>
   match x,hx,y,hy with
   | .string a,hx,.string b,hy=>
     have hu:P.underlying f.type=some .string:=by
      cases hq:P.underlying f.type with
      |none=>rw[hq]at h3;cases h3
      |some q=>
       rw[hq]at h3;cases q with
       |int kk=>cases kk<;>cases h3
       |string=>rfl
       |_=>cases h3
     exact .cons ya e1 e2 (.str hu) (row_of h4 hx hy Sn Sq)
end

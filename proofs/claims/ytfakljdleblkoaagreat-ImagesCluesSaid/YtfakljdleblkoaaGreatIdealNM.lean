/-
  The ideal machine, 66: functions that may panic; deferred functions that recover.
-/
import Derived.Test.YtfakljdleblkoaaGreatIdealMM
import Derived.Sort.Row
import Derived.Sort.Grow
import Derived.Laws.StructEq
set_option linter.all false
namespace Go.Ideal
variable {P:Program}
def xP{Y:Type}(B:List Nat)(w0:Wd)(ret:Y->iO)(kl':Y->List OA)(fs:Y->List aD)(pr:Y->Prop):KR:=λr pm h'=>
 pm=none/\∃(w':Wd) (y:Y),w'.h=h'/\St B w0 (kl' y) (fs y) w'/\r=ret y/\pr y
def oL{Y:Type}(P:Program)(fn:Fn)(args cap:List Value)(kl:List OA)(F:List aD)(ret:Y->iO)(kl':Y->List OA)(fs:Y->List aD)(pr:Y->Prop):Prop:=
 ∀(B:List Nat) (w:Wd),St B w kl F w->CALL P ⟨fn,args,cap,none⟩ w.h (xP B w ret kl' fs pr)
theorem oL.toC{Y:Type}{fn:Fn}{args cap:List Value}{kl:List OA}{F:List aD}{ret:Y->iO}{kl':Y->List OA}{fs:Y->List aD}{pr:Y->Prop}(val:Y->Value)(h:oL P fn args cap kl F ret kl' fs pr)
 (hv:∀y,pr y->ret y=.ok (val y)):aQ P fn args cap kl F val kl' fs pr:=λB w s=>by
 refine .rU _ (h B w s) ?_;rintro r pm h' ⟨e,w',y,e1,st,er,hp⟩;exact⟨e,w',y,e1,st,er.trans (hv y hp),hp⟩
def N9{Y:Type}(B:List Nat)(w0:Wd)(ret:Y->iO)(md:Y->FrameMode)(kl':Y->List OA)(fs:Y->List aD)(pr:Y->Prop):KR:=λr pm h'=>
 ∃(w':Wd) (y:Y),pm=some (md y)/\w'.h=h'/\St B w0 (kl' y) (fs y) w'/\r=ret y/\pr y
def Dh{Y:Type}(P:Program)(fn:Fn)(args cap:List Value)(m:FrameMode)(kl:List OA)(F:List aD)(ret:Y->iO)(md:Y->FrameMode)(kl':Y->List OA)(fs:Y->List aD)(pr:Y->Prop):Prop:=
 ∀(B:List Nat) (w:Wd),St B w kl F w->CALL P ⟨fn,args,cap,some m⟩ w.h (N9 B w ret md kl' fs pr)
theorem UN{K:KR}{f:FuncId}{args cap:List Value}{pm:Option FrameMode}{c:dm}{m:Nat}{l0:List (Nat×Value)}(cf:gU)(hF:(p9 P qI qa).F f=some cf)(h1:cf.body=c)(h2:rJ cf.ntmps (iG (args++cap))=m)(h3:qi 0 (args++cap) []=l0){h:IH}
 (hb:EV P c (act m l0 [] pm none) h (pE P cf K)):CALL P ⟨.func f,args,cap,pm⟩ h K:=by
 obtain⟨fn,e1,e2⟩:=(CQ P qI qa (λf q h v h' hm=>by cases hm)).fn f cf hF;refine Ue cf fn e1 e2 ?_;rw[NS,h1,h2,h3];exact hb
theorem vz{Y:Type}{f:FuncId}{args cap:List Value}{kl:List OA}{F:List aD}{ret:Y->iO}{kl':Y->List OA}{fs:Y->List aD}{pr:Y->Prop}{c:dm}{m:Nat}{l0:List (Nat×Value)}(cf:gU)(hF:(p9 P qI qa).F f=some cf)
 (hb:∀B w0,R (λh=>EV P c (act m l0 [] none none) h (pE P cf (xP B w0 ret kl' fs pr))) B w0 kl F)
 (h1:cf.body=c:=by conv=>lhs;(reduce;(try simp only[Int.reduceOfNat,Int.reduceNegSucc]))) (h2:rJ cf.ntmps (iG (args++cap))=m:=by conv=>lhs;whnf) (h3:qi 0 (args++cap) []=l0:=by dsimp only[qi,Nat.reduceAdd,List.append_nil,List.cons_append,List.nil_append]):oL P (.func f) args cap kl F ret kl' fs pr:=
 λB w s=>UN cf hF h1 h2 h3 (hb B w w s)
theorem Jv{Y:Type}{f:FuncId}{args cap:List Value}{pm:FrameMode}{kl:List OA}{F:List aD}{ret:Y->iO}{md:Y->FrameMode}{kl':Y->List OA}{fs:Y->List aD}{pr:Y->Prop}{c:dm}{m:Nat}{l0:List (Nat×Value)}(cf:gU)(hF:(p9 P qI qa).F f=some cf)
 (hb:∀B w0,R (λh=>EV P c (act m l0 [] (some pm) none) h (pE P cf (N9 B w0 ret md kl' fs pr))) B w0 kl F)
 (h1:cf.body=c:=by conv=>lhs;(reduce;(try simp only[Int.reduceOfNat,Int.reduceNegSucc]))) (h2:rJ cf.ntmps (iG (args++cap))=m:=by conv=>lhs;whnf) (h3:qi 0 (args++cap) []=l0:=by dsimp only[qi,Nat.reduceAdd,List.append_nil,List.cons_append,List.nil_append]):Dh P (.func f) args cap pm kl F ret md kl' fs pr:=
 λB w s=>UN cf hF h1 h2 h3 (hb B w w s)
section
variable {B:List Nat} {w0:Wd} {kl kl' aT:List OA} {F:List aD} {K:KO} {ds:List Tmp} {rest:List bP} {n:Nat} {l:List (Nat×Value)} {D:List Deferred} {pm:Option FrameMode} {ro:Option Nat} {d:Nat} {g:Option (Tmp×Bool)}
theorem St.Jw{w:Wd}{k1 aT:List OA}{F1:List aD}(s:St B w0 kl F w)(hk:aO k1 kl aT)(hF:Sub F1 F):
 ∃S1,St S1 w k1 F1 w/\∀(w':Wd) (k1':List OA) (F':List aD),St S1 w k1' F' w'->St B w0 (k1'++aT) (F'++F) w':=by
 obtain⟨S,h1,h2,h3⟩:=s.own;obtain⟨S1,S2,q1,q2,hp⟩:=h1.jy hk;have hsub:∀i∈S1,i∈S:=λi hi=>hp.mem_iff.2 (kK _ hi);exact⟨S1,⟨⟨bB _,λ_ _ _=>rfl,λ_ _=>rfl⟩,Wd.Le.refl w,λi _ hz=>.inl hz,⟨S1,q1,(iN.1 (hp.nodup h2)).1,λi hi=>⟨.inr hi,(h3 i (hsub i hi)).2⟩⟩,λf hf=>s.facts f (hF.mem f hf)⟩,
  λw' k1' F' c=>s.call (k1:=k1) (F1:=F1) ⟨S,hp,h2,h3⟩ q2 c⟩
theorem aeL{Y:Type}{f:Operand}{xs:List Operand}{re:List iw}{fn:Fn}{first captured vs as:List Value}{k1:List OA}{F1:List aD}{ret:Y->iO}{k1':Y->List OA}{fs:Y->List aD}{pr:Y->Prop}
 (hc:oL P fn as captured k1 F1 ret k1' fs pr) (hn:Nat.blt d n=true) (hg:bM l g=true) (hf:ev l f=.func fn ⟨first⟩ ⟨captured⟩) (hx:EvL (ev l) xs vs) (ha:first++vs=as)
 (hk:aO k1 kl aT) (hF:Sub F1 F)
 (hs:∀y v,pr y->ret y=.ok v->Same P re (ev ((d,v)::l)) ((d,v)::l) B w0 (k1' y++aT) (fs y++F))
 (next:∀y v,pr y->ret y=.ok v->R (λh=>aI P ds rest (act n ((d,v)::l) D pm ro) h K) B w0 (k1' y++aT) (fs y++F))
 (FM:∀y ch,pr y->ret y=.fT ch->R (λh=>K (.panic ch) (act n (Bb ds n l) D pm ro) h) B w0 (k1' y++aT) (fs y++F)):
 R (λh=>aI P ds (⟨⟨some d,g,.call f xs⟩,re⟩::rest) (act n l D pm ro) h K) B w0 kl F:=by
 intro w s;obtain⟨S1,s1,back⟩:=s.Jw hk hF;have hcall:=hc S1 w s1;subst ha;rw[<- hx.map]at hcall;refine s_call hn hg fn hf _ hcall ?_ ?_ ?_ ?_
 ·rintro v h' ⟨_,w',y,rfl,c,hv,hpr⟩;exact hs y v hpr hv.symm w' (back w' _ _ c)
 ·rintro v h' ⟨_,w',y,rfl,c,hv,hpr⟩;exact next y v hpr hv.symm w' (back w' _ _ c)
 ·rintro ch h' ⟨_,w',y,rfl,c,hv,hpr⟩;rw[Iq];exact FM y ch hpr hv.symm w' (back w' _ _ c)
 ·rintro r p h' ⟨e,_⟩;exact e
theorem ql{Y:Type}{f:Operand}{xs:List Operand}{re:List iw}{fn:Fn}{first captured vs as:List Value}{k1:List OA}{F1:List aD}{ret:Y->iO}{k1':Y->List OA}{fs:Y->List aD}{pr:Y->Prop}{dS:Y->List OA}{F2:Y->List aD}
 (hc:oL P fn as captured k1 F1 ret k1' fs pr)
 (next:∀y v,pr y->ret y=.ok v->R (λh=>aI P ds rest (act n ((d,v)::l) D pm ro) h K) B w0 (dS y) (F2 y))
 (FM:∀y ch,pr y->ret y=.fT ch->R (λh=>K (.panic ch) (act n (Bb ds n l) D pm ro) h) B w0 (dS y) (F2 y))
 (hn:Nat.blt d n=true:=by rfl) (hg:bM l g=true:=by rfl) (hf:ev l f=.func fn ⟨first⟩ ⟨captured⟩:=by rfl) (hx:EvL (ev l) xs vs:=by repeat (first|with_reducible exact EvL.nil|((with_reducible apply EvL.cons);(conv=>lhs;whnf)))) (ha:first++vs=as:=by rfl)
 (hk:aO k1 kl aT:=by exact l6) (hF:Sub F1 F:=by exact l5) (hk2:∀y,aX (k1' y) aT (dS y):=by intro y;repeat (first|exact aX.nil|apply aX.cons|exact aX.self|exact aX.app)) (hF2:∀y,aX (fs y) F (F2 y):=by intro y;repeat (first|exact aX.nil|apply aX.cons|exact aX.self|exact aX.app))
 (hs:∀y v,pr y->ret y=.ok v->Same P re (ev ((d,v)::l)) ((d,v)::l) B w0 (dS y) (F2 y):=by intro _ _ _ _;repeat (first|exact CZ|refine C8 rfl (by repeat (first|with_reducible exact az.here|with_reducible apply az.there|with_reducible apply az.app)) (by first|exact rfl|(conv=>lhs;whnf)) rfl ?_|refine FC rfl (by(repeat (first|with_reducible exact bR .. |with_reducible apply bU));first|done|fail) (by first|exact rfl|(conv=>lhs;whnf)) rfl ?_|refine FD rfl (by(repeat (first|with_reducible exact bR .. |with_reducible apply bU));first|done|fail) (by first|exact rfl|(conv=>lhs;whnf)) rfl ?_|refine FE rfl (by repeat (first|with_reducible exact az.here|with_reducible apply az.there|with_reducible apply az.app)) (by first|exact rfl|(conv=>lhs;whnf)) rfl ?_|refine FH rfl (by(repeat (first|with_reducible exact bR .. |with_reducible apply bU));first|done|fail) (by first|exact rfl|(conv=>lhs;whnf)) rfl ?_|refine FI rfl (by(repeat (first|with_reducible exact bR .. |with_reducible apply bU));first|done|fail) (by first|exact rfl|(conv=>lhs;whnf)) rfl ?_)):
 R (λh=>aI P ds (⟨⟨some d,g,.call f xs⟩,re⟩::rest) (act n l D pm ro) h K) B w0 kl F:=
 aeL hc hn hg hf hx ha hk hF (λy v a b=>by rw[(hk2 y).eq,(hF2 y).eq];exact hs y v a b) (λy v a b=>by rw[(hk2 y).eq,(hF2 y).eq];exact next y v a b) (λy v a b=>by rw[(hk2 y).eq,(hF2 y).eq];exact FM y v a b)
theorem Bg{x:Operand}{t:TypeId}{v:Value}{dst:Option Tmp}{re:List iw}
 (next:R (λh=>K (.panic [{v:=.iface t v,recovered:=false}]) (act n (Bb ds n l) D pm ro) h) B w0 kl F)
 (hx:ev l x=.iface t v:=by rfl) (hg:bM l g=true:=by rfl):R (λh=>aI P ds (⟨⟨dst,g,.panic x⟩,re⟩::rest) (act n l D pm ro) h K) B w0 kl F:=λw s=>ac6 hg hx (next w s)
theorem Oa{f:Operand}{args:List Operand}{fn:Fn}{first captured vs:List Value}
 (next:R (λh=>aI P ds rest (act n l ({target:=.fn fn ⟨captured⟩,args:=⟨first++vs⟩}::D) pm none) h K) B w0 kl F)
 (hf:ev l f=.func fn ⟨first⟩ ⟨captured⟩:=by rfl) (hx:EvL (ev l) args vs:=by repeat (first|with_reducible exact EvL.nil|((with_reducible apply EvL.cons);(conv=>lhs;whnf)))) (hg:bM l g=true:=by rfl):
 R (λh=>aI P ds (⟨⟨none,g,.dcall f args⟩,[]⟩::rest) (act n l D pm none) h K) B w0 kl F:=λw s=>by
 refine ac7 hg rfl hf ?_;rw[hx.map];exact next w s
theorem Jy{m:FrameMode}{v:Value}{m':FrameMode}(he:jL m=(v,m'))
 (next:R (λh=>aI P ds rest (act n ((d,v)::l) D (some m') none) h K) B w0 kl F) (hn:Nat.blt d n=true:=by rfl) (hg:bM l g=true:=by rfl):
 R (λh=>aI P ds (⟨⟨some d,g,.recover⟩,[]⟩::rest) (act n l D (some m) none) h K) B w0 kl F:=λw s=>by
 refine ac8 hn hg rfl ?_;rw[he];exact next w s
def RL(P:Program)(cf:gU)(l:List (Nat×Value))(D:List Deferred)(m:FrameMode)(Kr:iO->IH->Prop)(B:List Nat)(w0:Wd)(kl:List OA)(F:List aD):Prop:=∀w,St B w0 kl F w->LEAVE P cf (fU l) D m w.h Kr
theorem Bh{cf:gU}{Kr:KR}{o:Out}{m:FrameMode}(h:RL P cf l D m (λr h=>Kr r pm h) B w0 kl F)(hm:tq o=some m:=by rfl):R (λh=>pE P cf Kr o (act n l D pm ro) h) B w0 kl F:=λw s=>by
 show(match tq o with
  |none=>False
  |some m=>LEAVE P cf (fU l) D m w.h λr h''=>Kr r pm h'')
 rw[hm];exact h w s
variable {cf:gU} {Kr:iO->IH->Prop}
theorem aeM{vs:List Value}(hk:∀w,St B w0 kl F w->Kr (.ok (qP vs)) w.h)(hr:RS l kl cf.results vs:=by exact Be):RL P cf l [] .returning Kr B w0 kl F:=λw s=>by
 refine .ret (qP vs) ?_ (hk w s);unfold qH;rw[hr.all s];match vs with
 |[]=>rfl
 |[v]=>rfl
 |_::_::_=>rfl
theorem Jz{Y:Type}{fn:Fn}{captured args:List Value}{m:FrameMode}{k1:List OA}{F1:List aD}{ret:Y->iO}{md:Y->FrameMode}{k1':Y->List OA}{fs:Y->List aD}{pr:Y->Prop}{dS:Y->List OA}{F2:Y->List aD}
 (hc:Dh P fn args captured m k1 F1 ret md k1' fs pr)
 (next:∀y v,pr y->ret y=.ok v->RL P cf l D (za (md y)) Kr B w0 (dS y) (F2 y))
 (FM:∀y ch,pr y->ret y=.fT ch->RL P cf l D (Co (md y) ch) Kr B w0 (dS y) (F2 y))
 (hk:aO k1 kl aT:=by exact l6) (hF:Sub F1 F:=by exact l5) (hk2:∀y,aX (k1' y) aT (dS y):=by intro y;repeat (first|exact aX.nil|apply aX.cons|exact aX.self|exact aX.app)) (hF2:∀y,aX (fs y) F (F2 y):=by intro y;repeat (first|exact aX.nil|apply aX.cons|exact aX.self|exact aX.app)) (hm:m≠.run:=by intro e;cases e):
 RL P cf l ({target:=.fn fn ⟨captured⟩,args:=⟨args⟩}::D) m Kr B w0 kl F:=λw s=>by
 obtain⟨S1,s1,back⟩:=s.Jw hk hF;refine .call hm _ (hc S1 w s1) ?_ ?_ ?_
 ·rintro r p h' ⟨w',y,e,_⟩ hp;rw[e]at hp;cases hp
 ·rintro v m' h' ⟨w',y,e,rfl,c,hv,hpr⟩;injection e with e;subst e;have:=next y v hpr hv.symm w' (by rw[<- (hk2 y).eq,<- (hF2 y).eq];exact back w' _ _ c)
  exact this
 ·rintro ch m' h' ⟨w',y,e,rfl,c,hv,hpr⟩;injection e with e;subst e;exact FM y ch hpr hv.symm w' (by rw[<- (hk2 y).eq,<- (hF2 y).eq];exact back w' _ _ c)
theorem zH{Y:Type}{o:Out}{vs:List Value}{ret:Y->iO}{k1:Y->List OA}{fs:Y->List aD}{pr:Y->Prop}{dS:List OA}(y:Y)(hv:ret y=.ok (qP vs))(hp:pr y)(hD:jA kl D dS:=by repeat (first|exact jA.nil|(apply jA.cons;(focus (repeat (first|with_reducible exact az.here|with_reducible apply az.there|with_reducible apply az.app))))))
 (hr:RS l dS cf.results vs:=by exact Be) (hk:aO (k1 y) dS aT:=by exact l6) (hF:Sub (fs y) F:=by exact l5) (ho:o=.normal\/o=.ret:=by first|exact .inl rfl|exact .inr rfl):
 R (λh=>pE P cf (xP B w0 ret k1 fs pr) o (act n l D none ro) h) B w0 kl F:=by
 refine Bh (m:=.returning) ?_ (by rcases ho with rfl|rfl<;>rfl);intro w s;refine jA.leave hD (λw' s'=>⟨qP vs,?_,rfl,w',y,rfl,((s'.jy hk).drop).sub hF,hv.symm,hp⟩) w s;unfold qH;rw[hr.all s'];match vs with
 |[]=>rfl
 |[v]=>rfl
 |_::_::_=>rfl
theorem jA.UO{ts:T Value}{ch:List PanicEntry}:∀{D:List Deferred} {kl dS:List OA},jA kl D dS->(∀w',St B w0 dS F w'->Kr (.fT ch) w'.h)->∀w,St B w0 kl F w->LEAVE P cf ts D (.panicking ch) w.h Kr
 |_,_,_,.nil,hk,w,s=>.fT ch (hk w s)
 |_,_,_,.cons (r:=r) h t,hk,w,s=>by
  have s1:=s.fA h;refine .coll (by intro e;cases e) r s1.get.1 ?_;exact jA.UO t hk _ (s1.write (o':=.gT false)).tail
theorem zI{Y:Type}{ch:List PanicEntry}{ret:Y->iO}{k1:Y->List OA}{fs:Y->List aD}{pr:Y->Prop}{dS:List OA}(y:Y)(hv:ret y=.fT ch)(hp:pr y)(hD:jA kl D dS:=by repeat (first|exact jA.nil|(apply jA.cons;(focus (repeat (first|with_reducible exact az.here|with_reducible apply az.there|with_reducible apply az.app))))))
 (hk:aO (k1 y) dS aT:=by exact l6) (hF:Sub (fs y) F:=by exact l5):
 R (λh=>pE P cf (xP B w0 ret k1 fs pr) (.panic ch) (act n l D none ro) h) B w0 kl F:=by
 refine Bh (m:=.panicking ch) ?_;intro w s;exact jA.UO hD (λw' s'=>⟨rfl,w',y,rfl,((s'.jy hk).drop).sub hF,hv.symm,hp⟩) w s
theorem JA{Y:Type}{o:Out}{vs:List Value}{ret:Y->iO}{m:FrameMode}{md:Y->FrameMode}{k1:Y->List OA}{fs:Y->List aD}{pr:Y->Prop}{dS:List OA}(y:Y)(hv:ret y=.ok (qP vs))(hm:md y=m)(hp:pr y)(hD:jA kl D dS:=by repeat (first|exact jA.nil|(apply jA.cons;(focus (repeat (first|with_reducible exact az.here|with_reducible apply az.there|with_reducible apply az.app))))))
 (hr:RS l dS cf.results vs:=by exact Be) (hk:aO (k1 y) dS aT:=by exact l6) (hF:Sub (fs y) F:=by exact l5) (ho:o=.normal\/o=.ret:=by first|exact .inl rfl|exact .inr rfl):
 R (λh=>pE P cf (N9 B w0 ret md k1 fs pr) o (act n l D (some m) ro) h) B w0 kl F:=by
 refine Bh (m:=.returning) ?_ (by rcases ho with rfl|rfl<;>rfl);intro w s;refine jA.leave hD (λw' s'=>⟨qP vs,?_,w',y,by rw[hm],rfl,((s'.jy hk).drop).sub hF,hv.symm,hp⟩) w s;unfold qH;rw[hr.all s'];match vs with
 |[]=>rfl
 |[v]=>rfl
 |_::_::_=>rfl
theorem JB{Y:Type}{ret:Y->iO}{k1:Y->List OA}{fs:Y->List aD}{pr:Y->Prop}{vs:List Value}(y:Y)(hv:ret y=.ok (qP vs))(hp:pr y)(hr:RS l kl cf.results vs:=by exact Be)(hk:aO (k1 y) kl aT:=by exact l6)(hF:Sub (fs y) F:=by exact l5):
 RL P cf l [] .returning (λr h=>xP B w0 ret k1 fs pr r none h) B w0 kl F:=
 aeM (λw s=>⟨rfl,w,y,rfl,((s.jy hk).drop).sub hF,hv.symm,hp⟩) hr
end
end Go.Ideal
namespace Go.Ideal
variable {P:Program}
theorem UQ{α β:Type}(f:α->β)(hf:∀a b,f a=f b->a=b){l1 l2:List α}(h:(l1.map f).Perm (l2.map f)):l1.Perm l2:=by
 classical
 rw[List.perm_iff_count];intro a;have:=h.count_eq (f a);have key:∀l:List α,(l.map f).count (f a)=l.count a:=by
  intro l;induction l with
  |nil=>rfl
  |cons x l ih=>
   rw[fI,List.count_cons,List.count_cons,ih];by_cases e:x=a
   ·subst e;simp
   ·have:¬f x=f a:=λh=>e (hf _ _ h);simp[e,this]
 rw[key,key]at this;exact this
theorem UR{α β:Type}{f:α->β}:∀{l:List α},(l.map f).Nodup->∀{a b:α},a∈l->b∈l->f a=f b->a=b
 |[],_,a,b,ha,_,_=>by cases ha
 |x::l,h,a,b,ha,hb,e=>by
  rw[fI,yS]at h;obtain⟨hx,hl⟩:=h;rcases bN.1 ha with h1|ha<;>rcases bN.1 hb with h2|hb
  ·rw[h1,h2]
  ·rw[<- h1,e]at hx;exact absurd (LV hb) hx
  ·rw[<- h2,<- e]at hx;exact absurd (LV ha) hx
  ·exact UR hl ha hb e
def pG{α:Type}[DecidableEq α](a:α):List (α×Value)->Nat->Option (Nat×Value)
 |[],_=>none
 |(b,v)::l,i=>if a=b then some (i,v)else pG a l (i+1)
def dU{α β:Type}[DecidableEq α](a:α):List (α×β)->Option β
 |[]=>none
 |(b,v)::l=>if a=b then some v else dU a l
def upd{α β:Type}[DecidableEq α](a:α)(v:β):List (α×β)->List (α×β)
 |[]=>[(a,v)]
 |(b,u)::l=>if a=b then(a,v)::l else(b,u)::upd a v l
def pI{α:Type}(aY:α->Value)(ax:List (α×Value))(es:List MapEntry):Prop:=es.map (λe=>(e.key,e.val))=ax.map λp=>(aY p.1,p.2)
structure rY(P:Program)(kt:TypeId){α:Type}[DecidableEq α](aY:α->Value):Prop where
 FN:∀a,rF P kt (aY a)=true
 find:∀a ax es,pI aY ax es->sV P kt (aY a) es=some (pG a ax 0)
 same:∀a,Instr.sameBits 10000 (aY a) (aY a)=true
theorem UT{kt:TypeId}{v:Value}(ha:dF v=true)(h:∀b,eB P (Instr.checkKey b 10000 kt v)=some ()):rF P kt v=true:=by
 unfold rF;rw[ha,h true,h false];rfl
theorem Ob{α:Type}{aY:α->Value}{p:α×Value}{ax:List (α×Value)}{es:List MapEntry}(h:pI aY (p::ax) es):∃e es',es=e::es'/\e.key=aY p.1/\e.val=p.2/\pI aY ax es':=by
 cases es with
 |nil=>cases h
 |cons e es=>
  unfold pI at h;rw[fI,fI]at h;injection h with h1 h2;injection h1 with h1 h3;exact⟨e,es,rfl,h1,h3,h2⟩
theorem UU{α:Type}[DecidableEq α]{aY:α->Value}{d:TypeDesc}(hs:∀a b,Instr.sameNow d (aY a) (aY b)=some (decide (a=b)))(a:α):∀(ax:List (α×Value)) (es:List MapEntry) (i:Nat),pI aY ax es->Instr.findNow d (aY a) es i=some (pG a ax i)
 |[],es,i,h=>by
  cases es with
  |nil=>rfl
  |cons e es=>cases h
 |p::ax,es,i,h=>by
  obtain⟨e,es',rfl,h1,h2,h3⟩:=Ob h;have ih:=UU hs a ax es' (i+1) h3;show(match Instr.sameNow d (aY a) e.key with
   |some true=>some (some (i,e.val))
   |some false=>Instr.findNow d (aY a) es' (i+1)
   |none=>none)=_
  rw[h1,hs a p.1];unfold pG;by_cases hab:a=p.1
  ·rw[fQ hab,if_pos hab,h2]
  ·rw[dM hab,if_neg hab];exact ih
theorem UW{α:Type}[DecidableEq α]{aY:α->Value}{kt:TypeId}{d:TypeDesc}(hu:P.underlying kt=some d)(hs:∀a b,Instr.sameNow d (aY a) (aY b)=some (decide (a=b)))(a:α)(ax:List (α×Value))(es:List MapEntry)(h:pI aY ax es):sV P kt (aY a) es=some (pG a ax 0):=by
 unfold sV Instr.findKey;rw[ig,rX hu];simp only[iU,UU hs a ax es 0 h];rfl
theorem aeN{kt:TypeId}(hu:P.underlying kt=some (.int .i64)):rY P kt (λn:Int=>.int .i64 n) where
 FN a:=UT rfl λb=>by
  show eB P (Instr.checkKey b (9999+1) kt _)=_;unfold Instr.checkKey;rw[ig,rX hu];rfl
 find a ax es h:=UW hu (λa b=>by
  show(if IntKind.i64=IntKind.i64 then some (a==b)else none)=_;rw[if_pos rfl];congr 1) a ax es h
 same a:=by
  show(IntKind.i64==IntKind.i64&&a==a)=true;simp
theorem bytes_beq(a b:ByteArray):(a==b)=decide (a=b):=by
 have:(a==b)=(a.data==b.data):=rfl;rw[this];by_cases h:a=b
 ·subst h;simp
 ·rw[dM h];cases hb:a.data==b.data with
  |false=>rfl
  |true=>exact absurd (ByteArray.ext (eq_of_beq hb)) h
theorem aeO{kt:TypeId}(hu:P.underlying kt=some .string):rY P kt (λs:ByteArray=>.string s) where
 FN a:=UT rfl λb=>by
  show eB P (Instr.checkKey b (9999+1) kt _)=_;unfold Instr.checkKey;rw[ig,rX hu];rfl
 find a ax es h:=UW hu (λa b=>by
  show some (a==b)=_;rw[bytes_beq]) a ax es h
 same a:=by
  show(a==a)=true;rw[bytes_beq];simp
theorem UX{α:Type}[DecidableEq α](a:α):∀(ax:List (α×Value)) (i:Nat),(pG a ax i).map (·.2)=dU a ax
 |[],_=>rfl
 |(b,v)::l,i=>by
  unfold pG dU;by_cases h:a=b
  ·rw[if_pos h,if_pos h];rfl
  ·rw[if_neg h,if_neg h];exact UX a l (i+1)
theorem UY{α:Type}[DecidableEq α]{aY:α->Value}{kt:TypeId}(hk:rY P kt aY){h:IH}{m zero:Value}{ok:Bool}{a:α}{ax:List (α×Value)}{es:List MapEntry}(he:entriesOf m h=some es)(ho:pI aY ax es):
 Aw P kt zero m (aY a) ok h=some (match dU a ax with
  |some v=>cond ok (.tuple #[v,.bool true]) v
  |none=>cond ok (.tuple #[zero,.bool false]) zero):=by
 unfold Aw;simp only[he,hk.FN,cond_true,hk.find a ax es ho];have:=UX a ax 0;cases hf:pG a ax 0 with
 |none=>rw[hf]at this;rw[<- this];rfl
 |some p=>rw[hf]at this;rw[<- this];rfl
theorem UZ{α:Type}[DecidableEq α](a:α):∀(ax:List (α×Value)) (i j:Nat) (v:Value),pG a ax i=some (j,v)->∃k,j=i+k/\ax[k]? =some (a,v)/\∀u,upd a u ax=ax.set k (a,u)
 |[],i,j,v,h=>by cases h
 |(b,w)::l,i,j,v,h=>by
  unfold pG at h;split at h
  ·rename_i hab;subst hab;cases h;exact⟨0,rfl,rfl,λu=>by simp[upd]⟩
  ·rename_i hab;obtain⟨k,h1,h2,h3⟩:=UZ a l (i+1) j v h;exact⟨k+1,by omega,by simpa using h2,λu=>by simp[upd,if_neg hab,h3]⟩
theorem U0{α:Type}[DecidableEq α](a:α):∀(ax:List (α×Value)) (i:Nat),pG a ax i=none->(∀p∈ax,a≠p.1)/\∀u,upd a u ax=ax++[(a,u)]
 |[],i,h=>⟨λp hp=>(by cases hp),λu=>rfl⟩
 |(b,w)::l,i,h=>by
  unfold pG at h;split at h
  ·cases h
  ·rename_i hab;obtain⟨h1,h2⟩:=U0 a l (i+1) h;refine⟨λp hp=>?_,λu=>by simp[upd,if_neg hab,h2]⟩;rcases bN.1 hp with rfl|hp
   ·exact hab
   ·exact h1 p hp
structure Bi{α:Type}(aY:α->Value)(ax:List (α×Value))(es:List MapEntry)(clock:Nat):Prop where
 uf:pI aY ax es
 lt:∀e∈es,e.born<clock
 nd:(es.map (·.born)).Nodup
 keys:(ax.map (·.1)).Nodup
theorem aeP{α:Type}[DecidableEq α]{aY:α->Value}{kt:TypeId}(hk:rY P kt aY){h:IH}{b:Nat}{a:α}{v:Value}{ax:List (α×Value)}{es:List MapEntry}{clock:Nat}(hg:h.get b=some (.map es clock))(ho:Bi aY ax es clock):
 ∃es' clock',Eu P kt (.map (some b)) (aY a) v h=some (h.set b (.map es' clock'))/\Bi aY (upd a v ax) es' clock':=by
 unfold Eu;simp only[hg,hk.FN,cond_true,hk.find a ax es ho.uf];cases hf:pG a ax 0 with
 |none=>
  obtain⟨h1,h2⟩:=U0 a ax 0 hf;refine⟨_,_,rfl,?_⟩;rw[h2,jE];refine⟨?_,λe he=>?_,?_,?_⟩
  ·unfold pI;rw[di,di,ho.uf];rfl
  ·rcases gH.1 he with he|he
   ·exact LU (ho.lt e he)
   ·rw[bO.1 he];exact vT _
  ·rw[di,iN];refine⟨ho.nd,by simp,λx hx y hy e=>?_⟩;obtain⟨e0,he0,rfl⟩:=cZ.1 hx;have:y=clock:=by simpa using hy
   have:=ho.lt e0 he0;omega
  ·rw[di,iN];refine⟨ho.keys,by simp,λx hx y hy e=>?_⟩;obtain⟨p,hp,rfl⟩:=cZ.1 hx;have:y=a:=by simpa using hy
   exact h1 p hp (by rw[e,this])
 |some p=>
  obtain⟨j,u⟩:=p;obtain⟨k,rfl,h2,h3⟩:=UZ a ax 0 j u hf;rw[fw];have hlen:es.length=ax.length:=by
   have:=congrArg List.length ho.uf;simpa using this
  have hk':=(aW.1 h2).1;have Oc:es[k]? =some es[k]:=bC (by omega);have hkey:es[k].key=aY a:=by
   have:=congrArg (λl=>l[k]?) ho.uf;simp only[dR,Oc,h2,jZ]at this;injection this with this;injection this
  simp only[qK,Oc,hkey,hk.same,cond_true];refine⟨_,_,rfl,?_⟩;rw[h3,Sc];refine⟨?_,λe he=>?_,?_,?_⟩
  ·unfold pI;apply iF;intro i;have:=congrArg (λl=>l[i]?) ho.uf;simp only[dR]at this;simp only[dR,List.getElem?_modify,mV];by_cases hi:k=i
   ·subst hi;simp[Oc,hk']
   ·rw[if_neg hi];cases he:es[i]? with
    |none=>rw[he]at this;simp only[Option.map_none]at this⊢;simp[hi,<- this]
    |some e=>rw[he]at this;simp only[jZ]at this⊢;simp[hi,<- this]
  ·obtain⟨i,he⟩:=wZ.1 he;rw[List.getElem?_modify]at he;cases Od:es[i]? with
   |none=>rw[Od]at he;simp at he
   |some e0=>
    rw[Od]at he;have hlt:=ho.lt e0 (aR Od);injection he with he;rw[<- he];split<;>exact hlt
  ·have:(es.modify k λe=>{e with key:=aY a,val:=v}).map (·.born)=es.map (·.born):=by
    apply iF;intro i;simp only[dR,List.getElem?_modify];cases es[i]? with
    |none=>rfl
    |some e=>simp only[jZ];split<;>rfl
   rw[this];exact ho.nd
  ·have:(ax.set k (a,v)).map (·.1)=ax.map (·.1):=by
    apply iF;intro i;simp only[dR,mV];by_cases hi:k=i
    ·subst hi;rw[if_pos rfl,if_pos hk',h2];rfl
    ·rw[if_neg hi]
   rw[this];exact ho.keys
def gL{α:Type}(aY:α->Value)(b:Nat)(ax:List (α×Value)):OA:=⟨λw S=>S=[b]/\∃es clock,w.h.get b=some (.map es clock)/\Bi aY ax es clock,λa h ⟨h1,es,clock,h2,h3⟩=>⟨h1,es,clock,by rw[h b (by rw[h1];exact bO.2 rfl)];exact h2,h3⟩⟩
def xQ{α:Type}(aY:α->Value)(b:Nat)(ax:List (α×Value)):aD:=⟨λw=>w.z b/\∃es clock,w.h.get b=some (.map es clock)/\Bi aY ax es clock,λa ⟨h1,es,clock,h2,h3⟩=>⟨a.z b h1,es,clock,by rw[a.get b h1];exact h2,h3⟩⟩
theorem Di{α:Type}{aY:α->Value}{b:Nat}{ax:List (α×Value)}:qO (gL aY b ax) [xQ aY b ax]:=by
 intro w w' S ⟨h1,es,clock,h2,h3⟩ hle hh hz f hf;rw[bO.1 hf];exact⟨hz b (by rw[h1];exact bO.2 rfl),es,clock,by rw[hh];exact h2,h3⟩
section
variable {B:List Nat} {w0:Wd} {kl kl' aT:List OA} {F:List aD} {K:KO} {ds:List Tmp} {rest:List bP} {n:Nat} {l:List (Nat×Value)} {D:List Deferred} {pm:Option FrameMode} {ro:Option Nat} {d:Nat} {g:Option (Tmp×Bool)}
variable {α:Type} [DecidableEq α] {aY:α->Value}
theorem St.U4{b:Nat}{ax:List (α×Value)}{w:Wd}(h:St B w0 (gL aY b ax::kl) F w):∃es clock,Bi aY ax es clock/\St B w0 (pt b (.map es clock)::kl) F w:=by
 obtain⟨S,⟨S1,S2,⟨q1,es,clock,q3,q4⟩,q2,e⟩,h2,h3⟩:=h.own;exact⟨es,clock,q4,h.agree,h.le,h.fE,⟨S,⟨S1,S2,⟨q1,q3⟩,q2,e⟩,h2,h3⟩,h.facts⟩
theorem zJ(aY:α->Value)
 (next:∀b,R (λh=>aI P ds rest (act n ((d,.map (some b))::l) D pm ro) h K) B w0 (gL aY b []::kl) F) (hn:Nat.blt d n=true:=by rfl) (hg:bM l g=true:=by rfl):
 R (λh=>aI P ds (⟨⟨some d,g,.vW⟩,[]⟩::rest) (act n l D pm ro) h K) B w0 kl F:=λw s=>
 lW hn hg (h':=w.h.new (.map [] 0)) (by simp only[aF.run,aF.alloc,rH]) (next w.h.next (w.new _) ((s.new _).zy (A:=pt w.h.next (.map [] 0)) (A':=gL aY w.h.next []) λw S hp=>⟨hp.1,[],0,hp.2,⟨rfl,λe he=>(by cases he),yU,yU⟩⟩))
def kU{α:Type}[DecidableEq α](ok:Bool)(zero:Value)(a:α)(ax:List (α×Value)):Value:=match dU a ax with
 |some v=>cond ok (.tuple #[v,.bool true]) v
 |none=>cond ok (.tuple #[zero,.bool false]) zero
theorem U5{kt:TypeId}{zero:Value}{m k:Operand}{ok:Bool}{b:Nat}{ax:List (α×Value)}(hk:rY P kt aY)(a:α)
 (next:R (λh=>aI P ds rest (act n ((d,kU ok zero a ax)::l) D pm ro) h K) B w0 kl F)
 (hm:ev l m=.map (some b):=by rfl) (ha:ev l k=aY a:=by conv=>lhs;whnf) (hf:xQ aY b ax∈F:=by exact tX) (hn:Nat.blt d n=true:=by rfl) (hg:bM l g=true:=by rfl):
 R (λh=>aI P ds (⟨⟨some d,g,.lookup kt zero m k ok⟩,[]⟩::rest) (act n l D pm ro) h K) B w0 kl F:=λw s=>by
 obtain⟨_,es,clock,h1,h2⟩:=s.facts _ hf;refine lW hn hg (v:=kU ok zero a ax) ?_ (next w s);have:Aw P kt zero (.map (some b)) (aY a) ok w.h=_:=UY hk (by simp only[entriesOf,h1]) h2.uf;simp only[aF.run,hm,ha,this];rfl
theorem FO{kt:TypeId}{zero:Value}{m k:Operand}{ok:Bool}{b:Nat}{ax:List (α×Value)}(hk:rY P kt aY)(a:α)
 (next:R (λh=>aI P ds rest (act n ((d,kU ok zero a ax)::l) D pm ro) h K) B w0 kl F)
 (hm:ev l m=.map (some b):=by rfl) (ha:ev l k=aY a:=by conv=>lhs;whnf) (hs:az (gL aY b ax) kl kl':=by exact fB) (hn:Nat.blt d n=true:=by rfl) (hg:bM l g=true:=by rfl):
 R (λh=>aI P ds (⟨⟨some d,g,.lookup kt zero m k ok⟩,[]⟩::rest) (act n l D pm ro) h K) B w0 kl F:=λw s=>by
 obtain⟨es,clock,h2,s1⟩:=(s.fA hs).U4;refine lW hn hg (v:=kU ok zero a ax) ?_ (next w s);have:Aw P kt zero (.map (some b)) (aY a) ok w.h=_:=UY hk (by simp only[entriesOf,s1.get.1]) h2.uf;simp only[aF.run,hm,ha,this];rfl
theorem xR{kt:TypeId}{m k x:Operand}{b:Nat}{v:Value}{ax:List (α×Value)}(hk:rY P kt aY)(a:α)
 (next:R (λh=>aI P ds rest (act n l D pm ro) h K) B w0 (gL aY b (upd a v ax)::kl') F)
 (hm:ev l m=.map (some b):=by rfl) (ha:ev l k=aY a:=by conv=>lhs;whnf) (hv:ev l x=v:=by conv=>lhs;whnf) (hs:az (gL aY b ax) kl kl':=by exact fB) (hg:bM l g=true:=by rfl):
 R (λh=>aI P ds (⟨⟨none,g,.GX kt m k x⟩,[]⟩::rest) (act n l D pm ro) h K) B w0 kl F:=λw s=>by
 obtain⟨es,clock,h2,s1⟩:=(s.fA hs).U4;obtain⟨es',clock',e1,e2⟩:=aeP (v:=v) hk (a:=a) s1.get.1 h2;refine Io hg (v:=dO) (h':=w.h.set b (.map es' clock')) ?_ (next _ ((s1.write (o':=.map es' clock')).zy (A:=pt b (.map es' clock')) (A':=gL aY b (upd a v ax)) λw S hp=>⟨hp.1,es',clock',hp.2,e2⟩));simp only[aF.run,hm,ha,hv,e1]
theorem U6{ax:List (α×Value)}{es:List MapEntry}{clock:Nat}(h:Bi aY ax es clock):es.length=ax.length:=by
 have:=congrArg List.length h.uf;simpa using this
def Dj{α:Type}(aY:α->Value)(r b:Nat)(ax dx:List (α×Value)):OA:=⟨λw S=>S=[r]/\∃es clock seen last,w.h.get b=some (.map es clock)/\w.z b/\Bi aY ax es clock/\w.h.get r=some (.mapIter (some b) clock seen last)/\last=clock/\
 (∃ve rem:List MapEntry,pI aY dx ve/\ve.map (·.born)=seen/\(ve++rem).Perm es),
 λa h ⟨h1,es,clock,seen,last,h2,h3,h4,h5,h6,h7⟩=>⟨h1,es,clock,seen,last,by rw[a.get b h3];exact h2,a.z b h3,h4,by rw[h r (by rw[h1];exact bO.2 rfl)];exact h5,h6,h7⟩⟩
theorem aeQ{m:Operand}{b:Nat}{ax:List (α×Value)}
 (next:∀r,R (λh=>aI P ds rest (act n ((d,.pointer (some ⟨r,0,none⟩))::l) D pm ro) h K) B w0 (Dj aY r b ax []::kl) F)
 (hm:ev l m=.map (some b):=by rfl) (hf:xQ aY b ax∈F:=by exact tX) (hn:Nat.blt d n=true:=by rfl) (hg:bM l g=true:=by rfl):
 R (λh=>aI P ds (⟨⟨some d,g,.rangeMap m⟩,[]⟩::rest) (act n l D pm ro) h K) B w0 kl F:=λw s=>by
 obtain⟨hz,es,clock,h1,h2⟩:=s.facts _ hf;refine lW hn hg (h':=w.h.new (.mapIter (some b) clock [] clock)) (by simp only[aF.run,hm,h1]) (next w.h.next (w.new _) ?_);have s1:=s.new (.mapIter (some b) clock [] clock);obtain⟨hz',es',clock',h1',h2'⟩:=s1.facts _ hf;refine s1.zz λS hp=>⟨hp.1,es',clock',[],clock,h1',hz',h2',?_,?_,[],es',rfl,rfl,.refl _⟩
 ·have:clock'=clock:=by
   have e:(w.new (.mapIter (some b) clock [] clock)).h.get b=w.h.get b:=by
    show(w.h.new _).get b=_;rw[IH.jc,if_neg (by have:=w.lX b hz;omega)]
   rw[e,h1]at h1';injection h1' with h1';injection h1' with _ h1';exact h1'.symm
  rw[this];exact hp.2
 ·have e:(w.new (.mapIter (some b) clock [] clock)).h.get b=w.h.get b:=by
   show(w.h.new _).get b=_;rw[IH.jc,if_neg (by have:=w.lX b hz;omega)]
  rw[e,h1]at h1';injection h1' with h1';injection h1' with _ h1'
theorem aeR{es ve rem:List MapEntry}(hp:(ve++rem).Perm es)(hn:(es.map (·.born)).Nodup):(es.filter λe=>!(ve.map (·.born)).contains e.born).Perm rem:=by
 have hp2:((ve++rem).filter λe=>!(ve.map (·.born)).contains e.born).Perm (es.filter λe=>!(ve.map (·.born)).contains e.born):=hp.filter _;rw[Al]at hp2;have h1:ve.filter (λe=>!(ve.map (·.born)).contains e.born)=[]:=by
  rw[List.filter_eq_nil_iff];intro e he;simp only[Cb,Bool.not_eq_false',List.contains_eq_mem,BX];simp;exact⟨e,he,rfl⟩
 have hnd:((ve++rem).map (·.born)).Nodup:=(hp.map _).nodup_iff.2 hn;rw[di,iN]at hnd;have h2:rem.filter (λe=>!(ve.map (·.born)).contains e.born)=rem:=by
  rw[List.filter_eq_self];intro e he;simp only[Cb,List.contains_eq_mem,decide_eq_false_iff_not];intro hm;exact hnd.2.2 _ hm _ (LV he) rfl
 rw[h1,h2,bH]at hp2;exact hp2.symm
theorem aeS{x:Operand}{r b:Nat}{ax dx:List (α×Value)}
 (more:∀p rem,(dx++p::rem).Perm ax->R (λh=>aI P ds rest (act n ((d,.tuple #[.bool true,aY p.1,p.2])::l) D pm ro) h K) B w0 (Dj aY r b ax (dx++[p])::kl') F)
 (done:dx.Perm ax->R (λh=>aI P ds rest (act n ((d,.tuple #[.bool false])::l) D pm ro) h K) B w0 (Dj aY r b ax dx::kl') F)
 (inj:∀a c,aY a=aY c->a=c)
 (hx:ev l x=.pointer (some ⟨r,0,none⟩):=by rfl) (hs:az (Dj aY r b ax dx) kl kl':=by exact fB) (hn:Nat.blt d n=true:=by rfl) (hg:bM l g=true:=by rfl):
 R (λh=>aI P ds (⟨⟨some d,g,.xe x⟩,[]⟩::rest) (act n l D pm ro) h K) B w0 kl F:=λw s0=>by
 have s:=s0.fA hs;obtain⟨S,⟨S1,S2,⟨q1,es,clock,seen,last,h1,hz,h2,h3,h4,ve,rem,h5,h6,h7⟩,q2,eS⟩,hnd,hown⟩:=s.own;subst h4 h6;have hpl:=aeR h7 h2.nd;have hold:((es.filter λe=>!(ve.map (·.born)).contains e.born).filter λe=>Nat.blt e.born last)=es.filter λe=>!(ve.map (·.born)).contains e.born:=by
  rw[List.filter_eq_self];intro e he;have:=h2.lt e (mW.1 he).1;rw[sQ];exact this
 have hnew:((es.filter λe=>!(ve.map (·.born)).contains e.born).filter λe=>Nat.ble last e.born)=[]:=by
  rw[List.filter_eq_nil_iff];intro e he;have:=h2.lt e (mW.1 he).1;rw[sP];omega
 have hcl:(!(ve.map (·.born)).isEmpty&&!es.isEmpty&&es.all (λe=>Nat.ble last e.born))=false:=by
  cases es with
  |nil=>simp
  |cons e es=>
   have:=h2.lt e (bR ..);have:Nat.ble last e.born=false:=by
    cases hb:Nat.ble last e.born with
    |false=>rfl
    |true=>rw[sP]at hb;omega
   simp[this]
 have aeT:AB (ev l x) w.h=some ((if(es.filter λe=>!(ve.map (·.born)).contains e.born).isEmpty then[(.tuple #[.bool false],w.h)]else[])++
  (es.filter λe=>!(ve.map (·.born)).contains e.born).map λe=>(.tuple #[.bool true,e.key,e.val],w.h.set r (.mapIter (some b) last (ve.map (·.born)++[e.born]) last))):=by
  rw[hx];unfold AB;simp only[h3,h1];rw[hcl];simp only[cond_false,hold,hnew,iK]
 -- a pair for an entry
 have amU:∀(amV:List MapEntry) (amW:List (α×Value)),True:=λ_ _=>trivial;refine .next (wu hg) x rfl rfl _ (by rw[nu];exact aeT) ?_
 intro vh hm;rcases gH.1 hm with hm|hm
 ·split at hm
  ·rename_i hemp;rw[bO.1 hm,qh hn];have aeU:rem=[]:=by
    have:(es.filter λe=>!(ve.map (·.born)).contains e.born)=[]:=by simpa using hemp
    rw[this]at hpl;exact List.nil_perm.1 hpl|>λh=>h
   refine done ?_ w s;subst aeU;rw[iK]at h7;have hm1:=h7.map (λe=>(e.key,e.val));rw[h5,h2.uf]at hm1;exact UQ (λp:α×Value=>(aY p.1,p.2)) (λp q hpq=>by
    injection hpq with e1 e2;exact Prod.ext (inj _ _ e1) e2) hm1
  ·cases hm
 ·obtain⟨e,he,rfl⟩:=cZ.1 hm;have hr:e∈rem:=hpl.mem_iff.1 he;obtain⟨r1,r2,aeV⟩:=List.append_of_mem hr
  -- the pair
  obtain⟨i,hi,hie⟩:∃i,i<ax.length/\es[i]? =some e:=by
   obtain⟨i,hi⟩:=wZ.1 (mW.1 he).1;have:=(aW.1 hi).1;rw[U6 h2]at this;exact⟨i,this,hi⟩
  have hpe:(e.key,e.val)=(aY ax[i].1,ax[i].2):=by
   have:=congrArg (λl=>l[i]?) h2.uf;simp only[dR,hie,bC hi,jZ]at this;injection this
  injection hpe with hpk hpv;rw[qh hn,hpk,hpv];have hperm:(ve++[e]++(r1++r2)).Perm es:=by
   refine List.Perm.trans ?_ h7;rw[aeV,ed];refine List.Perm.append_left _ ?_;exact(List.perm_middle (l₁:=r1) (l₂:=r2) (a:=e)).symm
  have zK:pI aY (dx++[ax[i]]) (ve++[e]):=by
   unfold pI;rw[di,di,h5];simp[hpk,hpv]
  obtain⟨Oe,aeW⟩:∃Oe:List (α×Value),(dx++ax[i]::Oe).Perm ax:=by
   have hm1:=hperm.map (λe=>(e.key,e.val));rw[di,zK,h2.uf]at hm1;have hex:∀ls:List MapEntry,(∀x∈ls,∃p:α×Value,(x.key,x.val)=(aY p.1,p.2))->∃ps:List (α×Value),ls.map (λe=>(e.key,e.val))=ps.map λp=>(aY p.1,p.2):=by
    intro ls;induction ls with
    |nil=>intro _;exact⟨[],rfl⟩
    |cons x ls ih=>
     intro h;obtain⟨p,hp⟩:=h x (bR ..);obtain⟨ps,hps⟩:=ih λy hy=>h y (bU _ hy);exact⟨p::ps,by rw[fI,fI,hp,hps]⟩
   obtain⟨ps,hps⟩:=hex (r1++r2) (λy hy=>by
    have hy':y∈es:=hperm.mem_iff.1 (om _ hy);obtain⟨j,hj⟩:=wZ.1 hy';have hj':=(aW.1 hj).1;rw[U6 h2]at hj';have:=congrArg (λl=>l[j]?) h2.uf;simp only[dR,hj,bC hj',jZ]at this;injection this with this;exact⟨_,this⟩)
   rw[hps,<- di]at hm1;refine⟨ps,?_⟩;have:=UQ (λp:α×Value=>(aY p.1,p.2)) (λp q hpq=>by
    injection hpq with e1 e2;exact Prod.ext (inj _ _ e1) e2) hm1
   rwa [ed]at this
  refine more ax[i] Oe aeW ⟨w.h.set r (.mapIter (some b) last (ve.map (·.born)++[e.born]) last),w.z,λi hi=>w.lX i hi⟩ ?_
  -- the state behind the step
  have s2:St B w0 (pt r (.mapIter (some b) last (ve.map (·.born)) last)::kl') F w:=⟨s.agree,s.le,s.fE,⟨S,⟨S1,S2,⟨q1,h3⟩,q2,eS⟩,hnd,hown⟩,s.facts⟩
  have s3:=s2.write (o':=.mapIter (some b) last (ve.map (·.born)++[e.born]) last);refine s3.zz λS' hp=>⟨hp.1,es,last,_,last,?_,hz,h2,hp.2,rfl,ve++[e],r1++r2,zK,by rw[di];rfl,hperm⟩
  have hrb:r≠b:=λer=>by
   have:=s2.own;obtain⟨S0,⟨T1,T2,⟨u1,_⟩,_,ue⟩,_,ho⟩:=this;exact(ho r (by rw[ue,u1];simp)).2.2 (er▸hz)
  show(w.h.set r _).get b=_;rw[IH.ng,if_neg (λer=>hrb er.symm)];exact h1
theorem aeX{x:Operand}{r b:Nat}{ax dx:List (α×Value)}{p:α×Value}
 (next:R (λh=>aI P ds rest (act n ((d,.tuple #[aY p.1,p.2])::l) D pm ro) h K) B w0 kl F)
 (hx:ev l x=.pointer (some ⟨r,0,none⟩):=by rfl) (hs:az (Dj aY r b ax (dx++[p])) kl kl':=by exact fB) (hn:Nat.blt d n=true:=by rfl) (hg:bM l g=true:=by rfl):
 R (λh=>aI P ds (⟨⟨some d,g,.entry x⟩,[]⟩::rest) (act n l D pm ro) h K) B w0 kl F:=λw s0=>by
 have s:=s0.fA hs;obtain⟨S,⟨S1,S2,⟨q1,es,clock,seen,last,h1,hz,h2,h3,h4,ve,rem,h5,h6,h7⟩,q2,e⟩,hnd,hown⟩:=s.own;subst h4 h6;obtain⟨U7,x0,zK,hx0,hx1⟩:∃U7 x0,ve=U7++[x0]/\x0.key=aY p.1/\x0.val=p.2:=by
  unfold pI at h5;rw[di]at h5;obtain⟨a1,a2,e1,e2,e3⟩:=List.map_eq_append_iff.1 h5;obtain⟨x0,a3,e4,e5,e6⟩:=List.map_eq_cons_iff.1 e3;have:a3=[]:=by simpa using e6
  subst this;injection e5 with e5 e7;exact⟨a1,x0,by rw[e1,e4],e5,e7⟩
 have hfind:es.find? (λy=>Nat.beq y.born x0.born)=some x0:=by
  have hm:x0∈es:=h7.mem_iff.1 (kK _ (by rw[zK];simp));cases hf:es.find? (λy=>Nat.beq y.born x0.born)with
  |none=>
   have:=List.find?_eq_none.1 hf x0 hm;simp[Cc]at this
  |some y=>
   have hy:=List.find?_some hf;have hym:=List.mem_of_find?_eq_some hf;have hb:y.born=x0.born:=qC hy;congr 1;exact UR h2.nd hym hm hb
 refine lW hn hg (v:=.tuple #[aY p.1,p.2]) ?_ (next w s0);simp only[aF.run,hx,h3,h1];rw[zK];simp only[di,fI,List.map_nil,List.getLast?_append,List.getLast?_singleton,Option.some_or,Cc,cond_true,hfind,hx0,hx1]
end
end Go.Ideal
namespace Go.Ideal
open Go.Sort
variable {P:Program}
theorem WR.grow{β:aG}{h:IH}{w:World}(hW:WR P β h w)(os:Array Obj):WR P β h (grow w os)/\Eff β h w β h (grow w os):=by
 have hold:∀b,b<w.heap.size->(Go.Sort.grow w os).heap[b]? =w.heap[b]?:=λb hb=>by
  show(w.heap++os)[b]? =_;rw[Zx hb]
 refine⟨⟨hW.dom,hW.live,λi g o h1 h2=>?_,hW.inj⟩,⟨λ_ _=>rfl,bB _,λ_ _ h=>h,λ_ _ _=>rfl,bB _,λ_ _ _=>rfl,rfl,rfl,rfl,?_,λb hb _=>hold b hb,λi g hg hi=>absurd (hW.dom _ _ hg) (by omega),λi g _ _ _ _ hb=>hold _ hb,bB _⟩⟩
 ·have hO:=hW.obj i g o h1 h2;exact hO.congr (hold _ hO.lt)
 ·show w.heap.size<=(w.heap++os).size;rw[Array.size_append];omega
def JC(o:Nat):List Value->Array Value->Array Value
 |[],c=>c
 |v::vs,c=>JC (o+1) vs (c.setIfInBounds o v)
theorem U8(b:Nat):∀(vs:List Value) (o:Nat) (w:World),w.setCells b o vs=mapBlock w b (JC o vs)
 |[],o,w=>(mapBlock_id w b _ λc e fr h=>rfl).symm
 |v::vs,o,w=>by
  show(w.setCell ⟨b,o,none⟩ v).setCells b (o+1) vs=_;rw[U8 b vs (o+1),setCell_eq,mapBlock_mapBlock];rfl
theorem U9:∀(vs:List Value) (o:Nat) (c:Array Value) (k:Nat),(JC o vs c)[k]? =if o<=k/\k<o+vs.length/\k<c.size then vs[k - o]? else c[k]?
 |[],o,c,k=>by
  rw[if_neg (by rw[Aj];omega)];rfl
 |v::vs,o,c,k=>by
  show(JC (o+1) vs (c.setIfInBounds o v))[k]? =_;rw[U9 vs (o+1),Array.size_setIfInBounds,lN];by_cases h1:o+1<=k/\k<o+1+vs.length/\k<c.size
  ·rw[if_pos h1,if_pos ⟨by omega,by omega,h1.2.2⟩];rw[show k - o=(k - (o+1))+1 by omega,rC]
  ·rw[if_neg h1,Zw];by_cases h2:o=k
   ·subst h2;rw[if_pos rfl];by_cases h3:o<c.size
    ·rw[if_pos h3,if_pos ⟨bB _,by omega,h3⟩,vU];rfl
    ·rw[if_neg h3,if_neg (by omega)];exact(sM (by omega)).symm
   ·rw[if_neg h2,if_neg (by omega)]
theorem setCells_putRow{α:Type}[Inhabited α](enc:α->Value)(w:World)(b o:Nat)(d:Array α):w.setCells b o (d.toList.map enc)=putRow enc w b o d:=by
 rw[U8];unfold putRow;refine mapBlock_congr w b _ _ λc e fr hc=>?_;apply Array.ext_getElem?;intro k;rw[U9,putCells,Array.getElem?_mapIdx,bJ,Array.length_toList];by_cases hk:k<c.size
 ·by_cases h:o<=k/\k<o+d.size
  ·rw[if_pos ⟨h.1,h.2,hk⟩,Rw hk,jZ,if_pos h,dR,wV,Rw (by omega)];rw[jZ,getElem!_pos d _ (by omega)]
  ·rw[if_neg (λq=>h ⟨q.1,q.2.1⟩),Rw hk,jZ,if_neg h]
 ·rw[if_neg (by omega),sM (by omega)];rfl
def Og(P:Program)(f:FuncId):Prop:=∀(blk off cap:Nat) (zs:List Int) (w:World),Holds (Value.int .i64) w blk off zs.toArray->blk<w.heap.size->zs.length<4611686018427387904->
 Calls P f #[.slice (some ⟨blk,off,none⟩) zs.length cap] w λe w'=>e=.returned (.tuple #[])/\∃n os,w'=Go.Sort.grow (putRow (Value.int .i64) (Sort.ahead w n) blk off (zs.mergeSort λx y=>decide (x<=y)).toArray) os
def bD(zs:List Int):List Int:=zs.mergeSort λx y=>decide (x<=y)
theorem xS(zs:List Int):(bD zs).length=zs.length:=List.length_mergeSort zs
theorem aeY{f:FuncId}(hS:Og P f){fn:Func}(hfn:P.funcs[f]? =some fn){body:Code}(hb:fn.body=some body)(hname:fn.name≠ "runtime.NumGoroutine"){b o c:Nat}{fl:Option Nat}{zs:List Int}{h h':IH}{cs:List Value}
 (hg:h.get b=some (.cells cs)) (hz:∀(j:Nat) z,zs[j]? =some z->cs[o+j]? =some (.int .i64 z)) (hne:0<zs.length) (hlen:zs.length<4611686018427387904) (hs:h.storeAt b o ((bD zs).map (.int .i64))=some h'):
 lU P ⟨.func f,[.slice (some ⟨b,o,fl⟩) zs.length c],[],none⟩ h (λr pm h2=>pm=none/\r=.ok (.tuple ⟨[]⟩)/\h2=h'):=by
 intro β w fn' args' cap' hG hW hf ha hcap;obtain⟨jN,t1,t2⟩:=Ig (P:=P) (q:=⟨.func f,[.slice (some ⟨b,o,fl⟩) zs.length c],[],none⟩) (f:=f) (args:=[.slice (some ⟨b,o,fl⟩) zs.length c]) (by simp only[target,jE,iK]) hf ha hcap hfn hb hname w;cases t2 with|cons hv tl=>
 cases tl;obtain⟨g,a,c',hi,rfl,hab,_,hn,hcc,hao,_⟩:=hv.ni;have hao:a.off=g.off+o/\a.spot=none:=by
  rcases hao with e|e
  ·omega
  ·exact e
 obtain⟨⟨c0,t0,fz0,hh⟩,q2,q3,q4,q5,q6⟩:=hW.obj b g _ hi hg;have ea:a=⟨g.b,g.off+o,none⟩:=by
  obtain⟨ab,ao,as⟩:=a;simp only at hab hao;rw[hab,hao.1,hao.2]
 subst ea;have hin:∀j,j<zs.length->o+j<cs.length:=λj hj=>(aW.1 (hz j _ (bC hj))).1;have hH:Holds (Value.int .i64) w g.b (g.off+o) zs.toArray:=λj hj=>by
  have hj:j<zs.length:=by simpa using hj
  obtain⟨v',h1,h2⟩:=q6 (o+j) _ (hz j _ (bC hj));have:=h2.mq;subst this;refine⟨?_,(q4 _ (by have:=hin j hj;omega)).2⟩;rw[pU,h1];congr 2;rw[getElem!_pos zs.toArray j (by simpa using hj)];simp
 have hlt:g.b<w.heap.size:=(LP.1 hh).1;have hC:=hS g.b (g.off+o) c' zs w hH hlt hlen;obtain⟨_,w1,w2⟩:=Hq hW hi hs (vs':=(bD zs).map (.int .i64)) (aS.free (by
  have:∀l:List Int,gX (l.map (Value.int .i64))=true:=by
   intro l;induction l with
   |nil=>rfl
   |cons x l ih=>rw[fI];simp[gX,dF,Ideal.cellV,ih]
  exact this _)) (by
  rw[iV];intro x hx;obtain⟨z,_,rfl⟩:=cZ.1 hx;rfl)
 refine⟨_,Frame.enter P f ⟨_⟩ .normal,t1,rfl,λcs0 xJ=>?_⟩;obtain⟨e,w',fr,⟨he,k,os,hw'⟩,hcomes,hfr,hlv⟩:=hC cs0;subst he;have hw1:putRow (Value.int .i64) (Sort.ahead w k) g.b (g.off+o) (zs.mergeSort λx y=>decide (x<=y)).toArray=Sort.ahead (w.setCells g.b (g.off+o) ((bD zs).map (.int .i64))) k:=by
  have:=setCells_putRow (Value.int .i64) w g.b (g.off+o) (bD zs).toArray;rw[show(bD zs).toArray.toList=bD zs from rfl]at this;rw[this];rfl
 rw[hw1]at hw';have w3:WR P β h' (Sort.ahead (w.setCells g.b (g.off+o) ((bD zs).map (.int .i64))) k):=w1.rQ rfl;have w4:=w2.trans (Eff.rQ (w':=Sort.ahead (w.setCells g.b (g.off+o) ((bD zs).map (.int .i64))) k) w1.dom rfl rfl rfl rfl (Nat.le_add_right _ _));obtain⟨w5,w6⟩:=w3.grow os;rw[<- hw']at w5 w6;refine⟨.ok (.tuple ⟨[]⟩),none,h',β,w',.returned (.tuple #[]),cs0,⟨rfl,rfl,rfl⟩,w5,w4.trans w6,.ok (.dO _),.none cs0,.inl ⟨f,_,fr,rfl,hcomes,hfr,hlv.2.2.1,hlv.1,hlv.2.1,hlv.2.2.2⟩⟩
theorem FP{α:Type}:∀(l:List α) (o:Nat) (xs:List α),o+xs.length<=l.length->∃r,jq l o xs=some r
 |[],o,xs,h=>by
  have h1:xs=[]:=lQ.1 (by rw[Aj]at h;omega);have h2:o=0:=by rw[Aj]at h;omega
  exact⟨[],by rw[Sa,if_pos ⟨h1,h2⟩]⟩
 |c::l,0,[],h=>⟨_,Sb c l⟩
 |c::l,0,x::xs,h=>by
  obtain⟨r,hr⟩:=FP l 0 xs (by simp only[lN]at h;omega);exact⟨x::r,by rw[Mk,hr];rfl⟩
 |c::l,o+1,xs,h=>by
  obtain⟨r,hr⟩:=FP l o xs (by simp only[lN]at h;omega);exact⟨c::r,by rw[Ml,hr];rfl⟩
theorem ae0{f:FuncId}(hS:Og P f){fn:Func}(hfn:P.funcs[f]? =some fn){body:Code}(hb:fn.body=some body)(hname:fn.name≠ "runtime.NumGoroutine"){a:Option Addr}{zs:List Int}(hne:0<zs.length)(hlen:zs.length<4611686018427387904):
 aQ P (.func f) [.slice a zs.length zs.length] [] [ap ae (.slice a zs.length zs.length) zs] [] (λ_:Unit=>.tuple ⟨[]⟩) (λ_=>[ap ae (.slice a zs.length zs.length) (bD zs)]) (λ_=>[]) (λ_=>True):=by
 intro B w s;obtain⟨S,⟨S1,S2,q1,q2,e⟩,h2,h3⟩:=s.own;rcases q1 with⟨h,_⟩|⟨b,o,fl,cells,e1,hf,e2,hb',hcl,hel⟩
 ·rw[h]at hne;simp at hne
 injection e1 with e1 e1';subst e1;have hcl:cells.length=o+zs.length:=by rw[hcl];simp[ae]
 have hz:∀(j:Nat) z,zs[j]? =some z->cells[o+j]? =some (.int .i64 z):=λj z hj=>by
  obtain⟨y,u1,_⟩:=hel j z hj;have:=u1 0 (.int .i64 z) rfl;simpa[ae]using this
 have hst:∃cs2,w.h.storeAt b o ((bD zs).map (.int .i64))=some (w.h.set b (.cells cs2))/\cs2.length=cells.length/\∀(k:Nat) z,(bD zs)[k]? =some z->cs2[o+k]? =some (.int .i64 z):=by
  have hov:∃cs2,jq cells o ((bD zs).map (.int .i64))=some cs2:=FP _ _ _ (by rw[bJ,xS];omega);obtain⟨cs2,hl⟩:=hov;obtain⟨l1,l2,l3⟩:=EH hl;refine⟨cs2,?_,l2,λk z hk=>?_⟩
  ·unfold IH.storeAt;simp only[hb',hl]
  ·rw[l3,if_pos ⟨by omega,by have:=(aW.1 hk).1;rw[bJ];omega⟩,ZA,dR,hk];rfl
 obtain⟨cs2,hst,hl2,JD⟩:=hst;refine .real (Ic _ (aeY hS hfn hb hname hb' hz hne hlen hst) ?_);rintro r pm h' ⟨rfl,rfl,rfl⟩;have s1:St B w [pt b (.cells cells)] [] w:=⟨s.agree,s.le,s.fE,⟨S,⟨S1,S2,⟨e2,hb'⟩,q2,e⟩,h2,h3⟩,λf hf=>by cases hf⟩
 refine⟨rfl,⟨w.h.set b (.cells cs2),w.z,λi hi=>w.lX i hi⟩,(),rfl,?_,rfl,trivial⟩;refine(s1.write (o':=.cells cs2)).zy (A:=pt b (.cells cs2)) λw' S' hp=>?_;refine .inr ⟨b,o,fl,cs2,by rw[xS],hf,hp.1,hp.2,by rw[hl2,hcl,xS];simp[ae],λk x hk=>⟨(),λj u hj=>?_,λf hf=>by cases hf⟩⟩;match j,hj with
 |0,hj=>
  cases hj;have:=JD k x hk;simpa[ae]using this
end Go.Ideal
namespace Go.Ideal
variable {P:Program}
def zM{α:Type}(P:Program)(vals:α->List Value)(fn:Fn)(first cap:List Value)(F:List aD)(X:List α->Prop):Prop:=
 ∀(S:Type) (inv:S->List OA) (ok:List α->S->Prop) (step:S->α->S×Bool) (s0:S) (ny:Fn) (y1 y2:List Value) (F':List aD),ok [] s0->
  (∀vs s x rest,ok vs s->X (vs++x::rest)->(step s x).2=true->ok (vs++[x]) (step s x).1)->
  (∀vs s x rest,ok vs s->X (vs++x::rest)->aQ P ny (y1++vals x) y2 (inv s) F' (λ_:Unit=>.bool (step s x).2) (λ_=>inv (step s x).1) (λ_=>[]) (λ_=>True))->
  aQ P fn (first++[.func ny ⟨y1⟩ ⟨y2⟩]) cap (inv s0) (F++F') (λ_:List α=>.tuple ⟨[]⟩) (λxs=>inv (bS step s0 xs)) (λ_=>[]) X
section
variable {B:List Nat} {w0:Wd} {kl kl' aT:List OA} {F:List aD} {K:KO} {n:Nat} {l:List (Nat×Value)} {D:List Deferred} {pm:Option FrameMode} {ro:Option Nat}
def zN{Z:Type}(B:List Nat)(w0:Wd)(n:Nat)(l3:Z->List (Nat×Value))(lo:Nat)(o:dJ)(kl:Z->List OA)(F:List aD):KO:=λoo a h=>
 oo=.normal/\∃z,a=act n (l3 z) [] none (some lo)/\∃w:Wd,w.h=h/\St B w0 (pt lo o::kl z) F w
theorem Bj{Z:Type}{l3:Z->List (Nat×Value)}{lo:Nat}{o:dJ}{k3:Z->List OA}(z:Z)(hl:l3 z=l)(hk:aO (pt lo o::k3 z) kl aT:=by exact l6):R (λh=>zN B w0 n l3 lo o k3 F .normal (act n l [] none (some lo)) h) B w0 kl F:=λw s=>
 ⟨rfl,z,by rw[hl],w,rfl,(s.jy hk).drop⟩
theorem Oh{Y Z:Type}{lo:Nat}{L:lm}{args:List Value}{k1:List OA}{out:Y->Out}{k1':Y->List OA}{fs:Y->List aD}{pr:Y->Prop}(l:List (Nat×Value))(l3:Z->List (Nat×Value))(k3:Z->List OA)(hl:L.tmps=fU l)(hst:L.state=.ready)(hps:L.params.all (λp=>Nat.blt p L.n)=true)(hlen:L.params.length=args.length)
 (ha:∀B w0,R (λh=>EV P L.assign (act L.n ((L.params.zip args).reverse++l) [] none (some lo)) h (zN B w0 L.n l3 lo (.loop L) k3 F)) B w0 (pt lo (.loop L)::k1) F)
 (hb:∀z B w0,R (λh=>EV P L.body (act L.n (l3 z) [] none (some lo)) h (tZ B w0 lo L out k1' fs pr)) B w0 (pt lo (.loop (oK L))::k3 z) F):
 aQ P (.yield lo) args [] (pt lo (.loop L)::k1) F (λy:Y=>.bool (iY (out y))) (λy=>pt lo (.loop (jl L (out y)))::k1' y) fs pr:=by
 intro B w s;obtain⟨l2,e1,e2⟩:=NU L.n L.params args l hps hlen;refine .round lo rfl rfl L s.get.1 hlen.symm _ (by
  rw[hl];show EV P L.assign (aV.mk L.n (tu L.n L.params args (fU l)) [] none (some lo)) w.h _;rw[e1,e2];exact ha B w w s) ?_ ?_
 ·rintro o a h ⟨rfl,z,rfl,w1,rfl,s1⟩;exact⟨rfl,L,s1.get.1,hst⟩
 ·rintro a h r1 ⟨_,z,rfl,w1,rfl,s1⟩ hr;have hr1:r1=L:=by
   have:=s1.get.1;rw[hr]at this;injection this with this;injection this
  subst hr1;have hb:=hb z B w _ (s1.write (o':=.loop (oK r1)));refine Ii hb _ ?_;rintro o a h ⟨hd,w2,y,rfl,rfl,hn,s2,hp⟩;refine⟨oK r1,s2.get.1,hd,?_⟩;have fin:∀o',iY o'=iY (out y)->jl r1 o'=jl r1 (out y)->Left B w (λy:Y=>.bool (iY (out y))) (λy=>pt lo (.loop (jl r1 (out y)))::k1' y) fs pr (.ok (.bool (iY (out y)))) none (w2.h.set lo (.loop (jl r1 (out y)))):=λo' _ _=>
   ⟨rfl,_,y,rfl,s2.write,rfl,hp⟩
  cases ho:out y with
  |normal=>have:=fin .normal (by rw[ho]) (by rw[ho]);rw[ho]at this;exact this
  |exit j=>have:=fin (.exit j) (by rw[ho]) (by rw[ho]);rw[ho]at this;exact this
  |ret=>have:=fin .ret (by rw[ho]) (by rw[ho]);rw[ho]at this;exact this
  |panic ch=>rw[ho]at hn;exact hn.elim
theorem ae2{S α Z:Type}{f:Operand}{ps:List Tmp}{assign body:dm}{fn:Fn}{first captured:List Value}{vals:α->List Value}{F1:List aD}{X:List α->Prop}(step:S->α->S×Out)(inv:S->List OA)(ok:List α->S->Prop)(s0:S)(h0:ok [] s0)
 (hok:∀vs s x rest,ok vs s->X (vs++x::rest)->(step s x).2=.normal->ok (vs++[x]) (step s x).1) (hit:zM P vals fn first captured F1 X)
 (hf:ev l f=.func fn ⟨first⟩ ⟨captured⟩) (hps:ps.all (λp=>Nat.blt p n)=true) (hlen:∀x,ps.length=(vals x).length) (hk:aO (inv s0) kl aT) (hF:Sub F1 F) (iC:∀s x,tY (step s x).2)
 (l3:α->Z->List (Nat×Value)) (k3:α->Z->List OA)
 (ha:∀(s:S) (x:α) (lo:Nat) (o:dJ) B w0,R (λh=>EV P assign (act n ((ps.zip (vals x)).reverse++l) [] none (some lo)) h (zN B w0 n (l3 x) lo o (λz=>k3 x z++inv s) F)) B w0 (pt lo o::inv s) F)
 (hb:∀(vs:List α) (s:S) (x:α) (rest:List α) (z:Z) (lo:Nat) (L:lm) B w0,ok vs s->X (vs++x::rest)->R (λh=>EV P body (act n (l3 x z) [] none (some lo)) h (tZ B w0 lo L (λ_:Unit=>(step s x).2) (λ_=>inv (step s x).1) (λ_=>[]) (λ_=>True))) B w0 (pt lo (.loop (oK L))::(k3 x z++inv s)) F)
 (next:∀r xs,X xs->R (λh=>K (fM step s0 xs).2 (act n l ({target:=.collected r,args:= #[]}::D) pm none) h) B w0 (inv (fM step s0 xs).1++(pt r (.gT true)::aT)) F):
 R (λh=>EV P (.rangeFunc f ps assign body) (act n l D pm none) h K) B w0 kl F:=by
 refine Jp (Y:=List α) (k1:=inv s0) (F1:=F1++F) (De:=λ_=>.tuple ⟨[]⟩) (out:=λxs=>(fM step s0 xs).2) (k1':=λxs=>inv (fM step s0 xs).1) (fs:=λ_=>[]) (pr:=X) hf ?_ hk (hF.app (Sub.refl' F [])) (λr y hy=>next r y hy);intro lo r;have:=hit (S×Out) (λso=>pt lo (.loop (jl ⟨.ready,none,fU l,n,ps,assign,body,r⟩ so.2))::inv so.1) (λvs so=>so.2=.normal/\ok vs so.1) (λso x=>(step so.1 x,iY (step so.1 x).2)) (s0,.normal) (.yield lo) [] [] F ⟨rfl,h0⟩
  (λvs so x rest ho hx h=>by
    have h:iY (step so.1 x).2=true:=h;have hn:(step so.1 x).2=.normal:=by
     cases e:(step so.1 x).2 with
     |normal=>rfl
     |_=>rw[e]at h;cases h
    exact⟨hn,hok vs so.1 x rest ho.2 hx hn⟩)
  (λvs so x rest ho hx=>by
    obtain⟨s,o⟩:=so;obtain⟨hn,ho⟩:=ho;have hn:o=.normal:=hn;subst hn;exact Oh (Y:=Unit) (L:=⟨.ready,none,fU l,n,ps,assign,body,r⟩) (args:=vals x) (k1:=inv s) (out:=λ_=>(step s x).2) (k1':=λ_=>inv (step s x).1) (fs:=λ_=>[]) (pr:=λ_=>True) l (l3 x) (λz=>k3 x z++inv s) rfl rfl hps (hlen x)
     (λB w0=>ha s x lo _ B w0) (λz B w0=>hb vs s x rest z lo _ B w0 ho hx))
 have e:(λxs:List α=>pt lo (.loop (jl ⟨.ready,none,fU l,n,ps,assign,body,r⟩ (bS (λ(so:S×Out) x=>(step so.1 x,iY (step so.1 x).2)) (s0,.normal) xs).2))::inv (bS (λ(so:S×Out) x=>(step so.1 x,iY (step so.1 x).2)) (s0,.normal) xs).1)=λxs=>pt lo (.loop (jl ⟨.ready,none,fU l,n,ps,assign,body,r⟩ (fM step s0 xs).2))::inv (fM step s0 xs).1:=by
  funext xs
  rw[FJ]
 have h2:aQ P fn (first++[.func (.yield lo) ⟨[]⟩ ⟨[]⟩]) captured (pt lo (.loop ⟨.ready,none,fU l,n,ps,assign,body,r⟩)::inv s0) (F1++F) (λ_:List α=>.tuple ⟨[]⟩) (λxs=>pt lo (.loop (jl ⟨.ready,none,fU l,n,ps,assign,body,r⟩ (bS (λ(so:S×Out) x=>(step so.1 x,iY (step so.1 x).2)) (s0,.normal) xs).2))::inv (bS (λ(so:S×Out) x=>(step so.1 x,iY (step so.1 x).2)) (s0,.normal) xs).1) (λ_=>[]) X:=this;rw[e]at h2;exact h2
theorem JE{S α Z:Type}{f:Operand}{ps:List Tmp}{assign body:dm}{fn:Fn}{first captured:List Value}{vals:α->List Value}{F1:List aD}{X:List α->Prop}(step:S->α->S×Out)(inv:S->List OA)(ok:List α->S->Prop)(s0:S)(l3:α->Z->List (Nat×Value))(k3:α->Z->List OA)(h0:ok [] s0)
 (hok:∀vs s x rest,ok vs s->X (vs++x::rest)->(step s x).2=.normal->ok (vs++[x]) (step s x).1) (hit:zM P vals fn first captured F1 X)
 (ha:∀(s:S) (x:α) (lo:Nat) (o:dJ) B w0,R (λh=>EV P assign (act n ((ps.zip (vals x)).reverse++l) [] none (some lo)) h (zN B w0 n (l3 x) lo o (λz=>k3 x z++inv s) F)) B w0 (pt lo o::inv s) F)
 (hb:∀(vs:List α) (s:S) (x:α) (rest:List α) (z:Z) (lo:Nat) (L:lm) B w0,ok vs s->X (vs++x::rest)->R (λh=>EV P body (act n (l3 x z) [] none (some lo)) h (tZ B w0 lo L (λ_:Unit=>(step s x).2) (λ_=>inv (step s x).1) (λ_=>[]) (λ_=>True))) B w0 (pt lo (.loop (oK L))::(k3 x z++inv s)) F)
 (next:∀r xs,X xs->R (λh=>K (fM step s0 xs).2 (act n l ({target:=.collected r,args:= #[]}::D) pm none) h) B w0 (inv (fM step s0 xs).1++(pt r (.gT true)::aT)) F)
 (iC:∀s x,tY (step s x).2)
 (hf:ev l f=.func fn ⟨first⟩ ⟨captured⟩:=by rfl) (hps:ps.all (λp=>Nat.blt p n)=true:=by rfl) (hlen:∀x,ps.length=(vals x).length:=by intro _;rfl)
 (hk:aO (inv s0) kl aT:=by exact l6) (hF:Sub F1 F:=by exact l5):
 R (λh=>EV P (.rangeFunc f ps assign body) (act n l D pm none) h K) B w0 kl F:=
 ae2 step inv ok s0 h0 hok hit hf hps hlen hk hF iC l3 k3 ha hb next
end
end Go.Ideal
namespace Go.Ideal
variable {P:Program}
def dD{α:Type}(E:Enc α)(ay:List (α×E.Y)):List Value:=ay.flatMap λp=>E.pat p.1 p.2
theorem wE{α:Type}{E:Enc α}:∀ay:List (α×E.Y),(dD E ay).length=ay.length*E.n
 |[]=>by simp[dD]
 |p::l=>by
  have ih:=wE l;unfold dD at ih⊢;rw[LW,gP,ih,E.len,lN,o8];omega
theorem wF{α:Type}{E:Enc α}:∀{ay:List (α×E.Y)} {k:Nat} {p:α×E.Y} {j:Nat} {u:Value},ay[k]? =some p->(E.pat p.1 p.2)[j]? =some u->(dD E ay)[k*E.n+j]? =some u
 |[],k,p,j,u,h,_=>by cases h
 |q::l,0,p,j,u,h,hj=>by
  cases h;unfold dD;rw[LW,Ep,fw,ol (aW.1 hj).1];exact hj
 |q::l,k+1,p,j,u,h,hj=>by
  have ih:=wF (ay:=l) (k:=k) (by simpa using h) hj;unfold dD at ih⊢;rw[LW,mU (by rw[E.len,o8];omega),E.len,show(k+1)*E.n+j - E.n=k*E.n+j by rw[o8];omega];exact ih
theorem Oi{α:Type}{E:Enc α}{j:Nat}{v:Value}:∀{ay:List (α×E.Y)} {k:Nat} {p p':α×E.Y},ay[k]? =some p->(E.pat p.1 p.2).set j v=E.pat p'.1 p'.2->j<E.n->(dD E ay).set (k*E.n+j) v=dD E (ay.set k p')
 |[],k,p,p',h,_,_=>by cases h
 |q::l,0,p,p',h,hp,hj=>by
  cases h;unfold dD;rw[LW,Ep,fw,List.set_append_left _ _ (by rw[E.len];exact hj),hp];rfl
 |q::l,k+1,p,p',h,hp,hj=>by
  have ih:=Oi (ay:=l) (k:=k) (by simpa using h) hp hj;unfold dD at ih⊢;rw[LW,GL _ _ (by rw[E.len,o8];omega),E.len,show(k+1)*E.n+j - E.n=k*E.n+j by rw[o8];omega,ih];rfl
def rZ{α:Type}(E:Enc α)(v:Value)(ay:List (α×E.Y)):aD:=
 ⟨λw=>(ay=[]/\∃a c,v=.slice a 0 c/\NN E.n a)\/∃i o f c cells,(v=.slice (some ⟨i,o,some f⟩) ay.length c/\ay.length<=c/\(f=0\/f=E.n))/\Fz w i cells/\
  ∀(k:Nat) p,ay[k]? =some p->(∀(j:Nat) u,(E.pat p.1 p.2)[j]? =some u->cells[o+k*E.n+j]? =some u)/\∀f∈E.fs p.1 p.2,f.p w,
  λa h=>by
   rcases h with h|⟨i,o,f,c,cells,h1,h2,h3⟩
   ·exact .inl h
   ·refine .inr ⟨i,o,f,c,cells,h1,h2.mono a,λk x hk=>?_⟩;obtain⟨q1,q2⟩:=h3 k x hk;exact⟨q1,λf hf=>f.mono a (q2 f hf)⟩⟩
def r9{α:Type}(E:Enc α)(ay:List (α×E.Y)):aD:=⟨λw=>∀p∈ay,∀f∈E.fs p.1 p.2,f.p w,λa h p hp f hf=>f.mono a (h p hp f hf)⟩
theorem ae3{α:Type}{E:Enc α}{v:Value}{ay:List (α×E.Y)}{w:Wd}(h:(rZ E v ay).p w):(r9 E ay).p w:=by
 intro p hp f hf;rcases h with⟨rfl,_⟩|⟨i,o,fl,c,cells,_,_,h3⟩
 ·cases hp
 ·obtain⟨k,hk⟩:=wZ.1 hp;exact(h3 k p hk).2 f hf
theorem ae4{α:Type}{E:Enc α}{v:Value}{ay:List (α×E.Y)}{w:Wd}(h:(rZ E v ay).p w):(ah E v (ay.map (·.1))).p w:=by
 rcases h with⟨rfl,h⟩|⟨i,o,f,c,cells,h1,h2,h3⟩
 ·exact .inl ⟨rfl,h⟩
 ·refine .inr ⟨i,o,f,c,cells,by rw[bJ];exact h1,h2,λk x hk=>?_⟩;rw[dR]at hk;cases hp:ay[k]? with
  |none=>rw[hp]at hk;cases hk
  |some p=>
   rw[hp]at hk;cases hk;exact⟨p.2,h3 k p hp⟩
theorem Va{α:Type}{E:Enc α}{v:Value}{xs:List α}{w:Wd}(h:(ah E v xs).p w):∃ay:List (α×E.Y),ay.map (·.1)=xs/\(rZ E v ay).p w:=by
 rcases h with⟨rfl,h⟩|⟨i,o,f,c,cells,h1,h2,h3⟩
 ·exact⟨[],rfl,.inl ⟨rfl,h⟩⟩
 ·obtain⟨l,hl,hp⟩:=Jk (p:=λk (p:α×E.Y)=>xs[k]? =some p.1/\(∀(j:Nat) u,(E.pat p.1 p.2)[j]? =some u->cells[o+k*E.n+j]? =some u)/\∀f∈E.fs p.1 p.2,f.p w) xs.length (λk hk=>by
   obtain⟨y,q1,q2⟩:=h3 k xs[k] (bC hk);exact⟨(xs[k],y),bC hk,q1,q2⟩)
  have hm:l.map (·.1)=xs:=by
   apply iF;intro k;rw[dR];by_cases hk:k<xs.length
   ·have hk':k<l.length:=by omega
    rw[bC hk',jZ,(hp k l[k] (bC hk')).1]
   ·rw[fu (by omega),fu (by omega)];rfl
  exact⟨l,hm,.inr ⟨i,o,f,c,cells,by rw[hl];exact h1,h2,λk p hk=>(hp k p hk).2⟩⟩
def ar{α:Type}(E:Enc α)(v:Value)(ay:List (α×E.Y)):OA:=
 ⟨λw S=>(ay=[]/\(∃a,v=.slice a 0 0/\NN E.n a)/\S=[])\/∃b f,v=.slice (some ⟨b,0,some f⟩) ay.length ay.length/\(f=0\/f=E.n)/\S=[b]/\w.h.get b=some (.cells (dD E ay)),
  λa h hp=>by
   rcases hp with hp|⟨b,f,h1,h2,h3,h4⟩
   ·exact .inl hp
   ·exact .inr ⟨b,f,h1,h2,h3,by rw[h b (by rw[h3];exact bO.2 rfl)];exact h4⟩⟩
theorem ae5{α:Type}{E:Enc α}{v:Value}{ay:List (α×E.Y)}(w w':Wd)(S:List Nat)(hp:(ar E v ay).p w S)(hle:w.Le w')(hh:w'.h=w.h)(hz:∀i∈S,w'.z i)(ha:(r9 E ay).p w):(rZ E v ay).p w':=by
 rcases hp with⟨h1,⟨a,h2,h3⟩,_⟩|⟨b,f,h1,h2,h3,h4⟩
 ·exact .inl ⟨h1,a,0,h2,h3⟩
 ·refine .inr ⟨b,0,f,_,_,⟨h1,bB _,h2⟩,⟨hz b (by rw[h3];exact bO.2 rfl),.inl (by rw[hh];exact h4)⟩,λk p hk=>⟨λj u hj=>?_,λf hf=>f.mono hle (ha p (aR hk) f hf)⟩⟩;rw[fw];exact wF hk hj
section
variable {B:List Nat} {w0:Wd} {kl kl' aT:List OA} {F:List aD} {K:KO} {ds:List Tmp} {rest:List bP} {n:Nat} {l:List (Nat×Value)} {D:List Deferred} {pm:Option FrameMode} {ro:Option Nat} {d:Nat} {g:Option (Tmp×Bool)}
variable {α:Type} {E:Enc α} {v:Value}
theorem FQ{xs:List α}{Q:IH->Prop}(E:Enc α)(v:Value)(h:∀ay:List (α×E.Y),ay.map (·.1)=xs->R Q B w0 kl (rZ E v ay::F))(hf:ah E v xs∈F:=by exact tX):R Q B w0 kl F:=λw s=>by
 obtain⟨ay,h1,h2⟩:=Va (s.facts _ hf);exact h ay h1 w ⟨s.agree,s.le,s.fE,s.own,λf hf=>by
  rcases bN.1 hf with rfl|hf
  ·exact h2
  ·exact s.facts f hf⟩
theorem Oj{ay:List (α×E.Y)}{Q:IH->Prop}(h:R Q B w0 kl (r9 E ay::F))(hf:rZ E v ay∈F:=by exact tX):R Q B w0 kl F:=λw s=>
 h w ⟨s.agree,s.le,s.fE,s.own,λf hf'=>by
  rcases bN.1 hf' with rfl|hf'
  ·exact ae3 (s.facts _ hf)
  ·exact s.facts f hf'⟩
theorem JF{ay:List (α×E.Y)}{Q:IH->Prop}(h:R Q B w0 kl' (rZ E v ay::ah E v (ay.map (·.1))::F))(ha:∀w,(∀f∈F,f.p w)->(r9 E ay).p w)(hk:az (ar E v ay) kl kl':=by exact fB):R Q B w0 kl F:=λw s=>by
 have hall:=ha w s.facts
 -- freeze by hand
 obtain⟨S,⟨S1,S2,q1,q2,e⟩,h2,h3⟩:=(s.fA hk).own;subst e;let w':Wd:=⟨w.h,λi=>w.z i\/i∈S1,λi hi=>hi.elim (w.lX i) λhi=>(h3 i (kK _ hi)).2.1⟩
 have hle:w.Le w':=⟨bB _,λi hi=>.inl hi,λ_ _=>rfl⟩
 have hnd:=iN.1 h2;have hel:=ae5 w w' S1 q1 hle rfl (λi hi=>.inr hi) hall;refine h w' ⟨s.agree,s.le.trans hle,λi hi hz=>?_,⟨S2,eP.loc hle (λ_ _=>rfl) q2,hnd.2.1,λi hi=>?_⟩,λf hf=>?_⟩
 ·rcases hz with hz|hz
  ·exact s.fE i hi hz
  ·rcases(h3 i (kK _ hz)).1 with q|q
   ·omega
   ·exact .inr q
 ·have:=h3 i (om _ hi);refine⟨this.1,this.2.1,λhz=>hz.elim this.2.2 λhm=>?_⟩;exact hnd.2.2 i hm i hi rfl
 ·rcases bN.1 hf with rfl|hf
  ·exact hel
  ·rcases bN.1 hf with rfl|hf
   ·exact ae4 hel
   ·exact f.mono hle (s.facts f hf)
theorem Vb{ay:List (α×E.Y)}{Q:IH->Prop}(hlen:0<ay.length)(h:∀b f,(f=0\/f=E.n)->v=.slice (some ⟨b,0,some f⟩) ay.length ay.length->R Q B w0 (pt b (.cells (dD E ay))::kl') F)(hk:az (ar E v ay) kl kl':=by exact fB):R Q B w0 kl F:=λw s=>by
 have s1:=s.fA hk;obtain⟨S,⟨S1,S2,q1,q2,e⟩,h2,h3⟩:=s1.own;rcases q1 with⟨h0,_⟩|⟨b,f,h4,h5,h6,h7⟩
 ·rw[h0]at hlen;simp at hlen
 ·exact h b f h5 h4 w ⟨s1.agree,s1.le,s1.fE,⟨S,⟨S1,S2,⟨h6,h7⟩,q2,e⟩,h2,h3⟩,s1.facts⟩
theorem ug{α:Type}(E:Enc α){ay:List (α×E.Y)}{Q:IH->Prop}{b f m:Nat}(hm:m=ay.length)(hf:f=0\/f=E.n)(h:R Q B w0 (ar E (.slice (some ⟨b,0,some f⟩) m m) ay::kl') F)(hk:az (pt b (.cells (dD E ay))) kl kl':=by exact fB):R Q B w0 kl F:=λw s=>by
 refine h w ((s.fA hk).zy (A:=pt b (.cells (dD E ay))) λw S hp=>.inr ⟨b,f,by rw[hm],hf,hp.1,hp.2⟩)
theorem Vd{ay:List (α×E.Y)}{Q:IH->Prop}(h:∀a,v=.slice a ay.length ay.length->R Q B w0 kl F)(hk:az (ar E v ay) kl kl':=by exact fB):R Q B w0 kl F:=λw s=>by
 obtain⟨S,⟨S1,S2,q1,q2,e⟩,h2,h3⟩:=(s.fA hk).own;rcases q1 with⟨rfl,⟨a,h1,_⟩,_⟩|⟨b,f,h4,_⟩
 ·exact h a h1 w s
 ·exact h _ h4 w s
theorem Dk{x:Operand}{t e:TypeId}{m c:Nat}(hu:P.underlying t=some (.slice e))(hx:ev l x=.slice none m c):Pu P (ev l) (.bin .eql t x (.const (.slice none 0 0))) (.bool true):=λh=>by
 have he:eB P (Op.equal t (.slice none m c) (.slice none 0 0))=some true:=by
  show eB P (Op.equalIn (9999+1) t (.slice none m c) (.slice none 0 0))=_;unfold Op.equalIn;rw[ig,rX hu];rfl
 have h1:kP P (do eqGuard .eql t x (.const (.slice none 0 0)) (.slice none m c) (.slice none 0 0);binOp .eql t (.slice none m c) (.slice none 0 0))=some (.bool true):=by
  unfold kP;rw[ig,CY (by intro c e;cases e) (by intro e;cases e)];simp only[iU,binOp];rw[ig,he];rfl
 have h2:kD P .eql t x (.const (.slice none 0 0)) (.slice none m c) (.slice none 0 0)=some (.bool true):=by
  by_cases hmc:m=0/\c=0
  ·show cond (dF (Value.slice none m c)&&dF (Value.slice none 0 0)) (kP P (do eqGuard .eql t x (.const (.slice none 0 0)) (.slice none m c) (.slice none 0 0);binOp .eql t (.slice none m c) (.slice none 0 0))) _=_;rw[h1];obtain⟨rfl,rfl⟩:=hmc;simp[dF]
  ·have e0:dF (Value.slice none m c)=false:=by
    cases hb:dF (Value.slice none m c)with
    |false=>rfl
    |true=>exact absurd (by simpa[dF]using hb) hmc
   have e1:sW P t (.slice none m c) (.slice none 0 0)=some true:=by
    unfold sW;rw[hu]
   show cond (dF (Value.slice none m c)&&dF (Value.slice none 0 0)) _ (match sW P t (.slice none m c) (.slice none 0 0)with|some b=>some (Value.bool b)|none=>none)=_;rw[e0,e1];rfl
 simp only[aF.run,hx];show(match kD P .eql t x (.const (.slice none 0 0)) (.slice none m c) (.slice none 0 0)with|some v=>some (v,h)|none=>none)=_;rw[h2]
theorem wG{x:Operand}{t e:TypeId}{a:Addr}{m c:Nat}(hu:P.underlying t=some (.slice e))(hx:ev l x=.slice (some a) m c):Pu P (ev l) (.bin .eql t x (.const (.slice none 0 0))) (.bool false):=λh=>by
 have h2:kD P .eql t x (.const (.slice none 0 0)) (.slice (some a) m c) (.slice none 0 0)=some (.bool false):=by
  have:sW P t (.slice (some a) m c) (.slice none 0 0)=some false:=by
   unfold sW;rw[hu]
  show(match sW P t (.slice (some a) m c) (.slice none 0 0)with|some b=>some (Value.bool b)|none=>none)=_;rw[this]
 simp only[aF.run,hx];show(match kD P .eql t x (.const (.slice none 0 0)) (.slice (some a) m c) (.slice none 0 0)with|some v=>some (v,h)|none=>none)=_;rw[h2]
theorem FT{e:TypeId}{size bytes b c:Nat}{a:Option Addr}{s x:Operand}
 (next:R (λh=>aI P ds rest (act n ((d,.slice (some ⟨b,0,some 0⟩) 0 0)::l) D pm ro) h K) B w0 (pt b (.cells [])::kl') F)
 (hs:ev l s=.slice (some ⟨b,0,some 0⟩) 0 0:=by rfl) (hx:ev l x=.slice a 0 c:=by rfl) (hk:az (pt b (.cells [])) kl kl':=by exact fB) (hn:Nat.blt d n=true:=by rfl) (hg:bM l g=true:=by rfl):
 R (λh=>aI P ds (⟨⟨some d,g,.append e size bytes s x⟩,[]⟩::rest) (act n l D pm ro) h K) B w0 kl F:=λw st=>by
 have st1:=st.fA hk;refine lW hn hg (v:=.slice (some ⟨b,0,some 0⟩) 0 0) (h':=w.h.set b (.cells [])) ?_ (next ⟨w.h.set b (.cells []),w.z,λi hi=>w.lX i hi⟩ st1.write);have h0:∀m,Nat.mul 0 m=0:=λm=>Ep m;have e1:w.h.storeAt b 0 []=some (w.h.set b (.cells [])):=by
  unfold IH.storeAt;simp only[st1.get.1];rfl
 simp only[aF.run,hx,hs,pq,yZ,xm];show cond (Nat.ble (Nat.mul (Nat.add 0 0) bytes) small&&Nat.ble (Nat.mul (Nat.add 0 0) size) small&&Nat.ble (Nat.add 0 0) small) (cond (Nat.ble (Nat.add 0 0) 0) (match w.h.storeAt b (Nat.add 0 (Nat.mul 0 size)) []with|some h=>some (Value.slice (some ⟨b,0,some 0⟩) (Nat.add 0 0) 0,h)|none=>none) _) none=_;rw[show Nat.add 0 0=0 from rfl,h0,h0,show Nat.add 0 0=0 from rfl,e1];have:(Nat.ble 0 small&&Nat.ble 0 small&&Nat.ble 0 small)=true:=rfl;rw[this];rfl
theorem FU{α:Type}{e:TypeId}{size bytes b:Nat}{s x:Operand}(E:Enc α)(ay:List (α×E.Y))(hne:0<ay.length)(hm:ay.length*bytes<=1073741824/\ay.length*size<=1073741824/\ay.length<=1073741824)
 (next:∀b',R (λh=>aI P ds rest (act n ((d,.slice (some ⟨b',0,some size⟩) ay.length ay.length)::l) D pm ro) h K) B w0 (pt b' (.cells (dD E ay))::kl') F)
 (hs:ev l s=.slice (some ⟨b,0,some 0⟩) 0 0:=by rfl) (hx:ev l x=v:=by conv=>lhs;whnf) (hf:rZ E v ay∈F:=by exact tX) (hz:E.n=size:=by rfl) (hk:az (pt b (.cells [])) kl kl':=by exact fB) (hn:Nat.blt d n=true:=by rfl) (hg:bM l g=true:=by rfl):
 R (λh=>aI P ds (⟨⟨some d,g,.append e size bytes s x⟩,[]⟩::rest) (act n l D pm ro) h K) B w0 kl F:=λw st=>by
 subst hz;have st1:=st.fA hk;have hat:At w.h b (.cells []):=st.at_ hk;obtain⟨k,hk'⟩:∃k,ay.length=k+1:=⟨ay.length - 1,by omega⟩
 rcases st.facts _ hf with⟨rfl,_⟩|⟨i,o,f,c,cells,⟨e1,hc⟩,q2,q3⟩
 ·simp at hne
 have hfl:=wE ay;have hcells:∀j,j<ay.length*E.n->cells[o+j]? =(dD E ay)[j]?:=λj hj=>by
  have hn0:0<E.n:=by
   rcases GJ E.n with h0|h0
   ·rw[h0]at hj;omega
   ·exact h0
  have hd:j/E.n<ay.length:=by rw[Rs hn0];exact hj
  have hmod:=Ag j hn0;have hpk:=bC hd;have hu:(E.pat (ay[j/E.n]).1 (ay[j/E.n]).2)[j%E.n]? =some ((E.pat (ay[j/E.n]).1 (ay[j/E.n]).2)[j%E.n]'(by rw[E.len];exact hmod)):=bC _;have h1:=(q3 (j/E.n) _ hpk).1 (j%E.n) _ hu;have h2:=wF hpk hu;have zw:j/E.n*E.n+j%E.n=j:=by rw[Ca];exact Nat.div_add_mod j E.n
  rw[pU,zw]at h1;rw[zw]at h2;rw[h1,h2]
 have hlen:o+ay.length*E.n<=cells.length\/ay.length*E.n=0:=by
  rcases GJ (ay.length*E.n)with h0|h0
  ·exact .inr h0
  ·left;have h1:=hcells (ay.length*E.n - 1) (by omega);have hx0:(dD E ay)[ay.length*E.n - 1]? =some ((dD E ay)[ay.length*E.n - 1]'(by omega)):=bC _;rw[hx0]at h1;have:=(aW.1 h1).1;omega
 have hpos:0<E.n\/E.n=0:=by omega
 have hread:w.h.iW i o (ay.length*E.n)=some (dD E ay):=by
  rw[q2.cells.iW,qL,rO,if_pos (by rw[uG];omega)];congr 1;apply iF;intro j;rw[uF];by_cases hj:j<ay.length*E.n
  ·rw[if_pos hj,oh];exact hcells j hj
  ·rw[if_neg hj,fu (by omega)]
 refine Ud (b:=b) (o:=0) (m:=0) (k:=k) (f:=some 0) (old:=[]) (xs:=dD E ay) hn hg hs (by rw[hx,e1,hk'];rfl) ?_ ?_ (.inl rfl) ?_ λh' mv=>?_
 ·rw[hx,e1,<- hk'];exact hread
 ·rw[hat.c.iW,Ep];rfl
 ·rw[fw,<- hk'];omega
 obtain⟨w',rfl,lZ,Ja⟩:=st1.move mv;rw[bH]at lZ;have:=next w.h.next w' lZ
 rw[hk']at this;rw[fw];exact this
end
end Go.Ideal
namespace Go.Ideal
variable {P:Program}
inductive Dl(P:Program)(ty:TypeId):Value->Value->Bool->Prop
 |int {a b:Int} (h:P.underlying ty=some (.int .i64)):Dl P ty (.int .i64 a) (.int .i64 b) (decide (a=b))
 |str {a b:ByteArray} (h:P.underlying ty=some .string):Dl P ty (.string a) (.string b) (decide (a=b))
theorem JG:eB P program=some P:=rfl
theorem Ol{α:Type}{c:Prop}[Decidable c]{a b:Sem α}:eB P (if c then a else b)=if c then eB P a else eB P b:=by split<;>rfl
theorem Ve{ty:TypeId}{a b:Value}{r:Bool}(c:Dl P ty a b r)(d:Nat):eB P (Op.equalIn (d+1) ty a b)=some r:=by
 cases c with
 |int h=>
  unfold Op.equalIn;rw[ig,rX h];simp only[iU,if_true];rfl
 |str h=>
  unfold Op.equalIn;rw[ig,rX h];show some (_==_)=_;rw[bytes_beq]
theorem JH{ty:TypeId}{a b v:Value}{r:Bool}(c:Dl P ty a b r){xs:Array Value}{o:Nat}(hx:xs[o]? =some v):eB P (part ty xs o)=some v:=by
 have hu:∃d,P.underlying ty=some d/\(∀fs,d≠.struct fs)/\∀n e,d≠.array n e:=by
  cases c with
  |int h=>exact⟨_,h,(by intro _ e;cases e),(by intro _ _ e;cases e)⟩
  |str h=>exact⟨_,h,(by intro _ e;cases e),(by intro _ _ e;cases e)⟩
 obtain⟨d,h1,h2,h3⟩:=hu;have hag:eB P (isAgg ty)=some false:=by
  unfold isAgg;rw[ig,rX h1];cases d with
  |struct fs=>exact absurd rfl (h2 fs)
  |array n e=>exact absurd rfl (h3 n e)
  |_=>rfl
 unfold part;rw[ig,hag];show eB P (match xs[o]? with|some v=>pure v|none=>stuck "part: no such cell")=_;rw[hx];rfl
inductive Dm(P:Program)(xs ys:List Value):List Field->Bool->Prop
 |nil:Dm P xs ys [] true
 |cons {f:Field} {fs:List Field} {a b:Value} {r r':Bool} (hn:(f.name== "_")=false) (hx:xs[f.offset]? =some a) (hy:ys[f.offset]? =some b) (c:Dl P f.type a b r) (t:Dm P xs ys fs r'):Dm P xs ys (f::fs) (r&&r')
theorem ae6{d:Nat}{t:TypeId}{fs:Array Field}{xs ys:List Value}{r:Bool}(hu:P.underlying t=some (.struct fs))(hp:P.stoodInHeld t=false)(h:Dm P xs ys fs.toList r):eB P (Op.equalIn (d+2) t (.agg ⟨xs⟩) (.agg ⟨ys⟩))=some r:=by
 unfold Op.equalIn;rw[ig,rX hu];simp only[iU];rw[ig,JG];simp only[iU,hp,uE,if_false];rw[<- Array.forIn_toList];generalize fs.toList=l at h;clear hu;induction h with
 |nil=>rfl
 | @cons f fs a b r r' hn hx hy c t ih=>
   have hn:f.name≠ "_" :=by simpa using hn
   rw[List.forIn_cons];simp only[ig,Ol,if_pos hn,hn,ne_eq,not_false_eq_true,if_true]at ih⊢;rw[JH (xs:=⟨xs⟩) c (by simpa using hx),iU,JH (xs:=⟨ys⟩) c (by simpa using hy),iU,Ve c,iU];cases r with
   |false=>rfl
   |true=>exact ih
section
variable {l:List (Nat×Value)}
theorem ae7{op:BinOp}{t:TypeId}{x y:Operand}{a b:Array Value}(hm:P.eqGuardType P.depth t=false):eB P (eqGuard op t x y (.agg a) (.agg b))=some ():=by
 have key:eB P (do if !(<- program).eqGuardType (<- program).depth t then return
                   if <- Op.eqGuardIn Op.maxDepth t (.agg a) (.agg b)then unsupported (.noEntry "binop\x2feql: two nil values of an interface type with methods, in a part of a struct or an array"))=some ():=by
  rw[ig,JG];simp only[iU];rw[ig,JG];simp only[iU,hm,Bool.not_false,if_true];rfl
 cases op<;>first|exact key|rfl
theorem Vf{op:BinOp}{t:TypeId}{x y:Operand}{a b:List Value}{v:Value}(ha:gX a=true)(hb:gX b=true)(hm:P.eqGuardType P.depth t=false)(hv:eB P (binOp op t (.agg ⟨a⟩) (.agg ⟨b⟩))=some v)(hf:dF v=true):kD P op t x y (.agg ⟨a⟩) (.agg ⟨b⟩)=some v:=by
 have h1:kP P (do eqGuard op t x y (.agg ⟨a⟩) (.agg ⟨b⟩);binOp op t (.agg ⟨a⟩) (.agg ⟨b⟩))=some v:=by
  unfold kP;rw[ig,ae7 hm];simp only[iU,hv,hf,cond]
 show cond (dF (.agg ⟨a⟩)&&dF (.agg ⟨b⟩)) (kP P (do eqGuard op t x y (.agg ⟨a⟩) (.agg ⟨b⟩);binOp op t (.agg ⟨a⟩) (.agg ⟨b⟩))) _=_;rw[h1];simp[dF,ha,hb]
theorem Vg{x y:Operand}{t:TypeId}{fs:Array Field}{xs ys:List Value}{r:Bool}(hx:ev l x=.agg ⟨xs⟩)(hy:ev l y=.agg ⟨ys⟩)(hu:P.underlying t=some (.struct fs))(hp:P.stoodInHeld t=false)(hm:P.eqGuardType P.depth t=false)(h:Dm P xs ys fs.toList r)(ha:gX xs=true)(hb:gX ys=true):
 Pu P (ev l) (.bin .neq t x y) (.bool (!r)):=λh0=>by
 simp only[aF.run,hx,hy];rw[Vf ha hb hm (v:=.bool (!r)) (by
  show eB P (do pure (Value.bool (!(<- Op.equal t (.agg ⟨xs⟩) (.agg ⟨ys⟩)))))=_;rw[ig,show eB P (Op.equal t (.agg ⟨xs⟩) (.agg ⟨ys⟩))=some r from ae6 (d:=9998) hu hp h];rfl) rfl]
theorem Vh{d n:Nat}{t e:TypeId}{xs ys:List Int}(hu:P.underlying t=some (.array n e))(he:P.underlying e=some (.int .i64))(hs:P.info? e|>.map (·.size)|>(·=some 1))(hx:xs.length=n)(hy:ys.length=n):
 eB P (Op.equalIn (d+2) t (.agg ⟨xs.map (.int .i64)⟩) (.agg ⟨ys.map (.int .i64)⟩))=some (decide (xs=ys)):=by
 have hsz:eB P (sizeOf e)=some 1:=by
  unfold sizeOf typeInfo;cases hi:P.info? e with
  |none=>rw[hi]at hs;cases hs
  |some i=>
   rw[hi]at hs;have hs:i.size=1:=by simpa using hs
   simp only[ig,JG,iU,hi];rw[<- hs];rfl
 unfold Op.equalIn;rw[ig,rX hu];simp only[iU];rw[ig,hsz];simp only[iU,pV];rw[Std.Legacy.Range.forIn_eq_forIn_range'];simp only[Std.Legacy.Range.size,Ak,Rx,Nat.div_one];have key:∀(m i:Nat),i+m=n->eB P (do
  let Vi <- forIn (List.range' i m 1) ((none,()):Option Bool×Unit) λi Vi=>
   (do let a <- part e ⟨xs.map (.int .i64)⟩ i
       let b <- part e ⟨ys.map (.int .i64)⟩ i
       let r <- Op.equalIn (d+1) e a b
       if(!r)=true then pure (ForInStep.done (some false,()))else pure (ForInStep.yield (none,())))
  match Vi.fst with
  |some r=>pure r
  |none=>pure true)=some (decide (xs.drop i=ys.drop i)):=by
  intro m;induction m with
  |zero=>
   intro i hi;rw[Ce (by omega),Ce (by omega)];rfl
  |succ m ih=>
   intro i hi;have hix:i<xs.length:=by omega
   have Vj:i<ys.length:=by omega
   have c:Dl P e (.int .i64 xs[i]) (.int .i64 ys[i]) (decide (xs[i]=ys[i])):=.int he;rw[List.range'_succ,List.forIn_cons];simp only[ig,Ol];rw[JH (xs:=⟨xs.map (.int .i64)⟩) (o:=i) (v:=.int .i64 xs[i]) c (by simp[hix]),iU,JH (xs:=⟨ys.map (.int .i64)⟩) (o:=i) (v:=.int .i64 ys[i]) c (by simp[Vj]),iU,Ve c,iU];rw[nJ hix,nJ Vj];have ih:=ih (i+1) (by omega);simp only[ig,Ol]at ih;by_cases hxy:xs[i]=ys[i]
   ·rw[fQ hxy];simp only[Bool.not_true,uE,if_false];show(eB P _).bind _=_;rw[show decide (xs[i]::xs.drop (i+1)=ys[i]::ys.drop (i+1))=decide (xs.drop (i+1)=ys.drop (i+1))from nK.2 (by rw[Ai];exact⟨λh=>h.2,λh=>⟨hxy,h⟩⟩)];exact ih
   ·rw[dM hxy];simp only[Bool.not_false,if_true];rw[show decide (xs[i]::xs.drop (i+1)=ys[i]::ys.drop (i+1))=false from dM (λh=>hxy (List.cons.inj h).1)];rfl
 have:=key n 0 (by omega);rw[Er,Er]at this;refine Eq.trans ?_ this;simp only[ig];congr 1;funext s
 cases s.fst<;>rfl
theorem ae8{x y:Operand}{n:Nat}{t e:TypeId}{xs ys:List Int}(hx:ev l x=.agg ⟨xs.map (.int .i64)⟩)(hy:ev l y=.agg ⟨ys.map (.int .i64)⟩)(hu:P.underlying t=some (.array n e))(he:P.underlying e=some (.int .i64))(hs:P.info? e|>.map (·.size)|>(·=some 1))(hxl:xs.length=n)(hyl:ys.length=n)(hm:P.eqGuardType P.depth t=false):
 Pu P (ev l) (.bin .eql t x y) (.bool (decide (xs=ys))):=λh0=>by
 have hfr:∀zs:List Int,gX (zs.map (Value.int .i64))=true:=by
  intro zs;induction zs with
  |nil=>rfl
  |cons z zs ih=>rw[fI];simp[gX,dF,Ideal.cellV,ih]
 simp only[aF.run,hx,hy];rw[Vf (hfr xs) (hfr ys) hm (v:=.bool (decide (xs=ys))) (by
  show eB P (do pure (Value.bool (<- Op.equal t (.agg ⟨xs.map (.int .i64)⟩) (.agg ⟨ys.map (.int .i64)⟩))))=_;rw[ig,show eB P (Op.equal t (.agg ⟨xs.map (.int .i64)⟩) (.agg ⟨ys.map (.int .i64)⟩))=some (decide (xs=ys))from Vh (d:=9998) hu he hs hxl hyl];rfl) rfl]
def FV(P:Program):List Field->Nat->List Bool->Bool
 |[],_,[]=>true
 |f::fs,i,k::ks=>!(f.name== "_")&&f.offset==i&&(match P.underlying f.type with
  |some (.int .i64)=>k
  |some .string=>!k
  |_=>false)&&FV P fs (i+1) ks
 |_,_,_=>false
def cellsE:List Value->List Value->Bool
 | .int .i64 a::xs,.int .i64 b::ys=>decide (a=b)&&cellsE xs ys
 | .string a::xs,.string b::ys=>decide (a=b)&&cellsE xs ys
 |_,_=>true
def JI:List Bool->List Value->Bool
 |[],[]=>true
 |true::ks,.int .i64 _::vs=>JI ks vs
 |false::ks,.string _::vs=>JI ks vs
 |_,_=>false
theorem row_of{xs ys:List Value}:∀{fs:List Field} {i:Nat} {ks:List Bool} {xs' ys':List Value},FV P fs i ks=true->JI ks xs'=true->JI ks ys'=true->(∀j,xs[i+j]? =xs'[j]?)->(∀j,ys[i+j]? =ys'[j]?)->Dm P xs ys fs (cellsE xs' ys')
 |[],i,[],[],[],_,_,_,_,_=>.nil
 |f::fs,i,k::ks,[],ys',h,hx,hy,ex,ey=>by cases k<;>cases hx
 |f::fs,i,k::ks,x::xs',[],h,hx,hy,ex,ey=>by cases k<;>cases hy
 |f::fs,i,k::ks,x::xs',y::ys',h,hx,hy,ex,ey=>by
  simp only[FV,eU]at h;obtain⟨⟨⟨h1,h2⟩,h3⟩,h4⟩:=h;have h2:f.offset=i:=by simpa using h2
  have e1:xs[f.offset]? =some x:=by have:=ex 0;rw[Af]at this;rw[h2,this];rfl
  have e2:ys[f.offset]? =some y:=by have:=ey 0;rw[Af]at this;rw[h2,this];rfl
  have Vk:∀j,xs[i+1+j]? =xs'[j]?:=λj=>by have:=ex (j+1);rw[show i+1+j=i+(j+1)by omega,this];rfl
  have Vl:∀j,ys[i+1+j]? =ys'[j]?:=λj=>by have:=ey (j+1);rw[show i+1+j=i+(j+1)by omega,this];rfl
  cases k with
  |true=>
   match x,hx,y,hy with
   | .int .i64 a,hx,.int .i64 b,hy=>
     have hu:P.underlying f.type=some (.int .i64):=by
      cases hq:P.underlying f.type with
      |none=>rw[hq]at h3;cases h3
      |some q=>
       rw[hq]at h3;cases q with
       |int kk=>cases kk<;>first|rfl|cases h3
       |string=>cases h3
       |_=>cases h3
     exact .cons (by simpa using h1) e1 e2 (.int hu) (row_of h4 hx hy Vk Vl)
  |false=>
   match x,hx,y,hy with
   | .string a,hx,.string b,hy=>
     have hu:P.underlying f.type=some .string:=by
      cases hq:P.underlying f.type with
      |none=>rw[hq]at h3;cases h3
      |some q=>
       rw[hq]at h3;cases q with
       |int kk=>cases kk<;>cases h3
       |string=>rfl
       |_=>cases h3
     exact .cons (by simpa using h1) e1 e2 (.str hu) (row_of h4 hx hy Vk Vl)
end

/-
  Part IdealNR.
-/
import Derived.Test.YtpkieeggilkagaaGreatIdealMR
import Derived.Sort.Row
import Derived.Sort.Grow
import Derived.Laws.StructEq
set_option linter.all false
namespace Go.Ideal
variable {P:Program}
def Ap{Y:Type}(B:List Nat)(w0:Wd)(ret:Y->ja)(kl':Y->List OA)(fs:Y->List aL)(pr:Y->Prop):KR:=λr pm h'=>
 pm=none/\∃(w':Wd) (y:Y),w'.h=h'/\St B w0 (kl' y) (fs y) w'/\r=ret y/\pr y
def qH{Y:Type}(P:Program)(fn:Fn)(args cap:List Value)(kl:List OA)(F:List aL)(ret:Y->ja)(kl':Y->List OA)(fs:Y->List aL)(pr:Y->Prop):Prop:=
 ∀(B:List Nat) (w:Wd),St B w kl F w->CALL P ⟨fn,args,cap,none⟩ w.h (Ap B w ret kl' fs pr)
theorem qH.toC{Y:Type}{fn:Fn}{args cap:List Value}{kl:List OA}{F:List aL}{ret:Y->ja}{kl':Y->List OA}{fs:Y->List aL}{pr:Y->Prop}(val:Y->Value)(h:qH P fn args cap kl F ret kl' fs pr)
 (hv:∀y,pr y->ret y=.ok (val y)):aV P fn args cap kl F val kl' fs pr:=λB w s=>by
 refine .vH _ (h B w s) ?_;rintro r pm h' ⟨e,w',y,e1,st,er,hp⟩;exact⟨e,w',y,e1,st,er.trans (hv y hp),hp⟩
def MU{Y:Type}(B:List Nat)(w0:Wd)(ret:Y->ja)(md:Y->FrameMode)(kl':Y->List OA)(fs:Y->List aL)(pr:Y->Prop):KR:=λr pm h'=>
 ∃(w':Wd) (y:Y),pm=some (md y)/\w'.h=h'/\St B w0 (kl' y) (fs y) w'/\r=ret y/\pr y
def IX{Y:Type}(P:Program)(fn:Fn)(args cap:List Value)(m:FrameMode)(kl:List OA)(F:List aL)(ret:Y->ja)(md:Y->FrameMode)(kl':Y->List OA)(fs:Y->List aL)(pr:Y->Prop):Prop:=
 ∀(B:List Nat) (w:Wd),St B w kl F w->CALL P ⟨fn,args,cap,some m⟩ w.h (MU B w ret md kl' fs pr)
theorem Sq{K:KR}{f:FuncId}{args cap:List Value}{pm:Option FrameMode}{c:dm}{m:Nat}{l0:List (Nat×Value)}(cf:gW)(hF:(pK P qB pM).F f=some cf)(h1:cf.body=c)(h2:rA cf.ntmps (iM (args++cap))=m)(h3:pW 0 (args++cap) []=l0){h:IH}
 (hb:EV P c (act m l0 [] pm none) h (qE P cf K)):CALL P ⟨.func f,args,cap,pm⟩ h K:=by
 obtain⟨fn,e1,e2⟩:=(Cj P qB pM (λf q h v h' hm=>by cases hm)).fn f cf hF;refine RB cf fn e1 e2 ?_;rw[ME,h1,h2,h3];exact hb
theorem y5{Y:Type}{f:FuncId}{args cap:List Value}{kl:List OA}{F:List aL}{ret:Y->ja}{kl':Y->List OA}{fs:Y->List aL}{pr:Y->Prop}{c:dm}{m:Nat}{l0:List (Nat×Value)}(cf:gW)(hF:(pK P qB pM).F f=some cf)
 (hb:∀B w0,R (λh=>EV P c (act m l0 [] none none) h (qE P cf (Ap B w0 ret kl' fs pr))) B w0 kl F)
 (h1:cf.body=c:=by conv=>lhs;(reduce;(try simp only[Int.reduceOfNat,Int.reduceNegSucc]))) (h2:rA cf.ntmps (iM (args++cap))=m:=by conv=>lhs;whnf) (h3:pW 0 (args++cap) []=l0:=by dsimp only[pW,Nat.reduceAdd,List.append_nil,List.cons_append,List.nil_append]):qH P (.func f) args cap kl F ret kl' fs pr:=
 λB w s=>Sq cf hF h1 h2 h3 (hb B w w s)
theorem Sr{Y:Type}{f:FuncId}{args cap:List Value}{pm:FrameMode}{kl:List OA}{F:List aL}{ret:Y->ja}{md:Y->FrameMode}{kl':Y->List OA}{fs:Y->List aL}{pr:Y->Prop}{c:dm}{m:Nat}{l0:List (Nat×Value)}(cf:gW)(hF:(pK P qB pM).F f=some cf)
 (hb:∀B w0,R (λh=>EV P c (act m l0 [] (some pm) none) h (qE P cf (MU B w0 ret md kl' fs pr))) B w0 kl F)
 (h1:cf.body=c:=by conv=>lhs;(reduce;(try simp only[Int.reduceOfNat,Int.reduceNegSucc]))) (h2:rA cf.ntmps (iM (args++cap))=m:=by conv=>lhs;whnf) (h3:pW 0 (args++cap) []=l0:=by dsimp only[pW,Nat.reduceAdd,List.append_nil,List.cons_append,List.nil_append]):IX P (.func f) args cap pm kl F ret md kl' fs pr:=
 λB w s=>Sq cf hF h1 h2 h3 (hb B w w s)
section
variable {B:List Nat} {w0:Wd} {kl kl' bA:List OA} {F:List aL} {K:KO} {ds:List Tmp} {rest:List bT} {n:Nat} {l:List (Nat×Value)} {D:List Deferred} {pm:Option FrameMode} {ro:Option Nat} {d:Nat} {g:Option (Tmp×Bool)}
theorem St.MV{w:Wd}{k1 bA:List OA}{F1:List aL}(s:St B w0 kl F w)(hk:aJ k1 kl bA)(hF:Sub F1 F):
 ∃S1,St S1 w k1 F1 w/\∀(w':Wd) (k1':List OA) (F':List aL),St S1 w k1' F' w'->St B w0 (k1'++bA) (F'++F) w':=by
 obtain⟨S,h1,h2,h3⟩:=s.own;obtain⟨S1,S2,q1,q2,hp⟩:=h1.jH hk;have hsub:∀i∈S1,i∈S:=λi hi=>hp.mem_iff.2 (kZ _ hi);exact⟨S1,⟨⟨bU _,λ_ _ _=>rfl,λ_ _=>rfl⟩,Wd.Le.refl w,λi _ hz=>.inl hz,⟨S1,q1,(iq.1 (hp.nodup h2)).1,λi hi=>⟨.inr hi,(h3 i (hsub i hi)).2⟩⟩,λf hf=>s.facts f (hF.mem f hf)⟩,
  λw' k1' F' c=>s.call (k1:=k1) (F1:=F1) ⟨S,hp,h2,h3⟩ q2 c⟩
theorem acp{Y:Type}{f:Operand}{xs:List Operand}{re:List iD}{fn:Fn}{first captured vs as:List Value}{k1:List OA}{F1:List aL}{ret:Y->ja}{k1':Y->List OA}{fs:Y->List aL}{pr:Y->Prop}
 (hc:qH P fn as captured k1 F1 ret k1' fs pr) (hn:Nat.blt d n=true) (hg:bW l g=true) (hf:ev l f=.func fn ⟨first⟩ ⟨captured⟩) (hx:EvL (ev l) xs vs) (ha:first++vs=as)
 (hk:aJ k1 kl bA) (hF:Sub F1 F)
 (hs:∀y v,pr y->ret y=.ok v->Same P re (ev ((d,v)::l)) ((d,v)::l) B w0 (k1' y++bA) (fs y++F))
 (next:∀y v,pr y->ret y=.ok v->R (λh=>aK P ds rest (act n ((d,v)::l) D pm ro) h K) B w0 (k1' y++bA) (fs y++F))
 (EZ:∀y ch,pr y->ret y=.fQ ch->R (λh=>K (.panic ch) (act n (Ag ds n l) D pm ro) h) B w0 (k1' y++bA) (fs y++F)):
 R (λh=>aK P ds (⟨⟨some d,g,.call f xs⟩,re⟩::rest) (act n l D pm ro) h K) B w0 kl F:=by
 intro w s;obtain⟨S1,s1,back⟩:=s.MV hk hF;have hcall:=hc S1 w s1;subst ha;rw[<- hx.map]at hcall;refine s_call hn hg fn hf _ hcall ?_ ?_ ?_ ?_
 ·rintro v h' ⟨_,w',y,rfl,c,hv,hpr⟩;exact hs y v hpr hv.symm w' (back w' _ _ c)
 ·rintro v h' ⟨_,w',y,rfl,c,hv,hpr⟩;exact next y v hpr hv.symm w' (back w' _ _ c)
 ·rintro ch h' ⟨_,w',y,rfl,c,hv,hpr⟩;rw[Hq];exact EZ y ch hpr hv.symm w' (back w' _ _ c)
 ·rintro r p h' ⟨e,_⟩;exact e
theorem uM{Y:Type}{f:Operand}{xs:List Operand}{re:List iD}{fn:Fn}{first captured vs as:List Value}{k1:List OA}{F1:List aL}{ret:Y->ja}{k1':Y->List OA}{fs:Y->List aL}{pr:Y->Prop}{dX:Y->List OA}{F2:Y->List aL}
 (hc:qH P fn as captured k1 F1 ret k1' fs pr)
 (next:∀y v,pr y->ret y=.ok v->R (λh=>aK P ds rest (act n ((d,v)::l) D pm ro) h K) B w0 (dX y) (F2 y))
 (EZ:∀y ch,pr y->ret y=.fQ ch->R (λh=>K (.panic ch) (act n (Ag ds n l) D pm ro) h) B w0 (dX y) (F2 y))
 (hn:Nat.blt d n=true:=by rfl) (hg:bW l g=true:=by rfl) (hf:ev l f=.func fn ⟨first⟩ ⟨captured⟩:=by rfl) (hx:EvL (ev l) xs vs:=by repeat (first|with_reducible exact EvL.nil|((with_reducible apply EvL.cons);(conv=>lhs;whnf)))) (ha:first++vs=as:=by rfl)
 (hk:aJ k1 kl bA:=by exact mh) (hF:Sub F1 F:=by exact mg) (hk2:∀y,aY (k1' y) bA (dX y):=by intro y;repeat (first|exact aY.nil|apply aY.cons|exact aY.self|exact aY.app)) (hF2:∀y,aY (fs y) F (F2 y):=by intro y;repeat (first|exact aY.nil|apply aY.cons|exact aY.self|exact aY.app))
 (hs:∀y v,pr y->ret y=.ok v->Same P re (ev ((d,v)::l)) ((d,v)::l) B w0 (dX y) (F2 y):=by intro _ _ _ _;repeat (first|exact Cr|refine Cs rfl (by repeat (first|with_reducible exact aA.here|with_reducible apply aA.there|with_reducible apply aA.app)) (by first|exact rfl|(conv=>lhs;whnf)) rfl ?_|refine ES rfl (by(repeat (first|with_reducible exact dJ .. |with_reducible apply dN));first|done|fail) (by first|exact rfl|(conv=>lhs;whnf)) rfl ?_|refine ET rfl (by(repeat (first|with_reducible exact dJ .. |with_reducible apply dN));first|done|fail) (by first|exact rfl|(conv=>lhs;whnf)) rfl ?_|refine EU rfl (by repeat (first|with_reducible exact aA.here|with_reducible apply aA.there|with_reducible apply aA.app)) (by first|exact rfl|(conv=>lhs;whnf)) rfl ?_|refine EW rfl (by(repeat (first|with_reducible exact dJ .. |with_reducible apply dN));first|done|fail) (by first|exact rfl|(conv=>lhs;whnf)) rfl ?_|refine EX rfl (by(repeat (first|with_reducible exact dJ .. |with_reducible apply dN));first|done|fail) (by first|exact rfl|(conv=>lhs;whnf)) rfl ?_)):
 R (λh=>aK P ds (⟨⟨some d,g,.call f xs⟩,re⟩::rest) (act n l D pm ro) h K) B w0 kl F:=
 acp hc hn hg hf hx ha hk hF (λy v a b=>by rw[(hk2 y).eq,(hF2 y).eq];exact hs y v a b) (λy v a b=>by rw[(hk2 y).eq,(hF2 y).eq];exact next y v a b) (λy v a b=>by rw[(hk2 y).eq,(hF2 y).eq];exact EZ y v a b)
theorem CB{x:Operand}{t:TypeId}{v:Value}{dst:Option Tmp}{re:List iD}
 (next:R (λh=>K (.panic [{v:=.iface t v,recovered:=false}]) (act n (Ag ds n l) D pm ro) h) B w0 kl F)
 (hx:ev l x=.iface t v:=by rfl) (hg:bW l g=true:=by rfl):R (λh=>aK P ds (⟨⟨dst,g,.panic x⟩,re⟩::rest) (act n l D pm ro) h K) B w0 kl F:=λw s=>aaC hg hx (next w s)
theorem acr{f:Operand}{args:List Operand}{fn:Fn}{first captured vs:List Value}
 (next:R (λh=>aK P ds rest (act n l ({target:=.fn fn ⟨captured⟩,args:=⟨first++vs⟩}::D) pm none) h K) B w0 kl F)
 (hf:ev l f=.func fn ⟨first⟩ ⟨captured⟩:=by rfl) (hx:EvL (ev l) args vs:=by repeat (first|with_reducible exact EvL.nil|((with_reducible apply EvL.cons);(conv=>lhs;whnf)))) (hg:bW l g=true:=by rfl):
 R (λh=>aK P ds (⟨⟨none,g,.dcall f args⟩,[]⟩::rest) (act n l D pm none) h K) B w0 kl F:=λw s=>by
 refine aaD hg rfl hf ?_;rw[hx.map];exact next w s
theorem Su{m:FrameMode}{v:Value}{m':FrameMode}(he:jM m=(v,m'))
 (next:R (λh=>aK P ds rest (act n ((d,v)::l) D (some m') none) h K) B w0 kl F) (hn:Nat.blt d n=true:=by rfl) (hg:bW l g=true:=by rfl):
 R (λh=>aK P ds (⟨⟨some d,g,.recover⟩,[]⟩::rest) (act n l D (some m) none) h K) B w0 kl F:=λw s=>by
 refine aaE hn hg rfl ?_;rw[he];exact next w s
def RL(P:Program)(cf:gW)(l:List (Nat×Value))(D:List Deferred)(m:FrameMode)(Kr:ja->IH->Prop)(B:List Nat)(w0:Wd)(kl:List OA)(F:List aL):Prop:=∀w,St B w0 kl F w->LEAVE P cf (gP l) D m w.h Kr
theorem E5{cf:gW}{Kr:KR}{o:Out}{m:FrameMode}(h:RL P cf l D m (λr h=>Kr r pm h) B w0 kl F)(hm:uw o=some m:=by rfl):R (λh=>qE P cf Kr o (act n l D pm ro) h) B w0 kl F:=λw s=>by
 show(match uw o with
  |none=>False
  |some m=>LEAVE P cf (gP l) D m w.h λr h''=>Kr r pm h'')
 rw[hm];exact h w s
variable {cf:gW} {Kr:ja->IH->Prop}
theorem acs{vs:List Value}(hk:∀w,St B w0 kl F w->Kr (.ok (rO vs)) w.h)(hr:RS l kl cf.results vs:=by exact Ak):RL P cf l [] .returning Kr B w0 kl F:=λw s=>by
 refine .ret (rO vs) ?_ (hk w s);unfold qA;rw[hr.all s];match vs with
 |[]=>rfl
 |[v]=>rfl
 |_::_::_=>rfl
theorem Sv{Y:Type}{fn:Fn}{captured args:List Value}{m:FrameMode}{k1:List OA}{F1:List aL}{ret:Y->ja}{md:Y->FrameMode}{k1':Y->List OA}{fs:Y->List aL}{pr:Y->Prop}{dX:Y->List OA}{F2:Y->List aL}
 (hc:IX P fn args captured m k1 F1 ret md k1' fs pr)
 (next:∀y v,pr y->ret y=.ok v->RL P cf l D (yF (md y)) Kr B w0 (dX y) (F2 y))
 (EZ:∀y ch,pr y->ret y=.fQ ch->RL P cf l D (BK (md y) ch) Kr B w0 (dX y) (F2 y))
 (hk:aJ k1 kl bA:=by exact mh) (hF:Sub F1 F:=by exact mg) (hk2:∀y,aY (k1' y) bA (dX y):=by intro y;repeat (first|exact aY.nil|apply aY.cons|exact aY.self|exact aY.app)) (hF2:∀y,aY (fs y) F (F2 y):=by intro y;repeat (first|exact aY.nil|apply aY.cons|exact aY.self|exact aY.app)) (hm:m≠.run:=by intro e;cases e):
 RL P cf l ({target:=.fn fn ⟨captured⟩,args:=⟨args⟩}::D) m Kr B w0 kl F:=λw s=>by
 obtain⟨S1,s1,back⟩:=s.MV hk hF;refine .call hm _ (hc S1 w s1) ?_ ?_ ?_
 ·rintro r p h' ⟨w',y,e,_⟩ hp;rw[e]at hp;cases hp
 ·rintro v m' h' ⟨w',y,e,rfl,c,hv,hpr⟩;injection e with e;subst e;have:=next y v hpr hv.symm w' (by rw[<- (hk2 y).eq,<- (hF2 y).eq];exact back w' _ _ c)
  exact this
 ·rintro ch m' h' ⟨w',y,e,rfl,c,hv,hpr⟩;injection e with e;subst e;exact EZ y ch hpr hv.symm w' (by rw[<- (hk2 y).eq,<- (hF2 y).eq];exact back w' _ _ c)
theorem Aq{Y:Type}{o:Out}{vs:List Value}{ret:Y->ja}{k1:Y->List OA}{fs:Y->List aL}{pr:Y->Prop}{dX:List OA}(y:Y)(hv:ret y=.ok (rO vs))(hp:pr y)(hD:jA kl D dX:=by repeat (first|exact jA.nil|(apply jA.cons;(focus (repeat (first|with_reducible exact aA.here|with_reducible apply aA.there|with_reducible apply aA.app))))))
 (hr:RS l dX cf.results vs:=by exact Ak) (hk:aJ (k1 y) dX bA:=by exact mh) (hF:Sub (fs y) F:=by exact mg) (ho:o=.normal\/o=.ret:=by first|exact .inl rfl|exact .inr rfl):
 R (λh=>qE P cf (Ap B w0 ret k1 fs pr) o (act n l D none ro) h) B w0 kl F:=by
 refine E5 (m:=.returning) ?_ (by rcases ho with rfl|rfl<;>rfl);intro w s;refine jA.leave hD (λw' s'=>⟨rO vs,?_,rfl,w',y,rfl,((s'.jH hk).drop).sub hF,hv.symm,hp⟩) w s;unfold qA;rw[hr.all s'];match vs with
 |[]=>rfl
 |[v]=>rfl
 |_::_::_=>rfl
theorem jA.Sw{ts:T Value}{ch:List PanicEntry}:∀{D:List Deferred} {kl dX:List OA},jA kl D dX->(∀w',St B w0 dX F w'->Kr (.fQ ch) w'.h)->∀w,St B w0 kl F w->LEAVE P cf ts D (.panicking ch) w.h Kr
 |_,_,_,.nil,hk,w,s=>.fQ ch (hk w s)
 |_,_,_,.cons (r:=r) h t,hk,w,s=>by
  have s1:=s.fZ h;refine .coll (by intro e;cases e) r s1.get.1 ?_;exact jA.Sw t hk _ (s1.write (o':=.ic false)).tail
theorem Ar{Y:Type}{ch:List PanicEntry}{ret:Y->ja}{k1:Y->List OA}{fs:Y->List aL}{pr:Y->Prop}{dX:List OA}(y:Y)(hv:ret y=.fQ ch)(hp:pr y)(hD:jA kl D dX:=by repeat (first|exact jA.nil|(apply jA.cons;(focus (repeat (first|with_reducible exact aA.here|with_reducible apply aA.there|with_reducible apply aA.app))))))
 (hk:aJ (k1 y) dX bA:=by exact mh) (hF:Sub (fs y) F:=by exact mg):
 R (λh=>qE P cf (Ap B w0 ret k1 fs pr) (.panic ch) (act n l D none ro) h) B w0 kl F:=by
 refine E5 (m:=.panicking ch) ?_;intro w s;exact jA.Sw hD (λw' s'=>⟨rfl,w',y,rfl,((s'.jH hk).drop).sub hF,hv.symm,hp⟩) w s
theorem Sy{Y:Type}{o:Out}{vs:List Value}{ret:Y->ja}{m:FrameMode}{md:Y->FrameMode}{k1:Y->List OA}{fs:Y->List aL}{pr:Y->Prop}{dX:List OA}(y:Y)(hv:ret y=.ok (rO vs))(hm:md y=m)(hp:pr y)(hD:jA kl D dX:=by repeat (first|exact jA.nil|(apply jA.cons;(focus (repeat (first|with_reducible exact aA.here|with_reducible apply aA.there|with_reducible apply aA.app))))))
 (hr:RS l dX cf.results vs:=by exact Ak) (hk:aJ (k1 y) dX bA:=by exact mh) (hF:Sub (fs y) F:=by exact mg) (ho:o=.normal\/o=.ret:=by first|exact .inl rfl|exact .inr rfl):
 R (λh=>qE P cf (MU B w0 ret md k1 fs pr) o (act n l D (some m) ro) h) B w0 kl F:=by
 refine E5 (m:=.returning) ?_ (by rcases ho with rfl|rfl<;>rfl);intro w s;refine jA.leave hD (λw' s'=>⟨rO vs,?_,w',y,by rw[hm],rfl,((s'.jH hk).drop).sub hF,hv.symm,hp⟩) w s;unfold qA;rw[hr.all s'];match vs with
 |[]=>rfl
 |[v]=>rfl
 |_::_::_=>rfl
theorem Sz{Y:Type}{ret:Y->ja}{k1:Y->List OA}{fs:Y->List aL}{pr:Y->Prop}{vs:List Value}(y:Y)(hv:ret y=.ok (rO vs))(hp:pr y)(hr:RS l kl cf.results vs:=by exact Ak)(hk:aJ (k1 y) kl bA:=by exact mh)(hF:Sub (fs y) F:=by exact mg):
 RL P cf l [] .returning (λr h=>Ap B w0 ret k1 fs pr r none h) B w0 kl F:=
 acs (λw s=>⟨rfl,w,y,rfl,((s.jH hk).drop).sub hF,hv.symm,hp⟩) hr
end
end Go.Ideal
namespace Go.Ideal
variable {P:Program}
theorem SA{α β:Type}(f:α->β)(hf:∀a b,f a=f b->a=b){l1 l2:List α}(h:(l1.map f).Perm (l2.map f)):l1.Perm l2:=by
 classical
 rw[List.perm_iff_count];intro a;have:=h.count_eq (f a);have key:∀l:List α,(l.map f).count (f a)=l.count a:=by
  intro l;induction l with
  |nil=>rfl
  |cons x l ih=>
   rw[ik,List.count_cons,List.count_cons,ih];by_cases e:x=a
   ·subst e;simp
   ·have:¬f x=f a:=λh=>e (hf _ _ h);simp[e,this]
 rw[key,key]at this;exact this
theorem SB{α β:Type}{f:α->β}:∀{l:List α},(l.map f).Nodup->∀{a b:α},a∈l->b∈l->f a=f b->a=b
 |[],_,a,b,ha,_,_=>by cases ha
 |x::l,h,a,b,ha,hb,e=>by
  rw[ik,BA]at h;obtain⟨hx,hl⟩:=h;rcases dG.1 ha with h1|ha<;>rcases dG.1 hb with h2|hb
  ·rw[h1,h2]
  ·rw[<- h1,e]at hx;exact absurd (Ko hb) hx
  ·rw[<- h2,<- e]at hx;exact absurd (Ko ha) hx
  ·exact SB hl ha hb e
def pq{α:Type}[DecidableEq α](a:α):List (α×Value)->Nat->Option (Nat×Value)
 |[],_=>none
 |(b,v)::l,i=>if a=b then some (i,v)else pq a l (i+1)
def dL{α β:Type}[DecidableEq α](a:α):List (α×β)->Option β
 |[]=>none
 |(b,v)::l=>if a=b then some v else dL a l
def upd{α β:Type}[DecidableEq α](a:α)(v:β):List (α×β)->List (α×β)
 |[]=>[(a,v)]
 |(b,u)::l=>if a=b then(a,v)::l else(b,u)::upd a v l
def pu{α:Type}(bz:α->Value)(az:List (α×Value))(es:List MapEntry):Prop:=es.map (λe=>(e.key,e.val))=az.map λp=>(bz p.1,p.2)
structure rP(P:Program)(kt:TypeId){α:Type}[DecidableEq α](bz:α->Value):Prop where
 E8:∀a,ru P kt (bz a)=true
 find:∀a az es,pu bz az es->sD P kt (bz a) es=some (pq a az 0)
 same:∀a,Instr.sameBits 10000 (bz a) (bz a)=true
theorem SC{kt:TypeId}{v:Value}(ha:cz v=true)(h:∀b,eF P (Instr.checkKey b 10000 kt v)=some ()):ru P kt v=true:=by
 unfold ru;rw[ha,h true,h false];rfl
theorem MW{α:Type}{bz:α->Value}{p:α×Value}{az:List (α×Value)}{es:List MapEntry}(h:pu bz (p::az) es):∃e es',es=e::es'/\e.key=bz p.1/\e.val=p.2/\pu bz az es':=by
 cases es with
 |nil=>cases h
 |cons e es=>
  unfold pu at h;rw[ik,ik]at h;injection h with h1 h2;injection h1 with h1 h3;exact⟨e,es,rfl,h1,h3,h2⟩
theorem SE{α:Type}[DecidableEq α]{bz:α->Value}{d:TypeDesc}(hs:∀a b,Instr.sameNow d (bz a) (bz b)=some (decide (a=b)))(a:α):∀(az:List (α×Value)) (es:List MapEntry) (i:Nat),pu bz az es->Instr.findNow d (bz a) es i=some (pq a az i)
 |[],es,i,h=>by
  cases es with
  |nil=>rfl
  |cons e es=>cases h
 |p::az,es,i,h=>by
  obtain⟨e,es',rfl,h1,h2,h3⟩:=MW h;have ih:=SE hs a az es' (i+1) h3;show(match Instr.sameNow d (bz a) e.key with
   |some true=>some (some (i,e.val))
   |some false=>Instr.findNow d (bz a) es' (i+1)
   |none=>none)=_
  rw[h1,hs a p.1];unfold pq;by_cases hab:a=p.1
  ·rw[dQ hab,if_pos hab,h2]
  ·rw[aS hab,if_neg hab];exact ih
theorem SF{α:Type}[DecidableEq α]{bz:α->Value}{kt:TypeId}{d:TypeDesc}(hu:P.underlying kt=some d)(hs:∀a b,Instr.sameNow d (bz a) (bz b)=some (decide (a=b)))(a:α)(az:List (α×Value))(es:List MapEntry)(h:pu bz az es):sD P kt (bz a) es=some (pq a az 0):=by
 unfold sD Instr.findKey;rw[iy,rM hu];simp only[jd,SE hs a az es 0 h];rfl
theorem acu{kt:TypeId}(hu:P.underlying kt=some (.int .i64)):rP P kt (λn:Int=>.int .i64 n) where
 E8 a:=SC rfl λb=>by
  show eF P (Instr.checkKey b (9999+1) kt _)=_;unfold Instr.checkKey;rw[iy,rM hu];rfl
 find a az es h:=SF hu (λa b=>by
  show(if IntKind.i64=IntKind.i64 then some (a==b)else none)=_;rw[if_pos rfl];congr 1) a az es h
 same a:=by
  show(IntKind.i64==IntKind.i64&&a==a)=true;simp
theorem bytes_beq(a b:ByteArray):(a==b)=decide (a=b):=by
 have:(a==b)=(a.data==b.data):=rfl;rw[this];by_cases h:a=b
 ·subst h;simp
 ·rw[aS h];cases hb:a.data==b.data with
  |false=>rfl
  |true=>exact absurd (ByteArray.ext (eq_of_beq hb)) h
theorem acv{kt:TypeId}(hu:P.underlying kt=some .string):rP P kt (λs:ByteArray=>.string s) where
 E8 a:=SC rfl λb=>by
  show eF P (Instr.checkKey b (9999+1) kt _)=_;unfold Instr.checkKey;rw[iy,rM hu];rfl
 find a az es h:=SF hu (λa b=>by
  show some (a==b)=_;rw[bytes_beq]) a az es h
 same a:=by
  show(a==a)=true;rw[bytes_beq];simp
theorem SG{α:Type}[DecidableEq α](a:α):∀(az:List (α×Value)) (i:Nat),(pq a az i).map (·.2)=dL a az
 |[],_=>rfl
 |(b,v)::l,i=>by
  unfold pq dL;by_cases h:a=b
  ·rw[if_pos h,if_pos h];rfl
  ·rw[if_neg h,if_neg h];exact SG a l (i+1)
theorem SH{α:Type}[DecidableEq α]{bz:α->Value}{kt:TypeId}(hk:rP P kt bz){h:IH}{m zero:Value}{ok:Bool}{a:α}{az:List (α×Value)}{es:List MapEntry}(he:entriesOf m h=some es)(ho:pu bz az es):
 zM P kt zero m (bz a) ok h=some (match dL a az with
  |some v=>cond ok (.tuple #[v,.bool true]) v
  |none=>cond ok (.tuple #[zero,.bool false]) zero):=by
 unfold zM;simp only[he,hk.E8,cond_true,hk.find a az es ho];have:=SG a az 0;cases hf:pq a az 0 with
 |none=>rw[hf]at this;rw[<- this];rfl
 |some p=>rw[hf]at this;rw[<- this];rfl
theorem SI{α:Type}[DecidableEq α](a:α):∀(az:List (α×Value)) (i j:Nat) (v:Value),pq a az i=some (j,v)->∃k,j=i+k/\az[k]? =some (a,v)/\∀u,upd a u az=az.set k (a,u)
 |[],i,j,v,h=>by cases h
 |(b,w)::l,i,j,v,h=>by
  unfold pq at h;split at h
  ·rename_i hab;subst hab;cases h;exact⟨0,rfl,rfl,λu=>by simp[upd]⟩
  ·rename_i hab;obtain⟨k,h1,h2,h3⟩:=SI a l (i+1) j v h;exact⟨k+1,by omega,by simpa using h2,λu=>by simp[upd,if_neg hab,h3]⟩
theorem SK{α:Type}[DecidableEq α](a:α):∀(az:List (α×Value)) (i:Nat),pq a az i=none->(∀p∈az,a≠p.1)/\∀u,upd a u az=az++[(a,u)]
 |[],i,h=>⟨λp hp=>(by cases hp),λu=>rfl⟩
 |(b,w)::l,i,h=>by
  unfold pq at h;split at h
  ·cases h
  ·rename_i hab;obtain⟨h1,h2⟩:=SK a l (i+1) h;refine⟨λp hp=>?_,λu=>by simp[upd,if_neg hab,h2]⟩;rcases dG.1 hp with rfl|hp
   ·exact hab
   ·exact h1 p hp
structure Au{α:Type}(bz:α->Value)(az:List (α×Value))(es:List MapEntry)(clock:Nat):Prop where
 sZ:pu bz az es
 lt:∀e∈es,e.born<clock
 nd:(es.map (·.born)).Nodup
 keys:(az.map (·.1)).Nodup
theorem acw{α:Type}[DecidableEq α]{bz:α->Value}{kt:TypeId}(hk:rP P kt bz){h:IH}{b:Nat}{a:α}{v:Value}{az:List (α×Value)}{es:List MapEntry}{clock:Nat}(hg:h.get b=some (.map es clock))(ho:Au bz az es clock):
 ∃es' clock',DV P kt (.map (some b)) (bz a) v h=some (h.set b (.map es' clock'))/\Au bz (upd a v az) es' clock':=by
 unfold DV;simp only[hg,hk.E8,cond_true,hk.find a az es ho.sZ];cases hf:pq a az 0 with
 |none=>
  obtain⟨h1,h2⟩:=SK a az 0 hf;refine⟨_,_,rfl,?_⟩;rw[h2,jS];refine⟨?_,λe he=>?_,?_,?_⟩
  ·unfold pu;rw[ed,ed,ho.sZ];rfl
  ·rcases dB.1 he with he|he
   ·exact Km (ho.lt e he)
   ·rw[bM.1 he];exact uX _
  ·rw[ed,iq];refine⟨ho.nd,by simp,λx hx y hy e=>?_⟩;obtain⟨e0,he0,rfl⟩:=eT.1 hx;have:y=clock:=by simpa using hy
   have:=ho.lt e0 he0;omega
  ·rw[ed,iq];refine⟨ho.keys,by simp,λx hx y hy e=>?_⟩;obtain⟨p,hp,rfl⟩:=eT.1 hx;have:y=a:=by simpa using hy
   exact h1 p hp (by rw[e,this])
 |some p=>
  obtain⟨j,u⟩:=p;obtain⟨k,rfl,h2,h3⟩:=SI a az 0 j u hf;rw[fC];have hlen:es.length=az.length:=by
   have:=congrArg List.length ho.sZ;simpa using this
  have hk':=(bK.1 h2).1;have MX:es[k]? =some es[k]:=bN (by omega);have hkey:es[k].key=bz a:=by
   have:=congrArg (λl=>l[k]?) ho.sZ;simp only[fw,MX,h2,ko]at this;injection this with this;injection this
  simp only[sI,MX,hkey,hk.same,cond_true];refine⟨_,_,rfl,?_⟩;rw[h3,Qa];refine⟨?_,λe he=>?_,?_,?_⟩
  ·unfold pu;apply kP;intro i;have:=congrArg (λl=>l[i]?) ho.sZ;simp only[fw]at this;simp only[fw,List.getElem?_modify,uj];by_cases hi:k=i
   ·subst hi;simp[MX,hk']
   ·rw[if_neg hi];cases he:es[i]? with
    |none=>rw[he]at this;simp only[Option.map_none]at this⊢;simp[hi,<- this]
    |some e=>rw[he]at this;simp only[ko]at this⊢;simp[hi,<- this]
  ·obtain⟨i,he⟩:=vz.1 he;rw[List.getElem?_modify]at he;cases MZ:es[i]? with
   |none=>rw[MZ]at he;simp at he
   |some e0=>
    rw[MZ]at he;have hlt:=ho.lt e0 (aP MZ);injection he with he;rw[<- he];split<;>exact hlt
  ·have:(es.modify k λe=>{e with key:=bz a,val:=v}).map (·.born)=es.map (·.born):=by
    apply kP;intro i;simp only[fw,List.getElem?_modify];cases es[i]? with
    |none=>rfl
    |some e=>simp only[ko];split<;>rfl
   rw[this];exact ho.nd
  ·have:(az.set k (a,v)).map (·.1)=az.map (·.1):=by
    apply kP;intro i;simp only[fw,uj];by_cases hi:k=i
    ·subst hi;rw[if_pos rfl,if_pos hk',h2];rfl
    ·rw[if_neg hi]
   rw[this];exact ho.keys
def gQ{α:Type}(bz:α->Value)(b:Nat)(az:List (α×Value)):OA:=⟨λw S=>S=[b]/\∃es clock,w.h.get b=some (.map es clock)/\Au bz az es clock,λa h ⟨h1,es,clock,h2,h3⟩=>⟨h1,es,clock,by rw[h b (by rw[h1];exact bM.2 rfl)];exact h2,h3⟩⟩
def xm{α:Type}(bz:α->Value)(b:Nat)(az:List (α×Value)):aL:=⟨λw=>w.z b/\∃es clock,w.h.get b=some (.map es clock)/\Au bz az es clock,λa ⟨h1,es,clock,h2,h3⟩=>⟨a.z b h1,es,clock,by rw[a.get b h1];exact h2,h3⟩⟩
theorem CE{α:Type}{bz:α->Value}{b:Nat}{az:List (α×Value)}:rH (gQ bz b az) [xm bz b az]:=by
 intro w w' S ⟨h1,es,clock,h2,h3⟩ hle hh hz f hf;rw[bM.1 hf];exact⟨hz b (by rw[h1];exact bM.2 rfl),es,clock,by rw[hh];exact h2,h3⟩
section
variable {B:List Nat} {w0:Wd} {kl kl' bA:List OA} {F:List aL} {K:KO} {ds:List Tmp} {rest:List bT} {n:Nat} {l:List (Nat×Value)} {D:List Deferred} {pm:Option FrameMode} {ro:Option Nat} {d:Nat} {g:Option (Tmp×Bool)}
variable {α:Type} [DecidableEq α] {bz:α->Value}
theorem St.SL{b:Nat}{az:List (α×Value)}{w:Wd}(h:St B w0 (gQ bz b az::kl) F w):∃es clock,Au bz az es clock/\St B w0 (pt b (.map es clock)::kl) F w:=by
 obtain⟨S,⟨S1,S2,⟨q1,es,clock,q3,q4⟩,q2,e⟩,h2,h3⟩:=h.own;exact⟨es,clock,q4,h.agree,h.le,h.gp,⟨S,⟨S1,S2,⟨q1,q3⟩,q2,e⟩,h2,h3⟩,h.facts⟩
theorem y7(bz:α->Value)
 (next:∀b,R (λh=>aK P ds rest (act n ((d,.map (some b))::l) D pm ro) h K) B w0 (gQ bz b []::kl) F) (hn:Nat.blt d n=true:=by rfl) (hg:bW l g=true:=by rfl):
 R (λh=>aK P ds (⟨⟨some d,g,.vB⟩,[]⟩::rest) (act n l D pm ro) h K) B w0 kl F:=λw s=>
 lT hn hg (h':=w.h.new (.map [] 0)) (by simp only[aG.run,aG.alloc,rz]) (next w.h.next (w.new _) ((s.new _).EO (A:=pt w.h.next (.map [] 0)) (A':=gQ bz w.h.next []) λw S hp=>⟨hp.1,[],0,hp.2,⟨rfl,λe he=>(by cases he),wz,wz⟩⟩))
def kW{α:Type}[DecidableEq α](ok:Bool)(zero:Value)(a:α)(az:List (α×Value)):Value:=match dL a az with
 |some v=>cond ok (.tuple #[v,.bool true]) v
 |none=>cond ok (.tuple #[zero,.bool false]) zero
theorem SN{kt:TypeId}{zero:Value}{m k:Operand}{ok:Bool}{b:Nat}{az:List (α×Value)}(hk:rP P kt bz)(a:α)
 (next:R (λh=>aK P ds rest (act n ((d,kW ok zero a az)::l) D pm ro) h K) B w0 kl F)
 (hm:ev l m=.map (some b):=by rfl) (ha:ev l k=bz a:=by conv=>lhs;whnf) (hf:xm bz b az∈F:=by exact vL) (hn:Nat.blt d n=true:=by rfl) (hg:bW l g=true:=by rfl):
 R (λh=>aK P ds (⟨⟨some d,g,.lookup kt zero m k ok⟩,[]⟩::rest) (act n l D pm ro) h K) B w0 kl F:=λw s=>by
 obtain⟨_,es,clock,h1,h2⟩:=s.facts _ hf;refine lT hn hg (v:=kW ok zero a az) ?_ (next w s);have:zM P kt zero (.map (some b)) (bz a) ok w.h=_:=SH hk (by simp only[entriesOf,h1]) h2.sZ;simp only[aG.run,hm,ha,this];rfl
theorem E9{kt:TypeId}{zero:Value}{m k:Operand}{ok:Bool}{b:Nat}{az:List (α×Value)}(hk:rP P kt bz)(a:α)
 (next:R (λh=>aK P ds rest (act n ((d,kW ok zero a az)::l) D pm ro) h K) B w0 kl F)
 (hm:ev l m=.map (some b):=by rfl) (ha:ev l k=bz a:=by conv=>lhs;whnf) (hs:aA (gQ bz b az) kl kl':=by exact gz) (hn:Nat.blt d n=true:=by rfl) (hg:bW l g=true:=by rfl):
 R (λh=>aK P ds (⟨⟨some d,g,.lookup kt zero m k ok⟩,[]⟩::rest) (act n l D pm ro) h K) B w0 kl F:=λw s=>by
 obtain⟨es,clock,h2,s1⟩:=(s.fZ hs).SL;refine lT hn hg (v:=kW ok zero a az) ?_ (next w s);have:zM P kt zero (.map (some b)) (bz a) ok w.h=_:=SH hk (by simp only[entriesOf,s1.get.1]) h2.sZ;simp only[aG.run,hm,ha,this];rfl
theorem xq{kt:TypeId}{m k x:Operand}{b:Nat}{v:Value}{az:List (α×Value)}(hk:rP P kt bz)(a:α)
 (next:R (λh=>aK P ds rest (act n l D pm ro) h K) B w0 (gQ bz b (upd a v az)::kl') F)
 (hm:ev l m=.map (some b):=by rfl) (ha:ev l k=bz a:=by conv=>lhs;whnf) (hv:ev l x=v:=by conv=>lhs;whnf) (hs:aA (gQ bz b az) kl kl':=by exact gz) (hg:bW l g=true:=by rfl):
 R (λh=>aK P ds (⟨⟨none,g,.Gr kt m k x⟩,[]⟩::rest) (act n l D pm ro) h K) B w0 kl F:=λw s=>by
 obtain⟨es,clock,h2,s1⟩:=(s.fZ hs).SL;obtain⟨es',clock',e1,e2⟩:=acw (v:=v) hk (a:=a) s1.get.1 h2;refine Mh hg (v:=dR) (h':=w.h.set b (.map es' clock')) ?_ (next _ ((s1.write (o':=.map es' clock')).EO (A:=pt b (.map es' clock')) (A':=gQ bz b (upd a v az)) λw S hp=>⟨hp.1,es',clock',hp.2,e2⟩));simp only[aG.run,hm,ha,hv,e1]
theorem SQ{az:List (α×Value)}{es:List MapEntry}{clock:Nat}(h:Au bz az es clock):es.length=az.length:=by
 have:=congrArg List.length h.sZ;simpa using this
def CF{α:Type}(bz:α->Value)(r b:Nat)(az gZ:List (α×Value)):OA:=⟨λw S=>S=[r]/\∃es clock seen last,w.h.get b=some (.map es clock)/\w.z b/\Au bz az es clock/\w.h.get r=some (.mapIter (some b) clock seen last)/\last=clock/\
 (∃ve rem:List MapEntry,pu bz gZ ve/\ve.map (·.born)=seen/\(ve++rem).Perm es),
 λa h ⟨h1,es,clock,seen,last,h2,h3,h4,h5,h6,h7⟩=>⟨h1,es,clock,seen,last,by rw[a.get b h3];exact h2,a.z b h3,h4,by rw[h r (by rw[h1];exact bM.2 rfl)];exact h5,h6,h7⟩⟩
theorem acy{m:Operand}{b:Nat}{az:List (α×Value)}
 (next:∀r,R (λh=>aK P ds rest (act n ((d,.pointer (some ⟨r,0,none⟩))::l) D pm ro) h K) B w0 (CF bz r b az []::kl) F)
 (hm:ev l m=.map (some b):=by rfl) (hf:xm bz b az∈F:=by exact vL) (hn:Nat.blt d n=true:=by rfl) (hg:bW l g=true:=by rfl):
 R (λh=>aK P ds (⟨⟨some d,g,.rangeMap m⟩,[]⟩::rest) (act n l D pm ro) h K) B w0 kl F:=λw s=>by
 obtain⟨hz,es,clock,h1,h2⟩:=s.facts _ hf;refine lT hn hg (h':=w.h.new (.mapIter (some b) clock [] clock)) (by simp only[aG.run,hm,h1]) (next w.h.next (w.new _) ?_);have s1:=s.new (.mapIter (some b) clock [] clock);obtain⟨hz',es',clock',h1',h2'⟩:=s1.facts _ hf;refine s1.Ai λS hp=>⟨hp.1,es',clock',[],clock,h1',hz',h2',?_,?_,[],es',rfl,rfl,.refl _⟩
 ·have:clock'=clock:=by
   have e:(w.new (.mapIter (some b) clock [] clock)).h.get b=w.h.get b:=by
    show(w.h.new _).get b=_;rw[IH.jk,if_neg (by have:=w.nL b hz;omega)]
   rw[e,h1]at h1';injection h1' with h1';injection h1' with _ h1';exact h1'.symm
  rw[this];exact hp.2
 ·have e:(w.new (.mapIter (some b) clock [] clock)).h.get b=w.h.get b:=by
   show(w.h.new _).get b=_;rw[IH.jk,if_neg (by have:=w.nL b hz;omega)]
  rw[e,h1]at h1';injection h1' with h1';injection h1' with _ h1'
theorem acz{es ve rem:List MapEntry}(hp:(ve++rem).Perm es)(hn:(es.map (·.born)).Nodup):(es.filter λe=>!(ve.map (·.born)).contains e.born).Perm rem:=by
 have hp2:((ve++rem).filter λe=>!(ve.map (·.born)).contains e.born).Perm (es.filter λe=>!(ve.map (·.born)).contains e.born):=hp.filter _;rw[uk]at hp2;have h1:ve.filter (λe=>!(ve.map (·.born)).contains e.born)=[]:=by
  rw[List.filter_eq_nil_iff];intro e he;simp only[Bz,Bool.not_eq_false',List.contains_eq_mem,yu];simp;exact⟨e,he,rfl⟩
 have hnd:((ve++rem).map (·.born)).Nodup:=(hp.map _).nodup_iff.2 hn;rw[ed,iq]at hnd;have h2:rem.filter (λe=>!(ve.map (·.born)).contains e.born)=rem:=by
  rw[List.filter_eq_self];intro e he;simp only[Bz,List.contains_eq_mem,decide_eq_false_iff_not];intro hm;exact hnd.2.2 _ hm _ (Ko he) rfl
 rw[h1,h2,bY]at hp2;exact hp2.symm
theorem acA{x:Operand}{r b:Nat}{az gZ:List (α×Value)}
 (more:∀p rem,(gZ++p::rem).Perm az->R (λh=>aK P ds rest (act n ((d,.tuple #[.bool true,bz p.1,p.2])::l) D pm ro) h K) B w0 (CF bz r b az (gZ++[p])::kl') F)
 (done:gZ.Perm az->R (λh=>aK P ds rest (act n ((d,.tuple #[.bool false])::l) D pm ro) h K) B w0 (CF bz r b az gZ::kl') F)
 (inj:∀a c,bz a=bz c->a=c)
 (hx:ev l x=.pointer (some ⟨r,0,none⟩):=by rfl) (hs:aA (CF bz r b az gZ) kl kl':=by exact gz) (hn:Nat.blt d n=true:=by rfl) (hg:bW l g=true:=by rfl):
 R (λh=>aK P ds (⟨⟨some d,g,.wD x⟩,[]⟩::rest) (act n l D pm ro) h K) B w0 kl F:=λw s0=>by
 have s:=s0.fZ hs;obtain⟨S,⟨S1,S2,⟨q1,es,clock,seen,last,h1,hz,h2,h3,h4,ve,rem,h5,h6,h7⟩,q2,eS⟩,hnd,hown⟩:=s.own;subst h4 h6;have hpl:=acz h7 h2.nd;have hold:((es.filter λe=>!(ve.map (·.born)).contains e.born).filter λe=>Nat.blt e.born last)=es.filter λe=>!(ve.map (·.born)).contains e.born:=by
  rw[List.filter_eq_self];intro e he;have:=h2.lt e (pI.1 he).1;rw[si];exact this
 have hnew:((es.filter λe=>!(ve.map (·.born)).contains e.born).filter λe=>Nat.ble last e.born)=[]:=by
  rw[List.filter_eq_nil_iff];intro e he;have:=h2.lt e (pI.1 he).1;rw[tZ];omega
 have hcl:(!(ve.map (·.born)).isEmpty&&!es.isEmpty&&es.all (λe=>Nat.ble last e.born))=false:=by
  cases es with
  |nil=>simp
  |cons e es=>
   have:=h2.lt e (dJ ..);have:Nat.ble last e.born=false:=by
    cases hb:Nat.ble last e.born with
    |false=>rfl
    |true=>rw[tZ]at hb;omega
   simp[this]
 have acB:zQ (ev l x) w.h=some ((if(es.filter λe=>!(ve.map (·.born)).contains e.born).isEmpty then[(.tuple #[.bool false],w.h)]else[])++
  (es.filter λe=>!(ve.map (·.born)).contains e.born).map λe=>(.tuple #[.bool true,e.key,e.val],w.h.set r (.mapIter (some b) last (ve.map (·.born)++[e.born]) last))):=by
  rw[hx];unfold zQ;simp only[h3,h1];rw[hcl];simp only[cond_false,hold,hnew,gV]
 -- a pair for an entry
 have ajQ:∀(ajR:List MapEntry) (ajS:List (α×Value)),True:=λ_ _=>trivial;refine .next (vK hg) x rfl rfl _ (by rw[nK];exact acB) ?_
 intro vh hm;rcases dB.1 hm with hm|hm
 ·split at hm
  ·rename_i hemp;rw[bM.1 hm,pV hn];have acC:rem=[]:=by
    have:(es.filter λe=>!(ve.map (·.born)).contains e.born)=[]:=by simpa using hemp
    rw[this]at hpl;exact List.nil_perm.1 hpl|>λh=>h
   refine done ?_ w s;subst acC;rw[gV]at h7;have hm1:=h7.map (λe=>(e.key,e.val));rw[h5,h2.sZ]at hm1;exact SA (λp:α×Value=>(bz p.1,p.2)) (λp q hpq=>by
    injection hpq with e1 e2;exact Prod.ext (inj _ _ e1) e2) hm1
  ·cases hm
 ·obtain⟨e,he,rfl⟩:=eT.1 hm;have hr:e∈rem:=hpl.mem_iff.1 he;obtain⟨r1,r2,acD⟩:=List.append_of_mem hr
  -- the pair
  obtain⟨i,hi,hie⟩:∃i,i<az.length/\es[i]? =some e:=by
   obtain⟨i,hi⟩:=vz.1 (pI.1 he).1;have:=(bK.1 hi).1;rw[SQ h2]at this;exact⟨i,this,hi⟩
  have hpe:(e.key,e.val)=(bz az[i].1,az[i].2):=by
   have:=congrArg (λl=>l[i]?) h2.sZ;simp only[fw,hie,bN hi,ko]at this;injection this
  injection hpe with hpk hpv;rw[pV hn,hpk,hpv];have hperm:(ve++[e]++(r1++r2)).Perm es:=by
   refine List.Perm.trans ?_ h7;rw[acD,fI];refine List.Perm.append_left _ ?_;exact(List.perm_middle (l₁:=r1) (l₂:=r2) (a:=e)).symm
  have Fa:pu bz (gZ++[az[i]]) (ve++[e]):=by
   unfold pu;rw[ed,ed,h5];simp[hpk,hpv]
  obtain⟨M0,acE⟩:∃M0:List (α×Value),(gZ++az[i]::M0).Perm az:=by
   have hm1:=hperm.map (λe=>(e.key,e.val));rw[ed,Fa,h2.sZ]at hm1;have hex:∀ls:List MapEntry,(∀x∈ls,∃p:α×Value,(x.key,x.val)=(bz p.1,p.2))->∃ps:List (α×Value),ls.map (λe=>(e.key,e.val))=ps.map λp=>(bz p.1,p.2):=by
    intro ls;induction ls with
    |nil=>intro _;exact⟨[],rfl⟩
    |cons x ls ih=>
     intro h;obtain⟨p,hp⟩:=h x (dJ ..);obtain⟨ps,hps⟩:=ih λy hy=>h y (dN _ hy);exact⟨p::ps,by rw[ik,ik,hp,hps]⟩
   obtain⟨ps,hps⟩:=hex (r1++r2) (λy hy=>by
    have hy':y∈es:=hperm.mem_iff.1 (qp _ hy);obtain⟨j,hj⟩:=vz.1 hy';have hj':=(bK.1 hj).1;rw[SQ h2]at hj';have:=congrArg (λl=>l[j]?) h2.sZ;simp only[fw,hj,bN hj',ko]at this;injection this with this;exact⟨_,this⟩)
   rw[hps,<- ed]at hm1;refine⟨ps,?_⟩;have:=SA (λp:α×Value=>(bz p.1,p.2)) (λp q hpq=>by
    injection hpq with e1 e2;exact Prod.ext (inj _ _ e1) e2) hm1
   rwa [fI]at this
  refine more az[i] M0 acE ⟨w.h.set r (.mapIter (some b) last (ve.map (·.born)++[e.born]) last),w.z,λi hi=>w.nL i hi⟩ ?_
  -- the state behind the step
  have s2:St B w0 (pt r (.mapIter (some b) last (ve.map (·.born)) last)::kl') F w:=⟨s.agree,s.le,s.gp,⟨S,⟨S1,S2,⟨q1,h3⟩,q2,eS⟩,hnd,hown⟩,s.facts⟩
  have s3:=s2.write (o':=.mapIter (some b) last (ve.map (·.born)++[e.born]) last);refine s3.Ai λS' hp=>⟨hp.1,es,last,_,last,?_,hz,h2,hp.2,rfl,ve++[e],r1++r2,Fa,by rw[ed];rfl,hperm⟩
  have hrb:r≠b:=λer=>by
   have:=s2.own;obtain⟨S0,⟨T1,T2,⟨u1,_⟩,_,ue⟩,_,ho⟩:=this;exact(ho r (by rw[ue,u1];simp)).2.2 (er▸hz)
  show(w.h.set r _).get b=_;rw[IH.nJ,if_neg (λer=>hrb er.symm)];exact h1
theorem acF{x:Operand}{r b:Nat}{az gZ:List (α×Value)}{p:α×Value}
 (next:R (λh=>aK P ds rest (act n ((d,.tuple #[bz p.1,p.2])::l) D pm ro) h K) B w0 kl F)
 (hx:ev l x=.pointer (some ⟨r,0,none⟩):=by rfl) (hs:aA (CF bz r b az (gZ++[p])) kl kl':=by exact gz) (hn:Nat.blt d n=true:=by rfl) (hg:bW l g=true:=by rfl):
 R (λh=>aK P ds (⟨⟨some d,g,.entry x⟩,[]⟩::rest) (act n l D pm ro) h K) B w0 kl F:=λw s0=>by
 have s:=s0.fZ hs;obtain⟨S,⟨S1,S2,⟨q1,es,clock,seen,last,h1,hz,h2,h3,h4,ve,rem,h5,h6,h7⟩,q2,e⟩,hnd,hown⟩:=s.own;subst h4 h6;obtain⟨SS,x0,Fa,hx0,hx1⟩:∃SS x0,ve=SS++[x0]/\x0.key=bz p.1/\x0.val=p.2:=by
  unfold pu at h5;rw[ed]at h5;obtain⟨a1,a2,e1,e2,e3⟩:=List.map_eq_append_iff.1 h5;obtain⟨x0,a3,e4,e5,e6⟩:=List.map_eq_cons_iff.1 e3;have:a3=[]:=by simpa using e6
  subst this;injection e5 with e5 e7;exact⟨a1,x0,by rw[e1,e4],e5,e7⟩
 have hfind:es.find? (λy=>Nat.beq y.born x0.born)=some x0:=by
  have hm:x0∈es:=h7.mem_iff.1 (kZ _ (by rw[Fa];simp));cases hf:es.find? (λy=>Nat.beq y.born x0.born)with
  |none=>
   have:=PE.1 hf x0 hm;simp[Gh]at this
  |some y=>
   have hy:=List.find?_some hf;have hym:=WZ hf;have hb:y.born=x0.born:=ql hy;congr 1;exact SB h2.nd hym hm hb
 refine lT hn hg (v:=.tuple #[bz p.1,p.2]) ?_ (next w s0);simp only[aG.run,hx,h3,h1];rw[Fa];simp only[ed,ik,List.map_nil,List.getLast?_append,List.getLast?_singleton,Option.some_or,Gh,cond_true,hfind,hx0,hx1]
end
end Go.Ideal
namespace Go.Ideal
open Go.Sort
variable {P:Program}
theorem WR.grow{β:aI}{h:IH}{w:World}(hW:WR P β h w)(os:Array Obj):WR P β h (grow w os)/\Eff β h w β h (grow w os):=by
 have hold:∀b,b<w.heap.size->(Go.Sort.grow w os).heap[b]? =w.heap[b]?:=λb hb=>by
  show(w.heap++os)[b]? =_;rw[Array.getElem?_append_left hb]
 refine⟨⟨hW.dom,hW.live,λi g o h1 h2=>?_,hW.inj⟩,⟨λ_ _=>rfl,bU _,λ_ _ h=>h,λ_ _ _=>rfl,bU _,λ_ _ _=>rfl,rfl,rfl,rfl,?_,λb hb _=>hold b hb,λi g hg hi=>absurd (hW.dom _ _ hg) (by omega),λi g _ _ _ _ hb=>hold _ hb,bU _⟩⟩
 ·have hO:=hW.obj i g o h1 h2;exact hO.congr (hold _ hO.lt)
 ·show w.heap.size<=(w.heap++os).size;rw[Array.size_append];omega
def IY(o:Nat):List Value->Array Value->Array Value
 |[],c=>c
 |v::vs,c=>IY (o+1) vs (c.setIfInBounds o v)
theorem SV(b:Nat):∀(vs:List Value) (o:Nat) (w:World),w.setCells b o vs=mapBlock w b (IY o vs)
 |[],o,w=>(mapBlock_id w b _ λc e fr h=>rfl).symm
 |v::vs,o,w=>by
  show(w.setCell ⟨b,o,none⟩ v).setCells b (o+1) vs=_;rw[SV b vs (o+1),setCell_eq,mapBlock_mapBlock];rfl
theorem SX:∀(vs:List Value) (o:Nat) (c:Array Value) (k:Nat),(IY o vs c)[k]? =if o<=k/\k<o+vs.length/\k<c.size then vs[k - o]? else c[k]?
 |[],o,c,k=>by
  rw[if_neg (by rw[Kj];omega)];rfl
 |v::vs,o,c,k=>by
  show(IY (o+1) vs (c.setIfInBounds o v))[k]? =_;rw[SX vs (o+1),Array.size_setIfInBounds,oV];by_cases h1:o+1<=k/\k<o+1+vs.length/\k<c.size
  ·rw[if_pos h1,if_pos ⟨by omega,by omega,h1.2.2⟩];rw[show k - o=(k - (o+1))+1 by omega,qV]
  ·rw[if_neg h1,WT];by_cases h2:o=k
   ·subst h2;rw[if_pos rfl];by_cases h3:o<c.size
    ·rw[if_pos h3,if_pos ⟨bU _,by omega,h3⟩,BB];rfl
    ·rw[if_neg h3,if_neg (by omega)];exact(tY (by omega)).symm
   ·rw[if_neg h2,if_neg (by omega)]
theorem setCells_putRow{α:Type}[Inhabited α](enc:α->Value)(w:World)(b o:Nat)(d:Array α):w.setCells b o (d.toList.map enc)=putRow enc w b o d:=by
 rw[SV];unfold putRow;refine mapBlock_congr w b _ _ λc e fr hc=>?_;apply Array.ext_getElem?;intro k;rw[SX,putCells,Array.getElem?_mapIdx,dV,Array.length_toList];by_cases hk:k<c.size
 ·by_cases h:o<=k/\k<o+d.size
  ·rw[if_pos ⟨h.1,h.2,hk⟩,W9 hk,ko,if_pos h,fw,zB,W9 (by omega)];rw[ko,getElem!_pos d _ (by omega)]
  ·rw[if_neg (λq=>h ⟨q.1,q.2.1⟩),W9 hk,ko,if_neg h]
 ·rw[if_neg (by omega),tY (by omega)];rfl
def M3(P:Program)(f:FuncId):Prop:=∀(blk off cap:Nat) (zs:List Int) (w:World),Holds (Value.int .i64) w blk off zs.toArray->blk<w.heap.size->zs.length<4611686018427387904->
 Calls P f #[.slice (some ⟨blk,off,none⟩) zs.length cap] w λe w'=>e=.returned (.tuple #[])/\∃n os,w'=Go.Sort.grow (putRow (Value.int .i64) (Sort.ahead w n) blk off (zs.mergeSort λx y=>decide (x<=y)).toArray) os
def dD(zs:List Int):List Int:=zs.mergeSort λx y=>decide (x<=y)
theorem Av(zs:List Int):(dD zs).length=zs.length:=List.length_mergeSort zs
theorem acG{f:FuncId}(hS:M3 P f){fn:Func}(hfn:P.funcs[f]? =some fn){body:Code}(hb:fn.body=some body)(hname:fn.name≠ "runtime.NumGoroutine"){b o c:Nat}{fl:Option Nat}{zs:List Int}{h h':IH}{cs:List Value}
 (hg:h.get b=some (.cells cs)) (hz:∀(j:Nat) z,zs[j]? =some z->cs[o+j]? =some (.int .i64 z)) (hne:0<zs.length) (hlen:zs.length<4611686018427387904) (hs:h.storeAt b o ((dD zs).map (.int .i64))=some h'):
 mP P ⟨.func f,[.slice (some ⟨b,o,fl⟩) zs.length c],[],none⟩ h (λr pm h2=>pm=none/\r=.ok (.tuple ⟨[]⟩)/\h2=h'):=by
 intro β w fn' args' cap' hG hW hf ha hcap;obtain⟨j3,t1,t2⟩:=Q7 (P:=P) (q:=⟨.func f,[.slice (some ⟨b,o,fl⟩) zs.length c],[],none⟩) (f:=f) (args:=[.slice (some ⟨b,o,fl⟩) zs.length c]) (by simp only[target,jS,gV]) hf ha hcap hfn hb hname w;cases t2 with|cons hv tl=>
 cases tl;obtain⟨g,a,c',hi,rfl,hab,_,hn,hcc,hao,_⟩:=hv.nW;have hao:a.off=g.off+o/\a.spot=none:=by
  rcases hao with e|e
  ·omega
  ·exact e
 obtain⟨⟨c0,t0,fz0,hh⟩,q2,q3,q4,q5,q6⟩:=hW.obj b g _ hi hg;have ea:a=⟨g.b,g.off+o,none⟩:=by
  obtain⟨ab,ao,as⟩:=a;simp only at hab hao;rw[hab,hao.1,hao.2]
 subst ea;have hin:∀j,j<zs.length->o+j<cs.length:=λj hj=>(bK.1 (hz j _ (bN hj))).1;have hH:Holds (Value.int .i64) w g.b (g.off+o) zs.toArray:=λj hj=>by
  have hj:j<zs.length:=by simpa using hj
  obtain⟨v',h1,h2⟩:=q6 (o+j) _ (hz j _ (bN hj));have:=h2.mO;subst this;refine⟨?_,(q4 _ (by have:=hin j hj;omega)).2⟩;rw[qm,h1];congr 2;rw[getElem!_pos zs.toArray j (by simpa using hj)];simp
 have hlt:g.b<w.heap.size:=(WU.1 hh).1;have hC:=hS g.b (g.off+o) c' zs w hH hlt hlen;obtain⟨_,w1,w2⟩:=KT hW hi hs (vs':=(dD zs).map (.int .i64)) (bi.free (by
  have:∀l:List Int,fU (l.map (Value.int .i64))=true:=by
   intro l;induction l with
   |nil=>rfl
   |cons x l ih=>rw[ik];simp[fU,cz,Ideal.cellV,ih]
  exact this _)) (by
  rw[kg];intro x hx;obtain⟨z,_,rfl⟩:=eT.1 hx;rfl)
 refine⟨_,Frame.enter P f ⟨_⟩ .normal,t1,rfl,λcs0 Ac=>?_⟩;obtain⟨e,w',fr,⟨he,k,os,hw'⟩,hcomes,hfr,hlv⟩:=hC cs0;subst he;have hw1:putRow (Value.int .i64) (Sort.ahead w k) g.b (g.off+o) (zs.mergeSort λx y=>decide (x<=y)).toArray=Sort.ahead (w.setCells g.b (g.off+o) ((dD zs).map (.int .i64))) k:=by
  have:=setCells_putRow (Value.int .i64) w g.b (g.off+o) (dD zs).toArray;rw[show(dD zs).toArray.toList=dD zs from rfl]at this;rw[this];rfl
 rw[hw1]at hw';have w3:WR P β h' (Sort.ahead (w.setCells g.b (g.off+o) ((dD zs).map (.int .i64))) k):=w1.uA rfl;have w4:=w2.trans (Eff.uA (w':=Sort.ahead (w.setCells g.b (g.off+o) ((dD zs).map (.int .i64))) k) w1.dom rfl rfl rfl rfl (Nat.le_add_right _ _));obtain⟨w5,w6⟩:=w3.grow os;rw[<- hw']at w5 w6;refine⟨.ok (.tuple ⟨[]⟩),none,h',β,w',.returned (.tuple #[]),cs0,⟨rfl,rfl,rfl⟩,w5,w4.trans w6,.ok (.dR _),.none cs0,.inl ⟨f,_,fr,rfl,hcomes,hfr,hlv.2.2.1,hlv.1,hlv.2.1,hlv.2.2.2⟩⟩
theorem M4{α:Type}:∀(l:List α) (o:Nat) (xs:List α),o+xs.length<=l.length->∃r,jY l o xs=some r
 |[],o,xs,h=>by
  have h1:xs=[]:=jQ.1 (by rw[Kj]at h;omega);have h2:o=0:=by rw[Kj]at h;omega
  exact⟨[],by rw[P8,if_pos ⟨h1,h2⟩]⟩
 |c::l,0,[],h=>⟨_,P9 c l⟩
 |c::l,0,x::xs,h=>by
  obtain⟨r,hr⟩:=M4 l 0 xs (by simp only[oV]at h;omega);exact⟨x::r,by rw[KM,hr];rfl⟩
 |c::l,o+1,xs,h=>by
  obtain⟨r,hr⟩:=M4 l o xs (by simp only[oV]at h;omega);exact⟨c::r,by rw[KN,hr];rfl⟩
theorem acH{f:FuncId}(hS:M3 P f){fn:Func}(hfn:P.funcs[f]? =some fn){body:Code}(hb:fn.body=some body)(hname:fn.name≠ "runtime.NumGoroutine"){a:Option Addr}{zs:List Int}(hne:0<zs.length)(hlen:zs.length<4611686018427387904):
 aV P (.func f) [.slice a zs.length zs.length] [] [ap aa (.slice a zs.length zs.length) zs] [] (λ_:Unit=>.tuple ⟨[]⟩) (λ_=>[ap aa (.slice a zs.length zs.length) (dD zs)]) (λ_=>[]) (λ_=>True):=by
 intro B w s;obtain⟨S,⟨S1,S2,q1,q2,e⟩,h2,h3⟩:=s.own;rcases q1 with⟨h,_⟩|⟨b,o,fl,cells,e1,hf,e2,hb',hcl,hel⟩
 ·rw[h]at hne;simp at hne
 injection e1 with e1 e1';subst e1;have hcl:cells.length=o+zs.length:=by rw[hcl];simp[aa]
 have hz:∀(j:Nat) z,zs[j]? =some z->cells[o+j]? =some (.int .i64 z):=λj z hj=>by
  obtain⟨y,u1,_⟩:=hel j z hj;have:=u1 0 (.int .i64 z) rfl;simpa[aa]using this
 have hst:∃cs2,w.h.storeAt b o ((dD zs).map (.int .i64))=some (w.h.set b (.cells cs2))/\cs2.length=cells.length/\∀(k:Nat) z,(dD zs)[k]? =some z->cs2[o+k]? =some (.int .i64 z):=by
  have hov:∃cs2,jY cells o ((dD zs).map (.int .i64))=some cs2:=M4 _ _ _ (by rw[dV,Av];omega);obtain⟨cs2,hl⟩:=hov;obtain⟨l1,l2,l3⟩:=KP hl;refine⟨cs2,?_,l2,λk z hk=>?_⟩
  ·unfold IH.storeAt;simp only[hb',hl]
  ·rw[l3,if_pos ⟨by omega,by have:=(bK.1 hk).1;rw[dV];omega⟩,WX,fw,hk];rfl
 obtain⟨cs2,hst,hl2,acI⟩:=hst;refine .real (Q5 _ (acG hS hfn hb hname hb' hz hne hlen hst) ?_);rintro r pm h' ⟨rfl,rfl,rfl⟩;have s1:St B w [pt b (.cells cells)] [] w:=⟨s.agree,s.le,s.gp,⟨S,⟨S1,S2,⟨e2,hb'⟩,q2,e⟩,h2,h3⟩,λf hf=>by cases hf⟩
 refine⟨rfl,⟨w.h.set b (.cells cs2),w.z,λi hi=>w.nL i hi⟩,(),rfl,?_,rfl,trivial⟩;refine(s1.write (o':=.cells cs2)).EO (A:=pt b (.cells cs2)) λw' S' hp=>?_;refine .inr ⟨b,o,fl,cs2,by rw[Av],hf,hp.1,hp.2,by rw[hl2,hcl,Av];simp[aa],λk x hk=>⟨(),λj u hj=>?_,λf hf=>by cases hf⟩⟩;match j,hj with
 |0,hj=>
  cases hj;have:=acI k x hk;simpa[aa]using this
end Go.Ideal
namespace Go.Ideal
variable {P:Program}
def y8{α:Type}(P:Program)(vals:α->List Value)(fn:Fn)(first cap:List Value)(F:List aL)(X:List α->Prop):Prop:=
 ∀(S:Type) (inv:S->List OA) (ok:List α->S->Prop) (step:S->α->S×Bool) (s0:S) (qF:Fn) (y1 y2:List Value) (F':List aL),ok [] s0->
  (∀vs s x rest,ok vs s->X (vs++x::rest)->(step s x).2=true->ok (vs++[x]) (step s x).1)->
  (∀vs s x rest,ok vs s->X (vs++x::rest)->aV P qF (y1++vals x) y2 (inv s) F' (λ_:Unit=>.bool (step s x).2) (λ_=>inv (step s x).1) (λ_=>[]) (λ_=>True))->
  aV P fn (first++[.func qF ⟨y1⟩ ⟨y2⟩]) cap (inv s0) (F++F') (λ_:List α=>.tuple ⟨[]⟩) (λxs=>inv (gq step s0 xs)) (λ_=>[]) X
section
variable {B:List Nat} {w0:Wd} {kl kl' bA:List OA} {F:List aL} {K:KO} {n:Nat} {l:List (Nat×Value)} {D:List Deferred} {pm:Option FrameMode} {ro:Option Nat}
def CG{Z:Type}(B:List Nat)(w0:Wd)(n:Nat)(l3:Z->List (Nat×Value))(lo:Nat)(o:dH)(kl:Z->List OA)(F:List aL):KO:=λoo a h=>
 oo=.normal/\∃z,a=act n (l3 z) [] none (some lo)/\∃w:Wd,w.h=h/\St B w0 (pt lo o::kl z) F w
theorem Fb{Z:Type}{l3:Z->List (Nat×Value)}{lo:Nat}{o:dH}{k3:Z->List OA}(z:Z)(hl:l3 z=l)(hk:aJ (pt lo o::k3 z) kl bA:=by exact mh):R (λh=>CG B w0 n l3 lo o k3 F .normal (act n l [] none (some lo)) h) B w0 kl F:=λw s=>
 ⟨rfl,z,by rw[hl],w,rfl,(s.jH hk).drop⟩
theorem SY{Y Z:Type}{lo:Nat}{L:l7}{args:List Value}{k1:List OA}{out:Y->Out}{k1':Y->List OA}{fs:Y->List aL}{pr:Y->Prop}(l:List (Nat×Value))(l3:Z->List (Nat×Value))(k3:Z->List OA)(hl:L.tmps=gP l)(hst:L.state=.ready)(hps:L.params.all (λp=>Nat.blt p L.n)=true)(hlen:L.params.length=args.length)
 (ha:∀B w0,R (λh=>EV P L.assign (act L.n ((L.params.zip args).reverse++l) [] none (some lo)) h (CG B w0 L.n l3 lo (.loop L) k3 F)) B w0 (pt lo (.loop L)::k1) F)
 (hb:∀z B w0,R (λh=>EV P L.body (act L.n (l3 z) [] none (some lo)) h (vO B w0 lo L out k1' fs pr)) B w0 (pt lo (.loop (pY L))::k3 z) F):
 aV P (.yield lo) args [] (pt lo (.loop L)::k1) F (λy:Y=>.bool (jV (out y))) (λy=>pt lo (.loop (jU L (out y)))::k1' y) fs pr:=by
 intro B w s;obtain⟨l2,e1,e2⟩:=MG L.n L.params args l hps hlen;refine .round lo rfl rfl L s.get.1 hlen.symm _ (by
  rw[hl];show EV P L.assign (aX.mk L.n (sH L.n L.params args (gP l)) [] none (some lo)) w.h _;rw[e1,e2];exact ha B w w s) ?_ ?_
 ·rintro o a h ⟨rfl,z,rfl,w1,rfl,s1⟩;exact⟨rfl,L,s1.get.1,hst⟩
 ·rintro a h r1 ⟨_,z,rfl,w1,rfl,s1⟩ hr;have hr1:r1=L:=by
   have:=s1.get.1;rw[hr]at this;injection this with this;injection this
  subst hr1;have hb:=hb z B w _ (s1.write (o':=.loop (pY r1)));refine G8 hb _ ?_;rintro o a h ⟨hd,w2,y,rfl,rfl,hn,s2,hp⟩;refine⟨pY r1,s2.get.1,hd,?_⟩;have fin:∀o',jV o'=jV (out y)->jU r1 o'=jU r1 (out y)->Left B w (λy:Y=>.bool (jV (out y))) (λy=>pt lo (.loop (jU r1 (out y)))::k1' y) fs pr (.ok (.bool (jV (out y)))) none (w2.h.set lo (.loop (jU r1 (out y)))):=λo' _ _=>
   ⟨rfl,_,y,rfl,s2.write,rfl,hp⟩
  cases ho:out y with
  |normal=>have:=fin .normal (by rw[ho]) (by rw[ho]);rw[ho]at this;exact this
  |exit j=>have:=fin (.exit j) (by rw[ho]) (by rw[ho]);rw[ho]at this;exact this
  |ret=>have:=fin .ret (by rw[ho]) (by rw[ho]);rw[ho]at this;exact this
  |panic ch=>rw[ho]at hn;exact hn.elim
theorem acJ{S α Z:Type}{f:Operand}{ps:List Tmp}{assign body:dm}{fn:Fn}{first captured:List Value}{vals:α->List Value}{F1:List aL}{X:List α->Prop}(step:S->α->S×Out)(inv:S->List OA)(ok:List α->S->Prop)(s0:S)(h0:ok [] s0)
 (hok:∀vs s x rest,ok vs s->X (vs++x::rest)->(step s x).2=.normal->ok (vs++[x]) (step s x).1) (hit:y8 P vals fn first captured F1 X)
 (hf:ev l f=.func fn ⟨first⟩ ⟨captured⟩) (hps:ps.all (λp=>Nat.blt p n)=true) (hlen:∀x,ps.length=(vals x).length) (hk:aJ (inv s0) kl bA) (hF:Sub F1 F) (iY:∀s x,vN (step s x).2)
 (l3:α->Z->List (Nat×Value)) (k3:α->Z->List OA)
 (ha:∀(s:S) (x:α) (lo:Nat) (o:dH) B w0,R (λh=>EV P assign (act n ((ps.zip (vals x)).reverse++l) [] none (some lo)) h (CG B w0 n (l3 x) lo o (λz=>k3 x z++inv s) F)) B w0 (pt lo o::inv s) F)
 (hb:∀(vs:List α) (s:S) (x:α) (rest:List α) (z:Z) (lo:Nat) (L:l7) B w0,ok vs s->X (vs++x::rest)->R (λh=>EV P body (act n (l3 x z) [] none (some lo)) h (vO B w0 lo L (λ_:Unit=>(step s x).2) (λ_=>inv (step s x).1) (λ_=>[]) (λ_=>True))) B w0 (pt lo (.loop (pY L))::(k3 x z++inv s)) F)
 (next:∀r xs,X xs->R (λh=>K (iO step s0 xs).2 (act n l ({target:=.collected r,args:= #[]}::D) pm none) h) B w0 (inv (iO step s0 xs).1++(pt r (.ic true)::bA)) F):
 R (λh=>EV P (.rangeFunc f ps assign body) (act n l D pm none) h K) B w0 kl F:=by
 refine MH (Y:=List α) (k1:=inv s0) (F1:=F1++F) (EY:=λ_=>.tuple ⟨[]⟩) (out:=λxs=>(iO step s0 xs).2) (k1':=λxs=>inv (iO step s0 xs).1) (fs:=λ_=>[]) (pr:=X) hf ?_ hk (hF.app (Sub.refl' F [])) (λr y hy=>next r y hy);intro lo r;have:=hit (S×Out) (λso=>pt lo (.loop (jU ⟨.ready,none,gP l,n,ps,assign,body,r⟩ so.2))::inv so.1) (λvs so=>so.2=.normal/\ok vs so.1) (λso x=>(step so.1 x,jV (step so.1 x).2)) (s0,.normal) (.yield lo) [] [] F ⟨rfl,h0⟩
  (λvs so x rest ho hx h=>by
    have h:jV (step so.1 x).2=true:=h;have hn:(step so.1 x).2=.normal:=by
     cases e:(step so.1 x).2 with
     |normal=>rfl
     |_=>rw[e]at h;cases h
    exact⟨hn,hok vs so.1 x rest ho.2 hx hn⟩)
  (λvs so x rest ho hx=>by
    obtain⟨s,o⟩:=so;obtain⟨hn,ho⟩:=ho;have hn:o=.normal:=hn;subst hn;exact SY (Y:=Unit) (L:=⟨.ready,none,gP l,n,ps,assign,body,r⟩) (args:=vals x) (k1:=inv s) (out:=λ_=>(step s x).2) (k1':=λ_=>inv (step s x).1) (fs:=λ_=>[]) (pr:=λ_=>True) l (l3 x) (λz=>k3 x z++inv s) rfl rfl hps (hlen x)
     (λB w0=>ha s x lo _ B w0) (λz B w0=>hb vs s x rest z lo _ B w0 ho hx))
 have e:(λxs:List α=>pt lo (.loop (jU ⟨.ready,none,gP l,n,ps,assign,body,r⟩ (gq (λ(so:S×Out) x=>(step so.1 x,jV (step so.1 x).2)) (s0,.normal) xs).2))::inv (gq (λ(so:S×Out) x=>(step so.1 x,jV (step so.1 x).2)) (s0,.normal) xs).1)=λxs=>pt lo (.loop (jU ⟨.ready,none,gP l,n,ps,assign,body,r⟩ (iO step s0 xs).2))::inv (iO step s0 xs).1:=by
  funext xs
  rw[IK]
 have h2:aV P fn (first++[.func (.yield lo) ⟨[]⟩ ⟨[]⟩]) captured (pt lo (.loop ⟨.ready,none,gP l,n,ps,assign,body,r⟩)::inv s0) (F1++F) (λ_:List α=>.tuple ⟨[]⟩) (λxs=>pt lo (.loop (jU ⟨.ready,none,gP l,n,ps,assign,body,r⟩ (gq (λ(so:S×Out) x=>(step so.1 x,jV (step so.1 x).2)) (s0,.normal) xs).2))::inv (gq (λ(so:S×Out) x=>(step so.1 x,jV (step so.1 x).2)) (s0,.normal) xs).1) (λ_=>[]) X:=this;rw[e]at h2;exact h2
theorem IZ{S α Z:Type}{f:Operand}{ps:List Tmp}{assign body:dm}{fn:Fn}{first captured:List Value}{vals:α->List Value}{F1:List aL}{X:List α->Prop}(step:S->α->S×Out)(inv:S->List OA)(ok:List α->S->Prop)(s0:S)(l3:α->Z->List (Nat×Value))(k3:α->Z->List OA)(h0:ok [] s0)
 (hok:∀vs s x rest,ok vs s->X (vs++x::rest)->(step s x).2=.normal->ok (vs++[x]) (step s x).1) (hit:y8 P vals fn first captured F1 X)
 (ha:∀(s:S) (x:α) (lo:Nat) (o:dH) B w0,R (λh=>EV P assign (act n ((ps.zip (vals x)).reverse++l) [] none (some lo)) h (CG B w0 n (l3 x) lo o (λz=>k3 x z++inv s) F)) B w0 (pt lo o::inv s) F)
 (hb:∀(vs:List α) (s:S) (x:α) (rest:List α) (z:Z) (lo:Nat) (L:l7) B w0,ok vs s->X (vs++x::rest)->R (λh=>EV P body (act n (l3 x z) [] none (some lo)) h (vO B w0 lo L (λ_:Unit=>(step s x).2) (λ_=>inv (step s x).1) (λ_=>[]) (λ_=>True))) B w0 (pt lo (.loop (pY L))::(k3 x z++inv s)) F)
 (next:∀r xs,X xs->R (λh=>K (iO step s0 xs).2 (act n l ({target:=.collected r,args:= #[]}::D) pm none) h) B w0 (inv (iO step s0 xs).1++(pt r (.ic true)::bA)) F)
 (iY:∀s x,vN (step s x).2)
 (hf:ev l f=.func fn ⟨first⟩ ⟨captured⟩:=by rfl) (hps:ps.all (λp=>Nat.blt p n)=true:=by rfl) (hlen:∀x,ps.length=(vals x).length:=by intro _;rfl)
 (hk:aJ (inv s0) kl bA:=by exact mh) (hF:Sub F1 F:=by exact mg):
 R (λh=>EV P (.rangeFunc f ps assign body) (act n l D pm none) h K) B w0 kl F:=
 acJ step inv ok s0 h0 hok hit hf hps hlen hk hF iY l3 k3 ha hb next
end
end Go.Ideal
namespace Go.Ideal
variable {P:Program}
def gB{α:Type}(E:Enc α)(aO:List (α×E.Y)):List Value:=aO.flatMap λp=>E.pat p.1 p.2
theorem Fe{α:Type}{E:Enc α}:∀aO:List (α×E.Y),(gB E aO).length=aO.length*E.n
 |[]=>by simp[gB]
 |p::l=>by
  have ih:=Fe l;unfold gB at ih⊢;rw[Kq,gU,ih,E.len,oV,qo];omega
theorem Aw{α:Type}{E:Enc α}:∀{aO:List (α×E.Y)} {k:Nat} {p:α×E.Y} {j:Nat} {u:Value},aO[k]? =some p->(E.pat p.1 p.2)[j]? =some u->(gB E aO)[k*E.n+j]? =some u
 |[],k,p,j,u,h,_=>by cases h
 |q::l,0,p,j,u,h,hj=>by
  cases h;unfold gB;rw[Kq,Gi,fC,qY (bK.1 hj).1];exact hj
 |q::l,k+1,p,j,u,h,hj=>by
  have ih:=Aw (aO:=l) (k:=k) (by simpa using h) hj;unfold gB at ih⊢;rw[Kq,uZ (by rw[E.len,qo];omega),E.len,show(k+1)*E.n+j - E.n=k*E.n+j by rw[qo];omega];exact ih
theorem M5{α:Type}{E:Enc α}{j:Nat}{v:Value}:∀{aO:List (α×E.Y)} {k:Nat} {p p':α×E.Y},aO[k]? =some p->(E.pat p.1 p.2).set j v=E.pat p'.1 p'.2->j<E.n->(gB E aO).set (k*E.n+j) v=gB E (aO.set k p')
 |[],k,p,p',h,_,_=>by cases h
 |q::l,0,p,p',h,hp,hj=>by
  cases h;unfold gB;rw[Kq,Gi,fC,List.set_append_left _ _ (by rw[E.len];exact hj),hp];rfl
 |q::l,k+1,p,p',h,hp,hj=>by
  have ih:=M5 (aO:=l) (k:=k) (by simpa using h) hp hj;unfold gB at ih⊢;rw[Kq,List.set_append_right _ _ (by rw[E.len,qo];omega),E.len,show(k+1)*E.n+j - E.n=k*E.n+j by rw[qo];omega,ih];rfl
def tq{α:Type}(E:Enc α)(v:Value)(aO:List (α×E.Y)):aL:=
 ⟨λw=>(aO=[]/\∃a c,v=.slice a 0 c/\Mv E.n a)\/∃i o f c cells,(v=.slice (some ⟨i,o,some f⟩) aO.length c/\aO.length<=c/\(f=0\/f=E.n))/\Fz w i cells/\
  ∀(k:Nat) p,aO[k]? =some p->(∀(j:Nat) u,(E.pat p.1 p.2)[j]? =some u->cells[o+k*E.n+j]? =some u)/\∀f∈E.fs p.1 p.2,f.p w,
  λa h=>by
   rcases h with h|⟨i,o,f,c,cells,h1,h2,h3⟩
   ·exact .inl h
   ·refine .inr ⟨i,o,f,c,cells,h1,h2.mono a,λk x hk=>?_⟩;obtain⟨q1,q2⟩:=h3 k x hk;exact⟨q1,λf hf=>f.mono a (q2 f hf)⟩⟩
def xu{α:Type}(E:Enc α)(aO:List (α×E.Y)):aL:=⟨λw=>∀p∈aO,∀f∈E.fs p.1 p.2,f.p w,λa h p hp f hf=>f.mono a (h p hp f hf)⟩
theorem acK{α:Type}{E:Enc α}{v:Value}{aO:List (α×E.Y)}{w:Wd}(h:(tq E v aO).p w):(xu E aO).p w:=by
 intro p hp f hf;rcases h with⟨rfl,_⟩|⟨i,o,fl,c,cells,_,_,h3⟩
 ·cases hp
 ·obtain⟨k,hk⟩:=vz.1 hp;exact(h3 k p hk).2 f hf
theorem acL{α:Type}{E:Enc α}{v:Value}{aO:List (α×E.Y)}{w:Wd}(h:(tq E v aO).p w):(ah E v (aO.map (·.1))).p w:=by
 rcases h with⟨rfl,h⟩|⟨i,o,f,c,cells,h1,h2,h3⟩
 ·exact .inl ⟨rfl,h⟩
 ·refine .inr ⟨i,o,f,c,cells,by rw[dV];exact h1,h2,λk x hk=>?_⟩;rw[fw]at hk;cases hp:aO[k]? with
  |none=>rw[hp]at hk;cases hk
  |some p=>
   rw[hp]at hk;cases hk;exact⟨p.2,h3 k p hp⟩
theorem S9{α:Type}{E:Enc α}{v:Value}{xs:List α}{w:Wd}(h:(ah E v xs).p w):∃aO:List (α×E.Y),aO.map (·.1)=xs/\(tq E v aO).p w:=by
 rcases h with⟨rfl,h⟩|⟨i,o,f,c,cells,h1,h2,h3⟩
 ·exact⟨[],rfl,.inl ⟨rfl,h⟩⟩
 ·obtain⟨l,hl,hp⟩:=MF (p:=λk (p:α×E.Y)=>xs[k]? =some p.1/\(∀(j:Nat) u,(E.pat p.1 p.2)[j]? =some u->cells[o+k*E.n+j]? =some u)/\∀f∈E.fs p.1 p.2,f.p w) xs.length (λk hk=>by
   obtain⟨y,q1,q2⟩:=h3 k xs[k] (bN hk);exact⟨(xs[k],y),bN hk,q1,q2⟩)
  have hm:l.map (·.1)=xs:=by
   apply kP;intro k;rw[fw];by_cases hk:k<xs.length
   ·have hk':k<l.length:=by omega
    rw[bN hk',ko,(hp k l[k] (bN hk')).1]
   ·rw[iX (by omega),iX (by omega)];rfl
  exact⟨l,hm,.inr ⟨i,o,f,c,cells,by rw[hl];exact h1,h2,λk p hk=>(hp k p hk).2⟩⟩
def ar{α:Type}(E:Enc α)(v:Value)(aO:List (α×E.Y)):OA:=
 ⟨λw S=>(aO=[]/\(∃a,v=.slice a 0 0/\Mv E.n a)/\S=[])\/∃b f,v=.slice (some ⟨b,0,some f⟩) aO.length aO.length/\(f=0\/f=E.n)/\S=[b]/\w.h.get b=some (.cells (gB E aO)),
  λa h hp=>by
   rcases hp with hp|⟨b,f,h1,h2,h3,h4⟩
   ·exact .inl hp
   ·exact .inr ⟨b,f,h1,h2,h3,by rw[h b (by rw[h3];exact bM.2 rfl)];exact h4⟩⟩
theorem acM{α:Type}{E:Enc α}{v:Value}{aO:List (α×E.Y)}(w w':Wd)(S:List Nat)(hp:(ar E v aO).p w S)(hle:w.Le w')(hh:w'.h=w.h)(hz:∀i∈S,w'.z i)(ha:(xu E aO).p w):(tq E v aO).p w':=by
 rcases hp with⟨h1,⟨a,h2,h3⟩,_⟩|⟨b,f,h1,h2,h3,h4⟩
 ·exact .inl ⟨h1,a,0,h2,h3⟩
 ·refine .inr ⟨b,0,f,_,_,⟨h1,bU _,h2⟩,⟨hz b (by rw[h3];exact bM.2 rfl),.inl (by rw[hh];exact h4)⟩,λk p hk=>⟨λj u hj=>?_,λf hf=>f.mono hle (ha p (aP hk) f hf)⟩⟩;rw[fC];exact Aw hk hj
section
variable {B:List Nat} {w0:Wd} {kl kl' bA:List OA} {F:List aL} {K:KO} {ds:List Tmp} {rest:List bT} {n:Nat} {l:List (Nat×Value)} {D:List Deferred} {pm:Option FrameMode} {ro:Option Nat} {d:Nat} {g:Option (Tmp×Bool)}
variable {α:Type} {E:Enc α} {v:Value}
theorem M6{xs:List α}{Q:IH->Prop}(E:Enc α)(v:Value)(h:∀aO:List (α×E.Y),aO.map (·.1)=xs->R Q B w0 kl (tq E v aO::F))(hf:ah E v xs∈F:=by exact vL):R Q B w0 kl F:=λw s=>by
 obtain⟨aO,h1,h2⟩:=S9 (s.facts _ hf);exact h aO h1 w ⟨s.agree,s.le,s.gp,s.own,λf hf=>by
  rcases dG.1 hf with rfl|hf
  ·exact h2
  ·exact s.facts f hf⟩
theorem acN{aO:List (α×E.Y)}{Q:IH->Prop}(h:R Q B w0 kl (xu E aO::F))(hf:tq E v aO∈F:=by exact vL):R Q B w0 kl F:=λw s=>
 h w ⟨s.agree,s.le,s.gp,s.own,λf hf'=>by
  rcases dG.1 hf' with rfl|hf'
  ·exact acK (s.facts _ hf)
  ·exact s.facts f hf'⟩
theorem I1{aO:List (α×E.Y)}{Q:IH->Prop}(h:R Q B w0 kl' (tq E v aO::ah E v (aO.map (·.1))::F))(ha:∀w,(∀f∈F,f.p w)->(xu E aO).p w)(hk:aA (ar E v aO) kl kl':=by exact gz):R Q B w0 kl F:=λw s=>by
 have hall:=ha w s.facts
 -- freeze by hand
 obtain⟨S,⟨S1,S2,q1,q2,e⟩,h2,h3⟩:=(s.fZ hk).own;subst e;let w':Wd:=⟨w.h,λi=>w.z i\/i∈S1,λi hi=>hi.elim (w.nL i) λhi=>(h3 i (kZ _ hi)).2.1⟩
 have hle:w.Le w':=⟨bU _,λi hi=>.inl hi,λ_ _=>rfl⟩
 have hnd:=iq.1 h2;have hel:=acM w w' S1 q1 hle rfl (λi hi=>.inr hi) hall;refine h w' ⟨s.agree,s.le.trans hle,λi hi hz=>?_,⟨S2,eU.loc hle (λ_ _=>rfl) q2,hnd.2.1,λi hi=>?_⟩,λf hf=>?_⟩
 ·rcases hz with hz|hz
  ·exact s.gp i hi hz
  ·rcases(h3 i (kZ _ hz)).1 with q|q
   ·omega
   ·exact .inr q
 ·have:=h3 i (qp _ hi);refine⟨this.1,this.2.1,λhz=>hz.elim this.2.2 λhm=>?_⟩;exact hnd.2.2 i hm i hi rfl
 ·rcases dG.1 hf with rfl|hf
  ·exact hel
  ·rcases dG.1 hf with rfl|hf
   ·exact acL hel
   ·exact f.mono hle (s.facts f hf)
theorem Ta{aO:List (α×E.Y)}{Q:IH->Prop}(hlen:0<aO.length)(h:∀b f,(f=0\/f=E.n)->v=.slice (some ⟨b,0,some f⟩) aO.length aO.length->R Q B w0 (pt b (.cells (gB E aO))::kl') F)(hk:aA (ar E v aO) kl kl':=by exact gz):R Q B w0 kl F:=λw s=>by
 have s1:=s.fZ hk;obtain⟨S,⟨S1,S2,q1,q2,e⟩,h2,h3⟩:=s1.own;rcases q1 with⟨h0,_⟩|⟨b,f,h4,h5,h6,h7⟩
 ·rw[h0]at hlen;simp at hlen
 ·exact h b f h5 h4 w ⟨s1.agree,s1.le,s1.gp,⟨S,⟨S1,S2,⟨h6,h7⟩,q2,e⟩,h2,h3⟩,s1.facts⟩
theorem uN{α:Type}(E:Enc α){aO:List (α×E.Y)}{Q:IH->Prop}{b f m:Nat}(hm:m=aO.length)(hf:f=0\/f=E.n)(h:R Q B w0 (ar E (.slice (some ⟨b,0,some f⟩) m m) aO::kl') F)(hk:aA (pt b (.cells (gB E aO))) kl kl':=by exact gz):R Q B w0 kl F:=λw s=>by
 refine h w ((s.fZ hk).EO (A:=pt b (.cells (gB E aO))) λw S hp=>.inr ⟨b,f,by rw[hm],hf,hp.1,hp.2⟩)
theorem Tc{aO:List (α×E.Y)}{Q:IH->Prop}(h:∀a,v=.slice a aO.length aO.length->R Q B w0 kl F)(hk:aA (ar E v aO) kl kl':=by exact gz):R Q B w0 kl F:=λw s=>by
 obtain⟨S,⟨S1,S2,q1,q2,e⟩,h2,h3⟩:=(s.fZ hk).own;rcases q1 with⟨rfl,⟨a,h1,_⟩,_⟩|⟨b,f,h4,_⟩
 ·exact h a h1 w s
 ·exact h _ h4 w s
theorem I4{x:Operand}{t e:TypeId}{m c:Nat}(hu:P.underlying t=some (.slice e))(hx:ev l x=.slice none m c):Pu P (ev l) (.bin .eql t x (.const (.slice none 0 0))) (.bool true):=λh=>by
 have he:eF P (Op.equal t (.slice none m c) (.slice none 0 0))=some true:=by
  show eF P (Op.equalIn (9999+1) t (.slice none m c) (.slice none 0 0))=_;unfold Op.equalIn;rw[iy,rM hu];rfl
 have h1:kQ P (do eqGuard .eql t x (.const (.slice none 0 0)) (.slice none m c) (.slice none 0 0);binOp .eql t (.slice none m c) (.slice none 0 0))=some (.bool true):=by
  unfold kQ;rw[iy,Cq (by intro c e;cases e) (by intro e;cases e)];simp only[jd,binOp];rw[iy,he];rfl
 have h2:l8 P .eql t x (.const (.slice none 0 0)) (.slice none m c) (.slice none 0 0)=some (.bool true):=by
  by_cases hmc:m=0/\c=0
  ·show cond (cz (Value.slice none m c)&&cz (Value.slice none 0 0)) (kQ P (do eqGuard .eql t x (.const (.slice none 0 0)) (.slice none m c) (.slice none 0 0);binOp .eql t (.slice none m c) (.slice none 0 0))) _=_;rw[h1];obtain⟨rfl,rfl⟩:=hmc;simp[cz]
  ·have e0:cz (Value.slice none m c)=false:=by
    cases hb:cz (Value.slice none m c)with
    |false=>rfl
    |true=>exact absurd (by simpa[cz]using hb) hmc
   have e1:sF P t (.slice none m c) (.slice none 0 0)=some true:=by
    unfold sF;rw[hu]
   show cond (cz (Value.slice none m c)&&cz (Value.slice none 0 0)) _ (match sF P t (.slice none m c) (.slice none 0 0)with|some b=>some (Value.bool b)|none=>none)=_;rw[e0,e1];rfl
 simp only[aG.run,hx];show(match l8 P .eql t x (.const (.slice none 0 0)) (.slice none m c) (.slice none 0 0)with|some v=>some (v,h)|none=>none)=_;rw[h2]
theorem CJ{x:Operand}{t e:TypeId}{a:Addr}{m c:Nat}(hu:P.underlying t=some (.slice e))(hx:ev l x=.slice (some a) m c):Pu P (ev l) (.bin .eql t x (.const (.slice none 0 0))) (.bool false):=λh=>by
 have h2:l8 P .eql t x (.const (.slice none 0 0)) (.slice (some a) m c) (.slice none 0 0)=some (.bool false):=by
  have:sF P t (.slice (some a) m c) (.slice none 0 0)=some false:=by
   unfold sF;rw[hu]
  show(match sF P t (.slice (some a) m c) (.slice none 0 0)with|some b=>some (Value.bool b)|none=>none)=_;rw[this]
 simp only[aG.run,hx];show(match l8 P .eql t x (.const (.slice none 0 0)) (.slice (some a) m c) (.slice none 0 0)with|some v=>some (v,h)|none=>none)=_;rw[h2]
theorem M7{e:TypeId}{size bytes b c:Nat}{a:Option Addr}{s x:Operand}
 (next:R (λh=>aK P ds rest (act n ((d,.slice (some ⟨b,0,some 0⟩) 0 0)::l) D pm ro) h K) B w0 (pt b (.cells [])::kl') F)
 (hs:ev l s=.slice (some ⟨b,0,some 0⟩) 0 0:=by rfl) (hx:ev l x=.slice a 0 c:=by rfl) (hk:aA (pt b (.cells [])) kl kl':=by exact gz) (hn:Nat.blt d n=true:=by rfl) (hg:bW l g=true:=by rfl):
 R (λh=>aK P ds (⟨⟨some d,g,.append e size bytes s x⟩,[]⟩::rest) (act n l D pm ro) h K) B w0 kl F:=λw st=>by
 have st1:=st.fZ hk;refine lT hn hg (v:=.slice (some ⟨b,0,some 0⟩) 0 0) (h':=w.h.set b (.cells [])) ?_ (next ⟨w.h.set b (.cells []),w.z,λi hi=>w.nL i hi⟩ st1.write);have h0:∀m,Nat.mul 0 m=0:=λm=>Gi m;have e1:w.h.storeAt b 0 []=some (w.h.set b (.cells [])):=by
  unfold IH.storeAt;simp only[st1.get.1];rfl
 simp only[aG.run,hx,hs,oZ,yC,wG];show cond (Nat.ble (Nat.mul (Nat.add 0 0) bytes) small&&Nat.ble (Nat.mul (Nat.add 0 0) size) small&&Nat.ble (Nat.add 0 0) small) (cond (Nat.ble (Nat.add 0 0) 0) (match w.h.storeAt b (Nat.add 0 (Nat.mul 0 size)) []with|some h=>some (Value.slice (some ⟨b,0,some 0⟩) (Nat.add 0 0) 0,h)|none=>none) _) none=_;rw[show Nat.add 0 0=0 from rfl,h0,h0,show Nat.add 0 0=0 from rfl,e1];have:(Nat.ble 0 small&&Nat.ble 0 small&&Nat.ble 0 small)=true:=rfl;rw[this];rfl
theorem M8{α:Type}{e:TypeId}{size bytes b:Nat}{s x:Operand}(E:Enc α)(aO:List (α×E.Y))(hne:0<aO.length)(hm:aO.length*bytes<=1073741824/\aO.length*size<=1073741824/\aO.length<=1073741824)
 (next:∀b',R (λh=>aK P ds rest (act n ((d,.slice (some ⟨b',0,some size⟩) aO.length aO.length)::l) D pm ro) h K) B w0 (pt b' (.cells (gB E aO))::kl') F)
 (hs:ev l s=.slice (some ⟨b,0,some 0⟩) 0 0:=by rfl) (hx:ev l x=v:=by conv=>lhs;whnf) (hf:tq E v aO∈F:=by exact vL) (hz:E.n=size:=by rfl) (hk:aA (pt b (.cells [])) kl kl':=by exact gz) (hn:Nat.blt d n=true:=by rfl) (hg:bW l g=true:=by rfl):
 R (λh=>aK P ds (⟨⟨some d,g,.append e size bytes s x⟩,[]⟩::rest) (act n l D pm ro) h K) B w0 kl F:=λw st=>by
 subst hz;have st1:=st.fZ hk;have hat:At w.h b (.cells []):=st.at_ hk;obtain⟨k,hk'⟩:∃k,aO.length=k+1:=⟨aO.length - 1,by omega⟩
 rcases st.facts _ hf with⟨rfl,_⟩|⟨i,o,f,c,cells,⟨e1,hc⟩,q2,q3⟩
 ·simp at hne
 have hfl:=Fe aO;have hcells:∀j,j<aO.length*E.n->cells[o+j]? =(gB E aO)[j]?:=λj hj=>by
  have hn0:0<E.n:=by
   rcases Kg E.n with h0|h0
   ·rw[h0]at hj;omega
   ·exact h0
  have hd:j/E.n<aO.length:=by rw[Nat.div_lt_iff_lt_mul hn0];exact hj
  have hmod:=Nat.mod_lt j hn0;have hpk:=bN hd;have hu:(E.pat (aO[j/E.n]).1 (aO[j/E.n]).2)[j%E.n]? =some ((E.pat (aO[j/E.n]).1 (aO[j/E.n]).2)[j%E.n]'(by rw[E.len];exact hmod)):=bN _;have h1:=(q3 (j/E.n) _ hpk).1 (j%E.n) _ hu;have h2:=Aw hpk hu;have EM:j/E.n*E.n+j%E.n=j:=by rw[Nat.mul_comm];exact Nat.div_add_mod j E.n
  rw[qm,EM]at h1;rw[EM]at h2;rw[h1,h2]
 have hlen:o+aO.length*E.n<=cells.length\/aO.length*E.n=0:=by
  rcases Kg (aO.length*E.n)with h0|h0
  ·exact .inr h0
  ·left;have h1:=hcells (aO.length*E.n - 1) (by omega);have hx0:(gB E aO)[aO.length*E.n - 1]? =some ((gB E aO)[aO.length*E.n - 1]'(by omega)):=bN _;rw[hx0]at h1;have:=(bK.1 h1).1;omega
 have hpos:0<E.n\/E.n=0:=by omega
 have hread:w.h.je i o (aO.length*E.n)=some (gB E aO):=by
  rw[q2.cells.je,rD,sJ,if_pos (by rw[ww];omega)];congr 1;apply kP;intro j;rw[vw];by_cases hj:j<aO.length*E.n
  ·rw[if_pos hj,qX];exact hcells j hj
  ·rw[if_neg hj,iX (by omega)]
 refine RA (b:=b) (o:=0) (m:=0) (k:=k) (f:=some 0) (old:=[]) (xs:=gB E aO) hn hg hs (by rw[hx,e1,hk'];rfl) ?_ ?_ (.inl rfl) ?_ λh' mv=>?_
 ·rw[hx,e1,<- hk'];exact hread
 ·rw[hat.c.je,Gi];rfl
 ·rw[fC,<- hk'];omega
 obtain⟨w',rfl,lU,Iu⟩:=st1.move mv;rw[bY]at lU;have:=next w.h.next w' lU
 rw[hk']at this;rw[fC];exact this
end
end Go.Ideal
namespace Go.Ideal
variable {P:Program}
inductive CK(P:Program)(ty:TypeId):Value->Value->Bool->Prop
 |int {a b:Int} (h:P.underlying ty=some (.int .i64)):CK P ty (.int .i64 a) (.int .i64 b) (decide (a=b))
 |str {a b:ByteArray} (h:P.underlying ty=some .string):CK P ty (.string a) (.string b) (decide (a=b))
theorem I5:eF P program=some P:=rfl
theorem M9{α:Type}{c:Prop}[Decidable c]{a b:Sem α}:eF P (if c then a else b)=if c then eF P a else eF P b:=by split<;>rfl
theorem Td{ty:TypeId}{a b:Value}{r:Bool}(c:CK P ty a b r)(d:Nat):eF P (Op.equalIn (d+1) ty a b)=some r:=by
 cases c with
 |int h=>
  unfold Op.equalIn;rw[iy,rM h];simp only[jd,if_true];rfl
 |str h=>
  unfold Op.equalIn;rw[iy,rM h];show some (_==_)=_;rw[bytes_beq]
theorem I6{ty:TypeId}{a b v:Value}{r:Bool}(c:CK P ty a b r){xs:Array Value}{o:Nat}(hx:xs[o]? =some v):eF P (part ty xs o)=some v:=by
 have hu:∃d,P.underlying ty=some d/\(∀fs,d≠.struct fs)/\∀n e,d≠.array n e:=by
  cases c with
  |int h=>exact⟨_,h,(by intro _ e;cases e),(by intro _ _ e;cases e)⟩
  |str h=>exact⟨_,h,(by intro _ e;cases e),(by intro _ _ e;cases e)⟩
 obtain⟨d,h1,h2,h3⟩:=hu;have hag:eF P (isAgg ty)=some false:=by
  unfold isAgg;rw[iy,rM h1];cases d with
  |struct fs=>exact absurd rfl (h2 fs)
  |array n e=>exact absurd rfl (h3 n e)
  |_=>rfl
 unfold part;rw[iy,hag];show eF P (match xs[o]? with|some v=>pure v|none=>stuck "part: no such cell")=_;rw[hx];rfl
inductive CL(P:Program)(xs ys:List Value):List Field->Bool->Prop
 |nil:CL P xs ys [] true
 |cons {f:Field} {fs:List Field} {a b:Value} {r r':Bool} (hn:(f.name== "_")=false) (hx:xs[f.offset]? =some a) (hy:ys[f.offset]? =some b) (c:CK P f.type a b r) (t:CL P xs ys fs r'):CL P xs ys (f::fs) (r&&r')
theorem acO{d:Nat}{t:TypeId}{fs:Array Field}{xs ys:List Value}{r:Bool}(hu:P.underlying t=some (.struct fs))(hp:P.stoodInHeld t=false)(h:CL P xs ys fs.toList r):eF P (Op.equalIn (d+2) t (.agg ⟨xs⟩) (.agg ⟨ys⟩))=some r:=by
 unfold Op.equalIn;rw[iy,rM hu];simp only[jd];rw[iy,I5];simp only[jd,hp,u7,if_false];rw[<- Array.forIn_toList];generalize fs.toList=l at h;clear hu;induction h with
 |nil=>rfl
 | @cons f fs a b r r' hn hx hy c t ih=>
   have hn:f.name≠ "_" :=by simpa using hn
   rw[List.forIn_cons];simp only[iy,M9,if_pos hn,hn,ne_eq,not_false_eq_true,if_true]at ih⊢;rw[I6 (xs:=⟨xs⟩) c (by simpa using hx),jd,I6 (xs:=⟨ys⟩) c (by simpa using hy),jd,Td c,jd];cases r with
   |false=>rfl
   |true=>exact ih
section
variable {l:List (Nat×Value)}
theorem acP{op:BinOp}{t:TypeId}{x y:Operand}{a b:Array Value}(hm:P.eqGuardType P.depth t=false):eF P (eqGuard op t x y (.agg a) (.agg b))=some ():=by
 have key:eF P (do if !(<- program).eqGuardType (<- program).depth t then return
                   if <- Op.eqGuardIn Op.maxDepth t (.agg a) (.agg b)then unsupported (.noEntry "binop/eql: two nil values of an interface type with methods, in a part of a struct or an array"))=some ():=by
  rw[iy,I5];simp only[jd];rw[iy,I5];simp only[jd,hm,Bool.not_false,if_true];rfl
 cases op<;>first|exact key|rfl
theorem Te{op:BinOp}{t:TypeId}{x y:Operand}{a b:List Value}{v:Value}(ha:fU a=true)(hb:fU b=true)(hm:P.eqGuardType P.depth t=false)(hv:eF P (binOp op t (.agg ⟨a⟩) (.agg ⟨b⟩))=some v)(hf:cz v=true):l8 P op t x y (.agg ⟨a⟩) (.agg ⟨b⟩)=some v:=by
 have h1:kQ P (do eqGuard op t x y (.agg ⟨a⟩) (.agg ⟨b⟩);binOp op t (.agg ⟨a⟩) (.agg ⟨b⟩))=some v:=by
  unfold kQ;rw[iy,acP hm];simp only[jd,hv,hf,cond]
 show cond (cz (.agg ⟨a⟩)&&cz (.agg ⟨b⟩)) (kQ P (do eqGuard op t x y (.agg ⟨a⟩) (.agg ⟨b⟩);binOp op t (.agg ⟨a⟩) (.agg ⟨b⟩))) _=_;rw[h1];simp[cz,ha,hb]
theorem CO{x y:Operand}{t:TypeId}{fs:Array Field}{xs ys:List Value}{r:Bool}(hx:ev l x=.agg ⟨xs⟩)(hy:ev l y=.agg ⟨ys⟩)(hu:P.underlying t=some (.struct fs))(hp:P.stoodInHeld t=false)(hm:P.eqGuardType P.depth t=false)(h:CL P xs ys fs.toList r)(ha:fU xs=true)(hb:fU ys=true):
 Pu P (ev l) (.bin .neq t x y) (.bool (!r)):=λh0=>by
 simp only[aG.run,hx,hy];rw[Te ha hb hm (v:=.bool (!r)) (by
  show eF P (do pure (Value.bool (!(<- Op.equal t (.agg ⟨xs⟩) (.agg ⟨ys⟩)))))=_;rw[iy,show eF P (Op.equal t (.agg ⟨xs⟩) (.agg ⟨ys⟩))=some r from acO (d:=9998) hu hp h];rfl) rfl]
theorem Tf{d n:Nat}{t e:TypeId}{xs ys:List Int}(hu:P.underlying t=some (.array n e))(he:P.underlying e=some (.int .i64))(hs:P.info? e|>.map (·.size)|>(·=some 1))(hx:xs.length=n)(hy:ys.length=n):
 eF P (Op.equalIn (d+2) t (.agg ⟨xs.map (.int .i64)⟩) (.agg ⟨ys.map (.int .i64)⟩))=some (decide (xs=ys)):=by
 have hsz:eF P (sizeOf e)=some 1:=by
  unfold sizeOf typeInfo;cases hi:P.info? e with
  |none=>rw[hi]at hs;cases hs
  |some i=>
   rw[hi]at hs;have hs:i.size=1:=by simpa using hs
   simp only[iy,I5,jd,hi];rw[<- hs];rfl
 unfold Op.equalIn;rw[iy,rM hu];simp only[jd];rw[iy,hsz];simp only[jd,wy];rw[Std.Legacy.Range.forIn_eq_forIn_range'];simp only[Std.Legacy.Range.size,Dy,Kt,Nat.div_one];have key:∀(m i:Nat),i+m=n->eF P (do
  let Tg <- forIn (List.range' i m 1) ((none,()):Option Bool×Unit) λi Tg=>
   (do let a <- part e ⟨xs.map (.int .i64)⟩ i
       let b <- part e ⟨ys.map (.int .i64)⟩ i
       let r <- Op.equalIn (d+1) e a b
       if(!r)=true then pure (ForInStep.done (some false,()))else pure (ForInStep.yield (none,())))
  match Tg.fst with
  |some r=>pure r
  |none=>pure true)=some (decide (xs.drop i=ys.drop i)):=by
  intro m;induction m with
  |zero=>
   intro i hi;rw[DF (by omega),DF (by omega)];rfl
  |succ m ih=>
   intro i hi;have hix:i<xs.length:=by omega
   have Ti:i<ys.length:=by omega
   have c:CK P e (.int .i64 xs[i]) (.int .i64 ys[i]) (decide (xs[i]=ys[i])):=.int he;rw[List.range'_succ,List.forIn_cons];simp only[iy,M9];rw[I6 (xs:=⟨xs.map (.int .i64)⟩) (o:=i) (v:=.int .i64 xs[i]) c (by simp[hix]),jd,I6 (xs:=⟨ys.map (.int .i64)⟩) (o:=i) (v:=.int .i64 ys[i]) c (by simp[Ti]),jd,Td c,jd];rw[nR hix,nR Ti];have ih:=ih (i+1) (by omega);simp only[iy,M9]at ih;by_cases hxy:xs[i]=ys[i]
   ·rw[dQ hxy];simp only[Bool.not_true,u7,if_false];show(eF P _).bind _=_;rw[show decide (xs[i]::xs.drop (i+1)=ys[i]::ys.drop (i+1))=decide (xs.drop (i+1)=ys.drop (i+1))from l6.2 (by rw[Bw];exact⟨λh=>h.2,λh=>⟨hxy,h⟩⟩)];exact ih
   ·rw[aS hxy];simp only[Bool.not_false,if_true];rw[show decide (xs[i]::xs.drop (i+1)=ys[i]::ys.drop (i+1))=false from aS (λh=>hxy (List.cons.inj h).1)];rfl
 have:=key n 0 (by omega);rw[DC,DC]at this;refine Eq.trans ?_ this;simp only[iy];congr 1;funext s
 cases s.fst<;>rfl
theorem acQ{x y:Operand}{n:Nat}{t e:TypeId}{xs ys:List Int}(hx:ev l x=.agg ⟨xs.map (.int .i64)⟩)(hy:ev l y=.agg ⟨ys.map (.int .i64)⟩)(hu:P.underlying t=some (.array n e))(he:P.underlying e=some (.int .i64))(hs:P.info? e|>.map (·.size)|>(·=some 1))(hxl:xs.length=n)(hyl:ys.length=n)(hm:P.eqGuardType P.depth t=false):
 Pu P (ev l) (.bin .eql t x y) (.bool (decide (xs=ys))):=λh0=>by
 have hfr:∀zs:List Int,fU (zs.map (Value.int .i64))=true:=by
  intro zs;induction zs with
  |nil=>rfl
  |cons z zs ih=>rw[ik];simp[fU,cz,Ideal.cellV,ih]
 simp only[aG.run,hx,hy];rw[Te (hfr xs) (hfr ys) hm (v:=.bool (decide (xs=ys))) (by
  show eF P (do pure (Value.bool (<- Op.equal t (.agg ⟨xs.map (.int .i64)⟩) (.agg ⟨ys.map (.int .i64)⟩))))=_;rw[iy,show eF P (Op.equal t (.agg ⟨xs.map (.int .i64)⟩) (.agg ⟨ys.map (.int .i64)⟩))=some (decide (xs=ys))from Tf (d:=9998) hu he hs hxl hyl];rfl) rfl]
def Ff(P:Program):List Field->Nat->List Bool->Bool
 |[],_,[]=>true
 |f::fs,i,k::ks=>!(f.name== "_")&&f.offset==i&&(match P.underlying f.type with
  |some (.int .i64)=>k
  |some .string=>!k
  |_=>false)&&Ff P fs (i+1) ks
 |_,_,_=>false
def cellsE:List Value->List Value->Bool
 | .int .i64 a::xs,.int .i64 b::ys=>decide (a=b)&&cellsE xs ys
 | .string a::xs,.string b::ys=>decide (a=b)&&cellsE xs ys
 |_,_=>true
def I7:List Bool->List Value->Bool
 |[],[]=>true
 |true::ks,.int .i64 _::vs=>I7 ks vs
 |false::ks,.string _::vs=>I7 ks vs
 |_,_=>false
theorem row_of{xs ys:List Value}:∀{fs:List Field} {i:Nat} {ks:List Bool} {xs' ys':List Value},Ff P fs i ks=true->I7 ks xs'=true->I7 ks ys'=true->(∀j,xs[i+j]? =xs'[j]?)->(∀j,ys[i+j]? =ys'[j]?)->CL P xs ys fs (cellsE xs' ys')
 |[],i,[],[],[],_,_,_,_,_=>.nil
 |f::fs,i,k::ks,[],ys',h,hx,hy,ex,ey=>by cases k<;>cases hx
 |f::fs,i,k::ks,x::xs',[],h,hx,hy,ex,ey=>by cases k<;>cases hy
 |f::fs,i,k::ks,x::xs',y::ys',h,hx,hy,ex,ey=>by
  simp only[Ff,iC]at h;obtain⟨⟨⟨h1,h2⟩,h3⟩,h4⟩:=h;have h2:f.offset=i:=by simpa using h2
  have e1:xs[f.offset]? =some x:=by have:=ex 0;rw[Bv]at this;rw[h2,this];rfl
  have e2:ys[f.offset]? =some y:=by have:=ey 0;rw[Bv]at this;rw[h2,this];rfl
  have Tj:∀j,xs[i+1+j]? =xs'[j]?:=λj=>by have:=ex (j+1);rw[show i+1+j=i+(j+1)by omega,this];rfl
  have Tk:∀j,ys[i+1+j]? =ys'[j]?:=λj=>by have:=ey (j+1);rw[show i+1+j=i+(j+1)by omega,this];rfl
  cases k with
  |true=>
   match x,hx,y,hy with
   | .int .i64 a,hx,.int .i64 b,hy=>
     have hu:P.underlying f.type=some (.int .i64):=by
      cases hq:P.underlying f.type with
      |none=>rw[hq]at h3;cases h3
      |some q=>
       rw[hq]at h3;cases q with
       |int kk=>cases kk<;>first|rfl|cases h3
       |string=>cases h3
       |_=>cases h3
     exact .cons (by simpa using h1) e1 e2 (.int hu) (row_of h4 hx hy Tj Tk)
  |false=>
   match x,hx,y,hy with
   | .string a,hx,.string b,hy=>
     have hu:P.underlying f.type=some .string:=by
      cases hq:P.underlying f.type with
      |none=>rw[hq]at h3;cases h3
      |some q=>
       rw[hq]at h3;cases q with
       |int kk=>cases kk<;>cases h3
       |string=>rfl
       |_=>cases h3
     exact .cons (by simpa using h1) e1 e2 (.str hu) (row_of h4 hx hy Tj Tk)
end

/-
  The ideal machine, 66: functions that may panic; deferred functions that recover.
-/
import Derived.Test.YtoohgkkmdnbnfaaGreatDoorIdealME
import Derived.Sort.Row
import Derived.Sort.Grow
import Derived.Laws.StructEq
set_option linter.all false
namespace Go.Ideal
variable {P:Program}
def xX{Y:Type}(B:List Nat)(w0:Wd)(ret:Y->gB)(kl':Y->List OA)(fs:Y->List aB)(pr:Y->Prop):KR:=λr pm h'=>
 pm=none/\∃(w':Wd) (y:Y),w'.h=h'/\St B w0 (kl' y) (fs y) w'/\r=ret y/\pr y
def nS{Y:Type}(P:Program)(fn:Fn)(args cap:List Value)(kl:List OA)(F:List aB)(ret:Y->gB)(kl':Y->List OA)(fs:Y->List aB)(pr:Y->Prop):Prop:=
 ∀(B:List Nat) (w:Wd),St B w kl F w->CALL P ⟨fn,args,cap,none⟩ w.h (xX B w ret kl' fs pr)
theorem nS.toC{Y:Type}{fn:Fn}{args cap:List Value}{kl:List OA}{F:List aB}{ret:Y->gB}{kl':Y->List OA}{fs:Y->List aB}{pr:Y->Prop}(val:Y->Value)(h:nS P fn args cap kl F ret kl' fs pr)
 (hv:∀y,pr y->ret y=.ok (val y)):aV P fn args cap kl F val kl' fs pr:=λB w s=>by
 refine .oK _ (h B w s) ?_;rintro r pm h' ⟨e,w',y,e1,st,er,hp⟩;exact⟨e,w',y,e1,st,er.trans (hv y hp),hp⟩
def Jr{Y:Type}(B:List Nat)(w0:Wd)(ret:Y->gB)(md:Y->FrameMode)(kl':Y->List OA)(fs:Y->List aB)(pr:Y->Prop):KR:=λr pm h'=>
 ∃(w':Wd) (y:Y),pm=some (md y)/\w'.h=h'/\St B w0 (kl' y) (fs y) w'/\r=ret y/\pr y
def EU{Y:Type}(P:Program)(fn:Fn)(args cap:List Value)(m:FrameMode)(kl:List OA)(F:List aB)(ret:Y->gB)(md:Y->FrameMode)(kl':Y->List OA)(fs:Y->List aB)(pr:Y->Prop):Prop:=
 ∀(B:List Nat) (w:Wd),St B w kl F w->CALL P ⟨fn,args,cap,some m⟩ w.h (Jr B w ret md kl' fs pr)
theorem PU{K:KR}{f:FuncId}{args cap:List Value}{pm:Option FrameMode}{c:bK}{m:Nat}{l0:List (Nat×Value)}(cf:fI)(hF:(lK P nM nN).F f=some cf)(h1:cf.body=c)(h2:oD cf.ntmps (gq (args++cap))=m)(h3:mZ 0 (args++cap) []=l0){h:IH}
 (hb:EV P c (act m l0 [] pm none) h (nR P cf K)):CALL P ⟨.func f,args,cap,pm⟩ h K:=by
 obtain⟨fn,e1,e2⟩:=(vG P nM nN (λf q h v h' hm=>by cases hm)).fn f cf hF;refine Om cf fn e1 e2 ?_;rw[Ji,h1,h2,h3];exact hb
theorem vW{Y:Type}{f:FuncId}{args cap:List Value}{kl:List OA}{F:List aB}{ret:Y->gB}{kl':Y->List OA}{fs:Y->List aB}{pr:Y->Prop}{c:bK}{m:Nat}{l0:List (Nat×Value)}(cf:fI)(hF:(lK P nM nN).F f=some cf)
 (hb:∀B w0,R (λh=>EV P c (act m l0 [] none none) h (nR P cf (xX B w0 ret kl' fs pr))) B w0 kl F)
 (h1:cf.body=c:=by conv=>lhs;(reduce;(try simp only[Int.reduceOfNat,Int.reduceNegSucc]))) (h2:oD cf.ntmps (gq (args++cap))=m:=by conv=>lhs;whnf) (h3:mZ 0 (args++cap) []=l0:=by dsimp only[mZ,Nat.reduceAdd,List.append_nil,List.cons_append,List.nil_append]):nS P (.func f) args cap kl F ret kl' fs pr:=
 λB w s=>PU cf hF h1 h2 h3 (hb B w w s)
theorem PV{Y:Type}{f:FuncId}{args cap:List Value}{pm:FrameMode}{kl:List OA}{F:List aB}{ret:Y->gB}{md:Y->FrameMode}{kl':Y->List OA}{fs:Y->List aB}{pr:Y->Prop}{c:bK}{m:Nat}{l0:List (Nat×Value)}(cf:fI)(hF:(lK P nM nN).F f=some cf)
 (hb:∀B w0,R (λh=>EV P c (act m l0 [] (some pm) none) h (nR P cf (Jr B w0 ret md kl' fs pr))) B w0 kl F)
 (h1:cf.body=c:=by conv=>lhs;(reduce;(try simp only[Int.reduceOfNat,Int.reduceNegSucc]))) (h2:oD cf.ntmps (gq (args++cap))=m:=by conv=>lhs;whnf) (h3:mZ 0 (args++cap) []=l0:=by dsimp only[mZ,Nat.reduceAdd,List.append_nil,List.cons_append,List.nil_append]):EU P (.func f) args cap pm kl F ret md kl' fs pr:=
 λB w s=>PU cf hF h1 h2 h3 (hb B w w s)
section
variable {B:List Nat} {w0:Wd} {kl kl' aR:List OA} {F:List aB} {K:KO} {ds:List Tmp} {rest:List bz} {n:Nat} {l:List (Nat×Value)} {D:List Deferred} {pm:Option FrameMode} {ro:Option Nat} {d:Nat} {g:Option (Tmp×Bool)}
theorem St.Js{w:Wd}{k1 aR:List OA}{F1:List aB}(s:St B w0 kl F w)(hk:aM k1 kl aR)(hF:Sub F1 F):
 ∃S1,St S1 w k1 F1 w/\∀(w':Wd) (k1':List OA) (F':List aB),St S1 w k1' F' w'->St B w0 (k1'++aR) (F'++F) w':=by
 obtain⟨S,h1,h2,h3⟩:=s.own;obtain⟨S1,S2,q1,q2,hp⟩:=h1.iC hk;have hsub:∀i∈S1,i∈S:=λi hi=>hp.mem_iff.2 (jO _ hi);exact⟨S1,⟨⟨bn _,λ_ _ _=>rfl,λ_ _=>rfl⟩,Wd.Le.refl w,λi _ hz=>.inl hz,⟨S1,q1,(gM.1 (hp.nodup h2)).1,λi hi=>⟨.inr hi,(h3 i (hsub i hi)).2⟩⟩,λf hf=>s.facts f (hF.mem f hf)⟩,
  λw' k1' F' c=>s.call (k1:=k1) (F1:=F1) ⟨S,hp,h2,h3⟩ q2 c⟩
theorem YM{Y:Type}{f:Operand}{xs:List Operand}{re:List fT}{fn:Fn}{first captured vs as:List Value}{k1:List OA}{F1:List aB}{ret:Y->gB}{k1':Y->List OA}{fs:Y->List aB}{pr:Y->Prop}
 (hc:nS P fn as captured k1 F1 ret k1' fs pr) (hn:Nat.blt d n=true) (hg:bE l g=true) (hf:ev l f=.func fn ⟨first⟩ ⟨captured⟩) (hx:EvL (ev l) xs vs) (ha:first++vs=as)
 (hk:aM k1 kl aR) (hF:Sub F1 F)
 (hs:∀y v,pr y->ret y=.ok v->Same P re (ev ((d,v)::l)) ((d,v)::l) B w0 (k1' y++aR) (fs y++F))
 (next:∀y v,pr y->ret y=.ok v->R (λh=>aD P ds rest (act n ((d,v)::l) D pm ro) h K) B w0 (k1' y++aR) (fs y++F))
 (CK:∀y ch,pr y->ret y=.dW ch->R (λh=>K (.panic ch) (act n (xJ ds n l) D pm ro) h) B w0 (k1' y++aR) (fs y++F)):
 R (λh=>aD P ds (⟨⟨some d,g,.call f xs⟩,re⟩::rest) (act n l D pm ro) h K) B w0 kl F:=by
 intro w s;obtain⟨S1,s1,back⟩:=s.Js hk hF;have hcall:=hc S1 w s1;subst ha;rw[<- hx.map]at hcall;refine s_call hn hg fn hf _ hcall ?_ ?_ ?_ ?_
 ·rintro v h' ⟨_,w',y,rfl,c,hv,hpr⟩;exact hs y v hpr hv.symm w' (back w' _ _ c)
 ·rintro v h' ⟨_,w',y,rfl,c,hv,hpr⟩;exact next y v hpr hv.symm w' (back w' _ _ c)
 ·rintro ch h' ⟨_,w',y,rfl,c,hv,hpr⟩;rw[EG];exact CK y ch hpr hv.symm w' (back w' _ _ c)
 ·rintro r p h' ⟨e,_⟩;exact e
theorem qX{Y:Type}{f:Operand}{xs:List Operand}{re:List fT}{fn:Fn}{first captured vs as:List Value}{k1:List OA}{F1:List aB}{ret:Y->gB}{k1':Y->List OA}{fs:Y->List aB}{pr:Y->Prop}{bX:Y->List OA}{F2:Y->List aB}
 (hc:nS P fn as captured k1 F1 ret k1' fs pr)
 (next:∀y v,pr y->ret y=.ok v->R (λh=>aD P ds rest (act n ((d,v)::l) D pm ro) h K) B w0 (bX y) (F2 y))
 (CK:∀y ch,pr y->ret y=.dW ch->R (λh=>K (.panic ch) (act n (xJ ds n l) D pm ro) h) B w0 (bX y) (F2 y))
 (hn:Nat.blt d n=true:=by rfl) (hg:bE l g=true:=by rfl) (hf:ev l f=.func fn ⟨first⟩ ⟨captured⟩:=by rfl) (hx:EvL (ev l) xs vs:=by repeat (first|with_reducible exact EvL.nil|((with_reducible apply EvL.cons);(conv=>lhs;whnf)))) (ha:first++vs=as:=by rfl)
 (hk:aM k1 kl aR:=by exact kG) (hF:Sub F1 F:=by exact jV) (hk2:∀y,aT (k1' y) aR (bX y):=by intro y;repeat (first|exact aT.nil|apply aT.cons|exact aT.self|exact aT.app)) (hF2:∀y,aT (fs y) F (F2 y):=by intro y;repeat (first|exact aT.nil|apply aT.cons|exact aT.self|exact aT.app))
 (hs:∀y v,pr y->ret y=.ok v->Same P re (ev ((d,v)::l)) ((d,v)::l) B w0 (bX y) (F2 y):=by intro _ _ _ _;repeat (first|exact vO|refine vP rfl (by repeat (first|with_reducible exact aj.here|with_reducible apply aj.there|with_reducible apply aj.app)) (by first|exact rfl|(conv=>lhs;whnf)) rfl ?_|refine xN rfl (by(repeat (first|with_reducible exact bF .. |with_reducible apply bB));first|done|fail) (by first|exact rfl|(conv=>lhs;whnf)) rfl ?_|refine xO rfl (by(repeat (first|with_reducible exact bF .. |with_reducible apply bB));first|done|fail) (by first|exact rfl|(conv=>lhs;whnf)) rfl ?_|refine xP rfl (by repeat (first|with_reducible exact aj.here|with_reducible apply aj.there|with_reducible apply aj.app)) (by first|exact rfl|(conv=>lhs;whnf)) rfl ?_|refine xQ rfl (by(repeat (first|with_reducible exact bF .. |with_reducible apply bB));first|done|fail) (by first|exact rfl|(conv=>lhs;whnf)) rfl ?_|refine xR rfl (by(repeat (first|with_reducible exact bF .. |with_reducible apply bB));first|done|fail) (by first|exact rfl|(conv=>lhs;whnf)) rfl ?_)):
 R (λh=>aD P ds (⟨⟨some d,g,.call f xs⟩,re⟩::rest) (act n l D pm ro) h K) B w0 kl F:=
 YM hc hn hg hf hx ha hk hF (λy v a b=>by rw[(hk2 y).eq,(hF2 y).eq];exact hs y v a b) (λy v a b=>by rw[(hk2 y).eq,(hF2 y).eq];exact next y v a b) (λy v a b=>by rw[(hk2 y).eq,(hF2 y).eq];exact CK y v a b)
theorem Ap{x:Operand}{t:TypeId}{v:Value}{dst:Option Tmp}{re:List fT}
 (next:R (λh=>K (.panic [{v:=.iface t v,recovered:=false}]) (act n (xJ ds n l) D pm ro) h) B w0 kl F)
 (hx:ev l x=.iface t v:=by rfl) (hg:bE l g=true:=by rfl):R (λh=>aD P ds (⟨⟨dst,g,.panic x⟩,re⟩::rest) (act n l D pm ro) h K) B w0 kl F:=λw s=>XV hg hx (next w s)
theorem YN{f:Operand}{args:List Operand}{fn:Fn}{first captured vs:List Value}
 (next:R (λh=>aD P ds rest (act n l ({target:=.fn fn ⟨captured⟩,args:=⟨first++vs⟩}::D) pm none) h K) B w0 kl F)
 (hf:ev l f=.func fn ⟨first⟩ ⟨captured⟩:=by rfl) (hx:EvL (ev l) args vs:=by repeat (first|with_reducible exact EvL.nil|((with_reducible apply EvL.cons);(conv=>lhs;whnf)))) (hg:bE l g=true:=by rfl):
 R (λh=>aD P ds (⟨⟨none,g,.dcall f args⟩,[]⟩::rest) (act n l D pm none) h K) B w0 kl F:=λw s=>by
 refine XW hg rfl hf ?_;rw[hx.map];exact next w s
theorem PW{m:FrameMode}{v:Value}{m':FrameMode}(he:iL m=(v,m'))
 (next:R (λh=>aD P ds rest (act n ((d,v)::l) D (some m') none) h K) B w0 kl F) (hn:Nat.blt d n=true:=by rfl) (hg:bE l g=true:=by rfl):
 R (λh=>aD P ds (⟨⟨some d,g,.recover⟩,[]⟩::rest) (act n l D (some m) none) h K) B w0 kl F:=λw s=>by
 refine XX hn hg rfl ?_;rw[he];exact next w s
def RL(P:Program)(cf:fI)(l:List (Nat×Value))(D:List Deferred)(m:FrameMode)(Kr:gB->IH->Prop)(B:List Nat)(w0:Wd)(kl:List OA)(F:List aB):Prop:=∀w,St B w0 kl F w->LEAVE P cf (fM l) D m w.h Kr
theorem CL{cf:fI}{Kr:KR}{o:Out}{m:FrameMode}(h:RL P cf l D m (λr h=>Kr r pm h) B w0 kl F)(hm:qE o=some m:=by rfl):R (λh=>nR P cf Kr o (act n l D pm ro) h) B w0 kl F:=λw s=>by
 show(match qE o with
  |none=>False
  |some m=>LEAVE P cf (fM l) D m w.h λr h''=>Kr r pm h'')
 rw[hm];exact h w s
variable {cf:fI} {Kr:gB->IH->Prop}
theorem YO{vs:List Value}(hk:∀w,St B w0 kl F w->Kr (.ok (oM vs)) w.h)(hr:RS l kl cf.results vs:=by exact xS):RL P cf l [] .returning Kr B w0 kl F:=λw s=>by
 refine .ret (oM vs) ?_ (hk w s);unfold nL;rw[hr.all s];match vs with
 |[]=>rfl
 |[v]=>rfl
 |_::_::_=>rfl
theorem PX{Y:Type}{fn:Fn}{captured args:List Value}{m:FrameMode}{k1:List OA}{F1:List aB}{ret:Y->gB}{md:Y->FrameMode}{k1':Y->List OA}{fs:Y->List aB}{pr:Y->Prop}{bX:Y->List OA}{F2:Y->List aB}
 (hc:EU P fn args captured m k1 F1 ret md k1' fs pr)
 (next:∀y v,pr y->ret y=.ok v->RL P cf l D (uY (md y)) Kr B w0 (bX y) (F2 y))
 (CK:∀y ch,pr y->ret y=.dW ch->RL P cf l D (y5 (md y) ch) Kr B w0 (bX y) (F2 y))
 (hk:aM k1 kl aR:=by exact kG) (hF:Sub F1 F:=by exact jV) (hk2:∀y,aT (k1' y) aR (bX y):=by intro y;repeat (first|exact aT.nil|apply aT.cons|exact aT.self|exact aT.app)) (hF2:∀y,aT (fs y) F (F2 y):=by intro y;repeat (first|exact aT.nil|apply aT.cons|exact aT.self|exact aT.app)) (hm:m≠.run:=by intro e;cases e):
 RL P cf l ({target:=.fn fn ⟨captured⟩,args:=⟨args⟩}::D) m Kr B w0 kl F:=λw s=>by
 obtain⟨S1,s1,back⟩:=s.Js hk hF;refine .call hm _ (hc S1 w s1) ?_ ?_ ?_
 ·rintro r p h' ⟨w',y,e,_⟩ hp;rw[e]at hp;cases hp
 ·rintro v m' h' ⟨w',y,e,rfl,c,hv,hpr⟩;injection e with e;subst e;have:=next y v hpr hv.symm w' (by rw[<- (hk2 y).eq,<- (hF2 y).eq];exact back w' _ _ c)
  exact this
 ·rintro ch m' h' ⟨w',y,e,rfl,c,hv,hpr⟩;injection e with e;subst e;exact CK y ch hpr hv.symm w' (by rw[<- (hk2 y).eq,<- (hF2 y).eq];exact back w' _ _ c)
theorem xY{Y:Type}{o:Out}{vs:List Value}{ret:Y->gB}{k1:Y->List OA}{fs:Y->List aB}{pr:Y->Prop}{bX:List OA}(y:Y)(hv:ret y=.ok (oM vs))(hp:pr y)(hD:iw kl D bX:=by repeat (first|exact iw.nil|(apply iw.cons;(focus (repeat (first|with_reducible exact aj.here|with_reducible apply aj.there|with_reducible apply aj.app))))))
 (hr:RS l bX cf.results vs:=by exact xS) (hk:aM (k1 y) bX aR:=by exact kG) (hF:Sub (fs y) F:=by exact jV) (ho:o=.normal\/o=.ret:=by first|exact .inl rfl|exact .inr rfl):
 R (λh=>nR P cf (xX B w0 ret k1 fs pr) o (act n l D none ro) h) B w0 kl F:=by
 refine CL (m:=.returning) ?_ (by rcases ho with rfl|rfl<;>rfl);intro w s;refine iw.leave hD (λw' s'=>⟨oM vs,?_,rfl,w',y,rfl,((s'.iC hk).drop).sub hF,hv.symm,hp⟩) w s;unfold nL;rw[hr.all s'];match vs with
 |[]=>rfl
 |[v]=>rfl
 |_::_::_=>rfl
theorem iw.PY{ts:T Value}{ch:List PanicEntry}:∀{D:List Deferred} {kl bX:List OA},iw kl D bX->(∀w',St B w0 bX F w'->Kr (.dW ch) w'.h)->∀w,St B w0 kl F w->LEAVE P cf ts D (.panicking ch) w.h Kr
 |_,_,_,.nil,hk,w,s=>.dW ch (hk w s)
 |_,_,_,.cons (r:=r) h t,hk,w,s=>by
  have s1:=s.fC h;refine .coll (by intro e;cases e) r s1.get.1 ?_;exact iw.PY t hk _ (s1.write (o':=.fU false)).tail
theorem xZ{Y:Type}{ch:List PanicEntry}{ret:Y->gB}{k1:Y->List OA}{fs:Y->List aB}{pr:Y->Prop}{bX:List OA}(y:Y)(hv:ret y=.dW ch)(hp:pr y)(hD:iw kl D bX:=by repeat (first|exact iw.nil|(apply iw.cons;(focus (repeat (first|with_reducible exact aj.here|with_reducible apply aj.there|with_reducible apply aj.app))))))
 (hk:aM (k1 y) bX aR:=by exact kG) (hF:Sub (fs y) F:=by exact jV):
 R (λh=>nR P cf (xX B w0 ret k1 fs pr) (.panic ch) (act n l D none ro) h) B w0 kl F:=by
 refine CL (m:=.panicking ch) ?_;intro w s;exact iw.PY hD (λw' s'=>⟨rfl,w',y,rfl,((s'.iC hk).drop).sub hF,hv.symm,hp⟩) w s
theorem PZ{Y:Type}{o:Out}{vs:List Value}{ret:Y->gB}{m:FrameMode}{md:Y->FrameMode}{k1:Y->List OA}{fs:Y->List aB}{pr:Y->Prop}{bX:List OA}(y:Y)(hv:ret y=.ok (oM vs))(hm:md y=m)(hp:pr y)(hD:iw kl D bX:=by repeat (first|exact iw.nil|(apply iw.cons;(focus (repeat (first|with_reducible exact aj.here|with_reducible apply aj.there|with_reducible apply aj.app))))))
 (hr:RS l bX cf.results vs:=by exact xS) (hk:aM (k1 y) bX aR:=by exact kG) (hF:Sub (fs y) F:=by exact jV) (ho:o=.normal\/o=.ret:=by first|exact .inl rfl|exact .inr rfl):
 R (λh=>nR P cf (Jr B w0 ret md k1 fs pr) o (act n l D (some m) ro) h) B w0 kl F:=by
 refine CL (m:=.returning) ?_ (by rcases ho with rfl|rfl<;>rfl);intro w s;refine iw.leave hD (λw' s'=>⟨oM vs,?_,w',y,by rw[hm],rfl,((s'.iC hk).drop).sub hF,hv.symm,hp⟩) w s;unfold nL;rw[hr.all s'];match vs with
 |[]=>rfl
 |[v]=>rfl
 |_::_::_=>rfl
theorem P5{Y:Type}{ret:Y->gB}{k1:Y->List OA}{fs:Y->List aB}{pr:Y->Prop}{vs:List Value}(y:Y)(hv:ret y=.ok (oM vs))(hp:pr y)(hr:RS l kl cf.results vs:=by exact xS)(hk:aM (k1 y) kl aR:=by exact kG)(hF:Sub (fs y) F:=by exact jV):
 RL P cf l [] .returning (λr h=>xX B w0 ret k1 fs pr r none h) B w0 kl F:=
 YO (λw s=>⟨rfl,w,y,rfl,((s.iC hk).drop).sub hF,hv.symm,hp⟩) hr
end
end Go.Ideal
namespace Go.Ideal
variable {P:Program}
theorem P6{α β:Type}(f:α->β)(hf:∀a b,f a=f b->a=b){l1 l2:List α}(h:(l1.map f).Perm (l2.map f)):l1.Perm l2:=by
 classical
 rw[List.perm_iff_count];intro a;have:=h.count_eq (f a);have key:∀l:List α,(l.map f).count (f a)=l.count a:=by
  intro l;induction l with
  |nil=>rfl
  |cons x l ih=>
   rw[fG,List.count_cons,List.count_cons,ih];by_cases e:x=a
   ·subst e;simp
   ·have:¬f x=f a:=λh=>e (hf _ _ h);simp[e,this]
 rw[key,key]at this;exact this
theorem P7{α β:Type}{f:α->β}:∀{l:List α},(l.map f).Nodup->∀{a b:α},a∈l->b∈l->f a=f b->a=b
 |[],_,a,b,ha,_,_=>by cases ha
 |x::l,h,a,b,ha,hb,e=>by
  rw[fG,uO]at h;obtain⟨hx,hl⟩:=h;rcases cK.1 ha with h1|ha<;>rcases cK.1 hb with h2|hb
  ·rw[h1,h2]
  ·rw[<- h1,e]at hx;exact absurd (Gx hb) hx
  ·rw[<- h2,<- e]at hx;exact absurd (Gx ha) hx
  ·exact P7 hl ha hb e
def mG{α:Type}[DecidableEq α](a:α):List (α×Value)->Nat->Option (Nat×Value)
 |[],_=>none
 |(b,v)::l,i=>if a=b then some (i,v)else mG a l (i+1)
def bW{α β:Type}[DecidableEq α](a:α):List (α×β)->Option β
 |[]=>none
 |(b,v)::l=>if a=b then some v else bW a l
def upd{α β:Type}[DecidableEq α](a:α)(v:β):List (α×β)->List (α×β)
 |[]=>[(a,v)]
 |(b,u)::l=>if a=b then(a,v)::l else(b,u)::upd a v l
def mH{α:Type}(aP:α->Value)(ah:List (α×Value))(es:List MapEntry):Prop:=es.map (λe=>(e.key,e.val))=ah.map λp=>(aP p.1,p.2)
structure oO(P:Program)(kt:TypeId){α:Type}[DecidableEq α](aP:α->Value):Prop where
 CO:∀a,ow P kt (aP a)=true
 find:∀a ah es,mH aP ah es->pG P kt (aP a) es=some (mG a ah 0)
 same:∀a,Instr.sameBits 10000 (aP a) (aP a)=true
theorem P8{kt:TypeId}{v:Value}(ha:bD v=true)(h:∀b,dx P (Instr.checkKey b 10000 kt v)=some ()):ow P kt v=true:=by
 unfold ow;rw[ha,h true,h false];rfl
theorem Jt{α:Type}{aP:α->Value}{p:α×Value}{ah:List (α×Value)}{es:List MapEntry}(h:mH aP (p::ah) es):∃e es',es=e::es'/\e.key=aP p.1/\e.val=p.2/\mH aP ah es':=by
 cases es with
 |nil=>cases h
 |cons e es=>
  unfold mH at h;rw[fG,fG]at h;injection h with h1 h2;injection h1 with h1 h3;exact⟨e,es,rfl,h1,h3,h2⟩
theorem P9{α:Type}[DecidableEq α]{aP:α->Value}{d:TypeDesc}(hs:∀a b,Instr.sameNow d (aP a) (aP b)=some (decide (a=b)))(a:α):∀(ah:List (α×Value)) (es:List MapEntry) (i:Nat),mH aP ah es->Instr.findNow d (aP a) es i=some (mG a ah i)
 |[],es,i,h=>by
  cases es with
  |nil=>rfl
  |cons e es=>cases h
 |p::ah,es,i,h=>by
  obtain⟨e,es',rfl,h1,h2,h3⟩:=Jt h;have ih:=P9 hs a ah es' (i+1) h3;show(match Instr.sameNow d (aP a) e.key with
   |some true=>some (some (i,e.val))
   |some false=>Instr.findNow d (aP a) es' (i+1)
   |none=>none)=_
  rw[h1,hs a p.1];unfold mG;by_cases hab:a=p.1
  ·rw[dU hab,if_pos hab,h2]
  ·rw[cO hab,if_neg hab];exact ih
theorem Qa{α:Type}[DecidableEq α]{aP:α->Value}{kt:TypeId}{d:TypeDesc}(hu:P.underlying kt=some d)(hs:∀a b,Instr.sameNow d (aP a) (aP b)=some (decide (a=b)))(a:α)(ah:List (α×Value))(es:List MapEntry)(h:mH aP ah es):pG P kt (aP a) es=some (mG a ah 0):=by
 unfold pG Instr.findKey;rw[fQ,oL hu];simp only[gL,P9 hs a ah es 0 h];rfl
theorem YP{kt:TypeId}(hu:P.underlying kt=some (.int .i64)):oO P kt (λn:Int=>.int .i64 n) where
 CO a:=P8 rfl λb=>by
  show dx P (Instr.checkKey b (9999+1) kt _)=_;unfold Instr.checkKey;rw[fQ,oL hu];rfl
 find a ah es h:=Qa hu (λa b=>by
  show(if IntKind.i64=IntKind.i64 then some (a==b)else none)=_;rw[if_pos rfl];congr 1) a ah es h
 same a:=by
  show(IntKind.i64==IntKind.i64&&a==a)=true;simp
theorem bytes_beq(a b:ByteArray):(a==b)=decide (a=b):=by
 have:(a==b)=(a.data==b.data):=rfl;rw[this];by_cases h:a=b
 ·subst h;simp
 ·rw[cO h];cases hb:a.data==b.data with
  |false=>rfl
  |true=>exact absurd (ByteArray.ext (eq_of_beq hb)) h
theorem YQ{kt:TypeId}(hu:P.underlying kt=some .string):oO P kt (λs:ByteArray=>.string s) where
 CO a:=P8 rfl λb=>by
  show dx P (Instr.checkKey b (9999+1) kt _)=_;unfold Instr.checkKey;rw[fQ,oL hu];rfl
 find a ah es h:=Qa hu (λa b=>by
  show some (a==b)=_;rw[bytes_beq]) a ah es h
 same a:=by
  show(a==a)=true;rw[bytes_beq];simp
theorem Qb{α:Type}[DecidableEq α](a:α):∀(ah:List (α×Value)) (i:Nat),(mG a ah i).map (·.2)=bW a ah
 |[],_=>rfl
 |(b,v)::l,i=>by
  unfold mG bW;by_cases h:a=b
  ·rw[if_pos h,if_pos h];rfl
  ·rw[if_neg h,if_neg h];exact Qb a l (i+1)
theorem Qc{α:Type}[DecidableEq α]{aP:α->Value}{kt:TypeId}(hk:oO P kt aP){h:IH}{m zero:Value}{ok:Bool}{a:α}{ah:List (α×Value)}{es:List MapEntry}(he:entriesOf m h=some es)(ho:mH aP ah es):
 wY P kt zero m (aP a) ok h=some (match bW a ah with
  |some v=>cond ok (.tuple #[v,.bool true]) v
  |none=>cond ok (.tuple #[zero,.bool false]) zero):=by
 unfold wY;simp only[he,hk.CO,cond_true,hk.find a ah es ho];have:=Qb a ah 0;cases hf:mG a ah 0 with
 |none=>rw[hf]at this;rw[<- this];rfl
 |some p=>rw[hf]at this;rw[<- this];rfl
theorem Qd{α:Type}[DecidableEq α](a:α):∀(ah:List (α×Value)) (i j:Nat) (v:Value),mG a ah i=some (j,v)->∃k,j=i+k/\ah[k]? =some (a,v)/\∀u,upd a u ah=ah.set k (a,u)
 |[],i,j,v,h=>by cases h
 |(b,w)::l,i,j,v,h=>by
  unfold mG at h;split at h
  ·rename_i hab;subst hab;cases h;exact⟨0,rfl,rfl,λu=>by simp[upd]⟩
  ·rename_i hab;obtain⟨k,h1,h2,h3⟩:=Qd a l (i+1) j v h;exact⟨k+1,by omega,by simpa using h2,λu=>by simp[upd,if_neg hab,h3]⟩
theorem Qe{α:Type}[DecidableEq α](a:α):∀(ah:List (α×Value)) (i:Nat),mG a ah i=none->(∀p∈ah,a≠p.1)/\∀u,upd a u ah=ah++[(a,u)]
 |[],i,h=>⟨λp hp=>(by cases hp),λu=>rfl⟩
 |(b,w)::l,i,h=>by
  unfold mG at h;split at h
  ·cases h
  ·rename_i hab;obtain⟨h1,h2⟩:=Qe a l (i+1) h;refine⟨λp hp=>?_,λu=>by simp[upd,if_neg hab,h2]⟩;rcases cK.1 hp with rfl|hp
   ·exact hab
   ·exact h1 p hp
structure vX{α:Type}(aP:α->Value)(ah:List (α×Value))(es:List MapEntry)(clock:Nat):Prop where
 qb:mH aP ah es
 lt:∀e∈es,e.born<clock
 nd:(es.map (·.born)).Nodup
 keys:(ah.map (·.1)).Nodup
theorem YR{α:Type}[DecidableEq α]{aP:α->Value}{kt:TypeId}(hk:oO P kt aP){h:IH}{b:Nat}{a:α}{v:Value}{ah:List (α×Value)}{es:List MapEntry}{clock:Nat}(hg:h.get b=some (.map es clock))(ho:vX aP ah es clock):
 ∃es' clock',Bz P kt (.map (some b)) (aP a) v h=some (h.set b (.map es' clock'))/\vX aP (upd a v ah) es' clock':=by
 unfold Bz;simp only[hg,hk.CO,cond_true,hk.find a ah es ho.qb];cases hf:mG a ah 0 with
 |none=>
  obtain⟨h1,h2⟩:=Qe a ah 0 hf;refine⟨_,_,rfl,?_⟩;rw[h2,ig];refine⟨?_,λe he=>?_,?_,?_⟩
  ·unfold mH;rw[dM,dM,ho.qb];rfl
  ·rcases eZ.1 he with he|he
   ·exact Gu (ho.lt e he)
   ·rw[bC.1 he];exact sP _
  ·rw[dM,gM];refine⟨ho.nd,by simp,λx hx y hy e=>?_⟩;obtain⟨e0,he0,rfl⟩:=ed.1 hx;have:y=clock:=by simpa using hy
   have:=ho.lt e0 he0;omega
  ·rw[dM,gM];refine⟨ho.keys,by simp,λx hx y hy e=>?_⟩;obtain⟨p,hp,rfl⟩:=ed.1 hx;have:y=a:=by simpa using hy
   exact h1 p hp (by rw[e,this])
 |some p=>
  obtain⟨j,u⟩:=p;obtain⟨k,rfl,h2,h3⟩:=Qd a ah 0 j u hf;rw[eG];have hlen:es.length=ah.length:=by
   have:=congrArg List.length ho.qb;simpa using this
  have hk':=(bA.1 h2).1;have Ju:es[k]? =some es[k]:=dz (by omega);have hkey:es[k].key=aP a:=by
   have:=congrArg (λl=>l[k]?) ho.qb;simp only[eX,Ju,h2,jr]at this;injection this with this;injection this
  simp only[pO,Ju,hkey,hk.same,cond_true];refine⟨_,_,rfl,?_⟩;rw[h3,ME];refine⟨?_,λe he=>?_,?_,?_⟩
  ·unfold mH;apply jD;intro i;have:=congrArg (λl=>l[i]?) ho.qb;simp only[eX]at this;simp only[eX,List.getElem?_modify,rJ];by_cases hi:k=i
   ·subst hi;simp[Ju,hk']
   ·rw[if_neg hi];cases he:es[i]? with
    |none=>rw[he]at this;simp only[Option.map_none]at this⊢;simp[hi,<- this]
    |some e=>rw[he]at this;simp only[jr]at this⊢;simp[hi,<- this]
  ·obtain⟨i,he⟩:=wR.1 he;rw[List.getElem?_modify]at he;cases Jv:es[i]? with
   |none=>rw[Jv]at he;simp at he
   |some e0=>
    rw[Jv]at he;have hlt:=ho.lt e0 (bG Jv);injection he with he;rw[<- he];split<;>exact hlt
  ·have:(es.modify k λe=>{e with key:=aP a,val:=v}).map (·.born)=es.map (·.born):=by
    apply jD;intro i;simp only[eX,List.getElem?_modify];cases es[i]? with
    |none=>rfl
    |some e=>simp only[jr];split<;>rfl
   rw[this];exact ho.nd
  ·have:(ah.set k (a,v)).map (·.1)=ah.map (·.1):=by
    apply jD;intro i;simp only[eX,rJ];by_cases hi:k=i
    ·subst hi;rw[if_pos rfl,if_pos hk',h2];rfl
    ·rw[if_neg hi]
   rw[this];exact ho.keys
def fu{α:Type}(aP:α->Value)(b:Nat)(ah:List (α×Value)):OA:=⟨λw S=>S=[b]/\∃es clock,w.h.get b=some (.map es clock)/\vX aP ah es clock,λa h ⟨h1,es,clock,h2,h3⟩=>⟨h1,es,clock,by rw[h b (by rw[h1];exact bC.2 rfl)];exact h2,h3⟩⟩
def qd{α:Type}(aP:α->Value)(b:Nat)(ah:List (α×Value)):aB:=⟨λw=>w.z b/\∃es clock,w.h.get b=some (.map es clock)/\vX aP ah es clock,λa ⟨h1,es,clock,h2,h3⟩=>⟨a.z b h1,es,clock,by rw[a.get b h1];exact h2,h3⟩⟩
theorem Aq{α:Type}{aP:α->Value}{b:Nat}{ah:List (α×Value)}:p9 (fu aP b ah) [qd aP b ah]:=by
 intro w w' S ⟨h1,es,clock,h2,h3⟩ hle hh hz f hf;rw[bC.1 hf];exact⟨hz b (by rw[h1];exact bC.2 rfl),es,clock,by rw[hh];exact h2,h3⟩
section
variable {B:List Nat} {w0:Wd} {kl kl' aR:List OA} {F:List aB} {K:KO} {ds:List Tmp} {rest:List bz} {n:Nat} {l:List (Nat×Value)} {D:List Deferred} {pm:Option FrameMode} {ro:Option Nat} {d:Nat} {g:Option (Tmp×Bool)}
variable {α:Type} [DecidableEq α] {aP:α->Value}
theorem St.Qf{b:Nat}{ah:List (α×Value)}{w:Wd}(h:St B w0 (fu aP b ah::kl) F w):∃es clock,vX aP ah es clock/\St B w0 (pt b (.map es clock)::kl) F w:=by
 obtain⟨S,⟨S1,S2,⟨q1,es,clock,q3,q4⟩,q2,e⟩,h2,h3⟩:=h.own;exact⟨es,clock,q4,h.agree,h.le,h.dR,⟨S,⟨S1,S2,⟨q1,q3⟩,q2,e⟩,h2,h3⟩,h.facts⟩
theorem vY(aP:α->Value)
 (next:∀b,R (λh=>aD P ds rest (act n ((d,.map (some b))::l) D pm ro) h K) B w0 (fu aP b []::kl) F) (hn:Nat.blt d n=true:=by rfl) (hg:bE l g=true:=by rfl):
 R (λh=>aD P ds (⟨⟨some d,g,.rQ⟩,[]⟩::rest) (act n l D pm ro) h K) B w0 kl F:=λw s=>
 jU hn hg (h':=w.h.new (.map [] 0)) (by simp only[aA.run,aA.alloc,oC]) (next w.h.next (w.new _) ((s.new _).zA (A:=pt w.h.next (.map [] 0)) (A':=fu aP w.h.next []) λw S hp=>⟨hp.1,[],0,hp.2,⟨rfl,λe he=>(by cases he),uS,uS⟩⟩))
def jA{α:Type}[DecidableEq α](ok:Bool)(zero:Value)(a:α)(ah:List (α×Value)):Value:=match bW a ah with
 |some v=>cond ok (.tuple #[v,.bool true]) v
 |none=>cond ok (.tuple #[zero,.bool false]) zero
theorem Qg{kt:TypeId}{zero:Value}{m k:Operand}{ok:Bool}{b:Nat}{ah:List (α×Value)}(hk:oO P kt aP)(a:α)
 (next:R (λh=>aD P ds rest (act n ((d,jA ok zero a ah)::l) D pm ro) h K) B w0 kl F)
 (hm:ev l m=.map (some b):=by rfl) (ha:ev l k=aP a:=by conv=>lhs;whnf) (hf:qd aP b ah∈F:=by exact um) (hn:Nat.blt d n=true:=by rfl) (hg:bE l g=true:=by rfl):
 R (λh=>aD P ds (⟨⟨some d,g,.lookup kt zero m k ok⟩,[]⟩::rest) (act n l D pm ro) h K) B w0 kl F:=λw s=>by
 obtain⟨_,es,clock,h1,h2⟩:=s.facts _ hf;refine jU hn hg (v:=jA ok zero a ah) ?_ (next w s);have:wY P kt zero (.map (some b)) (aP a) ok w.h=_:=Qc hk (by simp only[entriesOf,h1]) h2.qb;simp only[aA.run,hm,ha,this];rfl
theorem CP{kt:TypeId}{zero:Value}{m k:Operand}{ok:Bool}{b:Nat}{ah:List (α×Value)}(hk:oO P kt aP)(a:α)
 (next:R (λh=>aD P ds rest (act n ((d,jA ok zero a ah)::l) D pm ro) h K) B w0 kl F)
 (hm:ev l m=.map (some b):=by rfl) (ha:ev l k=aP a:=by conv=>lhs;whnf) (hs:aj (fu aP b ah) kl kl':=by exact fE) (hn:Nat.blt d n=true:=by rfl) (hg:bE l g=true:=by rfl):
 R (λh=>aD P ds (⟨⟨some d,g,.lookup kt zero m k ok⟩,[]⟩::rest) (act n l D pm ro) h K) B w0 kl F:=λw s=>by
 obtain⟨es,clock,h2,s1⟩:=(s.fC hs).Qf;refine jU hn hg (v:=jA ok zero a ah) ?_ (next w s);have:wY P kt zero (.map (some b)) (aP a) ok w.h=_:=Qc hk (by simp only[entriesOf,s1.get.1]) h2.qb;simp only[aA.run,hm,ha,this];rfl
theorem uo{kt:TypeId}{m k x:Operand}{b:Nat}{v:Value}{ah:List (α×Value)}(hk:oO P kt aP)(a:α)
 (next:R (λh=>aD P ds rest (act n l D pm ro) h K) B w0 (fu aP b (upd a v ah)::kl') F)
 (hm:ev l m=.map (some b):=by rfl) (ha:ev l k=aP a:=by conv=>lhs;whnf) (hv:ev l x=v:=by conv=>lhs;whnf) (hs:aj (fu aP b ah) kl kl':=by exact fE) (hg:bE l g=true:=by rfl):
 R (λh=>aD P ds (⟨⟨none,g,.DW kt m k x⟩,[]⟩::rest) (act n l D pm ro) h K) B w0 kl F:=λw s=>by
 obtain⟨es,clock,h2,s1⟩:=(s.fC hs).Qf;obtain⟨es',clock',e1,e2⟩:=YR (v:=v) hk (a:=a) s1.get.1 h2;refine IY hg (v:=bZ) (h':=w.h.set b (.map es' clock')) ?_ (next _ ((s1.write (o':=.map es' clock')).zA (A:=pt b (.map es' clock')) (A':=fu aP b (upd a v ah)) λw S hp=>⟨hp.1,es',clock',hp.2,e2⟩));simp only[aA.run,hm,ha,hv,e1]
theorem Qh{ah:List (α×Value)}{es:List MapEntry}{clock:Nat}(h:vX aP ah es clock):es.length=ah.length:=by
 have:=congrArg List.length h.qb;simpa using this
def x8{α:Type}(aP:α->Value)(r b:Nat)(ah dP:List (α×Value)):OA:=⟨λw S=>S=[r]/\∃es clock seen last,w.h.get b=some (.map es clock)/\w.z b/\vX aP ah es clock/\w.h.get r=some (.mapIter (some b) clock seen last)/\last=clock/\
 (∃ve rem:List MapEntry,mH aP dP ve/\ve.map (·.born)=seen/\(ve++rem).Perm es),
 λa h ⟨h1,es,clock,seen,last,h2,h3,h4,h5,h6,h7⟩=>⟨h1,es,clock,seen,last,by rw[a.get b h3];exact h2,a.z b h3,h4,by rw[h r (by rw[h1];exact bC.2 rfl)];exact h5,h6,h7⟩⟩
theorem Qi{m:Operand}{b:Nat}{ah:List (α×Value)}
 (next:∀r,R (λh=>aD P ds rest (act n ((d,.pointer (some ⟨r,0,none⟩))::l) D pm ro) h K) B w0 (x8 aP r b ah []::kl) F)
 (hm:ev l m=.map (some b):=by rfl) (hf:qd aP b ah∈F:=by exact um) (hn:Nat.blt d n=true:=by rfl) (hg:bE l g=true:=by rfl):
 R (λh=>aD P ds (⟨⟨some d,g,.rangeMap m⟩,[]⟩::rest) (act n l D pm ro) h K) B w0 kl F:=λw s=>by
 obtain⟨hz,es,clock,h1,h2⟩:=s.facts _ hf;refine jU hn hg (h':=w.h.new (.mapIter (some b) clock [] clock)) (by simp only[aA.run,hm,h1]) (next w.h.next (w.new _) ?_);have s1:=s.new (.mapIter (some b) clock [] clock);obtain⟨hz',es',clock',h1',h2'⟩:=s1.facts _ hf;refine s1.vL λS hp=>⟨hp.1,es',clock',[],clock,h1',hz',h2',?_,?_,[],es',rfl,rfl,.refl _⟩
 ·have:clock'=clock:=by
   have e:(w.new (.mapIter (some b) clock [] clock)).h.get b=w.h.get b:=by
    show(w.h.new _).get b=_;rw[IH.gP,if_neg (by have:=w.kD b hz;omega)]
   rw[e,h1]at h1';injection h1' with h1';injection h1' with _ h1';exact h1'.symm
  rw[this];exact hp.2
 ·have e:(w.new (.mapIter (some b) clock [] clock)).h.get b=w.h.get b:=by
   show(w.h.new _).get b=_;rw[IH.gP,if_neg (by have:=w.kD b hz;omega)]
  rw[e,h1]at h1';injection h1' with h1';injection h1' with _ h1'
theorem YS{es ve rem:List MapEntry}(hp:(ve++rem).Perm es)(hn:(es.map (·.born)).Nodup):(es.filter λe=>!(ve.map (·.born)).contains e.born).Perm rem:=by
 have hp2:((ve++rem).filter λe=>!(ve.map (·.born)).contains e.born).Perm (es.filter λe=>!(ve.map (·.born)).contains e.born):=hp.filter _;rw[Gy]at hp2;have h1:ve.filter (λe=>!(ve.map (·.born)).contains e.born)=[]:=by
  rw[List.filter_eq_nil_iff];intro e he;simp only[Bp,Bool.not_eq_false',List.contains_eq_mem,Bo];simp;exact⟨e,he,rfl⟩
 have hnd:((ve++rem).map (·.born)).Nodup:=(hp.map _).nodup_iff.2 hn;rw[dM,gM]at hnd;have h2:rem.filter (λe=>!(ve.map (·.born)).contains e.born)=rem:=by
  rw[List.filter_eq_self];intro e he;simp only[Bp,List.contains_eq_mem,decide_eq_false_iff_not];intro hm;exact hnd.2.2 _ hm _ (Gx he) rfl
 rw[h1,h2,di]at hp2;exact hp2.symm
theorem Qj{x:Operand}{r b:Nat}{ah dP:List (α×Value)}
 (more:∀p rem,(dP++p::rem).Perm ah->R (λh=>aD P ds rest (act n ((d,.tuple #[.bool true,aP p.1,p.2])::l) D pm ro) h K) B w0 (x8 aP r b ah (dP++[p])::kl') F)
 (done:dP.Perm ah->R (λh=>aD P ds rest (act n ((d,.tuple #[.bool false])::l) D pm ro) h K) B w0 (x8 aP r b ah dP::kl') F)
 (inj:∀a c,aP a=aP c->a=c)
 (hx:ev l x=.pointer (some ⟨r,0,none⟩):=by rfl) (hs:aj (x8 aP r b ah dP) kl kl':=by exact fE) (hn:Nat.blt d n=true:=by rfl) (hg:bE l g=true:=by rfl):
 R (λh=>aD P ds (⟨⟨some d,g,.sV x⟩,[]⟩::rest) (act n l D pm ro) h K) B w0 kl F:=λw s0=>by
 have s:=s0.fC hs;obtain⟨S,⟨S1,S2,⟨q1,es,clock,seen,last,h1,hz,h2,h3,h4,ve,rem,h5,h6,h7⟩,q2,eS⟩,hnd,hown⟩:=s.own;subst h4 h6;have hpl:=YS h7 h2.nd;have hold:((es.filter λe=>!(ve.map (·.born)).contains e.born).filter λe=>Nat.blt e.born last)=es.filter λe=>!(ve.map (·.born)).contains e.born:=by
  rw[List.filter_eq_self];intro e he;have:=h2.lt e (Br.1 he).1;rw[pu];exact this
 have hnew:((es.filter λe=>!(ve.map (·.born)).contains e.born).filter λe=>Nat.ble last e.born)=[]:=by
  rw[List.filter_eq_nil_iff];intro e he;have:=h2.lt e (Br.1 he).1;rw[rF];omega
 have hcl:(!(ve.map (·.born)).isEmpty&&!es.isEmpty&&es.all (λe=>Nat.ble last e.born))=false:=by
  cases es with
  |nil=>simp
  |cons e es=>
   have:=h2.lt e (bF ..);have:Nat.ble last e.born=false:=by
    cases hb:Nat.ble last e.born with
    |false=>rfl
    |true=>rw[rF]at hb;omega
   simp[this]
 have YT:xg (ev l x) w.h=some ((if(es.filter λe=>!(ve.map (·.born)).contains e.born).isEmpty then[(.tuple #[.bool false],w.h)]else[])++
  (es.filter λe=>!(ve.map (·.born)).contains e.born).map λe=>(.tuple #[.bool true,e.key,e.val],w.h.set r (.mapIter (some b) last (ve.map (·.born)++[e.born]) last))):=by
  rw[hx];unfold xg;simp only[h3,h1];rw[hcl];simp only[cond_false,hold,hnew,iX]
 -- a pair for an entry
 have ae6:∀(ae7:List MapEntry) (ae8:List (α×Value)),True:=λ_ _=>trivial;refine .next (rY hg) x rfl rfl _ (by rw[kQ];exact YT) ?_
 intro vh hm;rcases eZ.1 hm with hm|hm
 ·split at hm
  ·rename_i hemp;rw[bC.1 hm,mY hn];have YU:rem=[]:=by
    have:(es.filter λe=>!(ve.map (·.born)).contains e.born)=[]:=by simpa using hemp
    rw[this]at hpl;exact List.nil_perm.1 hpl|>λh=>h
   refine done ?_ w s;subst YU;rw[iX]at h7;have hm1:=h7.map (λe=>(e.key,e.val));rw[h5,h2.qb]at hm1;exact P6 (λp:α×Value=>(aP p.1,p.2)) (λp q hpq=>by
    injection hpq with e1 e2;exact Prod.ext (inj _ _ e1) e2) hm1
  ·cases hm
 ·obtain⟨e,he,rfl⟩:=ed.1 hm;have hr:e∈rem:=hpl.mem_iff.1 he;obtain⟨r1,r2,YV⟩:=List.append_of_mem hr
  -- the pair
  obtain⟨i,hi,hie⟩:∃i,i<ah.length/\es[i]? =some e:=by
   obtain⟨i,hi⟩:=wR.1 (Br.1 he).1;have:=(bA.1 hi).1;rw[Qh h2]at this;exact⟨i,this,hi⟩
  have hpe:(e.key,e.val)=(aP ah[i].1,ah[i].2):=by
   have:=congrArg (λl=>l[i]?) h2.qb;simp only[eX,hie,dz hi,jr]at this;injection this
  injection hpe with hpk hpv;rw[mY hn,hpk,hpv];have hperm:(ve++[e]++(r1++r2)).Perm es:=by
   refine List.Perm.trans ?_ h7;rw[YV,dQ];refine List.Perm.append_left _ ?_;exact(List.perm_middle (l₁:=r1) (l₂:=r2) (a:=e)).symm
  have CQ:mH aP (dP++[ah[i]]) (ve++[e]):=by
   unfold mH;rw[dM,dM,h5];simp[hpk,hpv]
  obtain⟨Jw,YW⟩:∃Jw:List (α×Value),(dP++ah[i]::Jw).Perm ah:=by
   have hm1:=hperm.map (λe=>(e.key,e.val));rw[dM,CQ,h2.qb]at hm1;have hex:∀ls:List MapEntry,(∀x∈ls,∃p:α×Value,(x.key,x.val)=(aP p.1,p.2))->∃ps:List (α×Value),ls.map (λe=>(e.key,e.val))=ps.map λp=>(aP p.1,p.2):=by
    intro ls;induction ls with
    |nil=>intro _;exact⟨[],rfl⟩
    |cons x ls ih=>
     intro h;obtain⟨p,hp⟩:=h x (bF ..);obtain⟨ps,hps⟩:=ih λy hy=>h y (bB _ hy);exact⟨p::ps,by rw[fG,fG,hp,hps]⟩
   obtain⟨ps,hps⟩:=hex (r1++r2) (λy hy=>by
    have hy':y∈es:=hperm.mem_iff.1 (pE _ hy);obtain⟨j,hj⟩:=wR.1 hy';have hj':=(bA.1 hj).1;rw[Qh h2]at hj';have:=congrArg (λl=>l[j]?) h2.qb;simp only[eX,hj,dz hj',jr]at this;injection this with this;exact⟨_,this⟩)
   rw[hps,<- dM]at hm1;refine⟨ps,?_⟩;have:=P6 (λp:α×Value=>(aP p.1,p.2)) (λp q hpq=>by
    injection hpq with e1 e2;exact Prod.ext (inj _ _ e1) e2) hm1
   rwa [dQ]at this
  refine more ah[i] Jw YW ⟨w.h.set r (.mapIter (some b) last (ve.map (·.born)++[e.born]) last),w.z,λi hi=>w.kD i hi⟩ ?_
  -- the state behind the step
  have s2:St B w0 (pt r (.mapIter (some b) last (ve.map (·.born)) last)::kl') F w:=⟨s.agree,s.le,s.dR,⟨S,⟨S1,S2,⟨q1,h3⟩,q2,eS⟩,hnd,hown⟩,s.facts⟩
  have s3:=s2.write (o':=.mapIter (some b) last (ve.map (·.born)++[e.born]) last);refine s3.vL λS' hp=>⟨hp.1,es,last,_,last,?_,hz,h2,hp.2,rfl,ve++[e],r1++r2,CQ,by rw[dM];rfl,hperm⟩
  have hrb:r≠b:=λer=>by
   have:=s2.own;obtain⟨S0,⟨T1,T2,⟨u1,_⟩,_,ue⟩,_,ho⟩:=this;exact(ho r (by rw[ue,u1];simp)).2.2 (er▸hz)
  show(w.h.set r _).get b=_;rw[IH.kN,if_neg (λer=>hrb er.symm)];exact h1
theorem Qk{x:Operand}{r b:Nat}{ah dP:List (α×Value)}{p:α×Value}
 (next:R (λh=>aD P ds rest (act n ((d,.tuple #[aP p.1,p.2])::l) D pm ro) h K) B w0 kl F)
 (hx:ev l x=.pointer (some ⟨r,0,none⟩):=by rfl) (hs:aj (x8 aP r b ah (dP++[p])) kl kl':=by exact fE) (hn:Nat.blt d n=true:=by rfl) (hg:bE l g=true:=by rfl):
 R (λh=>aD P ds (⟨⟨some d,g,.entry x⟩,[]⟩::rest) (act n l D pm ro) h K) B w0 kl F:=λw s0=>by
 have s:=s0.fC hs;obtain⟨S,⟨S1,S2,⟨q1,es,clock,seen,last,h1,hz,h2,h3,h4,ve,rem,h5,h6,h7⟩,q2,e⟩,hnd,hown⟩:=s.own;subst h4 h6;obtain⟨Ql,x0,CQ,hx0,hx1⟩:∃Ql x0,ve=Ql++[x0]/\x0.key=aP p.1/\x0.val=p.2:=by
  unfold mH at h5;rw[dM]at h5;obtain⟨a1,a2,e1,e2,e3⟩:=List.map_eq_append_iff.1 h5;obtain⟨x0,a3,e4,e5,e6⟩:=List.map_eq_cons_iff.1 e3;have:a3=[]:=by simpa using e6
  subst this;injection e5 with e5 e7;exact⟨a1,x0,by rw[e1,e4],e5,e7⟩
 have hfind:es.find? (λy=>Nat.beq y.born x0.born)=some x0:=by
  have hm:x0∈es:=h7.mem_iff.1 (jO _ (by rw[CQ];simp));cases hf:es.find? (λy=>Nat.beq y.born x0.born)with
  |none=>
   have:=LW.1 hf x0 hm;simp[Nat.beq_refl]at this
  |some y=>
   have hy:=List.find?_some hf;have hym:=LX hf;have hb:y.born=x0.born:=nD hy;congr 1;exact P7 h2.nd hym hm hb
 refine jU hn hg (v:=.tuple #[aP p.1,p.2]) ?_ (next w s0);simp only[aA.run,hx,h3,h1];rw[CQ];simp only[dM,fG,List.map_nil,List.getLast?_append,List.getLast?_singleton,Option.some_or,Nat.beq_refl,cond_true,hfind,hx0,hx1]
end
end Go.Ideal
namespace Go.Ideal
open Go.Sort
variable {P:Program}
theorem WR.grow{β:az}{h:IH}{w:World}(hW:WR P β h w)(os:Array Obj):WR P β h (grow w os)/\Eff β h w β h (grow w os):=by
 have hold:∀b,b<w.heap.size->(Go.Sort.grow w os).heap[b]? =w.heap[b]?:=λb hb=>by
  show(w.heap++os)[b]? =_;rw[Array.getElem?_append_left hb]
 refine⟨⟨hW.dom,hW.live,λi g o h1 h2=>?_,hW.inj⟩,⟨λ_ _=>rfl,bn _,λ_ _ h=>h,λ_ _ _=>rfl,bn _,λ_ _ _=>rfl,rfl,rfl,rfl,?_,λb hb _=>hold b hb,λi g hg hi=>absurd (hW.dom _ _ hg) (by omega),λi g _ _ _ _ hb=>hold _ hb,bn _⟩⟩
 ·have hO:=hW.obj i g o h1 h2;exact hO.congr (hold _ hO.lt)
 ·show w.heap.size<=(w.heap++os).size;rw[Array.size_append];omega
def EW(o:Nat):List Value->Array Value->Array Value
 |[],c=>c
 |v::vs,c=>EW (o+1) vs (c.setIfInBounds o v)
theorem Qm(b:Nat):∀(vs:List Value) (o:Nat) (w:World),w.setCells b o vs=mapBlock w b (EW o vs)
 |[],o,w=>(mapBlock_id w b _ λc e fr h=>rfl).symm
 |v::vs,o,w=>by
  show(w.setCell ⟨b,o,none⟩ v).setCells b (o+1) vs=_;rw[Qm b vs (o+1),setCell_eq,mapBlock_mapBlock];rfl
theorem Qn:∀(vs:List Value) (o:Nat) (c:Array Value) (k:Nat),(EW o vs c)[k]? =if o<=k/\k<o+vs.length/\k<c.size then vs[k - o]? else c[k]?
 |[],o,c,k=>by
  rw[if_neg (by rw[Gr];omega)];rfl
 |v::vs,o,c,k=>by
  show(EW (o+1) vs (c.setIfInBounds o v))[k]? =_;rw[Qn vs (o+1),Array.size_setIfInBounds,nE];by_cases h1:o+1<=k/\k<o+1+vs.length/\k<c.size
  ·rw[if_pos h1,if_pos ⟨by omega,by omega,h1.2.2⟩];rw[show k - o=(k - (o+1))+1 by omega,ol]
  ·rw[if_neg h1,TS];by_cases h2:o=k
   ·subst h2;rw[if_pos rfl];by_cases h3:o<c.size
    ·rw[if_pos h3,if_pos ⟨bn _,by omega,h3⟩,yS];rfl
    ·rw[if_neg h3,if_neg (by omega)];exact(qA (by omega)).symm
   ·rw[if_neg h2,if_neg (by omega)]
theorem setCells_putRow{α:Type}[Inhabited α](enc:α->Value)(w:World)(b o:Nat)(d:Array α):w.setCells b o (d.toList.map enc)=putRow enc w b o d:=by
 rw[Qm];unfold putRow;refine mapBlock_congr w b _ _ λc e fr hc=>?_;apply Array.ext_getElem?;intro k;rw[Qn,putCells,Array.getElem?_mapIdx,bT,LP];by_cases hk:k<c.size
 ·by_cases h:o<=k/\k<o+d.size
  ·rw[if_pos ⟨h.1,h.2,hk⟩,TV hk,jr,if_pos h,eX,wN,TV (by omega)];rw[jr,getElem!_pos d _ (by omega)]
  ·rw[if_neg (λq=>h ⟨q.1,q.2.1⟩),TV hk,jr,if_neg h]
 ·rw[if_neg (by omega),qA (by omega)];rfl
def Jy(P:Program)(f:FuncId):Prop:=∀(blk off cap:Nat) (zs:List Int) (w:World),Holds (Value.int .i64) w blk off zs.toArray->blk<w.heap.size->zs.length<4611686018427387904->
 Calls P f #[.slice (some ⟨blk,off,none⟩) zs.length cap] w λe w'=>e=.returned (.tuple #[])/\∃n os,w'=Go.Sort.grow (putRow (Value.int .i64) (Sort.ahead w n) blk off (zs.mergeSort λx y=>decide (x<=y)).toArray) os
def bY(zs:List Int):List Int:=zs.mergeSort λx y=>decide (x<=y)
theorem x9(zs:List Int):(bY zs).length=zs.length:=List.length_mergeSort zs
theorem YX{f:FuncId}(hS:Jy P f){fn:Func}(hfn:P.funcs[f]? =some fn){body:Code}(hb:fn.body=some body)(hname:fn.name≠ "runtime.NumGoroutine"){b o c:Nat}{fl:Option Nat}{zs:List Int}{h h':IH}{cs:List Value}
 (hg:h.get b=some (.cells cs)) (hz:∀(j:Nat) z,zs[j]? =some z->cs[o+j]? =some (.int .i64 z)) (hne:0<zs.length) (hlen:zs.length<4611686018427387904) (hs:h.storeAt b o ((bY zs).map (.int .i64))=some h'):
 jJ P ⟨.func f,[.slice (some ⟨b,o,fl⟩) zs.length c],[],none⟩ h (λr pm h2=>pm=none/\r=.ok (.tuple ⟨[]⟩)/\h2=h'):=by
 intro β w fn' args' cap' hG hW hf ha hcap;obtain⟨iB,t1,t2⟩:=Cs (P:=P) (q:=⟨.func f,[.slice (some ⟨b,o,fl⟩) zs.length c],[],none⟩) (f:=f) (args:=[.slice (some ⟨b,o,fl⟩) zs.length c]) (by simp only[target,ig,iX]) hf ha hcap hfn hb hname w;cases t2 with|cons hv tl=>
 cases tl;obtain⟨g,a,c',hi,rfl,hab,_,hn,hcc,hao,_⟩:=hv.kP;have hao:a.off=g.off+o/\a.spot=none:=by
  rcases hao with e|e
  ·omega
  ·exact e
 obtain⟨⟨c0,t0,YY,hh⟩,q2,q3,q4,q5,q6⟩:=hW.obj b g _ hi hg;have ea:a=⟨g.b,g.off+o,none⟩:=by
  obtain⟨ab,ao,as⟩:=a;simp only at hab hao;rw[hab,hao.1,hao.2]
 subst ea;have hin:∀j,j<zs.length->o+j<cs.length:=λj hj=>(bA.1 (hz j _ (dz hj))).1;have hH:Holds (Value.int .i64) w g.b (g.off+o) zs.toArray:=λj hj=>by
  have hj:j<zs.length:=by simpa using hj
  obtain⟨v',h1,h2⟩:=q6 (o+j) _ (hz j _ (dz hj));have:=h2.kC;subst this;refine⟨?_,(q4 _ (by have:=hin j hj;omega)).2⟩;rw[mQ,h1];congr 2;rw[getElem!_pos zs.toArray j (by simpa using hj)];simp
 have hlt:g.b<w.heap.size:=(LQ.1 hh).1;have hC:=hS g.b (g.off+o) c' zs w hH hlt hlen;obtain⟨_,w1,w2⟩:=Eg hW hi hs (vs':=(bY zs).map (.int .i64)) (aH.free (by
  have:∀l:List Int,fD (l.map (Value.int .i64))=true:=by
   intro l;induction l with
   |nil=>rfl
   |cons x l ih=>rw[fG];simp[fD,bD,Ideal.cellV,ih]
  exact this _)) (by
  rw[jR];intro x hx;obtain⟨z,_,rfl⟩:=ed.1 hx;rfl)
 refine⟨_,Frame.enter P f ⟨_⟩ .normal,t1,rfl,λcs0 rV=>?_⟩;obtain⟨e,w',fr,⟨he,k,os,hw'⟩,hcomes,hfr,hlv⟩:=hC cs0;subst he;have hw1:putRow (Value.int .i64) (Sort.ahead w k) g.b (g.off+o) (zs.mergeSort λx y=>decide (x<=y)).toArray=Sort.ahead (w.setCells g.b (g.off+o) ((bY zs).map (.int .i64))) k:=by
  have:=setCells_putRow (Value.int .i64) w g.b (g.off+o) (bY zs).toArray;rw[show(bY zs).toArray.toList=bY zs from rfl]at this;rw[this];rfl
 rw[hw1]at hw';have w3:WR P β h' (Sort.ahead (w.setCells g.b (g.off+o) ((bY zs).map (.int .i64))) k):=w1.oH rfl;have w4:=w2.trans (Eff.oH (w':=Sort.ahead (w.setCells g.b (g.off+o) ((bY zs).map (.int .i64))) k) w1.dom rfl rfl rfl rfl (Nat.le_add_right _ _));obtain⟨w5,w6⟩:=w3.grow os;rw[<- hw']at w5 w6;refine⟨.ok (.tuple ⟨[]⟩),none,h',β,w',.returned (.tuple #[]),cs0,⟨rfl,rfl,rfl⟩,w5,w4.trans w6,.ok (.bZ _),.none cs0,.inl ⟨f,_,fr,rfl,hcomes,hfr,hlv.2.2.1,hlv.1,hlv.2.1,hlv.2.2.2⟩⟩
theorem EX{α:Type}:∀(l:List α) (o:Nat) (xs:List α),o+xs.length<=l.length->∃r,iQ l o xs=some r
 |[],o,xs,h=>by
  have h1:xs=[]:=kW.1 (by rw[Gr]at h;omega);have h2:o=0:=by rw[Gr]at h;omega
  exact⟨[],by rw[MB,if_pos ⟨h1,h2⟩]⟩
 |c::l,0,[],h=>⟨_,MC c l⟩
 |c::l,0,x::xs,h=>by
  obtain⟨r,hr⟩:=EX l 0 xs (by simp only[nE]at h;omega);exact⟨x::r,by rw[GZ,hr];rfl⟩
 |c::l,o+1,xs,h=>by
  obtain⟨r,hr⟩:=EX l o xs (by simp only[nE]at h;omega);exact⟨c::r,by rw[G5,hr];rfl⟩
theorem YZ{f:FuncId}(hS:Jy P f){fn:Func}(hfn:P.funcs[f]? =some fn){body:Code}(hb:fn.body=some body)(hname:fn.name≠ "runtime.NumGoroutine"){a:Option Addr}{zs:List Int}(hne:0<zs.length)(hlen:zs.length<4611686018427387904):
 aV P (.func f) [.slice a zs.length zs.length] [] [ap ae (.slice a zs.length zs.length) zs] [] (λ_:Unit=>.tuple ⟨[]⟩) (λ_=>[ap ae (.slice a zs.length zs.length) (bY zs)]) (λ_=>[]) (λ_=>True):=by
 intro B w s;obtain⟨S,⟨S1,S2,q1,q2,e⟩,h2,h3⟩:=s.own;rcases q1 with⟨h,_⟩|⟨b,o,fl,cells,e1,hf,e2,hb',hcl,hel⟩
 ·rw[h]at hne;simp at hne
 injection e1 with e1 Y0;subst e1;have hcl:cells.length=o+zs.length:=by rw[hcl];simp[ae]
 have hz:∀(j:Nat) z,zs[j]? =some z->cells[o+j]? =some (.int .i64 z):=λj z hj=>by
  obtain⟨y,u1,_⟩:=hel j z hj;have:=u1 0 (.int .i64 z) rfl;simpa[ae]using this
 have hst:∃cs2,w.h.storeAt b o ((bY zs).map (.int .i64))=some (w.h.set b (.cells cs2))/\cs2.length=cells.length/\∀(k:Nat) z,(bY zs)[k]? =some z->cs2[o+k]? =some (.int .i64 z):=by
  have hov:∃cs2,iQ cells o ((bY zs).map (.int .i64))=some cs2:=EX _ _ _ (by rw[bT,x9];omega);obtain⟨cs2,hl⟩:=hov;obtain⟨l1,l2,l3⟩:=Ee hl;refine⟨cs2,?_,l2,λk z hk=>?_⟩
  ·unfold IH.storeAt;simp only[hb',hl]
  ·rw[l3,if_pos ⟨by omega,by have:=(bA.1 hk).1;rw[bT];omega⟩,Gv,eX,hk];rfl
 obtain⟨cs2,hst,hl2,Jz⟩:=hst;refine .real (Iy _ (YX hS hfn hb hname hb' hz hne hlen hst) ?_);rintro r pm h' ⟨rfl,rfl,rfl⟩;have s1:St B w [pt b (.cells cells)] [] w:=⟨s.agree,s.le,s.dR,⟨S,⟨S1,S2,⟨e2,hb'⟩,q2,e⟩,h2,h3⟩,λf hf=>by cases hf⟩
 refine⟨rfl,⟨w.h.set b (.cells cs2),w.z,λi hi=>w.kD i hi⟩,(),rfl,?_,rfl,trivial⟩;refine(s1.write (o':=.cells cs2)).zA (A:=pt b (.cells cs2)) λw' S' hp=>?_;refine .inr ⟨b,o,fl,cs2,by rw[x9],hf,hp.1,hp.2,by rw[hl2,hcl,x9];simp[ae],λk x hk=>⟨(),λj u hj=>?_,λf hf=>by cases hf⟩⟩;match j,hj with
 |0,hj=>
  cases hj;have:=Jz k x hk;simpa[ae]using this
end Go.Ideal
namespace Go.Ideal
variable {P:Program}
def qf{α:Type}(P:Program)(vals:α->List Value)(fn:Fn)(first cap:List Value)(F:List aB)(X:List α->Prop):Prop:=
 ∀(S:Type) (inv:S->List OA) (ok:List α->S->Prop) (step:S->α->S×Bool) (s0:S) (sD:Fn) (y1 y2:List Value) (F':List aB),ok [] s0->
  (∀vs s x rest,ok vs s->X (vs++x::rest)->(step s x).2=true->ok (vs++[x]) (step s x).1)->
  (∀vs s x rest,ok vs s->X (vs++x::rest)->aV P sD (y1++vals x) y2 (inv s) F' (λ_:Unit=>.bool (step s x).2) (λ_=>inv (step s x).1) (λ_=>[]) (λ_=>True))->
  aV P fn (first++[.func sD ⟨y1⟩ ⟨y2⟩]) cap (inv s0) (F++F') (λ_:List α=>.tuple ⟨[]⟩) (λxs=>inv (fF step s0 xs)) (λ_=>[]) X
section
variable {B:List Nat} {w0:Wd} {kl kl' aR:List OA} {F:List aB} {K:KO} {n:Nat} {l:List (Nat×Value)} {D:List Deferred} {pm:Option FrameMode} {ro:Option Nat}
def Ar{Z:Type}(B:List Nat)(w0:Wd)(n:Nat)(l3:Z->List (Nat×Value))(lo:Nat)(o:bQ)(kl:Z->List OA)(F:List aB):KO:=λoo a h=>
 oo=.normal/\∃z,a=act n (l3 z) [] none (some lo)/\∃w:Wd,w.h=h/\St B w0 (pt lo o::kl z) F w
theorem yf{Z:Type}{l3:Z->List (Nat×Value)}{lo:Nat}{o:bQ}{k3:Z->List OA}(z:Z)(hl:l3 z=l)(hk:aM (pt lo o::k3 z) kl aR:=by exact kG):R (λh=>Ar B w0 n l3 lo o k3 F .normal (act n l [] none (some lo)) h) B w0 kl F:=λw s=>
 ⟨rfl,z,by rw[hl],w,rfl,(s.iC hk).drop⟩
theorem Qo{Y Z:Type}{lo:Nat}{L:kX}{args:List Value}{k1:List OA}{out:Y->Out}{k1':Y->List OA}{fs:Y->List aB}{pr:Y->Prop}(l:List (Nat×Value))(l3:Z->List (Nat×Value))(k3:Z->List OA)(hl:L.tmps=fM l)(hst:L.state=.ready)(hps:L.params.all (λp=>Nat.blt p L.n)=true)(hlen:L.params.length=args.length)
 (ha:∀B w0,R (λh=>EV P L.assign (act L.n ((L.params.zip args).reverse++l) [] none (some lo)) h (Ar B w0 L.n l3 lo (.loop L) k3 F)) B w0 (pt lo (.loop L)::k1) F)
 (hb:∀z B w0,R (λh=>EV P L.body (act L.n (l3 z) [] none (some lo)) h (xV B w0 lo L out k1' fs pr)) B w0 (pt lo (.loop (rZ L))::k3 z) F):
 aV P (.yield lo) args [] (pt lo (.loop L)::k1) F (λy:Y=>.bool (kH (out y))) (λy=>pt lo (.loop (jW L (out y)))::k1' y) fs pr:=by
 intro B w s;obtain⟨l2,e1,e2⟩:=PK L.n L.params args l hps hlen;refine .round lo rfl rfl L s.get.1 hlen.symm _ (by
  rw[hl];show EV P L.assign (aI.mk L.n (qF L.n L.params args (fM l)) [] none (some lo)) w.h _;rw[e1,e2];exact ha B w w s) ?_ ?_
 ·rintro o a h ⟨rfl,z,rfl,w1,rfl,s1⟩;exact⟨rfl,L,s1.get.1,hst⟩
 ·rintro a h r1 ⟨_,z,rfl,w1,rfl,s1⟩ hr;have hr1:r1=L:=by
   have:=s1.get.1;rw[hr]at this;injection this with this;injection this
  subst hr1;have hb:=hb z B w _ (s1.write (o':=.loop (rZ r1)));refine IL hb _ ?_;rintro o a h ⟨hd,w2,y,rfl,rfl,hn,s2,hp⟩;refine⟨rZ r1,s2.get.1,hd,?_⟩;have fin:∀o',kH o'=kH (out y)->jW r1 o'=jW r1 (out y)->Left B w (λy:Y=>.bool (kH (out y))) (λy=>pt lo (.loop (jW r1 (out y)))::k1' y) fs pr (.ok (.bool (kH (out y)))) none (w2.h.set lo (.loop (jW r1 (out y)))):=λo' _ _=>
   ⟨rfl,_,y,rfl,s2.write,rfl,hp⟩
  cases ho:out y with
  |normal=>have:=fin .normal (by rw[ho]) (by rw[ho]);rw[ho]at this;exact this
  |exit j=>have:=fin (.exit j) (by rw[ho]) (by rw[ho]);rw[ho]at this;exact this
  |ret=>have:=fin .ret (by rw[ho]) (by rw[ho]);rw[ho]at this;exact this
  |panic ch=>rw[ho]at hn;exact hn.elim
theorem Y1{S α Z:Type}{f:Operand}{ps:List Tmp}{assign body:bK}{fn:Fn}{first captured:List Value}{vals:α->List Value}{F1:List aB}{X:List α->Prop}(step:S->α->S×Out)(inv:S->List OA)(ok:List α->S->Prop)(s0:S)(h0:ok [] s0)
 (hok:∀vs s x rest,ok vs s->X (vs++x::rest)->(step s x).2=.normal->ok (vs++[x]) (step s x).1) (hit:qf P vals fn first captured F1 X)
 (hf:ev l f=.func fn ⟨first⟩ ⟨captured⟩) (hps:ps.all (λp=>Nat.blt p n)=true) (hlen:∀x,ps.length=(vals x).length) (hk:aM (inv s0) kl aR) (hF:Sub F1 F) (iq:∀s x,xU (step s x).2)
 (l3:α->Z->List (Nat×Value)) (k3:α->Z->List OA)
 (ha:∀(s:S) (x:α) (lo:Nat) (o:bQ) B w0,R (λh=>EV P assign (act n ((ps.zip (vals x)).reverse++l) [] none (some lo)) h (Ar B w0 n (l3 x) lo o (λz=>k3 x z++inv s) F)) B w0 (pt lo o::inv s) F)
 (hb:∀(vs:List α) (s:S) (x:α) (rest:List α) (z:Z) (lo:Nat) (L:kX) B w0,ok vs s->X (vs++x::rest)->R (λh=>EV P body (act n (l3 x z) [] none (some lo)) h (xV B w0 lo L (λ_:Unit=>(step s x).2) (λ_=>inv (step s x).1) (λ_=>[]) (λ_=>True))) B w0 (pt lo (.loop (rZ L))::(k3 x z++inv s)) F)
 (next:∀r xs,X xs->R (λh=>K (iy step s0 xs).2 (act n l ({target:=.collected r,args:= #[]}::D) pm none) h) B w0 (inv (iy step s0 xs).1++(pt r (.fU true)::aR)) F):
 R (λh=>EV P (.rangeFunc f ps assign body) (act n l D pm none) h K) B w0 kl F:=by
 refine PL (Y:=List α) (k1:=inv s0) (F1:=F1++F) (ER:=λ_=>.tuple ⟨[]⟩) (out:=λxs=>(iy step s0 xs).2) (k1':=λxs=>inv (iy step s0 xs).1) (fs:=λ_=>[]) (pr:=X) hf ?_ hk (hF.app (Sub.refl' F [])) (λr y hy=>next r y hy);intro lo r;have:=hit (S×Out) (λso=>pt lo (.loop (jW ⟨.ready,none,fM l,n,ps,assign,body,r⟩ so.2))::inv so.1) (λvs so=>so.2=.normal/\ok vs so.1) (λso x=>(step so.1 x,kH (step so.1 x).2)) (s0,.normal) (.yield lo) [] [] F ⟨rfl,h0⟩
  (λvs so x rest ho hx h=>by
    have h:kH (step so.1 x).2=true:=h;have hn:(step so.1 x).2=.normal:=by
     cases e:(step so.1 x).2 with
     |normal=>rfl
     |_=>rw[e]at h;cases h
    exact⟨hn,hok vs so.1 x rest ho.2 hx hn⟩)
  (λvs so x rest ho hx=>by
    obtain⟨s,o⟩:=so;obtain⟨hn,ho⟩:=ho;have hn:o=.normal:=hn;subst hn;exact Qo (Y:=Unit) (L:=⟨.ready,none,fM l,n,ps,assign,body,r⟩) (args:=vals x) (k1:=inv s) (out:=λ_=>(step s x).2) (k1':=λ_=>inv (step s x).1) (fs:=λ_=>[]) (pr:=λ_=>True) l (l3 x) (λz=>k3 x z++inv s) rfl rfl hps (hlen x)
     (λB w0=>ha s x lo _ B w0) (λz B w0=>hb vs s x rest z lo _ B w0 ho hx))
 have e:(λxs:List α=>pt lo (.loop (jW ⟨.ready,none,fM l,n,ps,assign,body,r⟩ (fF (λ(so:S×Out) x=>(step so.1 x,kH (step so.1 x).2)) (s0,.normal) xs).2))::inv (fF (λ(so:S×Out) x=>(step so.1 x,kH (step so.1 x).2)) (s0,.normal) xs).1)=λxs=>pt lo (.loop (jW ⟨.ready,none,fM l,n,ps,assign,body,r⟩ (iy step s0 xs).2))::inv (iy step s0 xs).1:=by
  funext xs
  rw[Jk]
 have h2:aV P fn (first++[.func (.yield lo) ⟨[]⟩ ⟨[]⟩]) captured (pt lo (.loop ⟨.ready,none,fM l,n,ps,assign,body,r⟩)::inv s0) (F1++F) (λ_:List α=>.tuple ⟨[]⟩) (λxs=>pt lo (.loop (jW ⟨.ready,none,fM l,n,ps,assign,body,r⟩ (fF (λ(so:S×Out) x=>(step so.1 x,kH (step so.1 x).2)) (s0,.normal) xs).2))::inv (fF (λ(so:S×Out) x=>(step so.1 x,kH (step so.1 x).2)) (s0,.normal) xs).1) (λ_=>[]) X:=this;rw[e]at h2;exact h2
theorem CR{S α Z:Type}{f:Operand}{ps:List Tmp}{assign body:bK}{fn:Fn}{first captured:List Value}{vals:α->List Value}{F1:List aB}{X:List α->Prop}(step:S->α->S×Out)(inv:S->List OA)(ok:List α->S->Prop)(s0:S)(l3:α->Z->List (Nat×Value))(k3:α->Z->List OA)(h0:ok [] s0)
 (hok:∀vs s x rest,ok vs s->X (vs++x::rest)->(step s x).2=.normal->ok (vs++[x]) (step s x).1) (hit:qf P vals fn first captured F1 X)
 (ha:∀(s:S) (x:α) (lo:Nat) (o:bQ) B w0,R (λh=>EV P assign (act n ((ps.zip (vals x)).reverse++l) [] none (some lo)) h (Ar B w0 n (l3 x) lo o (λz=>k3 x z++inv s) F)) B w0 (pt lo o::inv s) F)
 (hb:∀(vs:List α) (s:S) (x:α) (rest:List α) (z:Z) (lo:Nat) (L:kX) B w0,ok vs s->X (vs++x::rest)->R (λh=>EV P body (act n (l3 x z) [] none (some lo)) h (xV B w0 lo L (λ_:Unit=>(step s x).2) (λ_=>inv (step s x).1) (λ_=>[]) (λ_=>True))) B w0 (pt lo (.loop (rZ L))::(k3 x z++inv s)) F)
 (next:∀r xs,X xs->R (λh=>K (iy step s0 xs).2 (act n l ({target:=.collected r,args:= #[]}::D) pm none) h) B w0 (inv (iy step s0 xs).1++(pt r (.fU true)::aR)) F)
 (iq:∀s x,xU (step s x).2)
 (hf:ev l f=.func fn ⟨first⟩ ⟨captured⟩:=by rfl) (hps:ps.all (λp=>Nat.blt p n)=true:=by rfl) (hlen:∀x,ps.length=(vals x).length:=by intro _;rfl)
 (hk:aM (inv s0) kl aR:=by exact kG) (hF:Sub F1 F:=by exact jV):
 R (λh=>EV P (.rangeFunc f ps assign body) (act n l D pm none) h K) B w0 kl F:=
 Y1 step inv ok s0 h0 hok hit hf hps hlen hk hF iq l3 k3 ha hb next
end
end Go.Ideal
namespace Go.Ideal
variable {P:Program}
def eO{α:Type}(E:Enc α)(aF:List (α×E.Y)):List Value:=aF.flatMap λp=>E.pat p.1 p.2
theorem CS{α:Type}{E:Enc α}:∀aF:List (α×E.Y),(eO E aF).length=aF.length*E.n
 |[]=>by simp[eO]
 |p::l=>by
  have ih:=CS l;unfold eO at ih⊢;rw[Gz,fK,ih,E.len,nE,ou];omega
theorem yg{α:Type}{E:Enc α}:∀{aF:List (α×E.Y)} {k:Nat} {p:α×E.Y} {j:Nat} {u:Value},aF[k]? =some p->(E.pat p.1 p.2)[j]? =some u->(eO E aF)[k*E.n+j]? =some u
 |[],k,p,j,u,h,_=>by cases h
 |q::l,0,p,j,u,h,hj=>by
  cases h;unfold eO;rw[Gz,DT,eG,l9 (bA.1 hj).1];exact hj
 |q::l,k+1,p,j,u,h,hj=>by
  have ih:=yg (aF:=l) (k:=k) (by simpa using h) hj;unfold eO at ih⊢;rw[Gz,pq (by rw[E.len,ou];omega),E.len,show(k+1)*E.n+j - E.n=k*E.n+j by rw[ou];omega];exact ih
theorem JA{α:Type}{E:Enc α}{j:Nat}{v:Value}:∀{aF:List (α×E.Y)} {k:Nat} {p p':α×E.Y},aF[k]? =some p->(E.pat p.1 p.2).set j v=E.pat p'.1 p'.2->j<E.n->(eO E aF).set (k*E.n+j) v=eO E (aF.set k p')
 |[],k,p,p',h,_,_=>by cases h
 |q::l,0,p,p',h,hp,hj=>by
  cases h;unfold eO;rw[Gz,DT,eG,List.set_append_left _ _ (by rw[E.len];exact hj),hp];rfl
 |q::l,k+1,p,p',h,hp,hj=>by
  have ih:=JA (aF:=l) (k:=k) (by simpa using h) hp hj;unfold eO at ih⊢;rw[Gz,List.set_append_right _ _ (by rw[E.len,ou];omega),E.len,show(k+1)*E.n+j - E.n=k*E.n+j by rw[ou];omega,ih];rfl
def qg{α:Type}(E:Enc α)(v:Value)(aF:List (α×E.Y)):aB:=
 ⟨λw=>(aF=[]/\∃a c,v=.slice a 0 c/\Jc E.n a)\/∃i o f c cells,(v=.slice (some ⟨i,o,some f⟩) aF.length c/\aF.length<=c/\(f=0\/f=E.n))/\Fz w i cells/\
  ∀(k:Nat) p,aF[k]? =some p->(∀(j:Nat) u,(E.pat p.1 p.2)[j]? =some u->cells[o+k*E.n+j]? =some u)/\∀f∈E.fs p.1 p.2,f.p w,
  λa h=>by
   rcases h with h|⟨i,o,f,c,cells,h1,h2,h3⟩
   ·exact .inl h
   ·refine .inr ⟨i,o,f,c,cells,h1,h2.mono a,λk x hk=>?_⟩;obtain⟨q1,q2⟩:=h3 k x hk;exact⟨q1,λf hf=>f.mono a (q2 f hf)⟩⟩
def vZ{α:Type}(E:Enc α)(aF:List (α×E.Y)):aB:=⟨λw=>∀p∈aF,∀f∈E.fs p.1 p.2,f.p w,λa h p hp f hf=>f.mono a (h p hp f hf)⟩
theorem Y2{α:Type}{E:Enc α}{v:Value}{aF:List (α×E.Y)}{w:Wd}(h:(qg E v aF).p w):(vZ E aF).p w:=by
 intro p hp f hf;rcases h with⟨rfl,_⟩|⟨i,o,fl,c,cells,_,_,h3⟩
 ·cases hp
 ·obtain⟨k,hk⟩:=wR.1 hp;exact(h3 k p hk).2 f hf
theorem Y3{α:Type}{E:Enc α}{v:Value}{aF:List (α×E.Y)}{w:Wd}(h:(qg E v aF).p w):(ai E v (aF.map (·.1))).p w:=by
 rcases h with⟨rfl,h⟩|⟨i,o,f,c,cells,h1,h2,h3⟩
 ·exact .inl ⟨rfl,h⟩
 ·refine .inr ⟨i,o,f,c,cells,by rw[bT];exact h1,h2,λk x hk=>?_⟩;rw[eX]at hk;cases hp:aF[k]? with
  |none=>rw[hp]at hk;cases hk
  |some p=>
   rw[hp]at hk;cases hk;exact⟨p.2,h3 k p hp⟩
theorem Qp{α:Type}{E:Enc α}{v:Value}{xs:List α}{w:Wd}(h:(ai E v xs).p w):∃aF:List (α×E.Y),aF.map (·.1)=xs/\(qg E v aF).p w:=by
 rcases h with⟨rfl,h⟩|⟨i,o,f,c,cells,h1,h2,h3⟩
 ·exact⟨[],rfl,.inl ⟨rfl,h⟩⟩
 ·obtain⟨l,hl,hp⟩:=Jj (p:=λk (p:α×E.Y)=>xs[k]? =some p.1/\(∀(j:Nat) u,(E.pat p.1 p.2)[j]? =some u->cells[o+k*E.n+j]? =some u)/\∀f∈E.fs p.1 p.2,f.p w) xs.length (λk hk=>by
   obtain⟨y,q1,q2⟩:=h3 k xs[k] (dz hk);exact⟨(xs[k],y),dz hk,q1,q2⟩)
  have hm:l.map (·.1)=xs:=by
   apply jD;intro k;rw[eX];by_cases hk:k<xs.length
   ·have hk':k<l.length:=by omega
    rw[dz hk',jr,(hp k l[k] (dz hk')).1]
   ·rw[gy (by omega),gy (by omega)];rfl
  exact⟨l,hm,.inr ⟨i,o,f,c,cells,by rw[hl];exact h1,h2,λk p hk=>(hp k p hk).2⟩⟩
def ar{α:Type}(E:Enc α)(v:Value)(aF:List (α×E.Y)):OA:=
 ⟨λw S=>(aF=[]/\(∃a,v=.slice a 0 0/\Jc E.n a)/\S=[])\/∃b f,v=.slice (some ⟨b,0,some f⟩) aF.length aF.length/\(f=0\/f=E.n)/\S=[b]/\w.h.get b=some (.cells (eO E aF)),
  λa h hp=>by
   rcases hp with hp|⟨b,f,h1,h2,h3,h4⟩
   ·exact .inl hp
   ·exact .inr ⟨b,f,h1,h2,h3,by rw[h b (by rw[h3];exact bC.2 rfl)];exact h4⟩⟩
theorem Y4{α:Type}{E:Enc α}{v:Value}{aF:List (α×E.Y)}(w w':Wd)(S:List Nat)(hp:(ar E v aF).p w S)(hle:w.Le w')(hh:w'.h=w.h)(hz:∀i∈S,w'.z i)(ha:(vZ E aF).p w):(qg E v aF).p w':=by
 rcases hp with⟨h1,⟨a,h2,h3⟩,_⟩|⟨b,f,h1,h2,h3,h4⟩
 ·exact .inl ⟨h1,a,0,h2,h3⟩
 ·refine .inr ⟨b,0,f,_,_,⟨h1,bn _,h2⟩,⟨hz b (by rw[h3];exact bC.2 rfl),.inl (by rw[hh];exact h4)⟩,λk p hk=>⟨λj u hj=>?_,λf hf=>f.mono hle (ha p (bG hk) f hf)⟩⟩;rw[eG];exact yg hk hj
section
variable {B:List Nat} {w0:Wd} {kl kl' aR:List OA} {F:List aB} {K:KO} {ds:List Tmp} {rest:List bz} {n:Nat} {l:List (Nat×Value)} {D:List Deferred} {pm:Option FrameMode} {ro:Option Nat} {d:Nat} {g:Option (Tmp×Bool)}
variable {α:Type} {E:Enc α} {v:Value}
theorem JB{xs:List α}{Q:IH->Prop}(E:Enc α)(v:Value)(h:∀aF:List (α×E.Y),aF.map (·.1)=xs->R Q B w0 kl (qg E v aF::F))(hf:ai E v xs∈F:=by exact um):R Q B w0 kl F:=λw s=>by
 obtain⟨aF,h1,h2⟩:=Qp (s.facts _ hf);exact h aF h1 w ⟨s.agree,s.le,s.dR,s.own,λf hf=>by
  rcases cK.1 hf with rfl|hf
  ·exact h2
  ·exact s.facts f hf⟩
theorem Y5{aF:List (α×E.Y)}{Q:IH->Prop}(h:R Q B w0 kl (vZ E aF::F))(hf:qg E v aF∈F:=by exact um):R Q B w0 kl F:=λw s=>
 h w ⟨s.agree,s.le,s.dR,s.own,λf hf'=>by
  rcases cK.1 hf' with rfl|hf'
  ·exact Y2 (s.facts _ hf)
  ·exact s.facts f hf'⟩
theorem EY{aF:List (α×E.Y)}{Q:IH->Prop}(h:R Q B w0 kl' (qg E v aF::ai E v (aF.map (·.1))::F))(ha:∀w,(∀f∈F,f.p w)->(vZ E aF).p w)(hk:aj (ar E v aF) kl kl':=by exact fE):R Q B w0 kl F:=λw s=>by
 have hall:=ha w s.facts
 -- freeze by hand
 obtain⟨S,⟨S1,S2,q1,q2,e⟩,h2,h3⟩:=(s.fC hk).own;subst e;let w':Wd:=⟨w.h,λi=>w.z i\/i∈S1,λi hi=>hi.elim (w.kD i) λhi=>(h3 i (jO _ hi)).2.1⟩
 have hle:w.Le w':=⟨bn _,λi hi=>.inl hi,λ_ _=>rfl⟩
 have hnd:=gM.1 h2;have hel:=Y4 w w' S1 q1 hle rfl (λi hi=>.inr hi) hall;refine h w' ⟨s.agree,s.le.trans hle,λi hi hz=>?_,⟨S2,dK.loc hle (λ_ _=>rfl) q2,hnd.2.1,λi hi=>?_⟩,λf hf=>?_⟩
 ·rcases hz with hz|hz
  ·exact s.dR i hi hz
  ·rcases(h3 i (jO _ hz)).1 with q|q
   ·omega
   ·exact .inr q
 ·have:=h3 i (pE _ hi);refine⟨this.1,this.2.1,λhz=>hz.elim this.2.2 λhm=>?_⟩;exact hnd.2.2 i hm i hi rfl
 ·rcases cK.1 hf with rfl|hf
  ·exact hel
  ·rcases cK.1 hf with rfl|hf
   ·exact Y3 hel
   ·exact f.mono hle (s.facts f hf)
theorem Qq{aF:List (α×E.Y)}{Q:IH->Prop}(hlen:0<aF.length)(h:∀b f,(f=0\/f=E.n)->v=.slice (some ⟨b,0,some f⟩) aF.length aF.length->R Q B w0 (pt b (.cells (eO E aF))::kl') F)(hk:aj (ar E v aF) kl kl':=by exact fE):R Q B w0 kl F:=λw s=>by
 have s1:=s.fC hk;obtain⟨S,⟨S1,S2,q1,q2,e⟩,h2,h3⟩:=s1.own;rcases q1 with⟨h0,_⟩|⟨b,f,h4,h5,h6,h7⟩
 ·rw[h0]at hlen;simp at hlen
 ·exact h b f h5 h4 w ⟨s1.agree,s1.le,s1.dR,⟨S,⟨S1,S2,⟨h6,h7⟩,q2,e⟩,h2,h3⟩,s1.facts⟩
theorem sF{α:Type}(E:Enc α){aF:List (α×E.Y)}{Q:IH->Prop}{b f m:Nat}(hm:m=aF.length)(hf:f=0\/f=E.n)(h:R Q B w0 (ar E (.slice (some ⟨b,0,some f⟩) m m) aF::kl') F)(hk:aj (pt b (.cells (eO E aF))) kl kl':=by exact fE):R Q B w0 kl F:=λw s=>by
 refine h w ((s.fC hk).zA (A:=pt b (.cells (eO E aF))) λw S hp=>.inr ⟨b,f,by rw[hm],hf,hp.1,hp.2⟩)
theorem Qr{aF:List (α×E.Y)}{Q:IH->Prop}(h:∀a,v=.slice a aF.length aF.length->R Q B w0 kl F)(hk:aj (ar E v aF) kl kl':=by exact fE):R Q B w0 kl F:=λw s=>by
 obtain⟨S,⟨S1,S2,q1,q2,e⟩,h2,h3⟩:=(s.fC hk).own;rcases q1 with⟨rfl,⟨a,h1,_⟩,_⟩|⟨b,f,h4,_⟩
 ·exact h a h1 w s
 ·exact h _ h4 w s
theorem EZ{x:Operand}{t e:TypeId}{m c:Nat}(hu:P.underlying t=some (.slice e))(hx:ev l x=.slice none m c):Pu P (ev l) (.bin .eql t x (.const (.slice none 0 0))) (.bool true):=λh=>by
 have he:dx P (Op.equal t (.slice none m c) (.slice none 0 0))=some true:=by
  show dx P (Op.equalIn (9999+1) t (.slice none m c) (.slice none 0 0))=_;unfold Op.equalIn;rw[fQ,oL hu];rfl
 have h1:jv P (do eqGuard .eql t x (.const (.slice none 0 0)) (.slice none m c) (.slice none 0 0);binOp .eql t (.slice none m c) (.slice none 0 0))=some (.bool true):=by
  unfold jv;rw[fQ,Ab (by intro c e;cases e) (by intro e;cases e)];simp only[gL,binOp];rw[fQ,he];rfl
 have h2:jS P .eql t x (.const (.slice none 0 0)) (.slice none m c) (.slice none 0 0)=some (.bool true):=by
  by_cases hmc:m=0/\c=0
  ·show cond (bD (Value.slice none m c)&&bD (Value.slice none 0 0)) (jv P (do eqGuard .eql t x (.const (.slice none 0 0)) (.slice none m c) (.slice none 0 0);binOp .eql t (.slice none m c) (.slice none 0 0))) _=_;rw[h1];obtain⟨rfl,rfl⟩:=hmc;simp[bD]
  ·have e0:bD (Value.slice none m c)=false:=by
    cases hb:bD (Value.slice none m c)with
    |false=>rfl
    |true=>exact absurd (by simpa[bD]using hb) hmc
   have e1:pI P t (.slice none m c) (.slice none 0 0)=some true:=by
    unfold pI;rw[hu]
   show cond (bD (Value.slice none m c)&&bD (Value.slice none 0 0)) _ (match pI P t (.slice none m c) (.slice none 0 0)with|some b=>some (Value.bool b)|none=>none)=_;rw[e0,e1];rfl
 simp only[aA.run,hx];show(match jS P .eql t x (.const (.slice none 0 0)) (.slice none m c) (.slice none 0 0)with|some v=>some (v,h)|none=>none)=_;rw[h2]
theorem Au{x:Operand}{t e:TypeId}{a:Addr}{m c:Nat}(hu:P.underlying t=some (.slice e))(hx:ev l x=.slice (some a) m c):Pu P (ev l) (.bin .eql t x (.const (.slice none 0 0))) (.bool false):=λh=>by
 have h2:jS P .eql t x (.const (.slice none 0 0)) (.slice (some a) m c) (.slice none 0 0)=some (.bool false):=by
  have:pI P t (.slice (some a) m c) (.slice none 0 0)=some false:=by
   unfold pI;rw[hu]
  show(match pI P t (.slice (some a) m c) (.slice none 0 0)with|some b=>some (Value.bool b)|none=>none)=_;rw[this]
 simp only[aA.run,hx];show(match jS P .eql t x (.const (.slice none 0 0)) (.slice (some a) m c) (.slice none 0 0)with|some v=>some (v,h)|none=>none)=_;rw[h2]
theorem JC{e:TypeId}{size bytes b c:Nat}{a:Option Addr}{s x:Operand}
 (next:R (λh=>aD P ds rest (act n ((d,.slice (some ⟨b,0,some 0⟩) 0 0)::l) D pm ro) h K) B w0 (pt b (.cells [])::kl') F)
 (hs:ev l s=.slice (some ⟨b,0,some 0⟩) 0 0:=by rfl) (hx:ev l x=.slice a 0 c:=by rfl) (hk:aj (pt b (.cells [])) kl kl':=by exact fE) (hn:Nat.blt d n=true:=by rfl) (hg:bE l g=true:=by rfl):
 R (λh=>aD P ds (⟨⟨some d,g,.append e size bytes s x⟩,[]⟩::rest) (act n l D pm ro) h K) B w0 kl F:=λw st=>by
 have st1:=st.fC hk;refine jU hn hg (v:=.slice (some ⟨b,0,some 0⟩) 0 0) (h':=w.h.set b (.cells [])) ?_ (next ⟨w.h.set b (.cells []),w.z,λi hi=>w.kD i hi⟩ st1.write);have h0:∀m,Nat.mul 0 m=0:=λm=>DT m;have e1:w.h.storeAt b 0 []=some (w.h.set b (.cells [])):=by
  unfold IH.storeAt;simp only[st1.get.1];rfl
 simp only[aA.run,hx,hs,lI,uV,sZ];show cond (Nat.ble (Nat.mul (Nat.add 0 0) bytes) small&&Nat.ble (Nat.mul (Nat.add 0 0) size) small&&Nat.ble (Nat.add 0 0) small) (cond (Nat.ble (Nat.add 0 0) 0) (match w.h.storeAt b (Nat.add 0 (Nat.mul 0 size)) []with|some h=>some (Value.slice (some ⟨b,0,some 0⟩) (Nat.add 0 0) 0,h)|none=>none) _) none=_;rw[show Nat.add 0 0=0 from rfl,h0,h0,show Nat.add 0 0=0 from rfl,e1];have:(Nat.ble 0 small&&Nat.ble 0 small&&Nat.ble 0 small)=true:=rfl;rw[this];rfl
theorem JD{α:Type}{e:TypeId}{size bytes b:Nat}{s x:Operand}(E:Enc α)(aF:List (α×E.Y))(hne:0<aF.length)(hm:aF.length*bytes<=1073741824/\aF.length*size<=1073741824/\aF.length<=1073741824)
 (next:∀b',R (λh=>aD P ds rest (act n ((d,.slice (some ⟨b',0,some size⟩) aF.length aF.length)::l) D pm ro) h K) B w0 (pt b' (.cells (eO E aF))::kl') F)
 (hs:ev l s=.slice (some ⟨b,0,some 0⟩) 0 0:=by rfl) (hx:ev l x=v:=by conv=>lhs;whnf) (hf:qg E v aF∈F:=by exact um) (hz:E.n=size:=by rfl) (hk:aj (pt b (.cells [])) kl kl':=by exact fE) (hn:Nat.blt d n=true:=by rfl) (hg:bE l g=true:=by rfl):
 R (λh=>aD P ds (⟨⟨some d,g,.append e size bytes s x⟩,[]⟩::rest) (act n l D pm ro) h K) B w0 kl F:=λw st=>by
 subst hz;have st1:=st.fC hk;have hat:At w.h b (.cells []):=st.at_ hk;obtain⟨k,hk'⟩:∃k,aF.length=k+1:=⟨aF.length - 1,by omega⟩
 rcases st.facts _ hf with⟨rfl,_⟩|⟨i,o,f,c,cells,⟨e1,hc⟩,q2,q3⟩
 ·simp at hne
 have hfl:=CS aF;have hcells:∀j,j<aF.length*E.n->cells[o+j]? =(eO E aF)[j]?:=λj hj=>by
  have hn0:0<E.n:=by
   rcases Gn E.n with h0|h0
   ·rw[h0]at hj;omega
   ·exact h0
  have hd:j/E.n<aF.length:=by rw[Nat.div_lt_iff_lt_mul hn0];exact hj
  have hmod:=Nat.mod_lt j hn0;have hpk:=dz hd;have hu:(E.pat (aF[j/E.n]).1 (aF[j/E.n]).2)[j%E.n]? =some ((E.pat (aF[j/E.n]).1 (aF[j/E.n]).2)[j%E.n]'(by rw[E.len];exact hmod)):=dz _;have h1:=(q3 (j/E.n) _ hpk).1 (j%E.n) _ hu;have h2:=yg hpk hu;have Cz:j/E.n*E.n+j%E.n=j:=by rw[Nat.mul_comm];exact Nat.div_add_mod j E.n
  rw[mQ,Cz]at h1;rw[Cz]at h2;rw[h1,h2]
 have hlen:o+aF.length*E.n<=cells.length\/aF.length*E.n=0:=by
  rcases Gn (aF.length*E.n)with h0|h0
  ·exact .inr h0
  ·left;have h1:=hcells (aF.length*E.n - 1) (by omega);have hx0:(eO E aF)[aF.length*E.n - 1]? =some ((eO E aF)[aF.length*E.n - 1]'(by omega)):=dz _;rw[hx0]at h1;have:=(bA.1 h1).1;omega
 have hpos:0<E.n\/E.n=0:=by omega
 have hread:w.h.gz i o (aF.length*E.n)=some (eO E aF):=by
  rw[q2.cells.gz,mo,mU,if_pos (by rw[qC];omega)];congr 1;apply jD;intro j;rw[sS];by_cases hj:j<aF.length*E.n
  ·rw[if_pos hj,oq];exact hcells j hj
  ·rw[if_neg hj,gy (by omega)]
 refine I4 (b:=b) (o:=0) (m:=0) (k:=k) (f:=some 0) (old:=[]) (xs:=eO E aF) hn hg hs (by rw[hx,e1,hk'];rfl) ?_ ?_ (.inl rfl) ?_ λh' mv=>?_
 ·rw[hx,e1,<- hk'];exact hread
 ·rw[hat.c.gz,DT];rfl
 ·rw[eG,<- hk'];omega
 obtain⟨w',rfl,iP,Aa⟩:=st1.move mv;rw[di]at iP;have:=next w.h.next w' iP
 rw[hk']at this;rw[eG];exact this
end
end Go.Ideal
namespace Go.Ideal
variable {P:Program}
inductive Av(P:Program)(ty:TypeId):Value->Value->Bool->Prop
 |int {a b:Int} (h:P.underlying ty=some (.int .i64)):Av P ty (.int .i64 a) (.int .i64 b) (decide (a=b))
 |str {a b:ByteArray} (h:P.underlying ty=some .string):Av P ty (.string a) (.string b) (decide (a=b))
theorem E5:dx P program=some P:=rfl
theorem JE{α:Type}{c:Prop}[Decidable c]{a b:Sem α}:dx P (if c then a else b)=if c then dx P a else dx P b:=by split<;>rfl
theorem Qs{ty:TypeId}{a b:Value}{r:Bool}(c:Av P ty a b r)(d:Nat):dx P (Op.equalIn (d+1) ty a b)=some r:=by
 cases c with
 |int h=>
  unfold Op.equalIn;rw[fQ,oL h];simp only[gL,if_true];rfl
 |str h=>
  unfold Op.equalIn;rw[fQ,oL h];show some (_==_)=_;rw[bytes_beq]
theorem E8{ty:TypeId}{a b v:Value}{r:Bool}(c:Av P ty a b r){xs:Array Value}{o:Nat}(hx:xs[o]? =some v):dx P (part ty xs o)=some v:=by
 have hu:∃d,P.underlying ty=some d/\(∀fs,d≠.struct fs)/\∀n e,d≠.array n e:=by
  cases c with
  |int h=>exact⟨_,h,(by intro _ e;cases e),(by intro _ _ e;cases e)⟩
  |str h=>exact⟨_,h,(by intro _ e;cases e),(by intro _ _ e;cases e)⟩
 obtain⟨d,h1,h2,h3⟩:=hu;have hag:dx P (isAgg ty)=some false:=by
  unfold isAgg;rw[fQ,oL h1];cases d with
  |struct fs=>exact absurd rfl (h2 fs)
  |array n e=>exact absurd rfl (h3 n e)
  |_=>rfl
 unfold part;rw[fQ,hag];show dx P (match xs[o]? with|some v=>pure v|none=>stuck "part: no such cell")=_;rw[hx];rfl
inductive Aw(P:Program)(xs ys:List Value):List Field->Bool->Prop
 |nil:Aw P xs ys [] true
 |cons {f:Field} {fs:List Field} {a b:Value} {r r':Bool} (hn:(f.name== "_")=false) (hx:xs[f.offset]? =some a) (hy:ys[f.offset]? =some b) (c:Av P f.type a b r) (t:Aw P xs ys fs r'):Aw P xs ys (f::fs) (r&&r')
theorem Y6{d:Nat}{t:TypeId}{fs:Array Field}{xs ys:List Value}{r:Bool}(hu:P.underlying t=some (.struct fs))(hp:P.stoodInHeld t=false)(h:Aw P xs ys fs.toList r):dx P (Op.equalIn (d+2) t (.agg ⟨xs⟩) (.agg ⟨ys⟩))=some r:=by
 unfold Op.equalIn;rw[fQ,oL hu];simp only[gL];rw[fQ,E5];simp only[gL,hp,rG,if_false];rw[<- Array.forIn_toList];generalize fs.toList=l at h;clear hu;induction h with
 |nil=>rfl
 | @cons f fs a b r r' hn hx hy c t ih=>
   have hn:f.name≠ "_" :=by simpa using hn
   rw[List.forIn_cons];simp only[fQ,JE,if_pos hn,hn,ne_eq,not_false_eq_true,if_true]at ih⊢;rw[E8 (xs:=⟨xs⟩) c (by simpa using hx),gL,E8 (xs:=⟨ys⟩) c (by simpa using hy),gL,Qs c,gL];cases r with
   |false=>rfl
   |true=>exact ih
section
variable {l:List (Nat×Value)}
theorem Y7{op:BinOp}{t:TypeId}{x y:Operand}{a b:Array Value}(hm:P.eqGuardType P.depth t=false):dx P (eqGuard op t x y (.agg a) (.agg b))=some ():=by
 have key:dx P (do if !(<- program).eqGuardType (<- program).depth t then return
                   if <- Op.eqGuardIn Op.maxDepth t (.agg a) (.agg b)then unsupported (.noEntry "binop/eql: two nil values of an interface type with methods, in a part of a struct or an array"))=some ():=by
  rw[fQ,E5];simp only[gL];rw[fQ,E5];simp only[gL,hm,Bool.not_false,if_true];rfl
 cases op<;>first|exact key|rfl
theorem Qt{op:BinOp}{t:TypeId}{x y:Operand}{a b:List Value}{v:Value}(ha:fD a=true)(hb:fD b=true)(hm:P.eqGuardType P.depth t=false)(hv:dx P (binOp op t (.agg ⟨a⟩) (.agg ⟨b⟩))=some v)(hf:bD v=true):jS P op t x y (.agg ⟨a⟩) (.agg ⟨b⟩)=some v:=by
 have h1:jv P (do eqGuard op t x y (.agg ⟨a⟩) (.agg ⟨b⟩);binOp op t (.agg ⟨a⟩) (.agg ⟨b⟩))=some v:=by
  unfold jv;rw[fQ,Y7 hm];simp only[gL,hv,hf,cond]
 show cond (bD (.agg ⟨a⟩)&&bD (.agg ⟨b⟩)) (jv P (do eqGuard op t x y (.agg ⟨a⟩) (.agg ⟨b⟩);binOp op t (.agg ⟨a⟩) (.agg ⟨b⟩))) _=_;rw[h1];simp[bD,ha,hb]
theorem Qu{x y:Operand}{t:TypeId}{fs:Array Field}{xs ys:List Value}{r:Bool}(hx:ev l x=.agg ⟨xs⟩)(hy:ev l y=.agg ⟨ys⟩)(hu:P.underlying t=some (.struct fs))(hp:P.stoodInHeld t=false)(hm:P.eqGuardType P.depth t=false)(h:Aw P xs ys fs.toList r)(ha:fD xs=true)(hb:fD ys=true):
 Pu P (ev l) (.bin .neq t x y) (.bool (!r)):=λh0=>by
 simp only[aA.run,hx,hy];rw[Qt ha hb hm (v:=.bool (!r)) (by
  show dx P (do pure (Value.bool (!(<- Op.equal t (.agg ⟨xs⟩) (.agg ⟨ys⟩)))))=_;rw[fQ,show dx P (Op.equal t (.agg ⟨xs⟩) (.agg ⟨ys⟩))=some r from Y6 (d:=9998) hu hp h];rfl) rfl]
theorem Qv{d n:Nat}{t e:TypeId}{xs ys:List Int}(hu:P.underlying t=some (.array n e))(he:P.underlying e=some (.int .i64))(hs:P.info? e|>.map (·.size)|>(·=some 1))(hx:xs.length=n)(hy:ys.length=n):
 dx P (Op.equalIn (d+2) t (.agg ⟨xs.map (.int .i64)⟩) (.agg ⟨ys.map (.int .i64)⟩))=some (decide (xs=ys)):=by
 have hsz:dx P (sizeOf e)=some 1:=by
  unfold sizeOf typeInfo;cases hi:P.info? e with
  |none=>rw[hi]at hs;cases hs
  |some i=>
   rw[hi]at hs;have hs:i.size=1:=by simpa using hs
   simp only[fQ,E5,gL,hi];rw[<- hs];rfl
 unfold Op.equalIn;rw[fQ,oL hu];simp only[gL];rw[fQ,hsz];simp only[gL,yR];rw[Std.Legacy.Range.forIn_eq_forIn_range'];simp only[Std.Legacy.Range.size,Bq,GA,Nat.div_one];have key:∀(m i:Nat),i+m=n->dx P (do
  let Qw <- forIn (List.range' i m 1) ((none,()):Option Bool×Unit) λi Qw=>
   (do let a <- part e ⟨xs.map (.int .i64)⟩ i
       let b <- part e ⟨ys.map (.int .i64)⟩ i
       let r <- Op.equalIn (d+1) e a b
       if(!r)=true then pure (ForInStep.done (some false,()))else pure (ForInStep.yield (none,())))
  match Qw.fst with
  |some r=>pure r
  |none=>pure true)=some (decide (xs.drop i=ys.drop i)):=by
  intro m;induction m with
  |zero=>
   intro i hi;rw[List.drop_eq_nil_of_le (by omega),List.drop_eq_nil_of_le (by omega)];rfl
  |succ m ih=>
   intro i hi;have hix:i<xs.length:=by omega
   have Qx:i<ys.length:=by omega
   have c:Av P e (.int .i64 xs[i]) (.int .i64 ys[i]) (decide (xs[i]=ys[i])):=.int he;rw[List.range'_succ,List.forIn_cons];simp only[fQ,JE];rw[E8 (xs:=⟨xs.map (.int .i64)⟩) (o:=i) (v:=.int .i64 xs[i]) c (by simp[hix]),gL,E8 (xs:=⟨ys.map (.int .i64)⟩) (o:=i) (v:=.int .i64 ys[i]) c (by simp[Qx]),gL,Qs c,gL];rw[rM hix,rM Qx];have ih:=ih (i+1) (by omega);simp only[fQ,JE]at ih;by_cases hxy:xs[i]=ys[i]
   ·rw[dU hxy];simp only[Bool.not_true,rG,if_false];show(dx P _).bind _=_;rw[show decide (xs[i]::xs.drop (i+1)=ys[i]::ys.drop (i+1))=decide (xs.drop (i+1)=ys.drop (i+1))from rO.2 (by rw[yP];exact⟨λh=>h.2,λh=>⟨hxy,h⟩⟩)];exact ih
   ·rw[cO hxy];simp only[Bool.not_false,if_true];rw[show decide (xs[i]::xs.drop (i+1)=ys[i]::ys.drop (i+1))=false from cO (λh=>hxy (List.cons.inj h).1)];rfl
 have:=key n 0 (by omega);rw[wQ,wQ]at this;refine Eq.trans ?_ this;simp only[fQ];congr 1;funext s
 cases s.fst<;>rfl
theorem Y8{x y:Operand}{n:Nat}{t e:TypeId}{xs ys:List Int}(hx:ev l x=.agg ⟨xs.map (.int .i64)⟩)(hy:ev l y=.agg ⟨ys.map (.int .i64)⟩)(hu:P.underlying t=some (.array n e))(he:P.underlying e=some (.int .i64))(hs:P.info? e|>.map (·.size)|>(·=some 1))(hxl:xs.length=n)(hyl:ys.length=n)(hm:P.eqGuardType P.depth t=false):
 Pu P (ev l) (.bin .eql t x y) (.bool (decide (xs=ys))):=λh0=>by
 have hfr:∀zs:List Int,fD (zs.map (Value.int .i64))=true:=by
  intro zs;induction zs with
  |nil=>rfl
  |cons z zs ih=>rw[fG];simp[fD,bD,Ideal.cellV,ih]
 simp only[aA.run,hx,hy];rw[Qt (hfr xs) (hfr ys) hm (v:=.bool (decide (xs=ys))) (by
  show dx P (do pure (Value.bool (<- Op.equal t (.agg ⟨xs.map (.int .i64)⟩) (.agg ⟨ys.map (.int .i64)⟩))))=_;rw[fQ,show dx P (Op.equal t (.agg ⟨xs.map (.int .i64)⟩) (.agg ⟨ys.map (.int .i64)⟩))=some (decide (xs=ys))from Qv (d:=9998) hu he hs hxl hyl];rfl) rfl]
def CU(P:Program):List Field->Nat->List Bool->Bool
 |[],_,[]=>true
 |f::fs,i,k::ks=>!(f.name== "_")&&f.offset==i&&(match P.underlying f.type with
  |some (.int .i64)=>k
  |some .string=>!k
  |_=>false)&&CU P fs (i+1) ks
 |_,_,_=>false
def cellsE:List Value->List Value->Bool
 | .int .i64 a::xs,.int .i64 b::ys=>decide (a=b)&&cellsE xs ys
 | .string a::xs,.string b::ys=>decide (a=b)&&cellsE xs ys
 |_,_=>true
def E9:List Bool->List Value->Bool
 |[],[]=>true
 |true::ks,.int .i64 _::vs=>E9 ks vs
 |false::ks,.string _::vs=>E9 ks vs
 |_,_=>false
theorem row_of{xs ys:List Value}:∀{fs:List Field} {i:Nat} {ks:List Bool} {xs' ys':List Value},CU P fs i ks=true->E9 ks xs'=true->E9 ks ys'=true->(∀j,xs[i+j]? =xs'[j]?)->(∀j,ys[i+j]? =ys'[j]?)->Aw P xs ys fs (cellsE xs' ys')
 |[],i,[],[],[],_,_,_,_,_=>.nil
 |f::fs,i,k::ks,[],ys',h,hx,hy,ex,ey=>by cases k<;>cases hx
 |f::fs,i,k::ks,x::xs',[],h,hx,hy,ex,ey=>by cases k<;>cases hy
 |f::fs,i,k::ks,x::xs',y::ys',h,hx,hy,ex,ey=>by
  simp only[CU,fB]at h;obtain⟨⟨⟨h1,h2⟩,h3⟩,h4⟩:=h;have h2:f.offset=i:=by simpa using h2
  have e1:xs[f.offset]? =some x:=by have:=ex 0;rw[yO]at this;rw[h2,this];rfl
  have e2:ys[f.offset]? =some y:=by have:=ey 0;rw[yO]at this;rw[h2,this];rfl
  have Qy:∀j,xs[i+1+j]? =xs'[j]?:=λj=>by have:=ex (j+1);rw[show i+1+j=i+(j+1)by omega,this];rfl
  have Qz:∀j,ys[i+1+j]? =ys'[j]?:=λj=>by have:=ey (j+1);rw[show i+1+j=i+(j+1)by omega,this];rfl
  cases k with
  |true=>
   match x,hx,y,hy with
   | .int .i64 a,hx,.int .i64 b,hy=>
     have hu:P.underlying f.type=some (.int .i64):=by
      cases hq:P.underlying f.type with
      |none=>rw[hq]at h3;cases h3
      |some q=>
       rw[hq]at h3;cases q with
       |int kk=>cases kk<;>first|rfl|cases h3
       |string=>cases h3
       |_=>cases h3
     exact .cons (by simpa using h1) e1 e2 (.int hu) (row_of h4 hx hy Qy Qz)
  |false=>
   match x,hx,y,hy with
   | .string a,hx,.string b,hy=>
     have hu:P.underlying f.type=some .string:=by
      cases hq:P.underlying f.type with
      |none=>rw[hq]at h3;cases h3
      |some q=>
       rw[hq]at h3;cases q with
       |int kk=>cases kk<;>cases h3
       |string=>rfl
       |_=>cases h3
     exact .cons (by simpa using h1) e1 e2 (.str hu) (row_of h4 hx hy Qy Qz)
end

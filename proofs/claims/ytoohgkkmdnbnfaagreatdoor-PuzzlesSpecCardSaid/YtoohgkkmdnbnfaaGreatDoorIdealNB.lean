/-
  The ideal machine, 66: functions that may panic; deferred functions that recover.
-/
import Derived.Test.YtoohgkkmdnbnfaaGreatDoorIdealMB
import Derived.Sort.Row
import Derived.Sort.Grow
import Derived.Laws.StructEq
set_option linter.all false
namespace Go.Ideal
variable {P:Program}
def yL{Y:Type}(B:List Nat)(w0:Wd)(ret:Y->iy)(kl':Y->List OA)(fs:Y->List aJ)(pr:Y->Prop):KR:=λr pm h'=>
 pm=none/\∃(w':Wd) (y:Y),w'.h=h'/\St B w0 (kl' y) (fs y) w'/\r=ret y/\pr y
def oN{Y:Type}(P:Program)(fn:Fn)(args cap:List Value)(kl:List OA)(F:List aJ)(ret:Y->iy)(kl':Y->List OA)(fs:Y->List aJ)(pr:Y->Prop):Prop:=
 ∀(B:List Nat) (w:Wd),St B w kl F w->CALL P ⟨fn,args,cap,none⟩ w.h (yL B w ret kl' fs pr)
theorem oN.toC{Y:Type}{fn:Fn}{args cap:List Value}{kl:List OA}{F:List aJ}{ret:Y->iy}{kl':Y->List OA}{fs:Y->List aJ}{pr:Y->Prop}(val:Y->Value)(h:oN P fn args cap kl F ret kl' fs pr)
 (hv:∀y,pr y->ret y=.ok (val y)):aZ P fn args cap kl F val kl' fs pr:=λB w s=>by
 refine .qL _ (h B w s) ?_;rintro r pm h' ⟨e,w',y,e1,st,er,hp⟩;exact⟨e,w',y,e1,st,er.trans (hv y hp),hp⟩
def JW{Y:Type}(B:List Nat)(w0:Wd)(ret:Y->iy)(md:Y->FrameMode)(kl':Y->List OA)(fs:Y->List aJ)(pr:Y->Prop):KR:=λr pm h'=>
 ∃(w':Wd) (y:Y),pm=some (md y)/\w'.h=h'/\St B w0 (kl' y) (fs y) w'/\r=ret y/\pr y
def FX{Y:Type}(P:Program)(fn:Fn)(args cap:List Value)(m:FrameMode)(kl:List OA)(F:List aJ)(ret:Y->iy)(md:Y->FrameMode)(kl':Y->List OA)(fs:Y->List aJ)(pr:Y->Prop):Prop:=
 ∀(B:List Nat) (w:Wd),St B w kl F w->CALL P ⟨fn,args,cap,some m⟩ w.h (JW B w ret md kl' fs pr)
theorem Ps{K:KR}{f:FuncId}{args cap:List Value}{pm:Option FrameMode}{c:dm}{m:Nat}{l0:List (Nat×Value)}(cf:gF)(hF:(mJ P oI oJ).F f=some cf)(h1:cf.body=c)(h2:pJ cf.ntmps (ig (args++cap))=m)(h3:nP 0 (args++cap) []=l0){h:IH}
 (hb:EV P c (act m l0 [] pm none) h (pY P cf K)):CALL P ⟨.func f,args,cap,pm⟩ h K:=by
 obtain⟨fn,e1,e2⟩:=(wF P oI oJ (λf q h v h' hm=>by cases hm)).fn f cf hF;refine OE cf fn e1 e2 ?_;rw[JN,h1,h2,h3];exact hb
theorem wQ{Y:Type}{f:FuncId}{args cap:List Value}{kl:List OA}{F:List aJ}{ret:Y->iy}{kl':Y->List OA}{fs:Y->List aJ}{pr:Y->Prop}{c:dm}{m:Nat}{l0:List (Nat×Value)}(cf:gF)(hF:(mJ P oI oJ).F f=some cf)
 (hb:∀B w0,R (λh=>EV P c (act m l0 [] none none) h (pY P cf (yL B w0 ret kl' fs pr))) B w0 kl F)
 (h1:cf.body=c:=by conv=>lhs;(reduce;(try simp only[Int.reduceOfNat,Int.reduceNegSucc]))) (h2:pJ cf.ntmps (ig (args++cap))=m:=by conv=>lhs;whnf) (h3:nP 0 (args++cap) []=l0:=by dsimp only[nP,Nat.reduceAdd,List.append_nil,List.cons_append,List.nil_append]):oN P (.func f) args cap kl F ret kl' fs pr:=
 λB w s=>Ps cf hF h1 h2 h3 (hb B w w s)
theorem Pt{Y:Type}{f:FuncId}{args cap:List Value}{pm:FrameMode}{kl:List OA}{F:List aJ}{ret:Y->iy}{md:Y->FrameMode}{kl':Y->List OA}{fs:Y->List aJ}{pr:Y->Prop}{c:dm}{m:Nat}{l0:List (Nat×Value)}(cf:gF)(hF:(mJ P oI oJ).F f=some cf)
 (hb:∀B w0,R (λh=>EV P c (act m l0 [] (some pm) none) h (pY P cf (JW B w0 ret md kl' fs pr))) B w0 kl F)
 (h1:cf.body=c:=by conv=>lhs;(reduce;(try simp only[Int.reduceOfNat,Int.reduceNegSucc]))) (h2:pJ cf.ntmps (ig (args++cap))=m:=by conv=>lhs;whnf) (h3:nP 0 (args++cap) []=l0:=by dsimp only[nP,Nat.reduceAdd,List.append_nil,List.cons_append,List.nil_append]):FX P (.func f) args cap pm kl F ret md kl' fs pr:=
 λB w s=>Ps cf hF h1 h2 h3 (hb B w w s)
section
variable {B:List Nat} {w0:Wd} {kl kl' bA:List OA} {F:List aJ} {K:KO} {ds:List Tmp} {rest:List bO} {n:Nat} {l:List (Nat×Value)} {D:List Deferred} {pm:Option FrameMode} {ro:Option Nat} {d:Nat} {g:Option (Tmp×Bool)}
theorem St.JX{w:Wd}{k1 bA:List OA}{F1:List aJ}(s:St B w0 kl F w)(hk:aH k1 kl bA)(hF:Sub F1 F):
 ∃S1,St S1 w k1 F1 w/\∀(w':Wd) (k1':List OA) (F':List aJ),St S1 w k1' F' w'->St B w0 (k1'++bA) (F'++F) w':=by
 obtain⟨S,h1,h2,h3⟩:=s.own;obtain⟨S1,S2,q1,q2,hp⟩:=h1.jB hk;have hsub:∀i∈S1,i∈S:=λi hi=>hp.mem_iff.2 (kw _ hi);exact⟨S1,⟨⟨bI _,λ_ _ _=>rfl,λ_ _=>rfl⟩,Wd.Le.refl w,λi _ hz=>.inl hz,⟨S1,q1,(iA.1 (hp.nodup h2)).1,λi hi=>⟨.inr hi,(h3 i (hsub i hi)).2⟩⟩,λf hf=>s.facts f (hF.mem f hf)⟩,
  λw' k1' F' c=>s.call (k1:=k1) (F1:=F1) ⟨S,hp,h2,h3⟩ q2 c⟩
theorem Za{Y:Type}{f:Operand}{xs:List Operand}{re:List gI}{fn:Fn}{first captured vs as:List Value}{k1:List OA}{F1:List aJ}{ret:Y->iy}{k1':Y->List OA}{fs:Y->List aJ}{pr:Y->Prop}
 (hc:oN P fn as captured k1 F1 ret k1' fs pr) (hn:Nat.blt d n=true) (hg:bS l g=true) (hf:ev l f=.func fn ⟨first⟩ ⟨captured⟩) (hx:EvL (ev l) xs vs) (ha:first++vs=as)
 (hk:aH k1 kl bA) (hF:Sub F1 F)
 (hs:∀y v,pr y->ret y=.ok v->Same P re (ev ((d,v)::l)) ((d,v)::l) B w0 (k1' y++bA) (fs y++F))
 (next:∀y v,pr y->ret y=.ok v->R (λh=>aD P ds rest (act n ((d,v)::l) D pm ro) h K) B w0 (k1' y++bA) (fs y++F))
 (Dx:∀y ch,pr y->ret y=.fB ch->R (λh=>K (.panic ch) (act n (yB ds n l) D pm ro) h) B w0 (k1' y++bA) (fs y++F)):
 R (λh=>aD P ds (⟨⟨some d,g,.call f xs⟩,re⟩::rest) (act n l D pm ro) h K) B w0 kl F:=by
 intro w s;obtain⟨S1,s1,back⟩:=s.JX hk hF;have hcall:=hc S1 w s1;subst ha;rw[<- hx.map]at hcall;refine s_call hn hg fn hf _ hcall ?_ ?_ ?_ ?_
 ·rintro v h' ⟨_,w',y,rfl,c,hv,hpr⟩;exact hs y v hpr hv.symm w' (back w' _ _ c)
 ·rintro v h' ⟨_,w',y,rfl,c,hv,hpr⟩;exact next y v hpr hv.symm w' (back w' _ _ c)
 ·rintro ch h' ⟨_,w',y,rfl,c,hv,hpr⟩;rw[FB];exact Dx y ch hpr hv.symm w' (back w' _ _ c)
 ·rintro r p h' ⟨e,_⟩;exact e
theorem sD{Y:Type}{f:Operand}{xs:List Operand}{re:List gI}{fn:Fn}{first captured vs as:List Value}{k1:List OA}{F1:List aJ}{ret:Y->iy}{k1':Y->List OA}{fs:Y->List aJ}{pr:Y->Prop}{dX:Y->List OA}{F2:Y->List aJ}
 (hc:oN P fn as captured k1 F1 ret k1' fs pr)
 (next:∀y v,pr y->ret y=.ok v->R (λh=>aD P ds rest (act n ((d,v)::l) D pm ro) h K) B w0 (dX y) (F2 y))
 (Dx:∀y ch,pr y->ret y=.fB ch->R (λh=>K (.panic ch) (act n (yB ds n l) D pm ro) h) B w0 (dX y) (F2 y))
 (hn:Nat.blt d n=true:=by rfl) (hg:bS l g=true:=by rfl) (hf:ev l f=.func fn ⟨first⟩ ⟨captured⟩:=by rfl) (hx:EvL (ev l) xs vs:=by repeat (first|with_reducible exact EvL.nil|((with_reducible apply EvL.cons);(conv=>lhs;whnf)))) (ha:first++vs=as:=by rfl)
 (hk:aH k1 kl bA:=by exact nD) (hF:Sub F1 F:=by exact mQ) (hk2:∀y,bF (k1' y) bA (dX y):=by intro y;repeat (first|exact bF.nil|apply bF.cons|exact bF.self|exact bF.app)) (hF2:∀y,bF (fs y) F (F2 y):=by intro y;repeat (first|exact bF.nil|apply bF.cons|exact bF.self|exact bF.app))
 (hs:∀y v,pr y->ret y=.ok v->Same P re (ev ((d,v)::l)) ((d,v)::l) B w0 (dX y) (F2 y):=by intro _ _ _ _;repeat (first|exact yH|refine yI rfl (by repeat (first|with_reducible exact ay.here|with_reducible apply ay.there|with_reducible apply ay.app)) (by first|exact rfl|(conv=>lhs;whnf)) rfl ?_|refine Ad rfl (by(repeat (first|with_reducible exact dx .. |with_reducible apply dA));first|done|fail) (by first|exact rfl|(conv=>lhs;whnf)) rfl ?_|refine Ae rfl (by(repeat (first|with_reducible exact dx .. |with_reducible apply dA));first|done|fail) (by first|exact rfl|(conv=>lhs;whnf)) rfl ?_|refine Af rfl (by repeat (first|with_reducible exact ay.here|with_reducible apply ay.there|with_reducible apply ay.app)) (by first|exact rfl|(conv=>lhs;whnf)) rfl ?_|refine Ag rfl (by(repeat (first|with_reducible exact dx .. |with_reducible apply dA));first|done|fail) (by first|exact rfl|(conv=>lhs;whnf)) rfl ?_|refine Ah rfl (by(repeat (first|with_reducible exact dx .. |with_reducible apply dA));first|done|fail) (by first|exact rfl|(conv=>lhs;whnf)) rfl ?_)):
 R (λh=>aD P ds (⟨⟨some d,g,.call f xs⟩,re⟩::rest) (act n l D pm ro) h K) B w0 kl F:=
 Za hc hn hg hf hx ha hk hF (λy v a b=>by rw[(hk2 y).eq,(hF2 y).eq];exact hs y v a b) (λy v a b=>by rw[(hk2 y).eq,(hF2 y).eq];exact next y v a b) (λy v a b=>by rw[(hk2 y).eq,(hF2 y).eq];exact Dx y v a b)
theorem Ap{x:Operand}{t:TypeId}{v:Value}{dst:Option Tmp}{re:List gI}
 (next:R (λh=>K (.panic [{v:=.iface t v,recovered:=false}]) (act n (yB ds n l) D pm ro) h) B w0 kl F)
 (hx:ev l x=.iface t v:=by rfl) (hg:bS l g=true:=by rfl):R (λh=>aD P ds (⟨⟨dst,g,.panic x⟩,re⟩::rest) (act n l D pm ro) h K) B w0 kl F:=λw s=>XI hg hx (next w s)
theorem Zb{f:Operand}{args:List Operand}{fn:Fn}{first captured vs:List Value}
 (next:R (λh=>aD P ds rest (act n l ({target:=.fn fn ⟨captured⟩,args:=⟨first++vs⟩}::D) pm none) h K) B w0 kl F)
 (hf:ev l f=.func fn ⟨first⟩ ⟨captured⟩:=by rfl) (hx:EvL (ev l) args vs:=by repeat (first|with_reducible exact EvL.nil|((with_reducible apply EvL.cons);(conv=>lhs;whnf)))) (hg:bS l g=true:=by rfl):
 R (λh=>aD P ds (⟨⟨none,g,.dcall f args⟩,[]⟩::rest) (act n l D pm none) h K) B w0 kl F:=λw s=>by
 refine XJ hg rfl hf ?_;rw[hx.map];exact next w s
theorem Pv{m:FrameMode}{v:Value}{m':FrameMode}(he:jg m=(v,m'))
 (next:R (λh=>aD P ds rest (act n ((d,v)::l) D (some m') none) h K) B w0 kl F) (hn:Nat.blt d n=true:=by rfl) (hg:bS l g=true:=by rfl):
 R (λh=>aD P ds (⟨⟨some d,g,.recover⟩,[]⟩::rest) (act n l D (some m) none) h K) B w0 kl F:=λw s=>by
 refine XK hn hg rfl ?_;rw[he];exact next w s
def RL(P:Program)(cf:gF)(l:List (Nat×Value))(D:List Deferred)(m:FrameMode)(Kr:iy->IH->Prop)(B:List Nat)(w0:Wd)(kl:List OA)(F:List aJ):Prop:=∀w,St B w0 kl F w->LEAVE P cf (iC l) D m w.h Kr
theorem Dy{cf:gF}{Kr:KR}{o:Out}{m:FrameMode}(h:RL P cf l D m (λr h=>Kr r pm h) B w0 kl F)(hm:rP o=some m:=by rfl):R (λh=>pY P cf Kr o (act n l D pm ro) h) B w0 kl F:=λw s=>by
 show(match rP o with
  |none=>False
  |some m=>LEAVE P cf (iC l) D m w.h λr h''=>Kr r pm h'')
 rw[hm];exact h w s
variable {cf:gF} {Kr:iy->IH->Prop}
theorem Zc{vs:List Value}(hk:∀w,St B w0 kl F w->Kr (.ok (pW vs)) w.h)(hr:RS l kl cf.results vs:=by exact Ai):RL P cf l [] .returning Kr B w0 kl F:=λw s=>by
 refine .ret (pW vs) ?_ (hk w s);unfold oH;rw[hr.all s];match vs with
 |[]=>rfl
 |[v]=>rfl
 |_::_::_=>rfl
theorem Pw{Y:Type}{fn:Fn}{captured args:List Value}{m:FrameMode}{k1:List OA}{F1:List aJ}{ret:Y->iy}{md:Y->FrameMode}{k1':Y->List OA}{fs:Y->List aJ}{pr:Y->Prop}{dX:Y->List OA}{F2:Y->List aJ}
 (hc:FX P fn args captured m k1 F1 ret md k1' fs pr)
 (next:∀y v,pr y->ret y=.ok v->RL P cf l D (vZ (md y)) Kr B w0 (dX y) (F2 y))
 (Dx:∀y ch,pr y->ret y=.fB ch->RL P cf l D (zD (md y) ch) Kr B w0 (dX y) (F2 y))
 (hk:aH k1 kl bA:=by exact nD) (hF:Sub F1 F:=by exact mQ) (hk2:∀y,bF (k1' y) bA (dX y):=by intro y;repeat (first|exact bF.nil|apply bF.cons|exact bF.self|exact bF.app)) (hF2:∀y,bF (fs y) F (F2 y):=by intro y;repeat (first|exact bF.nil|apply bF.cons|exact bF.self|exact bF.app)) (hm:m≠.run:=by intro e;cases e):
 RL P cf l ({target:=.fn fn ⟨captured⟩,args:=⟨args⟩}::D) m Kr B w0 kl F:=λw s=>by
 obtain⟨S1,s1,back⟩:=s.JX hk hF;refine .call hm _ (hc S1 w s1) ?_ ?_ ?_
 ·rintro r p h' ⟨w',y,e,_⟩ hp;rw[e]at hp;cases hp
 ·rintro v m' h' ⟨w',y,e,rfl,c,hv,hpr⟩;injection e with e;subst e;have:=next y v hpr hv.symm w' (by rw[<- (hk2 y).eq,<- (hF2 y).eq];exact back w' _ _ c)
  exact this
 ·rintro ch m' h' ⟨w',y,e,rfl,c,hv,hpr⟩;injection e with e;subst e;exact Dx y ch hpr hv.symm w' (by rw[<- (hk2 y).eq,<- (hF2 y).eq];exact back w' _ _ c)
theorem yM{Y:Type}{o:Out}{vs:List Value}{ret:Y->iy}{k1:Y->List OA}{fs:Y->List aJ}{pr:Y->Prop}{dX:List OA}(y:Y)(hv:ret y=.ok (pW vs))(hp:pr y)(hD:jC kl D dX:=by repeat (first|exact jC.nil|(apply jC.cons;(focus (repeat (first|with_reducible exact ay.here|with_reducible apply ay.there|with_reducible apply ay.app))))))
 (hr:RS l dX cf.results vs:=by exact Ai) (hk:aH (k1 y) dX bA:=by exact nD) (hF:Sub (fs y) F:=by exact mQ) (ho:o=.normal\/o=.ret:=by first|exact .inl rfl|exact .inr rfl):
 R (λh=>pY P cf (yL B w0 ret k1 fs pr) o (act n l D none ro) h) B w0 kl F:=by
 refine Dy (m:=.returning) ?_ (by rcases ho with rfl|rfl<;>rfl);intro w s;refine jC.leave hD (λw' s'=>⟨pW vs,?_,rfl,w',y,rfl,((s'.jB hk).drop).sub hF,hv.symm,hp⟩) w s;unfold oH;rw[hr.all s'];match vs with
 |[]=>rfl
 |[v]=>rfl
 |_::_::_=>rfl
theorem jC.Px{ts:T Value}{ch:List PanicEntry}:∀{D:List Deferred} {kl dX:List OA},jC kl D dX->(∀w',St B w0 dX F w'->Kr (.fB ch) w'.h)->∀w,St B w0 kl F w->LEAVE P cf ts D (.panicking ch) w.h Kr
 |_,_,_,.nil,hk,w,s=>.fB ch (hk w s)
 |_,_,_,.cons (r:=r) h t,hk,w,s=>by
  have s1:=s.fK h;refine .coll (by intro e;cases e) r s1.get.1 ?_;exact jC.Px t hk _ (s1.write (o':=.iI false)).tail
theorem yN{Y:Type}{ch:List PanicEntry}{ret:Y->iy}{k1:Y->List OA}{fs:Y->List aJ}{pr:Y->Prop}{dX:List OA}(y:Y)(hv:ret y=.fB ch)(hp:pr y)(hD:jC kl D dX:=by repeat (first|exact jC.nil|(apply jC.cons;(focus (repeat (first|with_reducible exact ay.here|with_reducible apply ay.there|with_reducible apply ay.app))))))
 (hk:aH (k1 y) dX bA:=by exact nD) (hF:Sub (fs y) F:=by exact mQ):
 R (λh=>pY P cf (yL B w0 ret k1 fs pr) (.panic ch) (act n l D none ro) h) B w0 kl F:=by
 refine Dy (m:=.panicking ch) ?_;intro w s;exact jC.Px hD (λw' s'=>⟨rfl,w',y,rfl,((s'.jB hk).drop).sub hF,hv.symm,hp⟩) w s
theorem Py{Y:Type}{o:Out}{vs:List Value}{ret:Y->iy}{m:FrameMode}{md:Y->FrameMode}{k1:Y->List OA}{fs:Y->List aJ}{pr:Y->Prop}{dX:List OA}(y:Y)(hv:ret y=.ok (pW vs))(hm:md y=m)(hp:pr y)(hD:jC kl D dX:=by repeat (first|exact jC.nil|(apply jC.cons;(focus (repeat (first|with_reducible exact ay.here|with_reducible apply ay.there|with_reducible apply ay.app))))))
 (hr:RS l dX cf.results vs:=by exact Ai) (hk:aH (k1 y) dX bA:=by exact nD) (hF:Sub (fs y) F:=by exact mQ) (ho:o=.normal\/o=.ret:=by first|exact .inl rfl|exact .inr rfl):
 R (λh=>pY P cf (JW B w0 ret md k1 fs pr) o (act n l D (some m) ro) h) B w0 kl F:=by
 refine Dy (m:=.returning) ?_ (by rcases ho with rfl|rfl<;>rfl);intro w s;refine jC.leave hD (λw' s'=>⟨pW vs,?_,w',y,by rw[hm],rfl,((s'.jB hk).drop).sub hF,hv.symm,hp⟩) w s;unfold oH;rw[hr.all s'];match vs with
 |[]=>rfl
 |[v]=>rfl
 |_::_::_=>rfl
theorem Pz{Y:Type}{ret:Y->iy}{k1:Y->List OA}{fs:Y->List aJ}{pr:Y->Prop}{vs:List Value}(y:Y)(hv:ret y=.ok (pW vs))(hp:pr y)(hr:RS l kl cf.results vs:=by exact Ai)(hk:aH (k1 y) kl bA:=by exact nD)(hF:Sub (fs y) F:=by exact mQ):
 RL P cf l [] .returning (λr h=>yL B w0 ret k1 fs pr r none h) B w0 kl F:=
 Zc (λw s=>⟨rfl,w,y,rfl,((s.jB hk).drop).sub hF,hv.symm,hp⟩) hr
end
end Go.Ideal
namespace Go.Ideal
variable {P:Program}
theorem PD{α β:Type}(f:α->β)(hf:∀a b,f a=f b->a=b){l1 l2:List α}(h:(l1.map f).Perm (l2.map f)):l1.Perm l2:=by
 classical
 rw[List.perm_iff_count];intro a;have:=h.count_eq (f a);have key:∀l:List α,(l.map f).count (f a)=l.count a:=by
  intro l;induction l with
  |nil=>rfl
  |cons x l ih=>
   rw[gY,List.count_cons,List.count_cons,ih];by_cases e:x=a
   ·subst e;simp
   ·have:¬f x=f a:=λh=>e (hf _ _ h);simp[e,this]
 rw[key,key]at this;exact this
theorem PE{α β:Type}{f:α->β}:∀{l:List α},(l.map f).Nodup->∀{a b:α},a∈l->b∈l->f a=f b->a=b
 |[],_,a,b,ha,_,_=>by cases ha
 |x::l,h,a,b,ha,hb,e=>by
  rw[gY,Bo]at h;obtain⟨hx,hl⟩:=h;rcases dF.1 ha with h1|ha<;>rcases dF.1 hb with h2|hb
  ·rw[h1,h2]
  ·rw[<- h1,e]at hx;exact absurd (Hr hb) hx
  ·rw[<- h2,<- e]at hx;exact absurd (Hr ha) hx
  ·exact PE hl ha hb e
def nE{α:Type}[DecidableEq α](a:α):List (α×Value)->Nat->Option (Nat×Value)
 |[],_=>none
 |(b,v)::l,i=>if a=b then some (i,v)else nE a l (i+1)
def dN{α β:Type}[DecidableEq α](a:α):List (α×β)->Option β
 |[]=>none
 |(b,v)::l=>if a=b then some v else dN a l
def upd{α β:Type}[DecidableEq α](a:α)(v:β):List (α×β)->List (α×β)
 |[]=>[(a,v)]
 |(b,u)::l=>if a=b then(a,v)::l else(b,u)::upd a v l
def nG{α:Type}(aV:α->Value)(ai:List (α×Value))(es:List MapEntry):Prop:=es.map (λe=>(e.key,e.val))=ai.map λp=>(aV p.1,p.2)
structure p9(P:Program)(kt:TypeId){α:Type}[DecidableEq α](aV:α->Value):Prop where
 Dz:∀a,pF P kt (aV a)=true
 find:∀a ai es,nG aV ai es->qA P kt (aV a) es=some (nE a ai 0)
 same:∀a,Instr.sameBits 10000 (aV a) (aV a)=true
theorem PG{kt:TypeId}{v:Value}(ha:bH v=true)(h:∀b,dR P (Instr.checkKey b 10000 kt v)=some ()):pF P kt v=true:=by
 unfold pF;rw[ha,h true,h false];rfl
theorem JY{α:Type}{aV:α->Value}{p:α×Value}{ai:List (α×Value)}{es:List MapEntry}(h:nG aV (p::ai) es):∃e es',es=e::es'/\e.key=aV p.1/\e.val=p.2/\nG aV ai es':=by
 cases es with
 |nil=>cases h
 |cons e es=>
  unfold nG at h;rw[gY,gY]at h;injection h with h1 h2;injection h1 with h1 h3;exact⟨e,es,rfl,h1,h3,h2⟩
theorem PI{α:Type}[DecidableEq α]{aV:α->Value}{d:TypeDesc}(hs:∀a b,Instr.sameNow d (aV a) (aV b)=some (decide (a=b)))(a:α):∀(ai:List (α×Value)) (es:List MapEntry) (i:Nat),nG aV ai es->Instr.findNow d (aV a) es i=some (nE a ai i)
 |[],es,i,h=>by
  cases es with
  |nil=>rfl
  |cons e es=>cases h
 |p::ai,es,i,h=>by
  obtain⟨e,es',rfl,h1,h2,h3⟩:=JY h;have ih:=PI hs a ai es' (i+1) h3;show(match Instr.sameNow d (aV a) e.key with
   |some true=>some (some (i,e.val))
   |some false=>Instr.findNow d (aV a) es' (i+1)
   |none=>none)=_
  rw[h1,hs a p.1];unfold nE;by_cases hab:a=p.1
  ·rw[eB hab,if_pos hab,h2]
  ·rw[aR hab,if_neg hab];exact ih
theorem PK{α:Type}[DecidableEq α]{aV:α->Value}{kt:TypeId}{d:TypeDesc}(hu:P.underlying kt=some d)(hs:∀a b,Instr.sameNow d (aV a) (aV b)=some (decide (a=b)))(a:α)(ai:List (α×Value))(es:List MapEntry)(h:nG aV ai es):qA P kt (aV a) es=some (nE a ai 0):=by
 unfold qA Instr.findKey;rw[gJ,pV hu];simp only[iE,PI hs a ai es 0 h];rfl
theorem Zd{kt:TypeId}(hu:P.underlying kt=some (.int .i64)):p9 P kt (λn:Int=>.int .i64 n) where
 Dz a:=PG rfl λb=>by
  show dR P (Instr.checkKey b (9999+1) kt _)=_;unfold Instr.checkKey;rw[gJ,pV hu];rfl
 find a ai es h:=PK hu (λa b=>by
  show(if IntKind.i64=IntKind.i64 then some (a==b)else none)=_;rw[if_pos rfl];congr 1) a ai es h
 same a:=by
  show(IntKind.i64==IntKind.i64&&a==a)=true;simp
theorem bytes_beq(a b:ByteArray):(a==b)=decide (a=b):=by
 have:(a==b)=(a.data==b.data):=rfl;rw[this];by_cases h:a=b
 ·subst h;simp
 ·rw[aR h];cases hb:a.data==b.data with
  |false=>rfl
  |true=>exact absurd (ByteArray.ext (eq_of_beq hb)) h
theorem Ze{kt:TypeId}(hu:P.underlying kt=some .string):p9 P kt (λs:ByteArray=>.string s) where
 Dz a:=PG rfl λb=>by
  show dR P (Instr.checkKey b (9999+1) kt _)=_;unfold Instr.checkKey;rw[gJ,pV hu];rfl
 find a ai es h:=PK hu (λa b=>by
  show some (a==b)=_;rw[bytes_beq]) a ai es h
 same a:=by
  show(a==a)=true;rw[bytes_beq];simp
theorem PL{α:Type}[DecidableEq α](a:α):∀(ai:List (α×Value)) (i:Nat),(nE a ai i).map (·.2)=dN a ai
 |[],_=>rfl
 |(b,v)::l,i=>by
  unfold nE dN;by_cases h:a=b
  ·rw[if_pos h,if_pos h];rfl
  ·rw[if_neg h,if_neg h];exact PL a l (i+1)
theorem PM{α:Type}[DecidableEq α]{aV:α->Value}{kt:TypeId}(hk:p9 P kt aV){h:IH}{m zero:Value}{ok:Bool}{a:α}{ai:List (α×Value)}{es:List MapEntry}(he:entriesOf m h=some es)(ho:nG aV ai es):
 xR P kt zero m (aV a) ok h=some (match dN a ai with
  |some v=>cond ok (.tuple #[v,.bool true]) v
  |none=>cond ok (.tuple #[zero,.bool false]) zero):=by
 unfold xR;simp only[he,hk.Dz,cond_true,hk.find a ai es ho];have:=PL a ai 0;cases hf:nE a ai 0 with
 |none=>rw[hf]at this;rw[<- this];rfl
 |some p=>rw[hf]at this;rw[<- this];rfl
theorem PN{α:Type}[DecidableEq α](a:α):∀(ai:List (α×Value)) (i j:Nat) (v:Value),nE a ai i=some (j,v)->∃k,j=i+k/\ai[k]? =some (a,v)/\∀u,upd a u ai=ai.set k (a,u)
 |[],i,j,v,h=>by cases h
 |(b,w)::l,i,j,v,h=>by
  unfold nE at h;split at h
  ·rename_i hab;subst hab;cases h;exact⟨0,rfl,rfl,λu=>by simp[upd]⟩
  ·rename_i hab;obtain⟨k,h1,h2,h3⟩:=PN a l (i+1) j v h;exact⟨k+1,by omega,by simpa using h2,λu=>by simp[upd,if_neg hab,h3]⟩
theorem PO{α:Type}[DecidableEq α](a:α):∀(ai:List (α×Value)) (i:Nat),nE a ai i=none->(∀p∈ai,a≠p.1)/\∀u,upd a u ai=ai++[(a,u)]
 |[],i,h=>⟨λp hp=>(by cases hp),λu=>rfl⟩
 |(b,w)::l,i,h=>by
  unfold nE at h;split at h
  ·cases h
  ·rename_i hab;obtain⟨h1,h2⟩:=PO a l (i+1) h;refine⟨λp hp=>?_,λu=>by simp[upd,if_neg hab,h2]⟩;rcases dF.1 hp with rfl|hp
   ·exact hab
   ·exact h1 p hp
structure wR{α:Type}(aV:α->Value)(ai:List (α×Value))(es:List MapEntry)(clock:Nat):Prop where
 qP:nG aV ai es
 lt:∀e∈es,e.born<clock
 nd:(es.map (·.born)).Nodup
 keys:(ai.map (·.1)).Nodup
theorem Zf{α:Type}[DecidableEq α]{aV:α->Value}{kt:TypeId}(hk:p9 P kt aV){h:IH}{b:Nat}{a:α}{v:Value}{ai:List (α×Value)}{es:List MapEntry}{clock:Nat}(hg:h.get b=some (.map es clock))(ho:wR aV ai es clock):
 ∃es' clock',Bw P kt (.map (some b)) (aV a) v h=some (h.set b (.map es' clock'))/\wR aV (upd a v ai) es' clock':=by
 unfold Bw;simp only[hg,hk.Dz,cond_true,hk.find a ai es ho.qP];cases hf:nE a ai 0 with
 |none=>
  obtain⟨h1,h2⟩:=PO a ai 0 hf;refine⟨_,_,rfl,?_⟩;rw[h2,iT];refine⟨?_,λe he=>?_,?_,?_⟩
  ·unfold nG;rw[eX,eX,ho.qP];rfl
  ·rcases dZ.1 he with he|he
   ·exact Ho (ho.lt e he)
   ·rw[bG.1 he];exact tZ _
  ·rw[eX,iA];refine⟨ho.nd,by simp,λx hx y hy e=>?_⟩;obtain⟨e0,he0,rfl⟩:=je.1 hx;have:y=clock:=by simpa using hy
   have:=ho.lt e0 he0;omega
  ·rw[eX,iA];refine⟨ho.keys,by simp,λx hx y hy e=>?_⟩;obtain⟨p,hp,rfl⟩:=je.1 hx;have:y=a:=by simpa using hy
   exact h1 p hp (by rw[e,this])
 |some p=>
  obtain⟨j,u⟩:=p;obtain⟨k,rfl,h2,h3⟩:=PN a ai 0 j u hf;rw[eH];have hlen:es.length=ai.length:=by
   have:=congrArg List.length ho.qP;simpa using this
  have hk':=(bT.1 h2).1;have JZ:es[k]? =some es[k]:=cK (by omega);have hkey:es[k].key=aV a:=by
   have:=congrArg (λl=>l[k]?) ho.qP;simp only[eY,JZ,h2,jE]at this;injection this with this;injection this
  simp only[qD,JZ,hkey,hk.same,cond_true];refine⟨_,_,rfl,?_⟩;rw[h3,M0];refine⟨?_,λe he=>?_,?_,?_⟩
  ·unfold nG;apply jw;intro i;have:=congrArg (λl=>l[i]?) ho.qP;simp only[eY]at this;simp only[eY,List.getElem?_modify,ul];by_cases hi:k=i
   ·subst hi;simp[JZ,hk']
   ·rw[if_neg hi];cases he:es[i]? with
    |none=>rw[he]at this;simp only[Option.map_none]at this⊢;simp[hi,<- this]
    |some e=>rw[he]at this;simp only[jE]at this⊢;simp[hi,<- this]
  ·obtain⟨i,he⟩:=sQ.1 he;rw[List.getElem?_modify]at he;cases J2:es[i]? with
   |none=>rw[J2]at he;simp at he
   |some e0=>
    rw[J2]at he;have hlt:=ho.lt e0 (bJ J2);injection he with he;rw[<- he];split<;>exact hlt
  ·have:(es.modify k λe=>{e with key:=aV a,val:=v}).map (·.born)=es.map (·.born):=by
    apply jw;intro i;simp only[eY,List.getElem?_modify];cases es[i]? with
    |none=>rfl
    |some e=>simp only[jE];split<;>rfl
   rw[this];exact ho.nd
  ·have:(ai.set k (a,v)).map (·.1)=ai.map (·.1):=by
    apply jw;intro i;simp only[eY,ul];by_cases hi:k=i
    ·subst hi;rw[if_pos rfl,if_pos hk',h2];rfl
    ·rw[if_neg hi]
   rw[this];exact ho.keys
def gy{α:Type}(aV:α->Value)(b:Nat)(ai:List (α×Value)):OA:=⟨λw S=>S=[b]/\∃es clock,w.h.get b=some (.map es clock)/\wR aV ai es clock,λa h ⟨h1,es,clock,h2,h3⟩=>⟨h1,es,clock,by rw[h b (by rw[h1];exact bG.2 rfl)];exact h2,h3⟩⟩
def qQ{α:Type}(aV:α->Value)(b:Nat)(ai:List (α×Value)):aJ:=⟨λw=>w.z b/\∃es clock,w.h.get b=some (.map es clock)/\wR aV ai es clock,λa ⟨h1,es,clock,h2,h3⟩=>⟨a.z b h1,es,clock,by rw[a.get b h1];exact h2,h3⟩⟩
theorem Aq{α:Type}{aV:α->Value}{b:Nat}{ai:List (α×Value)}:qN (gy aV b ai) [qQ aV b ai]:=by
 intro w w' S ⟨h1,es,clock,h2,h3⟩ hle hh hz f hf;rw[bG.1 hf];exact⟨hz b (by rw[h1];exact bG.2 rfl),es,clock,by rw[hh];exact h2,h3⟩
section
variable {B:List Nat} {w0:Wd} {kl kl' bA:List OA} {F:List aJ} {K:KO} {ds:List Tmp} {rest:List bO} {n:Nat} {l:List (Nat×Value)} {D:List Deferred} {pm:Option FrameMode} {ro:Option Nat} {d:Nat} {g:Option (Tmp×Bool)}
variable {α:Type} [DecidableEq α] {aV:α->Value}
theorem St.PP{b:Nat}{ai:List (α×Value)}{w:Wd}(h:St B w0 (gy aV b ai::kl) F w):∃es clock,wR aV ai es clock/\St B w0 (pt b (.map es clock)::kl) F w:=by
 obtain⟨S,⟨S1,S2,⟨q1,es,clock,q3,q4⟩,q2,e⟩,h2,h3⟩:=h.own;exact⟨es,clock,q4,h.agree,h.le,h.fM,⟨S,⟨S1,S2,⟨q1,q3⟩,q2,e⟩,h2,h3⟩,h.facts⟩
theorem wS(aV:α->Value)
 (next:∀b,R (λh=>aD P ds rest (act n ((d,.map (some b))::l) D pm ro) h K) B w0 (gy aV b []::kl) F) (hn:Nat.blt d n=true:=by rfl) (hg:bS l g=true:=by rfl):
 R (λh=>aD P ds (⟨⟨some d,g,.sU⟩,[]⟩::rest) (act n l D pm ro) h K) B w0 kl F:=λw s=>
 jH hn hg (h':=w.h.new (.map [] 0)) (by simp only[aA.run,aA.alloc,pI]) (next w.h.next (w.new _) ((s.new _).Aa (A:=pt w.h.next (.map [] 0)) (A':=gy aV w.h.next []) λw S hp=>⟨hp.1,[],0,hp.2,⟨rfl,λe he=>(by cases he),um,um⟩⟩))
def jU{α:Type}[DecidableEq α](ok:Bool)(zero:Value)(a:α)(ai:List (α×Value)):Value:=match dN a ai with
 |some v=>cond ok (.tuple #[v,.bool true]) v
 |none=>cond ok (.tuple #[zero,.bool false]) zero
theorem PR{kt:TypeId}{zero:Value}{m k:Operand}{ok:Bool}{b:Nat}{ai:List (α×Value)}(hk:p9 P kt aV)(a:α)
 (next:R (λh=>aD P ds rest (act n ((d,jU ok zero a ai)::l) D pm ro) h K) B w0 kl F)
 (hm:ev l m=.map (some b):=by rfl) (ha:ev l k=aV a:=by conv=>lhs;whnf) (hf:qQ aV b ai∈F:=by exact qO) (hn:Nat.blt d n=true:=by rfl) (hg:bS l g=true:=by rfl):
 R (λh=>aD P ds (⟨⟨some d,g,.lookup kt zero m k ok⟩,[]⟩::rest) (act n l D pm ro) h K) B w0 kl F:=λw s=>by
 obtain⟨_,es,clock,h1,h2⟩:=s.facts _ hf;refine jH hn hg (v:=jU ok zero a ai) ?_ (next w s);have:xR P kt zero (.map (some b)) (aV a) ok w.h=_:=PM hk (by simp only[entriesOf,h1]) h2.qP;simp only[aA.run,hm,ha,this];rfl
theorem DC{kt:TypeId}{zero:Value}{m k:Operand}{ok:Bool}{b:Nat}{ai:List (α×Value)}(hk:p9 P kt aV)(a:α)
 (next:R (λh=>aD P ds rest (act n ((d,jU ok zero a ai)::l) D pm ro) h K) B w0 kl F)
 (hm:ev l m=.map (some b):=by rfl) (ha:ev l k=aV a:=by conv=>lhs;whnf) (hs:ay (gy aV b ai) kl kl':=by exact gu) (hn:Nat.blt d n=true:=by rfl) (hg:bS l g=true:=by rfl):
 R (λh=>aD P ds (⟨⟨some d,g,.lookup kt zero m k ok⟩,[]⟩::rest) (act n l D pm ro) h K) B w0 kl F:=λw s=>by
 obtain⟨es,clock,h2,s1⟩:=(s.fK hs).PP;refine jH hn hg (v:=jU ok zero a ai) ?_ (next w s);have:xR P kt zero (.map (some b)) (aV a) ok w.h=_:=PM hk (by simp only[entriesOf,s1.get.1]) h2.qP;simp only[aA.run,hm,ha,this];rfl
theorem uU{kt:TypeId}{m k x:Operand}{b:Nat}{v:Value}{ai:List (α×Value)}(hk:p9 P kt aV)(a:α)
 (next:R (λh=>aD P ds rest (act n l D pm ro) h K) B w0 (gy aV b (upd a v ai)::kl') F)
 (hm:ev l m=.map (some b):=by rfl) (ha:ev l k=aV a:=by conv=>lhs;whnf) (hv:ev l x=v:=by conv=>lhs;whnf) (hs:ay (gy aV b ai) kl kl':=by exact gu) (hg:bS l g=true:=by rfl):
 R (λh=>aD P ds (⟨⟨none,g,.EI kt m k x⟩,[]⟩::rest) (act n l D pm ro) h K) B w0 kl F:=λw s=>by
 obtain⟨es,clock,h2,s1⟩:=(s.fK hs).PP;obtain⟨es',clock',e1,e2⟩:=Zf (v:=v) hk (a:=a) s1.get.1 h2;refine Jy hg (v:=dG) (h':=w.h.set b (.map es' clock')) ?_ (next _ ((s1.write (o':=.map es' clock')).Aa (A:=pt b (.map es' clock')) (A':=gy aV b (upd a v ai)) λw S hp=>⟨hp.1,es',clock',hp.2,e2⟩));simp only[aA.run,hm,ha,hv,e1]
theorem PS{ai:List (α×Value)}{es:List MapEntry}{clock:Nat}(h:wR aV ai es clock):es.length=ai.length:=by
 have:=congrArg List.length h.qP;simpa using this
def yO{α:Type}(aV:α->Value)(r b:Nat)(ai ic:List (α×Value)):OA:=⟨λw S=>S=[r]/\∃es clock seen last,w.h.get b=some (.map es clock)/\w.z b/\wR aV ai es clock/\w.h.get r=some (.mapIter (some b) clock seen last)/\last=clock/\
 (∃ve rem:List MapEntry,nG aV ic ve/\ve.map (·.born)=seen/\(ve++rem).Perm es),
 λa h ⟨h1,es,clock,seen,last,h2,h3,h4,h5,h6,h7⟩=>⟨h1,es,clock,seen,last,by rw[a.get b h3];exact h2,a.z b h3,h4,by rw[h r (by rw[h1];exact bG.2 rfl)];exact h5,h6,h7⟩⟩
theorem PT{m:Operand}{b:Nat}{ai:List (α×Value)}
 (next:∀r,R (λh=>aD P ds rest (act n ((d,.pointer (some ⟨r,0,none⟩))::l) D pm ro) h K) B w0 (yO aV r b ai []::kl) F)
 (hm:ev l m=.map (some b):=by rfl) (hf:qQ aV b ai∈F:=by exact qO) (hn:Nat.blt d n=true:=by rfl) (hg:bS l g=true:=by rfl):
 R (λh=>aD P ds (⟨⟨some d,g,.rangeMap m⟩,[]⟩::rest) (act n l D pm ro) h K) B w0 kl F:=λw s=>by
 obtain⟨hz,es,clock,h1,h2⟩:=s.facts _ hf;refine jH hn hg (h':=w.h.new (.mapIter (some b) clock [] clock)) (by simp only[aA.run,hm,h1]) (next w.h.next (w.new _) ?_);have s1:=s.new (.mapIter (some b) clock [] clock);obtain⟨hz',es',clock',h1',h2'⟩:=s1.facts _ hf;refine s1.wL λS hp=>⟨hp.1,es',clock',[],clock,h1',hz',h2',?_,?_,[],es',rfl,rfl,.refl _⟩
 ·have:clock'=clock:=by
   have e:(w.new (.mapIter (some b) clock [] clock)).h.get b=w.h.get b:=by
    show(w.h.new _).get b=_;rw[IH.iJ,if_neg (by have:=w.j4 b hz;omega)]
   rw[e,h1]at h1';injection h1' with h1';injection h1' with _ h1';exact h1'.symm
  rw[this];exact hp.2
 ·have e:(w.new (.mapIter (some b) clock [] clock)).h.get b=w.h.get b:=by
   show(w.h.new _).get b=_;rw[IH.iJ,if_neg (by have:=w.j4 b hz;omega)]
  rw[e,h1]at h1';injection h1' with h1';injection h1' with _ h1'
theorem Zg{es ve rem:List MapEntry}(hp:(ve++rem).Perm es)(hn:(es.map (·.born)).Nodup):(es.filter λe=>!(ve.map (·.born)).contains e.born).Perm rem:=by
 have hp2:((ve++rem).filter λe=>!(ve.map (·.born)).contains e.born).Perm (es.filter λe=>!(ve.map (·.born)).contains e.born):=hp.filter _;rw[EC]at hp2;have h1:ve.filter (λe=>!(ve.map (·.born)).contains e.born)=[]:=by
  rw[List.filter_eq_nil_iff];intro e he;simp only[Bn,Bool.not_eq_false',List.contains_eq_mem,vQ];simp;exact⟨e,he,rfl⟩
 have hnd:((ve++rem).map (·.born)).Nodup:=(hp.map _).nodup_iff.2 hn;rw[eX,iA]at hnd;have h2:rem.filter (λe=>!(ve.map (·.born)).contains e.born)=rem:=by
  rw[List.filter_eq_self];intro e he;simp only[Bn,List.contains_eq_mem,decide_eq_false_iff_not];intro hm;exact hnd.2.2 _ hm _ (Hr he) rfl
 rw[h1,h2,dH]at hp2;exact hp2.symm
theorem PU{x:Operand}{r b:Nat}{ai ic:List (α×Value)}
 (more:∀p rem,(ic++p::rem).Perm ai->R (λh=>aD P ds rest (act n ((d,.tuple #[.bool true,aV p.1,p.2])::l) D pm ro) h K) B w0 (yO aV r b ai (ic++[p])::kl') F)
 (done:ic.Perm ai->R (λh=>aD P ds rest (act n ((d,.tuple #[.bool false])::l) D pm ro) h K) B w0 (yO aV r b ai ic::kl') F)
 (inj:∀a c,aV a=aV c->a=c)
 (hx:ev l x=.pointer (some ⟨r,0,none⟩):=by rfl) (hs:ay (yO aV r b ai ic) kl kl':=by exact gu) (hn:Nat.blt d n=true:=by rfl) (hg:bS l g=true:=by rfl):
 R (λh=>aD P ds (⟨⟨some d,g,.uu x⟩,[]⟩::rest) (act n l D pm ro) h K) B w0 kl F:=λw s0=>by
 have s:=s0.fK hs;obtain⟨S,⟨S1,S2,⟨q1,es,clock,seen,last,h1,hz,h2,h3,h4,ve,rem,h5,h6,h7⟩,q2,eS⟩,hnd,hown⟩:=s.own;subst h4 h6;have hpl:=Zg h7 h2.nd;have hold:((es.filter λe=>!(ve.map (·.born)).contains e.born).filter λe=>Nat.blt e.born last)=es.filter λe=>!(ve.map (·.born)).contains e.born:=by
  rw[List.filter_eq_self];intro e he;have:=h2.lt e (xN.1 he).1;rw[qp];exact this
 have hnew:((es.filter λe=>!(ve.map (·.born)).contains e.born).filter λe=>Nat.ble last e.born)=[]:=by
  rw[List.filter_eq_nil_iff];intro e he;have:=h2.lt e (xN.1 he).1;rw[ou];omega
 have hcl:(!(ve.map (·.born)).isEmpty&&!es.isEmpty&&es.all (λe=>Nat.ble last e.born))=false:=by
  cases es with
  |nil=>simp
  |cons e es=>
   have:=h2.lt e (dx ..);have:Nat.ble last e.born=false:=by
    cases hb:Nat.ble last e.born with
    |false=>rfl
    |true=>rw[ou]at hb;omega
   simp[this]
 have Zh:xW (ev l x) w.h=some ((if(es.filter λe=>!(ve.map (·.born)).contains e.born).isEmpty then[(.tuple #[.bool false],w.h)]else[])++
  (es.filter λe=>!(ve.map (·.born)).contains e.born).map λe=>(.tuple #[.bool true,e.key,e.val],w.h.set r (.mapIter (some b) last (ve.map (·.born)++[e.born]) last))):=by
  rw[hx];unfold xW;simp only[h3,h1];rw[hcl];simp only[cond_false,hold,hnew,gD]
 -- a pair for an entry
 have age:∀(agf:List MapEntry) (agh:List (α×Value)),True:=λ_ _=>trivial;refine .next (tH hg) x rfl rfl _ (by rw[lS];exact Zh) ?_
 intro vh hm;rcases dZ.1 hm with hm|hm
 ·split at hm
  ·rename_i hemp;rw[bG.1 hm,nO hn];have Zi:rem=[]:=by
    have:(es.filter λe=>!(ve.map (·.born)).contains e.born)=[]:=by simpa using hemp
    rw[this]at hpl;exact List.nil_perm.1 hpl|>λh=>h
   refine done ?_ w s;subst Zi;rw[gD]at h7;have hm1:=h7.map (λe=>(e.key,e.val));rw[h5,h2.qP]at hm1;exact PD (λp:α×Value=>(aV p.1,p.2)) (λp q hpq=>by
    injection hpq with e1 e2;exact Prod.ext (inj _ _ e1) e2) hm1
  ·cases hm
 ·obtain⟨e,he,rfl⟩:=je.1 hm;have hr:e∈rem:=hpl.mem_iff.1 he;obtain⟨r1,r2,Zj⟩:=List.append_of_mem hr
  -- the pair
  obtain⟨i,hi,hie⟩:∃i,i<ai.length/\es[i]? =some e:=by
   obtain⟨i,hi⟩:=sQ.1 (xN.1 he).1;have:=(bT.1 hi).1;rw[PS h2]at this;exact⟨i,this,hi⟩
  have hpe:(e.key,e.val)=(aV ai[i].1,ai[i].2):=by
   have:=congrArg (λl=>l[i]?) h2.qP;simp only[eY,hie,cK hi,jE]at this;injection this
  injection hpe with hpk hpv;rw[nO hn,hpk,hpv];have hperm:(ve++[e]++(r1++r2)).Perm es:=by
   refine List.Perm.trans ?_ h7;rw[Zj,fE];refine List.Perm.append_left _ ?_;exact(List.perm_middle (l₁:=r1) (l₂:=r2) (a:=e)).symm
  have DD:nG aV (ic++[ai[i]]) (ve++[e]):=by
   unfold nG;rw[eX,eX,h5];simp[hpk,hpv]
  obtain⟨J3,Zk⟩:∃J3:List (α×Value),(ic++ai[i]::J3).Perm ai:=by
   have hm1:=hperm.map (λe=>(e.key,e.val));rw[eX,DD,h2.qP]at hm1;have hex:∀ls:List MapEntry,(∀x∈ls,∃p:α×Value,(x.key,x.val)=(aV p.1,p.2))->∃ps:List (α×Value),ls.map (λe=>(e.key,e.val))=ps.map λp=>(aV p.1,p.2):=by
    intro ls;induction ls with
    |nil=>intro _;exact⟨[],rfl⟩
    |cons x ls ih=>
     intro h;obtain⟨p,hp⟩:=h x (dx ..);obtain⟨ps,hps⟩:=ih λy hy=>h y (dA _ hy);exact⟨p::ps,by rw[gY,gY,hp,hps]⟩
   obtain⟨ps,hps⟩:=hex (r1++r2) (λy hy=>by
    have hy':y∈es:=hperm.mem_iff.1 (ni _ hy);obtain⟨j,hj⟩:=sQ.1 hy';have hj':=(bT.1 hj).1;rw[PS h2]at hj';have:=congrArg (λl=>l[j]?) h2.qP;simp only[eY,hj,cK hj',jE]at this;injection this with this;exact⟨_,this⟩)
   rw[hps,<- eX]at hm1;refine⟨ps,?_⟩;have:=PD (λp:α×Value=>(aV p.1,p.2)) (λp q hpq=>by
    injection hpq with e1 e2;exact Prod.ext (inj _ _ e1) e2) hm1
   rwa [fE]at this
  refine more ai[i] J3 Zk ⟨w.h.set r (.mapIter (some b) last (ve.map (·.born)++[e.born]) last),w.z,λi hi=>w.j4 i hi⟩ ?_
  -- the state behind the step
  have s2:St B w0 (pt r (.mapIter (some b) last (ve.map (·.born)) last)::kl') F w:=⟨s.agree,s.le,s.fM,⟨S,⟨S1,S2,⟨q1,h3⟩,q2,eS⟩,hnd,hown⟩,s.facts⟩
  have s3:=s2.write (o':=.mapIter (some b) last (ve.map (·.born)++[e.born]) last);refine s3.wL λS' hp=>⟨hp.1,es,last,_,last,?_,hz,h2,hp.2,rfl,ve++[e],r1++r2,DD,by rw[eX];rfl,hperm⟩
  have hrb:r≠b:=λer=>by
   have:=s2.own;obtain⟨S0,⟨T1,T2,⟨u1,_⟩,_,ue⟩,_,ho⟩:=this;exact(ho r (by rw[ue,u1];simp)).2.2 (er▸hz)
  show(w.h.set r _).get b=_;rw[IH.lN,if_neg (λer=>hrb er.symm)];exact h1
theorem PV{x:Operand}{r b:Nat}{ai ic:List (α×Value)}{p:α×Value}
 (next:R (λh=>aD P ds rest (act n ((d,.tuple #[aV p.1,p.2])::l) D pm ro) h K) B w0 kl F)
 (hx:ev l x=.pointer (some ⟨r,0,none⟩):=by rfl) (hs:ay (yO aV r b ai (ic++[p])) kl kl':=by exact gu) (hn:Nat.blt d n=true:=by rfl) (hg:bS l g=true:=by rfl):
 R (λh=>aD P ds (⟨⟨some d,g,.entry x⟩,[]⟩::rest) (act n l D pm ro) h K) B w0 kl F:=λw s0=>by
 have s:=s0.fK hs;obtain⟨S,⟨S1,S2,⟨q1,es,clock,seen,last,h1,hz,h2,h3,h4,ve,rem,h5,h6,h7⟩,q2,e⟩,hnd,hown⟩:=s.own;subst h4 h6;obtain⟨PW,x0,DD,hx0,hx1⟩:∃PW x0,ve=PW++[x0]/\x0.key=aV p.1/\x0.val=p.2:=by
  unfold nG at h5;rw[eX]at h5;obtain⟨a1,a2,e1,e2,e3⟩:=List.map_eq_append_iff.1 h5;obtain⟨x0,a3,e4,e5,e6⟩:=List.map_eq_cons_iff.1 e3;have:a3=[]:=by simpa using e6
  subst this;injection e5 with e5 e7;exact⟨a1,x0,by rw[e1,e4],e5,e7⟩
 have hfind:es.find? (λy=>Nat.beq y.born x0.born)=some x0:=by
  have hm:x0∈es:=h7.mem_iff.1 (kw _ (by rw[DD];simp));cases hf:es.find? (λy=>Nat.beq y.born x0.born)with
  |none=>
   have:=List.find?_eq_none.1 hf x0 hm;simp[zq]at this
  |some y=>
   have hy:=List.find?_some hf;have hym:=List.mem_of_find?_eq_some hf;have hb:y.born=x0.born:=om hy;congr 1;exact PE h2.nd hym hm hb
 refine jH hn hg (v:=.tuple #[aV p.1,p.2]) ?_ (next w s0);simp only[aA.run,hx,h3,h1];rw[DD];simp only[eX,gY,List.map_nil,List.getLast?_append,List.getLast?_singleton,Option.some_or,zq,cond_true,hfind,hx0,hx1]
end
end Go.Ideal
namespace Go.Ideal
open Go.Sort
variable {P:Program}
theorem WR.grow{β:aC}{h:IH}{w:World}(hW:WR P β h w)(os:Array Obj):WR P β h (grow w os)/\Eff β h w β h (grow w os):=by
 have hold:∀b,b<w.heap.size->(Go.Sort.grow w os).heap[b]? =w.heap[b]?:=λb hb=>by
  show(w.heap++os)[b]? =_;rw[Array.getElem?_append_left hb]
 refine⟨⟨hW.dom,hW.live,λi g o h1 h2=>?_,hW.inj⟩,⟨λ_ _=>rfl,bI _,λ_ _ h=>h,λ_ _ _=>rfl,bI _,λ_ _ _=>rfl,rfl,rfl,rfl,?_,λb hb _=>hold b hb,λi g hg hi=>absurd (hW.dom _ _ hg) (by omega),λi g _ _ _ _ hb=>hold _ hb,bI _⟩⟩
 ·have hO:=hW.obj i g o h1 h2;exact hO.congr (hold _ hO.lt)
 ·show w.heap.size<=(w.heap++os).size;rw[Array.size_append];omega
def FY(o:Nat):List Value->Array Value->Array Value
 |[],c=>c
 |v::vs,c=>FY (o+1) vs (c.setIfInBounds o v)
theorem PX(b:Nat):∀(vs:List Value) (o:Nat) (w:World),w.setCells b o vs=mapBlock w b (FY o vs)
 |[],o,w=>(mapBlock_id w b _ λc e fr h=>rfl).symm
 |v::vs,o,w=>by
  show(w.setCell ⟨b,o,none⟩ v).setCells b (o+1) vs=_;rw[PX b vs (o+1),setCell_eq,mapBlock_mapBlock];rfl
theorem PY:∀(vs:List Value) (o:Nat) (c:Array Value) (k:Nat),(FY o vs c)[k]? =if o<=k/\k<o+vs.length/\k<c.size then vs[k - o]? else c[k]?
 |[],o,c,k=>by
  rw[if_neg (by rw[Bl];omega)];rfl
 |v::vs,o,c,k=>by
  show(FY (o+1) vs (c.setIfInBounds o v))[k]? =_;rw[PY vs (o+1),Array.size_setIfInBounds,oq];by_cases h1:o+1<=k/\k<o+1+vs.length/\k<c.size
  ·rw[if_pos h1,if_pos ⟨by omega,by omega,h1.2.2⟩];rw[show k - o=(k - (o+1))+1 by omega,pq]
  ·rw[if_neg h1,TF];by_cases h2:o=k
   ·subst h2;rw[if_pos rfl];by_cases h3:o<c.size
    ·rw[if_pos h3,if_pos ⟨bI _,by omega,h3⟩,zw];rfl
    ·rw[if_neg h3,if_neg (by omega)];exact(rF (by omega)).symm
   ·rw[if_neg h2,if_neg (by omega)]
theorem setCells_putRow{α:Type}[Inhabited α](enc:α->Value)(w:World)(b o:Nat)(d:Array α):w.setCells b o (d.toList.map enc)=putRow enc w b o d:=by
 rw[PX];unfold putRow;refine mapBlock_congr w b _ _ λc e fr hc=>?_;apply Array.ext_getElem?;intro k;rw[PY,putCells,Array.getElem?_mapIdx,di,Ms];by_cases hk:k<c.size
 ·by_cases h:o<=k/\k<o+d.size
  ·rw[if_pos ⟨h.1,h.2,hk⟩,TH hk,jE,if_pos h,eY,xH,TH (by omega)];rw[jE,getElem!_pos d _ (by omega)]
  ·rw[if_neg (λq=>h ⟨q.1,q.2.1⟩),TH hk,jE,if_neg h]
 ·rw[if_neg (by omega),rF (by omega)];rfl
def J4(P:Program)(f:FuncId):Prop:=∀(blk off cap:Nat) (zs:List Int) (w:World),Holds (Value.int .i64) w blk off zs.toArray->blk<w.heap.size->zs.length<4611686018427387904->
 Calls P f #[.slice (some ⟨blk,off,none⟩) zs.length cap] w λe w'=>e=.returned (.tuple #[])/\∃n os,w'=Go.Sort.grow (putRow (Value.int .i64) (Sort.ahead w n) blk off (zs.mergeSort λx y=>decide (x<=y)).toArray) os
def cO(zs:List Int):List Int:=zs.mergeSort λx y=>decide (x<=y)
theorem yP(zs:List Int):(cO zs).length=zs.length:=List.length_mergeSort zs
theorem Zl{f:FuncId}(hS:J4 P f){fn:Func}(hfn:P.funcs[f]? =some fn){body:Code}(hb:fn.body=some body)(hname:fn.name≠ "runtime.NumGoroutine"){b o c:Nat}{fl:Option Nat}{zs:List Int}{h h':IH}{cs:List Value}
 (hg:h.get b=some (.cells cs)) (hz:∀(j:Nat) z,zs[j]? =some z->cs[o+j]? =some (.int .i64 z)) (hne:0<zs.length) (hlen:zs.length<4611686018427387904) (hs:h.storeAt b o ((cO zs).map (.int .i64))=some h'):
 j3 P ⟨.func f,[.slice (some ⟨b,o,fl⟩) zs.length c],[],none⟩ h (λr pm h2=>pm=none/\r=.ok (.tuple ⟨[]⟩)/\h2=h'):=by
 intro β w fn' args' cap' hG hW hf ha hcap;obtain⟨iZ,t1,t2⟩:=Ct (P:=P) (q:=⟨.func f,[.slice (some ⟨b,o,fl⟩) zs.length c],[],none⟩) (f:=f) (args:=[.slice (some ⟨b,o,fl⟩) zs.length c]) (by simp only[target,iT,gD]) hf ha hcap hfn hb hname w;cases t2 with|cons hv tl=>
 cases tl;obtain⟨g,a,c',hi,rfl,hab,_,hn,hcc,hao,_⟩:=hv.lQ;have hao:a.off=g.off+o/\a.spot=none:=by
  rcases hao with e|e
  ·omega
  ·exact e
 obtain⟨⟨c0,t0,Zm,hh⟩,q2,q3,q4,q5,q6⟩:=hW.obj b g _ hi hg;have ea:a=⟨g.b,g.off+o,none⟩:=by
  obtain⟨ab,ao,as⟩:=a;simp only at hab hao;rw[hab,hao.1,hao.2]
 subst ea;have hin:∀j,j<zs.length->o+j<cs.length:=λj hj=>(bT.1 (hz j _ (cK hj))).1;have hH:Holds (Value.int .i64) w g.b (g.off+o) zs.toArray:=λj hj=>by
  have hj:j<zs.length:=by simpa using hj
  obtain⟨v',h1,h2⟩:=q6 (o+j) _ (hz j _ (cK hj));have:=h2.kY;subst this;refine⟨?_,(q4 _ (by have:=hin j hj;omega)).2⟩;rw[ng,h1];congr 2;rw[getElem!_pos zs.toArray j (by simpa using hj)];simp
 have hlt:g.b<w.heap.size:=(Mt.1 hh).1;have hC:=hS g.b (g.off+o) c' zs w hH hlt hlen;obtain⟨_,w1,w2⟩:=EU hW hi hs (vs':=(cO zs).map (.int .i64)) (aS.free (by
  have:∀l:List Int,fw (l.map (Value.int .i64))=true:=by
   intro l;induction l with
   |nil=>rfl
   |cons x l ih=>rw[gY];simp[fw,bH,Ideal.cellV,ih]
  exact this _)) (by
  rw[kH];intro x hx;obtain⟨z,_,rfl⟩:=je.1 hx;rfl)
 refine⟨_,Frame.enter P f ⟨_⟩ .normal,t1,rfl,λcs0 tq=>?_⟩;obtain⟨e,w',fr,⟨he,k,os,hw'⟩,hcomes,hfr,hlv⟩:=hC cs0;subst he;have hw1:putRow (Value.int .i64) (Sort.ahead w k) g.b (g.off+o) (zs.mergeSort λx y=>decide (x<=y)).toArray=Sort.ahead (w.setCells g.b (g.off+o) ((cO zs).map (.int .i64))) k:=by
  have:=setCells_putRow (Value.int .i64) w g.b (g.off+o) (cO zs).toArray;rw[show(cO zs).toArray.toList=cO zs from rfl]at this;rw[this];rfl
 rw[hw1]at hw';have w3:WR P β h' (Sort.ahead (w.setCells g.b (g.off+o) ((cO zs).map (.int .i64))) k):=w1.pO rfl;have w4:=w2.trans (Eff.pO (w':=Sort.ahead (w.setCells g.b (g.off+o) ((cO zs).map (.int .i64))) k) w1.dom rfl rfl rfl rfl (Nat.le_add_right _ _));obtain⟨w5,w6⟩:=w3.grow os;rw[<- hw']at w5 w6;refine⟨.ok (.tuple ⟨[]⟩),none,h',β,w',.returned (.tuple #[]),cs0,⟨rfl,rfl,rfl⟩,w5,w4.trans w6,.ok (.dG _),.none cs0,.inl ⟨f,_,fr,rfl,hcomes,hfr,hlv.2.2.1,hlv.1,hlv.2.1,hlv.2.2.2⟩⟩
theorem DF{α:Type}:∀(l:List α) (o:Nat) (xs:List α),o+xs.length<=l.length->∃r,iL l o xs=some r
 |[],o,xs,h=>by
  have h1:xs=[]:=jl.1 (by rw[Bl]at h;omega);have h2:o=0:=by rw[Bl]at h;omega
  exact⟨[],by rw[MX,if_pos ⟨h1,h2⟩]⟩
 |c::l,0,[],h=>⟨_,MZ c l⟩
 |c::l,0,x::xs,h=>by
  obtain⟨r,hr⟩:=DF l 0 xs (by simp only[oq]at h;omega);exact⟨x::r,by rw[Ih,hr];rfl⟩
 |c::l,o+1,xs,h=>by
  obtain⟨r,hr⟩:=DF l o xs (by simp only[oq]at h;omega);exact⟨c::r,by rw[Ii,hr];rfl⟩
theorem Zn{f:FuncId}(hS:J4 P f){fn:Func}(hfn:P.funcs[f]? =some fn){body:Code}(hb:fn.body=some body)(hname:fn.name≠ "runtime.NumGoroutine"){a:Option Addr}{zs:List Int}(hne:0<zs.length)(hlen:zs.length<4611686018427387904):
 aZ P (.func f) [.slice a zs.length zs.length] [] [ap ae (.slice a zs.length zs.length) zs] [] (λ_:Unit=>.tuple ⟨[]⟩) (λ_=>[ap ae (.slice a zs.length zs.length) (cO zs)]) (λ_=>[]) (λ_=>True):=by
 intro B w s;obtain⟨S,⟨S1,S2,q1,q2,e⟩,h2,h3⟩:=s.own;rcases q1 with⟨h,_⟩|⟨b,o,fl,cells,e1,hf,e2,hb',hcl,hel⟩
 ·rw[h]at hne;simp at hne
 injection e1 with e1 Zo;subst e1;have hcl:cells.length=o+zs.length:=by rw[hcl];simp[ae]
 have hz:∀(j:Nat) z,zs[j]? =some z->cells[o+j]? =some (.int .i64 z):=λj z hj=>by
  obtain⟨y,u1,_⟩:=hel j z hj;have:=u1 0 (.int .i64 z) rfl;simpa[ae]using this
 have hst:∃cs2,w.h.storeAt b o ((cO zs).map (.int .i64))=some (w.h.set b (.cells cs2))/\cs2.length=cells.length/\∀(k:Nat) z,(cO zs)[k]? =some z->cs2[o+k]? =some (.int .i64 z):=by
  have hov:∃cs2,iL cells o ((cO zs).map (.int .i64))=some cs2:=DF _ _ _ (by rw[di,yP];omega);obtain⟨cs2,hl⟩:=hov;obtain⟨l1,l2,l3⟩:=BK hl;refine⟨cs2,?_,l2,λk z hk=>?_⟩
  ·unfold IH.storeAt;simp only[hb',hl]
  ·rw[l3,if_pos ⟨by omega,by have:=(bT.1 hk).1;rw[di];omega⟩,Hq,eY,hk];rfl
 obtain⟨cs2,hst,hl2,J5⟩:=hst;refine .real (Je _ (Zl hS hfn hb hname hb' hz hne hlen hst) ?_);rintro r pm h' ⟨rfl,rfl,rfl⟩;have s1:St B w [pt b (.cells cells)] [] w:=⟨s.agree,s.le,s.fM,⟨S,⟨S1,S2,⟨e2,hb'⟩,q2,e⟩,h2,h3⟩,λf hf=>by cases hf⟩
 refine⟨rfl,⟨w.h.set b (.cells cs2),w.z,λi hi=>w.j4 i hi⟩,(),rfl,?_,rfl,trivial⟩;refine(s1.write (o':=.cells cs2)).Aa (A:=pt b (.cells cs2)) λw' S' hp=>?_;refine .inr ⟨b,o,fl,cs2,by rw[yP],hf,hp.1,hp.2,by rw[hl2,hcl,yP];simp[ae],λk x hk=>⟨(),λj u hj=>?_,λf hf=>by cases hf⟩⟩;match j,hj with
 |0,hj=>
  cases hj;have:=J5 k x hk;simpa[ae]using this
end Go.Ideal
namespace Go.Ideal
variable {P:Program}
def qR{α:Type}(P:Program)(vals:α->List Value)(fn:Fn)(first cap:List Value)(F:List aJ)(X:List α->Prop):Prop:=
 ∀(S:Type) (inv:S->List OA) (ok:List α->S->Prop) (step:S->α->S×Bool) (s0:S) (Ar:Fn) (y1 y2:List Value) (F':List aJ),ok [] s0->
  (∀vs s x rest,ok vs s->X (vs++x::rest)->(step s x).2=true->ok (vs++[x]) (step s x).1)->
  (∀vs s x rest,ok vs s->X (vs++x::rest)->aZ P Ar (y1++vals x) y2 (inv s) F' (λ_:Unit=>.bool (step s x).2) (λ_=>inv (step s x).1) (λ_=>[]) (λ_=>True))->
  aZ P fn (first++[.func Ar ⟨y1⟩ ⟨y2⟩]) cap (inv s0) (F++F') (λ_:List α=>.tuple ⟨[]⟩) (λxs=>inv (jr step s0 xs)) (λ_=>[]) X
section
variable {B:List Nat} {w0:Wd} {kl kl' bA:List OA} {F:List aJ} {K:KO} {n:Nat} {l:List (Nat×Value)} {D:List Deferred} {pm:Option FrameMode} {ro:Option Nat}
def FZ{Z:Type}(B:List Nat)(w0:Wd)(n:Nat)(l3:Z->List (Nat×Value))(lo:Nat)(o:dz)(kl:Z->List OA)(F:List aJ):KO:=λoo a h=>
 oo=.normal/\∃z,a=act n (l3 z) [] none (some lo)/\∃w:Wd,w.h=h/\St B w0 (pt lo o::kl z) F w
theorem DI{Z:Type}{l3:Z->List (Nat×Value)}{lo:Nat}{o:dz}{k3:Z->List OA}(z:Z)(hl:l3 z=l)(hk:aH (pt lo o::k3 z) kl bA:=by exact nD):R (λh=>FZ B w0 n l3 lo o k3 F .normal (act n l [] none (some lo)) h) B w0 kl F:=λw s=>
 ⟨rfl,z,by rw[hl],w,rfl,(s.jB hk).drop⟩
theorem Zp{Y Z:Type}{lo:Nat}{L:nu}{args:List Value}{k1:List OA}{out:Y->Out}{k1':Y->List OA}{fs:Y->List aJ}{pr:Y->Prop}(l:List (Nat×Value))(l3:Z->List (Nat×Value))(k3:Z->List OA)(hl:L.tmps=iC l)(hst:L.state=.ready)(hps:L.params.all (λp=>Nat.blt p L.n)=true)(hlen:L.params.length=args.length)
 (ha:∀B w0,R (λh=>EV P L.assign (act L.n ((L.params.zip args).reverse++l) [] none (some lo)) h (FZ B w0 L.n l3 lo (.loop L) k3 F)) B w0 (pt lo (.loop L)::k1) F)
 (hb:∀z B w0,R (λh=>EV P L.body (act L.n (l3 z) [] none (some lo)) h (Dv B w0 lo L out k1' fs pr)) B w0 (pt lo (.loop (wO L))::k3 z) F):
 aZ P (.yield lo) args [] (pt lo (.loop L)::k1) F (λy:Y=>.bool (oM (out y))) (λy=>pt lo (.loop (mR L (out y)))::k1' y) fs pr:=by
 intro B w s;obtain⟨l2,e1,e2⟩:=Pd L.n L.params args l hps hlen;refine .round lo rfl rfl L s.get.1 hlen.symm _ (by
  rw[hl];show EV P L.assign (aU.mk L.n (rQ L.n L.params args (iC l)) [] none (some lo)) w.h _;rw[e1,e2];exact ha B w w s) ?_ ?_
 ·rintro o a h ⟨rfl,z,rfl,w1,rfl,s1⟩;exact⟨rfl,L,s1.get.1,hst⟩
 ·rintro a h r1 ⟨_,z,rfl,w1,rfl,s1⟩ hr;have hr1:r1=L:=by
   have:=s1.get.1;rw[hr]at this;injection this with this;injection this
  subst hr1;have hb:=hb z B w _ (s1.write (o':=.loop (wO r1)));refine Jo hb _ ?_;rintro o a h ⟨hd,w2,y,rfl,rfl,hn,s2,hp⟩;refine⟨wO r1,s2.get.1,hd,?_⟩;have fin:∀o',oM o'=oM (out y)->mR r1 o'=mR r1 (out y)->Left B w (λy:Y=>.bool (oM (out y))) (λy=>pt lo (.loop (mR r1 (out y)))::k1' y) fs pr (.ok (.bool (oM (out y)))) none (w2.h.set lo (.loop (mR r1 (out y)))):=λo' _ _=>
   ⟨rfl,_,y,rfl,s2.write,rfl,hp⟩
  cases ho:out y with
  |normal=>have:=fin .normal (by rw[ho]) (by rw[ho]);rw[ho]at this;exact this
  |exit j=>have:=fin (.exit j) (by rw[ho]) (by rw[ho]);rw[ho]at this;exact this
  |ret=>have:=fin .ret (by rw[ho]) (by rw[ho]);rw[ho]at this;exact this
  |panic ch=>rw[ho]at hn;exact hn.elim
theorem Zq{S α Z:Type}{f:Operand}{ps:List Tmp}{assign body:dm}{fn:Fn}{first captured:List Value}{vals:α->List Value}{F1:List aJ}{X:List α->Prop}(step:S->α->S×Out)(inv:S->List OA)(ok:List α->S->Prop)(s0:S)(h0:ok [] s0)
 (hok:∀vs s x rest,ok vs s->X (vs++x::rest)->(step s x).2=.normal->ok (vs++[x]) (step s x).1) (hit:qR P vals fn first captured F1 X)
 (hf:ev l f=.func fn ⟨first⟩ ⟨captured⟩) (hps:ps.all (λp=>Nat.blt p n)=true) (hlen:∀x,ps.length=(vals x).length) (hk:aH (inv s0) kl bA) (hF:Sub F1 F) (jq:∀s x,Du (step s x).2)
 (l3:α->Z->List (Nat×Value)) (k3:α->Z->List OA)
 (ha:∀(s:S) (x:α) (lo:Nat) (o:dz) B w0,R (λh=>EV P assign (act n ((ps.zip (vals x)).reverse++l) [] none (some lo)) h (FZ B w0 n (l3 x) lo o (λz=>k3 x z++inv s) F)) B w0 (pt lo o::inv s) F)
 (hb:∀(vs:List α) (s:S) (x:α) (rest:List α) (z:Z) (lo:Nat) (L:nu) B w0,ok vs s->X (vs++x::rest)->R (λh=>EV P body (act n (l3 x z) [] none (some lo)) h (Dv B w0 lo L (λ_:Unit=>(step s x).2) (λ_=>inv (step s x).1) (λ_=>[]) (λ_=>True))) B w0 (pt lo (.loop (wO L))::(k3 x z++inv s)) F)
 (next:∀r xs,X xs->R (λh=>K (lT step s0 xs).2 (act n l ({target:=.collected r,args:= #[]}::D) pm none) h) B w0 (inv (lT step s0 xs).1++(pt r (.iI true)::bA)) F):
 R (λh=>EV P (.rangeFunc f ps assign body) (act n l D pm none) h K) B w0 kl F:=by
 refine Y2 (Y:=List α) (k1:=inv s0) (F1:=F1++F) (JQ:=λ_=>.tuple ⟨[]⟩) (out:=λxs=>(lT step s0 xs).2) (k1':=λxs=>inv (lT step s0 xs).1) (fs:=λ_=>[]) (pr:=X) hf ?_ hk (hF.app (Sub.refl' F [])) (λr y hy=>next r y hy);intro lo r;have:=hit (S×Out) (λso=>pt lo (.loop (mR ⟨.ready,none,iC l,n,ps,assign,body,r⟩ so.2))::inv so.1) (λvs so=>so.2=.normal/\ok vs so.1) (λso x=>(step so.1 x,oM (step so.1 x).2)) (s0,.normal) (.yield lo) [] [] F ⟨rfl,h0⟩
  (λvs so x rest ho hx h=>by
    have h:oM (step so.1 x).2=true:=h;have hn:(step so.1 x).2=.normal:=by
     cases e:(step so.1 x).2 with
     |normal=>rfl
     |_=>rw[e]at h;cases h
    exact⟨hn,hok vs so.1 x rest ho.2 hx hn⟩)
  (λvs so x rest ho hx=>by
    obtain⟨s,o⟩:=so;obtain⟨hn,ho⟩:=ho;have hn:o=.normal:=hn;subst hn;exact Zp (Y:=Unit) (L:=⟨.ready,none,iC l,n,ps,assign,body,r⟩) (args:=vals x) (k1:=inv s) (out:=λ_=>(step s x).2) (k1':=λ_=>inv (step s x).1) (fs:=λ_=>[]) (pr:=λ_=>True) l (l3 x) (λz=>k3 x z++inv s) rfl rfl hps (hlen x)
     (λB w0=>ha s x lo _ B w0) (λz B w0=>hb vs s x rest z lo _ B w0 ho hx))
 have e:(λxs:List α=>pt lo (.loop (mR ⟨.ready,none,iC l,n,ps,assign,body,r⟩ (jr (λ(so:S×Out) x=>(step so.1 x,oM (step so.1 x).2)) (s0,.normal) xs).2))::inv (jr (λ(so:S×Out) x=>(step so.1 x,oM (step so.1 x).2)) (s0,.normal) xs).1)=λxs=>pt lo (.loop (mR ⟨.ready,none,iC l,n,ps,assign,body,r⟩ (lT step s0 xs).2))::inv (lT step s0 xs).1:=by
  funext xs
  rw[Pe]
 have h2:aZ P fn (first++[.func (.yield lo) ⟨[]⟩ ⟨[]⟩]) captured (pt lo (.loop ⟨.ready,none,iC l,n,ps,assign,body,r⟩)::inv s0) (F1++F) (λ_:List α=>.tuple ⟨[]⟩) (λxs=>pt lo (.loop (mR ⟨.ready,none,iC l,n,ps,assign,body,r⟩ (jr (λ(so:S×Out) x=>(step so.1 x,oM (step so.1 x).2)) (s0,.normal) xs).2))::inv (jr (λ(so:S×Out) x=>(step so.1 x,oM (step so.1 x).2)) (s0,.normal) xs).1) (λ_=>[]) X:=this;rw[e]at h2;exact h2
theorem DJ{S α Z:Type}{f:Operand}{ps:List Tmp}{assign body:dm}{fn:Fn}{first captured:List Value}{vals:α->List Value}{F1:List aJ}{X:List α->Prop}(step:S->α->S×Out)(inv:S->List OA)(ok:List α->S->Prop)(s0:S)(l3:α->Z->List (Nat×Value))(k3:α->Z->List OA)(h0:ok [] s0)
 (hok:∀vs s x rest,ok vs s->X (vs++x::rest)->(step s x).2=.normal->ok (vs++[x]) (step s x).1) (hit:qR P vals fn first captured F1 X)
 (ha:∀(s:S) (x:α) (lo:Nat) (o:dz) B w0,R (λh=>EV P assign (act n ((ps.zip (vals x)).reverse++l) [] none (some lo)) h (FZ B w0 n (l3 x) lo o (λz=>k3 x z++inv s) F)) B w0 (pt lo o::inv s) F)
 (hb:∀(vs:List α) (s:S) (x:α) (rest:List α) (z:Z) (lo:Nat) (L:nu) B w0,ok vs s->X (vs++x::rest)->R (λh=>EV P body (act n (l3 x z) [] none (some lo)) h (Dv B w0 lo L (λ_:Unit=>(step s x).2) (λ_=>inv (step s x).1) (λ_=>[]) (λ_=>True))) B w0 (pt lo (.loop (wO L))::(k3 x z++inv s)) F)
 (next:∀r xs,X xs->R (λh=>K (lT step s0 xs).2 (act n l ({target:=.collected r,args:= #[]}::D) pm none) h) B w0 (inv (lT step s0 xs).1++(pt r (.iI true)::bA)) F)
 (jq:∀s x,Du (step s x).2)
 (hf:ev l f=.func fn ⟨first⟩ ⟨captured⟩:=by rfl) (hps:ps.all (λp=>Nat.blt p n)=true:=by rfl) (hlen:∀x,ps.length=(vals x).length:=by intro _;rfl)
 (hk:aH (inv s0) kl bA:=by exact nD) (hF:Sub F1 F:=by exact mQ):
 R (λh=>EV P (.rangeFunc f ps assign body) (act n l D pm none) h K) B w0 kl F:=
 Zq step inv ok s0 h0 hok hit hf hps hlen hk hF jq l3 k3 ha hb next
end
end Go.Ideal
namespace Go.Ideal
variable {P:Program}
def bP{α:Type}(E:Enc α)(ax:List (α×E.Y)):List Value:=ax.flatMap λp=>E.pat p.1 p.2
theorem uV{α:Type}{E:Enc α}:∀ax:List (α×E.Y),(bP E ax).length=ax.length*E.n
 |[]=>by simp[bP]
 |p::l=>by
  have ih:=uV l;unfold bP at ih⊢;rw[Ht,gB,ih,E.len,oq,ow];omega
theorem uW{α:Type}{E:Enc α}:∀{ax:List (α×E.Y)} {k:Nat} {p:α×E.Y} {j:Nat} {u:Value},ax[k]? =some p->(E.pat p.1 p.2)[j]? =some u->(bP E ax)[k*E.n+j]? =some u
 |[],k,p,j,u,h,_=>by cases h
 |q::l,0,p,j,u,h,hj=>by
  cases h;unfold bP;rw[Ht,vV,eH,kU (bT.1 hj).1];exact hj
 |q::l,k+1,p,j,u,h,hj=>by
  have ih:=uW (ax:=l) (k:=k) (by simpa using h) hj;unfold bP at ih⊢;rw[Ht,mZ (by rw[E.len,ow];omega),E.len,show(k+1)*E.n+j - E.n=k*E.n+j by rw[ow];omega];exact ih
theorem J6{α:Type}{E:Enc α}{j:Nat}{v:Value}:∀{ax:List (α×E.Y)} {k:Nat} {p p':α×E.Y},ax[k]? =some p->(E.pat p.1 p.2).set j v=E.pat p'.1 p'.2->j<E.n->(bP E ax).set (k*E.n+j) v=bP E (ax.set k p')
 |[],k,p,p',h,_,_=>by cases h
 |q::l,0,p,p',h,hp,hj=>by
  cases h;unfold bP;rw[Ht,vV,eH,List.set_append_left _ _ (by rw[E.len];exact hj),hp];rfl
 |q::l,k+1,p,p',h,hp,hj=>by
  have ih:=J6 (ax:=l) (k:=k) (by simpa using h) hp hj;unfold bP at ih⊢;rw[Ht,List.set_append_right _ _ (by rw[E.len,ow];omega),E.len,show(k+1)*E.n+j - E.n=k*E.n+j by rw[ow];omega,ih];rfl
def nR{α:Type}(E:Enc α)(v:Value)(ax:List (α×E.Y)):aJ:=
 ⟨λw=>(ax=[]/\∃a c,v=.slice a 0 c/\JJ E.n a)\/∃i o f c cells,(v=.slice (some ⟨i,o,some f⟩) ax.length c/\ax.length<=c/\(f=0\/f=E.n))/\Fz w i cells/\
  ∀(k:Nat) p,ax[k]? =some p->(∀(j:Nat) u,(E.pat p.1 p.2)[j]? =some u->cells[o+k*E.n+j]? =some u)/\∀f∈E.fs p.1 p.2,f.p w,
  λa h=>by
   rcases h with h|⟨i,o,f,c,cells,h1,h2,h3⟩
   ·exact .inl h
   ·refine .inr ⟨i,o,f,c,cells,h1,h2.mono a,λk x hk=>?_⟩;obtain⟨q1,q2⟩:=h3 k x hk;exact⟨q1,λf hf=>f.mono a (q2 f hf)⟩⟩
def oO{α:Type}(E:Enc α)(ax:List (α×E.Y)):aJ:=⟨λw=>∀p∈ax,∀f∈E.fs p.1 p.2,f.p w,λa h p hp f hf=>f.mono a (h p hp f hf)⟩
theorem Zr{α:Type}{E:Enc α}{v:Value}{ax:List (α×E.Y)}{w:Wd}(h:(nR E v ax).p w):(oO E ax).p w:=by
 intro p hp f hf;rcases h with⟨rfl,_⟩|⟨i,o,fl,c,cells,_,_,h3⟩
 ·cases hp
 ·obtain⟨k,hk⟩:=sQ.1 hp;exact(h3 k p hk).2 f hf
theorem Zt{α:Type}{E:Enc α}{v:Value}{ax:List (α×E.Y)}{w:Wd}(h:(nR E v ax).p w):(ah E v (ax.map (·.1))).p w:=by
 rcases h with⟨rfl,h⟩|⟨i,o,f,c,cells,h1,h2,h3⟩
 ·exact .inl ⟨rfl,h⟩
 ·refine .inr ⟨i,o,f,c,cells,by rw[di];exact h1,h2,λk x hk=>?_⟩;rw[eY]at hk;cases hp:ax[k]? with
  |none=>rw[hp]at hk;cases hk
  |some p=>
   rw[hp]at hk;cases hk;exact⟨p.2,h3 k p hp⟩
theorem PZ{α:Type}{E:Enc α}{v:Value}{xs:List α}{w:Wd}(h:(ah E v xs).p w):∃ax:List (α×E.Y),ax.map (·.1)=xs/\(nR E v ax).p w:=by
 rcases h with⟨rfl,h⟩|⟨i,o,f,c,cells,h1,h2,h3⟩
 ·exact⟨[],rfl,.inl ⟨rfl,h⟩⟩
 ·obtain⟨l,hl,hp⟩:=JP (p:=λk (p:α×E.Y)=>xs[k]? =some p.1/\(∀(j:Nat) u,(E.pat p.1 p.2)[j]? =some u->cells[o+k*E.n+j]? =some u)/\∀f∈E.fs p.1 p.2,f.p w) xs.length (λk hk=>by
   obtain⟨y,q1,q2⟩:=h3 k xs[k] (cK hk);exact⟨(xs[k],y),cK hk,q1,q2⟩)
  have hm:l.map (·.1)=xs:=by
   apply jw;intro k;rw[eY];by_cases hk:k<xs.length
   ·have hk':k<l.length:=by omega
    rw[cK hk',jE,(hp k l[k] (cK hk')).1]
   ·rw[gL (by omega),gL (by omega)];rfl
  exact⟨l,hm,.inr ⟨i,o,f,c,cells,by rw[hl];exact h1,h2,λk p hk=>(hp k p hk).2⟩⟩
def ar{α:Type}(E:Enc α)(v:Value)(ax:List (α×E.Y)):OA:=
 ⟨λw S=>(ax=[]/\(∃a,v=.slice a 0 0/\JJ E.n a)/\S=[])\/∃b f,v=.slice (some ⟨b,0,some f⟩) ax.length ax.length/\(f=0\/f=E.n)/\S=[b]/\w.h.get b=some (.cells (bP E ax)),
  λa h hp=>by
   rcases hp with hp|⟨b,f,h1,h2,h3,h4⟩
   ·exact .inl hp
   ·exact .inr ⟨b,f,h1,h2,h3,by rw[h b (by rw[h3];exact bG.2 rfl)];exact h4⟩⟩
theorem Zu{α:Type}{E:Enc α}{v:Value}{ax:List (α×E.Y)}(w w':Wd)(S:List Nat)(hp:(ar E v ax).p w S)(hle:w.Le w')(hh:w'.h=w.h)(hz:∀i∈S,w'.z i)(ha:(oO E ax).p w):(nR E v ax).p w':=by
 rcases hp with⟨h1,⟨a,h2,h3⟩,_⟩|⟨b,f,h1,h2,h3,h4⟩
 ·exact .inl ⟨h1,a,0,h2,h3⟩
 ·refine .inr ⟨b,0,f,_,_,⟨h1,bI _,h2⟩,⟨hz b (by rw[h3];exact bG.2 rfl),.inl (by rw[hh];exact h4)⟩,λk p hk=>⟨λj u hj=>?_,λf hf=>f.mono hle (ha p (bJ hk) f hf)⟩⟩;rw[eH];exact uW hk hj
section
variable {B:List Nat} {w0:Wd} {kl kl' bA:List OA} {F:List aJ} {K:KO} {ds:List Tmp} {rest:List bO} {n:Nat} {l:List (Nat×Value)} {D:List Deferred} {pm:Option FrameMode} {ro:Option Nat} {d:Nat} {g:Option (Tmp×Bool)}
variable {α:Type} {E:Enc α} {v:Value}
theorem yQ{xs:List α}{Q:IH->Prop}(E:Enc α)(v:Value)(h:∀ax:List (α×E.Y),ax.map (·.1)=xs->R Q B w0 kl (nR E v ax::F))(hf:ah E v xs∈F:=by exact qO):R Q B w0 kl F:=λw s=>by
 obtain⟨ax,h1,h2⟩:=PZ (s.facts _ hf);exact h ax h1 w ⟨s.agree,s.le,s.fM,s.own,λf hf=>by
  rcases dF.1 hf with rfl|hf
  ·exact h2
  ·exact s.facts f hf⟩
theorem DK{ax:List (α×E.Y)}{Q:IH->Prop}(h:R Q B w0 kl (oO E ax::F))(hf:nR E v ax∈F:=by exact qO):R Q B w0 kl F:=λw s=>
 h w ⟨s.agree,s.le,s.fM,s.own,λf hf'=>by
  rcases dF.1 hf' with rfl|hf'
  ·exact Zr (s.facts _ hf)
  ·exact s.facts f hf'⟩
theorem DL{ax:List (α×E.Y)}{Q:IH->Prop}(h:R Q B w0 kl' (nR E v ax::ah E v (ax.map (·.1))::F))(ha:∀w,(∀f∈F,f.p w)->(oO E ax).p w)(hk:ay (ar E v ax) kl kl':=by exact gu):R Q B w0 kl F:=λw s=>by
 have hall:=ha w s.facts
 -- freeze by hand
 obtain⟨S,⟨S1,S2,q1,q2,e⟩,h2,h3⟩:=(s.fK hk).own;subst e;let w':Wd:=⟨w.h,λi=>w.z i\/i∈S1,λi hi=>hi.elim (w.j4 i) λhi=>(h3 i (kw _ hi)).2.1⟩
 have hle:w.Le w':=⟨bI _,λi hi=>.inl hi,λ_ _=>rfl⟩
 have hnd:=iA.1 h2;have hel:=Zu w w' S1 q1 hle rfl (λi hi=>.inr hi) hall;refine h w' ⟨s.agree,s.le.trans hle,λi hi hz=>?_,⟨S2,eZ.loc hle (λ_ _=>rfl) q2,hnd.2.1,λi hi=>?_⟩,λf hf=>?_⟩
 ·rcases hz with hz|hz
  ·exact s.fM i hi hz
  ·rcases(h3 i (kw _ hz)).1 with q|q
   ·omega
   ·exact .inr q
 ·have:=h3 i (ni _ hi);refine⟨this.1,this.2.1,λhz=>hz.elim this.2.2 λhm=>?_⟩;exact hnd.2.2 i hm i hi rfl
 ·rcases dF.1 hf with rfl|hf
  ·exact hel
  ·rcases dF.1 hf with rfl|hf
   ·exact Zt hel
   ·exact f.mono hle (s.facts f hf)
theorem P5{ax:List (α×E.Y)}{Q:IH->Prop}(hlen:0<ax.length)(h:∀b f,(f=0\/f=E.n)->v=.slice (some ⟨b,0,some f⟩) ax.length ax.length->R Q B w0 (pt b (.cells (bP E ax))::kl') F)(hk:ay (ar E v ax) kl kl':=by exact gu):R Q B w0 kl F:=λw s=>by
 have s1:=s.fK hk;obtain⟨S,⟨S1,S2,q1,q2,e⟩,h2,h3⟩:=s1.own;rcases q1 with⟨h0,_⟩|⟨b,f,h4,h5,h6,h7⟩
 ·rw[h0]at hlen;simp at hlen
 ·exact h b f h5 h4 w ⟨s1.agree,s1.le,s1.fM,⟨S,⟨S1,S2,⟨h6,h7⟩,q2,e⟩,h2,h3⟩,s1.facts⟩
theorem qU{α:Type}(E:Enc α){ax:List (α×E.Y)}{Q:IH->Prop}{b f m:Nat}(hm:m=ax.length)(hf:f=0\/f=E.n)(h:R Q B w0 (ar E (.slice (some ⟨b,0,some f⟩) m m) ax::kl') F)(hk:ay (pt b (.cells (bP E ax))) kl kl':=by exact gu):R Q B w0 kl F:=λw s=>by
 refine h w ((s.fK hk).Aa (A:=pt b (.cells (bP E ax))) λw S hp=>.inr ⟨b,f,by rw[hm],hf,hp.1,hp.2⟩)
theorem P6{ax:List (α×E.Y)}{Q:IH->Prop}(h:∀a,v=.slice a ax.length ax.length->R Q B w0 kl F)(hk:ay (ar E v ax) kl kl':=by exact gu):R Q B w0 kl F:=λw s=>by
 obtain⟨S,⟨S1,S2,q1,q2,e⟩,h2,h3⟩:=(s.fK hk).own;rcases q1 with⟨rfl,⟨a,h1,_⟩,_⟩|⟨b,f,h4,_⟩
 ·exact h a h1 w s
 ·exact h _ h4 w s
theorem F3{x:Operand}{t e:TypeId}{m c:Nat}(hu:P.underlying t=some (.slice e))(hx:ev l x=.slice none m c):Pu P (ev l) (.bin .eql t x (.const (.slice none 0 0))) (.bool true):=λh=>by
 have he:dR P (Op.equal t (.slice none m c) (.slice none 0 0))=some true:=by
  show dR P (Op.equalIn (9999+1) t (.slice none m c) (.slice none 0 0))=_;unfold Op.equalIn;rw[gJ,pV hu];rfl
 have h1:jQ P (do eqGuard .eql t x (.const (.slice none 0 0)) (.slice none m c) (.slice none 0 0);binOp .eql t (.slice none m c) (.slice none 0 0))=some (.bool true):=by
  unfold jQ;rw[gJ,Ac (by intro c e;cases e) (by intro e;cases e)];simp only[iE,binOp];rw[gJ,he];rfl
 have h2:kI P .eql t x (.const (.slice none 0 0)) (.slice none m c) (.slice none 0 0)=some (.bool true):=by
  by_cases hmc:m=0/\c=0
  ·show cond (bH (Value.slice none m c)&&bH (Value.slice none 0 0)) (jQ P (do eqGuard .eql t x (.const (.slice none 0 0)) (.slice none m c) (.slice none 0 0);binOp .eql t (.slice none m c) (.slice none 0 0))) _=_;rw[h1];obtain⟨rfl,rfl⟩:=hmc;simp[bH]
  ·have e0:bH (Value.slice none m c)=false:=by
    cases hb:bH (Value.slice none m c)with
    |false=>rfl
    |true=>exact absurd (by simpa[bH]using hb) hmc
   have e1:qB P t (.slice none m c) (.slice none 0 0)=some true:=by
    unfold qB;rw[hu]
   show cond (bH (Value.slice none m c)&&bH (Value.slice none 0 0)) _ (match qB P t (.slice none m c) (.slice none 0 0)with|some b=>some (Value.bool b)|none=>none)=_;rw[e0,e1];rfl
 simp only[aA.run,hx];show(match kI P .eql t x (.const (.slice none 0 0)) (.slice none m c) (.slice none 0 0)with|some v=>some (v,h)|none=>none)=_;rw[h2]
theorem Au{x:Operand}{t e:TypeId}{a:Addr}{m c:Nat}(hu:P.underlying t=some (.slice e))(hx:ev l x=.slice (some a) m c):Pu P (ev l) (.bin .eql t x (.const (.slice none 0 0))) (.bool false):=λh=>by
 have h2:kI P .eql t x (.const (.slice none 0 0)) (.slice (some a) m c) (.slice none 0 0)=some (.bool false):=by
  have:qB P t (.slice (some a) m c) (.slice none 0 0)=some false:=by
   unfold qB;rw[hu]
  show(match qB P t (.slice (some a) m c) (.slice none 0 0)with|some b=>some (Value.bool b)|none=>none)=_;rw[this]
 simp only[aA.run,hx];show(match kI P .eql t x (.const (.slice none 0 0)) (.slice (some a) m c) (.slice none 0 0)with|some v=>some (v,h)|none=>none)=_;rw[h2]
theorem J7{e:TypeId}{size bytes b c:Nat}{a:Option Addr}{s x:Operand}
 (next:R (λh=>aD P ds rest (act n ((d,.slice (some ⟨b,0,some 0⟩) 0 0)::l) D pm ro) h K) B w0 (pt b (.cells [])::kl') F)
 (hs:ev l s=.slice (some ⟨b,0,some 0⟩) 0 0:=by rfl) (hx:ev l x=.slice a 0 c:=by rfl) (hk:ay (pt b (.cells [])) kl kl':=by exact gu) (hn:Nat.blt d n=true:=by rfl) (hg:bS l g=true:=by rfl):
 R (λh=>aD P ds (⟨⟨some d,g,.append e size bytes s x⟩,[]⟩::rest) (act n l D pm ro) h K) B w0 kl F:=λw st=>by
 have st1:=st.fK hk;refine jH hn hg (v:=.slice (some ⟨b,0,some 0⟩) 0 0) (h':=w.h.set b (.cells [])) ?_ (next ⟨w.h.set b (.cells []),w.z,λi hi=>w.j4 i hi⟩ st1.write);have h0:∀m,Nat.mul 0 m=0:=λm=>vV m;have e1:w.h.storeAt b 0 []=some (w.h.set b (.cells [])):=by
  unfold IH.storeAt;simp only[st1.get.1];rfl
 simp only[aA.run,hx,hs,lZ,uy,pE];show cond (Nat.ble (Nat.mul (Nat.add 0 0) bytes) small&&Nat.ble (Nat.mul (Nat.add 0 0) size) small&&Nat.ble (Nat.add 0 0) small) (cond (Nat.ble (Nat.add 0 0) 0) (match w.h.storeAt b (Nat.add 0 (Nat.mul 0 size)) []with|some h=>some (Value.slice (some ⟨b,0,some 0⟩) (Nat.add 0 0) 0,h)|none=>none) _) none=_;rw[show Nat.add 0 0=0 from rfl,h0,h0,show Nat.add 0 0=0 from rfl,e1];have:(Nat.ble 0 small&&Nat.ble 0 small&&Nat.ble 0 small)=true:=rfl;rw[this];rfl
theorem J8{α:Type}{e:TypeId}{size bytes b:Nat}{s x:Operand}(E:Enc α)(ax:List (α×E.Y))(hne:0<ax.length)(hm:ax.length*bytes<=1073741824/\ax.length*size<=1073741824/\ax.length<=1073741824)
 (next:∀b',R (λh=>aD P ds rest (act n ((d,.slice (some ⟨b',0,some size⟩) ax.length ax.length)::l) D pm ro) h K) B w0 (pt b' (.cells (bP E ax))::kl') F)
 (hs:ev l s=.slice (some ⟨b,0,some 0⟩) 0 0:=by rfl) (hx:ev l x=v:=by conv=>lhs;whnf) (hf:nR E v ax∈F:=by exact qO) (hz:E.n=size:=by rfl) (hk:ay (pt b (.cells [])) kl kl':=by exact gu) (hn:Nat.blt d n=true:=by rfl) (hg:bS l g=true:=by rfl):
 R (λh=>aD P ds (⟨⟨some d,g,.append e size bytes s x⟩,[]⟩::rest) (act n l D pm ro) h K) B w0 kl F:=λw st=>by
 subst hz;have st1:=st.fK hk;have hat:At w.h b (.cells []):=st.at_ hk;obtain⟨k,hk'⟩:∃k,ax.length=k+1:=⟨ax.length - 1,by omega⟩
 rcases st.facts _ hf with⟨rfl,_⟩|⟨i,o,f,c,cells,⟨e1,hc⟩,q2,q3⟩
 ·simp at hne
 have hfl:=uV ax;have hcells:∀j,j<ax.length*E.n->cells[o+j]? =(bP E ax)[j]?:=λj hj=>by
  have hn0:0<E.n:=by
   rcases Bj E.n with h0|h0
   ·rw[h0]at hj;omega
   ·exact h0
  have hd:j/E.n<ax.length:=by rw[Nat.div_lt_iff_lt_mul hn0];exact hj
  have hmod:=Nat.mod_lt j hn0;have hpk:=cK hd;have hu:(E.pat (ax[j/E.n]).1 (ax[j/E.n]).2)[j%E.n]? =some ((E.pat (ax[j/E.n]).1 (ax[j/E.n]).2)[j%E.n]'(by rw[E.len];exact hmod)):=cK _;have h1:=(q3 (j/E.n) _ hpk).1 (j%E.n) _ hu;have h2:=uW hpk hu;have wJ:j/E.n*E.n+j%E.n=j:=by rw[Nat.mul_comm];exact Nat.div_add_mod j E.n
  rw[ng,wJ]at h1;rw[wJ]at h2;rw[h1,h2]
 have hlen:o+ax.length*E.n<=cells.length\/ax.length*E.n=0:=by
  rcases Bj (ax.length*E.n)with h0|h0
  ·exact .inr h0
  ·left;have h1:=hcells (ax.length*E.n - 1) (by omega);have hx0:(bP E ax)[ax.length*E.n - 1]? =some ((bP E ax)[ax.length*E.n - 1]'(by omega)):=cK _;rw[hx0]at h1;have:=(bT.1 h1).1;omega
 have hpos:0<E.n\/E.n=0:=by omega
 have hread:w.h.gG i o (ax.length*E.n)=some (bP E ax):=by
  rw[q2.cells.gG,l6,l7,if_pos (by rw[lX];omega)];congr 1;apply jw;intro j;rw[qw];by_cases hj:j<ax.length*E.n
  ·rw[if_pos hj,mY];exact hcells j hj
  ·rw[if_neg hj,gL (by omega)]
 refine JB (b:=b) (o:=0) (m:=0) (k:=k) (f:=some 0) (old:=[]) (xs:=bP E ax) hn hg hs (by rw[hx,e1,hk'];rfl) ?_ ?_ (.inl rfl) ?_ λh' mv=>?_
 ·rw[hx,e1,<- hk'];exact hread
 ·rw[hat.c.gG,vV];rfl
 ·rw[eH,<- hk'];omega
 obtain⟨w',rfl,iK,wN⟩:=st1.move mv;rw[dH]at iK;have:=next w.h.next w' iK
 rw[hk']at this;rw[eH];exact this
end
end Go.Ideal
namespace Go.Ideal
variable {P:Program}
inductive Av(P:Program)(ty:TypeId):Value->Value->Bool->Prop
 |int {a b:Int} (h:P.underlying ty=some (.int .i64)):Av P ty (.int .i64 a) (.int .i64 b) (decide (a=b))
 |str {a b:ByteArray} (h:P.underlying ty=some .string):Av P ty (.string a) (.string b) (decide (a=b))
theorem F4:dR P program=some P:=rfl
theorem J9{α:Type}{c:Prop}[Decidable c]{a b:Sem α}:dR P (if c then a else b)=if c then dR P a else dR P b:=by split<;>rfl
theorem P7{ty:TypeId}{a b:Value}{r:Bool}(c:Av P ty a b r)(d:Nat):dR P (Op.equalIn (d+1) ty a b)=some r:=by
 cases c with
 |int h=>
  unfold Op.equalIn;rw[gJ,pV h];simp only[iE,if_true];rfl
 |str h=>
  unfold Op.equalIn;rw[gJ,pV h];show some (_==_)=_;rw[bytes_beq]
theorem F5{ty:TypeId}{a b v:Value}{r:Bool}(c:Av P ty a b r){xs:Array Value}{o:Nat}(hx:xs[o]? =some v):dR P (part ty xs o)=some v:=by
 have hu:∃d,P.underlying ty=some d/\(∀fs,d≠.struct fs)/\∀n e,d≠.array n e:=by
  cases c with
  |int h=>exact⟨_,h,(by intro _ e;cases e),(by intro _ _ e;cases e)⟩
  |str h=>exact⟨_,h,(by intro _ e;cases e),(by intro _ _ e;cases e)⟩
 obtain⟨d,h1,h2,h3⟩:=hu;have hag:dR P (isAgg ty)=some false:=by
  unfold isAgg;rw[gJ,pV h1];cases d with
  |struct fs=>exact absurd rfl (h2 fs)
  |array n e=>exact absurd rfl (h3 n e)
  |_=>rfl
 unfold part;rw[gJ,hag];show dR P (match xs[o]? with|some v=>pure v|none=>stuck "part: no such cell")=_;rw[hx];rfl
inductive Aw(P:Program)(xs ys:List Value):List Field->Bool->Prop
 |nil:Aw P xs ys [] true
 |cons {f:Field} {fs:List Field} {a b:Value} {r r':Bool} (hn:(f.name== "_")=false) (hx:xs[f.offset]? =some a) (hy:ys[f.offset]? =some b) (c:Av P f.type a b r) (t:Aw P xs ys fs r'):Aw P xs ys (f::fs) (r&&r')
theorem Zv{d:Nat}{t:TypeId}{fs:Array Field}{xs ys:List Value}{r:Bool}(hu:P.underlying t=some (.struct fs))(hp:P.stoodInHeld t=false)(h:Aw P xs ys fs.toList r):dR P (Op.equalIn (d+2) t (.agg ⟨xs⟩) (.agg ⟨ys⟩))=some r:=by
 unfold Op.equalIn;rw[gJ,pV hu];simp only[iE];rw[gJ,F4];simp only[iE,hp,sP,if_false];rw[<- Array.forIn_toList];generalize fs.toList=l at h;clear hu;induction h with
 |nil=>rfl
 | @cons f fs a b r r' hn hx hy c t ih=>
   have hn:f.name≠ "_" :=by simpa using hn
   rw[List.forIn_cons];simp only[gJ,J9,if_pos hn,hn,ne_eq,not_false_eq_true,if_true]at ih⊢;rw[F5 (xs:=⟨xs⟩) c (by simpa using hx),iE,F5 (xs:=⟨ys⟩) c (by simpa using hy),iE,P7 c,iE];cases r with
   |false=>rfl
   |true=>exact ih
section
variable {l:List (Nat×Value)}
theorem Zw{op:BinOp}{t:TypeId}{x y:Operand}{a b:Array Value}(hm:P.eqGuardType P.depth t=false):dR P (eqGuard op t x y (.agg a) (.agg b))=some ():=by
 have key:dR P (do if !(<- program).eqGuardType (<- program).depth t then return
                   if <- Op.eqGuardIn Op.maxDepth t (.agg a) (.agg b)then unsupported (.noEntry "binop/eql: two nil values of an interface type with methods, in a part of a struct or an array"))=some ():=by
  rw[gJ,F4];simp only[iE];rw[gJ,F4];simp only[iE,hm,Bool.not_false,if_true];rfl
 cases op<;>first|exact key|rfl
theorem P8{op:BinOp}{t:TypeId}{x y:Operand}{a b:List Value}{v:Value}(ha:fw a=true)(hb:fw b=true)(hm:P.eqGuardType P.depth t=false)(hv:dR P (binOp op t (.agg ⟨a⟩) (.agg ⟨b⟩))=some v)(hf:bH v=true):kI P op t x y (.agg ⟨a⟩) (.agg ⟨b⟩)=some v:=by
 have h1:jQ P (do eqGuard op t x y (.agg ⟨a⟩) (.agg ⟨b⟩);binOp op t (.agg ⟨a⟩) (.agg ⟨b⟩))=some v:=by
  unfold jQ;rw[gJ,Zw hm];simp only[iE,hv,hf,cond]
 show cond (bH (.agg ⟨a⟩)&&bH (.agg ⟨b⟩)) (jQ P (do eqGuard op t x y (.agg ⟨a⟩) (.agg ⟨b⟩);binOp op t (.agg ⟨a⟩) (.agg ⟨b⟩))) _=_;rw[h1];simp[bH,ha,hb]
theorem Ay{x y:Operand}{t:TypeId}{fs:Array Field}{xs ys:List Value}{r:Bool}(hx:ev l x=.agg ⟨xs⟩)(hy:ev l y=.agg ⟨ys⟩)(hu:P.underlying t=some (.struct fs))(hp:P.stoodInHeld t=false)(hm:P.eqGuardType P.depth t=false)(h:Aw P xs ys fs.toList r)(ha:fw xs=true)(hb:fw ys=true):
 Pu P (ev l) (.bin .neq t x y) (.bool (!r)):=λh0=>by
 simp only[aA.run,hx,hy];rw[P8 ha hb hm (v:=.bool (!r)) (by
  show dR P (do pure (Value.bool (!(<- Op.equal t (.agg ⟨xs⟩) (.agg ⟨ys⟩)))))=_;rw[gJ,show dR P (Op.equal t (.agg ⟨xs⟩) (.agg ⟨ys⟩))=some r from Zv (d:=9998) hu hp h];rfl) rfl]
theorem P9{d n:Nat}{t e:TypeId}{xs ys:List Int}(hu:P.underlying t=some (.array n e))(he:P.underlying e=some (.int .i64))(hs:P.info? e|>.map (·.size)|>(·=some 1))(hx:xs.length=n)(hy:ys.length=n):
 dR P (Op.equalIn (d+2) t (.agg ⟨xs.map (.int .i64)⟩) (.agg ⟨ys.map (.int .i64)⟩))=some (decide (xs=ys)):=by
 have hsz:dR P (sizeOf e)=some 1:=by
  unfold sizeOf typeInfo;cases hi:P.info? e with
  |none=>rw[hi]at hs;cases hs
  |some i=>
   rw[hi]at hs;have hs:i.size=1:=by simpa using hs
   simp only[gJ,F4,iE,hi];rw[<- hs];rfl
 unfold Op.equalIn;rw[gJ,pV hu];simp only[iE];rw[gJ,hsz];simp only[iE,Nat.mul_one];rw[Std.Legacy.Range.forIn_eq_forIn_range'];simp only[Std.Legacy.Range.size,zu,Nat.add_sub_cancel,Nat.div_one];have key:∀(m i:Nat),i+m=n->dR P (do
  let Qa <- forIn (List.range' i m 1) ((none,()):Option Bool×Unit) λi Qa=>
   (do let a <- part e ⟨xs.map (.int .i64)⟩ i
       let b <- part e ⟨ys.map (.int .i64)⟩ i
       let r <- Op.equalIn (d+1) e a b
       if(!r)=true then pure (ForInStep.done (some false,()))else pure (ForInStep.yield (none,())))
  match Qa.fst with
  |some r=>pure r
  |none=>pure true)=some (decide (xs.drop i=ys.drop i)):=by
  intro m;induction m with
  |zero=>
   intro i hi;rw[zx (by omega),zx (by omega)];rfl
  |succ m ih=>
   intro i hi;have hix:i<xs.length:=by omega
   have Qb:i<ys.length:=by omega
   have c:Av P e (.int .i64 xs[i]) (.int .i64 ys[i]) (decide (xs[i]=ys[i])):=.int he;rw[List.range'_succ,List.forIn_cons];simp only[gJ,J9];rw[F5 (xs:=⟨xs.map (.int .i64)⟩) (o:=i) (v:=.int .i64 xs[i]) c (by simp[hix]),iE,F5 (xs:=⟨ys.map (.int .i64)⟩) (o:=i) (v:=.int .i64 ys[i]) c (by simp[Qb]),iE,P7 c,iE];rw[pz hix,pz Qb];have ih:=ih (i+1) (by omega);simp only[gJ,J9]at ih;by_cases hxy:xs[i]=ys[i]
   ·rw[eB hxy];simp only[Bool.not_true,sP,if_false];show(dR P _).bind _=_;rw[show decide (xs[i]::xs.drop (i+1)=ys[i]::ys.drop (i+1))=decide (xs.drop (i+1)=ys.drop (i+1))from mG.2 (by rw[xL];exact⟨λh=>h.2,λh=>⟨hxy,h⟩⟩)];exact ih
   ·rw[aR hxy];simp only[Bool.not_false,if_true];rw[show decide (xs[i]::xs.drop (i+1)=ys[i]::ys.drop (i+1))=false from aR (λh=>hxy (List.cons.inj h).1)];rfl
 have:=key n 0 (by omega);rw[uj,uj]at this;refine Eq.trans ?_ this;simp only[gJ];congr 1;funext s
 cases s.fst<;>rfl
theorem Zx{x y:Operand}{n:Nat}{t e:TypeId}{xs ys:List Int}(hx:ev l x=.agg ⟨xs.map (.int .i64)⟩)(hy:ev l y=.agg ⟨ys.map (.int .i64)⟩)(hu:P.underlying t=some (.array n e))(he:P.underlying e=some (.int .i64))(hs:P.info? e|>.map (·.size)|>(·=some 1))(hxl:xs.length=n)(hyl:ys.length=n)(hm:P.eqGuardType P.depth t=false):
 Pu P (ev l) (.bin .eql t x y) (.bool (decide (xs=ys))):=λh0=>by
 have hfr:∀zs:List Int,fw (zs.map (Value.int .i64))=true:=by
  intro zs;induction zs with
  |nil=>rfl
  |cons z zs ih=>rw[gY];simp[fw,bH,Ideal.cellV,ih]
 simp only[aA.run,hx,hy];rw[P8 (hfr xs) (hfr ys) hm (v:=.bool (decide (xs=ys))) (by
  show dR P (do pure (Value.bool (<- Op.equal t (.agg ⟨xs.map (.int .i64)⟩) (.agg ⟨ys.map (.int .i64)⟩))))=_;rw[gJ,show dR P (Op.equal t (.agg ⟨xs.map (.int .i64)⟩) (.agg ⟨ys.map (.int .i64)⟩))=some (decide (xs=ys))from P9 (d:=9998) hu he hs hxl hyl];rfl) rfl]
def DN(P:Program):List Field->Nat->List Bool->Bool
 |[],_,[]=>true
 |f::fs,i,k::ks=>!(f.name== "_")&&f.offset==i&&(match P.underlying f.type with
  |some (.int .i64)=>k
  |some .string=>!k
  |_=>false)&&DN P fs (i+1) ks
 |_,_,_=>false
def cellsE:List Value->List Value->Bool
 | .int .i64 a::xs,.int .i64 b::ys=>decide (a=b)&&cellsE xs ys
 | .string a::xs,.string b::ys=>decide (a=b)&&cellsE xs ys
 |_,_=>true
def F6:List Bool->List Value->Bool
 |[],[]=>true
 |true::ks,.int .i64 _::vs=>F6 ks vs
 |false::ks,.string _::vs=>F6 ks vs
 |_,_=>false
theorem row_of{xs ys:List Value}:∀{fs:List Field} {i:Nat} {ks:List Bool} {xs' ys':List Value},DN P fs i ks=true->F6 ks xs'=true->F6 ks ys'=true->(∀j,xs[i+j]? =xs'[j]?)->(∀j,ys[i+j]? =ys'[j]?)->Aw P xs ys fs (cellsE xs' ys')
 |[],i,[],[],[],_,_,_,_,_=>.nil
 |f::fs,i,k::ks,[],ys',h,hx,hy,ex,ey=>by cases k<;>cases hx
 |f::fs,i,k::ks,x::xs',[],h,hx,hy,ex,ey=>by cases k<;>cases hy
 |f::fs,i,k::ks,x::xs',y::ys',h,hx,hy,ex,ey=>by
  simp only[DN,fZ]at h;obtain⟨⟨⟨h1,h2⟩,h3⟩,h4⟩:=h;have h2:f.offset=i:=by simpa using h2
  have e1:xs[f.offset]? =some x:=by have:=ex 0;rw[xG]at this;rw[h2,this];rfl
  have e2:ys[f.offset]? =some y:=by have:=ey 0;rw[xG]at this;rw[h2,this];rfl
  have Qc:∀j,xs[i+1+j]? =xs'[j]?:=λj=>by have:=ex (j+1);rw[show i+1+j=i+(j+1)by omega,this];rfl
  have Qd:∀j,ys[i+1+j]? =ys'[j]?:=λj=>by have:=ey (j+1);rw[show i+1+j=i+(j+1)by omega,this];rfl
  cases k with
  |true=>
   match x,hx,y,hy with
   | .int .i64 a,hx,.int .i64 b,hy=>
     have hu:P.underlying f.type=some (.int .i64):=by
      cases hq:P.underlying f.type with
      |none=>rw[hq]at h3;cases h3
      |some q=>
       rw[hq]at h3;cases q with
       |int kk=>cases kk<;>first|rfl|cases h3
       |string=>cases h3
       |_=>cases h3
     exact .cons (by simpa using h1) e1 e2 (.int hu) (row_of h4 hx hy Qc Qd)
  |false=>
   match x,hx,y,hy with
   | .string a,hx,.string b,hy=>
     have hu:P.underlying f.type=some .string:=by
      cases hq:P.underlying f.type with
      |none=>rw[hq]at h3;cases h3
      |some q=>
       rw[hq]at h3;cases q with
       |int kk=>cases kk<;>cases h3
       |string=>rfl
       |_=>cases h3
     exact .cons (by simpa using h1) e1 e2 (.str hu) (row_of h4 hx hy Qc Qd)
end

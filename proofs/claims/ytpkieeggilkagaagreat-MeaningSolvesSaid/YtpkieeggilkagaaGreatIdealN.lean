/-
  The ideal machine, 66: functions that may panic; deferred functions that recover.
-/
import Derived.Test.YtpkieeggilkagaaGreatIdealM
import Derived.Sort.Row
import Derived.Sort.Grow
import Derived.Test.YtpkieeggilkagaaGreatIdealK
import Derived.Laws.StructEq
set_option linter.unusedSimpArgs false
set_option linter.unusedVariables false
set_option linter.unusedSectionVars false
namespace Go.Ideal
variable {P:Program}
def zJJ{Y:Type}(B:List Nat)(w0:Wd)(ret:Y→Ret)(kl':Y→List OA)(fs:Y→List zJ)(pr:Y→Prop):KR:=fun r pm h'=>
 pm=none∧∃(w':Wd) (y:Y),w'.h=h'∧St B w0 (kl' y) (fs y) w'∧r=ret y∧pr y
def FnR{Y:Type}(P:Program)(fn:Fn)(args cap:List Value)(kl:List OA)(F:List zJ)(ret:Y→Ret)(kl':Y→List OA)(fs:Y→List zJ)(pr:Y→Prop):Prop:=
 ∀(B:List Nat) (w:Wd),St B w kl F w→CALL P ⟨fn,args,cap,none⟩ w.h (zJJ B w ret kl' fs pr)
theorem FnR.toC{Y:Type}{fn:Fn}{args cap:List Value}{kl:List OA}{F:List zJ}{ret:Y→Ret}{kl':Y→List OA}{fs:Y→List zJ}{pr:Y→Prop}(val:Y→Value)(h:FnR P fn args cap kl F ret kl' fs pr)
 (hv:∀y,pr y→ret y=.ok (val y)):FnC P fn args cap kl F val kl' fs pr:=fun B w s=>by
 refine .conseq _ (h B w s) ?_;rintro r pm h' ⟨e,w',y,e1,st,er,hp⟩;exact⟨e,w',y,e1,st,er.trans (hv y hp),hp⟩
def zQ7{Y:Type}(B:List Nat)(w0:Wd)(ret:Y→Ret)(md:Y→FrameMode)(kl':Y→List OA)(fs:Y→List zJ)(pr:Y→Prop):KR:=fun r pm h'=>
 ∃(w':Wd) (y:Y),pm=some (md y)∧w'.h=h'∧St B w0 (kl' y) (fs y) w'∧r=ret y∧pr y
def FnD{Y:Type}(P:Program)(fn:Fn)(args cap:List Value)(m:FrameMode)(kl:List OA)(F:List zJ)(ret:Y→Ret)(md:Y→FrameMode)(kl':Y→List OA)(fs:Y→List zJ)(pr:Y→Prop):Prop:=
 ∀(B:List Nat) (w:Wd),St B w kl F w→CALL P ⟨fn,args,cap,some m⟩ w.h (zQ7 B w ret md kl' fs pr)
theorem zH7{K:KR}{f:FuncId}{args cap:List Value}{pm:Option FrameMode}{c:zS}{m:Nat}{l0:List (Nat×Value)}(cf:zt)(hF:(zC3 P zDZ zBH).F f=some cf)(h1:cf.body=c)(h2:zKa cf.ntmps (llen (args++cap))=m)(h3:zIc 0 (args++cap) []=l0){h:IH}
 (hb:EV P c (act m l0 [] pm none) h (zJb P cf K)):CALL P ⟨.func f,args,cap,pm⟩ h K:=by
 obtain⟨fn,e1,e2⟩:=(zCd P zDZ zBH (fun f q h v h' hm=>by cases hm)).fn f cf hF;refine zKJ cf fn e1 e2 ?_;rw[zDA,h1,h2,h3];exact hb
theorem zEa{Y:Type}{f:FuncId}{args cap:List Value}{kl:List OA}{F:List zJ}{ret:Y→Ret}{kl':Y→List OA}{fs:Y→List zJ}{pr:Y→Prop}{c:zS}{m:Nat}{l0:List (Nat×Value)}(cf:zt)(hF:(zC3 P zDZ zBH).F f=some cf)
 (hb:∀B w0,R (fun h=>EV P c (act m l0 [] none none) h (zJb P cf (zJJ B w0 ret kl' fs pr))) B w0 kl F)
 (h1:cf.body=c:=by conv=>lhs;(reduce;(try simp only[Int.reduceOfNat,Int.reduceNegSucc]))) (h2:zKa cf.ntmps (llen (args++cap))=m:=by conv=>lhs;whnf) (h3:zIc 0 (args++cap) []=l0:=by dsimp only[zIc,Nat.reduceAdd,List.append_nil,List.cons_append,List.nil_append]):FnR P (.func f) args cap kl F ret kl' fs pr:=
 fun B w s=>zH7 cf hF h1 h2 h3 (hb B w w s)
theorem zP3{Y:Type}{f:FuncId}{args cap:List Value}{pm:FrameMode}{kl:List OA}{F:List zJ}{ret:Y→Ret}{md:Y→FrameMode}{kl':Y→List OA}{fs:Y→List zJ}{pr:Y→Prop}{c:zS}{m:Nat}{l0:List (Nat×Value)}(cf:zt)(hF:(zC3 P zDZ zBH).F f=some cf)
 (hb:∀B w0,R (fun h=>EV P c (act m l0 [] (some pm) none) h (zJb P cf (zQ7 B w0 ret md kl' fs pr))) B w0 kl F)
 (h1:cf.body=c:=by conv=>lhs;(reduce;(try simp only[Int.reduceOfNat,Int.reduceNegSucc]))) (h2:zKa cf.ntmps (llen (args++cap))=m:=by conv=>lhs;whnf) (h3:zIc 0 (args++cap) []=l0:=by dsimp only[zIc,Nat.reduceAdd,List.append_nil,List.cons_append,List.nil_append]):FnD P (.func f) args cap pm kl F ret md kl' fs pr:=
 fun B w s=>zH7 cf hF h1 h2 h3 (hb B w w s)
section
variable {B:List Nat} {w0:Wd} {kl kl' klr:List OA} {F:List zJ} {K:KO} {ds:List Tmp} {rest:List zQ} {n:Nat} {l:List (Nat×Value)} {D:List Deferred} {pm:Option FrameMode} {ro:Option Nat} {d:Nat} {g:Option (Tmp×Bool)}
theorem St.lend{w:Wd}{k1 klr:List OA}{F1:List zJ}(s:St B w0 kl F w)(hk:SelL k1 kl klr)(hF:Sub F1 F):
 ∃S1,St S1 w k1 F1 w∧∀(w':Wd) (k1':List OA) (F':List zJ),St S1 w k1' F' w'→St B w0 (k1'++klr) (F'++F) w':=by
 obtain⟨S,h1,h2,h3⟩:=s.own;obtain⟨S1,S2,q1,q2,hp⟩:=h1.selL hk;have hsub:∀i∈S1,i∈S:=fun i hi=>hp.mem_iff.2 (List.mem_append_left _ hi);exact⟨S1,⟨⟨Nat.le_refl _,fun _ _ _=>rfl,fun _ _=>rfl⟩,Wd.Le.refl w,fun i _ hz=>.inl hz,⟨S1,q1,(List.nodup_append.1 (hp.nodup h2)).1,fun i hi=>⟨.inr hi,(h3 i (hsub i hi)).2⟩⟩,fun f hf=>s.facts f (hF.mem f hf)⟩,
  fun w' k1' F' c=>s.call (k1:=k1) (F1:=F1) ⟨S,hp,h2,h3⟩ q2 c⟩
theorem zRs{Y:Type}{f:Operand}{xs:List Operand}{re:List zx}{fn:Fn}{first captured vs as:List Value}{k1:List OA}{F1:List zJ}{ret:Y→Ret}{k1':Y→List OA}{fs:Y→List zJ}{pr:Y→Prop}
 (hc:FnR P fn as captured k1 F1 ret k1' fs pr) (hn:Nat.blt d n=true) (hg:gok l g=true) (hf:ev l f=.func fn ⟨first⟩ ⟨captured⟩) (hx:EvL (ev l) xs vs) (ha:first++vs=as)
 (hk:SelL k1 kl klr) (hF:Sub F1 F)
 (hs:∀y v,pr y→ret y=.ok v→Same P re (ev ((d,v)::l)) ((d,v)::l) B w0 (k1' y++klr) (fs y++F))
 (next:∀y v,pr y→ret y=.ok v→R (fun h=>OPS P ds rest (act n ((d,v)::l) D pm ro) h K) B w0 (k1' y++klr) (fs y++F))
 (npan:∀y ch,pr y→ret y=.pan ch→R (fun h=>K (.panic ch) (act n (fgt ds n l) D pm ro) h) B w0 (k1' y++klr) (fs y++F)):
 R (fun h=>OPS P ds (⟨⟨some d,g,.call f xs⟩,re⟩::rest) (act n l D pm ro) h K) B w0 kl F:=by
 intro w s;obtain⟨S1,s1,back⟩:=s.lend hk hF;have hcall:=hc S1 w s1;subst ha;rw[← hx.map]at hcall;refine s_call hn hg fn hf _ hcall ?_ ?_ ?_ ?_
 ·rintro v h' ⟨_,w',y,rfl,c,hv,hpr⟩;exact hs y v hpr hv.symm w' (back w' _ _ c)
 ·rintro v h' ⟨_,w',y,rfl,c,hv,hpr⟩;exact next y v hpr hv.symm w' (back w' _ _ c)
 ·rintro ch h' ⟨_,w',y,rfl,c,hv,hpr⟩;rw[zCf];exact npan y ch hpr hv.symm w' (back w' _ _ c)
 ·rintro r p h' ⟨e,_⟩;exact e
theorem zA9{Y:Type}{f:Operand}{xs:List Operand}{re:List zx}{fn:Fn}{first captured vs as:List Value}{k1:List OA}{F1:List zJ}{ret:Y→Ret}{k1':Y→List OA}{fs:Y→List zJ}{pr:Y→Prop}{kl2:Y→List OA}{F2:Y→List zJ}
 (hc:FnR P fn as captured k1 F1 ret k1' fs pr)
 (next:∀y v,pr y→ret y=.ok v→R (fun h=>OPS P ds rest (act n ((d,v)::l) D pm ro) h K) B w0 (kl2 y) (F2 y))
 (npan:∀y ch,pr y→ret y=.pan ch→R (fun h=>K (.panic ch) (act n (fgt ds n l) D pm ro) h) B w0 (kl2 y) (F2 y))
 (hn:Nat.blt d n=true:=by rfl) (hg:gok l g=true:=by rfl) (hf:ev l f=.func fn ⟨first⟩ ⟨captured⟩:=by rfl) (hx:EvL (ev l) xs vs:=by repeat (first|with_reducible exact EvL.nil|((with_reducible apply EvL.cons);(conv=>lhs;whnf)))) (ha:first++vs=as:=by rfl)
 (hk:autoParam (SelL k1 kl klr) zBX._auto_1) (hF:autoParam (Sub F1 F) zFn._auto_1) (hk2:∀y,AppR (k1' y) klr (kl2 y):=by intro y;repeat (first|exact AppR.nil|apply AppR.cons|exact AppR.self|exact AppR.app)) (hF2:∀y,AppR (fs y) F (F2 y):=by intro y;repeat (first|exact AppR.nil|apply AppR.cons|exact AppR.self|exact AppR.app))
 (hs:∀y v,pr y→ret y=.ok v→Same P re (ev ((d,v)::l)) ((d,v)::l) B w0 (kl2 y) (F2 y):=by intro _ _ _ _;repeat (first|exact same_nil|refine same_load rfl (by repeat (first|with_reducible exact Sel.here|with_reducible apply Sel.there|with_reducible apply Sel.app)) (by first|exact rfl|(conv=>lhs;whnf)) rfl ?_|refine same_loadF rfl (by(repeat (first|with_reducible exact List.mem_cons_self .. |with_reducible apply List.mem_cons_of_mem));first|done|fail) (by first|exact rfl|(conv=>lhs;whnf)) rfl ?_|refine same_loadFj rfl (by(repeat (first|with_reducible exact List.mem_cons_self .. |with_reducible apply List.mem_cons_of_mem));first|done|fail) (by first|exact rfl|(conv=>lhs;whnf)) rfl ?_|refine same_loadN rfl (by repeat (first|with_reducible exact Sel.here|with_reducible apply Sel.there|with_reducible apply Sel.app)) (by first|exact rfl|(conv=>lhs;whnf)) rfl ?_|refine same_loadNF rfl (by(repeat (first|with_reducible exact List.mem_cons_self .. |with_reducible apply List.mem_cons_of_mem));first|done|fail) (by first|exact rfl|(conv=>lhs;whnf)) rfl ?_|refine same_loadNFj rfl (by(repeat (first|with_reducible exact List.mem_cons_self .. |with_reducible apply List.mem_cons_of_mem));first|done|fail) (by first|exact rfl|(conv=>lhs;whnf)) rfl ?_)):
 R (fun h=>OPS P ds (⟨⟨some d,g,.call f xs⟩,re⟩::rest) (act n l D pm ro) h K) B w0 kl F:=
 zRs hc hn hg hf hx ha hk hF (fun y v a b=>by rw[(hk2 y).eq,(hF2 y).eq];exact hs y v a b) (fun y v a b=>by rw[(hk2 y).eq,(hF2 y).eq];exact next y v a b) (fun y v a b=>by rw[(hk2 y).eq,(hF2 y).eq];exact npan y v a b)
theorem zED{x:Operand}{t:TypeId}{v:Value}{dst:Option Tmp}{re:List zx}
 (next:R (fun h=>K (.panic [{v:=.iface t v,recovered:=false}]) (act n (fgt ds n l) D pm ro) h) B w0 kl F)
 (hx:ev l x=.iface t v:=by rfl) (hg:gok l g=true:=by rfl):R (fun h=>OPS P ds (⟨⟨dst,g,.panic x⟩,re⟩::rest) (act n l D pm ro) h K) B w0 kl F:=fun w s=>zRi hg hx (next w s)
theorem zQr{f:Operand}{args:List Operand}{fn:Fn}{first captured vs:List Value}
 (next:R (fun h=>OPS P ds rest (act n l ({target:=.fn fn ⟨captured⟩,args:=⟨first++vs⟩}::D) pm none) h K) B w0 kl F)
 (hf:ev l f=.func fn ⟨first⟩ ⟨captured⟩:=by rfl) (hx:EvL (ev l) args vs:=by repeat (first|with_reducible exact EvL.nil|((with_reducible apply EvL.cons);(conv=>lhs;whnf)))) (hg:gok l g=true:=by rfl):
 R (fun h=>OPS P ds (⟨⟨none,g,.dcall f args⟩,[]⟩::rest) (act n l D pm none) h K) B w0 kl F:=fun w s=>by
 refine zRy hg rfl hf ?_;rw[hx.map];exact next w s
theorem zHk{m:FrameMode}{v:Value}{m':FrameMode}(he:zT m=(v,m'))
 (next:R (fun h=>OPS P ds rest (act n ((d,v)::l) D (some m') none) h K) B w0 kl F) (hn:Nat.blt d n=true:=by rfl) (hg:gok l g=true:=by rfl):
 R (fun h=>OPS P ds (⟨⟨some d,g,.recover⟩,[]⟩::rest) (act n l D (some m) none) h K) B w0 kl F:=fun w s=>by
 refine zNn hn hg rfl ?_;rw[he];exact next w s
def RL(P:Program)(cf:zt)(l:List (Nat×Value))(D:List Deferred)(m:FrameMode)(Kr:Ret→IH→Prop)(B:List Nat)(w0:Wd)(kl:List OA)(F:List zJ):Prop:=∀w,St B w0 kl F w→LEAVE P cf (zBV l) D m w.h Kr
theorem zE3{cf:zt}{Kr:KR}{o:Out}{m:FrameMode}(h:RL P cf l D m (fun r h=>Kr r pm h) B w0 kl F)(hm:zCP o=some m:=by rfl):R (fun h=>zJb P cf Kr o (act n l D pm ro) h) B w0 kl F:=fun w s=>by
 show(match zCP o with
  |none=>False
  |some m=>LEAVE P cf (zBV l) D m w.h fun r h''=>Kr r pm h'')
 rw[hm];exact h w s
variable {cf:zt} {Kr:Ret→IH→Prop}
theorem zSi{vs:List Value}(hk:∀w,St B w0 kl F w→Kr (.ok (zK8 vs)) w.h)(hr:autoParam (RS l kl cf.results vs) aRS._auto_1):RL P cf l [] .returning Kr B w0 kl F:=fun w s=>by
 refine .ret (zK8 vs) ?_ (hk w s);unfold z6;rw[hr.all s];match vs with
 |[]=>rfl
 |[v]=>rfl
 |_::_::_=>rfl
theorem zMC{Y:Type}{fn:Fn}{captured args:List Value}{m:FrameMode}{k1:List OA}{F1:List zJ}{ret:Y→Ret}{md:Y→FrameMode}{k1':Y→List OA}{fs:Y→List zJ}{pr:Y→Prop}{kl2:Y→List OA}{F2:Y→List zJ}
 (hc:FnD P fn args captured m k1 F1 ret md k1' fs pr)
 (next:∀y v,pr y→ret y=.ok v→RL P cf l D (zCM (md y)) Kr B w0 (kl2 y) (F2 y))
 (npan:∀y ch,pr y→ret y=.pan ch→RL P cf l D (zD7 (md y) ch) Kr B w0 (kl2 y) (F2 y))
 (hk:autoParam (SelL k1 kl klr) zBX._auto_1) (hF:autoParam (Sub F1 F) zFn._auto_1) (hk2:∀y,AppR (k1' y) klr (kl2 y):=by intro y;repeat (first|exact AppR.nil|apply AppR.cons|exact AppR.self|exact AppR.app)) (hF2:∀y,AppR (fs y) F (F2 y):=by intro y;repeat (first|exact AppR.nil|apply AppR.cons|exact AppR.self|exact AppR.app)) (hm:m≠.run:=by intro e;cases e):
 RL P cf l ({target:=.fn fn ⟨captured⟩,args:=⟨args⟩}::D) m Kr B w0 kl F:=fun w s=>by
 obtain⟨S1,s1,back⟩:=s.lend hk hF;refine .call hm _ (hc S1 w s1) ?_ ?_ ?_
 ·rintro r p h' ⟨w',y,e,_⟩ hp;rw[e]at hp;cases hp
 ·rintro v m' h' ⟨w',y,e,rfl,c,hv,hpr⟩;injection e with e;subst e;have:=next y v hpr hv.symm w' (by rw[← (hk2 y).eq,← (hF2 y).eq];exact back w' _ _ c)
  exact this
 ·rintro ch m' h' ⟨w',y,e,rfl,c,hv,hpr⟩;injection e with e;subst e;exact npan y ch hpr hv.symm w' (by rw[← (hk2 y).eq,← (hF2 y).eq];exact back w' _ _ c)
theorem zFk{Y:Type}{o:Out}{vs:List Value}{ret:Y→Ret}{k1:Y→List OA}{fs:Y→List zJ}{pr:Y→Prop}{kl2:List OA}(y:Y)(hv:ret y=.ok (zK8 vs))(hp:pr y)(hD:Coll kl D kl2:=by repeat (first|exact Coll.nil|(apply Coll.cons;(focus (repeat (first|with_reducible exact Sel.here|with_reducible apply Sel.there|with_reducible apply Sel.app))))))
 (hr:autoParam (RS l kl2 cf.results vs) aRS._auto_1) (hk:autoParam (SelL (k1 y) kl2 klr) zBX._auto_1) (hF:autoParam (Sub (fs y) F) zFn._auto_1) (ho:o=.normal∨o=.ret:=by first|exact .inl rfl|exact .inr rfl):
 R (fun h=>zJb P cf (zJJ B w0 ret k1 fs pr) o (act n l D none ro) h) B w0 kl F:=by
 refine zE3 (m:=.returning) ?_ (by rcases ho with rfl|rfl<;>rfl);intro w s;refine Coll.leave hD (fun w' s'=>⟨zK8 vs,?_,rfl,w',y,rfl,((s'.selL hk).drop).sub hF,hv.symm,hp⟩) w s;unfold z6;rw[hr.all s'];match vs with
 |[]=>rfl
 |[v]=>rfl
 |_::_::_=>rfl
theorem Coll.leaveP{ts:T Value}{ch:List PanicEntry}:∀{D:List Deferred} {kl kl2:List OA},Coll kl D kl2→(∀w',St B w0 kl2 F w'→Kr (.pan ch) w'.h)→∀w,St B w0 kl F w→LEAVE P cf ts D (.panicking ch) w.h Kr
 |_,_,_,.nil,hk,w,s=>.pan ch (hk w s)
 |_,_,_,.cons (r:=r) h t,hk,w,s=>by
  have s1:=s.sel h;refine .coll (by intro e;cases e) r s1.get.1 ?_;exact Coll.leaveP t hk _ (s1.write (o':=.defs false)).tail
theorem zFL{Y:Type}{ch:List PanicEntry}{ret:Y→Ret}{k1:Y→List OA}{fs:Y→List zJ}{pr:Y→Prop}{kl2:List OA}(y:Y)(hv:ret y=.pan ch)(hp:pr y)(hD:Coll kl D kl2:=by repeat (first|exact Coll.nil|(apply Coll.cons;(focus (repeat (first|with_reducible exact Sel.here|with_reducible apply Sel.there|with_reducible apply Sel.app))))))
 (hk:autoParam (SelL (k1 y) kl2 klr) zBX._auto_1) (hF:autoParam (Sub (fs y) F) zFn._auto_1):
 R (fun h=>zJb P cf (zJJ B w0 ret k1 fs pr) (.panic ch) (act n l D none ro) h) B w0 kl F:=by
 refine zE3 (m:=.panicking ch) ?_;intro w s;exact Coll.leaveP hD (fun w' s'=>⟨rfl,w',y,rfl,((s'.selL hk).drop).sub hF,hv.symm,hp⟩) w s
theorem zQK{Y:Type}{o:Out}{vs:List Value}{ret:Y→Ret}{m:FrameMode}{md:Y→FrameMode}{k1:Y→List OA}{fs:Y→List zJ}{pr:Y→Prop}{kl2:List OA}(y:Y)(hv:ret y=.ok (zK8 vs))(hm:md y=m)(hp:pr y)(hD:Coll kl D kl2:=by repeat (first|exact Coll.nil|(apply Coll.cons;(focus (repeat (first|with_reducible exact Sel.here|with_reducible apply Sel.there|with_reducible apply Sel.app))))))
 (hr:autoParam (RS l kl2 cf.results vs) aRS._auto_1) (hk:autoParam (SelL (k1 y) kl2 klr) zBX._auto_1) (hF:autoParam (Sub (fs y) F) zFn._auto_1) (ho:o=.normal∨o=.ret:=by first|exact .inl rfl|exact .inr rfl):
 R (fun h=>zJb P cf (zQ7 B w0 ret md k1 fs pr) o (act n l D (some m) ro) h) B w0 kl F:=by
 refine zE3 (m:=.returning) ?_ (by rcases ho with rfl|rfl<;>rfl);intro w s;refine Coll.leave hD (fun w' s'=>⟨zK8 vs,?_,w',y,by rw[hm],rfl,((s'.selL hk).drop).sub hF,hv.symm,hp⟩) w s;unfold z6;rw[hr.all s'];match vs with
 |[]=>rfl
 |[v]=>rfl
 |_::_::_=>rfl
theorem zQI{Y:Type}{ret:Y→Ret}{k1:Y→List OA}{fs:Y→List zJ}{pr:Y→Prop}{vs:List Value}(y:Y)(hv:ret y=.ok (zK8 vs))(hp:pr y)(hr:autoParam (RS l kl cf.results vs) aRS._auto_1)(hk:autoParam (SelL (k1 y) kl klr) zBX._auto_1)(hF:autoParam (Sub (fs y) F) zFn._auto_1):
 RL P cf l [] .returning (fun r h=>zJJ B w0 ret k1 fs pr r none h) B w0 kl F:=
 zSi (fun w s=>⟨rfl,w,y,rfl,((s.selL hk).drop).sub hF,hv.symm,hp⟩) hr
end
end Go.Ideal
namespace Go.Ideal
variable {P:Program}
theorem zJ1{α β:Type}(f:α→β)(hf:∀a b,f a=f b→a=b){l1 l2:List α}(h:(l1.map f).Perm (l2.map f)):l1.Perm l2:=by
 classical
 rw[List.perm_iff_count];intro a;have:=h.count_eq (f a);have key:∀l:List α,(l.map f).count (f a)=l.count a:=by
  intro l;induction l with
  |nil=>rfl
  |cons x l ih=>
   rw[List.map_cons,List.count_cons,List.count_cons,ih];by_cases e:x=a
   ·subst e;simp
   ·have:¬f x=f a:=fun h=>e (hf _ _ h);simp[e,this]
 rw[key,key]at this;exact this
theorem zDW{α β:Type}{f:α→β}:∀{l:List α},(l.map f).Nodup→∀{a b:α},a∈l→b∈l→f a=f b→a=b
 |[],_,a,b,ha,_,_=>by cases ha
 |x::l,h,a,b,ha,hb,e=>by
  rw[List.map_cons,List.nodup_cons]at h;obtain⟨hx,hl⟩:=h;rcases List.mem_cons.1 ha with h1|ha<;>rcases List.mem_cons.1 hb with h2|hb
  ·rw[h1,h2]
  ·rw[← h1,e]at hx;exact absurd (List.mem_map_of_mem hb) hx
  ·rw[← h2,← e]at hx;exact absurd (List.mem_map_of_mem ha) hx
  ·exact zDW hl ha hb e
def fnd{α:Type}[DecidableEq α](a:α):List (α×Value)→Nat→Option (Nat×Value)
 |[],_=>none
 |(b,v)::l,i=>if a=b then some (i,v)else fnd a l (i+1)
def lkp{α β:Type}[DecidableEq α](a:α):List (α×β)→Option β
 |[]=>none
 |(b,v)::l=>if a=b then some v else lkp a l
def upd{α β:Type}[DecidableEq α](a:α)(v:β):List (α×β)→List (α×β)
 |[]=>[(a,v)]
 |(b,u)::l=>if a=b then(a,v)::l else(b,u)::upd a v l
def zCr{α:Type}(toV:α→Value)(kvs:List (α×Value))(es:List MapEntry):Prop:=es.map (fun e=>(e.key,e.val))=kvs.map fun p=>(toV p.1,p.2)
structure zKl(P:Program)(kt:TypeId){α:Type}[DecidableEq α](toV:α→Value):Prop where
 chk:∀a,zBi P kt (toV a)=true
 find:∀a kvs es,zCr toV kvs es→zEe P kt (toV a) es=some (fnd a kvs 0)
 same:∀a,Instr.sameBits 10000 (toV a) (toV a)=true
theorem zP5{kt:TypeId}{v:Value}(ha:zC v=true)(h:∀b,zF P (Instr.checkKey b 10000 kt v)=some ()):zBi P kt v=true:=by
 unfold zBi;rw[ha,h true,h false];rfl
theorem zD0{α:Type}{toV:α→Value}{p:α×Value}{kvs:List (α×Value)}{es:List MapEntry}(h:zCr toV (p::kvs) es):∃e es',es=e::es'∧e.key=toV p.1∧e.val=p.2∧zCr toV kvs es':=by
 cases es with
 |nil=>cases h
 |cons e es=>
  unfold zCr at h;rw[List.map_cons,List.map_cons]at h;injection h with h1 h2;injection h1 with h1 h3;exact⟨e,es,rfl,h1,h3,h2⟩
theorem zGO{α:Type}[DecidableEq α]{toV:α→Value}{d:TypeDesc}(hs:∀a b,Instr.sameNow d (toV a) (toV b)=some (decide (a=b)))(a:α):∀(kvs:List (α×Value)) (es:List MapEntry) (i:Nat),zCr toV kvs es→Instr.findNow d (toV a) es i=some (fnd a kvs i)
 |[],es,i,h=>by
  cases es with
  |nil=>rfl
  |cons e es=>cases h
 |p::kvs,es,i,h=>by
  obtain⟨e,es',rfl,h1,h2,h3⟩:=zD0 h;have ih:=zGO hs a kvs es' (i+1) h3;show(match Instr.sameNow d (toV a) e.key with
   |some true=>some (some (i,e.val))
   |some false=>Instr.findNow d (toV a) es' (i+1)
   |none=>none)=_
  rw[h1,hs a p.1];unfold fnd;by_cases hab:a=p.1
  ·rw[decide_eq_true hab,if_pos hab,h2]
  ·rw[decide_eq_false hab,if_neg hab];exact ih
theorem zH3{α:Type}[DecidableEq α]{toV:α→Value}{kt:TypeId}{d:TypeDesc}(hu:P.underlying kt=some d)(hs:∀a b,Instr.sameNow d (toV a) (toV b)=some (decide (a=b)))(a:α)(kvs:List (α×Value))(es:List MapEntry)(h:zCr toV kvs es):zEe P kt (toV a) es=some (fnd a kvs 0):=by
 unfold zEe Instr.findKey;rw[zD,zAE hu];simp only[Option.bind_some,zGO hs a kvs es 0 h];rfl
theorem zPm{kt:TypeId}(hu:P.underlying kt=some (.int .i64)):zKl P kt (fun n:Int=>.int .i64 n) where
 chk a:=zP5 rfl fun b=>by
  show zF P (Instr.checkKey b (9999+1) kt _)=_;unfold Instr.checkKey;rw[zD,zAE hu];rfl
 find a kvs es h:=zH3 hu (fun a b=>by
  show(if IntKind.i64=IntKind.i64 then some (a==b)else none)=_;rw[if_pos rfl];congr 1) a kvs es h
 same a:=by
  show(IntKind.i64==IntKind.i64&&a==a)=true;simp
theorem bytes_beq(a b:ByteArray):(a==b)=decide (a=b):=by
 have:(a==b)=(a.data==b.data):=rfl;rw[this];by_cases h:a=b
 ·subst h;simp
 ·rw[decide_eq_false h];cases hb:a.data==b.data with
  |false=>rfl
  |true=>exact absurd (ByteArray.ext (eq_of_beq hb)) h
theorem zN8{kt:TypeId}(hu:P.underlying kt=some .string):zKl P kt (fun s:ByteArray=>.string s) where
 chk a:=zP5 rfl fun b=>by
  show zF P (Instr.checkKey b (9999+1) kt _)=_;unfold Instr.checkKey;rw[zD,zAE hu];rfl
 find a kvs es h:=zH3 hu (fun a b=>by
  show some (a==b)=_;rw[bytes_beq]) a kvs es h
 same a:=by
  show(a==a)=true;rw[bytes_beq];simp
theorem zMh{α:Type}[DecidableEq α](a:α):∀(kvs:List (α×Value)) (i:Nat),(fnd a kvs i).map (·.2)=lkp a kvs
 |[],_=>rfl
 |(b,v)::l,i=>by
  unfold fnd lkp;by_cases h:a=b
  ·rw[if_pos h,if_pos h];rfl
  ·rw[if_neg h,if_neg h];exact zMh a l (i+1)
theorem zFx{α:Type}[DecidableEq α]{toV:α→Value}{kt:TypeId}(hk:zKl P kt toV){h:IH}{m zero:Value}{ok:Bool}{a:α}{kvs:List (α×Value)}{es:List MapEntry}(he:entriesOf m h=some es)(ho:zCr toV kvs es):
 zCy P kt zero m (toV a) ok h=some (match lkp a kvs with
  |some v=>cond ok (.tuple #[v,.bool true]) v
  |none=>cond ok (.tuple #[zero,.bool false]) zero):=by
 unfold zCy;simp only[he,hk.chk,cond_true,hk.find a kvs es ho];have:=zMh a kvs 0;cases hf:fnd a kvs 0 with
 |none=>rw[hf]at this;rw[← this];rfl
 |some p=>rw[hf]at this;rw[← this];rfl
theorem zKM{α:Type}[DecidableEq α](a:α):∀(kvs:List (α×Value)) (i j:Nat) (v:Value),fnd a kvs i=some (j,v)→∃k,j=i+k∧kvs[k]? =some (a,v)∧∀u,upd a u kvs=kvs.set k (a,u)
 |[],i,j,v,h=>by cases h
 |(b,w)::l,i,j,v,h=>by
  unfold fnd at h;split at h
  ·rename_i hab;subst hab;cases h;exact⟨0,rfl,rfl,fun u=>by simp[upd]⟩
  ·rename_i hab;obtain⟨k,h1,h2,h3⟩:=zKM a l (i+1) j v h;exact⟨k+1,by omega,by simpa using h2,fun u=>by simp[upd,if_neg hab,h3]⟩
theorem zJf{α:Type}[DecidableEq α](a:α):∀(kvs:List (α×Value)) (i:Nat),fnd a kvs i=none→(∀p∈kvs,a≠p.1)∧∀u,upd a u kvs=kvs++[(a,u)]
 |[],i,h=>⟨fun p hp=>(by cases hp),fun u=>rfl⟩
 |(b,w)::l,i,h=>by
  unfold fnd at h;split at h
  ·cases h
  ·rename_i hab;obtain⟨h1,h2⟩:=zJf a l (i+1) h;refine⟨fun p hp=>?_,fun u=>by simp[upd,if_neg hab,h2]⟩;rcases List.mem_cons.1 hp with rfl|hp
   ·exact hab
   ·exact h1 p hp
structure zI4{α:Type}(toV:α→Value)(kvs:List (α×Value))(es:List MapEntry)(clock:Nat):Prop where
 ent:zCr toV kvs es
 lt:∀e∈es,e.born<clock
 nd:(es.map (·.born)).Nodup
 keys:(kvs.map (·.1)).Nodup
theorem zKU{α:Type}[DecidableEq α]{toV:α→Value}{kt:TypeId}(hk:zKl P kt toV){h:IH}{b:Nat}{a:α}{v:Value}{kvs:List (α×Value)}{es:List MapEntry}{clock:Nat}(hg:h.get b=some (.map es clock))(ho:zI4 toV kvs es clock):
 ∃es' clock',zFM P kt (.map (some b)) (toV a) v h=some (h.set b (.map es' clock'))∧zI4 toV (upd a v kvs) es' clock':=by
 unfold zFM;simp only[hg,hk.chk,cond_true,hk.find a kvs es ho.ent];cases hf:fnd a kvs 0 with
 |none=>
  obtain⟨h1,h2⟩:=zJf a kvs 0 hf;refine⟨_,_,rfl,?_⟩;rw[h2,zb];refine⟨?_,fun e he=>?_,?_,?_⟩
  ·unfold zCr;rw[List.map_append,List.map_append,ho.ent];rfl
  ·rcases List.mem_append.1 he with he|he
   ·exact Nat.lt_succ_of_lt (ho.lt e he)
   ·rw[List.mem_singleton.1 he];exact Nat.lt_succ_self _
  ·rw[List.map_append,List.nodup_append];refine⟨ho.nd,by simp,fun x hx y hy e=>?_⟩;obtain⟨e0,he0,rfl⟩:=List.mem_map.1 hx;have:y=clock:=by simpa using hy
   have:=ho.lt e0 he0;omega
  ·rw[List.map_append,List.nodup_append];refine⟨ho.keys,by simp,fun x hx y hy e=>?_⟩;obtain⟨p,hp,rfl⟩:=List.mem_map.1 hx;have:y=a:=by simpa using hy
   exact h1 p hp (by rw[e,this])
 |some p=>
  obtain⟨j,u⟩:=p;obtain⟨k,rfl,h2,h3⟩:=zKM a kvs 0 j u hf;rw[Nat.zero_add];have hlen:es.length=kvs.length:=by
   have:=congrArg List.length ho.ent;simpa using this
  have hk':=(List.getElem?_eq_some_iff.1 h2).1;have hek:es[k]? =some es[k]:=List.getElem?_eq_getElem (by omega);have hkey:es[k].key=toV a:=by
   have:=congrArg (fun l=>l[k]?) ho.ent;simp only[List.getElem?_map,hek,h2,Option.map_some]at this;injection this with this;injection this
  simp only[lget_eq,hek,hkey,hk.same,cond_true];refine⟨_,_,rfl,?_⟩;rw[h3,zKE];refine⟨?_,fun e he=>?_,?_,?_⟩
  ·unfold zCr;apply List.ext_getElem?;intro i;have:=congrArg (fun l=>l[i]?) ho.ent;simp only[List.getElem?_map]at this;simp only[List.getElem?_map,List.getElem?_modify,List.getElem?_set];by_cases hi:k=i
   ·subst hi;simp[hek,hk']
   ·rw[if_neg hi];cases he:es[i]? with
    |none=>rw[he]at this;simp only[Option.map_none]at this⊢;simp[hi,← this]
    |some e=>rw[he]at this;simp only[Option.map_some]at this⊢;simp[hi,← this]
  ·obtain⟨i,he⟩:=List.mem_iff_getElem?.1 he;rw[List.getElem?_modify]at he;cases hei:es[i]? with
   |none=>rw[hei]at he;simp at he
   |some e0=>
    rw[hei]at he;have hlt:=ho.lt e0 (List.mem_of_getElem? hei);injection he with he;rw[← he];split<;>exact hlt
  ·have:(es.modify k fun e=>{e with key:=toV a,val:=v}).map (·.born)=es.map (·.born):=by
    apply List.ext_getElem?;intro i;simp only[List.getElem?_map,List.getElem?_modify];cases es[i]? with
    |none=>rfl
    |some e=>simp only[Option.map_some];split<;>rfl
   rw[this];exact ho.nd
  ·have:(kvs.set k (a,v)).map (·.1)=kvs.map (·.1):=by
    apply List.ext_getElem?;intro i;simp only[List.getElem?_map,List.getElem?_set];by_cases hi:k=i
    ·subst hi;rw[if_pos rfl,if_pos hk',h2];rfl
    ·rw[if_neg hi]
   rw[this];exact ho.keys
def mpA{α:Type}(toV:α→Value)(b:Nat)(kvs:List (α×Value)):OA:=⟨fun w S=>S=[b]∧∃es clock,w.h.get b=some (.map es clock)∧zI4 toV kvs es clock,fun a h ⟨h1,es,clock,h2,h3⟩=>⟨h1,es,clock,by rw[h b (by rw[h1];exact List.mem_singleton.2 rfl)];exact h2,h3⟩⟩
def zOF{α:Type}(toV:α→Value)(b:Nat)(kvs:List (α×Value)):zJ:=⟨fun w=>w.z b∧∃es clock,w.h.get b=some (.map es clock)∧zI4 toV kvs es clock,fun a ⟨h1,es,clock,h2,h3⟩=>⟨a.z b h1,es,clock,by rw[a.get b h1];exact h2,h3⟩⟩
theorem zD8{α:Type}{toV:α→Value}{b:Nat}{kvs:List (α×Value)}:Frz (mpA toV b kvs) [zOF toV b kvs]:=by
 intro w w' S ⟨h1,es,clock,h2,h3⟩ hle hh hz f hf;rw[List.mem_singleton.1 hf];exact⟨hz b (by rw[h1];exact List.mem_singleton.2 rfl),es,clock,by rw[hh];exact h2,h3⟩
section
variable {B:List Nat} {w0:Wd} {kl kl' klr:List OA} {F:List zJ} {K:KO} {ds:List Tmp} {rest:List zQ} {n:Nat} {l:List (Nat×Value)} {D:List Deferred} {pm:Option FrameMode} {ro:Option Nat} {d:Nat} {g:Option (Tmp×Bool)}
variable {α:Type} [DecidableEq α] {toV:α→Value}
theorem St.openMap{b:Nat}{kvs:List (α×Value)}{w:Wd}(h:St B w0 (mpA toV b kvs::kl) F w):∃es clock,zI4 toV kvs es clock∧St B w0 (pt b (.map es clock)::kl) F w:=by
 obtain⟨S,⟨S1,S2,⟨q1,es,clock,q3,q4⟩,q2,e⟩,h2,h3⟩:=h.own;exact⟨es,clock,q4,h.agree,h.le,h.zold,⟨S,⟨S1,S2,⟨q1,q3⟩,q2,e⟩,h2,h3⟩,h.facts⟩
theorem zCU(toV:α→Value)
 (next:∀b,R (fun h=>OPS P ds rest (act n ((d,.map (some b))::l) D pm ro) h K) B w0 (mpA toV b []::kl) F) (hn:Nat.blt d n=true:=by rfl) (hg:gok l g=true:=by rfl):
 R (fun h=>OPS P ds (⟨⟨some d,g,.mkmap⟩,[]⟩::rest) (act n l D pm ro) h K) B w0 kl F:=fun w s=>
 zBO hn hg (h':=w.h.new (.map [] 0)) (by simp only[COp.run,COp.alloc,zBq]) (next w.h.next (w.new _) ((s.new _).turnA (A:=pt w.h.next (.map [] 0)) (A':=mpA toV w.h.next []) fun w S hp=>⟨hp.1,[],0,hp.2,⟨rfl,fun e he=>(by cases he),List.nodup_nil,List.nodup_nil⟩⟩))
def lkV{α:Type}[DecidableEq α](ok:Bool)(zero:Value)(a:α)(kvs:List (α×Value)):Value:=match lkp a kvs with
 |some v=>cond ok (.tuple #[v,.bool true]) v
 |none=>cond ok (.tuple #[zero,.bool false]) zero
theorem zMg{kt:TypeId}{zero:Value}{m k:Operand}{ok:Bool}{b:Nat}{kvs:List (α×Value)}(hk:zKl P kt toV)(a:α)
 (next:R (fun h=>OPS P ds rest (act n ((d,lkV ok zero a kvs)::l) D pm ro) h K) B w0 kl F)
 (hm:ev l m=.map (some b):=by rfl) (ha:ev l k=toV a:=by conv=>lhs;whnf) (hf:autoParam (zOF toV b kvs∈F) zN1._auto_1) (hn:Nat.blt d n=true:=by rfl) (hg:gok l g=true:=by rfl):
 R (fun h=>OPS P ds (⟨⟨some d,g,.lookup kt zero m k ok⟩,[]⟩::rest) (act n l D pm ro) h K) B w0 kl F:=fun w s=>by
 obtain⟨_,es,clock,h1,h2⟩:=s.facts _ hf;refine zBO hn hg (v:=lkV ok zero a kvs) ?_ (next w s);have:zCy P kt zero (.map (some b)) (toV a) ok w.h=_:=zFx hk (by simp only[entriesOf,h1]) h2.ent;simp only[COp.run,hm,ha,this];rfl
theorem zH0{kt:TypeId}{zero:Value}{m k:Operand}{ok:Bool}{b:Nat}{kvs:List (α×Value)}(hk:zKl P kt toV)(a:α)
 (next:R (fun h=>OPS P ds rest (act n ((d,lkV ok zero a kvs)::l) D pm ro) h K) B w0 kl F)
 (hm:ev l m=.map (some b):=by rfl) (ha:ev l k=toV a:=by conv=>lhs;whnf) (hs:autoParam (Sel (mpA toV b kvs) kl kl') zBN._auto_1) (hn:Nat.blt d n=true:=by rfl) (hg:gok l g=true:=by rfl):
 R (fun h=>OPS P ds (⟨⟨some d,g,.lookup kt zero m k ok⟩,[]⟩::rest) (act n l D pm ro) h K) B w0 kl F:=fun w s=>by
 obtain⟨es,clock,h2,s1⟩:=(s.sel hs).openMap;refine zBO hn hg (v:=lkV ok zero a kvs) ?_ (next w s);have:zCy P kt zero (.map (some b)) (toV a) ok w.h=_:=zFx hk (by simp only[entriesOf,s1.get.1]) h2.ent;simp only[COp.run,hm,ha,this];rfl
theorem zGu{kt:TypeId}{m k x:Operand}{b:Nat}{v:Value}{kvs:List (α×Value)}(hk:zKl P kt toV)(a:α)
 (next:R (fun h=>OPS P ds rest (act n l D pm ro) h K) B w0 (mpA toV b (upd a v kvs)::kl') F)
 (hm:ev l m=.map (some b):=by rfl) (ha:ev l k=toV a:=by conv=>lhs;whnf) (hv:ev l x=v:=by conv=>lhs;whnf) (hs:autoParam (Sel (mpA toV b kvs) kl kl') zBN._auto_1) (hg:gok l g=true:=by rfl):
 R (fun h=>OPS P ds (⟨⟨none,g,.mapup kt m k x⟩,[]⟩::rest) (act n l D pm ro) h K) B w0 kl F:=fun w s=>by
 obtain⟨es,clock,h2,s1⟩:=(s.sel hs).openMap;obtain⟨es',clock',e1,e2⟩:=zKU (v:=v) hk (a:=a) s1.get.1 h2;refine zNI hg (v:=unk) (h':=w.h.set b (.map es' clock')) ?_ (next _ ((s1.write (o':=.map es' clock')).turnA (A:=pt b (.map es' clock')) (A':=mpA toV b (upd a v kvs)) fun w S hp=>⟨hp.1,es',clock',hp.2,e2⟩));simp only[COp.run,hm,ha,hv,e1]
theorem zHe{kvs:List (α×Value)}{es:List MapEntry}{clock:Nat}(h:zI4 toV kvs es clock):es.length=kvs.length:=by
 have:=congrArg List.length h.ent;simpa using this
def itA{α:Type}(toV:α→Value)(r b:Nat)(kvs vis:List (α×Value)):OA:=⟨fun w S=>S=[r]∧∃es clock seen last,w.h.get b=some (.map es clock)∧w.z b∧zI4 toV kvs es clock∧w.h.get r=some (.mapIter (some b) clock seen last)∧last=clock∧
 (∃ve rem:List MapEntry,zCr toV vis ve∧ve.map (·.born)=seen∧(ve++rem).Perm es),
 fun a h ⟨h1,es,clock,seen,last,h2,h3,h4,h5,h6,h7⟩=>⟨h1,es,clock,seen,last,by rw[a.get b h3];exact h2,a.z b h3,h4,by rw[h r (by rw[h1];exact List.mem_singleton.2 rfl)];exact h5,h6,h7⟩⟩
theorem zKV{m:Operand}{b:Nat}{kvs:List (α×Value)}
 (next:∀r,R (fun h=>OPS P ds rest (act n ((d,.pointer (some ⟨r,0,none⟩))::l) D pm ro) h K) B w0 (itA toV r b kvs []::kl) F)
 (hm:ev l m=.map (some b):=by rfl) (hf:autoParam (zOF toV b kvs∈F) zN1._auto_1) (hn:Nat.blt d n=true:=by rfl) (hg:gok l g=true:=by rfl):
 R (fun h=>OPS P ds (⟨⟨some d,g,.rangeMap m⟩,[]⟩::rest) (act n l D pm ro) h K) B w0 kl F:=fun w s=>by
 obtain⟨hz,es,clock,h1,h2⟩:=s.facts _ hf;refine zBO hn hg (h':=w.h.new (.mapIter (some b) clock [] clock)) (by simp only[COp.run,hm,h1]) (next w.h.next (w.new _) ?_);have s1:=s.new (.mapIter (some b) clock [] clock);obtain⟨hz',es',clock',h1',h2'⟩:=s1.facts _ hf;refine s1.turnA' fun S hp=>⟨hp.1,es',clock',[],clock,h1',hz',h2',?_,?_,[],es',rfl,rfl,.refl _⟩
 ·have:clock'=clock:=by
   have e:(w.new (.mapIter (some b) clock [] clock)).h.get b=w.h.get b:=by
    show(w.h.new _).get b=_;rw[IH.get_new,if_neg (by have:=w.zlt b hz;omega)]
   rw[e,h1]at h1';injection h1' with h1';injection h1' with _ h1';exact h1'.symm
  rw[this];exact hp.2
 ·have e:(w.new (.mapIter (some b) clock [] clock)).h.get b=w.h.get b:=by
   show(w.h.new _).get b=_;rw[IH.get_new,if_neg (by have:=w.zlt b hz;omega)]
  rw[e,h1]at h1';injection h1' with h1';injection h1' with _ h1'
theorem zLy{es ve rem:List MapEntry}(hp:(ve++rem).Perm es)(hn:(es.map (·.born)).Nodup):(es.filter fun e=>!(ve.map (·.born)).contains e.born).Perm rem:=by
 have hp2:((ve++rem).filter fun e=>!(ve.map (·.born)).contains e.born).Perm (es.filter fun e=>!(ve.map (·.born)).contains e.born):=hp.filter _;rw[List.filter_append]at hp2;have h1:ve.filter (fun e=>!(ve.map (·.born)).contains e.born)=[]:=by
  rw[List.filter_eq_nil_iff];intro e he;simp only[Bool.not_eq_true',Bool.not_eq_false',List.contains_eq_mem,decide_eq_true_eq];simp;exact⟨e,he,rfl⟩
 have hnd:((ve++rem).map (·.born)).Nodup:=(hp.map _).nodup_iff.2 hn;rw[List.map_append,List.nodup_append]at hnd;have h2:rem.filter (fun e=>!(ve.map (·.born)).contains e.born)=rem:=by
  rw[List.filter_eq_self];intro e he;simp only[Bool.not_eq_true',List.contains_eq_mem,decide_eq_false_iff_not];intro hm;exact hnd.2.2 _ hm _ (List.mem_map_of_mem he) rfl
 rw[h1,h2,List.nil_append]at hp2;exact hp2.symm
theorem zTL{x:Operand}{r b:Nat}{kvs vis:List (α×Value)}
 (more:∀p rem,(vis++p::rem).Perm kvs→R (fun h=>OPS P ds rest (act n ((d,.tuple #[.bool true,toV p.1,p.2])::l) D pm ro) h K) B w0 (itA toV r b kvs (vis++[p])::kl') F)
 (done:vis.Perm kvs→R (fun h=>OPS P ds rest (act n ((d,.tuple #[.bool false])::l) D pm ro) h K) B w0 (itA toV r b kvs vis::kl') F)
 (inj:∀a c,toV a=toV c→a=c)
 (hx:ev l x=.pointer (some ⟨r,0,none⟩):=by rfl) (hs:autoParam (Sel (itA toV r b kvs vis) kl kl') zBN._auto_1) (hn:Nat.blt d n=true:=by rfl) (hg:gok l g=true:=by rfl):
 R (fun h=>OPS P ds (⟨⟨some d,g,.nextMap x⟩,[]⟩::rest) (act n l D pm ro) h K) B w0 kl F:=fun w s0=>by
 have s:=s0.sel hs;obtain⟨S,⟨S1,S2,⟨q1,es,clock,seen,last,h1,hz,h2,h3,h4,ve,rem,h5,h6,h7⟩,q2,eS⟩,hnd,hown⟩:=s.own;subst h4 h6;have hpl:=zLy h7 h2.nd;have hold:((es.filter fun e=>!(ve.map (·.born)).contains e.born).filter fun e=>Nat.blt e.born last)=es.filter fun e=>!(ve.map (·.born)).contains e.born:=by
  rw[List.filter_eq_self];intro e he;have:=h2.lt e (List.mem_filter.1 he).1;rw[Nat.blt_eq];exact this
 have hnew:((es.filter fun e=>!(ve.map (·.born)).contains e.born).filter fun e=>Nat.ble last e.born)=[]:=by
  rw[List.filter_eq_nil_iff];intro e he;have:=h2.lt e (List.mem_filter.1 he).1;rw[Nat.ble_eq];omega
 have hcl:(!(ve.map (·.born)).isEmpty&&!es.isEmpty&&es.all (fun e=>Nat.ble last e.born))=false:=by
  cases es with
  |nil=>simp
  |cons e es=>
   have:=h2.lt e (List.mem_cons_self ..);have:Nat.ble last e.born=false:=by
    cases hb:Nat.ble last e.born with
    |false=>rfl
    |true=>rw[Nat.ble_eq]at hb;omega
   simp[this]
 have halts:zIg (ev l x) w.h=some ((if(es.filter fun e=>!(ve.map (·.born)).contains e.born).isEmpty then[(.tuple #[.bool false],w.h)]else[])++
  (es.filter fun e=>!(ve.map (·.born)).contains e.born).map fun e=>(.tuple #[.bool true,e.key,e.val],w.h.set r (.mapIter (some b) last (ve.map (·.born)++[e.born]) last))):=by
  rw[hx];unfold zIg;simp only[h3,h1];rw[hcl];simp only[cond_false,hold,hnew,List.append_nil]
 -- a pair for an entry
 have pairOf:∀(rem0:List MapEntry) (vis0:List (α×Value)),True:=fun _ _=>trivial;refine .next (zAN hg) x rfl rfl _ (by rw[zi];exact halts) ?_
 intro vh hm;rcases List.mem_append.1 hm with hm|hm
 ·split at hm
  ·rename_i hemp;rw[List.mem_singleton.1 hm,put_act hn];have hrem:rem=[]:=by
    have:(es.filter fun e=>!(ve.map (·.born)).contains e.born)=[]:=by simpa using hemp
    rw[this]at hpl;exact List.nil_perm.1 hpl|>fun h=>h
   refine done ?_ w s;subst hrem;rw[List.append_nil]at h7;have hm1:=h7.map (fun e=>(e.key,e.val));rw[h5,h2.ent]at hm1;exact zJ1 (fun p:α×Value=>(toV p.1,p.2)) (fun p q hpq=>by
    injection hpq with e1 e2;exact Prod.ext (inj _ _ e1) e2) hm1
  ·cases hm
 ·obtain⟨e,he,rfl⟩:=List.mem_map.1 hm;have hr:e∈rem:=hpl.mem_iff.1 he;obtain⟨r1,r2,hr12⟩:=List.append_of_mem hr
  -- the pair
  obtain⟨i,hi,hie⟩:∃i,i<kvs.length∧es[i]? =some e:=by
   obtain⟨i,hi⟩:=List.mem_iff_getElem?.1 (List.mem_filter.1 he).1;have:=(List.getElem?_eq_some_iff.1 hi).1;rw[zHe h2]at this;exact⟨i,this,hi⟩
  have hpe:(e.key,e.val)=(toV kvs[i].1,kvs[i].2):=by
   have:=congrArg (fun l=>l[i]?) h2.ent;simp only[List.getElem?_map,hie,List.getElem?_eq_getElem hi,Option.map_some]at this;injection this
  injection hpe with hpk hpv;rw[put_act hn,hpk,hpv];have hperm:(ve++[e]++(r1++r2)).Perm es:=by
   refine List.Perm.trans ?_ h7;rw[hr12,List.append_assoc];refine List.Perm.append_left _ ?_;exact(List.perm_middle (l₁:=r1) (l₂:=r2) (a:=e)).symm
  have hve:zCr toV (vis++[kvs[i]]) (ve++[e]):=by
   unfold zCr;rw[List.map_append,List.map_append,h5];simp[hpk,hpv]
  obtain⟨rem',hrem'⟩:∃rem':List (α×Value),(vis++kvs[i]::rem').Perm kvs:=by
   have hm1:=hperm.map (fun e=>(e.key,e.val));rw[List.map_append,hve,h2.ent]at hm1;have hex:∀ls:List MapEntry,(∀x∈ls,∃p:α×Value,(x.key,x.val)=(toV p.1,p.2))→∃ps:List (α×Value),ls.map (fun e=>(e.key,e.val))=ps.map fun p=>(toV p.1,p.2):=by
    intro ls;induction ls with
    |nil=>intro _;exact⟨[],rfl⟩
    |cons x ls ih=>
     intro h;obtain⟨p,hp⟩:=h x (List.mem_cons_self ..);obtain⟨ps,hps⟩:=ih fun y hy=>h y (List.mem_cons_of_mem _ hy);exact⟨p::ps,by rw[List.map_cons,List.map_cons,hp,hps]⟩
   obtain⟨ps,hps⟩:=hex (r1++r2) (fun y hy=>by
    have hy':y∈es:=hperm.mem_iff.1 (List.mem_append_right _ hy);obtain⟨j,hj⟩:=List.mem_iff_getElem?.1 hy';have hj':=(List.getElem?_eq_some_iff.1 hj).1;rw[zHe h2]at hj';have:=congrArg (fun l=>l[j]?) h2.ent;simp only[List.getElem?_map,hj,List.getElem?_eq_getElem hj',Option.map_some]at this;injection this with this;exact⟨_,this⟩)
   rw[hps,← List.map_append]at hm1;refine⟨ps,?_⟩;have:=zJ1 (fun p:α×Value=>(toV p.1,p.2)) (fun p q hpq=>by
    injection hpq with e1 e2;exact Prod.ext (inj _ _ e1) e2) hm1
   rwa [List.append_assoc]at this
  refine more kvs[i] rem' hrem' ⟨w.h.set r (.mapIter (some b) last (ve.map (·.born)++[e.born]) last),w.z,fun i hi=>w.zlt i hi⟩ ?_
  -- the state behind the step
  have s2:St B w0 (pt r (.mapIter (some b) last (ve.map (·.born)) last)::kl') F w:=⟨s.agree,s.le,s.zold,⟨S,⟨S1,S2,⟨q1,h3⟩,q2,eS⟩,hnd,hown⟩,s.facts⟩
  have s3:=s2.write (o':=.mapIter (some b) last (ve.map (·.born)++[e.born]) last);refine s3.turnA' fun S' hp=>⟨hp.1,es,last,_,last,?_,hz,h2,hp.2,rfl,ve++[e],r1++r2,hve,by rw[List.map_append];rfl,hperm⟩
  have hrb:r≠b:=fun er=>by
   have:=s2.own;obtain⟨S0,⟨T1,T2,⟨u1,_⟩,_,ue⟩,_,ho⟩:=this;exact(ho r (by rw[ue,u1];simp)).2.2 (er▸hz)
  show(w.h.set r _).get b=_;rw[IH.get_set,if_neg (fun er=>hrb er.symm)];exact h1
theorem zRl{x:Operand}{r b:Nat}{kvs vis:List (α×Value)}{p:α×Value}
 (next:R (fun h=>OPS P ds rest (act n ((d,.tuple #[toV p.1,p.2])::l) D pm ro) h K) B w0 kl F)
 (hx:ev l x=.pointer (some ⟨r,0,none⟩):=by rfl) (hs:autoParam (Sel (itA toV r b kvs (vis++[p])) kl kl') zBN._auto_1) (hn:Nat.blt d n=true:=by rfl) (hg:gok l g=true:=by rfl):
 R (fun h=>OPS P ds (⟨⟨some d,g,.entry x⟩,[]⟩::rest) (act n l D pm ro) h K) B w0 kl F:=fun w s0=>by
 have s:=s0.sel hs;obtain⟨S,⟨S1,S2,⟨q1,es,clock,seen,last,h1,hz,h2,h3,h4,ve,rem,h5,h6,h7⟩,q2,e⟩,hnd,hown⟩:=s.own;subst h4 h6;obtain⟨ve0,x0,hve,hx0,hx1⟩:∃ve0 x0,ve=ve0++[x0]∧x0.key=toV p.1∧x0.val=p.2:=by
  unfold zCr at h5;rw[List.map_append]at h5;obtain⟨a1,a2,e1,e2,e3⟩:=List.map_eq_append_iff.1 h5;obtain⟨x0,a3,e4,e5,e6⟩:=List.map_eq_cons_iff.1 e3;have:a3=[]:=by simpa using e6
  subst this;injection e5 with e5 e7;exact⟨a1,x0,by rw[e1,e4],e5,e7⟩
 have hfind:es.find? (fun y=>Nat.beq y.born x0.born)=some x0:=by
  have hm:x0∈es:=h7.mem_iff.1 (List.mem_append_left _ (by rw[hve];simp));cases hf:es.find? (fun y=>Nat.beq y.born x0.born)with
  |none=>
   have:=List.find?_eq_none.1 hf x0 hm;simp[Nat.beq_refl]at this
  |some y=>
   have hy:=List.find?_some hf;have hym:=List.mem_of_find?_eq_some hf;have hb:y.born=x0.born:=Nat.eq_of_beq_eq_true hy;congr 1;exact zDW h2.nd hym hm hb
 refine zBO hn hg (v:=.tuple #[toV p.1,p.2]) ?_ (next w s0);simp only[COp.run,hx,h3,h1];rw[hve];simp only[List.map_append,List.map_cons,List.map_nil,List.getLast?_append,List.getLast?_singleton,Option.some_or,Nat.beq_refl,cond_true,hfind,hx0,hx1]
end
end Go.Ideal
namespace Go.Ideal
open Go.Sort
variable {P:Program}
theorem WR.grow{β:Inj}{h:IH}{w:World}(hW:WR P β h w)(os:Array Obj):WR P β h (grow w os)∧Eff β h w β h (grow w os):=by
 have hold:∀b,b<w.heap.size→(Go.Sort.grow w os).heap[b]? =w.heap[b]?:=fun b hb=>by
  show(w.heap++os)[b]? =_;rw[Array.getElem?_append_left hb]
 refine⟨⟨hW.dom,hW.live,fun i g o h1 h2=>?_,hW.inj⟩,⟨fun _ _=>rfl,Nat.le_refl _,fun _ _ h=>h,fun _ _ _=>rfl,Nat.le_refl _,fun _ _ _=>rfl,rfl,rfl,rfl,?_,fun b hb _=>hold b hb,fun i g hg hi=>absurd (hW.dom _ _ hg) (by omega),fun i g _ _ _ _ hb=>hold _ hb⟩⟩
 ·have hO:=hW.obj i g o h1 h2;exact hO.congr (hold _ hO.lt)
 ·show w.heap.size≤(w.heap++os).size;rw[Array.size_append];omega
def zTh(o:Nat):List Value→Array Value→Array Value
 |[],c=>c
 |v::vs,c=>zTh (o+1) vs (c.setIfInBounds o v)
theorem zEJ(b:Nat):∀(vs:List Value) (o:Nat) (w:World),w.setCells b o vs=mapBlock w b (zTh o vs)
 |[],o,w=>(mapBlock_id w b _ fun c e fr h=>rfl).symm
 |v::vs,o,w=>by
  show(w.setCell ⟨b,o,none⟩ v).setCells b (o+1) vs=_;rw[zEJ b vs (o+1),setCell_eq,mapBlock_mapBlock];rfl
theorem zJT:∀(vs:List Value) (o:Nat) (c:Array Value) (k:Nat),(zTh o vs c)[k]? =if o≤k∧k<o+vs.length∧k<c.size then vs[k - o]? else c[k]?
 |[],o,c,k=>by
  rw[if_neg (by rw[List.length_nil];omega)];rfl
 |v::vs,o,c,k=>by
  show(zTh (o+1) vs (c.setIfInBounds o v))[k]? =_;rw[zJT vs (o+1),Array.size_setIfInBounds,List.length_cons];by_cases h1:o+1≤k∧k<o+1+vs.length∧k<c.size
  ·rw[if_pos h1,if_pos ⟨by omega,by omega,h1.2.2⟩];rw[show k - o=(k - (o+1))+1 by omega,List.getElem?_cons_succ]
  ·rw[if_neg h1,Array.getElem?_setIfInBounds];by_cases h2:o=k
   ·subst h2;rw[if_pos rfl];by_cases h3:o<c.size
    ·rw[if_pos h3,if_pos ⟨Nat.le_refl _,by omega,h3⟩,Nat.sub_self];rfl
    ·rw[if_neg h3,if_neg (by omega)];exact(Array.getElem?_eq_none (by omega)).symm
   ·rw[if_neg h2,if_neg (by omega)]
theorem setCells_putRow{α:Type}[Inhabited α](enc:α→Value)(w:World)(b o:Nat)(d:Array α):w.setCells b o (d.toList.map enc)=putRow enc w b o d:=by
 rw[zEJ];unfold putRow;refine mapBlock_congr w b _ _ fun c e fr hc=>?_;apply Array.ext_getElem?;intro k;rw[zJT,putCells,Array.getElem?_mapIdx,List.length_map,Array.length_toList];by_cases hk:k<c.size
 ·by_cases h:o≤k∧k<o+d.size
  ·rw[if_pos ⟨h.1,h.2,hk⟩,Array.getElem?_eq_getElem hk,Option.map_some,if_pos h,List.getElem?_map,Array.getElem?_toList,Array.getElem?_eq_getElem (by omega)];rw[Option.map_some,getElem!_pos d _ (by omega)]
  ·rw[if_neg (fun q=>h ⟨q.1,q.2.1⟩),Array.getElem?_eq_getElem hk,Option.map_some,if_neg h]
 ·rw[if_neg (by omega),Array.getElem?_eq_none (by omega)];rfl
def zEr(P:Program)(f:FuncId):Prop:=∀(blk off cap:Nat) (zs:List Int) (w:World),Holds (Value.int .i64) w blk off zs.toArray→blk<w.heap.size→zs.length<4611686018427387904→
 Calls P f #[.slice (some ⟨blk,off,none⟩) zs.length cap] w fun e w'=>e=.returned (.tuple #[])∧∃n os,w'=Go.Sort.grow (putRow (Value.int .i64) (Sort.ahead w n) blk off (zs.mergeSort fun x y=>decide (x≤y)).toArray) os
def sortZ(zs:List Int):List Int:=zs.mergeSort fun x y=>decide (x≤y)
theorem zBM(zs:List Int):(sortZ zs).length=zs.length:=List.length_mergeSort zs
theorem zKe{f:FuncId}(hS:zEr P f){fn:Func}(hfn:P.funcs[f]? =some fn){body:Code}(hb:fn.body=some body)(hname:fn.name≠ "runtime.NumGoroutine"){b o c:Nat}{fl:Option Nat}{zs:List Int}{h h':IH}{cs:List Value}
 (hg:h.get b=some (.cells cs)) (hz:∀(j:Nat) z,zs[j]? =some z→cs[o+j]? =some (.int .i64 z)) (hne:0<zs.length) (hlen:zs.length<4611686018427387904) (hs:h.storeAt b o ((sortZ zs).map (.int .i64))=some h'):
 zBr P ⟨.func f,[.slice (some ⟨b,o,fl⟩) zs.length c],[],none⟩ h (fun r pm h2=>pm=none∧r=.ok (.tuple ⟨[]⟩)∧h2=h'):=by
 intro β w fn' args' cap' hG hW hf ha hcap;obtain⟨args2,t1,t2⟩:=zIN (P:=P) (q:=⟨.func f,[.slice (some ⟨b,o,fl⟩) zs.length c],[],none⟩) (f:=f) (args:=[.slice (some ⟨b,o,fl⟩) zs.length c]) (by simp only[target,zb,List.append_nil]) hf ha hcap hfn hb hname w;cases t2 with|cons hv tl=>
 cases tl;obtain⟨g,a,c',hi,rfl,hab,_,hn,hcc,hao,_⟩:=hv.slice_inv;have hao:a.off=g.off+o∧a.spot=none:=by
  rcases hao with e|e
  ·omega
  ·exact e
 obtain⟨⟨c0,t0,fz0,hh⟩,q2,q3,q4,q5,q6⟩:=hW.obj b g _ hi hg;have ea:a=⟨g.b,g.off+o,none⟩:=by
  obtain⟨ab,ao,as⟩:=a;simp only at hab hao;rw[hab,hao.1,hao.2]
 subst ea;have hin:∀j,j<zs.length→o+j<cs.length:=fun j hj=>(List.getElem?_eq_some_iff.1 (hz j _ (List.getElem?_eq_getElem hj))).1;have hH:Holds (Value.int .i64) w g.b (g.off+o) zs.toArray:=fun j hj=>by
  have hj:j<zs.length:=by simpa using hj
  obtain⟨v',h1,h2⟩:=q6 (o+j) _ (hz j _ (List.getElem?_eq_getElem hj));have:=h2.int_inv;subst this;refine⟨?_,(q4 _ (by have:=hin j hj;omega)).2⟩;rw[Nat.add_assoc,h1];congr 2;rw[getElem!_pos zs.toArray j (by simpa using hj)];simp
 have hlt:g.b<w.heap.size:=(Array.getElem?_eq_some_iff.1 hh).1;have hC:=hS g.b (g.off+o) c' zs w hH hlt hlen;obtain⟨_,w1,w2⟩:=zFU hW hi hs (vs':=(sortZ zs).map (.int .i64)) (VRs.free (by
  have:∀l:List Int,zG (l.map (Value.int .i64))=true:=by
   intro l;induction l with
   |nil=>rfl
   |cons x l ih=>rw[List.map_cons];simp[zG,zC,Ideal.cellV,ih]
  exact this _)) (by
  rw[List.all_eq_true];intro x hx;obtain⟨z,_,rfl⟩:=List.mem_map.1 hx;rfl)
 refine⟨_,Frame.enter P f ⟨_⟩ .normal,t1,rfl,fun cs0 hcs0=>?_⟩;obtain⟨e,w',fr,⟨he,k,os,hw'⟩,hcomes,hfr,hlv⟩:=hC cs0;subst he;have hw1:putRow (Value.int .i64) (Sort.ahead w k) g.b (g.off+o) (zs.mergeSort fun x y=>decide (x≤y)).toArray=Sort.ahead (w.setCells g.b (g.off+o) ((sortZ zs).map (.int .i64))) k:=by
  have:=setCells_putRow (Value.int .i64) w g.b (g.off+o) (sortZ zs).toArray;rw[show(sortZ zs).toArray.toList=sortZ zs from rfl]at this;rw[this];rfl
 rw[hw1]at hw';have w3:WR P β h' (Sort.ahead (w.setCells g.b (g.off+o) ((sortZ zs).map (.int .i64))) k):=w1.same_heap rfl;have w4:=w2.trans (Eff.same_heap (w':=Sort.ahead (w.setCells g.b (g.off+o) ((sortZ zs).map (.int .i64))) k) w1.dom rfl rfl rfl rfl);obtain⟨w5,w6⟩:=w3.grow os;rw[← hw']at w5 w6;refine⟨.ok (.tuple ⟨[]⟩),none,h',β,w',.returned (.tuple #[]),cs0,⟨rfl,rfl,rfl⟩,w5,w4.trans w6,.ok (.unk _),.none cs0,.inl ⟨f,_,fr,rfl,hcomes,hfr,hlv.2.2.1,hlv.1,hlv.2.1,hlv.2.2.2⟩⟩
theorem zEu{α:Type}:∀(l:List α) (o:Nat) (xs:List α),o+xs.length≤l.length→∃r,zAt l o xs=some r
 |[],o,xs,h=>by
  have h1:xs=[]:=List.length_eq_zero_iff.1 (by rw[List.length_nil]at h;omega);have h2:o=0:=by rw[List.length_nil]at h;omega
  exact⟨[],by rw[zID,if_pos ⟨h1,h2⟩]⟩
 |c::l,0,[],h=>⟨_,zGX c l⟩
 |c::l,0,x::xs,h=>by
  obtain⟨r,hr⟩:=zEu l 0 xs (by simp only[List.length_cons]at h;omega);exact⟨x::r,by rw[zDt,hr];rfl⟩
 |c::l,o+1,xs,h=>by
  obtain⟨r,hr⟩:=zEu l o xs (by simp only[List.length_cons]at h;omega);exact⟨c::r,by rw[zDx,hr];rfl⟩
theorem zOi{f:FuncId}(hS:zEr P f){fn:Func}(hfn:P.funcs[f]? =some fn){body:Code}(hb:fn.body=some body)(hname:fn.name≠ "runtime.NumGoroutine"){a:Option Addr}{zs:List Int}(hne:0<zs.length)(hlen:zs.length<4611686018427387904):
 FnC P (.func f) [.slice a zs.length zs.length] [] [ap intE (.slice a zs.length zs.length) zs] [] (fun _:Unit=>.tuple ⟨[]⟩) (fun _=>[ap intE (.slice a zs.length zs.length) (sortZ zs)]) (fun _=>[]) (fun _=>True):=by
 intro B w s;obtain⟨S,⟨S1,S2,q1,q2,e⟩,h2,h3⟩:=s.own;rcases q1 with⟨h,_⟩|⟨b,o,fl,cells,e1,hf,e2,hb',hcl,hel⟩
 ·rw[h]at hne;simp at hne
 injection e1 with e1 e1';subst e1;have hcl:cells.length=o+zs.length:=by rw[hcl];simp[intE]
 have hz:∀(j:Nat) z,zs[j]? =some z→cells[o+j]? =some (.int .i64 z):=fun j z hj=>by
  obtain⟨y,u1,_⟩:=hel j z hj;have:=u1 0 (.int .i64 z) rfl;simpa[intE]using this
 have hst:∃cs2,w.h.storeAt b o ((sortZ zs).map (.int .i64))=some (w.h.set b (.cells cs2))∧cs2.length=cells.length∧∀(k:Nat) z,(sortZ zs)[k]? =some z→cs2[o+k]? =some (.int .i64 z):=by
  have hov:∃cs2,zAt cells o ((sortZ zs).map (.int .i64))=some cs2:=zEu _ _ _ (by rw[List.length_map,zBM];omega);obtain⟨cs2,hl⟩:=hov;obtain⟨l1,l2,l3⟩:=zEB hl;refine⟨cs2,?_,l2,fun k z hk=>?_⟩
  ·unfold IH.storeAt;simp only[hb',hl]
  ·rw[l3,if_pos ⟨by omega,by have:=(List.getElem?_eq_some_iff.1 hk).1;rw[List.length_map];omega⟩,Nat.add_sub_cancel_left,List.getElem?_map,hk];rfl
 obtain⟨cs2,hst,hl2,hel2⟩:=hst;refine .real (call_conseq _ (zKe hS hfn hb hname hb' hz hne hlen hst) ?_);rintro r pm h' ⟨rfl,rfl,rfl⟩;have s1:St B w [pt b (.cells cells)] [] w:=⟨s.agree,s.le,s.zold,⟨S,⟨S1,S2,⟨e2,hb'⟩,q2,e⟩,h2,h3⟩,fun f hf=>by cases hf⟩
 refine⟨rfl,⟨w.h.set b (.cells cs2),w.z,fun i hi=>w.zlt i hi⟩,(),rfl,?_,rfl,trivial⟩;refine(s1.write (o':=.cells cs2)).turnA (A:=pt b (.cells cs2)) fun w' S' hp=>?_;refine .inr ⟨b,o,fl,cs2,by rw[zBM],hf,hp.1,hp.2,by rw[hl2,hcl,zBM];simp[intE],fun k x hk=>⟨(),fun j u hj=>?_,fun f hf=>by cases hf⟩⟩;match j,hj with
 |0,hj=>
  cases hj;have:=hel2 k x hk;simpa[intE]using this
end Go.Ideal
namespace Go.Ideal
variable {P:Program}
def zHT{α:Type}(P:Program)(vals:α→List Value)(fn:Fn)(first cap:List Value)(F:List zJ)(X:List α→Prop):Prop:=
 ∀(S:Type) (inv:S→List OA) (ok:List α→S→Prop) (step:S→α→S×Bool) (s0:S) (yfn:Fn) (y1 y2:List Value) (F':List zJ),ok [] s0→
  (∀vs s x rest,ok vs s→X (vs++x::rest)→(step s x).2=true→ok (vs++[x]) (step s x).1)→
  (∀vs s x rest,ok vs s→X (vs++x::rest)→FnC P yfn (y1++vals x) y2 (inv s) F' (fun _:Unit=>.bool (step s x).2) (fun _=>inv (step s x).1) (fun _=>[]) (fun _=>True))→
  FnC P fn (first++[.func yfn ⟨y1⟩ ⟨y2⟩]) cap (inv s0) (F++F') (fun _:List α=>.tuple ⟨[]⟩) (fun xs=>inv (zAf step s0 xs)) (fun _=>[]) X
section
variable {B:List Nat} {w0:Wd} {kl kl' klr:List OA} {F:List zJ} {K:KO} {n:Nat} {l:List (Nat×Value)} {D:List Deferred} {pm:Option FrameMode} {ro:Option Nat}
def zSB{Z:Type}(B:List Nat)(w0:Wd)(n:Nat)(l3:Z→List (Nat×Value))(lo:Nat)(o:z4)(kl:Z→List OA)(F:List zJ):KO:=fun oo a h=>
 oo=.normal∧∃z,a=act n (l3 z) [] none (some lo)∧∃w:Wd,w.h=h∧St B w0 (pt lo o::kl z) F w
theorem asgZ_end{Z:Type}{l3:Z→List (Nat×Value)}{lo:Nat}{o:z4}{k3:Z→List OA}(z:Z)(hl:l3 z=l)(hk:autoParam (SelL (pt lo o::k3 z) kl klr) zBX._auto_1):R (fun h=>zSB B w0 n l3 lo o k3 F .normal (act n l [] none (some lo)) h) B w0 kl F:=fun w s=>
 ⟨rfl,z,by rw[hl],w,rfl,(s.selL hk).drop⟩
theorem zHu{Y Z:Type}{lo:Nat}{L:zBZ}{args:List Value}{k1:List OA}{out:Y→Out}{k1':Y→List OA}{fs:Y→List zJ}{pr:Y→Prop}(l:List (Nat×Value))(l3:Z→List (Nat×Value))(k3:Z→List OA)(hl:L.tmps=zBV l)(hst:L.state=.ready)(hps:L.params.all (fun p=>Nat.blt p L.n)=true)(hlen:L.params.length=args.length)
 (ha:∀B w0,R (fun h=>EV P L.assign (act L.n ((L.params.zip args).reverse++l) [] none (some lo)) h (zSB B w0 L.n l3 lo (.loop L) k3 F)) B w0 (pt lo (.loop L)::k1) F)
 (hb:∀z B w0,R (fun h=>EV P L.body (act L.n (l3 z) [] none (some lo)) h (zCt B w0 lo L out k1' fs pr)) B w0 (pt lo (.loop (zDE L))::k3 z) F):
 FnC P (.yield lo) args [] (pt lo (.loop L)::k1) F (fun y:Y=>.bool (isN (out y))) (fun y=>pt lo (.loop (zEE L (out y)))::k1' y) fs pr:=by
 intro B w s;obtain⟨l2,e1,e2⟩:=zBY L.n L.params args l hps hlen;refine .round lo rfl rfl L s.get.1 hlen.symm _ (by
  rw[hl];show EV P L.assign (zU.mk L.n (zy L.n L.params args (zBV l)) [] none (some lo)) w.h _;rw[e1,e2];exact ha B w w s) ?_ ?_
 ·rintro o a h ⟨rfl,z,rfl,w1,rfl,s1⟩;exact⟨rfl,L,s1.get.1,hst⟩
 ·rintro a h r1 ⟨_,z,rfl,w1,rfl,s1⟩ hr;have hr1:r1=L:=by
   have:=s1.get.1;rw[hr]at this;injection this with this;injection this
  subst hr1;have hb:=hb z B w _ (s1.write (o':=.loop (zDE r1)));refine zG3 hb _ ?_;rintro o a h ⟨hd,w2,y,rfl,rfl,hn,s2,hp⟩;refine⟨zDE r1,s2.get.1,hd,?_⟩;have fin:∀o',isN o'=isN (out y)→zEE r1 o'=zEE r1 (out y)→Left B w (fun y:Y=>.bool (isN (out y))) (fun y=>pt lo (.loop (zEE r1 (out y)))::k1' y) fs pr (.ok (.bool (isN (out y)))) none (w2.h.set lo (.loop (zEE r1 (out y)))):=fun o' _ _=>
   ⟨rfl,_,y,rfl,s2.write,rfl,hp⟩
  cases ho:out y with
  |normal=>have:=fin .normal (by rw[ho]) (by rw[ho]);rw[ho]at this;exact this
  |exit j=>have:=fin (.exit j) (by rw[ho]) (by rw[ho]);rw[ho]at this;exact this
  |ret=>have:=fin .ret (by rw[ho]) (by rw[ho]);rw[ho]at this;exact this
  |panic ch=>rw[ho]at hn;exact hn.elim
theorem zPY{S α Z:Type}{f:Operand}{ps:List Tmp}{assign body:zS}{fn:Fn}{first captured:List Value}{vals:α→List Value}{F1:List zJ}{X:List α→Prop}(step:S→α→S×Out)(inv:S→List OA)(ok:List α→S→Prop)(s0:S)(h0:ok [] s0)
 (hok:∀vs s x rest,ok vs s→X (vs++x::rest)→(step s x).2=.normal→ok (vs++[x]) (step s x).1) (hit:zHT P vals fn first captured F1 X)
 (hf:ev l f=.func fn ⟨first⟩ ⟨captured⟩) (hps:ps.all (fun p=>Nat.blt p n)=true) (hlen:∀x,ps.length=(vals x).length) (hk:SelL (inv s0) kl klr) (hF:Sub F1 F) (hpan:∀s x,zFp (step s x).2)
 (l3:α→Z→List (Nat×Value)) (k3:α→Z→List OA)
 (ha:∀(s:S) (x:α) (lo:Nat) (o:z4) B w0,R (fun h=>EV P assign (act n ((ps.zip (vals x)).reverse++l) [] none (some lo)) h (zSB B w0 n (l3 x) lo o (fun z=>k3 x z++inv s) F)) B w0 (pt lo o::inv s) F)
 (hb:∀(vs:List α) (s:S) (x:α) (rest:List α) (z:Z) (lo:Nat) (L:zBZ) B w0,ok vs s→X (vs++x::rest)→R (fun h=>EV P body (act n (l3 x z) [] none (some lo)) h (zCt B w0 lo L (fun _:Unit=>(step s x).2) (fun _=>inv (step s x).1) (fun _=>[]) (fun _=>True))) B w0 (pt lo (.loop (zDE L))::(k3 x z++inv s)) F)
 (next:∀r xs,X xs→R (fun h=>K (zBu step s0 xs).2 (act n l ({target:=.collected r,args:= #[]}::D) pm none) h) B w0 (inv (zBu step s0 xs).1++(pt r (.defs true)::klr)) F):
 R (fun h=>EV P (.rangeFunc f ps assign body) (act n l D pm none) h K) B w0 kl F:=by
 refine zIZ (Y:=List α) (k1:=inv s0) (F1:=F1++F) (valI:=fun _=>.tuple ⟨[]⟩) (out:=fun xs=>(zBu step s0 xs).2) (k1':=fun xs=>inv (zBu step s0 xs).1) (fs:=fun _=>[]) (pr:=X) hf ?_ hk (hF.app (Sub.refl' F [])) (fun r y hy=>next r y hy);intro lo r;have:=hit (S×Out) (fun so=>pt lo (.loop (zEE ⟨.ready,none,zBV l,n,ps,assign,body,r⟩ so.2))::inv so.1) (fun vs so=>so.2=.normal∧ok vs so.1) (fun so x=>(step so.1 x,isN (step so.1 x).2)) (s0,.normal) (.yield lo) [] [] F ⟨rfl,h0⟩
  (fun vs so x rest ho hx h=>by
    have h:isN (step so.1 x).2=true:=h;have hn:(step so.1 x).2=.normal:=by
     cases e:(step so.1 x).2 with
     |normal=>rfl
     |_=>rw[e]at h;cases h
    exact⟨hn,hok vs so.1 x rest ho.2 hx hn⟩)
  (fun vs so x rest ho hx=>by
    obtain⟨s,o⟩:=so;obtain⟨hn,ho⟩:=ho;have hn:o=.normal:=hn;subst hn;exact zHu (Y:=Unit) (L:=⟨.ready,none,zBV l,n,ps,assign,body,r⟩) (args:=vals x) (k1:=inv s) (out:=fun _=>(step s x).2) (k1':=fun _=>inv (step s x).1) (fs:=fun _=>[]) (pr:=fun _=>True) l (l3 x) (fun z=>k3 x z++inv s) rfl rfl hps (hlen x)
     (fun B w0=>ha s x lo _ B w0) (fun z B w0=>hb vs s x rest z lo _ B w0 ho hx))
 have e:(fun xs:List α=>pt lo (.loop (zEE ⟨.ready,none,zBV l,n,ps,assign,body,r⟩ (zAf (fun(so:S×Out) x=>(step so.1 x,isN (step so.1 x).2)) (s0,.normal) xs).2))::inv (zAf (fun(so:S×Out) x=>(step so.1 x,isN (step so.1 x).2)) (s0,.normal) xs).1)=fun xs=>pt lo (.loop (zEE ⟨.ready,none,zBV l,n,ps,assign,body,r⟩ (zBu step s0 xs).2))::inv (zBu step s0 xs).1:=by
  funext xs
  rw[zDK]
 have h2:FnC P fn (first++[.func (.yield lo) ⟨[]⟩ ⟨[]⟩]) captured (pt lo (.loop ⟨.ready,none,zBV l,n,ps,assign,body,r⟩)::inv s0) (F1++F) (fun _:List α=>.tuple ⟨[]⟩) (fun xs=>pt lo (.loop (zEE ⟨.ready,none,zBV l,n,ps,assign,body,r⟩ (zAf (fun(so:S×Out) x=>(step so.1 x,isN (step so.1 x).2)) (s0,.normal) xs).2))::inv (zAf (fun(so:S×Out) x=>(step so.1 x,isN (step so.1 x).2)) (s0,.normal) xs).1) (fun _=>[]) X:=this;rw[e]at h2;exact h2
theorem zJV{S α Z:Type}{f:Operand}{ps:List Tmp}{assign body:zS}{fn:Fn}{first captured:List Value}{vals:α→List Value}{F1:List zJ}{X:List α→Prop}(step:S→α→S×Out)(inv:S→List OA)(ok:List α→S→Prop)(s0:S)(l3:α→Z→List (Nat×Value))(k3:α→Z→List OA)(h0:ok [] s0)
 (hok:∀vs s x rest,ok vs s→X (vs++x::rest)→(step s x).2=.normal→ok (vs++[x]) (step s x).1) (hit:zHT P vals fn first captured F1 X)
 (ha:∀(s:S) (x:α) (lo:Nat) (o:z4) B w0,R (fun h=>EV P assign (act n ((ps.zip (vals x)).reverse++l) [] none (some lo)) h (zSB B w0 n (l3 x) lo o (fun z=>k3 x z++inv s) F)) B w0 (pt lo o::inv s) F)
 (hb:∀(vs:List α) (s:S) (x:α) (rest:List α) (z:Z) (lo:Nat) (L:zBZ) B w0,ok vs s→X (vs++x::rest)→R (fun h=>EV P body (act n (l3 x z) [] none (some lo)) h (zCt B w0 lo L (fun _:Unit=>(step s x).2) (fun _=>inv (step s x).1) (fun _=>[]) (fun _=>True))) B w0 (pt lo (.loop (zDE L))::(k3 x z++inv s)) F)
 (next:∀r xs,X xs→R (fun h=>K (zBu step s0 xs).2 (act n l ({target:=.collected r,args:= #[]}::D) pm none) h) B w0 (inv (zBu step s0 xs).1++(pt r (.defs true)::klr)) F)
 (hpan:∀s x,zFp (step s x).2)
 (hf:ev l f=.func fn ⟨first⟩ ⟨captured⟩:=by rfl) (hps:ps.all (fun p=>Nat.blt p n)=true:=by rfl) (hlen:∀x,ps.length=(vals x).length:=by intro _;rfl)
 (hk:autoParam (SelL (inv s0) kl klr) zBX._auto_1) (hF:autoParam (Sub F1 F) zFn._auto_1):
 R (fun h=>EV P (.rangeFunc f ps assign body) (act n l D pm none) h K) B w0 kl F:=
 zPY step inv ok s0 h0 hok hit hf hps hlen hk hF hpan l3 k3 ha hb next
end
end Go.Ideal
namespace Go.Ideal
variable {P:Program}
def zk{α:Type}(E:Enc α)(xys:List (α×E.Y)):List Value:=xys.flatMap fun p=>E.pat p.1 p.2
theorem zCT{α:Type}{E:Enc α}:∀xys:List (α×E.Y),(zk E xys).length=xys.length*E.n
 |[]=>by simp[zk]
 |p::l=>by
  have ih:=zCT l;unfold zk at ih⊢;rw[List.flatMap_cons,List.length_append,ih,E.len,List.length_cons,Nat.add_mul];omega
theorem zBE{α:Type}{E:Enc α}:∀{xys:List (α×E.Y)} {k:Nat} {p:α×E.Y} {j:Nat} {u:Value},xys[k]? =some p→(E.pat p.1 p.2)[j]? =some u→(zk E xys)[k*E.n+j]? =some u
 |[],k,p,j,u,h,_=>by cases h
 |q::l,0,p,j,u,h,hj=>by
  cases h;unfold zk;rw[List.flatMap_cons,Nat.zero_mul,Nat.zero_add,List.getElem?_append_left (List.getElem?_eq_some_iff.1 hj).1];exact hj
 |q::l,k+1,p,j,u,h,hj=>by
  have ih:=zBE (xys:=l) (k:=k) (by simpa using h) hj;unfold zk at ih⊢;rw[List.flatMap_cons,List.getElem?_append_right (by rw[E.len,Nat.add_mul];omega),E.len,show(k+1)*E.n+j - E.n=k*E.n+j by rw[Nat.add_mul];omega];exact ih
theorem zE9{α:Type}{E:Enc α}{j:Nat}{v:Value}:∀{xys:List (α×E.Y)} {k:Nat} {p p':α×E.Y},xys[k]? =some p→(E.pat p.1 p.2).set j v=E.pat p'.1 p'.2→j<E.n→(zk E xys).set (k*E.n+j) v=zk E (xys.set k p')
 |[],k,p,p',h,_,_=>by cases h
 |q::l,0,p,p',h,hp,hj=>by
  cases h;unfold zk;rw[List.flatMap_cons,Nat.zero_mul,Nat.zero_add,List.set_append_left _ _ (by rw[E.len];exact hj),hp];rfl
 |q::l,k+1,p,p',h,hp,hj=>by
  have ih:=zE9 (xys:=l) (k:=k) (by simpa using h) hp hj;unfold zk at ih⊢;rw[List.flatMap_cons,List.set_append_right _ _ (by rw[E.len,Nat.add_mul];omega),E.len,show(k+1)*E.n+j - E.n=k*E.n+j by rw[Nat.add_mul];omega,ih];rfl
def fEl{α:Type}(E:Enc α)(v:Value)(xys:List (α×E.Y)):zJ:=
 ⟨fun w=>(xys=[]∧∃a c,v=.slice a 0 c∧zQ5 E.n a)∨∃i o f c cells,(v=.slice (some ⟨i,o,some f⟩) xys.length c∧xys.length≤c∧(f=0∨f=E.n))∧Fz w i cells∧
  ∀(k:Nat) p,xys[k]? =some p→(∀(j:Nat) u,(E.pat p.1 p.2)[j]? =some u→cells[o+k*E.n+j]? =some u)∧∀f∈E.fs p.1 p.2,f.p w,
  fun a h=>by
   rcases h with h|⟨i,o,f,c,cells,h1,h2,h3⟩
   ·exact .inl h
   ·refine .inr ⟨i,o,f,c,cells,h1,h2.mono a,fun k x hk=>?_⟩;obtain⟨q1,q2⟩:=h3 k x hk;exact⟨q1,fun f hf=>f.mono a (q2 f hf)⟩⟩
def fAll{α:Type}(E:Enc α)(xys:List (α×E.Y)):zJ:=⟨fun w=>∀p∈xys,∀f∈E.fs p.1 p.2,f.p w,fun a h p hp f hf=>f.mono a (h p hp f hf)⟩
theorem zRU{α:Type}{E:Enc α}{v:Value}{xys:List (α×E.Y)}{w:Wd}(h:(fEl E v xys).p w):(fAll E xys).p w:=by
 intro p hp f hf;rcases h with⟨rfl,_⟩|⟨i,o,fl,c,cells,_,_,h3⟩
 ·cases hp
 ·obtain⟨k,hk⟩:=List.mem_iff_getElem?.1 hp;exact(h3 k p hk).2 f hf
theorem zTM{α:Type}{E:Enc α}{v:Value}{xys:List (α×E.Y)}{w:Wd}(h:(fEl E v xys).p w):(fSl E v (xys.map (·.1))).p w:=by
 rcases h with⟨rfl,h⟩|⟨i,o,f,c,cells,h1,h2,h3⟩
 ·exact .inl ⟨rfl,h⟩
 ·refine .inr ⟨i,o,f,c,cells,by rw[List.length_map];exact h1,h2,fun k x hk=>?_⟩;rw[List.getElem?_map]at hk;cases hp:xys[k]? with
  |none=>rw[hp]at hk;cases hk
  |some p=>
   rw[hp]at hk;cases hk;exact⟨p.2,h3 k p hp⟩
theorem zJe{α:Type}{E:Enc α}{v:Value}{xs:List α}{w:Wd}(h:(fSl E v xs).p w):∃xys:List (α×E.Y),xys.map (·.1)=xs∧(fEl E v xys).p w:=by
 rcases h with⟨rfl,h⟩|⟨i,o,f,c,cells,h1,h2,h3⟩
 ·exact⟨[],rfl,.inl ⟨rfl,h⟩⟩
 ·obtain⟨l,hl,hp⟩:=zIw (p:=fun k (p:α×E.Y)=>xs[k]? =some p.1∧(∀(j:Nat) u,(E.pat p.1 p.2)[j]? =some u→cells[o+k*E.n+j]? =some u)∧∀f∈E.fs p.1 p.2,f.p w) xs.length (fun k hk=>by
   obtain⟨y,q1,q2⟩:=h3 k xs[k] (List.getElem?_eq_getElem hk);exact⟨(xs[k],y),List.getElem?_eq_getElem hk,q1,q2⟩)
  have hm:l.map (·.1)=xs:=by
   apply List.ext_getElem?;intro k;rw[List.getElem?_map];by_cases hk:k<xs.length
   ·have hk':k<l.length:=by omega
    rw[List.getElem?_eq_getElem hk',Option.map_some,(hp k l[k] (List.getElem?_eq_getElem hk')).1]
   ·rw[List.getElem?_eq_none (by omega),List.getElem?_eq_none (by omega)];rfl
  exact⟨l,hm,.inr ⟨i,o,f,c,cells,by rw[hl];exact h1,h2,fun k p hk=>(hp k p hk).2⟩⟩
def ar{α:Type}(E:Enc α)(v:Value)(xys:List (α×E.Y)):OA:=
 ⟨fun w S=>(xys=[]∧(∃a,v=.slice a 0 0∧zQ5 E.n a)∧S=[])∨∃b f,v=.slice (some ⟨b,0,some f⟩) xys.length xys.length∧(f=0∨f=E.n)∧S=[b]∧w.h.get b=some (.cells (zk E xys)),
  fun a h hp=>by
   rcases hp with hp|⟨b,f,h1,h2,h3,h4⟩
   ·exact .inl hp
   ·exact .inr ⟨b,f,h1,h2,h3,by rw[h b (by rw[h3];exact List.mem_singleton.2 rfl)];exact h4⟩⟩
theorem zSn{α:Type}{E:Enc α}{v:Value}{xys:List (α×E.Y)}(w w':Wd)(S:List Nat)(hp:(ar E v xys).p w S)(hle:w.Le w')(hh:w'.h=w.h)(hz:∀i∈S,w'.z i)(ha:(fAll E xys).p w):(fEl E v xys).p w':=by
 rcases hp with⟨h1,⟨a,h2,h3⟩,_⟩|⟨b,f,h1,h2,h3,h4⟩
 ·exact .inl ⟨h1,a,0,h2,h3⟩
 ·refine .inr ⟨b,0,f,_,_,⟨h1,Nat.le_refl _,h2⟩,⟨hz b (by rw[h3];exact List.mem_singleton.2 rfl),.inl (by rw[hh];exact h4)⟩,fun k p hk=>⟨fun j u hj=>?_,fun f hf=>f.mono hle (ha p (List.mem_of_getElem? hk) f hf)⟩⟩;rw[Nat.zero_add];exact zBE hk hj
section
variable {B:List Nat} {w0:Wd} {kl kl' klr:List OA} {F:List zJ} {K:KO} {ds:List Tmp} {rest:List zQ} {n:Nat} {l:List (Nat×Value)} {D:List Deferred} {pm:Option FrameMode} {ro:Option Nat} {d:Nat} {g:Option (Tmp×Bool)}
variable {α:Type} {E:Enc α} {v:Value}
theorem zI3{xs:List α}{Q:IH→Prop}(E:Enc α)(v:Value)(h:∀xys:List (α×E.Y),xys.map (·.1)=xs→R Q B w0 kl (fEl E v xys::F))(hf:autoParam (fSl E v xs∈F) zN1._auto_1):R Q B w0 kl F:=fun w s=>by
 obtain⟨xys,h1,h2⟩:=zJe (s.facts _ hf);exact h xys h1 w ⟨s.agree,s.le,s.zold,s.own,fun f hf=>by
  rcases List.mem_cons.1 hf with rfl|hf
  ·exact h2
  ·exact s.facts f hf⟩
theorem zTw{xys:List (α×E.Y)}{Q:IH→Prop}(h:R Q B w0 kl (fAll E xys::F))(hf:autoParam (fEl E v xys∈F) zN1._auto_1):R Q B w0 kl F:=fun w s=>
 h w ⟨s.agree,s.le,s.zold,s.own,fun f hf'=>by
  rcases List.mem_cons.1 hf' with rfl|hf'
  ·exact zRU (s.facts _ hf)
  ·exact s.facts f hf'⟩
theorem zGs{xys:List (α×E.Y)}{Q:IH→Prop}(h:R Q B w0 kl' (fEl E v xys::fSl E v (xys.map (·.1))::F))(ha:∀w,(∀f∈F,f.p w)→(fAll E xys).p w)(hk:autoParam (Sel (ar E v xys) kl kl') zBN._auto_1):R Q B w0 kl F:=fun w s=>by
 have hall:=ha w s.facts
 -- freeze by hand
 obtain⟨S,⟨S1,S2,q1,q2,e⟩,h2,h3⟩:=(s.sel hk).own;subst e;let w':Wd:=⟨w.h,fun i=>w.z i∨i∈S1,fun i hi=>hi.elim (w.zlt i) fun hi=>(h3 i (List.mem_append_left _ hi)).2.1⟩
 have hle:w.Le w':=⟨Nat.le_refl _,fun i hi=>.inl hi,fun _ _=>rfl⟩
 have hnd:=List.nodup_append.1 h2;have hel:=zSn w w' S1 q1 hle rfl (fun i hi=>.inr hi) hall;refine h w' ⟨s.agree,s.le.trans hle,fun i hi hz=>?_,⟨S2,zAY.loc hle (fun _ _=>rfl) q2,hnd.2.1,fun i hi=>?_⟩,fun f hf=>?_⟩
 ·rcases hz with hz|hz
  ·exact s.zold i hi hz
  ·rcases(h3 i (List.mem_append_left _ hz)).1 with q|q
   ·omega
   ·exact .inr q
 ·have:=h3 i (List.mem_append_right _ hi);refine⟨this.1,this.2.1,fun hz=>hz.elim this.2.2 fun hm=>?_⟩;exact hnd.2.2 i hm i hi rfl
 ·rcases List.mem_cons.1 hf with rfl|hf
  ·exact hel
  ·rcases List.mem_cons.1 hf with rfl|hf
   ·exact zTM hel
   ·exact f.mono hle (s.facts f hf)
theorem zJU{xys:List (α×E.Y)}{Q:IH→Prop}(hlen:0<xys.length)(h:∀b f,(f=0∨f=E.n)→v=.slice (some ⟨b,0,some f⟩) xys.length xys.length→R Q B w0 (pt b (.cells (zk E xys))::kl') F)(hk:autoParam (Sel (ar E v xys) kl kl') zBN._auto_1):R Q B w0 kl F:=fun w s=>by
 have s1:=s.sel hk;obtain⟨S,⟨S1,S2,q1,q2,e⟩,h2,h3⟩:=s1.own;rcases q1 with⟨h0,_⟩|⟨b,f,h4,h5,h6,h7⟩
 ·rw[h0]at hlen;simp at hlen
 ·exact h b f h5 h4 w ⟨s1.agree,s1.le,s1.zold,⟨S,⟨S1,S2,⟨h6,h7⟩,q2,e⟩,h2,h3⟩,s1.facts⟩
theorem zAL{α:Type}(E:Enc α){xys:List (α×E.Y)}{Q:IH→Prop}{b f m:Nat}(hm:m=xys.length)(hf:f=0∨f=E.n)(h:R Q B w0 (ar E (.slice (some ⟨b,0,some f⟩) m m) xys::kl') F)(hk:autoParam (Sel (pt b (.cells (zk E xys))) kl kl') zBN._auto_1):R Q B w0 kl F:=fun w s=>by
 refine h w ((s.sel hk).turnA (A:=pt b (.cells (zk E xys))) fun w S hp=>.inr ⟨b,f,by rw[hm],hf,hp.1,hp.2⟩)
theorem zJ5{xys:List (α×E.Y)}{Q:IH→Prop}(h:∀a,v=.slice a xys.length xys.length→R Q B w0 kl F)(hk:autoParam (Sel (ar E v xys) kl kl') zBN._auto_1):R Q B w0 kl F:=fun w s=>by
 obtain⟨S,⟨S1,S2,q1,q2,e⟩,h2,h3⟩:=(s.sel hk).own;rcases q1 with⟨rfl,⟨a,h1,_⟩,_⟩|⟨b,f,h4,_⟩
 ·exact h a h1 w s
 ·exact h _ h4 w s
theorem zJi{x:Operand}{t e:TypeId}{m c:Nat}(hu:P.underlying t=some (.slice e))(hx:ev l x=.slice none m c):Pu P (ev l) (.bin .eql t x (.const (.slice none 0 0))) (.bool true):=fun h=>by
 have he:zF P (Op.equal t (.slice none m c) (.slice none 0 0))=some true:=by
  show zF P (Op.equalIn (9999+1) t (.slice none m c) (.slice none 0 0))=_;unfold Op.equalIn;rw[zD,zAE hu];rfl
 have h1:zA2 P (do eqGuard .eql t x (.const (.slice none 0 0)) (.slice none m c) (.slice none 0 0);binOp .eql t (.slice none m c) (.slice none 0 0))=some (.bool true):=by
  unfold zA2;rw[zD,zA7 (by intro c e;cases e) (by intro e;cases e)];simp only[Option.bind_some,binOp];rw[zD,he];rfl
 have h2:zFo P .eql t x (.const (.slice none 0 0)) (.slice none m c) (.slice none 0 0)=some (.bool true):=by
  by_cases hmc:m=0∧c=0
  ·show cond (zC (Value.slice none m c)&&zC (Value.slice none 0 0)) (zA2 P (do eqGuard .eql t x (.const (.slice none 0 0)) (.slice none m c) (.slice none 0 0);binOp .eql t (.slice none m c) (.slice none 0 0))) _=_;rw[h1];obtain⟨rfl,rfl⟩:=hmc;simp[zC]
  ·have e0:zC (Value.slice none m c)=false:=by
    cases hb:zC (Value.slice none m c)with
    |false=>rfl
    |true=>exact absurd (by simpa[zC]using hb) hmc
   have e1:zLI P t (.slice none m c) (.slice none 0 0)=some true:=by
    unfold zLI;rw[hu]
   show cond (zC (Value.slice none m c)&&zC (Value.slice none 0 0)) _ (match zLI P t (.slice none m c) (.slice none 0 0)with|some b=>some (Value.bool b)|none=>none)=_;rw[e0,e1];rfl
 simp only[COp.run,hx];show(match zFo P .eql t x (.const (.slice none 0 0)) (.slice none m c) (.slice none 0 0)with|some v=>some (v,h)|none=>none)=_;rw[h2]
theorem zF3{x:Operand}{t e:TypeId}{a:Addr}{m c:Nat}(hu:P.underlying t=some (.slice e))(hx:ev l x=.slice (some a) m c):Pu P (ev l) (.bin .eql t x (.const (.slice none 0 0))) (.bool false):=fun h=>by
 have h2:zFo P .eql t x (.const (.slice none 0 0)) (.slice (some a) m c) (.slice none 0 0)=some (.bool false):=by
  have:zLI P t (.slice (some a) m c) (.slice none 0 0)=some false:=by
   unfold zLI;rw[hu]
  show(match zLI P t (.slice (some a) m c) (.slice none 0 0)with|some b=>some (Value.bool b)|none=>none)=_;rw[this]
 simp only[COp.run,hx];show(match zFo P .eql t x (.const (.slice none 0 0)) (.slice (some a) m c) (.slice none 0 0)with|some v=>some (v,h)|none=>none)=_;rw[h2]
theorem zIb{e:TypeId}{size bytes b c:Nat}{a:Option Addr}{s x:Operand}
 (next:R (fun h=>OPS P ds rest (act n ((d,.slice (some ⟨b,0,some 0⟩) 0 0)::l) D pm ro) h K) B w0 (pt b (.cells [])::kl') F)
 (hs:ev l s=.slice (some ⟨b,0,some 0⟩) 0 0:=by rfl) (hx:ev l x=.slice a 0 c:=by rfl) (hk:autoParam (Sel (pt b (.cells [])) kl kl') zBN._auto_1) (hn:Nat.blt d n=true:=by rfl) (hg:gok l g=true:=by rfl):
 R (fun h=>OPS P ds (⟨⟨some d,g,.append e size bytes s x⟩,[]⟩::rest) (act n l D pm ro) h K) B w0 kl F:=fun w st=>by
 have st1:=st.sel hk;refine zBO hn hg (v:=.slice (some ⟨b,0,some 0⟩) 0 0) (h':=w.h.set b (.cells [])) ?_ (next ⟨w.h.set b (.cells []),w.z,fun i hi=>w.zlt i hi⟩ st1.write);have h0:∀m,Nat.mul 0 m=0:=fun m=>Nat.zero_mul m;have e1:w.h.storeAt b 0 []=some (w.h.set b (.cells [])):=by
  unfold IH.storeAt;simp only[st1.get.1];rfl
 simp only[COp.run,hx,hs,zIV,zEO,zB8];show cond (Nat.ble (Nat.mul (Nat.add 0 0) bytes) small&&Nat.ble (Nat.mul (Nat.add 0 0) size) small&&Nat.ble (Nat.add 0 0) small) (cond (Nat.ble (Nat.add 0 0) 0) (match w.h.storeAt b (Nat.add 0 (Nat.mul 0 size)) []with|some h=>some (Value.slice (some ⟨b,0,some 0⟩) (Nat.add 0 0) 0,h)|none=>none) _) none=_;rw[show Nat.add 0 0=0 from rfl,h0,h0,show Nat.add 0 0=0 from rfl,e1];have:(Nat.ble 0 small&&Nat.ble 0 small&&Nat.ble 0 small)=true:=rfl;rw[this];rfl
theorem zNU{α:Type}{e:TypeId}{size bytes b:Nat}{s x:Operand}(E:Enc α)(xys:List (α×E.Y))(hne:0<xys.length)(hm:xys.length*bytes≤1073741824∧xys.length*size≤1073741824∧xys.length≤1073741824)
 (next:∀b',R (fun h=>OPS P ds rest (act n ((d,.slice (some ⟨b',0,some size⟩) xys.length xys.length)::l) D pm ro) h K) B w0 (pt b' (.cells (zk E xys))::kl') F)
 (hs:ev l s=.slice (some ⟨b,0,some 0⟩) 0 0:=by rfl) (hx:ev l x=v:=by conv=>lhs;whnf) (hf:autoParam (fEl E v xys∈F) zN1._auto_1) (hz:E.n=size:=by rfl) (hk:autoParam (Sel (pt b (.cells [])) kl kl') zBN._auto_1) (hn:Nat.blt d n=true:=by rfl) (hg:gok l g=true:=by rfl):
 R (fun h=>OPS P ds (⟨⟨some d,g,.append e size bytes s x⟩,[]⟩::rest) (act n l D pm ro) h K) B w0 kl F:=fun w st=>by
 subst hz;have st1:=st.sel hk;have hat:At w.h b (.cells []):=st.at_ hk;obtain⟨k,hk'⟩:∃k,xys.length=k+1:=⟨xys.length - 1,by omega⟩
 rcases st.facts _ hf with⟨rfl,_⟩|⟨i,o,f,c,cells,⟨e1,hc⟩,q2,q3⟩
 ·simp at hne
 have hfl:=zCT xys;have hcells:∀j,j<xys.length*E.n→cells[o+j]? =(zk E xys)[j]?:=fun j hj=>by
  have hn0:0<E.n:=by
   rcases Nat.eq_zero_or_pos E.n with h0|h0
   ·rw[h0]at hj;omega
   ·exact h0
  have hd:j/E.n<xys.length:=by rw[Nat.div_lt_iff_lt_mul hn0];exact hj
  have hmod:=Nat.mod_lt j hn0;have hpk:=List.getElem?_eq_getElem hd;have hu:(E.pat (xys[j/E.n]).1 (xys[j/E.n]).2)[j%E.n]? =some ((E.pat (xys[j/E.n]).1 (xys[j/E.n]).2)[j%E.n]'(by rw[E.len];exact hmod)):=List.getElem?_eq_getElem _;have h1:=(q3 (j/E.n) _ hpk).1 (j%E.n) _ hu;have h2:=zBE hpk hu;have hdm:j/E.n*E.n+j%E.n=j:=by rw[Nat.mul_comm];exact Nat.div_add_mod j E.n
  rw[Nat.add_assoc,hdm]at h1;rw[hdm]at h2;rw[h1,h2]
 have hlen:o+xys.length*E.n≤cells.length∨xys.length*E.n=0:=by
  rcases Nat.eq_zero_or_pos (xys.length*E.n)with h0|h0
  ·exact .inr h0
  ·left;have h1:=hcells (xys.length*E.n - 1) (by omega);have hx0:(zk E xys)[xys.length*E.n - 1]? =some ((zk E xys)[xys.length*E.n - 1]'(by omega)):=List.getElem?_eq_getElem _;rw[hx0]at h1;have:=(List.getElem?_eq_some_iff.1 h1).1;omega
 have hpos:0<E.n∨E.n=0:=by omega
 have hread:w.h.readAt i o (xys.length*E.n)=some (zk E xys):=by
  rw[q2.cells.readAt,zAG,zAR,if_pos (by rw[List.length_drop];omega)];congr 1;apply List.ext_getElem?;intro j;rw[List.getElem?_take];by_cases hj:j<xys.length*E.n
  ·rw[if_pos hj,List.getElem?_drop];exact hcells j hj
  ·rw[if_neg hj,List.getElem?_eq_none (by omega)]
 refine zJv (b:=b) (o:=0) (m:=0) (k:=k) (f:=some 0) (old:=[]) (xs:=zk E xys) hn hg hs (by rw[hx,e1,hk'];rfl) ?_ ?_ (.inl rfl) ?_ fun h' mv=>?_
 ·rw[hx,e1,← hk'];exact hread
 ·rw[hat.c.readAt,Nat.zero_mul];rfl
 ·rw[Nat.zero_add,← hk'];omega
 obtain⟨w',rfl,st4,hwle⟩:=st1.move mv;rw[List.nil_append]at st4;have:=next w.h.next w' st4
 rw[hk']at this;rw[Nat.zero_add];exact this
end
end Go.Ideal
namespace Go.Ideal
variable {P:Program}
inductive zF6(P:Program)(ty:TypeId):Value→Value→Bool→Prop
 |int {a b:Int} (h:P.underlying ty=some (.int .i64)):zF6 P ty (.int .i64 a) (.int .i64 b) (decide (a=b))
 |str {a b:ByteArray} (h:P.underlying ty=some .string):zF6 P ty (.string a) (.string b) (decide (a=b))
theorem zG2:zF P program=some P:=rfl
theorem zNM{α:Type}{c:Prop}[Decidable c]{a b:Sem α}:zF P (if c then a else b)=if c then zF P a else zF P b:=by split<;>rfl
theorem zLU{ty:TypeId}{a b:Value}{r:Bool}(c:zF6 P ty a b r)(d:Nat):zF P (Op.equalIn (d+1) ty a b)=some r:=by
 cases c with
 |int h=>
  unfold Op.equalIn;rw[zD,zAE h];simp only[Option.bind_some,if_true];rfl
 |str h=>
  unfold Op.equalIn;rw[zD,zAE h];show some (_==_)=_;rw[bytes_beq]
theorem zGw{ty:TypeId}{a b v:Value}{r:Bool}(c:zF6 P ty a b r){xs:Array Value}{o:Nat}(hx:xs[o]? =some v):zF P (part ty xs o)=some v:=by
 have hu:∃d,P.underlying ty=some d∧(∀fs,d≠.struct fs)∧∀n e,d≠.array n e:=by
  cases c with
  |int h=>exact⟨_,h,(by intro _ e;cases e),(by intro _ _ e;cases e)⟩
  |str h=>exact⟨_,h,(by intro _ e;cases e),(by intro _ _ e;cases e)⟩
 obtain⟨d,h1,h2,h3⟩:=hu;have hag:zF P (isAgg ty)=some false:=by
  unfold isAgg;rw[zD,zAE h1];cases d with
  |struct fs=>exact absurd rfl (h2 fs)
  |array n e=>exact absurd rfl (h3 n e)
  |_=>rfl
 unfold part;rw[zD,hag];show zF P (match xs[o]? with|some v=>pure v|none=>stuck "part: no such cell")=_;rw[hx];rfl
inductive zKX(P:Program)(xs ys:List Value):List Field→Bool→Prop
 |nil:zKX P xs ys [] true
 |cons {f:Field} {fs:List Field} {a b:Value} {r r':Bool} (hn:(f.name== "_")=false) (hx:xs[f.offset]? =some a) (hy:ys[f.offset]? =some b) (c:zF6 P f.type a b r) (t:zKX P xs ys fs r'):zKX P xs ys (f::fs) (r&&r')
theorem zME{d:Nat}{t:TypeId}{fs:Array Field}{xs ys:List Value}{r:Bool}(hu:P.underlying t=some (.struct fs))(hp:P.stoodInHeld t=false)(h:zKX P xs ys fs.toList r):zF P (Op.equalIn (d+2) t (.agg ⟨xs⟩) (.agg ⟨ys⟩))=some r:=by
 unfold Op.equalIn;rw[zD,zAE hu];simp only[Option.bind_some];rw[zD,zG2];simp only[Option.bind_some,hp,Bool.false_eq_true,if_false];rw[← Array.forIn_toList];generalize fs.toList=l at h;clear hu;induction h with
 |nil=>rfl
 | @cons f fs a b r r' hn hx hy c t ih=>
   have hn:f.name≠ "_" :=by simpa using hn
   rw[List.forIn_cons];simp only[zD,zNM,if_pos hn,hn,ne_eq,not_false_eq_true,if_true]at ih⊢;rw[zGw (xs:=⟨xs⟩) c (by simpa using hx),Option.bind_some,zGw (xs:=⟨ys⟩) c (by simpa using hy),Option.bind_some,zLU c,Option.bind_some];cases r with
   |false=>rfl
   |true=>exact ih
section
variable {l:List (Nat×Value)}
theorem zLN{op:BinOp}{t:TypeId}{x y:Operand}{a b:Array Value}(hm:P.eqGuardType P.depth t=false):zF P (eqGuard op t x y (.agg a) (.agg b))=some ():=by
 have key:zF P (do if !(← program).eqGuardType (← program).depth t then return
                        if ← Op.eqGuardIn Op.maxDepth t (.agg a) (.agg b)then unsupported (.noEntry "binop/eql: two nil values of an interface type with methods, in a part of a struct or an array"))=some ():=by
  rw[zD,zG2];simp only[Option.bind_some];rw[zD,zG2];simp only[Option.bind_some,hm,Bool.not_false,if_true];rfl
 cases op<;>first|exact key|rfl
theorem zKF{op:BinOp}{t:TypeId}{x y:Operand}{a b:List Value}{v:Value}(ha:zG a=true)(hb:zG b=true)(hm:P.eqGuardType P.depth t=false)(hv:zF P (binOp op t (.agg ⟨a⟩) (.agg ⟨b⟩))=some v)(hf:zC v=true):zFo P op t x y (.agg ⟨a⟩) (.agg ⟨b⟩)=some v:=by
 have h1:zA2 P (do eqGuard op t x y (.agg ⟨a⟩) (.agg ⟨b⟩);binOp op t (.agg ⟨a⟩) (.agg ⟨b⟩))=some v:=by
  unfold zA2;rw[zD,zLN hm];simp only[Option.bind_some,hv,hf,cond]
 show cond (zC (.agg ⟨a⟩)&&zC (.agg ⟨b⟩)) (zA2 P (do eqGuard op t x y (.agg ⟨a⟩) (.agg ⟨b⟩);binOp op t (.agg ⟨a⟩) (.agg ⟨b⟩))) _=_;rw[h1];simp[zC,ha,hb]
theorem zQP{x y:Operand}{t:TypeId}{fs:Array Field}{xs ys:List Value}{r:Bool}(hx:ev l x=.agg ⟨xs⟩)(hy:ev l y=.agg ⟨ys⟩)(hu:P.underlying t=some (.struct fs))(hp:P.stoodInHeld t=false)(hm:P.eqGuardType P.depth t=false)(h:zKX P xs ys fs.toList r)(ha:zG xs=true)(hb:zG ys=true):
 Pu P (ev l) (.bin .neq t x y) (.bool (!r)):=fun h0=>by
 simp only[COp.run,hx,hy];rw[zKF ha hb hm (v:=.bool (!r)) (by
  show zF P (do pure (Value.bool (!(← Op.equal t (.agg ⟨xs⟩) (.agg ⟨ys⟩)))))=_;rw[zD,show zF P (Op.equal t (.agg ⟨xs⟩) (.agg ⟨ys⟩))=some r from zME (d:=9998) hu hp h];rfl) rfl]
theorem zJP{d n:Nat}{t e:TypeId}{xs ys:List Int}(hu:P.underlying t=some (.array n e))(he:P.underlying e=some (.int .i64))(hs:P.info? e|>.map (·.size)|>(·=some 1))(hx:xs.length=n)(hy:ys.length=n):
 zF P (Op.equalIn (d+2) t (.agg ⟨xs.map (.int .i64)⟩) (.agg ⟨ys.map (.int .i64)⟩))=some (decide (xs=ys)):=by
 have hsz:zF P (sizeOf e)=some 1:=by
  unfold sizeOf typeInfo;cases hi:P.info? e with
  |none=>rw[hi]at hs;cases hs
  |some i=>
   rw[hi]at hs;have hs:i.size=1:=by simpa using hs
   simp only[zD,zG2,Option.bind_some,hi];rw[← hs];rfl
 unfold Op.equalIn;rw[zD,zAE hu];simp only[Option.bind_some];rw[zD,hsz];simp only[Option.bind_some,Nat.mul_one];rw[Std.Legacy.Range.forIn_eq_forIn_range'];simp only[Std.Legacy.Range.size,Nat.sub_zero,Nat.add_sub_cancel,Nat.div_one];have key:∀(m i:Nat),i+m=n→zF P (do
  let __s ← forIn (List.range' i m 1) ((none,()):Option Bool×Unit) fun i __s=>
   (do let a ← part e ⟨xs.map (.int .i64)⟩ i
       let b ← part e ⟨ys.map (.int .i64)⟩ i
       let r ← Op.equalIn (d+1) e a b
       if(!r)=true then pure (ForInStep.done (some false,()))else pure (ForInStep.yield (none,())))
  match __s.fst with
  |some r=>pure r
  |none=>pure true)=some (decide (xs.drop i=ys.drop i)):=by
  intro m;induction m with
  |zero=>
   intro i hi;rw[List.drop_eq_nil_of_le (by omega),List.drop_eq_nil_of_le (by omega)];rfl
  |succ m ih=>
   intro i hi;have hix:i<xs.length:=by omega
   have hiy:i<ys.length:=by omega
   have c:zF6 P e (.int .i64 xs[i]) (.int .i64 ys[i]) (decide (xs[i]=ys[i])):=.int he;rw[List.range'_succ,List.forIn_cons];simp only[zD,zNM];rw[zGw (xs:=⟨xs.map (.int .i64)⟩) (o:=i) (v:=.int .i64 xs[i]) c (by simp[hix]),Option.bind_some,zGw (xs:=⟨ys.map (.int .i64)⟩) (o:=i) (v:=.int .i64 ys[i]) c (by simp[hiy]),Option.bind_some,zLU c,Option.bind_some];rw[List.drop_eq_getElem_cons hix,List.drop_eq_getElem_cons hiy];have ih:=ih (i+1) (by omega);simp only[zD,zNM]at ih;by_cases hxy:xs[i]=ys[i]
   ·rw[decide_eq_true hxy];simp only[Bool.not_true,Bool.false_eq_true,if_false];show(zF P _).bind _=_;rw[show decide (xs[i]::xs.drop (i+1)=ys[i]::ys.drop (i+1))=decide (xs.drop (i+1)=ys.drop (i+1))from decide_eq_decide.2 (by rw[List.cons.injEq];exact⟨fun h=>h.2,fun h=>⟨hxy,h⟩⟩)];exact ih
   ·rw[decide_eq_false hxy];simp only[Bool.not_false,if_true];rw[show decide (xs[i]::xs.drop (i+1)=ys[i]::ys.drop (i+1))=false from decide_eq_false (fun h=>hxy (List.cons.inj h).1)];rfl
 have:=key n 0 (by omega);rw[List.drop_zero,List.drop_zero]at this;refine Eq.trans ?_ this;simp only[zD];congr 1;funext s
 cases s.fst<;>rfl
theorem zR0{x y:Operand}{n:Nat}{t e:TypeId}{xs ys:List Int}(hx:ev l x=.agg ⟨xs.map (.int .i64)⟩)(hy:ev l y=.agg ⟨ys.map (.int .i64)⟩)(hu:P.underlying t=some (.array n e))(he:P.underlying e=some (.int .i64))(hs:P.info? e|>.map (·.size)|>(·=some 1))(hxl:xs.length=n)(hyl:ys.length=n)(hm:P.eqGuardType P.depth t=false):
 Pu P (ev l) (.bin .eql t x y) (.bool (decide (xs=ys))):=fun h0=>by
 have hfr:∀zs:List Int,zG (zs.map (Value.int .i64))=true:=by
  intro zs;induction zs with
  |nil=>rfl
  |cons z zs ih=>rw[List.map_cons];simp[zG,zC,Ideal.cellV,ih]
 simp only[COp.run,hx,hy];rw[zKF (hfr xs) (hfr ys) hm (v:=.bool (decide (xs=ys))) (by
  show zF P (do pure (Value.bool (← Op.equal t (.agg ⟨xs.map (.int .i64)⟩) (.agg ⟨ys.map (.int .i64)⟩))))=_;rw[zD,show zF P (Op.equal t (.agg ⟨xs.map (.int .i64)⟩) (.agg ⟨ys.map (.int .i64)⟩))=some (decide (xs=ys))from zJP (d:=9998) hu he hs hxl hyl];rfl) rfl]
def zSa(P:Program):List Field→Nat→List Bool→Bool
 |[],_,[]=>true
 |f::fs,i,k::ks=>!(f.name== "_")&&f.offset==i&&(match P.underlying f.type with
  |some (.int .i64)=>k
  |some .string=>!k
  |_=>false)&&zSa P fs (i+1) ks
 |_,_,_=>false
def cellsE:List Value→List Value→Bool
 | .int .i64 a::xs,.int .i64 b::ys=>decide (a=b)&&cellsE xs ys
 | .string a::xs,.string b::ys=>decide (a=b)&&cellsE xs ys
 |_,_=>true
def zPS:List Bool→List Value→Bool
 |[],[]=>true
 |true::ks,.int .i64 _::vs=>zPS ks vs
 |false::ks,.string _::vs=>zPS ks vs
 |_,_=>false
theorem row_of{xs ys:List Value}:∀{fs:List Field} {i:Nat} {ks:List Bool} {xs' ys':List Value},zSa P fs i ks=true→zPS ks xs'=true→zPS ks ys'=true→(∀j,xs[i+j]? =xs'[j]?)→(∀j,ys[i+j]? =ys'[j]?)→zKX P xs ys fs (cellsE xs' ys')
 |[],i,[],[],[],_,_,_,_,_=>.nil
 |f::fs,i,k::ks,[],ys',h,hx,hy,ex,ey=>by cases k<;>cases hx
 |f::fs,i,k::ks,x::xs',[],h,hx,hy,ex,ey=>by cases k<;>cases hy
 |f::fs,i,k::ks,x::xs',y::ys',h,hx,hy,ex,ey=>by
  simp only[zSa,Bool.and_eq_true]at h;obtain⟨⟨⟨h1,h2⟩,h3⟩,h4⟩:=h;have h2:f.offset=i:=by simpa using h2
  have e1:xs[f.offset]? =some x:=by have:=ex 0;rw[Nat.add_zero]at this;rw[h2,this];rfl
  have e2:ys[f.offset]? =some y:=by have:=ey 0;rw[Nat.add_zero]at this;rw[h2,this];rfl
  have ex':∀j,xs[i+1+j]? =xs'[j]?:=fun j=>by have:=ex (j+1);rw[show i+1+j=i+(j+1)by omega,this];rfl
  have ey':∀j,ys[i+1+j]? =ys'[j]?:=fun j=>by have:=ey (j+1);rw[show i+1+j=i+(j+1)by omega,this];rfl
  cases k with
  |true=>
   match x,hx,y,hy with
   | .int .i64 a,hx,.int .i64 b,hy=>
     have hu:P.underlying f.type=some (.int .i64):=by
      cases hq:P.underlying f.type with
      |none=>rw[hq]at h3;cases h3
      |some q=>
       rw[hq]at h3;cases q with
       |int kk=>cases kk<;>first|rfl|cases h3
       |string=>cases h3
       |_=>cases h3
     exact .cons (by simpa using h1) e1 e2 (.int hu) (row_of h4 hx hy ex' ey')
  |false=>
   match x,hx,y,hy with
   | .string a,hx,.string b,hy=>
     have hu:P.underlying f.type=some .string:=by
      cases hq:P.underlying f.type with
      |none=>rw[hq]at h3;cases h3
      |some q=>
       rw[hq]at h3;cases q with
       |int kk=>cases kk<;>cases h3
       |string=>rfl
       |_=>cases h3
     exact .cons (by simpa using h1) e1 e2 (.str hu) (row_of h4 hx hy ex' ey')
end
end Go.Ideal

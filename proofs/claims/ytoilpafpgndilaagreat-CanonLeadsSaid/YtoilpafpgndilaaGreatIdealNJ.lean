/- Part. -/
import Derived.Test.YtoilpafpgndilaaGreatIdealKJ
import Derived.Sort.Row
import Derived.Sort.Grow
import Derived.Laws.StructEq
set_option linter.all false
namespace Go.Ideal
variable {P:Program}
def A9{Y:Type}(B:ae Nat)(w0:Wd)(ret:Y->jB)(kl':Y->ae OA)(fs:Y->ae aI)(pr:Y->Prop):KR:=λr pm h'=>
 pm=none/\∃(w':Wd) (y:Y),w'.h=h'/\St B w0 (kl' y) (fs y) w'/\r=ret y/\pr y
def qR{Y:Type}(P:Program)(fn:Fn)(args cap:ae ah)(kl:ae OA)(F:ae aI)(ret:Y->jB)(kl':Y->ae OA)(fs:Y->ae aI)(pr:Y->Prop):Prop:=
 ∀(B:ae Nat) (w:Wd),St B w kl F w->CALL P ⟨fn,args,cap,none⟩ w.h (A9 B w ret kl' fs pr)
variable{args cap:ae ah}{Y:Type}{kl:ae OA}{F:ae aI}
def qR.toC{fn:Fn}{ret:Y->jB}{kl':Y->ae OA}{fs:Y->ae aI}{pr:Y->Prop}(val:Y->ah)(h:qR P fn args cap kl F ret kl' fs pr)
 (hv:∀y,pr y->ret y=.ok (val y)):aX P fn args cap kl F val kl' fs pr:=λB w s=>by
 refine .uy _ (h B w s) ?_;rintro r pm h' ⟨e,w',y,e1,st,er,hp⟩;exact⟨e,w',y,e1,st,er.trans (hv y hp),hp⟩
def Rt{Y:Type}(B:ae Nat)(w0:Wd)(ret:Y->jB)(md:Y->FrameMode)(kl':Y->ae OA)(fs:Y->ae aI)(pr:Y->Prop):KR:=λr pm h'=>
 ∃(w':Wd) (y:Y),pm=some (md y)/\w'.h=h'/\St B w0 (kl' y) (fs y) w'/\r=ret y/\pr y
def Gg{Y:Type}(P:Program)(fn:Fn)(args cap:ae ah)(m:FrameMode)(kl:ae OA)(F:ae aI)(ret:Y->jB)(md:Y->FrameMode)(kl':Y->ae OA)(fs:Y->ae aI)(pr:Y->Prop):Prop:=
 ∀(B:ae Nat) (w:Wd),St B w kl F w->CALL P ⟨fn,args,cap,some m⟩ w.h (Rt B w ret md kl' fs pr)
variable{f:fO}{c:dz}{m:Nat}{l0:qr}
def YC{K:KR}{pm:ak FrameMode}(cf:iG)(hF:(sI P uq sJ).F f=some cf)(h1:cf.body=c)(h2:um cf.ntmps (jh (args++cap))=m)(h3:uB 0 (args++cap) []=l0){h:IH}
 (hb:EV P c (act m l0 [] pm none) h (sU P cf K)):CALL P ⟨.func f,args,cap,pm⟩ h K:=by
 obtain⟨fn,e1,e2⟩:=(F3 P uq sJ (λf q h v h' hm=>by cases hm)).fn f cf hF;refine X4 cf fn e1 e2 ?_;rw[Ri,h1,h2,h3];exact hb
def yC{ret:Y->jB}{kl':Y->ae OA}{fs:Y->ae aI}{pr:Y->Prop}(cf:iG)(hF:(sI P uq sJ).F f=some cf)
 (hb:∀B w0,R (λh=>EV P c (act m l0 [] none none) h (sU P cf (A9 B w0 ret kl' fs pr))) B w0 kl F)
 (h1:cf.body=c:=by conv=>lhs;(reduce;(try simp only[Int.reduceOfNat,Int.reduceNegSucc]))) (h2:um cf.ntmps (jh (args++cap))=m:=by conv=>lhs;whnf) (h3:uB 0 (args++cap) []=l0:=by dsimp only[uB,Nat.reduceAdd,List.append_nil,List.cons_append,List.nil_append]):qR P (.func f) args cap kl F ret kl' fs pr:=
 λB w s=>YC cf hF h1 h2 h3 (hb B w w s)
def MW{pm:FrameMode}{ret:Y->jB}{md:Y->FrameMode}{kl':Y->ae OA}{fs:Y->ae aI}{pr:Y->Prop}(cf:iG)(hF:(sI P uq sJ).F f=some cf)
 (hb:∀B w0,R (λh=>EV P c (act m l0 [] (some pm) none) h (sU P cf (Rt B w0 ret md kl' fs pr))) B w0 kl F)
 (h1:cf.body=c:=by conv=>lhs;(reduce;(try simp only[Int.reduceOfNat,Int.reduceNegSucc]))) (h2:um cf.ntmps (jh (args++cap))=m:=by conv=>lhs;whnf) (h3:uB 0 (args++cap) []=l0:=by dsimp only[uB,Nat.reduceAdd,List.append_nil,List.cons_append,List.nil_append]):Gg P (.func f) args cap pm kl F ret md kl' fs pr:=
 λB w s=>YC cf hF h1 h2 h3 (hb B w w s)
section
variable {B:ae Nat} {w0:Wd} {kl kl' bz:ae OA} {F:ae aI} {K:KO} {ds:ae Tmp} {rest:ae bN} {n:Nat} {l:qr} {D:ae Deferred} {pm:ak FrameMode} {ro:ak Nat} {d:Nat} {g:ak (Tmp×Bool)}
variable{k1:ae OA}{F1:ae aI}
def St.qU{w:Wd}{bz:ae OA}(s:St B w0 kl F w)(hk:aF k1 kl bz)(hF:Sub F1 F):
 ∃S1,St S1 w k1 F1 w/\∀(w':Wd) (k1':ae OA) (F':ae aI),St S1 w k1' F' w'->St B w0 (k1'++bz) (F'++F) w':=by
 obtain⟨S,h1,h2,h3⟩:=s.own;obtain⟨S1,S2,q1,q2,hp⟩:=h1.lF hk;have hsub:∀i∈S1,i∈S:=λi hi=>hp.mem_iff.2 (jl _ hi);exact⟨S1,⟨⟨aZ _,λ_ _ _=>rfl,λ_ _=>rfl⟩,Wd.Le.refl w,λi _ hz=>.inl hz,⟨S1,q1,(jA.1 (hp.nodup h2)).1,λi hi=>⟨.inr hi,(h3 i (hsub i hi)).2⟩⟩,λf hf=>s.facts f (hF.mem f hf)⟩,
  λw' k1' F' c=>s.call (k1:=k1) (F1:=F1) ⟨S,hp,h2,h3⟩ q2 c⟩
variable{Y:Type}{vs captured first as:ae ah}{fn:Fn}{f:ay}{xs:ae ay}
def aiv{re:ae jc}{ret:Y->jB}{k1':Y->ae OA}{fs:Y->ae aI}{pr:Y->Prop}
 (hc:qR P fn as captured k1 F1 ret k1' fs pr) (hn:Nat.blt d n=true) (hg:bO l g=true) (hf:ev l f=.func fn ⟨first⟩ ⟨captured⟩) (hx:EvL (ev l) xs vs) (ha:first++vs=as)
 (hk:aF k1 kl bz) (hF:Sub F1 F)
 (hs:∀y v,pr y->ret y=.ok v->Same P re (ev ((d,v)::l)) ((d,v)::l) B w0 (k1' y++bz) (fs y++F))
 (next:∀y v,pr y->ret y=.ok v->R (λh=>aM P ds rest (act n ((d,v)::l) D pm ro) h K) B w0 (k1' y++bz) (fs y++F))
 (Jt:∀y ch,pr y->ret y=.gI ch->R (λh=>K (.panic ch) (act n (Eh ds n l) D pm ro) h) B w0 (k1' y++bz) (fs y++F)):
 R (λh=>aM P ds (⟨⟨some d,g,.call f xs⟩,re⟩::rest) (act n l D pm ro) h K) B w0 kl F:=by
 intro w s;obtain⟨S1,s1,back⟩:=s.qU hk hF;have hcall:=hc S1 w s1;subst ha;rw[<- hx.map]at hcall;refine s_call hn hg fn hf _ hcall ?_ ?_ ?_ ?_
 .rintro v h' ⟨_,w',y,rfl,c,hv,hpr⟩;exact hs y v hpr hv.symm w' (back w' _ _ c)
 .rintro v h' ⟨_,w',y,rfl,c,hv,hpr⟩;exact next y v hpr hv.symm w' (back w' _ _ c)
 .rintro ch h' ⟨_,w',y,rfl,c,hv,hpr⟩;rw[LM];exact Jt y ch hpr hv.symm w' (back w' _ _ c)
 .rintro r p h' ⟨e,_⟩;exact e
def sZ{re:ae jc}{ret:Y->jB}{k1':Y->ae OA}{fs:Y->ae aI}{pr:Y->Prop}{eX:Y->ae OA}{F2:Y->ae aI}
 (hc:qR P fn as captured k1 F1 ret k1' fs pr)
 (next:∀y v,pr y->ret y=.ok v->R (λh=>aM P ds rest (act n ((d,v)::l) D pm ro) h K) B w0 (eX y) (F2 y))
 (Jt:∀y ch,pr y->ret y=.gI ch->R (λh=>K (.panic ch) (act n (Eh ds n l) D pm ro) h) B w0 (eX y) (F2 y))
 (hn:Nat.blt d n=true:=by rfl) (hg:bO l g=true:=by rfl) (hf:ev l f=.func fn ⟨first⟩ ⟨captured⟩:=by rfl) (hx:EvL (ev l) xs vs:=by repeat (first|with_reducible exact EvL.nil|((with_reducible apply EvL.cons);(conv=>lhs;whnf)))) (ha:first++vs=as:=by rfl)
 (hk:aF k1 kl bz:=by exact mW) (hF:Sub F1 F:=by exact mo) (hk2:∀y,dO (k1' y) bz (eX y):=by intro y;repeat (first|exact dO.nil|apply dO.cons|exact dO.self|exact dO.app)) (hF2:∀y,dO (fs y) F (F2 y):=by intro y;repeat (first|exact dO.nil|apply dO.cons|exact dO.self|exact dO.app))
 (hs:∀y v,pr y->ret y=.ok v->Same P re (ev ((d,v)::l)) ((d,v)::l) B w0 (eX y) (F2 y):=by intro _ _ _ _;repeat (first|exact Cy|refine Em rfl dU tb rfl ?_|refine Ga rfl iN tb rfl ?_|refine Ji rfl iN tb rfl ?_|refine Jj rfl dU tb rfl ?_|refine Jk rfl iN tb rfl ?_|refine Jl rfl iN tb rfl ?_)):
 R (λh=>aM P ds (⟨⟨some d,g,.call f xs⟩,re⟩::rest) (act n l D pm ro) h K) B w0 kl F:=
 aiv hc hn hg hf hx ha hk hF (λy v a b=>by rw[(hk2 y).eq,(hF2 y).eq];exact hs y v a b) (λy v a b=>by rw[(hk2 y).eq,(hF2 y).eq];exact next y v a b) (λy v a b=>by rw[(hk2 y).eq,(hF2 y).eq];exact Jt y v a b)
variable{v:ah}
def Er{x:ay}{t:aD}{dst:ak Tmp}{re:ae jc}
 (next:R (λh=>K (.panic [{v:=.iface t v,recovered:=false}]) (act n (Eh ds n l) D pm ro) h) B w0 kl F)
 (hx:ev l x=.iface t v:=by rfl) (hg:bO l g=true:=by rfl):R (λh=>aM P ds (⟨⟨dst,g,.panic x⟩,re⟩::rest) (act n l D pm ro) h K) B w0 kl F:=λw s=>ag6 hg hx (next w s)
def Ru{f:ay}{args:ae ay}
 (next:R (λh=>aM P ds rest (act n l ({target:=.fn fn ⟨captured⟩,args:=⟨first++vs⟩}::D) pm none) h K) B w0 kl F)
 (hf:ev l f=.func fn ⟨first⟩ ⟨captured⟩:=by rfl) (hx:EvL (ev l) args vs:=by repeat (first|with_reducible exact EvL.nil|((with_reducible apply EvL.cons);(conv=>lhs;whnf)))) (hg:bO l g=true:=by rfl):
 R (λh=>aM P ds (⟨⟨none,g,.dcall f args⟩,[]⟩::rest) (act n l D pm none) h K) B w0 kl F:=λw s=>by
 refine ag7 hg rfl hf ?_;rw[hx.map];exact next w s
variable{m:FrameMode}
def MX{m':FrameMode}(he:kV m=(v,m'))
 (next:R (λh=>aM P ds rest (act n ((d,v)::l) D (some m') none) h K) B w0 kl F) (hn:Nat.blt d n=true:=by rfl) (hg:bO l g=true:=by rfl):
 R (λh=>aM P ds (⟨⟨some d,g,.recover⟩,[]⟩::rest) (act n l D (some m) none) h K) B w0 kl F:=λw s=>by
 refine ag8 hn hg rfl ?_;rw[he];exact next w s
def RL(P:Program)(cf:iG)(l:qr)(D:ae Deferred)(m:FrameMode)(Kr:jB->IH->Prop)(B:ae Nat)(w0:Wd)(kl:ae OA)(F:ae aI):Prop:=∀w,St B w0 kl F w->LEAVE P cf (iD l) D m w.h Kr
def Es{cf:iG}{Kr:KR}{o:Out}(h:RL P cf l D m (λr h=>Kr r pm h) B w0 kl F)(hm:wJ o=some m:=by rfl):R (λh=>sU P cf Kr o (act n l D pm ro) h) B w0 kl F:=λw s=>by
 show(match wJ o with
  |none=>False
  |some m=>LEAVE P cf (iD l) D m w.h λr h''=>Kr r pm h'')
 rw[hm];exact h w s
variable {cf:iG} {Kr:jB->IH->Prop}
def aiw(hk:∀w,St B w0 kl F w->Kr (.ok (rQ vs)) w.h)(hr:RS l kl cf.results vs:=by exact AX):RL P cf l [] .returning Kr B w0 kl F:=λw s=>by
 refine .ret (rQ vs) ?_ (hk w s);unfold uo;rw[hr.all s];exact oa
def MZ{args:ae ah}{ret:Y->jB}{md:Y->FrameMode}{k1':Y->ae OA}{fs:Y->ae aI}{pr:Y->Prop}{eX:Y->ae OA}{F2:Y->ae aI}
 (hc:Gg P fn args captured m k1 F1 ret md k1' fs pr)
 (next:∀y v,pr y->ret y=.ok v->RL P cf l D (Cc (md y)) Kr B w0 (eX y) (F2 y))
 (Jt:∀y ch,pr y->ret y=.gI ch->RL P cf l D (Fv (md y) ch) Kr B w0 (eX y) (F2 y))
 (hk:aF k1 kl bz:=by exact mW) (hF:Sub F1 F:=by exact mo) (hk2:∀y,dO (k1' y) bz (eX y):=by intro y;repeat (first|exact dO.nil|apply dO.cons|exact dO.self|exact dO.app)) (hF2:∀y,dO (fs y) F (F2 y):=by intro y;repeat (first|exact dO.nil|apply dO.cons|exact dO.self|exact dO.app)) (hm:m≠.run:=by intro e;cases e):
 RL P cf l ({target:=.fn fn ⟨captured⟩,args:=⟨args⟩}::D) m Kr B w0 kl F:=λw s=>by
 obtain⟨S1,s1,back⟩:=s.qU hk hF;refine .call hm _ (hc S1 w s1) ?_ ?_ ?_
 .rintro r p h' ⟨w',y,e,_⟩ hp;rw[e]at hp;cases hp
 .rintro v m' h' ⟨w',y,e,rfl,c,hv,hpr⟩;injection e with e;subst e;have:=next y v hpr hv.symm w' Ds
  exact this
 .rintro ch m' h' ⟨w',y,e,rfl,c,hv,hpr⟩;injection e with e;subst e;exact Jt y ch hpr hv.symm w' Ds
variable{eX:ae OA}
def CB{o:Out}{ret:Y->jB}{k1:Y->ae OA}{fs:Y->ae aI}{pr:Y->Prop}(y:Y)(hv:ret y=.ok (rQ vs))(hp:pr y)(hD:lU kl D eX:=by repeat (first|exact lU.nil|(apply lU.cons;(focus (repeat (first|with_reducible exact aB.here|with_reducible apply aB.there|with_reducible apply aB.app))))))
 (hr:RS l eX cf.results vs:=by exact AX) (hk:aF (k1 y) eX bz:=by exact mW) (hF:Sub (fs y) F:=by exact mo) (ho:o=.normal\/o=.ret:=by first|exact .inl rfl|exact .inr rfl):
 R (λh=>sU P cf (A9 B w0 ret k1 fs pr) o (act n l D none ro) h) B w0 kl F:=by
 refine Es (m:=.returning) ?_ DA;intro w s;refine lU.leave hD (λw' s'=>⟨rQ vs,?_,rfl,w',y,rfl,((s'.lF hk).drop).sub hF,hv.symm,hp⟩) w s;unfold uo;rw[hr.all s'];match vs with
 |[]=>rfl
 |[v]=>rfl
 |_::_::_=>rfl
def lU.YD{ts:T ah}{ch:ae PanicEntry}:∀{D:ae Deferred} {kl eX:ae OA},lU kl D eX->(∀w',St B w0 eX F w'->Kr (.gI ch) w'.h)->∀w,St B w0 kl F w->LEAVE P cf ts D (.panicking ch) w.h Kr
 |_,_,_,.nil,hk,w,s=>.gI ch (hk w s)
 |_,_,_,.cons (r:=r) h t,hk,w,s=>by
  have s1:=s.fI h;refine .coll wA r s1.get.1 ?_;exact lU.YD t hk _ (s1.write (o':=.jo false)).tail
def CF{ch:ae PanicEntry}{ret:Y->jB}{k1:Y->ae OA}{fs:Y->ae aI}{pr:Y->Prop}(y:Y)(hv:ret y=.gI ch)(hp:pr y)(hD:lU kl D eX:=by repeat (first|exact lU.nil|(apply lU.cons;(focus (repeat (first|with_reducible exact aB.here|with_reducible apply aB.there|with_reducible apply aB.app))))))
 (hk:aF (k1 y) eX bz:=by exact mW) (hF:Sub (fs y) F:=by exact mo):
 R (λh=>sU P cf (A9 B w0 ret k1 fs pr) (.panic ch) (act n l D none ro) h) B w0 kl F:=by
 refine Es (m:=.panicking ch) ?_;intro w s;exact lU.YD hD (λw' s'=>⟨rfl,w',y,rfl,((s'.lF hk).drop).sub hF,hv.symm,hp⟩) w s
def M0{o:Out}{ret:Y->jB}{md:Y->FrameMode}{k1:Y->ae OA}{fs:Y->ae aI}{pr:Y->Prop}(y:Y)(hv:ret y=.ok (rQ vs))(hm:md y=m)(hp:pr y)(hD:lU kl D eX:=by repeat (first|exact lU.nil|(apply lU.cons;(focus (repeat (first|with_reducible exact aB.here|with_reducible apply aB.there|with_reducible apply aB.app))))))
 (hr:RS l eX cf.results vs:=by exact AX) (hk:aF (k1 y) eX bz:=by exact mW) (hF:Sub (fs y) F:=by exact mo) (ho:o=.normal\/o=.ret:=by first|exact .inl rfl|exact .inr rfl):
 R (λh=>sU P cf (Rt B w0 ret md k1 fs pr) o (act n l D (some m) ro) h) B w0 kl F:=by
 refine Es (m:=.returning) ?_ DA;intro w s;refine lU.leave hD (λw' s'=>⟨rQ vs,?_,w',y,by rw[hm],rfl,((s'.lF hk).drop).sub hF,hv.symm,hp⟩) w s;unfold uo;rw[hr.all s'];match vs with
 |[]=>rfl
 |[v]=>rfl
 |_::_::_=>rfl
def M3{ret:Y->jB}{k1:Y->ae OA}{fs:Y->ae aI}{pr:Y->Prop}(y:Y)(hv:ret y=.ok (rQ vs))(hp:pr y)(hr:RS l kl cf.results vs:=by exact AX)(hk:aF (k1 y) kl bz:=by exact mW)(hF:Sub (fs y) F:=by exact mo):
 RL P cf l [] .returning (λr h=>A9 B w0 ret k1 fs pr r none h) B w0 kl F:=
 aiw (λw s=>⟨rfl,w,y,rfl,((s.lF hk).drop).sub hF,hv.symm,hp⟩) hr
end
end Go.Ideal
namespace Go.Ideal
variable {P:Program}
variable{α:Type}
def YE{β:Type}(f:α->β)(hf:∀a b,f a=f b->a=b){l1 l2:ae α}(h:(l1.map f).Perm (l2.map f)):l1.Perm l2:=by
 classical
 rw[List.perm_iff_count];intro a;have:=h.count_eq (f a);have key:∀l:ae α,(l.map f).count (f a)=l.count a:=by
  intro l;induction l with
  |nil=>rfl
  |cons x l ih=>
   rw[fA,List.count_cons,List.count_cons,ih];by_cases e:x=a
   .subst e;simp
   .have:¬f x=f a:=λh=>e (hf _ _ h);simp[e,this]
 rw[key,key]at this;exact this
def YF{α β:Type}{f:α->β}:∀{l:ae α},(l.map f).Nodup->∀{a b:α},a∈l->b∈l->f a=f b->a=b
 |[],_,a,b,ha,_,_=>by cases ha
 |x::l,h,a,b,ha,hb,e=>by
  rw[fA,Ac]at h;obtain⟨hx,hl⟩:=h;rcases bH.1 ha with h1|ha<;>rcases bH.1 hb with h2|hb
  .rw[h1,h2]
  .rw[<- h1,e]at hx;exact absurd (Fg hb) hx
  .rw[<- h2,<- e]at hx;exact absurd (Fg ha) hx
  .exact YF hl ha hb e
def rU{α:Type}[DecidableEq α](a:α):ae (α×ah)->Nat->ak (Nat×ah)
 |[],_=>none
 |(b,v)::l,i=>if a=b then some (i,v)else rU a l (i+1)
def dF{α β:Type}[DecidableEq α](a:α):ae (α×β)->ak β
 |[]=>none
 |(b,v)::l=>if a=b then some v else dF a l
def upd{α β:Type}[DecidableEq α](a:α)(v:β):ae (α×β)->ae (α×β)
 |[]=>[(a,v)]
 |(b,u)::l=>if a=b then(a,v)::l else(b,u)::upd a v l
def rV{α:Type}(bB:α->ah)(aA:ae (α×ah))(es:ae MapEntry):Prop:=es.map (λe=>(e.key,e.val))=aA.map λp=>(bB p.1,p.2)
structure rW(P:Program)(kt:TypeId){α:Type}[DecidableEq α](bB:α->Value):Prop where
 Et:∀a,uh P kt (bB a)=true
 find:∀a aA es,rV bB aA es->wG P kt (bB a) es=some (rU a aA 0)
 same:∀a,Instr.sameBits 10000 (bB a) (bB a)=true
variable{kt:aD}
def Rv{v:ah}(ha:dG v=true)(h:∀b,dK P (Instr.checkKey b 10000 kt v)=some ()):uh P kt v=true:=by
 unfold uh;rw[ha,h true,h false];rfl
def Rw{bB:α->ah}{p:α×ah}{aA:ae (α×ah)}{es:ae MapEntry}(h:rV bB (p::aA) es):∃e es',es=e::es'/\e.key=bB p.1/\e.val=p.2/\rV bB aA es':=by
 cases es with
 |nil=>cases h
 |cons e es=>
  unfold rV at h;rw[fA,fA]at h;injection h with h1 h2;injection h1 with h1 h3;exact⟨e,es,rfl,h1,h3,h2⟩
def YG{α:Type}[DecidableEq α]{bB:α->ah}{d:TypeDesc}(hs:∀a b,Instr.sameNow d (bB a) (bB b)=some (decide (a=b)))(a:α):∀(aA:ae (α×ah)) (es:ae MapEntry) (i:Nat),rV bB aA es->Instr.findNow d (bB a) es i=some (rU a aA i)
 |[],es,i,h=>by
  exact oy
 |p::aA,es,i,h=>by
  obtain⟨e,es',rfl,h1,h2,h3⟩:=Rw h;have ih:=YG hs a aA es' (i+1) h3;show(match Instr.sameNow d (bB a) e.key with
   |some true=>some (some (i,e.val))
   |some false=>Instr.findNow d (bB a) es' (i+1)
   |none=>none)=_
  rw[h1,hs a p.1];unfold rU;by_cases hab:a=p.1
  .rw[eT hab,if_pos hab,h2]
  .rw[bY hab,if_neg hab];exact ih
def YH[DecidableEq α]{bB:α->ah}{kt:aD}{d:TypeDesc}(hu:P.underlying kt=some d)(hs:∀a b,Instr.sameNow d (bB a) (bB b)=some (decide (a=b)))(a:α)(aA:ae (α×ah))(es:ae MapEntry)(h:rV bB aA es):wG P kt (bB a) es=some (rU a aA 0):=by
 unfold wG Instr.findKey;rw[fP,qy hu];simp only[iL,YG hs a aA es 0 h];rfl
def aix(hu:P.underlying kt=some (.int .i64)):rW P kt (λn:Int=>.int .i64 n) where
 Et a:=Rv rfl λb=>by
  exact nB
 find a aA es h:=YH hu (λa b=>by
  show(if IntKind.i64=IntKind.i64 then some (a==b)else none)=_;rw[if_pos rfl];congr 1) a aA es h
 same a:=by
  show(IntKind.i64==IntKind.i64&&a==a)=true;simp
def bytes_beq(a b:ByteArray):(a==b)=decide (a=b):=by
 have:(a==b)=(a.data==b.data):=rfl;rw[this];by_cases h:a=b
 .subst h;simp
 .rw[bY h];cases hb:a.data==b.data with
  |false=>rfl
  |true=>exact absurd (ByteArray.ext (eq_of_beq hb)) h
def aiy(hu:P.underlying kt=some .string):rW P kt (λs:ByteArray=>.string s) where
 Et a:=Rv rfl λb=>by
  exact nB
 find a aA es h:=YH hu (λa b=>by
  show some (a==b)=_;rw[bytes_beq]) a aA es h
 same a:=by
  show(a==a)=true;rw[bytes_beq];simp
def YI{α:Type}[DecidableEq α](a:α):∀(aA:ae (α×ah)) (i:Nat),(rU a aA i).map (·.2)=dF a aA
 |[],_=>rfl
 |(b,v)::l,i=>by
  unfold rU dF;by_cases h:a=b
  .rw[if_pos h,if_pos h];rfl
  .rw[if_neg h,if_neg h];exact YI a l (i+1)
def YJ[DecidableEq α]{bB:α->ah}{kt:aD}(hk:rW P kt bB){h:IH}{m zero:ah}{ok:Bool}{a:α}{aA:ae (α×ah)}{es:ae MapEntry}(he:entriesOf m h=some es)(ho:rV bB aA es):
 DR P kt zero m (bB a) ok h=some (match dF a aA with
  |some v=>cond ok (.tuple #[v,.bool true]) v
  |none=>cond ok (.tuple #[zero,.bool false]) zero):=by
 unfold DR;simp only[he,hk.Et,cond_true,hk.find a aA es ho];have:=YI a aA 0;cases hf:rU a aA 0 with
 |none=>rw[hf]at this;rw[<- this];rfl
 |some p=>rw[hf]at this;rw[<- this];rfl
def YK{α:Type}[DecidableEq α](a:α):∀(aA:ae (α×ah)) (i j:Nat) (v:ah),rU a aA i=some (j,v)->∃k,j=i+k/\aA[k]? =some (a,v)/\∀u,upd a u aA=aA.set k (a,u)
 |[],i,j,v,h=>by cases h
 |(b,w)::l,i,j,v,h=>by
  unfold rU at h;split at h
  .rename_i hab;subst hab;cases h;exact⟨0,rfl,rfl,λu=>by simp[upd]⟩
  .rename_i hab;obtain⟨k,h1,h2,h3⟩:=YK a l (i+1) j v h;exact⟨k+1,s6,by simpa using h2,λu=>by simp[upd,if_neg hab,h3]⟩
def YL{α:Type}[DecidableEq α](a:α):∀(aA:ae (α×ah)) (i:Nat),rU a aA i=none->(∀p∈aA,a≠p.1)/\∀u,upd a u aA=aA++[(a,u)]
 |[],i,h=>⟨λp hp=>(by cases hp),λu=>rfl⟩
 |(b,w)::l,i,h=>by
  unfold rU at h;split at h
  .cases h
  .rename_i hab;obtain⟨h1,h2⟩:=YL a l (i+1) h;refine⟨λp hp=>?_,λu=>by simp[upd,if_neg hab,h2]⟩;rcases bH.1 hp with rfl|hp
   .exact hab
   .exact h1 p hp
structure Eu{α:Type}(bB:α->Value)(aA:List (α×Value))(es:List MapEntry)(clock:Nat):Prop where
 wU:rV bB aA es
 lt:∀e∈es,e.born<clock
 nd:(es.map (·.born)).Nodup
 keys:(aA.map (·.1)).Nodup
def aiz[DecidableEq α]{bB:α->ah}{kt:aD}(hk:rW P kt bB){h:IH}{b:Nat}{a:α}{v:ah}{aA:ae (α×ah)}{es:ae MapEntry}{clock:Nat}(hg:h.get b=some (.map es clock))(ho:Eu bB aA es clock):
 ∃es' clock',H8 P kt (.map (some b)) (bB a) v h=some (h.set b (.map es' clock'))/\Eu bB (upd a v aA) es' clock':=by
 unfold H8;simp only[hg,hk.Et,cond_true,hk.find a aA es ho.wU];cases hf:rU a aA 0 with
 |none=>
  obtain⟨h1,h2⟩:=YL a aA 0 hf;refine⟨_,_,rfl,?_⟩;rw[h2,jW];refine⟨?_,λe he=>?_,?_,?_⟩
  .unfold rV;rw[cB,cB,ho.wU];rfl
  .rcases fq.1 he with he|he
   .exact Po (ho.lt e he)
   .rw[bA.1 he];exact zY _
  .rw[cB,jA];refine⟨ho.nd,s7,λx hx y hy e=>?_⟩;obtain⟨e0,he0,rfl⟩:=bS.1 hx;have:y=clock:=by simpa using hy
   have:=ho.lt e0 he0;omega
  .rw[cB,jA];refine⟨ho.keys,s7,λx hx y hy e=>?_⟩;obtain⟨p,hp,rfl⟩:=bS.1 hx;have:y=a:=by simpa using hy
   exact h1 p hp (by rw[e,this])
 |some p=>
  obtain⟨j,u⟩:=p;obtain⟨k,rfl,h2,h3⟩:=YK a aA 0 j u hf;rw[eB];have hlen:es.length=aA.length:=by
   have:=congrArg List.length ho.wU;simpa using this
  have hk':=(aV.1 h2).1;have Rx:es[k]? =some es[k]:=bG s6;have hkey:es[k].key=bB a:=by
   have:=congrArg (λl=>l[k]?) ho.wU;simp only[bU,Rx,h2,lq]at this;injection this with this;injection this
  simp only[uw,Rx,hkey,hk.same,cond_true];refine⟨_,_,rfl,?_⟩;rw[h3,Ww];refine⟨?_,λe he=>?_,?_,?_⟩
  .unfold rV;apply iH;intro i;have:=congrArg (λl=>l[i]?) ho.wU;simp only[bU]at this;simp only[bU,List.getElem?_modify,nY];by_cases hi:k=i
   .subst hi;simp[Rx,hk']
   .rw[if_neg hi];cases he:es[i]? with
    |none=>rw[he]at this;simp only[Option.map_none]at this⊢;simp[hi,<- this]
    |some e=>rw[he]at this;simp only[lq]at this⊢;simp[hi,<- this]
  .obtain⟨i,he⟩:=yY.1 he;rw[List.getElem?_modify]at he;cases Ry:es[i]? with
   |none=>rw[Ry]at he;simp at he
   |some e0=>
    rw[Ry]at he;have hlt:=ho.lt e0 (aT Ry);injection he with he;rw[<- he];split<;>exact hlt
  .have:(es.modify k λe=>{e with key:=bB a,val:=v}).map (·.born)=es.map (·.born):=by
    apply iH;intro i;simp only[bU,List.getElem?_modify];cases es[i]? with
    |none=>rfl
    |some e=>simp only[lq];split<;>rfl
   rw[this];exact ho.nd
  .have:(aA.set k (a,v)).map (·.1)=aA.map (·.1):=by
    apply iH;intro i;simp only[bU,nY];by_cases hi:k=i
    .subst hi;rw[if_pos rfl,if_pos hk',h2];rfl
    .rw[if_neg hi]
   rw[this];exact ho.keys
def fV{α:Type}(bB:α->ah)(b:Nat)(aA:ae (α×ah)):OA:=⟨λw S=>S=[b]/\∃es clock,w.h.get b=some (.map es clock)/\Eu bB aA es clock,λa h ⟨h1,es,clock,h2,h3⟩=>⟨h1,es,clock,by rw[h b tn];exact h2,h3⟩⟩
def Ba{α:Type}(bB:α->ah)(b:Nat)(aA:ae (α×ah)):aI:=⟨λw=>w.z b/\∃es clock,w.h.get b=some (.map es clock)/\Eu bB aA es clock,λa ⟨h1,es,clock,h2,h3⟩=>⟨a.z b h1,es,clock,by rw[a.get b h1];exact h2,h3⟩⟩
def Ew{bB:α->ah}{b:Nat}{aA:ae (α×ah)}:oK (fV bB b aA) [Ba bB b aA]:=by
 intro w w' S ⟨h1,es,clock,h2,h3⟩ hle hh hz f hf;rw[bA.1 hf];exact⟨hz b tn,es,clock,by rw[hh];exact h2,h3⟩
section
variable {B:ae Nat} {w0:Wd} {kl kl' bz:ae OA} {F:ae aI} {K:KO} {ds:ae Tmp} {rest:ae bN} {n:Nat} {l:qr} {D:ae Deferred} {pm:ak FrameMode} {ro:ak Nat} {d:Nat} {g:ak (Tmp×Bool)}
variable {α:Type} [DecidableEq α] {bB:α->ah}
variable{aA:ae (α×ah)}{b:Nat}
def St.YM{w:Wd}(h:St B w0 (fV bB b aA::kl) F w):∃es clock,Eu bB aA es clock/\St B w0 (pt b (.map es clock)::kl) F w:=by
 obtain⟨S,⟨S1,S2,⟨q1,es,clock,q3,q4⟩,q2,e⟩,h2,h3⟩:=h.own;exact⟨es,clock,q4,h.agree,h.le,h.fH,⟨S,⟨S1,S2,⟨q1,q3⟩,q2,e⟩,h2,h3⟩,h.facts⟩
def yD(bB:α->ah)
 (next:∀b,R (λh=>aM P ds rest (act n ((d,.map (some b))::l) D pm ro) h K) B w0 (fV bB b []::kl) F) (hn:Nat.blt d n=true:=by rfl) (hg:bO l g=true:=by rfl):
 R (λh=>aM P ds (⟨⟨some d,g,.za⟩,[]⟩::rest) (act n l D pm ro) h K) B w0 kl F:=λw s=>
 mV hn hg (h':=w.h.new (.map [] 0)) C7 (next w.h.next (w.new _) ((s.new _).Cv (A:=pt w.h.next (.map [] 0)) (A':=fV bB w.h.next []) λw S hp=>⟨hp.1,[],0,hp.2,⟨rfl,λe he=>(by cases he),Ae,Ae⟩⟩))
def jJ{α:Type}[DecidableEq α](ok:Bool)(zero:ah)(a:α)(aA:ae (α×ah)):ah:=match dF a aA with
 |some v=>cond ok (.tuple #[v,.bool true]) v
 |none=>cond ok (.tuple #[zero,.bool false]) zero
variable{m k:ay}{kt:aD}{zero:ah}{ok:Bool}
def Rz(hk:rW P kt bB)(a:α)
 (next:R (λh=>aM P ds rest (act n ((d,jJ ok zero a aA)::l) D pm ro) h K) B w0 kl F)
 (hm:ev l m=.map (some b):=by rfl) (ha:ev l k=bB a:=by conv=>lhs;whnf) (hf:Ba bB b aA∈F:=by exact iN) (hn:Nat.blt d n=true:=by rfl) (hg:bO l g=true:=by rfl):
 R (λh=>aM P ds (⟨⟨some d,g,.lookup kt zero m k ok⟩,[]⟩::rest) (act n l D pm ro) h K) B w0 kl F:=λw s=>by
 obtain⟨_,es,clock,h1,h2⟩:=s.facts _ hf;refine mV hn hg (v:=jJ ok zero a aA) ?_ (next w s);have:DR P kt zero (.map (some b)) (bB a) ok w.h=_:=YJ hk (by simp only[entriesOf,h1]) h2.wU;simp only[aK.run,hm,ha,this];rfl
def Ex(hk:rW P kt bB)(a:α)
 (next:R (λh=>aM P ds rest (act n ((d,jJ ok zero a aA)::l) D pm ro) h K) B w0 kl F)
 (hm:ev l m=.map (some b):=by rfl) (ha:ev l k=bB a:=by conv=>lhs;whnf) (hs:aB (fV bB b aA) kl kl':=by exact dU) (hn:Nat.blt d n=true:=by rfl) (hg:bO l g=true:=by rfl):
 R (λh=>aM P ds (⟨⟨some d,g,.lookup kt zero m k ok⟩,[]⟩::rest) (act n l D pm ro) h K) B w0 kl F:=λw s=>by
 obtain⟨es,clock,h2,s1⟩:=(s.fI hs).YM;refine mV hn hg (v:=jJ ok zero a aA) ?_ (next w s);have:DR P kt zero (.map (some b)) (bB a) ok w.h=_:=YJ hk (by simp only[entriesOf,s1.get.1]) h2.wU;simp only[aK.run,hm,ha,this];rfl
variable{x:ay}
def vJ{v:ah}(hk:rW P kt bB)(a:α)
 (next:R (λh=>aM P ds rest (act n l D pm ro) h K) B w0 (fV bB b (upd a v aA)::kl') F)
 (hm:ev l m=.map (some b):=by rfl) (ha:ev l k=bB a:=by conv=>lhs;whnf) (hv:ev l x=v:=by conv=>lhs;whnf) (hs:aB (fV bB b aA) kl kl':=by exact dU) (hg:bO l g=true:=by rfl):
 R (λh=>aM P ds (⟨⟨none,g,.KZ kt m k x⟩,[]⟩::rest) (act n l D pm ro) h K) B w0 kl F:=λw s=>by
 obtain⟨es,clock,h2,s1⟩:=(s.fI hs).YM;obtain⟨es',clock',e1,e2⟩:=aiz (v:=v) hk (a:=a) s1.get.1 h2;refine LH hg (v:=dX) (h':=w.h.set b (.map es' clock')) ?_ (next _ ((s1.write (o':=.map es' clock')).Cv (A:=pt b (.map es' clock')) (A':=fV bB b (upd a v aA)) λw S hp=>⟨hp.1,es',clock',hp.2,e2⟩));simp only[aK.run,hm,ha,hv,e1]
variable{es:ae MapEntry}
def YN{clock:Nat}(h:Eu bB aA es clock):es.length=aA.length:=by
 have:=congrArg List.length h.wU;simpa using this
def Gh{α:Type}(bB:α->ah)(r b:Nat)(aA di:ae (α×ah)):OA:=⟨λw S=>S=[r]/\∃es clock seen last,w.h.get b=some (.map es clock)/\w.z b/\Eu bB aA es clock/\w.h.get r=some (.mapIter (some b) clock seen last)/\last=clock/\
 (∃ve rem:ae MapEntry,rV bB di ve/\ve.map (·.born)=seen/\(ve++rem).Perm es),
 λa h ⟨h1,es,clock,seen,last,h2,h3,h4,h5,h6,h7⟩=>⟨h1,es,clock,seen,last,by rw[a.get b h3];exact h2,a.z b h3,h4,by rw[h r tn];exact h5,h6,h7⟩⟩
def aiA
 (next:∀r,R (λh=>aM P ds rest (act n ((d,.pointer (some ⟨r,0,none⟩))::l) D pm ro) h K) B w0 (Gh bB r b aA []::kl) F)
 (hm:ev l m=.map (some b):=by rfl) (hf:Ba bB b aA∈F:=by exact iN) (hn:Nat.blt d n=true:=by rfl) (hg:bO l g=true:=by rfl):
 R (λh=>aM P ds (⟨⟨some d,g,.rangeMap m⟩,[]⟩::rest) (act n l D pm ro) h K) B w0 kl F:=λw s=>by
 obtain⟨hz,es,clock,h1,h2⟩:=s.facts _ hf;refine mV hn hg (h':=w.h.new (.mapIter (some b) clock [] clock)) (by simp only[aK.run,hm,h1]) (next w.h.next (w.new _) ?_);have s1:=s.new (.mapIter (some b) clock [] clock);obtain⟨hz',es',clock',h1',h2'⟩:=s1.facts _ hf;refine s1.zo λS hp=>⟨hp.1,es',clock',[],clock,h1',hz',h2',?_,?_,[],es',rfl,rfl,.refl _⟩
 .have:clock'=clock:=by
   have e:(w.new (.mapIter (some b) clock [] clock)).h.get b=w.h.get b:=by
    exact pn
   rw[e,h1]at h1';injection h1' with h1';injection h1' with _ h1';exact h1'.symm
  rw[this];exact hp.2
 .have e:(w.new (.mapIter (some b) clock [] clock)).h.get b=w.h.get b:=by
   exact pn
  rw[e,h1]at h1';injection h1' with h1';injection h1' with _ h1'
def aiB{ve rem:ae MapEntry}(hp:(ve++rem).Perm es)(hn:(es.map (·.born)).Nodup):(es.filter λe=>!(ve.map (·.born)).contains e.born).Perm rem:=by
 have hp2:((ve++rem).filter λe=>!(ve.map (·.born)).contains e.born).Perm (es.filter λe=>!(ve.map (·.born)).contains e.born):=hp.filter _;rw[Fh]at hp2;have h1:ve.filter (λe=>!(ve.map (·.born)).contains e.born)=[]:=by
  rw[List.filter_eq_nil_iff];intro e he;simp only[DC,Bool.not_eq_false',List.contains_eq_mem,z8];simp;exact⟨e,he,rfl⟩
 have hnd:((ve++rem).map (·.born)).Nodup:=(hp.map _).nodup_iff.2 hn;rw[cB,jA]at hnd;have h2:rem.filter (λe=>!(ve.map (·.born)).contains e.born)=rem:=by
  rw[VN];intro e he;simp only[DC,List.contains_eq_mem,decide_eq_false_iff_not];intro hm;exact hnd.2.2 _ hm _ (Fg he) rfl
 rw[h1,h2,cK]at hp2;exact hp2.symm
variable{di:ae (α×ah)}{r:Nat}
def aiC
 (more:∀p rem,(di++p::rem).Perm aA->R (λh=>aM P ds rest (act n ((d,.tuple #[.bool true,bB p.1,p.2])::l) D pm ro) h K) B w0 (Gh bB r b aA (di++[p])::kl') F)
 (done:di.Perm aA->R (λh=>aM P ds rest (act n ((d,.tuple #[.bool false])::l) D pm ro) h K) B w0 (Gh bB r b aA di::kl') F)
 (inj:∀a c,bB a=bB c->a=c)
 (hx:ev l x=.pointer (some ⟨r,0,none⟩):=by rfl) (hs:aB (Gh bB r b aA di) kl kl':=by exact dU) (hn:Nat.blt d n=true:=by rfl) (hg:bO l g=true:=by rfl):
 R (λh=>aM P ds (⟨⟨some d,g,.Ak x⟩,[]⟩::rest) (act n l D pm ro) h K) B w0 kl F:=λw s0=>by
 have s:=s0.fI hs;obtain⟨S,⟨S1,S2,⟨q1,es,clock,seen,last,h1,hz,h2,h3,h4,ve,rem,h5,h6,h7⟩,q2,eS⟩,hnd,hown⟩:=s.own;subst h4 h6;have hpl:=aiB h7 h2.nd;have hold:((es.filter λe=>!(ve.map (·.born)).contains e.born).filter λe=>Nat.blt e.born last)=es.filter λe=>!(ve.map (·.born)).contains e.born:=by
  rw[VN];intro e he;have:=h2.lt e (ug.1 he).1;rw[wy];exact this
 have hnew:((es.filter λe=>!(ve.map (·.born)).contains e.born).filter λe=>Nat.ble last e.born)=[]:=by
  rw[List.filter_eq_nil_iff];intro e he;have:=h2.lt e (ug.1 he).1;rw[uY];omega
 have hcl:(!(ve.map (·.born)).isEmpty&&!es.isEmpty&&es.all (λe=>Nat.ble last e.born))=false:=by
  cases es with
  |nil=>simp
  |cons e es=>
   have:=h2.lt e (dD ..);have:Nat.ble last e.born=false:=by
    cases hb:Nat.ble last e.born with
    |false=>rfl
    |true=>rw[uY]at hb;omega
   simp[this]
 have aiD:DX (ev l x) w.h=some ((if(es.filter λe=>!(ve.map (·.born)).contains e.born).isEmpty then[(.tuple #[.bool false],w.h)]else[])++
  (es.filter λe=>!(ve.map (·.born)).contains e.born).map λe=>(.tuple #[.bool true,e.key,e.val],w.h.set r (.mapIter (some b) last (ve.map (·.born)++[e.born]) last))):=by
  rw[hx];unfold DX;simp only[h3,h1];rw[hcl];simp only[cond_false,hold,hnew,gW]
 have as9:∀(ata:ae MapEntry) (atb:ae (α×ah)),True:=λ_ _=>trivial;refine .next (zn hg) x rfl rfl _ (by rw[pY];exact aiD) ?_
 intro vh hm;rcases fq.1 hm with hm|hm
 .split at hm
  .rename_i hemp;rw[bA.1 hm,sO hn];have aiE:rem=[]:=by
    have:(es.filter λe=>!(ve.map (·.born)).contains e.born)=[]:=by simpa using hemp
    rw[this]at hpl;exact List.nil_perm.1 hpl|>λh=>h
   refine done ?_ w s;subst aiE;rw[gW]at h7;have hm1:=h7.map (λe=>(e.key,e.val));rw[h5,h2.wU]at hm1;exact YE (λp:α×ah=>(bB p.1,p.2)) (λp q hpq=>by
    exact rj) hm1
  .cases hm
 .obtain⟨e,he,rfl⟩:=bS.1 hm;have hr:e∈rem:=hpl.mem_iff.1 he;obtain⟨r1,r2,aiF⟩:=List.append_of_mem hr;obtain⟨i,hi,hie⟩:∃i,i<aA.length/\es[i]? =some e:=by
   obtain⟨i,hi⟩:=yY.1 (ug.1 he).1;have:=(aV.1 hi).1;rw[YN h2]at this;exact⟨i,this,hi⟩
  have hpe:(e.key,e.val)=(bB aA[i].1,aA[i].2):=by
   have:=congrArg (λl=>l[i]?) h2.wU;simp only[bU,hie,bG hi,lq]at this;injection this
  injection hpe with hpk hpv;rw[sO hn,hpk,hpv];have hperm:(ve++[e]++(r1++r2)).Perm es:=by
   refine List.Perm.trans ?_ h7;rw[aiF,List.append_assoc];refine List.Perm.append_left _ ?_;exact(List.perm_middle (l₁:=r1) (l₂:=r2) (a:=e)).symm
  have Ju:rV bB (di++[aA[i]]) (ve++[e]):=by
   unfold rV;rw[cB,cB,h5];simp[hpk,hpv]
  obtain⟨RA,aiG⟩:∃RA:ae (α×ah),(di++aA[i]::RA).Perm aA:=by
   have hm1:=hperm.map (λe=>(e.key,e.val));rw[cB,Ju,h2.wU]at hm1;have hex:∀ls:ae MapEntry,(∀x∈ls,∃p:α×ah,(x.key,x.val)=(bB p.1,p.2))->∃ps:ae (α×ah),ls.map (λe=>(e.key,e.val))=ps.map λp=>(bB p.1,p.2):=by
    intro ls;induction ls with
    |nil=>intro _;exact⟨[],rfl⟩
    |cons x ls ih=>
     intro h;obtain⟨p,hp⟩:=h x (dD ..);obtain⟨ps,hps⟩:=ih λy hy=>h y (dB _ hy);exact⟨p::ps,by rw[fA,fA,hp,hps]⟩
   obtain⟨ps,hps⟩:=hex (r1++r2) (λy hy=>by
    have hy':y∈es:=hperm.mem_iff.1 (nD _ hy);obtain⟨j,hj⟩:=yY.1 hy';have hj':=(aV.1 hj).1;rw[YN h2]at hj';have:=congrArg (λl=>l[j]?) h2.wU;simp only[bU,hj,bG hj',lq]at this;injection this with this;exact⟨_,this⟩)
   rw[hps,<- cB]at hm1;refine⟨ps,?_⟩;have:=YE (λp:α×ah=>(bB p.1,p.2)) (λp q hpq=>by
    exact rj) hm1
   rwa [List.append_assoc]at this
  refine more aA[i] RA aiG ⟨w.h.set r (.mapIter (some b) last (ve.map (·.born)++[e.born]) last),w.z,λi hi=>w.nN i hi⟩ ?_;have s2:St B w0 (pt r (.mapIter (some b) last (ve.map (·.born)) last)::kl') F w:=⟨s.agree,s.le,s.fH,⟨S,⟨S1,S2,⟨q1,h3⟩,q2,eS⟩,hnd,hown⟩,s.facts⟩
  have s3:=s2.write (o':=.mapIter (some b) last (ve.map (·.born)++[e.born]) last);refine s3.zo λS' hp=>⟨hp.1,es,last,_,last,?_,hz,h2,hp.2,rfl,ve++[e],r1++r2,Ju,by rw[cB];rfl,hperm⟩
  have hrb:r≠b:=λer=>by
   have:=s2.own;obtain⟨S0,⟨T1,T2,⟨u1,_⟩,_,ue⟩,_,ho⟩:=this;exact(ho r (by rw[ue,u1];simp)).2.2 (er▸hz)
  show(w.h.set r _).get b=_;rw[IH.nJ,if_neg (λer=>hrb er.symm)];exact h1
def aiH{p:α×ah}
 (next:R (λh=>aM P ds rest (act n ((d,.tuple #[bB p.1,p.2])::l) D pm ro) h K) B w0 kl F)
 (hx:ev l x=.pointer (some ⟨r,0,none⟩):=by rfl) (hs:aB (Gh bB r b aA (di++[p])) kl kl':=by exact dU) (hn:Nat.blt d n=true:=by rfl) (hg:bO l g=true:=by rfl):
 R (λh=>aM P ds (⟨⟨some d,g,.entry x⟩,[]⟩::rest) (act n l D pm ro) h K) B w0 kl F:=λw s0=>by
 have s:=s0.fI hs;obtain⟨S,⟨S1,S2,⟨q1,es,clock,seen,last,h1,hz,h2,h3,h4,ve,rem,h5,h6,h7⟩,q2,e⟩,hnd,hown⟩:=s.own;subst h4 h6;obtain⟨YO,x0,Ju,hx0,hx1⟩:∃YO x0,ve=YO++[x0]/\x0.key=bB p.1/\x0.val=p.2:=by
  unfold rV at h5;rw[cB]at h5;obtain⟨a1,a2,e1,e2,e3⟩:=List.map_eq_append_iff.1 h5;obtain⟨x0,a3,e4,e5,e6⟩:=List.map_eq_cons_iff.1 e3;have:a3=[]:=by simpa using e6
  subst this;injection e5 with e5 e7;exact⟨a1,x0,by rw[e1,e4],e5,e7⟩
 have hfind:es.find? (λy=>Nat.beq y.born x0.born)=some x0:=by
  have hm:x0∈es:=h7.mem_iff.1 (jl _ (by rw[Ju];simp));cases hf:es.find? (λy=>Nat.beq y.born x0.born)with
  |none=>
   have:=List.find?_eq_none.1 hf x0 hm;simp[HV]at this
  |some y=>
   have hy:=List.find?_some hf;have hym:=List.mem_of_find?_eq_some hf;have hb:y.born=x0.born:=tZ hy;congr 1;exact YF h2.nd hym hm hb
 refine mV hn hg (v:=.tuple #[bB p.1,p.2]) ?_ (next w s0);simp only[aK.run,hx,h3,h1];rw[Ju];simp only[cB,fA,List.map_nil,List.getLast?_append,List.getLast?_singleton,Option.some_or,HV,cond_true,hfind,hx0,hx1]
end
end Go.Ideal
namespace Go.Ideal
open Go.Sort
variable {P:Program}
def WR.grow{β:aJ}{h:IH}{w:World}(hW:WR P β h w)(os:Array Obj):WR P β h (grow w os)/\Eff β h w β h (grow w os):=by
 have hold:∀b,b<w.heap.size->(Go.Sort.grow w os).heap[b]? =w.heap[b]?:=λb hb=>by
  show(w.heap++os)[b]? =_;rw[adO hb]
 refine⟨⟨hW.dom,hW.live,λi g o h1 h2=>?_,hW.inj⟩,⟨λ_ _=>rfl,aZ _,λ_ _ h=>h,λ_ _ _=>rfl,aZ _,λ_ _ _=>rfl,rfl,rfl,rfl,?_,λb hb _=>hold b hb,λi g hg hi=>absurd (hW.dom _ _ hg) s6,λi g _ _ _ _ hb=>hold _ hb,aZ _⟩⟩
 .have hO:=hW.obj i g o h1 h2;exact hO.congr (hold _ hO.lt)
 .show w.heap.size<=(w.heap++os).size;rw[Array.size_append];omega
def M4(o:Nat):ae ah->Array ah->Array ah
 |[],c=>c
 |v::vs,c=>M4 (o+1) vs (c.setIfInBounds o v)
def YP(b:Nat):∀(vs:ae ah) (o:Nat) (w:World),w.setCells b o vs=mapBlock w b (M4 o vs)
 |[],o,w=>(mapBlock_id w b _ λc e fr h=>rfl).symm
 |v::vs,o,w=>by
  show(w.setCell ⟨b,o,none⟩ v).setCells b (o+1) vs=_;rw[YP b vs (o+1),setCell_eq,mapBlock_mapBlock];rfl
def YQ:∀(vs:ae ah) (o:Nat) (c:Array ah) (k:Nat),(M4 o vs c)[k]? =if o<=k/\k<o+vs.length/\k<c.size then vs[k - o]? else c[k]?
 |[],o,c,k=>by
  rw[if_neg (by rw[wB];omega)];rfl
 |v::vs,o,c,k=>by
  show(M4 (o+1) vs (c.setIfInBounds o v))[k]? =_;rw[YQ vs (o+1),Array.size_setIfInBounds,nW];by_cases h1:o+1<=k/\k<o+1+vs.length/\k<c.size
  .rw[if_pos h1,if_pos ⟨s6,s6,h1.2.2⟩];rw[show k - o=(k - (o+1))+1 by omega,uf]
  .rw[if_neg h1,adN];by_cases h2:o=k
   .subst h2;rw[if_pos rfl];by_cases h3:o<c.size
    .rw[if_pos h3,if_pos ⟨aZ _,s6,h3⟩,nX];rfl
    .rw[if_neg h3,if_neg s6];exact(uX s6).symm
   .rw[if_neg h2,if_neg s6]
def setCells_putRow{α:Type}[Inhabited α](enc:α->ah)(w:World)(b o:Nat)(d:Array α):w.setCells b o (d.toList.map enc)=putRow enc w b o d:=by
 rw[YP];unfold putRow;refine mapBlock_congr w b _ _ λc e fr hc=>?_;apply Array.ext_getElem?;intro k;rw[YQ,putCells,Array.getElem?_mapIdx,aR,Array.length_toList];by_cases hk:k<c.size
 .by_cases h:o<=k/\k<o+d.size
  .rw[if_pos ⟨h.1,h.2,hk⟩,Pt hk,lq,if_pos h,bU,zZ,Pt s6];rw[lq,getElem!_pos d _ s6]
  .rw[if_neg (λq=>h ⟨q.1,q.2.1⟩),Pt hk,lq,if_neg h]
 .rw[if_neg s6,uX s6];rfl
def RB(P:Program)(f:fO):Prop:=∀(blk off cap:Nat) (zs:ae Int) (w:World),Holds (Value.int .i64) w blk off zs.toArray->blk<w.heap.size->zs.length<4611686018427387904->
 Calls P f #[.slice (some ⟨blk,off,none⟩) zs.length cap] w λe w'=>e=.returned (.tuple #[])/\∃n os,w'=Go.Sort.grow (putRow (Value.int .i64) (Sort.ahead w n) blk off (zs.mergeSort λx y=>decide (x<=y)).toArray) os
def bK(zs:ae Int):ae Int:=zs.mergeSort λx y=>decide (x<=y)
def Bb(zs:ae Int):(bK zs).length=zs.length:=List.length_mergeSort zs
variable{f:fO}
def aiI(hS:RB P f){fn:Func}(hfn:P.funcs[f]? =some fn){body:Code}(hb:fn.body=some body)(hname:fn.name≠ "runtime.NumGoroutine"){b o c:Nat}{fl:ak Nat}{zs:ae Int}{h h':IH}{cs:ae ah}
 (hg:h.get b=some (.cells cs)) (hz:∀(j:Nat) z,zs[j]? =some z->cs[o+j]? =some (.int .i64 z)) (hne:0<zs.length) (hlen:zs.length<4611686018427387904) (hs:h.storeAt b o ((bK zs).map (.int .i64))=some h'):
 nM P ⟨.func f,[.slice (some ⟨b,o,fl⟩) zs.length c],[],none⟩ h (λr pm h2=>pm=none/\r=.ok (.tuple ⟨[]⟩)/\h2=h'):=by
 intro β w fn' args' cap' hG hW hf ha hcap;obtain⟨kE,t1,t2⟩:=I5 (P:=P) (q:=⟨.func f,[.slice (some ⟨b,o,fl⟩) zs.length c],[],none⟩) (f:=f) (args:=[.slice (some ⟨b,o,fl⟩) zs.length c]) yb hf ha hcap hfn hb hname w;cases t2 with|cons hv tl=>
 cases tl;obtain⟨g,a,c',hi,rfl,hab,_,hn,hcc,hao,_⟩:=hv.oJ;have hao:a.off=g.off+o/\a.spot=none:=by
  rcases hao with e|e
  .omega
  .exact e
 obtain⟨⟨c0,t0,RD,hh,_⟩,q2,q3,q4,q5,q6⟩:=hW.obj b g _ hi hg;have ea:a=⟨g.b,g.off+o,none⟩:=by
  obtain⟨ab,ao,as⟩:=a;simp only at hab hao;rw[hab,hao.1,hao.2]
 subst ea;have hin:∀j,j<zs.length->o+j<cs.length:=λj hj=>(aV.1 (hz j _ (bG hj))).1;have hH:Holds (Value.int .i64) w g.b (g.off+o) zs.toArray:=λj hj=>by
  have hj:j<zs.length:=by simpa using hj
  obtain⟨v',h1,h2⟩:=q6 (o+j) _ (hz j _ (bG hj));have:=h2.mP;subst this;refine⟨?_,(q4 _ (by have:=hin j hj;omega)).2⟩;rw[l5,h1];congr 2;rw[getElem!_pos zs.toArray j (by simpa using hj)];simp
 have hlt:g.b<w.heap.size:=(Pj.1 hh).1;have hC:=hS g.b (g.off+o) c' zs w hH hlt hlen;obtain⟨_,w1,w2⟩:=FM hW hi hs (vs':=(bK zs).map (.int .i64)) (aW.free (by
  have:∀l:ae Int,iU (l.map (Value.int .i64))=true:=by
   intro l;induction l with
   |nil=>rfl
   |cons x l ih=>rw[fA];simp[iU,dG,Ideal.cellV,ih]
  exact this _)) (by
  rw[jy];intro x hx;obtain⟨z,_,rfl⟩:=bS.1 hx;rfl)
 refine⟨_,Frame.enter P f ⟨_⟩ .normal,t1,rfl,λcs0 AC=>?_⟩;obtain⟨e,w',fr,⟨he,k,os,hw'⟩,hcomes,hfr,hlv⟩:=hC cs0;subst he;have hw1:putRow (Value.int .i64) (Sort.ahead w k) g.b (g.off+o) (zs.mergeSort λx y=>decide (x<=y)).toArray=Sort.ahead (w.setCells g.b (g.off+o) ((bK zs).map (.int .i64))) k:=by
  have:=setCells_putRow (Value.int .i64) w g.b (g.off+o) (bK zs).toArray;rw[show(bK zs).toArray.toList=bK zs from rfl]at this;rw[this];rfl
 rw[hw1]at hw';have w3:WR P β h' (Sort.ahead (w.setCells g.b (g.off+o) ((bK zs).map (.int .i64))) k):=w1.qK rfl;have w4:=w2.trans (Eff.qK (w':=Sort.ahead (w.setCells g.b (g.off+o) ((bK zs).map (.int .i64))) k) w1.dom rfl rfl rfl rfl (Ph _ _));obtain⟨w5,w6⟩:=w3.grow os;rw[<- hw']at w5 w6;refine⟨.ok (.tuple ⟨[]⟩),none,h',β,w',.returned (.tuple #[]),cs0,⟨rfl,rfl,rfl⟩,w5,w4.trans w6,.ok (.dX _),.none cs0,.inl ⟨f,_,fr,rfl,hcomes,hfr,hlv.2.2.1,hlv.1,hlv.2.1,hlv.2.2.2⟩⟩
def Ey{α:Type}:∀(l:ae α) (o:Nat) (xs:ae α),o+xs.length<=l.length->∃r,jH l o xs=some r
 |[],o,xs,h=>by
  have h1:xs=[]:=j6.1 (by rw[wB]at h;omega);have h2:o=0:=by rw[wB]at h;omega
  exact⟨[],by rw[Wu,if_pos ⟨h1,h2⟩]⟩
 |c::l,0,[],h=>⟨_,Wv c l⟩
 |c::l,0,x::xs,h=>by
  obtain⟨r,hr⟩:=Ey l 0 xs (by simp only[nW]at h;omega);exact⟨x::r,by rw[Ld,hr];rfl⟩
 |c::l,o+1,xs,h=>by
  obtain⟨r,hr⟩:=Ey l o xs (by simp only[nW]at h;omega);exact⟨c::r,by rw[PS,hr];rfl⟩
def aiJ(hS:RB P f){fn:Func}(hfn:P.funcs[f]? =some fn){body:Code}(hb:fn.body=some body)(hname:fn.name≠ "runtime.NumGoroutine"){a:ak Addr}{zs:ae Int}(hne:0<zs.length)(hlen:zs.length<4611686018427387904):
 aX P (.func f) [.slice a zs.length zs.length] [] [ap ai (.slice a zs.length zs.length) zs] [] (λ_:Unit=>.tuple ⟨[]⟩) (λ_=>[ap ai (.slice a zs.length zs.length) (bK zs)]) (λ_=>[]) (λ_=>True):=by
 intro B w s;obtain⟨S,⟨S1,S2,q1,q2,e⟩,h2,h3⟩:=s.own;rcases q1 with⟨h,_⟩|⟨b,o,fl,cells,e1,hf,e2,hb',hcl,hel⟩
 .rw[h]at hne;simp at hne
 injection e1 with e1 YR;subst e1;have hcl:cells.length=o+zs.length:=by rw[hcl];simp[ai]
 have hz:∀(j:Nat) z,zs[j]? =some z->cells[o+j]? =some (.int .i64 z):=λj z hj=>by
  obtain⟨y,u1,_⟩:=hel j z hj;have:=u1 0 (.int .i64 z) rfl;simpa[ai]using this
 have hst:∃cs2,w.h.storeAt b o ((bK zs).map (.int .i64))=some (w.h.set b (.cells cs2))/\cs2.length=cells.length/\∀(k:Nat) z,(bK zs)[k]? =some z->cs2[o+k]? =some (.int .i64 z):=by
  have hov:∃cs2,jH cells o ((bK zs).map (.int .i64))=some cs2:=Ey _ _ _ (by rw[aR,Bb];omega);obtain⟨cs2,hl⟩:=hov;obtain⟨l1,l2,l3⟩:=D5 hl;refine⟨cs2,?_,l2,λk z hk=>?_⟩
  .unfold IH.storeAt;simp only[hb',hl]
  .rw[l3,if_pos ⟨s6,by have:=(aV.1 hk).1;rw[aR];omega⟩,Pp,bU,hk];rfl
 obtain⟨cs2,hst,hl2,M5⟩:=hst;refine .real (I4 _ (aiI hS hfn hb hname hb' hz hne hlen hst) ?_);rintro r pm h' ⟨rfl,rfl,rfl⟩;have s1:St B w [pt b (.cells cells)] [] w:=⟨s.agree,s.le,s.fH,⟨S,⟨S1,S2,⟨e2,hb'⟩,q2,e⟩,h2,h3⟩,λf hf=>by cases hf⟩
 refine⟨rfl,⟨w.h.set b (.cells cs2),w.z,λi hi=>w.nN i hi⟩,(),rfl,?_,rfl,trivial⟩;refine(s1.write (o':=.cells cs2)).Cv (A:=pt b (.cells cs2)) λw' S' hp=>?_;refine .inr ⟨b,o,fl,cs2,by rw[Bb],hf,hp.1,hp.2,by rw[hl2,hcl,Bb];simp[ai],λk x hk=>⟨(),λj u hj=>?_,λf hf=>by cases hf⟩⟩;match j,hj with
 |0,hj=>
  cases hj;have:=M5 k x hk;simpa[ai]using this
end Go.Ideal
namespace Go.Ideal
variable {P:Program}
def CG{α:Type}(P:Program)(vals:α->ae ah)(fn:Fn)(first cap:ae ah)(F:ae aI)(X:ae α->Prop):Prop:=
 ∀(S:Type) (inv:S->ae OA) (ok:ae α->S->Prop) (step:S->α->S×Bool) (s0:S) (tq:Fn) (y1 y2:ae ah) (F':ae aI),ok [] s0->
  (∀vs s x rest,ok vs s->X (vs++x::rest)->(step s x).2=true->ok (vs++[x]) (step s x).1)->
  (∀vs s x rest,ok vs s->X (vs++x::rest)->aX P tq (y1++vals x) y2 (inv s) F' (λ_:Unit=>.bool (step s x).2) (λ_=>inv (step s x).1) (λ_=>[]) (λ_=>True))->
  aX P fn (first++[.func tq ⟨y1⟩ ⟨y2⟩]) cap (inv s0) (F++F') (λ_:ae α=>.tuple ⟨[]⟩) (λxs=>inv (dA step s0 xs)) (λ_=>[]) X
section
variable {B:ae Nat} {w0:Wd} {kl kl' bz:ae OA} {F:ae aI} {K:KO} {n:Nat} {l:qr} {D:ae Deferred} {pm:ak FrameMode} {ro:ak Nat}
def CJ{Z:Type}(B:ae Nat)(w0:Wd)(n:Nat)(l3:Z->qr)(lo:Nat)(o:dL)(kl:Z->ae OA)(F:ae aI):KO:=λoo a h=>
 oo=.normal/\∃z,a=act n (l3 z) [] none (some lo)/\∃w:Wd,w.h=h/\St B w0 (pt lo o::kl z) F w
variable{Z:Type}{lo:Nat}
def CK{l3:Z->qr}{o:dL}{k3:Z->ae OA}(z:Z)(hl:l3 z=l)(hk:aF (pt lo o::k3 z) kl bz:=by exact mW):R (λh=>CJ B w0 n l3 lo o k3 F .normal (act n l [] none (some lo)) h) B w0 kl F:=λw s=>
 ⟨rfl,z,by rw[hl],w,rfl,(s.lF hk).drop⟩
def RF{Y:Type}{L:pz}{args:ae ah}{k1:ae OA}{out:Y->Out}{k1':Y->ae OA}{fs:Y->ae aI}{pr:Y->Prop}(l:qr)(l3:Z->qr)(k3:Z->ae OA)(hl:L.tmps=iD l)(hst:L.state=.ready)(hps:L.params.all (λp=>Nat.blt p L.n)=true)(hlen:L.params.length=args.length)
 (ha:∀B w0,R (λh=>EV P L.assign (act L.n ((L.params.zip args).reverse++l) [] none (some lo)) h (CJ B w0 L.n l3 lo (.loop L) k3 F)) B w0 (pt lo (.loop L)::k1) F)
 (hb:∀z B w0,R (λh=>EV P L.body (act L.n (l3 z) [] none (some lo)) h (A7 B w0 lo L out k1' fs pr)) B w0 (pt lo (.loop (wT L))::k3 z) F):
 aX P (.yield lo) args [] (pt lo (.loop L)::k1) F (λy:Y=>.bool (lV (out y))) (λy=>pt lo (.loop (mE L (out y)))::k1' y) fs pr:=by
 intro B w s;obtain⟨l2,e1,e2⟩:=Yy L.n L.params args l hps hlen;refine .round lo rfl rfl L s.get.1 hlen.symm _ (by
  rw[hl];show EV P L.assign (bi.mk L.n (xU L.n L.params args (iD l)) [] none (some lo)) w.h _;rw[e1,e2];exact ha B w w s) ?_ ?_
 .rintro o a h ⟨rfl,z,rfl,w1,rfl,s1⟩;exact⟨rfl,L,s1.get.1,hst⟩
 .rintro a h r1 ⟨_,z,rfl,w1,rfl,s1⟩ hr;have hr1:r1=L:=by
   have:=s1.get.1;rw[hr]at this;injection this with this;injection this
  subst hr1;have hb:=hb z B w _ (s1.write (o':=.loop (wT r1)));refine QN hb _ ?_;rintro o a h ⟨hd,w2,y,rfl,rfl,hn,s2,hp⟩;refine⟨wT r1,s2.get.1,hd,?_⟩;have fin:∀o',lV o'=lV (out y)->mE r1 o'=mE r1 (out y)->Left B w (λy:Y=>.bool (lV (out y))) (λy=>pt lo (.loop (mE r1 (out y)))::k1' y) fs pr (.ok (.bool (lV (out y)))) none (w2.h.set lo (.loop (mE r1 (out y)))):=λo' _ _=>
   ⟨rfl,_,y,rfl,s2.write,rfl,hp⟩
  cases ho:out y with
  |normal=>have:=fin .normal ux ux;rw[ho]at this;exact this
  |exit j=>have:=fin (.exit j) ux ux;rw[ho]at this;exact this
  |ret=>have:=fin .ret ux ux;rw[ho]at this;exact this
  |panic ch=>rw[ho]at hn;exact hn.elim
variable{S α:Type}{ps:ae Tmp}{assign body:dz}{fn:Fn}{first captured:ae ah}{F1:ae aI}
def aiK{f:ay}{vals:α->ae ah}{X:ae α->Prop}(step:S->α->S×Out)(inv:S->ae OA)(ok:ae α->S->Prop)(s0:S)(h0:ok [] s0)
 (hok:∀vs s x rest,ok vs s->X (vs++x::rest)->(step s x).2=.normal->ok (vs++[x]) (step s x).1) (hit:CG P vals fn first captured F1 X)
 (hf:ev l f=.func fn ⟨first⟩ ⟨captured⟩) (hps:ps.all (λp=>Nat.blt p n)=true) (hlen:∀x,ps.length=(vals x).length) (hk:aF (inv s0) kl bz) (hF:Sub F1 F) (jC:∀s x,AZ (step s x).2)
 (l3:α->Z->qr) (k3:α->Z->ae OA)
 (ha:∀(s:S) (x:α) (lo:Nat) (o:dL) B w0,R (λh=>EV P assign (act n ((ps.zip (vals x)).reverse++l) [] none (some lo)) h (CJ B w0 n (l3 x) lo o (λz=>k3 x z++inv s) F)) B w0 (pt lo o::inv s) F)
 (hb:∀(vs:ae α) (s:S) (x:α) (rest:ae α) (z:Z) (lo:Nat) (L:pz) B w0,ok vs s->X (vs++x::rest)->R (λh=>EV P body (act n (l3 x z) [] none (some lo)) h (A7 B w0 lo L (λ_:Unit=>(step s x).2) (λ_=>inv (step s x).1) (λ_=>[]) (λ_=>True))) B w0 (pt lo (.loop (wT L))::(k3 x z++inv s)) F)
 (next:∀r xs,X xs->R (λh=>K (iO step s0 xs).2 (act n l ({target:=.collected r,args:= #[]}::D) pm none) h) B w0 (inv (iO step s0 xs).1++(pt r (.jo true)::bz)) F):
 R (λh=>EV P (.rangeFunc f ps assign body) (act n l D pm none) h K) B w0 kl F:=by
 refine Rp (Y:=ae α) (k1:=inv s0) (F1:=F1++F) (Jr:=λ_=>.tuple ⟨[]⟩) (out:=λxs=>(iO step s0 xs).2) (k1':=λxs=>inv (iO step s0 xs).1) (fs:=λ_=>[]) (pr:=X) hf ?_ hk (hF.app (Sub.refl' F [])) (λr y hy=>next r y hy);intro lo r;have:=hit (S×Out) (λso=>pt lo (.loop (mE ⟨.ready,none,iD l,n,ps,assign,body,r⟩ so.2))::inv so.1) (λvs so=>so.2=.normal/\ok vs so.1) (λso x=>(step so.1 x,lV (step so.1 x).2)) (s0,.normal) (.yield lo) [] [] F ⟨rfl,h0⟩
  (λvs so x rest ho hx h=>by
    exact cW)
  (λvs so x rest ho hx=>by
    exact cE)
 have e:(λxs:ae α=>pt lo (.loop (mE ⟨.ready,none,iD l,n,ps,assign,body,r⟩ (dA (λ(so:S×Out) x=>(step so.1 x,lV (step so.1 x).2)) (s0,.normal) xs).2))::inv (dA (λ(so:S×Out) x=>(step so.1 x,lV (step so.1 x).2)) (s0,.normal) xs).1)=λxs=>pt lo (.loop (mE ⟨.ready,none,iD l,n,ps,assign,body,r⟩ (iO step s0 xs).2))::inv (iO step s0 xs).1:=by
  funext xs
  rw[MP]
 have h2:aX P fn (first++[.func (.yield lo) ⟨[]⟩ ⟨[]⟩]) captured (pt lo (.loop ⟨.ready,none,iD l,n,ps,assign,body,r⟩)::inv s0) (F1++F) (λ_:ae α=>.tuple ⟨[]⟩) (λxs=>pt lo (.loop (mE ⟨.ready,none,iD l,n,ps,assign,body,r⟩ (dA (λ(so:S×Out) x=>(step so.1 x,lV (step so.1 x).2)) (s0,.normal) xs).2))::inv (dA (λ(so:S×Out) x=>(step so.1 x,lV (step so.1 x).2)) (s0,.normal) xs).1) (λ_=>[]) X:=this;rw[e]at h2;exact h2
def M6{f:ay}{vals:α->ae ah}{X:ae α->Prop}(step:S->α->S×Out)(inv:S->ae OA)(ok:ae α->S->Prop)(s0:S)(l3:α->Z->qr)(k3:α->Z->ae OA)(h0:ok [] s0)
 (hok:∀vs s x rest,ok vs s->X (vs++x::rest)->(step s x).2=.normal->ok (vs++[x]) (step s x).1) (hit:CG P vals fn first captured F1 X)
 (ha:∀(s:S) (x:α) (lo:Nat) (o:dL) B w0,R (λh=>EV P assign (act n ((ps.zip (vals x)).reverse++l) [] none (some lo)) h (CJ B w0 n (l3 x) lo o (λz=>k3 x z++inv s) F)) B w0 (pt lo o::inv s) F)
 (hb:∀(vs:ae α) (s:S) (x:α) (rest:ae α) (z:Z) (lo:Nat) (L:pz) B w0,ok vs s->X (vs++x::rest)->R (λh=>EV P body (act n (l3 x z) [] none (some lo)) h (A7 B w0 lo L (λ_:Unit=>(step s x).2) (λ_=>inv (step s x).1) (λ_=>[]) (λ_=>True))) B w0 (pt lo (.loop (wT L))::(k3 x z++inv s)) F)
 (next:∀r xs,X xs->R (λh=>K (iO step s0 xs).2 (act n l ({target:=.collected r,args:= #[]}::D) pm none) h) B w0 (inv (iO step s0 xs).1++(pt r (.jo true)::bz)) F)
 (jC:∀s x,AZ (step s x).2)
 (hf:ev l f=.func fn ⟨first⟩ ⟨captured⟩:=by rfl) (hps:ps.all (λp=>Nat.blt p n)=true:=by rfl) (hlen:∀x,ps.length=(vals x).length:=by intro _;rfl)
 (hk:aF (inv s0) kl bz:=by exact mW) (hF:Sub F1 F:=by exact mo):
 R (λh=>EV P (.rangeFunc f ps assign body) (act n l D pm none) h K) B w0 kl F:=
 aiK step inv ok s0 h0 hok hit hf hps hlen hk hF jC l3 k3 ha hb next
end
end Go.Ideal
namespace Go.Ideal
variable {P:Program}
def cO{α:Type}(E:Enc α)(aC:ae (α×E.Y)):ae ah:=aC.flatMap λp=>E.pat p.1 p.2
def yE{α:Type}{E:Enc α}:∀aC:ae (α×E.Y),(cO E aC).length=aC.length*E.n
 |[]=>by simp[cO]
 |p::l=>by
  have ih:=yE l;unfold cO at ih⊢;rw[KP,eF,ih,E.len,nW,rD];omega
def yF{α:Type}{E:Enc α}:∀{aC:ae (α×E.Y)} {k:Nat} {p:α×E.Y} {j:Nat} {u:ah},aC[k]? =some p->(E.pat p.1 p.2)[j]? =some u->(cO E aC)[k*E.n+j]? =some u
 |[],k,p,j,u,h,_=>by cases h
 |q::l,0,p,j,u,h,hj=>by
  cases h;unfold cO;rw[KP,Ff,eB,jL (aV.1 hj).1];exact hj
 |q::l,k+1,p,j,u,h,hj=>by
  have ih:=yF (aC:=l) (k:=k) tf hj;unfold cO at ih⊢;rw[KP,jP (by rw[E.len,rD];omega),E.len,show(k+1)*E.n+j - E.n=k*E.n+j by rw[rD];omega];exact ih
def RG{α:Type}{E:Enc α}{j:Nat}{v:ah}:∀{aC:ae (α×E.Y)} {k:Nat} {p p':α×E.Y},aC[k]? =some p->(E.pat p.1 p.2).set j v=E.pat p'.1 p'.2->j<E.n->(cO E aC).set (k*E.n+j) v=cO E (aC.set k p')
 |[],k,p,p',h,_,_=>by cases h
 |q::l,0,p,p',h,hp,hj=>by
  cases h;unfold cO;rw[KP,Ff,eB,List.set_append_left _ _ (by rw[E.len];exact hj),hp];rfl
 |q::l,k+1,p,p',h,hp,hj=>by
  have ih:=RG (aC:=l) (k:=k) tf hp hj;unfold cO at ih⊢;rw[KP,Af _ _ (by rw[E.len,rD];omega),E.len,show(k+1)*E.n+j - E.n=k*E.n+j by rw[rD];omega,ih];rfl
def vK{α:Type}(E:Enc α)(v:ah)(aC:ae (α×E.Y)):aI:=
 ⟨λw=>(aC=[]/\∃a c,v=.slice a 0 c/\Rb E.n a)\/∃i o f c cells,(v=.slice (some ⟨i,o,some f⟩) aC.length c/\aC.length<=c/\(f=0\/f=E.n))/\Fz w i cells/\
  ∀(k:Nat) p,aC[k]? =some p->(∀(j:Nat) u,(E.pat p.1 p.2)[j]? =some u->cells[o+k*E.n+j]? =some u)/\∀f∈E.fs p.1 p.2,f.p w,
  λa h=>by
   rcases h with h|⟨i,o,f,c,cells,h1,h2,h3⟩
   .exact .inl h
   .refine .inr ⟨i,o,f,c,cells,h1,h2.mono a,λk x hk=>?_⟩;obtain⟨q1,q2⟩:=h3 k x hk;exact⟨q1,λf hf=>f.mono a (q2 f hf)⟩⟩
def qz{α:Type}(E:Enc α)(aC:ae (α×E.Y)):aI:=⟨λw=>∀p∈aC,∀f∈E.fs p.1 p.2,f.p w,λa h p hp f hf=>f.mono a (h p hp f hf)⟩
variable{α:Type}{v:ah}{w:Wd}
def aiL{E:Enc α}{aC:ae (α×E.Y)}(h:(vK E v aC).p w):(qz E aC).p w:=by
 intro p hp f hf;rcases h with⟨rfl,_⟩|⟨i,o,fl,c,cells,_,_,h3⟩
 .cases hp
 .obtain⟨k,hk⟩:=yY.1 hp;exact(h3 k p hk).2 f hf
def aiM{E:Enc α}{aC:ae (α×E.Y)}(h:(vK E v aC).p w):(aj E v (aC.map (·.1))).p w:=by
 rcases h with⟨rfl,h⟩|⟨i,o,f,c,cells,h1,h2,h3⟩
 .exact .inl ⟨rfl,h⟩
 .refine .inr ⟨i,o,f,c,cells,by rw[aR];exact h1,h2,λk x hk=>?_⟩;rw[bU]at hk;cases hp:aC[k]? with
  |none=>rw[hp]at hk;cases hk
  |some p=>
   rw[hp]at hk;cases hk;exact⟨p.2,h3 k p hp⟩
def YS{E:Enc α}{xs:ae α}(h:(aj E v xs).p w):∃aC:ae (α×E.Y),aC.map (·.1)=xs/\(vK E v aC).p w:=by
 rcases h with⟨rfl,h⟩|⟨i,o,f,c,cells,h1,h2,h3⟩
 .exact⟨[],rfl,.inl ⟨rfl,h⟩⟩
 .obtain⟨l,hl,hp⟩:=ML (p:=λk (p:α×E.Y)=>xs[k]? =some p.1/\(∀(j:Nat) u,(E.pat p.1 p.2)[j]? =some u->cells[o+k*E.n+j]? =some u)/\∀f∈E.fs p.1 p.2,f.p w) xs.length (λk hk=>by
   obtain⟨y,q1,q2⟩:=h3 k xs[k] (bG hk);exact⟨(xs[k],y),bG hk,q1,q2⟩)
  have hm:l.map (·.1)=xs:=by
   exact gg
  exact⟨l,hm,.inr ⟨i,o,f,c,cells,by rw[hl];exact h1,h2,λk p hk=>(hp k p hk).2⟩⟩
def ar{α:Type}(E:Enc α)(v:ah)(aC:ae (α×E.Y)):OA:=
 ⟨λw S=>(aC=[]/\(∃a,v=.slice a 0 0/\Rb E.n a)/\S=[])\/∃b f,v=.slice (some ⟨b,0,some f⟩) aC.length aC.length/\(f=0\/f=E.n)/\S=[b]/\w.h.get b=some (.cells (cO E aC)),
  λa h hp=>by
   rcases hp with hp|⟨b,f,h1,h2,h3,h4⟩
   .exact .inl hp
   .exact .inr ⟨b,f,h1,h2,h3,by rw[h b ya];exact h4⟩⟩
def aiN{E:Enc α}{aC:ae (α×E.Y)}(w w':Wd)(S:ae Nat)(hp:(ar E v aC).p w S)(hle:w.Le w')(hh:w'.h=w.h)(hz:∀i∈S,w'.z i)(ha:(qz E aC).p w):(vK E v aC).p w':=by
 rcases hp with⟨h1,⟨a,h2,h3⟩,_⟩|⟨b,f,h1,h2,h3,h4⟩
 .exact .inl ⟨h1,a,0,h2,h3⟩
 .refine .inr ⟨b,0,f,_,_,⟨h1,aZ _,h2⟩,⟨hz b ya,.inl (by rw[hh];exact h4)⟩,λk p hk=>⟨λj u hj=>?_,λf hf=>f.mono hle (ha p (aT hk) f hf)⟩⟩;rw[eB];exact yF hk hj
section
variable {B:ae Nat} {w0:Wd} {kl kl' bz:ae OA} {F:ae aI} {K:KO} {ds:ae Tmp} {rest:ae bN} {n:Nat} {l:qr} {D:ae Deferred} {pm:ak FrameMode} {ro:ak Nat} {d:Nat} {g:ak (Tmp×Bool)}
variable {α:Type} {E:Enc α} {v:ah}
variable{Q:IH->Prop}
def Jv{xs:ae α}(E:Enc α)(v:ah)(h:∀aC:ae (α×E.Y),aC.map (·.1)=xs->R Q B w0 kl (vK E v aC::F))(hf:aj E v xs∈F:=by exact iN):R Q B w0 kl F:=λw s=>by
 obtain⟨aC,h1,h2⟩:=YS (s.facts _ hf);exact h aC h1 w ⟨s.agree,s.le,s.fH,s.own,λf hf=>by
  rcases bH.1 hf with rfl|hf
  .exact h2
  .exact s.facts f hf⟩
variable{aC:ae (α×E.Y)}
def RH(h:R Q B w0 kl (qz E aC::F))(hf:vK E v aC∈F:=by exact iN):R Q B w0 kl F:=λw s=>
 h w ⟨s.agree,s.le,s.fH,s.own,λf hf'=>by
  rcases bH.1 hf' with rfl|hf'
  .exact aiL (s.facts _ hf)
  .exact s.facts f hf'⟩
def M7(h:R Q B w0 kl' (vK E v aC::aj E v (aC.map (·.1))::F))(ha:∀w,(∀f∈F,f.p w)->(qz E aC).p w)(hk:aB (ar E v aC) kl kl':=by exact dU):R Q B w0 kl F:=λw s=>by
 have hall:=ha w s.facts;obtain⟨S,⟨S1,S2,q1,q2,e⟩,h2,h3⟩:=(s.fI hk).own;subst e;let w':Wd:=⟨w.h,λi=>w.z i\/i∈S1,λi hi=>hi.elim (w.nN i) λhi=>(h3 i (jl _ hi)).2.1⟩
 have hle:w.Le w':=⟨aZ _,λi hi=>.inl hi,λ_ _=>rfl⟩
 have hnd:=jA.1 h2;have hel:=aiN w w' S1 q1 hle rfl (λi hi=>.inr hi) hall;refine h w' ⟨s.agree,s.le.trans hle,λi hi hz=>?_,⟨S2,gq.loc hle (λ_ _=>rfl) q2,hnd.2.1,λi hi=>?_⟩,λf hf=>?_⟩
 .rcases hz with hz|hz
  .exact s.fH i hi hz
  .exact rp
 .exact kj
 .rcases bH.1 hf with rfl|hf
  .exact hel
  .rcases bH.1 hf with rfl|hf
   .exact aiM hel
   .exact f.mono hle (s.facts f hf)
def YT(hlen:0<aC.length)(h:∀b f,(f=0\/f=E.n)->v=.slice (some ⟨b,0,some f⟩) aC.length aC.length->R Q B w0 (pt b (.cells (cO E aC))::kl') F)(hk:aB (ar E v aC) kl kl':=by exact dU):R Q B w0 kl F:=λw s=>by
 have s1:=s.fI hk;obtain⟨S,⟨S1,S2,q1,q2,e⟩,h2,h3⟩:=s1.own;rcases q1 with⟨h0,_⟩|⟨b,f,h4,h5,h6,h7⟩
 .rw[h0]at hlen;simp at hlen
 .exact h b f h5 h4 w ⟨s1.agree,s1.le,s1.fH,⟨S,⟨S1,S2,⟨h6,h7⟩,q2,e⟩,h2,h3⟩,s1.facts⟩
def wV{α:Type}(E:Enc α){aC:ae (α×E.Y)}{Q:IH->Prop}{b f m:Nat}(hm:m=aC.length)(hf:f=0\/f=E.n)(h:R Q B w0 (ar E (.slice (some ⟨b,0,some f⟩) m m) aC::kl') F)(hk:aB (pt b (.cells (cO E aC))) kl kl':=by exact dU):R Q B w0 kl F:=λw s=>by
 refine h w ((s.fI hk).Cv (A:=pt b (.cells (cO E aC))) λw S hp=>.inr ⟨b,f,by rw[hm],hf,hp.1,hp.2⟩)
def YU(h:∀a,v=.slice a aC.length aC.length->R Q B w0 kl F)(hk:aB (ar E v aC) kl kl':=by exact dU):R Q B w0 kl F:=λw s=>by
 obtain⟨S,⟨S1,S2,q1,q2,e⟩,h2,h3⟩:=(s.fI hk).own;rcases q1 with⟨rfl,⟨a,h1,_⟩,_⟩|⟨b,f,h4,_⟩
 .exact h a h1 w s
 .exact h _ h4 w s
variable{x:ay}{c m:Nat}{t e:aD}
def Gi(hu:P.underlying t=some (.slice e))(hx:ev l x=.slice none m c):Pu P (ev l) (.bin .eql t x (.const (.slice none 0 0))) (.bool true):=λh=>by
 have he:dK P (Op.equal t (.slice none m c) (.slice none 0 0))=some true:=by
  show dK P (Op.equalIn (9999+1) t (.slice none m c) (.slice none 0 0))=_;unfold Op.equalIn;rw[fP,qy hu];rfl
 have h1:lN P (do eqGuard .eql t x (.const (.slice none 0 0)) (.slice none m c) (.slice none 0 0);binOp .eql t (.slice none m c) (.slice none 0 0))=some (.bool true):=by
  exact ff
 have h2:l7 P .eql t x (.const (.slice none 0 0)) (.slice none m c) (.slice none 0 0)=some (.bool true):=by
  by_cases hmc:m=0/\c=0
  .show cond (dG (Value.slice none m c)&&dG (Value.slice none 0 0)) (lN P (do eqGuard .eql t x (.const (.slice none 0 0)) (.slice none m c) (.slice none 0 0);binOp .eql t (.slice none m c) (.slice none 0 0))) _=_;rw[h1];obtain⟨rfl,rfl⟩:=hmc;simp[dG]
  .have e0:dG (Value.slice none m c)=false:=by
    cases hb:dG (Value.slice none m c)with
    |false=>rfl
    |true=>exact absurd (by simpa[dG]using hb) hmc
   have e1:wH P t (.slice none m c) (.slice none 0 0)=some true:=by
    unfold wH;rw[hu]
   show cond (dG (Value.slice none m c)&&dG (Value.slice none 0 0)) _ (match wH P t (.slice none m c) (.slice none 0 0)with|some b=>some (Value.bool b)|none=>none)=_;rw[e0,e1];rfl
 simp only[aK.run,hx];show(match l7 P .eql t x (.const (.slice none 0 0)) (.slice none m c) (.slice none 0 0)with|some v=>some (v,h)|none=>none)=_;rw[h2]
def zy{a:Addr}(hu:P.underlying t=some (.slice e))(hx:ev l x=.slice (some a) m c):Pu P (ev l) (.bin .eql t x (.const (.slice none 0 0))) (.bool false):=λh=>by
 have h2:l7 P .eql t x (.const (.slice none 0 0)) (.slice (some a) m c) (.slice none 0 0)=some (.bool false):=by
  have:wH P t (.slice (some a) m c) (.slice none 0 0)=some false:=by
   unfold wH;rw[hu]
  show(match wH P t (.slice (some a) m c) (.slice none 0 0)with|some b=>some (Value.bool b)|none=>none)=_;rw[this]
 simp only[aK.run,hx];show(match l7 P .eql t x (.const (.slice none 0 0)) (.slice (some a) m c) (.slice none 0 0)with|some v=>some (v,h)|none=>none)=_;rw[h2]
variable{s:ay}{b:Nat}
def Jw{e:aD}{size bytes:Nat}{a:ak Addr}
 (next:R (λh=>aM P ds rest (act n ((d,.slice (some ⟨b,0,some 0⟩) 0 0)::l) D pm ro) h K) B w0 (pt b (.cells [])::kl') F)
 (hs:ev l s=.slice (some ⟨b,0,some 0⟩) 0 0:=by rfl) (hx:ev l x=.slice a 0 c:=by rfl) (hk:aB (pt b (.cells [])) kl kl':=by exact dU) (hn:Nat.blt d n=true:=by rfl) (hg:bO l g=true:=by rfl):
 R (λh=>aM P ds (⟨⟨some d,g,.append e size bytes s x⟩,[]⟩::rest) (act n l D pm ro) h K) B w0 kl F:=λw st=>by
 have st1:=st.fI hk;refine mV hn hg (v:=.slice (some ⟨b,0,some 0⟩) 0 0) (h':=w.h.set b (.cells [])) ?_ (next ⟨w.h.set b (.cells []),w.z,λi hi=>w.nN i hi⟩ st1.write);have h0:∀m,Nat.mul 0 m=0:=λm=>Ff m;have e1:w.h.storeAt b 0 []=some (w.h.set b (.cells [])):=by
  unfold IH.storeAt;simp only[st1.get.1];rfl
 simp only[aK.run,hx,hs,ql,Al,zb];show cond (Nat.ble (Nat.mul (Nat.add 0 0) bytes) small&&Nat.ble (Nat.mul (Nat.add 0 0) size) small&&Nat.ble (Nat.add 0 0) small) (cond (Nat.ble (Nat.add 0 0) 0) (match w.h.storeAt b (Nat.add 0 (Nat.mul 0 size)) []with|some h=>some (Value.slice (some ⟨b,0,some 0⟩) (Nat.add 0 0) 0,h)|none=>none) _) none=_;rw[show Nat.add 0 0=0 from rfl,h0,h0,show Nat.add 0 0=0 from rfl,e1];have:(Nat.ble 0 small&&Nat.ble 0 small&&Nat.ble 0 small)=true:=rfl;rw[this];rfl
def Jy{α:Type}{e:aD}{size bytes:Nat}(E:Enc α)(aC:ae (α×E.Y))(hne:0<aC.length)(hm:aC.length*bytes<=1073741824/\aC.length*size<=1073741824/\aC.length<=1073741824)
 (next:∀b',R (λh=>aM P ds rest (act n ((d,.slice (some ⟨b',0,some size⟩) aC.length aC.length)::l) D pm ro) h K) B w0 (pt b' (.cells (cO E aC))::kl') F)
 (hs:ev l s=.slice (some ⟨b,0,some 0⟩) 0 0:=by rfl) (hx:ev l x=v:=by conv=>lhs;whnf) (hf:vK E v aC∈F:=by exact iN) (hz:E.n=size:=by rfl) (hk:aB (pt b (.cells [])) kl kl':=by exact dU) (hn:Nat.blt d n=true:=by rfl) (hg:bO l g=true:=by rfl):
 R (λh=>aM P ds (⟨⟨some d,g,.append e size bytes s x⟩,[]⟩::rest) (act n l D pm ro) h K) B w0 kl F:=λw st=>by
 subst hz;have st1:=st.fI hk;have hat:At w.h b (.cells []):=st.at_ hk;obtain⟨k,hk'⟩:∃k,aC.length=k+1:=⟨aC.length - 1,s6⟩
 rcases st.facts _ hf with⟨rfl,_⟩|⟨i,o,f,c,cells,⟨e1,hc⟩,q2,q3⟩
 .simp at hne
 have hfl:=yE aC;have hcells:∀j,j<aC.length*E.n->cells[o+j]? =(cO E aC)[j]?:=λj hj=>by
  have hn0:0<E.n:=by
   exact rL
  have hd:j/E.n<aC.length:=by rw[VM hn0];exact hj
  have hmod:=wu j hn0;have hpk:=bG hd;have hu:(E.pat (aC[j/E.n]).1 (aC[j/E.n]).2)[j%E.n]? =some ((E.pat (aC[j/E.n]).1 (aC[j/E.n]).2)[j%E.n]'(by rw[E.len];exact hmod)):=bG _;have h1:=(q3 (j/E.n) _ hpk).1 (j%E.n) _ hu;have h2:=yF hpk hu;have Ct:j/E.n*E.n+j%E.n=j:=DB
  rw[l5,Ct]at h1;rw[Ct]at h2;rw[h1,h2]
 have hlen:o+aC.length*E.n<=cells.length\/aC.length*E.n=0:=by
  rcases KI (aC.length*E.n)with h0|h0
  .exact .inr h0
  .left;have h1:=hcells (aC.length*E.n - 1) s6;have hx0:(cO E aC)[aC.length*E.n - 1]? =some ((cO E aC)[aC.length*E.n - 1]'(s6)):=bG _;rw[hx0]at h1;have:=(aV.1 h1).1;omega
 have hpos:0<E.n\/E.n=0:=s6
 have hread:w.h.jd i o (aC.length*E.n)=some (cO E aC):=by
  rw[q2.cells.jd,qp,qJ,if_pos tj];congr 1;apply iH;intro j;rw[rE];by_cases hj:j<aC.length*E.n
  .rw[if_pos hj,jU];exact hcells j hj
  .rw[if_neg hj,dW s6]
 refine Q0 (b:=b) (o:=0) (m:=0) (k:=k) (f:=some 0) (old:=[]) (xs:=cO E aC) hn hg hs (by rw[hx,e1,hk'];rfl) ?_ ?_ (.inl rfl) ?_ λh' mv=>?_
 .rw[hx,e1,<- hk'];exact hread
 .rw[hat.cX.jd,Ff];rfl
 .rw[eB,<- hk'];omega
 obtain⟨w',rfl,jY,AV⟩:=st1.move mv;rw[cK]at jY;have:=next w.h.next w' jY
 rw[hk']at this;rw[eB];exact this
end
end Go.Ideal
namespace Go.Ideal
variable {P:Program}
inductive Gj(P:Program)(ty:TypeId):Value->Value->Bool->Prop
 |int {a b:Int} (h:P.underlying ty=some (.int .i64)):Gj P ty (.int .i64 a) (.int .i64 b) (decide (a=b))
 |str {a b:ByteArray} (h:P.underlying ty=some .string):Gj P ty (.string a) (.string b) (decide (a=b))
def Jz:dK P program=some P:=rfl
def JA{α:Type}{c:Prop}[Decidable c]{a b:Sem α}:dK P (if c then a else b)=if c then dK P a else dK P b:=by split<;>rfl
variable{r:Bool}{ty:aD}{a b:ah}
def YV(c:Gj P ty a b r)(d:Nat):dK P (Op.equalIn (d+1) ty a b)=some r:=by
 cases c with
 |int h=>
  exact qT
 |str h=>
  unfold Op.equalIn;rw[fP,qy h];show some (_==_)=_;rw[bytes_beq]
def M8{v:ah}(c:Gj P ty a b r){xs:Array ah}{o:Nat}(hx:xs[o]? =some v):dK P (part ty xs o)=some v:=by
 have hu:∃d,P.underlying ty=some d/\(∀fs,d≠.struct fs)/\∀n e,d≠.array n e:=by
  cases c with
  |int h=>exact⟨_,h,(by intro _ e;cases e),(by intro _ _ e;cases e)⟩
  |str h=>exact⟨_,h,(by intro _ e;cases e),(by intro _ _ e;cases e)⟩
 obtain⟨d,h1,h2,h3⟩:=hu;have hag:dK P (isAgg ty)=some false:=by
  unfold isAgg;rw[fP,qy h1];cases d with
  |struct fs=>exact absurd rfl (h2 fs)
  |array n e=>exact absurd rfl (h3 n e)
  |_=>rfl
 exact j7
inductive Gl(P:Program)(xs ys:List Value):List Field->Bool->Prop
 |nil:Gl P xs ys [] true
 |cons {f:Field} {fs:List Field} {a b:Value} {r r':Bool} (hn:(f.name== "_")=false) (hx:xs[f.offset]? =some a) (hy:ys[f.offset]? =some b) (c:Gj P f.type a b r) (t:Gl P xs ys fs r'):Gl P xs ys (f::fs) (r&&r')
def YW{d:Nat}{t:aD}{fs:Array Field}{xs ys:ae ah}(hu:P.underlying t=some (.struct fs))(hp:P.stoodInHeld t=false)(h:Gl P xs ys fs.toList r):dK P (Op.equalIn (d+2) t (.agg ⟨xs⟩) (.agg ⟨ys⟩))=some r:=by
 unfold Op.equalIn;rw[fP,qy hu];simp only[iL];rw[fP,Jz];simp only[iL,hp,ww,if_false];rw[<- Array.forIn_toList];generalize fs.toList=l at h;clear hu;induction h with
 |nil=>rfl
 | @cons f fs a b r r' hn hx hy c t ih=>
   have hn:f.name≠ "_" :=by simpa using hn
   rw[List.forIn_cons];simp only[fP,JA,if_pos hn,hn,ne_eq,not_false_eq_true,if_true]at ih⊢;rw[M8 (xs:=⟨xs⟩) c tg,iL,M8 (xs:=⟨ys⟩) c (by simpa using hy),iL,YV c,iL];cases r with
   |false=>rfl
   |true=>exact ih
section
variable {l:qr}
variable{t:aD}{x y:ay}{op:BinOp}
def aiO{a b:Array ah}(hm:P.eqGuardType P.depth t=false):dK P (eqGuard op t x y (.agg a) (.agg b))=some ():=by
 have key:dK P (do if !(<- program).eqGuardType (<- program).depth t then return
                   if <- Op.eqGuardIn Op.maxDepth t (.agg a) (.agg b)then unsupported (.noEntry "binop\x2feql: two nil values of an interface type with methods, in a part of a struct or an array"))=some ():=by
  rw[fP,Jz];simp only[iL];rw[fP,Jz];simp only[iL,hm,Pg,if_true];rfl
 cases op<;>first|exact key|rfl
def YX{a b:ae ah}{v:ah}(ha:iU a=true)(hb:iU b=true)(hm:P.eqGuardType P.depth t=false)(hv:dK P (binOp op t (.agg ⟨a⟩) (.agg ⟨b⟩))=some v)(hf:dG v=true):l7 P op t x y (.agg ⟨a⟩) (.agg ⟨b⟩)=some v:=by
 have h1:lN P (do eqGuard op t x y (.agg ⟨a⟩) (.agg ⟨b⟩);binOp op t (.agg ⟨a⟩) (.agg ⟨b⟩))=some v:=by
  unfold lN;rw[fP,aiO hm];simp only[iL,hv,hf,cond]
 show cond (dG (.agg ⟨a⟩)&&dG (.agg ⟨b⟩)) (lN P (do eqGuard op t x y (.agg ⟨a⟩) (.agg ⟨b⟩);binOp op t (.agg ⟨a⟩) (.agg ⟨b⟩))) _=_;rw[h1];simp[dG,ha,hb]
def YY{fs:Array Field}{xs ys:ae ah}{r:Bool}(hx:ev l x=.agg ⟨xs⟩)(hy:ev l y=.agg ⟨ys⟩)(hu:P.underlying t=some (.struct fs))(hp:P.stoodInHeld t=false)(hm:P.eqGuardType P.depth t=false)(h:Gl P xs ys fs.toList r)(ha:iU xs=true)(hb:iU ys=true):
 Pu P (ev l) (.bin .neq t x y) (.bool (!r)):=λh0=>by
 simp only[aK.run,hx,hy];rw[YX ha hb hm (v:=.bool (!r)) (by
  show dK P (do pure (Value.bool (!(<- Op.equal t (.agg ⟨xs⟩) (.agg ⟨ys⟩)))))=_;rw[fP,show dK P (Op.equal t (.agg ⟨xs⟩) (.agg ⟨ys⟩))=some r from YW (d:=9998) hu hp h];rfl) rfl]
variable{e:aD}{n:Nat}{xs ys:ae Int}
def YZ{d:Nat}(hu:P.underlying t=some (.array n e))(he:P.underlying e=some (.int .i64))(hs:P.info? e|>.map (·.size)|>(·=some 1))(hx:xs.length=n)(hy:ys.length=n):
 dK P (Op.equalIn (d+2) t (.agg ⟨xs.map (.int .i64)⟩) (.agg ⟨ys.map (.int .i64)⟩))=some (decide (xs=ys)):=by
 have hsz:dK P (sizeOf e)=some 1:=by
  exact fR
 unfold Op.equalIn;rw[fP,qy hu];simp only[iL];rw[fP,hsz];simp only[iL,lK];rw[Std.Legacy.Range.forIn_eq_forIn_range'];simp only[Std.Legacy.Range.size,xN,VO,Nat.div_one];have key:∀(m i:Nat),i+m=n->dK P (do
  let JB <- forIn (List.range' i m 1) ((none,()):ak Bool×Unit) λi JB=>
   (do let a <- part e ⟨xs.map (.int .i64)⟩ i
       let b <- part e ⟨ys.map (.int .i64)⟩ i
       let r <- Op.equalIn (d+1) e a b
       if(!r)=true then pure (ForInStep.done (some false,()))else pure (ForInStep.yield (none,())))
  match JB.fst with
  |some r=>pure r
  |none=>pure true)=some (decide (xs.drop i=ys.drop i)):=by
  intro m;induction m with
  |zero=>
   intro i hi;rw[vz s6,vz s6];rfl
  |succ m ih=>
   intro i hi;have hix:i<xs.length:=s6
   have JC:i<ys.length:=s6
   have c:Gj P e (.int .i64 xs[i]) (.int .i64 ys[i]) (decide (xs[i]=ys[i])):=.int he;rw[List.range'_succ,List.forIn_cons];simp only[fP,JA];rw[M8 (xs:=⟨xs.map (.int .i64)⟩) (o:=i) (v:=.int .i64 xs[i]) c (by simp[hix]),iL,M8 (xs:=⟨ys.map (.int .i64)⟩) (o:=i) (v:=.int .i64 ys[i]) c (by simp[JC]),iL,YV c,iL];exact cN
 have:=key n 0 s6;rw[yX,yX]at this;refine Eq.trans ?_ this;simp only[fP];congr 1;funext s
 cases s.fst<;>rfl
def aiP(hx:ev l x=.agg ⟨xs.map (.int .i64)⟩)(hy:ev l y=.agg ⟨ys.map (.int .i64)⟩)(hu:P.underlying t=some (.array n e))(he:P.underlying e=some (.int .i64))(hs:P.info? e|>.map (·.size)|>(·=some 1))(hxl:xs.length=n)(hyl:ys.length=n)(hm:P.eqGuardType P.depth t=false):
 Pu P (ev l) (.bin .eql t x y) (.bool (decide (xs=ys))):=λh0=>by
 have hfr:∀zs:ae Int,iU (zs.map (Value.int .i64))=true:=by
  intro zs;induction zs with
  |nil=>rfl
  |cons z zs ih=>rw[fA];simp[iU,dG,Ideal.cellV,ih]
 simp only[aK.run,hx,hy];rw[YX (hfr xs) (hfr ys) hm (v:=.bool (decide (xs=ys))) (by
  show dK P (do pure (Value.bool (<- Op.equal t (.agg ⟨xs.map (.int .i64)⟩) (.agg ⟨ys.map (.int .i64)⟩))))=_;rw[fP,show dK P (Op.equal t (.agg ⟨xs.map (.int .i64)⟩) (.agg ⟨ys.map (.int .i64)⟩))=some (decide (xs=ys))from YZ (d:=9998) hu he hs hxl hyl];rfl) rfl]
def Gm(P:Program):ae Field->Nat->ae Bool->Bool
 |[],_,[]=>true
 |f::fs,i,k::ks=>!(f.name== "_")&&f.offset==i&&(match P.underlying f.type with
  |some (.int .i64)=>k
  |some .string=>!k
  |_=>false)&&Gm P fs (i+1) ks
 |_,_,_=>false
def cellsE:ae ah->ae ah->Bool
 | .int .i64 a::xs,.int .i64 b::ys=>decide (a=b)&&cellsE xs ys
 | .string a::xs,.string b::ys=>decide (a=b)&&cellsE xs ys
 |_,_=>true
def M9:ae Bool->ae ah->Bool
 |[],[]=>true
 |true::ks,.int .i64 _::vs=>M9 ks vs
 |false::ks,.string _::vs=>M9 ks vs
 |_,_=>false
def row_of{xs ys:ae ah}:∀{fs:ae Field} {i:Nat} {ks:ae Bool} {xs' ys':ae ah},Gm P fs i ks=true->M9 ks xs'=true->M9 ks ys'=true->(∀j,xs[i+j]? =xs'[j]?)->(∀j,ys[i+j]? =ys'[j]?)->Gl P xs ys fs (cellsE xs' ys')
 |[],i,[],[],[],_,_,_,_,_=>.nil
 |f::fs,i,k::ks,[],ys',h,hx,hy,ex,ey=>by cases k<;>cases hx
 |f::fs,i,k::ks,x::xs',[],h,hx,hy,ex,ey=>by cases k<;>cases hy
 |f::fs,i,k::ks,x::xs',y::ys',h,hx,hy,ex,ey=>by
  simp only[Gm,eP]at h;obtain⟨⟨⟨h1,h2⟩,h3⟩,h4⟩:=h;have h2:f.offset=i:=ua
  have e1:xs[f.offset]? =some x:=by have:=ex 0;rw[xL]at this;rw[h2,this];rfl
  have e2:ys[f.offset]? =some y:=by have:=ey 0;rw[xL]at this;rw[h2,this];rfl
  have Y0:∀j,xs[i+1+j]? =xs'[j]?:=λj=>by have:=ex (j+1);rw[show i+1+j=i+(j+1)by omega,this];rfl
  have Y1:∀j,ys[i+1+j]? =ys'[j]?:=λj=>by have:=ey (j+1);rw[show i+1+j=i+(j+1)by omega,this];rfl
  cases k with
  |true=>
   match x,hx,y,hy with
   | .int .i64 a,hx,.int .i64 b,hy=>
     have hu:P.underlying f.type=some (.int .i64):=by
      cases hq:P.underlying f.type with
      |none=>rw[hq]at h3;cases h3
      |some q=>
       rw[hq]at h3;cases q with
       |int kk=>cases kk<;>first|rfl|cases h3
       |string=>cases h3
       |_=>cases h3
     exact .cons tI e1 e2 (.int hu) (row_of h4 hx hy Y0 Y1)
  |false=>
   match x,hx,y,hy with
   | .string a,hx,.string b,hy=>
     have hu:P.underlying f.type=some .string:=by
      cases hq:P.underlying f.type with
      |none=>rw[hq]at h3;cases h3
      |some q=>
       rw[hq]at h3;cases q with
       |int kk=>cases kk<;>cases h3
       |string=>rfl
       |_=>cases h3
     exact .cons tI e1 e2 (.str hu) (row_of h4 hx hy Y0 Y1)
end
end Go.Ideal
namespace Go.Ideal
variable {P:Program}
variable{ρ:ay->ah}{x:ay}
def zz{src dst:aD}{kk k:IntKind}{n m:Int}{ds:TypeDesc}(hs:P.underlying src=some ds)(hd:P.underlying dst=some (.int k))(hx:ρ x=.int kk n)(hw:k.wrap n=m):Pu P ρ (.conv src dst x) (.int k m):=λh=>by
 have h1:dK P (convert src dst (.int kk n))=some (.int k m):=by
  unfold convert;rw[fP,qy hs];simp only[iL];rw[fP,qy hd];simp only[iL];rw[<- hw];rfl
 simp only[aK.run,hx,lN,h1];rfl
variable{a:Nat}
def Y2(h:a<18446744073709551616):IntKind.u64.wrap (a:Int)=a:=by
 show(let m:=(a:Int)%(2^64:Int);if false&&m>=(2^63:Int)then m - (2^64:Int)else m)=_;simp only[Bool.false_and,ww,if_false];rw[Int.emod_eq_of_lt s6 (by simpa using(by omega:(a:Int)<18446744073709551616))]
def Y3{y:ay}{t:aD}{b:Nat}(hx:ρ x=.int .u64 (a:Int))(hy:ρ y=.int .u64 (b:Int))(hb:b<64):Pu P ρ (.bin .shr t x y) (.int .u64 ((a>>>b:Nat):Int)):=λh=>by
 have hv:dK P (binOp .shr t (.int .u64 (a:Int)) (.int .u64 (b:Int)))=some (.int .u64 ((a>>>b:Nat):Int)):=by
  show dK P (Op.shift .shr .u64 a .u64 b)=_;unfold Op.shift;rw[if_neg s6];show some (Value.int .u64 ((a:Int).fdiv (2^(min (b:Int).toNat 64))))=_;exact gb
 have h1:lN P (do eqGuard .shr t x y (.int .u64 (a:Int)) (.int .u64 (b:Int));binOp .shr t (.int .u64 (a:Int)) (.int .u64 (b:Int)))=some (.int .u64 ((a>>>b:Nat):Int)):=by
  unfold lN;rw[fP,F9 AW wA];simp only[iL,hv];rfl
 have h2:l7 P .shr t x y (.int .u64 (a:Int)) (.int .u64 (b:Int))=some (.int .u64 ((a>>>b:Nat):Int)):=by
  unfold l7;have:(match xR .u64 .u64 with|true=>rJ .shr .u64 (a:Int) (b:Int)|false=>none)=none:=rfl;simp only[xR,dG,Pk,cond];exact h1
 simp only[aK.run,hx,hy,h2]
def RI{α:Type}[DecidableEq α]{bB:α->ah}{kt:aD}{d:TypeDesc}(hu:P.underlying kt=some d)(hn:∀a b,Instr.sameNow d (bB a) (bB b)=none)(he:∀a b,dK P (Op.equal kt (bB a) (bB b))=some (decide (a=b)))(a:α)(aA:ae (α×ah))(es:ae MapEntry)(h:rV bB aA es):wG P kt (bB a) es=some (rU a aA 0):=by
 have aiQ:∀(aA:ae (α×ah)) (es:ae MapEntry) (i:Nat),rV bB aA es->dK P (Instr.findAsking kt (bB a) es i)=some (rU a aA i):=by
  intro aA;induction aA with
  |nil=>
   intro es i h;exact oy
  |cons p aA ih=>
   intro es i h;obtain⟨e,es',rfl,h1,h2,h3⟩:=Rw h;unfold Instr.findAsking;rw[fP,h1,he];simp only[iL];unfold rU;by_cases hab:a=p.1
   .rw[eT hab,if_pos hab,h2];rfl
   .rw[bY hab,if_neg hab];exact ih es' (i+1) h3
 unfold wG Instr.findKey;rw[fP,qy hu];simp only[iL];cases aA with
 |nil=>
  exact oy
 |cons p aA=>
  have h':=h;obtain⟨e,es',rfl,h1,h2,h3⟩:=Rw h;have:Instr.findNow d (bB a) (e::es') 0=none:=by
   show(match Instr.sameNow d (bB a) e.key with
   |some true=>some (some (0,e.val))
   |some false=>Instr.findNow d (bB a) es' 1
   |none=>none)=_
   rw[h1,hn]
  rw[this];exact aiQ _ _ _ h'
abbrev jf:Int×Int->ah:=λp=>.agg ⟨[.int .i64 p.1,.int .i64 p.2]⟩
def aiR{kt e:aD}(hu:P.underlying kt=some (.array 2 e))(he:P.underlying e=some (.int .i64))(hs:P.info? e|>.map (·.size)|>(·=some 1))(hc:∀a b:Int,uh P kt (.agg ⟨[.int .i64 a,.int .i64 b]⟩)=true):rW P kt jf where
 Et a:=hc a.1 a.2
 find a aA es h:=RI hu (λa b=>rfl) (λa b=>by
  have:=YZ (d:=9998) (xs:=[a.1,a.2]) (ys:=[b.1,b.2]) hu he hs rfl rfl;rw[show decide (a=b)=decide ([a.1,a.2]=[b.1,b.2])from rF.2 ⟨λh=>by rw[h],λh=>by
   injection h with h1 h2;injection h2 with h2;exact Prod.ext h1 h2⟩]
  exact this) a aA es h
 same a:=by
  show((⟨[Value.int .i64 a.1,.int .i64 a.2]⟩:Array ah).size==(⟨[Value.int .i64 a.1,.int .i64 a.2]⟩:Array ah).size&&(List.zip [Value.int .i64 a.1,.int .i64 a.2] [Value.int .i64 a.1,.int .i64 a.2]).all λ(x,y)=>Instr.sameBits 9999 x y)=true;simp[Instr.sameBits]
end Go.Ideal
namespace Go.Ideal
section
variable {P:Program}
variable {ds:ae Tmp} {rest:ae bN} {n:Nat} {l:qr} {D:ae Deferred} {pm:ak FrameMode} {ro:ak Nat} {h:IH} {K:KO} {d:Nat} {g:ak (Tmp×Bool)}
variable{re:ae jc}
def Y4{op:aK}{v:ah}{h':IH}(hn:Nat.blt d n=true)(hg:bO l g=true)(hr:op.run P (ev l) h=some (v,h'))
 (hsm:∀q∈re,∃u h2,q.op.run P (ev ((d,v)::l)) h'=some (u,h2)/\∀d',q.dst=some d'->lk ((d,v)::l) d'=u)
 (next:aM P ds rest (act n ((d,v)::l) D pm ro) h' K):aM P ds (⟨⟨some d,g,op⟩,re⟩::rest) (act n l D pm ro) h K:=
 .mg (zn hg) v h' wx (λq hq _=>by
  obtain⟨u,h2,e1,e2⟩:=hsm q hq;exact fW) x7
variable{e:aD}{size bytes k:Nat}{s x:ay}{xs:ae ah}
def aiS{b o m:Nat}{f:ak Nat}{old:ae ah}(hn:Nat.blt d n=true)(hg:bO l g=true)
 (hs:ev l s=.slice (some ⟨b,o,f⟩) m m) (hx:ql (ev l x)=some (k+1)) (hxs:pE size (k+1) (ev l x) h=some xs) (hold:h.jd b o (m*size)=some old)
 (hf:f=some 0\/f=some size) (hm:(m+(k+1))*bytes<=1073741824/\(m+(k+1))*size<=1073741824/\m+(k+1)<=1073741824)
 (hsm:∀h',Cr h h' b (.cells (old++xs))->∀q∈re,∃u h2,q.op.run P (ev ((d,.slice (some ⟨h.next,0,some size⟩) (m+(k+1)) (m+(k+1)))::l)) h'=some (u,h2)/\∀d',q.dst=some d'->lk ((d,.slice (some ⟨h.next,0,some size⟩) (m+(k+1)) (m+(k+1)))::l) d'=u)
 (next:∀h',Cr h h' b (.cells (old++xs))->aM P ds rest (act n ((d,.slice (some ⟨h.next,0,some size⟩) (m+(k+1)) (m+(k+1)))::l) D pm ro) h' K):
 aM P ds (⟨⟨some d,g,.append e size bytes s x⟩,re⟩::rest) (act n l D pm ro) h K:=by
 have hle:∀{a b:Nat},a<=b->Nat.ble a b=true:=λh=>by rw[uY];exact h
 have hlt:Nat.ble (m+(k+1)) m=false:=by
  exact ph
 have hc:(Nat.ble (Nat.mul (m+(k+1)) bytes) small&&Nat.ble (Nat.mul (m+(k+1)) size) small&&Nat.ble (m+(k+1)) small)=true:=by
  exact gA
 have hrun:∃h',(aK.append e size bytes s x).run P (ev l) h=some (.slice (some ⟨h.next,0,some size⟩) (m+(k+1)) (m+(k+1)),h')/\Cr h h' b (.cells (old++xs)):=by
  exact cA
 obtain⟨h',hr,hM⟩:=hrun;exact Y4 hn hg hr (hsm h' hM) (next h' hM)
def aiT{c:Nat}(hn:Nat.blt d n=true)(hg:bO l g=true)
 (hs:ev l s=.slice none 0 0) (hx:ql (ev l x)=some (k+1)) (hxs:pE size (k+1) (ev l x) h=some xs)
 (hm:(k+1)*bytes<=1073741824/\(k+1)*size<=1073741824/\(k+1)<=1073741824)
 (hsm:∀h',Agree h h'->At h' h.next (.cells xs)->h'.next=h.next+1->∀q∈re,∃u h2,q.op.run P (ev ((d,.slice (some ⟨h.next,0,some size⟩) (k+1) (k+1))::l)) h'=some (u,h2)/\∀d',q.dst=some d'->lk ((d,.slice (some ⟨h.next,0,some size⟩) (k+1) (k+1))::l) d'=u)
 (next:∀h',Agree h h'->At h' h.next (.cells xs)->h'.next=h.next+1->aM P ds rest (act n ((d,.slice (some ⟨h.next,0,some size⟩) (k+1) (k+1))::l) D pm ro) h' K):
 aM P ds (⟨⟨some d,g,.append e size bytes s x⟩,re⟩::rest) (act n l D pm ro) h K:=by
 have hle:∀{a b:Nat},a<=b->Nat.ble a b=true:=λh=>by rw[uY];exact h
 have e0:Nat.add 0 (k+1)=k+1:=eB _;refine Y4 hn hg (h':=h.new (.cells xs)) ?_ (hsm _ (QW _ _) (QX _ _) rfl) (next _ (QW _ _) (QX _ _) rfl);have Eg:Al size (k+1) (ev l x) h=some xs:=hxs;simp only[aK.run,hx,Eg,hs,zb,e0];rw[hle (show Nat.mul (k+1) bytes<=small from hm.1),hle (show Nat.mul (k+1) size<=small from hm.2.1),hle (show k+1<=small from hm.2.2)];have e1:pE size 0 (.slice none 0 0) h=some []:=by
  exact qu
 have e2:Nat.ble (k+1) 0=false:=rfl;simp only[Pk,cond_true,e2,cond_false,e1,jW,cK]
end
section
variable {P:Program}
variable {ρ:ay->ah}
variable {B:ae Nat} {w0:Wd} {kl kl':ae OA} {F:ae aI} {a:bi} {K:KO}
variable {y:dz} {i j m0:Nat} {I:Nat->bi->IH->Prop} {ch:ae PanicEntry}
variable {B:ae Nat} {w0:Wd} {kl kl':ae OA} {F:ae aI} {K:KO} {ds:ae Tmp} {rest:ae bN} {n:Nat} {l:qr} {D:ae Deferred} {pm:ak FrameMode} {ro:ak Nat} {d:Nat} {g:ak (Tmp×Bool)}
def aiU{re:ae jc}{α:Type}{E:Enc α}{e:aD}{size bytes b':Nat}{s x:ay}{v:ah}{xs:ae α}{a:α}{y:E.Y}{cs:ae ah}{k1 k2:ae OA}(hn:Nat.blt d n=true)(hg:bO l g=true)
 (hs:ev l s=v) (hx:ev l x=.slice (some ⟨b',0,some 0⟩) 1 1) (hk:aB (ap E v xs) kl k1) (hc:aB (pt b' (.cells cs)) k1 k2) (hp:cs=E.pat a y) (hF:Sub (E.fs a y) F) (hz:E.n=size)
 (hm:(xs.length+1)*bytes<=1073741824/\(xs.length+1)*size<=1073741824/\xs.length+1<=1073741824)
 (hsm:∀ad,Same P re (ev ((d,.slice ad (xs.length+1) (xs.length+1))::l)) ((d,.slice ad (xs.length+1) (xs.length+1))::l) B w0 (ap E (.slice ad (xs.length+1) (xs.length+1)) (xs++[a])::k2) F)
 (r:∀ad,R (λh=>aM P ds rest (act n ((d,.slice ad (xs.length+1) (xs.length+1))::l) D pm ro) h K) B w0 (ap E (.slice ad (xs.length+1) (xs.length+1)) (xs++[a])::k2) F):
 R (λh=>aM P ds (⟨⟨some d,g,.append e size bytes s x⟩,re⟩::rest) (act n l D pm ro) h K) B w0 kl F:=by
 intro w st;subst hp hz;have hlen:=E.len a y;have st2:St B w0 (ap E v xs::pt b' (.cells (E.pat a y))::k2) F w:=st.lF (.cons hk (.cons hc .nil));have hat:At w.h b' (.cells (E.pat a y)):=st2.at_ (.there .here);have pG:St B w0 (ap E v xs::k2) F w:=(st2.fI (.there .here)).tail;have hfs:∀f∈E.fs a y,f.p w:=λf hf=>st.facts f (hF.mem f hf);have hread:w.h.jd b' 0 (1*E.n)=some (E.pat a y):=by
  exact lP
 have hx1:ql (ev l x)=some (0+1):=by rw[hx];rfl
 have hx2:pE E.n (0+1) (ev l x) w.h=some (E.pat a y):=AT
 have put:∀(w':Wd) (c:Nat) (f:Nat) (cells:ae ah),cells.length=xs.length*E.n->(∀(k:Nat) z,xs[k]? =some z->∃y,(∀(j:Nat) u,(E.pat z y)[j]? =some u->cells[k*E.n+j]? =some u)/\∀f∈E.fs z y,f.p w')->(∀f∈E.fs a y,f.p w')->
  (f=0\/f=E.n)->∀S,(pt c (.cells (cells++E.pat a y))).p w' S->(ap E (.slice (some ⟨c,0,some f⟩) (xs.length+1) (xs.length+1)) (xs++[a])).p w' S:=by
  intro w' c f cells h1 h2 h3 h4 S hp;refine .inr ⟨c,0,f,_,by rw[eF];rfl,h4,hp.1,hp.2,by rw[eF,eF,h1,hlen,u7,rD,Ad,eB],λk z hk=>?_⟩;by_cases hlt:k<xs.length
  .exact ew
  .exact cU
 obtain⟨S,⟨S1,S2,q,q2,e1⟩,hnd,hown⟩:=pG.own;rcases q with⟨rfl,rfl,rfl⟩|⟨b,o,f,cells,rfl,hf,rfl,hb,hcl,hel⟩
 .have key:∀h',Agree w.h h'->At h' w.h.next (.cells (E.pat a y))->h'.next=w.h.next+1->∃w':Wd,w'.h=h'/\St B w0 (ap E (.slice (some ⟨w.h.next,0,some E.n⟩) (([]:ae α).length+1) (([]:ae α).length+1)) ([]++[a])::k2) F w':=λh' ag rP hnx=>by
   obtain⟨w',rfl,jY⟩:=pG.tail.fresh ag rP hnx;refine⟨w',rfl,?_⟩;have hle:∀f∈E.fs a y,f.p w':=λf hf=>jY.facts f (hF.mem f hf);exact jY.zo λS hp=>put w' _ E.n [] s7 (λk z hk=>by cases hk) hle (.inr rfl) S hp
  refine aiT (c:=0) hn hg hs hx1 hx2 (by simpa using hm) (λh' ag rP hnx=>?_) λh' ag rP hnx=>?_
  .obtain⟨w',rfl,jY⟩:=key h' ag rP hnx;exact hsm _ w' jY
  .obtain⟨w',rfl,jY⟩:=key h' ag rP hnx;exact r _ w' jY
 .have zq:St B w0 (pt b (.cells cells)::k2) F w:=⟨pG.agree,pG.le,pG.fH,⟨S,⟨_,S2,⟨rfl,hb⟩,q2,e1⟩,hnd,hown⟩,pG.facts⟩
  have Jg:At w.h b (.cells cells):=zq.at_ .here;have key:∀h',Cr w.h h' b (.cells (cells.drop o++E.pat a y))->∃w':Wd,w'.h=h'/\St B w0 (ap E (.slice (some ⟨w.h.next,0,some E.n⟩) (xs.length+1) (xs.length+1)) (xs++[a])::k2) F w':=λh' mv=>by
   obtain⟨w',rfl,jY,AV⟩:=zq.move mv;refine⟨w',rfl,jY.zo λS hp=>?_⟩;have hle:∀f∈E.fs a y,f.p w':=λf hf=>jY.facts f (hF.mem f hf);refine put w' _ E.n (cells.drop o) tj (λk z hk=>?_) hle (.inr rfl) S hp;obtain⟨y',u1,u2⟩:=hel k z hk;exact⟨y',λj u hj=>by rw[jU,<- l5];exact u1 j u hj,λf hf=>f.mono AV (u2 f hf)⟩
  refine aiS (old:=cells.drop o) (xs:=E.pat a y) hn hg hs hx1 hx2 ?_ (hf.elim (λe=>.inl (by rw[e])) λe=>.inr (by rw[e])) hm (λh' mv=>?_) λh' mv=>?_
  .have hdl:(cells.drop o).length=xs.length*E.n:=by rw[lu];omega
   rw[Jg.cX.jd,qp,qJ,if_pos s6,<- hdl,fu]
  .obtain⟨w',rfl,jY⟩:=key h' mv;exact hsm _ w' jY
  .obtain⟨w',rfl,jY⟩:=key h' mv;exact r _ w' jY
end
section
variable {P:Program} {B:ae Nat} {w0:Wd} {kl kl' bz:ae OA} {F:ae aI} {K:KO} {n:Nat} {l:qr} {D:ae Deferred} {pm:ak FrameMode} {ro:ak Nat}
def Y5{re:ae jc}{α:Type}(E:Enc α){ds:ae Tmp}{rest:ae bN}{d:Nat}{g:ak (Tmp×Bool)}{e:aD}{size bytes b':Nat}{s x:ay}{v:ah}{xs:ae α}(a:α)(y:E.Y){cs:ae ah}{k1 k2:ae OA}
 (hm:(xs.length+1)*bytes<=1073741824/\(xs.length+1)*size<=1073741824/\xs.length+1<=1073741824)
 (next:∀ad,R (λh=>aM P ds rest (act n ((d,.slice ad (xs.length+1) (xs.length+1))::l) D pm ro) h K) B w0 (ap E (.slice ad (xs.length+1) (xs.length+1)) (xs++[a])::k2) F)
 (hn:Nat.blt d n=true:=by rfl) (hg:bO l g=true:=by rfl)
 (hs:ev l s=v:=by conv=>lhs;whnf) (hx:ev l x=.slice (some ⟨b',0,some 0⟩) 1 1:=by rfl) (hk:aB (ap E v xs) kl k1:=by exact dU) (hc:aB (pt b' (.cells cs)) k1 k2:=by exact dU) (hp:cs=E.pat a y:=by rfl) (hF:Sub (E.fs a y) F:=by exact mo) (hz:E.n=size:=by rfl)
 (hsm:∀ad,Same P re (ev ((d,.slice ad (xs.length+1) (xs.length+1))::l)) ((d,.slice ad (xs.length+1) (xs.length+1))::l) B w0 (ap E (.slice ad (xs.length+1) (xs.length+1)) (xs++[a])::k2) F:=by intro _;repeat (first|exact Cy|refine Em rfl dU tb rfl ?_|refine Ga rfl iN tb rfl ?_|refine Ji rfl iN tb rfl ?_|refine Jj rfl dU tb rfl ?_|refine Jk rfl iN tb rfl ?_|refine Jl rfl iN tb rfl ?_|refine Rj Dd rfl ?_)):
 R (λh=>aM P ds (⟨⟨some d,g,.append e size bytes s x⟩,re⟩::rest) (act n l D pm ro) h K) B w0 kl F:=
 aiU hn hg hs hx hk hc hp hF hz hm hsm next
end
variable {P:Program}
section
variable {α κ:Type} [DecidableEq κ] {bB:κ->ah} {E:Enc α}
def qA(E:Enc α):ae (κ×ah)->ae (κ×ae α)->ae OA
 |p::aA,q::m=>ap E p.2 q.2::qA E aA m
 |_,_=>[]
def wW(E:Enc α)(n:κ):ae (κ×ah)->ae (κ×ae α)->ae OA
 |p::aA,q::m=>if n=p.1 then qA E aA m else ap E p.2 q.2::wW E n aA m
 |_,_=>[]
def JD(bB:κ->ah)(E:Enc α)(b:Nat)(m:ae (κ×ae α)):OA:=
 ⟨λw S=>∃aA:ae (κ×ah),aA.map (·.1)=m.map (·.1)/\gq w (fV bB b aA::qA E aA m) S,λa h ⟨aA,h1,h2⟩=>⟨aA,h1,gq.loc a h h2⟩⟩
def Y6(E:Enc α)(n:κ)(aA:ae (κ×ah))(m:ae (κ×ae α)):OA:=⟨λw S=>gq w (wW E n aA m) S,λa h hp=>gq.loc a h hp⟩
def Y7(E:Enc α)(aA:ae (κ×ah))(m:ae (κ×ae α)):OA:=⟨λw S=>gq w (qA E aA m) S,λa h hp=>gq.loc a h hp⟩
def Y8(E:Enc α)(aA:ae (κ×ah))(m:ae (κ×ae α)):aI:=
 ⟨λw=>∀n v xs,dF n aA=some v->dF n m=some xs->(aj E v xs).p w,λa h n v xs h1 h2=>(aj E v xs).mono a (h n v xs h1 h2)⟩
def RJ{β γ:Type}{n:κ}:∀{aA:ae (κ×β)} {m:ae (κ×γ)},aA.map (·.1)=m.map (·.1)->(dF n aA=none↔dF n m=none)
 |[],[],_=>⟨λ_=>rfl,λ_=>rfl⟩
 |(a,u)::aA,(b,x)::m,h=>by
  rw[fA,fA]at h;injection h with h1 h2;have h1:a=b:=h1;subst h1;unfold dF;by_cases e:n=a
  .rw[if_pos e,if_pos e];exact⟨λh=>(nomatch h),λh=>(nomatch h)⟩
  .rw[if_neg e,if_neg e];exact RJ h2
 |[],_::_,h=>by cases h
 |_::_,[],h=>by cases h
def Y9{n:κ}:∀{aA:ae (κ×ah)} {m:ae (κ×ae α)},dF n aA=none->wW E n aA m=qA E aA m
 |[],_,_=>by unfold wW qA;rfl
 |_::_,[],_=>by unfold wW qA;rfl
 |(a,u)::aA,(b,x)::m,h=>by
  unfold dF at h;by_cases e:n=a
  .rw[if_pos e]at h;cases h
  .rw[if_neg e]at h;unfold wW qA;rw[if_neg e,Y9 h]
def RN{n:κ}{v:ah}{xs:ae α}:∀{aA:ae (κ×ah)} {m:ae (κ×ae α)},aA.map (·.1)=m.map (·.1)->dF n aA=some v->dF n m=some xs->aB (ap E v xs) (qA E aA m) (wW E n aA m)
 |[],_,_,h,_=>by cases h
 |_::_,[],h,_,_=>by cases h
 |(a,u)::aA,(b,x)::m,h,h1,h2=>by
  rw[fA,fA]at h;injection h with e1 e2;have e1:a=b:=e1;subst e1;unfold dF at h1 h2;unfold qA wW;by_cases e:n=a
  .rw[if_pos e]at h1 h2⊢;cases h1;cases h2;exact .here
  .rw[if_neg e]at h1 h2⊢;exact .there (RN e2 h1 h2)
def Za{n:κ}{v:ah}{xs:ae α}:∀{aA:ae (κ×ah)} {m:ae (κ×ae α)},aA.map (·.1)=m.map (·.1)->aB (ap E v xs) (qA E (upd n v aA) (upd n xs m)) (wW E n aA m)
 |[],[],_=>by unfold upd wW qA qA;exact .here
 |[],_::_,h=>by cases h
 |_::_,[],h=>by cases h
 |(a,u)::aA,(b,x)::m,h=>by
  rw[fA,fA]at h;injection h with e1 e2;have e1:a=b:=e1;subst e1;unfold upd wW;by_cases e:n=a
  .rw[if_pos e,if_pos e,if_pos e];rw[show qA E ((n,v)::aA) ((n,xs)::m)=ap E v xs::qA E aA m from rfl];exact .here
  .rw[if_neg e,if_neg e,if_neg e];rw[show qA E ((a,u)::upd n v aA) ((a,x)::upd n xs m)=ap E u x::qA E (upd n v aA) (upd n xs m)from rfl];exact .there (Za e2)
def JE{β γ:Type}{n:κ}{v:β}{x:γ}:∀{aA:ae (κ×β)} {m:ae (κ×γ)},aA.map (·.1)=m.map (·.1)->(upd n v aA).map (·.1)=(upd n x m).map (·.1)
 |[],[],_=>rfl
 |[],_::_,h=>by cases h
 |_::_,[],h=>by cases h
 |(a,u)::aA,(b,y)::m,h=>by
  rw[fA,fA]at h;injection h with e1 e2;have e1:a=b:=e1;subst e1;unfold upd;by_cases e:n=a
  .rw[if_pos e,if_pos e,fA,fA,e2]
  .rw[if_neg e,if_neg e,fA,fA,JE e2]
variable {B:ae Nat} {w0:Wd} {kl kl' bz k1 k2:ae OA} {F:ae aI} {Q:IH->Prop} {b:Nat} {m:ae (κ×ae α)}
def aiV(E:Enc α)(h:R Q B w0 (JD bB E b ([]:ae (κ×ae α))::kl') F)(hk:aB (fV bB b []) kl kl':=by exact dU):R Q B w0 kl F:=
 .perm (λw S hS=>by
  obtain⟨S',⟨T1,T2,u1,u2,e⟩,hp⟩:=hS.fI hk;exact⟨S',⟨T1,T2,⟨[],rfl,T1,[],u1,rfl,s7⟩,u2,e⟩,hp⟩) h
def aiW(n:κ)(hk:aB (JD bB E b m) kl kl':=by exact dU)
 (h:∀(aA:ae (κ×ah)) (v:ah),aA.map (·.1)=m.map (·.1)->jJ false (.slice none 0 0) n aA=v->R Q B w0 (fV bB b aA::ap E v ((dF n m).getD [])::Y6 E n aA m::kl') F):R Q B w0 kl F:=λw s=>by
 obtain⟨S,⟨S1,S2,⟨aA,hkeys,T1,T2,u1,u2,e1⟩,q2,e⟩,hnd,hall⟩:=(s.fI hk).own;have key:∃T',gq w (ap E (jJ false (.slice none 0 0) n aA) ((dF n m).getD [])::wW E n aA m) T'/\T2.Perm T':=by
  cases hl:dF n aA with
  |none=>
   have hm:=(RJ (n:=n) hkeys).1 hl;have e1:jJ false (.slice none 0 0) n aA=.slice none 0 0:=by unfold jJ;rw[hl];rfl
   rw[e1,hm,Y9 hl];exact⟨T2,⟨[],T2,.inl ⟨rfl,rfl,rfl⟩,u2,rfl⟩,.refl _⟩
  |some v=>
   cases hm:dF n m with
   |none=>rw[(RJ (n:=n) hkeys).2 hm]at hl;cases hl
   |some xs=>
    have e1:jJ false (.slice none 0 0) n aA=v:=by unfold jJ;rw[hl];rfl
    rw[e1];exact u2.fI (RN hkeys hl hm)
 obtain⟨T',⟨T3,T4,u3,u4,e3⟩,hp⟩:=key;subst e e1 e3;have hperm:((T1++T2)++S2).Perm (T1++(T3++(T4++S2))):=by
  rw[List.append_assoc];refine List.Perm.append_left T1 ?_;rw[<- List.append_assoc];exact List.Perm.append_right S2 hp
 exact h aA _ hkeys rfl w ⟨s.agree,s.le,s.fH,⟨_,⟨T1,_,u1,⟨T3,_,u3,⟨T4,S2,u4,q2,rfl⟩,rfl⟩,rfl⟩,hperm.nodup hnd,λi hi=>hall i (hperm.mem_iff.2 hi)⟩,s.facts⟩
def aiX(n:κ){aA:ae (κ×ah)}{v:ah}{xs:ae α}(hkeys:aA.map (·.1)=m.map (·.1))(h:R Q B w0 (JD bB E b (upd n xs m)::bz) F)
 (h1:aB (fV bB b (upd n v aA)) kl k1:=by exact dU) (h2:aB (ap E v xs) k1 k2:=by exact dU) (h3:aB (Y6 E n aA m) k2 bz:=by exact dU):R Q B w0 kl F:=
 .perm (λw S hS=>by
  obtain⟨S1,S2,q1,q2,hp⟩:=hS.lF (.cons h1 (.cons h2 (.cons h3 .nil)));obtain⟨T1,U1,u1,⟨T2,U2,u2,⟨T3,U3,u3,u4,e3⟩,e2⟩,e1⟩:=q1;have u4:U3=[]:=u4;subst u4 e3 e2 e1;obtain⟨V,v1,v2⟩:=gq.Rq (Za (E:=E) (n:=n) (v:=v) (xs:=xs) hkeys) (S:=T2++T3) (w:=w) ⟨T2,T3,u2,u3,rfl⟩;refine⟨(T1++V)++S2,⟨T1++V,S2,⟨upd n v aA,JE hkeys,⟨T1,V,u1,v1,rfl⟩⟩,q2,rfl⟩,hp.trans ?_⟩;exact pe) h
def aiY(h:∀aA:ae (κ×ah),aA.map (·.1)=m.map (·.1)->R Q B w0 (fV bB b aA::Y7 E aA m::kl') F)(hk:aB (JD bB E b m) kl kl':=by exact dU):R Q B w0 kl F:=λw s=>by
 obtain⟨S,⟨S1,S2,⟨aA,hkeys,T1,T2,u1,u2,e1⟩,q2,e⟩,hnd,hall⟩:=(s.fI hk).own;subst e e1;refine h aA hkeys w ⟨s.agree,s.le,s.fH,⟨T1++(T2++S2),⟨T1,_,u1,⟨T2,S2,u2,q2,rfl⟩,rfl⟩,?_,λi hi=>hall i ?_⟩,s.facts⟩
 .rw[<- List.append_assoc];exact hnd
 .rw[List.append_assoc];exact hi
def aiZ{aA:ae (κ×ah)}(hkeys:aA.map (·.1)=m.map (·.1)):oK (Y7 E aA m) [Y8 E aA m]:=by
 intro w w' S hS hle hh hz f hf;rw[bA.1 hf];have hS:gq w (qA E aA m) S:=hS;clear hf;intro n v xs h1 h2;obtain⟨S',⟨T1,T2,u1,_,e⟩,hp⟩:=hS.fI (RN hkeys h1 h2);subst e;exact jr w w' T1 u1 hle hh (λi hi=>hz i (hp.mem_iff.2 (jl _ hi))) _ (bA.2 rfl)
end
end Go.Ideal
namespace Go.Ideal
variable {P:Program} {B:ae Nat} {w0:Wd} {kl kl' bz:ae OA} {F:ae aI} {K:KO} {ds:ae Tmp} {rest:ae bN} {n:Nat} {l:qr} {D:ae Deferred} {pm:ak FrameMode} {ro:ak Nat} {d:Nat} {g:ak (Tmp×Bool)}
def Zb{α:Type}(E:Enc α){x i:ay}{v:ah}{xss:ae (ae α)}(k:Nat)(xs:ae α){kk:IntKind}{d2:Nat}{g2:ak (Tmp×Bool)}(hz:xss[k]? =some xs)
 (next:∀b o u,R (λh=>aM P ds rest (act n ((d2,u)::(d,.pointer (some ⟨b,o,none⟩))::l) D pm ro) h K) B w0 kl (aj E u xs::F))
 (hn:Nat.blt d n=true:=by rfl) (hg:bO l g=true:=by rfl) (hn2:Nat.blt d2 n=true:=by rfl) (hg2:∀u,bO ((d,u)::l) g2=true:=by intro _;rfl) (hx:ev l x=v:=by conv=>lhs;whnf) (hi:ev l i=.int kk (k:Int):=by rfl)
 (hk:aB (ap (az E) v xss) kl kl':=by exact dU):
 R (λh=>aM P ds (⟨⟨some d,g,.jw 1 x i⟩,[]⟩::⟨⟨some d2,g2,.fE (.tmp d)⟩,[]⟩::rest) (act n l D pm ro) h K) B w0 kl F:=by
 intro w s;have s1:=s.fI hk;obtain⟨S,⟨S1,S2,p,p2,e⟩,h2,h3⟩:=s1.own;have hlt:=(aV.1 hz).1;rcases p with⟨h,_⟩|⟨b,o,f,cells,e1,hf,e2,hb,hcl,hel⟩
 .rw[h]at hz;cases hz
 .subst e1;obtain⟨y,u1,u2⟩:=hel k xs hz;have hc:cells[o+(k:Int).toNat*1]? =some y:=by
   have:=u1 0 y rfl;simpa[az]using this
  exact dr
end Go.Ideal
namespace Go.Ideal
variable {P:Program} {B:ae Nat} {w0:Wd} {kl kl' bz k1 k2:ae OA} {F:ae aI} {Q:IH->Prop}
section
variable {β:Type} (A:ah->β->OA)
def wX(vs:ae ah)(xss:ae β):ae OA:=(vs.zip xss).map λp=>A p.1 p.2
def qB(b:Nat)(xss:ae β):OA:=
 ⟨λw S=>∃vs:ae ah,vs.length=xss.length/\gq w (pt b (.cells vs)::wX A vs xss) S,λa h ⟨vs,h1,h2⟩=>⟨vs,h1,gq.loc a h h2⟩⟩
def Zc(vs:ae ah)(xss:ae β)(k:Nat):OA:=
 ⟨λw S=>gq w ((wX A vs xss).eraseIdx k) S,λa h hp=>gq.loc a h hp⟩
variable{xss:ae β}{k:Nat}{vs:ae ah}{v:ah}{xs:β}
def Zd(hv:vs[k]? =some v)(hx:xss[k]? =some xs):(wX A vs xss)[k]? =some (A v xs):=by
 simp[wX,List.zip,bU,List.getElem?_zipWith,hv,hx]
variable{b:Nat}
def Ze(hx:xss[k]? =some xs)(hk:aB (qB A b xss) kl kl':=by exact dU)
 (h:∀(vs:ae ah) (v:ah),vs.length=xss.length->vs[k]? =some v->R Q B w0 (pt b (.cells vs)::A v xs::Zc A vs xss k::kl') F):R Q B w0 kl F:=λw s=>by
 obtain⟨S,⟨S1,S2,⟨vs,h1,h2⟩,q2,e⟩,hnd,hall⟩:=(s.fI hk).own;subst e;have hlt:=(aV.1 hx).1;have hv:vs[k]? =some (vs[k]'(s6)):=bG s6;refine h vs _ h1 hv w ?_;have hg:(wX A vs xss)[k]? =some (A (vs[k]'(s6)) xs):=Zd A hv hx;obtain⟨T1,T2,u1,u2,e⟩:=h2;obtain⟨T3,⟨T4,T5,u4,u5,e5⟩,u6⟩:=u2.fI (aB.at hg);subst e5 e;have hperm:((T1++T2)++S2).Perm (T1++(T4++(T5++S2))):=by
  rw[List.append_assoc];refine List.Perm.append_left T1 ?_;rw[<- List.append_assoc];exact List.Perm.append_right S2 u6
 exact⟨s.agree,s.le,s.fH,⟨T1++(T4++(T5++S2)),⟨T1,_,u1,⟨T4,_,u4,⟨T5,S2,u5,q2,rfl⟩,rfl⟩,rfl⟩,hperm.nodup hnd,λi hi=>hall i (hperm.mem_iff.2 hi)⟩,s.facts⟩
def ai0:wX A (vs.set k v) (xss.set k xs)=(wX A vs xss).set k (A v xs):=by
 apply iH;intro j;simp only[wX,bU,nY,List.zip,List.getElem?_zipWith];by_cases e:k=j
 .subst e;by_cases h1:k<vs.length
  .by_cases h2:k<xss.length
   .simp[h1,h2];omega
   .simp[h1,h2];omega
  .simp[h1];omega
 .simp[e]
def Zf{xs:β}(hlen:vs.length=xss.length)(hk:k<xss.length)(h1:aB (pt b (.cells (vs.set k v))) kl k1:=by exact dU)
 (h2:aB (A v xs) k1 k2:=by exact dU) (h3:aB (Zc A vs xss k) k2 bz:=by exact dU) (h:R Q B w0 (qB A b (xss.set k xs)::bz) F):R Q B w0 kl F:=
 .perm (λw S hS=>by
  obtain⟨S1,S2,q1,q2,hp⟩:=hS.lF (.cons h1 (.cons h2 (.cons h3 .nil)));obtain⟨T1,U1,u1,⟨T2,U2,u2,⟨T3,U3,u3,u4,e3⟩,e2⟩,e1⟩:=q1;have u4:U3=[]:=u4;subst u4 e3 e2 e1;have hl:((wX A vs xss).set k (A v xs))[k]? =some (A v xs):=by
   rw[nY,if_pos rfl,if_pos (by simp[wX];omega)]
  obtain⟨V,v1,v2⟩:=gq.Rq (aB.at hl) (S:=T2++T3) (w:=w) ⟨T2,T3,u2,by rw[Yz];exact u3,rfl⟩;refine⟨(T1++V)++S2,⟨T1++V,S2,⟨vs.set k v,by simp[hlen],⟨T1,V,u1,by rw[ai0];exact v1,rfl⟩⟩,q2,rfl⟩,hp.trans ?_⟩;exact pe) h
def ai1{m:Nat}{v0:ah}{x0:β}(h0:∀w,(A v0 x0).p w [])(hk:aB (pt b (.cells (List.replicate m v0))) kl kl':=by exact dU)(h:R Q B w0 (qB A b (List.replicate m x0)::kl') F):R Q B w0 kl F:=
 .perm (λw S hS=>by
  obtain⟨S',⟨T1,T2,u1,u2,e⟩,hp⟩:=hS.fI hk;refine⟨S',⟨T1,T2,⟨List.replicate m v0,s7,⟨T1,[],u1,?_,s7⟩⟩,u2,e⟩,hp⟩;have:∀m,gq w (wX A (List.replicate m v0) (List.replicate m x0)) []:=by
   intro m;induction m with
   |zero=>rfl
   |succ m ih=>exact⟨[],[],h0 w,ih,rfl⟩
  exact this m) h
def ai2{E:Enc β}{c:Nat}(fv:ah->E.Y)(hn:E.n=1)(hpat:∀x v,E.pat x (fv v)=[v])(hA:∀v xs,oK (A v xs) (E.fs xs (fv v)))(hc:xss.length<=c:=by first|exact aZ _|omega):oK (qB A b xss) [aj E (.slice (some ⟨b,0,some 0⟩) xss.length c) xss]:=by
 intro w w' S ⟨vs,hlen,T1,T2,⟨h1,h2⟩,u2,e⟩ hle hh hz f hf;subst e;rw[bA.1 hf];refine .inr ⟨b,0,0,c,vs,⟨rfl,hc,.inl rfl⟩,⟨hz b xp,.inl tW⟩,λk xs hk=>?_⟩;have hlt:=(aV.1 hk).1;have hv:vs[k]? =some (vs[k]'(s6)):=bG s6;have hg:(wX A vs xss)[k]? =some (A (vs[k]'(s6)) xs):=Zd A hv hk;obtain⟨T3,⟨T4,T5,u4,u5,e5⟩,u6⟩:=u2.fI (aB.at hg);subst e5;refine⟨fv (vs[k]'(s6)),λj u hj=>?_,λg hgm=>?_⟩
 .rw[hpat]at hj;match j,hj with
  |0,hj=>
   cases hj;show vs[0+k*E.n+0]? =_;rw[hn];simp
 .exact hA _ _ w w' T4 u4 hle hh (λi hi=>hz i (nD _ (u6.mem_iff.2 (jl _ hi)))) g hgm
end
def Na{α:Type}(v:ah)(xs:ae α):aI:=⟨λ_=>xs=[]->v=.slice none 0 0,λ_ h=>h⟩
def nO{α:Type}(E:Enc α)(v:ah)(xs:ae α):OA:=⟨λw S=>(ap E v xs).p w S/\(xs=[]->v=.slice none 0 0),λa h hp=>⟨(ap E v xs).loc a h hp.1,hp.2⟩⟩
def wY{α:Type}(E:Enc α):Enc (ae α):=⟨1,ah,λ_ v=>[v],λxs v=>[aj E v xs,Na v xs],λ_ _=>rfl⟩
variable{α:Type}{v:ah}
def ai3{E:Enc α}{xs:ae α}:oK (nO E v xs) [aj E v xs,Na v xs]:=by
 intro w w' S hp hle hh hz f hf;rcases bH.1 hf with rfl|hf
 .exact jr w w' S hp.1 hle hh hz _ (bA.2 rfl)
 .rw[bA.1 hf];exact hp.2
def Zg(E:Enc α)(v:ah)(xs:ae α)(h:(xs=[]->v=.slice none 0 0)->R Q B w0 (ap E v xs::kl') F)(hk:aB (nO E v xs) kl kl':=by exact dU):R Q B w0 kl F:=λw s=>by
 obtain⟨S,⟨S1,S2,q1,q2,e⟩,h2,h3⟩:=(s.fI hk).own;exact h q1.2 w ⟨s.agree,s.le,s.fH,⟨S,⟨S1,S2,q1.1,q2,e⟩,h2,h3⟩,s.facts⟩
def Zh(E:Enc α)(v:ah)(xs:ae α)(hz:xs=[]->v=.slice none 0 0)(h:R Q B w0 (nO E v xs::kl') F)(hk:aB (ap E v xs) kl kl':=by exact dU):R Q B w0 kl F:=λw s=>
 h w ((s.fI hk).Cv (A:=ap E v xs) λw S hp=>⟨hp,hz⟩)
variable{w:Wd}
def Zi{E:Enc α}{xss:ae (ae α)}(h:(aj (wY E) v xss).p w):(aj (az E) v xss).p w:=by
 rcases h with h|⟨i,o,f,c,cells,h1,h2,h3⟩
 .exact .inl h
 .refine .inr ⟨i,o,f,c,cells,h1,h2,λk x hk=>?_⟩;obtain⟨y,q1,q2⟩:=h3 k x hk;exact⟨y,q1,λf hf=>q2 f (by rw[bA.1 hf];exact dD ..)⟩
def JF{A A':OA}(e:A=A')(h:R Q B w0 (A'::kl') F)(hk:aB A kl kl':=by exact dU):R Q B w0 kl F:=by
 subst e;exact λw s=>h w (s.fI hk)
def St.Zj{E:Enc α}{aC:ae (α×E.Y)}(h0:0<aC.length)(hall:(qz E aC).p w)(s:St B w0 (ar E v aC::kl') F w):St B w0 (ap E v (aC.map (·.1))::kl') F w:=by
 obtain⟨S,⟨S1,S2,q1,q2,e⟩,h2,h3⟩:=s.own;refine⟨s.agree,s.le,s.fH,⟨S,⟨S1,S2,?_,q2,e⟩,h2,h3⟩,s.facts⟩;rcases q1 with⟨h4,_⟩|⟨b,f,h4,h5,h6,h7⟩
 .rw[h4]at h0;simp at h0
 .refine .inr ⟨b,0,f,_,by rw[aR];exact h4,h5,h6,h7,by rw[yE,aR,eB],λk x hk=>?_⟩;rw[bU]at hk;cases hp:aC[k]? with
  |none=>rw[hp]at hk;cases hk
  |some p=>
   rw[hp]at hk;cases hk;exact⟨p.2,λj u hj=>by rw[eB];exact yF hp hj,λf hf=>hall p (aT hp) f hf⟩
def Zk{E:Enc α}{aC:ae (α×E.Y)}(h0:0<aC.length)(h:R Q B w0 (ap E v (aC.map (·.1))::kl') F)(hfs:∀w,(∀f∈F,f.p w)->(qz E aC).p w)(hk:aB (ar E v aC) kl kl':=by exact dU):R Q B w0 kl F:=λw s=>
 h w (St.Zj h0 (hfs w s.facts) (s.fI hk))
end Go.Ideal
namespace Go.Ideal
variable {P:Program}
def Gn{α:Type}(P:Program)(vals:α->ae ah)(fe:α->ae aI)(fn:Fn)(first cap:ae ah)(F:ae aI)(X:ae α->Prop):Prop:=
 ∀(S:Type) (inv:S->ae OA) (ok:ae α->S->Prop) (step:S->α->S×Bool) (s0:S) (tq:Fn) (y1 y2:ae ah) (F':ae aI),ok [] s0->
  (∀vs s x rest,ok vs s->X (vs++x::rest)->(step s x).2=true->ok (vs++[x]) (step s x).1)->
  (∀vs s x rest,ok vs s->X (vs++x::rest)->aX P tq (y1++vals x) y2 (inv s) (fe x++F') (λ_:Unit=>.bool (step s x).2) (λ_=>inv (step s x).1) (λ_=>[]) (λ_=>True))->
  aX P fn (first++[.func tq ⟨y1⟩ ⟨y2⟩]) cap (inv s0) (F++F') (λ_:ae α=>.tuple ⟨[]⟩) (λxs=>inv (dA step s0 xs)) (λ_=>[]) X
def aX.facts{Y:Type}{fn:Fn}{args cap:ae ah}{kl:ae OA}{F F2:ae aI}{val:Y->ah}{kl':Y->ae OA}{fs:Y->ae aI}{pr:Y->Prop}(h:aX P fn args cap kl F val kl' fs pr)(hF:∀f∈F,f∈F2):aX P fn args cap kl F2 val kl' fs pr:=
 λB w s=>h B w ⟨s.agree,s.le,s.fH,s.own,λf hf=>s.facts f (hF f hf)⟩
section
variable {B:ae Nat} {w0:Wd} {kl kl' bz:ae OA} {F:ae aI} {K:KO} {n:Nat} {l:qr} {D:ae Deferred} {pm:ak FrameMode} {ro:ak Nat}
variable{S α Z:Type}{ps:ae Tmp}{assign body:dz}{fn:Fn}{first captured:ae ah}{F1:ae aI}
def ai4{f:ay}{vals:α->ae ah}{fe:α->ae aI}{X:ae α->Prop}(step:S->α->S×Out)(inv:S->ae OA)(ok:ae α->S->Prop)(s0:S)(h0:ok [] s0)
 (hok:∀vs s x rest,ok vs s->X (vs++x::rest)->(step s x).2=.normal->ok (vs++[x]) (step s x).1) (hit:Gn P vals fe fn first captured F1 X)
 (hf:ev l f=.func fn ⟨first⟩ ⟨captured⟩) (hps:ps.all (λp=>Nat.blt p n)=true) (hlen:∀x,ps.length=(vals x).length) (hk:aF (inv s0) kl bz) (hF:Sub F1 F) (jC:∀s x,AZ (step s x).2)
 (l3:α->Z->qr) (k3:α->Z->ae OA)
 (ha:∀(s:S) (x:α) (lo:Nat) (o:dL) B w0,R (λh=>EV P assign (act n ((ps.zip (vals x)).reverse++l) [] none (some lo)) h (CJ B w0 n (l3 x) lo o (λz=>k3 x z++inv s) (fe x++F))) B w0 (pt lo o::inv s) (fe x++F))
 (hb:∀(vs:ae α) (s:S) (x:α) (rest:ae α) (z:Z) (lo:Nat) (L:pz) B w0,ok vs s->X (vs++x::rest)->R (λh=>EV P body (act n (l3 x z) [] none (some lo)) h (A7 B w0 lo L (λ_:Unit=>(step s x).2) (λ_=>inv (step s x).1) (λ_=>[]) (λ_=>True))) B w0 (pt lo (.loop (wT L))::(k3 x z++inv s)) (fe x++F))
 (next:∀r xs,X xs->R (λh=>K (iO step s0 xs).2 (act n l ({target:=.collected r,args:= #[]}::D) pm none) h) B w0 (inv (iO step s0 xs).1++(pt r (.jo true)::bz)) F):
 R (λh=>EV P (.rangeFunc f ps assign body) (act n l D pm none) h K) B w0 kl F:=by
 refine Rp (Y:=ae α) (k1:=inv s0) (F1:=F1++F) (Jr:=λ_=>.tuple ⟨[]⟩) (out:=λxs=>(iO step s0 xs).2) (k1':=λxs=>inv (iO step s0 xs).1) (fs:=λ_=>[]) (pr:=X) hf ?_ hk (hF.app (Sub.refl' F [])) (λr y hy=>next r y hy);intro lo r;have:=hit (S×Out) (λso=>pt lo (.loop (mE ⟨.ready,none,iD l,n,ps,assign,body,r⟩ so.2))::inv so.1) (λvs so=>so.2=.normal/\ok vs so.1) (λso x=>(step so.1 x,lV (step so.1 x).2)) (s0,.normal) (.yield lo) [] [] F ⟨rfl,h0⟩
  (λvs so x rest ho hx h=>by
    exact cW)
  (λvs so x rest ho hx=>by
    exact cE)
 have e:(λxs:ae α=>pt lo (.loop (mE ⟨.ready,none,iD l,n,ps,assign,body,r⟩ (dA (λ(so:S×Out) x=>(step so.1 x,lV (step so.1 x).2)) (s0,.normal) xs).2))::inv (dA (λ(so:S×Out) x=>(step so.1 x,lV (step so.1 x).2)) (s0,.normal) xs).1)=λxs=>pt lo (.loop (mE ⟨.ready,none,iD l,n,ps,assign,body,r⟩ (iO step s0 xs).2))::inv (iO step s0 xs).1:=by
  funext xs
  rw[MP]
 have h2:aX P fn (first++[.func (.yield lo) ⟨[]⟩ ⟨[]⟩]) captured (pt lo (.loop ⟨.ready,none,iD l,n,ps,assign,body,r⟩)::inv s0) (F1++F) (λ_:ae α=>.tuple ⟨[]⟩) (λxs=>pt lo (.loop (mE ⟨.ready,none,iD l,n,ps,assign,body,r⟩ (dA (λ(so:S×Out) x=>(step so.1 x,lV (step so.1 x).2)) (s0,.normal) xs).2))::inv (dA (λ(so:S×Out) x=>(step so.1 x,lV (step so.1 x).2)) (s0,.normal) xs).1) (λ_=>[]) X:=this;rw[e]at h2;exact h2
def RO{f:ay}{vals:α->ae ah}{fe:α->ae aI}{X:ae α->Prop}(step:S->α->S×Out)(inv:S->ae OA)(ok:ae α->S->Prop)(s0:S)(l3:α->Z->qr)(k3:α->Z->ae OA)(h0:ok [] s0)
 (hok:∀vs s x rest,ok vs s->X (vs++x::rest)->(step s x).2=.normal->ok (vs++[x]) (step s x).1) (hit:Gn P vals fe fn first captured F1 X)
 (ha:∀(s:S) (x:α) (lo:Nat) (o:dL) B w0,R (λh=>EV P assign (act n ((ps.zip (vals x)).reverse++l) [] none (some lo)) h (CJ B w0 n (l3 x) lo o (λz=>k3 x z++inv s) (fe x++F))) B w0 (pt lo o::inv s) (fe x++F))
 (hb:∀(vs:ae α) (s:S) (x:α) (rest:ae α) (z:Z) (lo:Nat) (L:pz) B w0,ok vs s->X (vs++x::rest)->R (λh=>EV P body (act n (l3 x z) [] none (some lo)) h (A7 B w0 lo L (λ_:Unit=>(step s x).2) (λ_=>inv (step s x).1) (λ_=>[]) (λ_=>True))) B w0 (pt lo (.loop (wT L))::(k3 x z++inv s)) (fe x++F))
 (next:∀r xs,X xs->R (λh=>K (iO step s0 xs).2 (act n l ({target:=.collected r,args:= #[]}::D) pm none) h) B w0 (inv (iO step s0 xs).1++(pt r (.jo true)::bz)) F)
 (jC:∀s x,AZ (step s x).2)
 (hf:ev l f=.func fn ⟨first⟩ ⟨captured⟩:=by rfl) (hps:ps.all (λp=>Nat.blt p n)=true:=by rfl) (hlen:∀x,ps.length=(vals x).length:=by intro _;rfl)
 (hk:aF (inv s0) kl bz:=by exact mW) (hF:Sub F1 F:=by exact mo):
 R (λh=>EV P (.rangeFunc f ps assign body) (act n l D pm none) h K) B w0 kl F:=
 ai4 step inv ok s0 h0 hok hit hf hps hlen hk hF jC l3 k3 ha hb next
end
section
variable {B:ae Nat} {w0:Wd} {kl:ae OA} {F:ae aI}
end
end Go.Ideal
namespace Go.Ideal
variable {P:Program} {B:ae Nat} {w0:Wd} {kl kl' bz:ae OA} {F:ae aI} {K:KO} {ds:ae Tmp} {rest:ae bN} {n:Nat} {l:qr} {D:ae Deferred} {pm:ak FrameMode} {ro:ak Nat} {d:Nat} {g:ak (Tmp×Bool)}
def Nc{cs1 cs2 xs:ae ah}(h:xs.length<=cs2.length):jH (cs1++cs2) cs1.length xs=some (cs1++(xs++cs2.drop xs.length)):=by
 obtain⟨r,hr⟩:=Ey (cs1++cs2) cs1.length xs (by rw[eF];omega);obtain⟨h1,h2,h3⟩:=D5 hr;rw[hr];congr 1;apply iH;intro j;rw[h3 j];by_cases c1:j<cs1.length
 .rw[if_neg s6,jL c1,jL c1]
 .by_cases c2:j<cs1.length+xs.length
  .rw[if_pos ⟨s6,c2⟩,jP s6,jL s6]
  .rw[if_neg s6,jP s6,jP s6,jP s6,jU];congr 1;omega
end Go.Ideal
namespace Go.Ideal
open Go.RowKit Go.WideShapes Go.ChangeShapes
variable {P:Program}
section
variable {H:Type} {enc:aD×ah->H} {W:World}
end
end Go.Ideal
namespace Go.Ideal
variable {P:Program}

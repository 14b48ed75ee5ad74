/- Part. -/
import Derived.Test.YtgimfpcgbmpkhaaGreatIdealKT
import Derived.Sort.Row
import Derived.Sort.Grow
import Derived.Laws.StructEq
set_option linter.all false
namespace Go.Ideal
variable {P:Program}
def AU{Y:Type}(B:ae Nat)(w0:Wd)(ret:Y->jL)(kl':Y->ae OA)(fs:Y->ae aI)(pr:Y->Prop):KR:=λr pm h'=>
 pm=none/\∃(w':Wd) (y:Y),w'.h=h'/\St B w0 (kl' y) (fs y) w'/\r=ret y/\pr y
def rX{Y:Type}(P:Program)(fn:Fn)(args cap:ae ah)(kl:ae OA)(F:ae aI)(ret:Y->jL)(kl':Y->ae OA)(fs:Y->ae aI)(pr:Y->Prop):Prop:=
 ∀(B:ae Nat) (w:Wd),St B w kl F w->CALL P ⟨fn,args,cap,none⟩ w.h (AU B w ret kl' fs pr)
variable{args cap:ae ah}{Y:Type}{kl:ae OA}{F:ae aI}
def rX.toC{fn:Fn}{ret:Y->jL}{kl':Y->ae OA}{fs:Y->ae aI}{pr:Y->Prop}(val:Y->ah)(h:rX P fn args cap kl F ret kl' fs pr)
 (hv:∀y,pr y->ret y=.ok (val y)):aY P fn args cap kl F val kl' fs pr:=λB w s=>by
 refine .vQ _ (h B w s) ?_;rintro r pm h' ⟨e,w',y,e1,st,er,hp⟩;exact⟨e,w',y,e1,st,er.trans (hv y hp),hp⟩
def Te{Y:Type}(B:ae Nat)(w0:Wd)(ret:Y->jL)(md:Y->FrameMode)(kl':Y->ae OA)(fs:Y->ae aI)(pr:Y->Prop):KR:=λr pm h'=>
 ∃(w':Wd) (y:Y),pm=some (md y)/\w'.h=h'/\St B w0 (kl' y) (fs y) w'/\r=ret y/\pr y
def GI{Y:Type}(P:Program)(fn:Fn)(args cap:ae ah)(m:FrameMode)(kl:ae OA)(F:ae aI)(ret:Y->jL)(md:Y->FrameMode)(kl':Y->ae OA)(fs:Y->ae aI)(pr:Y->Prop):Prop:=
 ∀(B:ae Nat) (w:Wd),St B w kl F w->CALL P ⟨fn,args,cap,some m⟩ w.h (Te B w ret md kl' fs pr)
variable{f:gy}{c:dD}{m:Nat}{l0:qr}
def Zp{K:KR}{pm:az FrameMode}(cf:iJ)(hF:(vN P uB uC).F f=some cf)(h1:cf.body=c)(h2:uz cf.ntmps (jv (args++cap))=m)(h3:uL 0 (args++cap) []=l0){h:IH}
 (hb:EV P c (act m l0 [] pm none) h (rV P cf K)):CALL P ⟨.func f,args,cap,pm⟩ h K:=by
 obtain⟨fn,e1,e2⟩:=(M9 P uB uC (λf q h v h' hm=>by cases hm)).fn f cf hF;refine YN cf fn e1 e2 ?_;rw[SL,h1,h2,h3];exact hb
def zH{ret:Y->jL}{kl':Y->ae OA}{fs:Y->ae aI}{pr:Y->Prop}(cf:iJ)(hF:(vN P uB uC).F f=some cf)
 (hb:∀B w0,R (λh=>EV P c (act m l0 [] none none) h (rV P cf (AU B w0 ret kl' fs pr))) B w0 kl F)
 (h1:cf.body=c:=by conv=>lhs;(reduce;(try simp only[Int.reduceOfNat,Int.reduceNegSucc]))) (h2:uz cf.ntmps (jv (args++cap))=m:=by conv=>lhs;whnf) (h3:uL 0 (args++cap) []=l0:=by dsimp only[uL,Nat.reduceAdd,List.append_nil,List.cons_append,List.nil_append]):rX P (.func f) args cap kl F ret kl' fs pr:=
 λB w s=>Zp cf hF h1 h2 h3 (hb B w w s)
def Ol{pm:FrameMode}{ret:Y->jL}{md:Y->FrameMode}{kl':Y->ae OA}{fs:Y->ae aI}{pr:Y->Prop}(cf:iJ)(hF:(vN P uB uC).F f=some cf)
 (hb:∀B w0,R (λh=>EV P c (act m l0 [] (some pm) none) h (rV P cf (Te B w0 ret md kl' fs pr))) B w0 kl F)
 (h1:cf.body=c:=by conv=>lhs;(reduce;(try simp only[Int.reduceOfNat,Int.reduceNegSucc]))) (h2:uz cf.ntmps (jv (args++cap))=m:=by conv=>lhs;whnf) (h3:uL 0 (args++cap) []=l0:=by dsimp only[uL,Nat.reduceAdd,List.append_nil,List.cons_append,List.nil_append]):GI P (.func f) args cap pm kl F ret md kl' fs pr:=
 λB w s=>Zp cf hF h1 h2 h3 (hb B w w s)
section
variable {B:ae Nat} {w0:Wd} {kl kl' bA:ae OA} {F:ae aI} {K:KO} {ds:ae Tmp} {rest:ae bV} {n:Nat} {l:qr} {D:ae Deferred} {pm:az FrameMode} {ro:az Nat} {d:Nat} {g:az (Tmp×Bool)}
variable{k1:ae OA}{F1:ae aI}
def St.Om{w:Wd}{bA:ae OA}(s:St B w0 kl F w)(hk:aJ k1 kl bA)(hF:Sub F1 F):
 ∃S1,St S1 w k1 F1 w/\∀(w':Wd) (k1':ae OA) (F':ae aI),St S1 w k1' F' w'->St B w0 (k1'++bA) (F'++F) w':=by
 obtain⟨S,h1,h2,h3⟩:=s.own;obtain⟨S1,S2,q1,q2,hp⟩:=h1.ku hk;exact⟨S1,⟨⟨bG _,λ_ _ _=>rfl,λ_ _=>rfl⟩,Wd.Le.refl w,λi _ hz=>.inl hz,(by grind),λf hf=>s.facts f (hF.mem f hf)⟩,
  λw' k1' F' c=>s.call (k1:=k1) (F1:=F1) ⟨S,hp,h2,h3⟩ q2 c⟩
variable{Y:Type}{vs captured first as:ae ah}{fn:Fn}{f:aB}{xs:ae aB}
def ajC{re:ae jh}{ret:Y->jL}{k1':Y->ae OA}{fs:Y->ae aI}{pr:Y->Prop}
 (hc:rX P fn as captured k1 F1 ret k1' fs pr) (hn:Nat.blt d n=true) (hg:bJ l g=true) (hf:ev l f=.func fn ⟨first⟩ ⟨captured⟩) (hx:EvL (ev l) xs vs) (ha:first++vs=as)
 (hk:aJ k1 kl bA) (hF:Sub F1 F)
 (hs:∀y v,pr y->ret y=.ok v->Same P re (ev ((d,v)::l)) ((d,v)::l) B w0 (k1' y++bA) (fs y++F))
 (next:∀y v,pr y->ret y=.ok v->R (λh=>aO P ds rest (act n ((d,v)::l) D pm ro) h K) B w0 (k1' y++bA) (fs y++F))
 (J5:∀y ch,pr y->ret y=.iy ch->R (λh=>K (.panic ch) (act n (Es ds n l) D pm ro) h) B w0 (k1' y++bA) (fs y++F)):
 R (λh=>aO P ds (⟨⟨some d,g,.call f xs⟩,re⟩::rest) (act n l D pm ro) h K) B w0 kl F:=by
 intro w s;obtain⟨S1,s1,back⟩:=s.Om hk hF;have hcall:=hc S1 w s1;subst ha;rw[<- hx.map]at hcall;refine s_call hn hg fn hf _ hcall ?_ ?_ ?_ ?_
 .rintro v h' ⟨_,w',y,rfl,c,hv,hpr⟩;exact hs y v hpr hv.symm w' (back w' _ _ c)
 .rintro v h' ⟨_,w',y,rfl,c,hv,hpr⟩;exact next y v hpr hv.symm w' (back w' _ _ c)
 .rintro ch h' ⟨_,w',y,rfl,c,hv,hpr⟩;rw[Ng];exact J5 y ch hpr hv.symm w' (back w' _ _ c)
 .rintro r p h' ⟨e,_⟩;exact e
def vW{re:ae jh}{ret:Y->jL}{k1':Y->ae OA}{fs:Y->ae aI}{pr:Y->Prop}{dS:Y->ae OA}{F2:Y->ae aI}
 (hc:rX P fn as captured k1 F1 ret k1' fs pr)
 (next:∀y v,pr y->ret y=.ok v->R (λh=>aO P ds rest (act n ((d,v)::l) D pm ro) h K) B w0 (dS y) (F2 y))
 (J5:∀y ch,pr y->ret y=.iy ch->R (λh=>K (.panic ch) (act n (Es ds n l) D pm ro) h) B w0 (dS y) (F2 y))
 (hn:Nat.blt d n=true:=by rfl) (hg:bJ l g=true:=by rfl) (hf:ev l f=.func fn ⟨first⟩ ⟨captured⟩:=by rfl) (hx:EvL (ev l) xs vs:=by repeat (first|with_reducible exact EvL.nil|((with_reducible apply EvL.cons);(conv=>lhs;whnf)))) (ha:first++vs=as:=by rfl)
 (hk:aJ k1 kl bA:=by exact lH) (hF:Sub F1 F:=by exact kV) (hk2:∀y,dz (k1' y) bA (dS y):=by intro y;repeat (first|exact dz.nil|apply dz.cons|exact dz.self|exact dz.app)) (hF2:∀y,dz (fs y) F (F2 y):=by intro y;repeat (first|exact dz.nil|apply dz.cons|exact dz.self|exact dz.app))
 (hs:∀y v,pr y->ret y=.ok v->Same P re (ev ((d,v)::l)) ((d,v)::l) B w0 (dS y) (F2 y):=by intro _ _ _ _;repeat (first|exact Gv|refine Gw rfl dG tf rfl ?_|refine JS rfl iN tf rfl ?_|refine JU rfl iN tf rfl ?_|refine JV rfl dG tf rfl ?_|refine JW rfl iN tf rfl ?_|refine JX rfl iN tf rfl ?_)):
 R (λh=>aO P ds (⟨⟨some d,g,.call f xs⟩,re⟩::rest) (act n l D pm ro) h K) B w0 kl F:=
 ajC hc hn hg hf hx ha hk hF (λy v a b=>by rw[(hk2 y).eq,(hF2 y).eq];exact hs y v a b) (λy v a b=>by rw[(hk2 y).eq,(hF2 y).eq];exact next y v a b) (λy v a b=>by rw[(hk2 y).eq,(hF2 y).eq];exact J5 y v a b)
variable{v:ah}
def ED{x:aB}{t:aM}{dst:az Tmp}{re:ae jh}
 (next:R (λh=>K (.panic [{v:=.iface t v,recovered:=false}]) (act n (Es ds n l) D pm ro) h) B w0 kl F)
 (hx:ev l x=.iface t v:=by rfl) (hg:bJ l g=true:=by rfl):R (λh=>aO P ds (⟨⟨dst,g,.panic x⟩,re⟩::rest) (act n l D pm ro) h K) B w0 kl F:=λw s=>ah3 hg hx (next w s)
def Zq{f:aB}{args:ae aB}
 (next:R (λh=>aO P ds rest (act n l ({target:=.fn fn ⟨captured⟩,args:=⟨first++vs⟩}::D) pm none) h K) B w0 kl F)
 (hf:ev l f=.func fn ⟨first⟩ ⟨captured⟩:=by rfl) (hx:EvL (ev l) args vs:=by repeat (first|with_reducible exact EvL.nil|((with_reducible apply EvL.cons);(conv=>lhs;whnf)))) (hg:bJ l g=true:=by rfl):
 R (λh=>aO P ds (⟨⟨none,g,.dcall f args⟩,[]⟩::rest) (act n l D pm none) h K) B w0 kl F:=λw s=>by
 refine ah4 hg rfl hf ?_;rw[hx.map];exact next w s
variable{m:FrameMode}
def Oo{m':FrameMode}(he:mZ m=(v,m'))
 (next:R (λh=>aO P ds rest (act n ((d,v)::l) D (some m') none) h K) B w0 kl F) (hn:Nat.blt d n=true:=by rfl) (hg:bJ l g=true:=by rfl):
 R (λh=>aO P ds (⟨⟨some d,g,.recover⟩,[]⟩::rest) (act n l D (some m) none) h K) B w0 kl F:=λw s=>by
 refine ah5 hn hg rfl ?_;rw[he];exact next w s
def RL(P:Program)(cf:iJ)(l:qr)(D:ae Deferred)(m:FrameMode)(Kr:jL->IH->Prop)(B:ae Nat)(w0:Wd)(kl:ae OA)(F:ae aI):Prop:=∀w,St B w0 kl F w->LEAVE P cf (iZ l) D m w.h Kr
def EE{cf:iJ}{Kr:KR}{o:Out}(h:RL P cf l D m (λr h=>Kr r pm h) B w0 kl F)(hm:wW o=some m:=by rfl):R (λh=>rV P cf Kr o (act n l D pm ro) h) B w0 kl F:=λw s=>by
 show(match wW o with
  |none=>False
  |some m=>LEAVE P cf (iZ l) D m w.h λr h''=>Kr r pm h'')
 rw[hm];exact h w s
variable {cf:iJ} {Kr:jL->IH->Prop}
def ajD(hk:∀w,St B w0 kl F w->Kr (.ok (qX vs)) w.h)(hr:RS l kl cf.results vs:=by exact zB):RL P cf l [] .returning Kr B w0 kl F:=λw s=>by
 refine .ret (qX vs) ?_ (hk w s);unfold uA;rw[hr.all s];exact oB
def Oq{args:ae ah}{ret:Y->jL}{md:Y->FrameMode}{k1':Y->ae OA}{fs:Y->ae aI}{pr:Y->Prop}{dS:Y->ae OA}{F2:Y->ae aI}
 (hc:GI P fn args captured m k1 F1 ret md k1' fs pr)
 (next:∀y v,pr y->ret y=.ok v->RL P cf l D (Ci (md y)) Kr B w0 (dS y) (F2 y))
 (J5:∀y ch,pr y->ret y=.iy ch->RL P cf l D (FY (md y) ch) Kr B w0 (dS y) (F2 y))
 (hk:aJ k1 kl bA:=by exact lH) (hF:Sub F1 F:=by exact kV) (hk2:∀y,dz (k1' y) bA (dS y):=by intro y;repeat (first|exact dz.nil|apply dz.cons|exact dz.self|exact dz.app)) (hF2:∀y,dz (fs y) F (F2 y):=by intro y;repeat (first|exact dz.nil|apply dz.cons|exact dz.self|exact dz.app)) (hm:m≠.run:=by intro e;cases e):
 RL P cf l ({target:=.fn fn ⟨captured⟩,args:=⟨args⟩}::D) m Kr B w0 kl F:=λw s=>by
 obtain⟨S1,s1,back⟩:=s.Om hk hF;refine .call hm _ (hc S1 w s1) ?_ ?_ ?_
 .rintro r p h' ⟨w',y,e,_⟩ hp;rw[e]at hp;cases hp
 .rintro v m' h' ⟨w',y,e,rfl,c,hv,hpr⟩;injection e with e;subst e;have:=next y v hpr hv.symm w' CT
  exact this
 .rintro ch m' h' ⟨w',y,e,rfl,c,hv,hpr⟩;injection e with e;subst e;exact J5 y ch hpr hv.symm w' CT
variable{dS:ae OA}
def CJ{o:Out}{ret:Y->jL}{k1:Y->ae OA}{fs:Y->ae aI}{pr:Y->Prop}(y:Y)(hv:ret y=.ok (qX vs))(hp:pr y)(hD:kG kl D dS:=by repeat (first|exact kG.nil|(apply kG.cons;(focus (repeat (first|with_reducible exact aD.here|with_reducible apply aD.there|with_reducible apply aD.app))))))
 (hr:RS l dS cf.results vs:=by exact zB) (hk:aJ (k1 y) dS bA:=by exact lH) (hF:Sub (fs y) F:=by exact kV) (ho:o=.normal\/o=.ret:=by first|exact .inl rfl|exact .inr rfl):
 R (λh=>rV P cf (AU B w0 ret k1 fs pr) o (act n l D none ro) h) B w0 kl F:=by
 refine EE ?_ C0;intro w s;refine kG.leave hD (λw' s'=>⟨qX vs,?_,rfl,w',y,rfl,((s'.ku hk).drop).sub hF,hv.symm,hp⟩) w s;unfold uA;rw[hr.all s'];match vs with
 |[]=>rfl
 |[v]=>rfl
 |_::_::_=>rfl
def kG.Zr{ts:T ah}{ch:ae PanicEntry}:∀{D:ae Deferred} {kl dS:ae OA},kG kl D dS->(∀w',St B w0 dS F w'->Kr (.iy ch) w'.h)->∀w,St B w0 kl F w->LEAVE P cf ts D (.panicking ch) w.h Kr
 |_,_,_,.nil,hk,w,s=>.iy ch (hk w s)
 |_,_,_,.cons (r:=r) h t,hk,w,s=>by
  have s1:=s.fB h;refine .coll xT r s1.get.1 ?_;exact kG.Zr t hk _ (s1.write).tail
def CK{ch:ae PanicEntry}{ret:Y->jL}{k1:Y->ae OA}{fs:Y->ae aI}{pr:Y->Prop}(y:Y)(hv:ret y=.iy ch)(hp:pr y)(hD:kG kl D dS:=by repeat (first|exact kG.nil|(apply kG.cons;(focus (repeat (first|with_reducible exact aD.here|with_reducible apply aD.there|with_reducible apply aD.app))))))
 (hk:aJ (k1 y) dS bA:=by exact lH) (hF:Sub (fs y) F:=by exact kV):
 R (λh=>rV P cf (AU B w0 ret k1 fs pr) (.panic ch) (act n l D none ro) h) B w0 kl F:=by
 refine EE ?_;intro w s;exact kG.Zr hD (λw' s'=>⟨rfl,w',y,rfl,((s'.ku hk).drop).sub hF,hv.symm,hp⟩) w s
def Ot{o:Out}{ret:Y->jL}{md:Y->FrameMode}{k1:Y->ae OA}{fs:Y->ae aI}{pr:Y->Prop}(y:Y)(hv:ret y=.ok (qX vs))(hm:md y=m)(hp:pr y)(hD:kG kl D dS:=by repeat (first|exact kG.nil|(apply kG.cons;(focus (repeat (first|with_reducible exact aD.here|with_reducible apply aD.there|with_reducible apply aD.app))))))
 (hr:RS l dS cf.results vs:=by exact zB) (hk:aJ (k1 y) dS bA:=by exact lH) (hF:Sub (fs y) F:=by exact kV) (ho:o=.normal\/o=.ret:=by first|exact .inl rfl|exact .inr rfl):
 R (λh=>rV P cf (Te B w0 ret md k1 fs pr) o (act n l D (some m) ro) h) B w0 kl F:=by
 refine EE ?_ C0;intro w s;refine kG.leave hD (λw' s'=>⟨qX vs,?_,w',y,by rw[hm],rfl,((s'.ku hk).drop).sub hF,hv.symm,hp⟩) w s;unfold uA;rw[hr.all s'];match vs with
 |[]=>rfl
 |[v]=>rfl
 |_::_::_=>rfl
def Ou{ret:Y->jL}{k1:Y->ae OA}{fs:Y->ae aI}{pr:Y->Prop}(y:Y)(hv:ret y=.ok (qX vs))(hp:pr y)(hr:RS l kl cf.results vs:=by exact zB)(hk:aJ (k1 y) kl bA:=by exact lH)(hF:Sub (fs y) F:=by exact kV):
 RL P cf l [] .returning (λr h=>AU B w0 ret k1 fs pr r none h) B w0 kl F:=
 ajD (λw s=>⟨rfl,w,y,rfl,((s.ku hk).drop).sub hF,hv.symm,hp⟩) hr
end
end Go.Ideal
namespace Go.Ideal
variable {P:Program}
variable{α:Type}
def Zt{β:Type}(f:α->β)(hf:∀a b,f a=f b->a=b){l1 l2:ae α}(h:(l1.map f).Perm (l2.map f)):l1.Perm l2:=by
 classical
 rw[List.perm_iff_count];intro a;have key:∀l:ae α,(l.map f).count (f a)=l.count a:=by
  intro l;induction l with
  |nil=>rfl
  |cons x l ih=>
   grind
 grind
def Zu{α β:Type}{f:α->β}:∀{l:ae α},(l.map f).Nodup->∀{a b:α},a∈l->b∈l->f a=f b->a=b
 |[],_,a,b,ha,_,_=>by cases ha
 |x::l,h,a,b,ha,hb,e=>by
  rw[iX,List.nodup_cons]at h;obtain⟨hx,hl⟩:=h;rcases dm.1 ha with h1|ha<;>rcases dm.1 hb with h2|hb
  .rw[h1,h2]
  .grind
  .grind
  .exact Zu hl ha hb e
def tC{α:Type}[DecidableEq α](a:α):ae (α×ah)->Nat->az (Nat×ah)
 |[],_=>none
 |(b,v)::l,i=>if a=b then some (i,v)else tC a l (i+1)
def dM{α β:Type}[DecidableEq α](a:α):ae (α×β)->az β
 |[]=>none
 |(b,v)::l=>if a=b then some v else dM a l
def upd{α β:Type}[DecidableEq α](a:α)(v:β):ae (α×β)->ae (α×β)
 |[]=>[(a,v)]
 |(b,u)::l=>if a=b then(a,v)::l else(b,u)::upd a v l
def tH{α:Type}(bH:α->ah)(aC:ae (α×ah))(es:ae MapEntry):Prop:=es.map (λe=>(e.key,e.val))=aC.map λp=>(bH p.1,p.2)
structure rY(P:Program)(kt:TypeId){α:Type}[DecidableEq α](bH:α->Value):Prop where
 EF:∀a,uu P kt (bH a)=true
 find:∀a aC es,tH bH aC es->wT P kt (bH a) es=some (tC a aC 0)
 same:∀a,Instr.sameBits 10000 (bH a) (bH a)=true
variable{kt:aM}
def Tf{v:ah}(ha:dQ v=true)(h:∀b,dX P (Instr.checkKey b 10000 kt v)=some ()):uu P kt v=true:=by
 unfold uu
 grind
def Tg{bH:α->ah}{p:α×ah}{aC:ae (α×ah)}{es:ae MapEntry}(h:tH bH (p::aC) es):∃e es',es=e::es'/\e.key=bH p.1/\e.val=p.2/\tH bH aC es':=by
 cases es with
 |nil=>cases h
 |cons e es=>
  injection h with h1 h2;injection h1 with h1 h3;exact⟨e,es,rfl,h1,h3,h2⟩
def Zv{α:Type}[DecidableEq α]{bH:α->ah}{d:TypeDesc}(hs:∀a b,Instr.sameNow d (bH a) (bH b)=some (decide (a=b)))(a:α):∀(aC:ae (α×ah)) (es:ae MapEntry) (i:Nat),tH bH aC es->Instr.findNow d (bH a) es i=some (tC a aC i)
 |[],es,i,h=>by
  exact oT
 |p::aC,es,i,h=>by
  obtain⟨e,es',rfl,h1,h2,h3⟩:=Tg h;have ih:=Zv hs a aC es' (i+1) h3;show(match Instr.sameNow d (bH a) e.key with
   |some true=>some (some (i,e.val))
   |some false=>Instr.findNow d (bH a) es' (i+1)
   |none=>none)=_
  unfold tC
  grind
def Zw[DecidableEq α]{bH:α->ah}{kt:aM}{d:TypeDesc}(hu:P.underlying kt=some d)(hs:∀a b,Instr.sameNow d (bH a) (bH b)=some (decide (a=b)))(a:α)(aC:ae (α×ah))(es:ae MapEntry)(h:tH bH aC es):wT P kt (bH a) es=some (tC a aC 0):=by
 unfold wT Instr.findKey;rw[gu,qz hu];simp only[lS,Zv hs a aC es 0 h];rfl
def ajE(hu:P.underlying kt=some (.int .i64)):rY P kt (λn:Int=>.int .i64 n) where
 EF a:=Tf rfl λb=>by
  exact ox
 find a aC es h:=Zw hu (λa b=>by
  show(if IntKind.i64=IntKind.i64 then some (a==b)else none)=_
  grind) a aC es h
 same a:=by
  show(IntKind.i64==IntKind.i64&&a==a)=true;simp
def bytes_beq(a b:ByteArray):(a==b)=decide (a=b):=by
 have:(a==b)=(a.data==b.data):=rfl;rw[this];by_cases h:a=b
 .subst h;simp
 .rw[dA h];cases hb:a.data==b.data with
  |false=>rfl
  |true=>exact absurd (ByteArray.ext (eq_of_beq hb)) h
def ajF(hu:P.underlying kt=some .string):rY P kt (λs:ByteArray=>.string s) where
 EF a:=Tf rfl λb=>by
  exact ox
 find a aC es h:=Zw hu (λa b=>by
  show some (a==b)=_;rw[bytes_beq]) a aC es h
 same a:=by
  show(a==a)=true;rw[bytes_beq];simp
def Zx{α:Type}[DecidableEq α](a:α):∀(aC:ae (α×ah)) (i:Nat),(tC a aC i).map (·.2)=dM a aC
 |[],_=>rfl
 |(b,v)::l,i=>by
  unfold tC dM;by_cases h:a=b
  .grind
  .rw[if_neg h,if_neg h];exact Zx a l (i+1)
def Zy[DecidableEq α]{bH:α->ah}{kt:aM}(hk:rY P kt bH){h:IH}{m zero:ah}{ok:Bool}{a:α}{aC:ae (α×ah)}{es:ae MapEntry}(he:entriesOf m h=some es)(ho:tH bH aC es):
 D8 P kt zero m (bH a) ok h=some (match dM a aC with
  |some v=>cond ok (.tuple #[v,.bool true]) v
  |none=>cond ok (.tuple #[zero,.bool false]) zero):=by
 unfold D8;simp only[he,hk.EF,hk.find a aC es ho];have:=Zx a aC 0
 grind
def Zz{α:Type}[DecidableEq α](a:α):∀(aC:ae (α×ah)) (i j:Nat) (v:ah),tC a aC i=some (j,v)->∃k,j=i+k/\aC[k]? =some (a,v)/\∀u,upd a u aC=aC.set k (a,u)
 |[],i,j,v,h=>by cases h
 |(b,w)::l,i,j,v,h=>by
  unfold tC at h;split at h
  .rename_i hab;subst hab;cases h;exact⟨0,rfl,rfl,λu=>by simp[upd]⟩
  .rename_i hab;obtain⟨k,h1,h2,h3⟩:=Zz a l (i+1) j v h;exact⟨k+1,s6,by simpa using h2,λu=>by simp[upd,if_neg hab,h3]⟩
def ZA{α:Type}[DecidableEq α](a:α):∀(aC:ae (α×ah)) (i:Nat),tC a aC i=none->(∀p∈aC,a≠p.1)/\∀u,upd a u aC=aC++[(a,u)]
 |[],i,h=>⟨(by grind),λu=>rfl⟩
 |(b,w)::l,i,h=>by
  unfold tC at h;split at h
  .cases h
  .rename_i hab;obtain⟨h1,h2⟩:=ZA a l (i+1) h;refine⟨λp hp=>?_,λu=>by simp[upd,if_neg hab,h2]⟩
   grind
structure EG{α:Type}(bH:α->Value)(aC:List (α×Value))(es:List MapEntry)(clock:Nat):Prop where
 xy:tH bH aC es
 lt:∀e∈es,e.born<clock
 nd:(es.map (·.born)).Nodup
 keys:(aC.map (·.1)).Nodup
def ajG[DecidableEq α]{bH:α->ah}{kt:aM}(hk:rY P kt bH){h:IH}{b:Nat}{a:α}{v:ah}{aC:ae (α×ah)}{es:ae MapEntry}{clock:Nat}(hg:h.get b=some (.map es clock))(ho:EG bH aC es clock):
 ∃es' clock',I5 P kt (.map (some b)) (bH a) v h=some (h.set b (.map es' clock'))/\EG bH (upd a v aC) es' clock':=by
 unfold I5;simp only[hg,hk.EF,cond_true,hk.find a aC es ho.xy];cases hf:tC a aC 0 with
 |none=>
  obtain⟨h1,h2⟩:=ZA a aC 0 hf;refine⟨_,_,rfl,?_⟩;rw[h2,kR];refine⟨?_,λe he=>?_,?_,?_⟩
  .unfold tH;rw[bZ,bZ,ho.xy];rfl
  .rcases fU.1 he with he|he
   .exact QH (ho.lt e he)
   .rw[bR.1 he];exact yY _
  .rw[bZ,j5];refine⟨ho.nd,s7,λx hx y hy e=>?_⟩;obtain⟨e0,he0,rfl⟩:=cO.1 hx;have:y=clock:=by simpa using hy
   have:=ho.lt e0 he0;omega
  .rw[bZ,j5];refine⟨ho.keys,s7,λx hx y hy e=>?_⟩;obtain⟨p,hp,rfl⟩:=cO.1 hx;have:y=a:=by simpa using hy
   exact h1 p hp (by rw[e,this])
 |some p=>
  obtain⟨j,u⟩:=p;obtain⟨k,rfl,h2,h3⟩:=Zz a aC 0 j u hf;rw[gq];have hlen:es.length=aC.length:=by
   have:=congrArg List.length ho.xy;simpa using this
  have hk':=(bz.1 h2).1;have Ti:es[k]? =some es[k]:=bN s6;have hkey:es[k].key=bH a:=by
   have:=congrArg (λl=>l[k]?) ho.xy;simp only[eF,Ti,h2,oJ]at this;exact pB
  simp only[uE,Ti,hkey,hk.same,cond_true];refine⟨_,_,rfl,?_⟩;rw[h3,Xt];refine⟨?_,λe he=>?_,?_,?_⟩
  .unfold tH;apply iQ;intro i;have:=congrArg (λl=>l[i]?) ho.xy;simp only[eF]at this;simp only[eF,List.getElem?_modify,rM];by_cases hi:k=i
   .subst hi;simp[Ti,hk']
   .rw[if_neg hi];cases he:es[i]? with
    |none=>rw[he]at this;simp only[Option.map_none]at this⊢;simp[hi,<- this]
    |some e=>rw[he]at this;simp only[oJ]at this⊢;simp[hi,<- this]
  .obtain⟨i,he⟩:=zb.1 he;rw[List.getElem?_modify]at he;cases Tj:es[i]? with
   |none=>rw[Tj]at he;simp at he
   |some e0=>
    rw[Tj]at he;have hlt:=ho.lt e0 (aV Tj);injection he with he;rw[<- he];split<;>exact hlt
  .have:(es.modify k λe=>{e with key:=bH a,val:=v}).map (·.born)=es.map (·.born):=by
    apply iQ;intro i;simp only[eF,List.getElem?_modify];cases es[i]? with
    |none=>rfl
    |some e=>simp only[oJ];split<;>rfl
   rw[this];exact ho.nd
  .have:(aC.set k (a,v)).map (·.1)=aC.map (·.1):=by
    apply iQ;intro i;simp only[eF,rM];by_cases hi:k=i
    .subst hi;rw[if_pos rfl,if_pos hk',h2];rfl
    .rw[if_neg hi]
   rw[this];exact ho.keys
def ic{α:Type}(bH:α->ah)(b:Nat)(aC:ae (α×ah)):OA:=⟨λw S=>S=[b]/\∃es clock,w.h.get b=some (.map es clock)/\EG bH aC es clock,(by grind)⟩
def AV{α:Type}(bH:α->ah)(b:Nat)(aC:ae (α×ah)):aI:=⟨λw=>w.z b/\∃es clock,w.h.get b=some (.map es clock)/\EG bH aC es clock,λa ⟨h1,es,clock,h2,h3⟩=>⟨a.z b h1,es,clock,by rw[a.get b h1];exact h2,h3⟩⟩
def EH{bH:α->ah}{b:Nat}{aC:ae (α×ah)}:qV (ic bH b aC) [AV bH b aC]:=by
 intro w w' S ⟨h1,es,clock,h2,h3⟩ hle hh hz f hf;rw[bR.1 hf];exact⟨(by grind),es,clock,by rw[hh];exact h2,h3⟩
section
variable {B:ae Nat} {w0:Wd} {kl kl' bA:ae OA} {F:ae aI} {K:KO} {ds:ae Tmp} {rest:ae bV} {n:Nat} {l:qr} {D:ae Deferred} {pm:az FrameMode} {ro:az Nat} {d:Nat} {g:az (Tmp×Bool)}
variable {α:Type} [DecidableEq α] {bH:α->ah}
variable{aC:ae (α×ah)}{b:Nat}
def St.ZB{w:Wd}(h:St B w0 (ic bH b aC::kl) F w):∃es clock,EG bH aC es clock/\St B w0 (pt b (.map es clock)::kl) F w:=by
 obtain⟨S,⟨S1,S2,⟨q1,es,clock,q3,q4⟩,q2,e⟩,h2,h3⟩:=h.own;exact⟨es,clock,q4,h.agree,h.le,h.fF,⟨S,⟨S1,S2,⟨q1,q3⟩,q2,e⟩,h2,h3⟩,h.facts⟩
def yB(bH:α->ah)
 (next:∀b,R (λh=>aO P ds rest (act n ((d,.map (some b))::l) D pm ro) h K) B w0 (ic bH b []::kl) F) (hn:Nat.blt d n=true:=by rfl) (hg:bJ l g=true:=by rfl):
 R (λh=>aO P ds (⟨⟨some d,g,.zl⟩,[]⟩::rest) (act n l D pm ro) h K) B w0 kl F:=λw s=>
 mG hn hg (h':=w.h.new (.map [] 0)) CM (next w.h.next (w.new _) ((s.new _).CB (A:=pt w.h.next (.map [] 0)) λw S hp=>⟨hp.1,[],0,hp.2,⟨rfl,(by grind),Ad,Ad⟩⟩))
def kw{α:Type}[DecidableEq α](ok:Bool)(zero:ah)(a:α)(aC:ae (α×ah)):ah:=match dM a aC with
 |some v=>cond ok (.tuple #[v,.bool true]) v
 |none=>cond ok (.tuple #[zero,.bool false]) zero
variable{m k:aB}{kt:aM}{zero:ah}{ok:Bool}
def Tk(hk:rY P kt bH)(a:α)
 (next:R (λh=>aO P ds rest (act n ((d,kw ok zero a aC)::l) D pm ro) h K) B w0 kl F)
 (hm:ev l m=.map (some b):=by rfl) (ha:ev l k=bH a:=by conv=>lhs;whnf) (hf:AV bH b aC∈F:=by exact iN) (hn:Nat.blt d n=true:=by rfl) (hg:bJ l g=true:=by rfl):
 R (λh=>aO P ds (⟨⟨some d,g,.lookup kt zero m k ok⟩,[]⟩::rest) (act n l D pm ro) h K) B w0 kl F:=λw s=>by
 obtain⟨_,es,clock,h1,h2⟩:=s.facts _ hf;refine mG hn hg ?_ (next w s);have:D8 P kt zero (.map (some b)) (bH a) ok w.h=_:=Zy hk (by simp only[entriesOf,h1]) h2.xy;simp only[aR.run,hm,ha,this];rfl
def EI(hk:rY P kt bH)(a:α)
 (next:R (λh=>aO P ds rest (act n ((d,kw ok zero a aC)::l) D pm ro) h K) B w0 kl F)
 (hm:ev l m=.map (some b):=by rfl) (ha:ev l k=bH a:=by conv=>lhs;whnf) (hs:aD (ic bH b aC) kl kl':=by exact dG) (hn:Nat.blt d n=true:=by rfl) (hg:bJ l g=true:=by rfl):
 R (λh=>aO P ds (⟨⟨some d,g,.lookup kt zero m k ok⟩,[]⟩::rest) (act n l D pm ro) h K) B w0 kl F:=λw s=>by
 obtain⟨es,clock,h2,s1⟩:=(s.fB hs).ZB;refine mG hn hg ?_ (next w s);have:D8 P kt zero (.map (some b)) (bH a) ok w.h=_:=Zy hk (by simp only[entriesOf,s1.get.1]) h2.xy;simp only[aR.run,hm,ha,this];rfl
variable{x:aB}
def vX{v:ah}(hk:rY P kt bH)(a:α)
 (next:R (λh=>aO P ds rest (act n l D pm ro) h K) B w0 (ic bH b (upd a v aC)::kl') F)
 (hm:ev l m=.map (some b):=by rfl) (ha:ev l k=bH a:=by conv=>lhs;whnf) (hv:ev l x=v:=by conv=>lhs;whnf) (hs:aD (ic bH b aC) kl kl':=by exact dG) (hg:bJ l g=true:=by rfl):
 R (λh=>aO P ds (⟨⟨none,g,.Mq kt m k x⟩,[]⟩::rest) (act n l D pm ro) h K) B w0 kl F:=λw s=>by
 obtain⟨es,clock,h2,s1⟩:=(s.fB hs).ZB;obtain⟨es',clock',e1,e2⟩:=ajG hk s1.get.1 h2;refine Nf hg (v:=eY) ?_ (next _ ((s1.write).CB (A:=pt b (.map es' clock')) λw S hp=>⟨hp.1,es',clock',hp.2,e2⟩));simp only[aR.run,hm,ha,hv,e1]
variable{es:ae MapEntry}
def ZC{clock:Nat}(h:EG bH aC es clock):es.length=aC.length:=by
 have:=congrArg List.length h.xy;simpa using this
def GJ{α:Type}(bH:α->ah)(r b:Nat)(aC bS:ae (α×ah)):OA:=⟨λw S=>S=[r]/\∃es clock seen last,w.h.get b=some (.map es clock)/\w.z b/\EG bH aC es clock/\w.h.get r=some (.mapIter (some b) clock seen last)/\last=clock/\
 (∃ve rem:ae MapEntry,tH bH bS ve/\ve.map (·.born)=seen/\(ve++rem).Perm es),
 λa h ⟨h1,es,clock,seen,last,h2,h3,h4,h5,h6,h7⟩=>⟨h1,es,clock,seen,last,by rw[a.get b h3];exact h2,a.z b h3,h4,by grind,h6,h7⟩⟩
def ajH
 (next:∀r,R (λh=>aO P ds rest (act n ((d,.pointer (some ⟨r,0,none⟩))::l) D pm ro) h K) B w0 (GJ bH r b aC []::kl) F)
 (hm:ev l m=.map (some b):=by rfl) (hf:AV bH b aC∈F:=by exact iN) (hn:Nat.blt d n=true:=by rfl) (hg:bJ l g=true:=by rfl):
 R (λh=>aO P ds (⟨⟨some d,g,.rangeMap m⟩,[]⟩::rest) (act n l D pm ro) h K) B w0 kl F:=λw s=>by
 obtain⟨hz,es,clock,h1,h2⟩:=s.facts _ hf;refine mG hn hg (h':=w.h.new (.mapIter (some b) clock [] clock)) (by simp only[aR.run,hm,h1]) (next w.h.next (w.new _) ?_);have s1:=s.new (.mapIter (some b) clock [] clock);obtain⟨hz',es',clock',h1',h2'⟩:=s1.facts _ hf;refine s1.yz λS hp=>⟨hp.1,es',clock',[],clock,h1',hz',h2',?_,?_,[],es',rfl,rfl,.refl _⟩
 .have:clock'=clock:=by
   exact iv
  rw[this];exact hp.2
 .exact iv
def ajI{ve rem:ae MapEntry}(hp:(ve++rem).Perm es)(hn:(es.map (·.born)).Nodup):(es.filter λe=>!(ve.map (·.born)).contains e.born).Perm rem:=by
 have hp2:((ve++rem).filter λe=>!(ve.map (·.born)).contains e.born).Perm (es.filter λe=>!(ve.map (·.born)).contains e.born):=hp.filter _;rw[ze]at hp2;have h1:ve.filter (λe=>!(ve.map (·.born)).contains e.born)=[]:=by
  rw[List.filter_eq_nil_iff]
  grind
 have hnd:((ve++rem).map (·.born)).Nodup:=(by grind)
 have h2:rem.filter (λe=>!(ve.map (·.born)).contains e.born)=rem:=by
  rw[QJ]
  grind
 rw[h1,h2]at hp2;exact hp2.symm
variable{bS:ae (α×ah)}{r:Nat}
def ajJ
 (more:∀p rem,(bS++p::rem).Perm aC->R (λh=>aO P ds rest (act n ((d,.tuple #[.bool true,bH p.1,p.2])::l) D pm ro) h K) B w0 (GJ bH r b aC (bS++[p])::kl') F)
 (done:bS.Perm aC->R (λh=>aO P ds rest (act n ((d,.tuple #[.bool false])::l) D pm ro) h K) B w0 (GJ bH r b aC bS::kl') F)
 (inj:∀a c,bH a=bH c->a=c)
 (hx:ev l x=.pointer (some ⟨r,0,none⟩):=by rfl) (hs:aD (GJ bH r b aC bS) kl kl':=by exact dG) (hn:Nat.blt d n=true:=by rfl) (hg:bJ l g=true:=by rfl):
 R (λh=>aO P ds (⟨⟨some d,g,.Ai x⟩,[]⟩::rest) (act n l D pm ro) h K) B w0 kl F:=λw s0=>by
 have s:=s0.fB hs;obtain⟨S,⟨S1,S2,⟨q1,es,clock,seen,last,h1,hz,h2,h3,h4,ve,rem,h5,h6,h7⟩,q2,eS⟩,hnd,hown⟩:=s.own;subst h4 h6;have hpl:=ajI h7 h2.nd;have hold:((es.filter λe=>!(ve.map (·.born)).contains e.born).filter λe=>Nat.blt e.born last)=es.filter λe=>!(ve.map (·.born)).contains e.born:=by
  rw[QJ];intro e he;have:=h2.lt e (qm.1 he).1;rw[wN];exact this
 have hnew:((es.filter λe=>!(ve.map (·.born)).contains e.born).filter λe=>Nat.ble last e.born)=[]:=by
  rw[List.filter_eq_nil_iff];intro e he;have:=h2.lt e (qm.1 he).1;rw[vH];omega
 have hcl:(!(ve.map (·.born)).isEmpty&&!es.isEmpty&&es.all (λe=>Nat.ble last e.born))=false:=by
  cases es with
  |nil=>simp
  |cons e es=>
   have:=h2.lt e (eX ..);have:Nat.ble last e.born=false:=by
    cases hb:Nat.ble last e.born with
    |false=>rfl
    |true=>rw[vH]at hb;omega
   simp[this]
 have ajK:Eb (ev l x) w.h=some ((if(es.filter λe=>!(ve.map (·.born)).contains e.born).isEmpty then[(.tuple #[.bool false],w.h)]else[])++
  (es.filter λe=>!(ve.map (·.born)).contains e.born).map λe=>(.tuple #[.bool true,e.key,e.val],w.h.set r (.mapIter (some b) last (ve.map (·.born)++[e.born]) last))):=by
  rw[hx];unfold Eb;simp only[h3,h1];rw[hcl];simp only[cond_false,hold,hnew,jo]
 have auT:∀(auU:ae MapEntry) (auV:ae (α×ah)),True:=λ_ _=>trivial;refine .next (zz hg) x rfl rfl _ (by rw[qa];exact ajK) ?_
 intro vh hm;rcases fU.1 hm with hm|hm
 .split at hm
  .rename_i hemp;rw[bR.1 hm,sZ hn];have ajL:rem=[]:=by
    have:(es.filter λe=>!(ve.map (·.born)).contains e.born)=[]:=by simpa using hemp
    rw[this]at hpl;exact List.nil_perm.1 hpl|>λh=>h
   refine done ?_ w s;subst ajL;rw[jo]at h7;have hm1:=h7.map (λe=>(e.key,e.val));rw[h5,h2.xy]at hm1;exact Zt (λp:α×ah=>(bH p.1,p.2)) (λp q hpq=>by
    exact r5) hm1
  .cases hm
 .obtain⟨e,he,rfl⟩:=cO.1 hm;have hr:e∈rem:=hpl.mem_iff.1 he;obtain⟨r1,r2,ajM⟩:=List.append_of_mem hr;obtain⟨i,hi,hie⟩:∃i,i<aC.length/\es[i]? =some e:=by
   obtain⟨i,hi⟩:=zb.1 (qm.1 he).1;have:=(bz.1 hi).1;rw[ZC h2]at this;exact⟨i,this,hi⟩
  have hpe:(e.key,e.val)=(bH aC[i].1,aC[i].2):=by
   have:=congrArg (λl=>l[i]?) h2.xy;simp only[eF,hie,bN hi,oJ]at this;injection this
  injection hpe with hpk hpv;rw[sZ hn,hpk,hpv];have hperm:(ve++[e]++(r1++r2)).Perm es:=by
   refine List.Perm.trans ?_ h7;rw[ajM,fo];refine List.Perm.append_left _ ?_;exact(List.perm_middle (l₁:=r1) (l₂:=r2) (a:=e)).symm
  have CL:tH bH (bS++[aC[i]]) (ve++[e]):=by
   unfold tH;rw[bZ,bZ,h5];simp[hpk,hpv]
  obtain⟨Tm,ajN⟩:∃Tm:ae (α×ah),(bS++aC[i]::Tm).Perm aC:=by
   have hm1:=hperm.map (λe=>(e.key,e.val));rw[bZ,CL,h2.xy]at hm1;have hex:∀ls:ae MapEntry,(∀x∈ls,∃p:α×ah,(x.key,x.val)=(bH p.1,p.2))->∃ps:ae (α×ah),ls.map (λe=>(e.key,e.val))=ps.map λp=>(bH p.1,p.2):=by
    intro ls;induction ls with
    |nil=>intro _;exact⟨[],rfl⟩
    |cons x ls ih=>
     intro h;obtain⟨p,hp⟩:=h x (eX ..);obtain⟨ps,hps⟩:=ih λy hy=>h y (fP _ hy);exact⟨p::ps,by rw[iX,iX,hp,hps]⟩
   obtain⟨ps,hps⟩:=hex (r1++r2) (λy hy=>by
    have hy':y∈es:=hperm.mem_iff.1 (wQ _ hy);obtain⟨j,hj⟩:=zb.1 hy';have hj':=(bz.1 hj).1;rw[ZC h2]at hj';have:=congrArg (λl=>l[j]?) h2.xy;simp only[eF,hj,bN hj',oJ]at this;injection this with this;exact⟨_,this⟩)
   rw[hps,<- bZ]at hm1;refine⟨ps,?_⟩;have:=Zt (λp:α×ah=>(bH p.1,p.2)) (λp q hpq=>by
    exact r5) hm1
   rwa [fo]at this
  refine more aC[i] Tm ajN ⟨w.h.set r (.mapIter (some b) last (ve.map (·.born)++[e.born]) last),w.z,λi hi=>w.oq i hi⟩ ?_;have s2:St B w0 (pt r (.mapIter (some b) last (ve.map (·.born)) last)::kl') F w:=⟨s.agree,s.le,s.fF,⟨S,⟨S1,S2,⟨q1,h3⟩,q2,eS⟩,hnd,hown⟩,s.facts⟩
  have s3:=s2.write (o':=.mapIter (some b) last (ve.map (·.born)++[e.born]) last);refine s3.yz λS' hp=>⟨hp.1,es,last,_,last,?_,hz,h2,hp.2,rfl,ve++[e],r1++r2,CL,by rw[bZ];rfl,hperm⟩
  have hrb:r≠b:=λer=>by
   have:=s2.own;obtain⟨S0,⟨T1,T2,⟨u1,_⟩,_,ue⟩,_,ho⟩:=this;exact(ho r (by rw[ue,u1];simp)).2.2 (er▸hz)
  show(w.h.set r _).get b=_;rw[IH.og,if_neg (λer=>hrb er.symm)];exact h1
def ajO{p:α×ah}
 (next:R (λh=>aO P ds rest (act n ((d,.tuple #[bH p.1,p.2])::l) D pm ro) h K) B w0 kl F)
 (hx:ev l x=.pointer (some ⟨r,0,none⟩):=by rfl) (hs:aD (GJ bH r b aC (bS++[p])) kl kl':=by exact dG) (hn:Nat.blt d n=true:=by rfl) (hg:bJ l g=true:=by rfl):
 R (λh=>aO P ds (⟨⟨some d,g,.entry x⟩,[]⟩::rest) (act n l D pm ro) h K) B w0 kl F:=λw s0=>by
 have s:=s0.fB hs;obtain⟨S,⟨S1,S2,⟨q1,es,clock,seen,last,h1,hz,h2,h3,h4,ve,rem,h5,h6,h7⟩,q2,e⟩,hnd,hown⟩:=s.own;subst h4 h6;obtain⟨ZE,x0,CL,hx0,hx1⟩:∃ZE x0,ve=ZE++[x0]/\x0.key=bH p.1/\x0.val=p.2:=by
  unfold tH at h5;rw[bZ]at h5;obtain⟨a1,a2,e1,e2,e3⟩:=List.map_eq_append_iff.1 h5;obtain⟨x0,a3,e4,e5,e6⟩:=List.map_eq_cons_iff.1 e3;have:a3=[]:=by simpa using e6
  subst this;injection e5 with e5 e7;exact⟨a1,x0,by rw[e1,e4],e5,e7⟩
 have hfind:es.find? (λy=>Nat.beq y.born x0.born)=some x0:=by
  have hm:x0∈es:=h7.mem_iff.1 (ul _ (by rw[CL];simp));cases hf:es.find? (λy=>Nat.beq y.born x0.born)with
  |none=>
   have:=QK.1 hf x0 hm;simp[FI]at this
  |some y=>
   have hy:=QL hf;have hym:=QM hf;have hb:=uj hy;congr 1;exact Zu h2.nd hym hm hb
 refine mG hn hg ?_ (next w s0);simp only[aR.run,hx,h3,h1];rw[CL];simp only[bZ,iX,List.map_nil,List.getLast?_append,List.getLast?_singleton,Option.some_or,FI,cond_true,hfind,hx0,hx1]
end
end Go.Ideal
namespace Go.Ideal
open Go.Sort
variable {P:Program}
def WR.grow{β:aQ}{h:IH}{w:World}(hW:WR P β h w)(os:Array Obj):WR P β h (grow w os)/\Eff β h w β h (grow w os):=by
 have hold:∀b,b<w.heap.size->(Go.Sort.grow w os).heap[b]? =w.heap[b]?:=λb hb=>by
  show(w.heap++os)[b]? =_
  grind
 refine⟨⟨hW.dom,hW.live,λi g o h1 h2=>?_,hW.inj⟩,⟨λ_ _=>rfl,bG _,λ_ _ h=>h,λ_ _ _=>rfl,bG _,λ_ _ _=>rfl,rfl,rfl,rfl,?_,λb hb _=>hold b hb,λi g hg hi=>absurd (hW.dom _ _ hg) s6,(by grind),bG _⟩⟩
 .have hO:=hW.obj i g o h1 h2;exact hO.congr (hold _ hO.lt)
 grind
def Ov(o:Nat):ae ah->Array ah->Array ah
 |[],c=>c
 |v::vs,c=>Ov (o+1) vs (c.setIfInBounds o v)
def ZF(b:Nat):∀(vs:ae ah) (o:Nat) (w:World),w.setCells b o vs=mapBlock w b (Ov o vs)
 |[],o,w=>(mapBlock_id w b _ λc e fr h=>rfl).symm
 |v::vs,o,w=>by
  show(w.setCell ⟨b,o,none⟩ v).setCells b (o+1) vs=_;rw[ZF b vs (o+1),setCell_eq,mapBlock_mapBlock];rfl
def ZG:∀(vs:ae ah) (o:Nat) (c:Array ah) (k:Nat),(Ov o vs c)[k]? =if o<=k/\k<o+vs.length/\k<c.size then vs[k - o]? else c[k]?
 |[],o,c,k=>by
  rw[if_neg (by grind)];rfl
 |v::vs,o,c,k=>by
  show(Ov (o+1) vs (c.setIfInBounds o v))[k]? =_;rw[ZG vs (o+1),rJ]
  grind
def setCells_putRow{α:Type}[Inhabited α](enc:α->ah)(w:World)(b o:Nat)(d:Array α):w.setCells b o (d.toList.map enc)=putRow enc w b o d:=by
 rw[ZF];refine mapBlock_congr w b _ _ λc e fr hc=>?_;apply Array.ext_getElem?;intro k;rw[ZG,putCells,bi]
 grind
def Tn(P:Program)(f:gy):Prop:=∀(blk off cap:Nat) (zs:ae Int) (w:World),Holds (Value.int .i64) w blk off zs.toArray->blk<w.heap.size->zs.length<4611686018427387904->
 Calls P f #[.slice (some ⟨blk,off,none⟩) zs.length cap] w λe w'=>e=.returned (.tuple #[])/\∃n os,w'=Go.Sort.grow (putRow (Value.int .i64) (Sort.ahead w n) blk off (zs.mergeSort λx y=>decide (x<=y)).toArray) os
def bW(zs:ae Int):ae Int:=zs.mergeSort λx y=>decide (x<=y)
def AX(zs:ae Int):(bW zs).length=zs.length:=List.length_mergeSort zs
variable{f:gy}
def ajP(hS:Tn P f){fn:Func}(hfn:P.funcs[f]? =some fn){body:Code}(hb:fn.body=some body)(hname:fn.name≠ "runtime.NumGoroutine"){b o c:Nat}{fl:az Nat}{zs:ae Int}{h h':IH}{cs:ae ah}
 (hg:h.get b=some (.cells cs)) (hz:∀(j:Nat) z,zs[j]? =some z->cs[o+j]? =some (.int .i64 z)) (hne:0<zs.length) (hlen:zs.length<4611686018427387904) (hs:h.storeAt b o ((bW zs).map (.int .i64))=some h'):
 ol P ⟨.func f,[.slice (some ⟨b,o,fl⟩) zs.length c],[],none⟩ h (λr pm h2=>pm=none/\r=.ok (.tuple ⟨[]⟩)/\h2=h'):=by
 intro β w fn' args' cap' hG hW hf ha hcap;obtain⟨kU,t1,t2⟩:=JH (P:=P) (f:=f) (args:=[.slice (some ⟨b,o,fl⟩) zs.length c]) x7 hf ha hcap hfn hb hname w;cases t2 with|cons hv tl=>
 cases tl;obtain⟨g,a,c',hi,rfl,hab,_,hn,hcc,hao,_⟩:=hv.oK;have hao:a.off=g.off+o/\a.spot=none:=by
  rcases hao with e|e
  .omega
  .exact e
 obtain⟨⟨c0,t0,Tp,hh,_⟩,q2,q3,q4,q5,q6⟩:=hW.obj b g _ hi hg;have ea:a=⟨g.b,g.off+o,none⟩:=by
  obtain⟨ab,ao,as⟩:=a;simp only at hab hao;rw[hab,hao.1,hao.2]
 subst ea;have hin:=λj hj=>(bz.1 (hz j _ (bN hj))).1;have hH:Holds (Value.int .i64) w g.b (g.off+o) zs.toArray:=λj hj=>by
  obtain⟨v',h1,h2⟩:=q6 (o+j) _ (hz j _ (bN hj));have:=h2.oh;subst this;refine⟨?_,(q4 _ (by have:=hin j hj;omega)).2⟩;rw[pR,h1];congr 2;rw[getElem!_pos zs.toArray j AK];simp
 have hlt:=(QF.1 hh).1;have hC:=hS g.b (g.off+o) c' zs w hH hlt hlen;obtain⟨_,w1,w2⟩:=Gc hW hi hs (bB.free (by
  have:∀l:ae Int,iY (l.map (Value.int .i64))=true:=by
   intro l;induction l with
   |nil=>rfl
   |cons x l ih=>simp[iY,dQ,Ideal.cellV,ih]
  exact this _)) (by
  rw[jU];intro x hx;obtain⟨z,_,rfl⟩:=cO.1 hx;rfl)
 refine⟨_,Frame.enter P f ⟨_⟩ .normal,t1,rfl,λcs0 AB=>?_⟩;obtain⟨e,w',fr,⟨he,k,os,hw'⟩,hcomes,hfr,hlv⟩:=hC cs0;subst he;have hw1:putRow (Value.int .i64) (Sort.ahead w k) g.b (g.off+o) (zs.mergeSort λx y=>decide (x<=y)).toArray=Sort.ahead (w.setCells g.b (g.off+o) ((bW zs).map (.int .i64))) k:=by
  have:=setCells_putRow (Value.int .i64) w g.b (g.off+o) (bW zs).toArray;rw[this];rfl
 rw[hw1]at hw';have w3:WR P β h' (Sort.ahead (w.setCells g.b (g.off+o) ((bW zs).map (.int .i64))) k):=w1.qO rfl;have w4:=w2.trans (Eff.qO (w':=Sort.ahead (w.setCells g.b (g.off+o) ((bW zs).map (.int .i64))) k) w1.dom rfl rfl rfl rfl (Nat.le_add_right _ _));obtain⟨w5,w6⟩:=w3.grow os;rw[<- hw']at w5 w6;refine⟨.ok (.tuple ⟨[]⟩),none,h',β,w',.returned (.tuple #[]),cs0,⟨rfl,rfl,rfl⟩,w5,w4.trans w6,.ok (.eY _),.none cs0,.inl ⟨f,_,fr,rfl,hcomes,hfr,hlv.2.2.1,hlv.1,hlv.2.1,hlv.2.2.2⟩⟩
def EJ{α:Type}:∀(l:ae α) (o:Nat) (xs:ae α),o+xs.length<=l.length->∃r,jV l o xs=some r
 |[],o,xs,h=>by
  have h1:xs=[]:=pU.1 (by grind);have h2:o=0:=by grind
  exact⟨[],by rw[Xq,if_pos ⟨h1,h2⟩]⟩
 |c::l,0,[],h=>⟨_,Xr c l⟩
 |c::l,0,x::xs,h=>by
  obtain⟨r,hr⟩:=EJ l 0 xs (by grind);exact⟨x::r,by rw[Q6,hr];rfl⟩
 |c::l,o+1,xs,h=>by
  obtain⟨r,hr⟩:=EJ l o xs (by grind);exact⟨c::r,by rw[Q7,hr];rfl⟩
def ajQ(hS:Tn P f){fn:Func}(hfn:P.funcs[f]? =some fn){body:Code}(hb:fn.body=some body)(hname:fn.name≠ "runtime.NumGoroutine"){a:az Addr}{zs:ae Int}(hne:0<zs.length)(hlen:zs.length<4611686018427387904):
 aY P (.func f) [.slice a zs.length zs.length] [] [ap aj (.slice a zs.length zs.length) zs] [] (λ_:Unit=>.tuple ⟨[]⟩) (λ_=>[ap aj (.slice a zs.length zs.length) (bW zs)]) (λ_=>[]) (λ_=>True):=by
 intro B w s;obtain⟨S,⟨S1,S2,q1,q2,e⟩,h2,h3⟩:=s.own;rcases q1 with⟨h,_⟩|⟨b,o,fl,cells,e1,hf,e2,hb',hcl,hel⟩
 .rw[h]at hne;simp at hne
 injection e1 with e1 ZH;subst e1;have hcl:cells.length=o+zs.length:=by rw[hcl];simp[aj]
 have hz:∀(j:Nat) z,zs[j]? =some z->cells[o+j]? =some (.int .i64 z):=λj z hj=>by
  obtain⟨y,u1,_⟩:=hel j z hj;exact n9
 have hst:∃cs2,w.h.storeAt b o ((bW zs).map (.int .i64))=some (w.h.set b (.cells cs2))/\cs2.length=cells.length/\∀(k:Nat) z,(bW zs)[k]? =some z->cs2[o+k]? =some (.int .i64 z):=by
  have hov:∃cs2,jV cells o ((bW zs).map (.int .i64))=some cs2:=EJ _ _ _ (by rw[bi,AX];omega);obtain⟨cs2,hl⟩:=hov;obtain⟨l1,l2,l3⟩:=Ee hl;refine⟨cs2,?_,l2,λk z hk=>?_⟩
  .unfold IH.storeAt;simp only[hb',hl]
  grind
 obtain⟨cs2,hst,hl2,Ow⟩:=hst;refine .real (JG _ (ajP hS hfn hb hname hb' hz hne hlen hst) ?_);rintro r pm h' ⟨rfl,rfl,rfl⟩;have s1:St B w [pt b (.cells cells)] [] w:=⟨s.agree,s.le,s.fF,⟨S,⟨S1,S2,⟨e2,hb'⟩,q2,e⟩,h2,h3⟩,λf hf=>by cases hf⟩
 refine⟨rfl,⟨w.h.set b (.cells cs2),w.z,λi hi=>w.oq i hi⟩,(),rfl,?_,rfl,trivial⟩;refine(s1.write (o':=.cells cs2)).CB λw' S' hp=>?_;refine .inr ⟨b,o,fl,cs2,by rw[AX],hf,hp.1,hp.2,by rw[hl2,hcl,AX];simp[aj],λk x hk=>⟨(),λj u hj=>?_,λf hf=>by cases hf⟩⟩;match j,hj with
 |0,hj=>
  cases hj;have:=Ow k x hk;simpa[aj]using this
end Go.Ideal
namespace Go.Ideal
variable {P:Program}
def CO{α:Type}(P:Program)(vals:α->ae ah)(fn:Fn)(first cap:ae ah)(F:ae aI)(X:ae α->Prop):Prop:=
 ∀(S:Type) (inv:S->ae OA) (ok:ae α->S->Prop) (step:S->α->S×Bool) (s0:S) (oM:Fn) (y1 y2:ae ah) (F':ae aI),ok [] s0->
  (∀vs s x rest,ok vs s->X (vs++x::rest)->(step s x).2=true->ok (vs++[x]) (step s x).1)->
  (∀vs s x rest,ok vs s->X (vs++x::rest)->aY P oM (y1++vals x) y2 (inv s) F' (λ_:Unit=>.bool (step s x).2) (λ_=>inv (step s x).1) (λ_=>[]) (λ_=>True))->
  aY P fn (first++[.func oM ⟨y1⟩ ⟨y2⟩]) cap (inv s0) (F++F') (λ_:ae α=>.tuple ⟨[]⟩) (λxs=>inv (cz step s0 xs)) (λ_=>[]) X
section
variable {B:ae Nat} {w0:Wd} {kl kl' bA:ae OA} {F:ae aI} {K:KO} {n:Nat} {l:qr} {D:ae Deferred} {pm:az FrameMode} {ro:az Nat}
def CP{Z:Type}(B:ae Nat)(w0:Wd)(n:Nat)(l3:Z->qr)(lo:Nat)(o:fw)(kl:Z->ae OA)(F:ae aI):KO:=λoo a h=>
 oo=.normal/\∃z,a=act n (l3 z) [] none (some lo)/\∃w:Wd,w.h=h/\St B w0 (pt lo o::kl z) F w
variable{Z:Type}{lo:Nat}
def zI{l3:Z->qr}{o:fw}{k3:Z->ae OA}(z:Z)(hl:l3 z=l)(hk:aJ (pt lo o::k3 z) kl bA:=by exact lH):R (λh=>CP B w0 n l3 lo o k3 F .normal (act n l [] none (some lo)) h) B w0 kl F:=λw s=>
 ⟨rfl,z,by rw[hl],w,rfl,(s.ku hk).drop⟩
def Tq{Y:Type}{L:nJ}{args:ae ah}{k1:ae OA}{out:Y->Out}{k1':Y->ae OA}{fs:Y->ae aI}{pr:Y->Prop}(l:qr)(l3:Z->qr)(k3:Z->ae OA)(hl:L.tmps=iZ l)(hst:L.state=.ready)(hps:L.params.all (λp=>Nat.blt p L.n)=true)(hlen:L.params.length=args.length)
 (ha:∀B w0,R (λh=>EV P L.assign (act L.n ((L.params.zip args).reverse++l) [] none (some lo)) h (CP B w0 L.n l3 lo (.loop L) k3 F)) B w0 (pt lo (.loop L)::k1) F)
 (hb:∀z B w0,R (λh=>EV P L.body (act L.n (l3 z) [] none (some lo)) h (xu B w0 lo L out k1' fs pr)) B w0 (pt lo (.loop (tq L))::k3 z) F):
 aY P (.yield lo) args [] (pt lo (.loop L)::k1) F (λy:Y=>.bool (ow (out y))) (λy=>pt lo (.loop (mJ L (out y)))::k1' y) fs pr:=by
 intro B w s;obtain⟨l2,e1,e2⟩:=SQ L.n L.params args l hps hlen;refine .round lo rfl rfl L s.get.1 hlen.symm _ (by
  rw[hl];rw[e1,e2];exact ha B w w s) ?_ ?_
 .rintro o a h ⟨rfl,z,rfl,w1,rfl,s1⟩;exact⟨rfl,L,s1.get.1,hst⟩
 .rintro a h r1 ⟨_,z,rfl,w1,rfl,s1⟩ hr;have hr1:r1=L:=by
   have:=s1.get.1;rw[hr]at this;exact pB
  subst hr1;have hb:=hb z B w _ (s1.write);exact cV
variable{S α:Type}{ps:ae Tmp}{assign body:dD}{fn:Fn}{first captured:ae ah}{F1:ae aI}
def ajR{f:aB}{vals:α->ae ah}{X:ae α->Prop}(step:S->α->S×Out)(inv:S->ae OA)(ok:ae α->S->Prop)(s0:S)(h0:ok [] s0)
 (hok:∀vs s x rest,ok vs s->X (vs++x::rest)->(step s x).2=.normal->ok (vs++[x]) (step s x).1) (hit:CO P vals fn first captured F1 X)
 (hf:ev l f=.func fn ⟨first⟩ ⟨captured⟩) (hps:ps.all (λp=>Nat.blt p n)=true) (hlen:∀x,ps.length=(vals x).length) (hk:aJ (inv s0) kl bA) (hF:Sub F1 F) (jM:∀s x,xq (step s x).2)
 (l3:α->Z->qr) (k3:α->Z->ae OA)
 (ha:∀(s:S) (x:α) (lo:Nat) (o:fw) B w0,R (λh=>EV P assign (act n ((ps.zip (vals x)).reverse++l) [] none (some lo)) h (CP B w0 n (l3 x) lo o (λz=>k3 x z++inv s) F)) B w0 (pt lo o::inv s) F)
 (hb:∀(vs:ae α) (s:S) (x:α) (rest:ae α) (z:Z) (lo:Nat) (L:nJ) B w0,ok vs s->X (vs++x::rest)->R (λh=>EV P body (act n (l3 x z) [] none (some lo)) h (xu B w0 lo L (λ_:Unit=>(step s x).2) (λ_=>inv (step s x).1) (λ_=>[]) (λ_=>True))) B w0 (pt lo (.loop (tq L))::(k3 x z++inv s)) F)
 (next:∀r xs,X xs->R (λh=>K (gM step s0 xs).2 (act n l ({target:=.collected r,args:= #[]}::D) pm none) h) B w0 (inv (gM step s0 xs).1++(pt r (.jJ true)::bA)) F):
 R (λh=>EV P (.rangeFunc f ps assign body) (act n l D pm none) h K) B w0 kl F:=by
 refine Od (GD:=λ_=>.tuple ⟨[]⟩) (out:=λxs=>(gM step s0 xs).2) (k1':=λxs=>inv (gM step s0 xs).1) (fs:=λ_=>[]) (pr:=X) hf ?_ hk (hF.app (Sub.refl' F [])) (by grind);intro lo r;have:=hit (S×Out) (λso=>pt lo (.loop (mJ ⟨.ready,none,iZ l,n,ps,assign,body,r⟩ so.2))::inv so.1) (λvs so=>so.2=.normal/\ok vs so.1) (λso x=>(step so.1 x,ow (step so.1 x).2)) (s0,.normal) (.yield lo) [] [] F ⟨rfl,h0⟩
  (λvs so x rest ho hx h=>by
    exact eo)
  (λvs so x rest ho hx=>by
    exact fW)
 have e:(λxs:ae α=>pt lo (.loop (mJ ⟨.ready,none,iZ l,n,ps,assign,body,r⟩ (cz (λso x=>(step so.1 x,ow (step so.1 x).2)) (s0,.normal) xs).2))::inv (cz (λso x=>(step so.1 x,ow (step so.1 x).2)) (s0,.normal) xs).1)=λxs=>pt lo (.loop (mJ ⟨.ready,none,iZ l,n,ps,assign,body,r⟩ (gM step s0 xs).2))::inv (gM step s0 xs).1:=by
  funext xs
  rw[JZ]
 have h2:=this;rw[e]at h2;exact h2
def Ox{f:aB}{vals:α->ae ah}{X:ae α->Prop}(step:S->α->S×Out)(inv:S->ae OA)(ok:ae α->S->Prop)(s0:S)(l3:α->Z->qr)(k3:α->Z->ae OA)(h0:ok [] s0)
 (hok:∀vs s x rest,ok vs s->X (vs++x::rest)->(step s x).2=.normal->ok (vs++[x]) (step s x).1) (hit:CO P vals fn first captured F1 X)
 (ha:∀(s:S) (x:α) (lo:Nat) (o:fw) B w0,R (λh=>EV P assign (act n ((ps.zip (vals x)).reverse++l) [] none (some lo)) h (CP B w0 n (l3 x) lo o (λz=>k3 x z++inv s) F)) B w0 (pt lo o::inv s) F)
 (hb:∀(vs:ae α) (s:S) (x:α) (rest:ae α) (z:Z) (lo:Nat) (L:nJ) B w0,ok vs s->X (vs++x::rest)->R (λh=>EV P body (act n (l3 x z) [] none (some lo)) h (xu B w0 lo L (λ_:Unit=>(step s x).2) (λ_=>inv (step s x).1) (λ_=>[]) (λ_=>True))) B w0 (pt lo (.loop (tq L))::(k3 x z++inv s)) F)
 (next:∀r xs,X xs->R (λh=>K (gM step s0 xs).2 (act n l ({target:=.collected r,args:= #[]}::D) pm none) h) B w0 (inv (gM step s0 xs).1++(pt r (.jJ true)::bA)) F)
 (jM:∀s x,xq (step s x).2)
 (hf:ev l f=.func fn ⟨first⟩ ⟨captured⟩:=by rfl) (hps:ps.all (λp=>Nat.blt p n)=true:=by rfl) (hlen:∀x,ps.length=(vals x).length:=by intro _;rfl)
 (hk:aJ (inv s0) kl bA:=by exact lH) (hF:Sub F1 F:=by exact kV):
 R (λh=>EV P (.rangeFunc f ps assign body) (act n l D pm none) h K) B w0 kl F:=
 ajR step inv ok s0 h0 hok hit hf hps hlen hk hF jM l3 k3 ha hb next
end
end Go.Ideal
namespace Go.Ideal
variable {P:Program}
def dP{α:Type}(E:Enc α)(aF:ae (α×E.Y)):ae ah:=aF.flatMap λp=>E.pat p.1 p.2
def zJ{α:Type}{E:Enc α}:∀aF:ae (α×E.Y),(dP E aF).length=aF.length*E.n
 |[]=>by simp[dP]
 |p::l=>by
  have ih:=zJ l;unfold dP at ih⊢;rw[FK,fu,E.len,rJ,wO];omega
def yC{α:Type}{E:Enc α}:∀{aF:ae (α×E.Y)} {k:Nat} {p:α×E.Y} {j:Nat} {u:ah},aF[k]? =some p->(E.pat p.1 p.2)[j]? =some u->(dP E aF)[k*E.n+j]? =some u
 |[],k,p,j,u,h,_=>by cases h
 |q::l,0,p,j,u,h,hj=>by
  unfold dP
  grind
 |q::l,k+1,p,j,u,h,hj=>by
  have ih:=yC tj hj;unfold dP at ih⊢;rw[FK,sN (by rw[E.len,wO];omega),E.len,show(k+1)*E.n+j - E.n=k*E.n+j by rw[wO];omega];exact ih
def Tt{α:Type}{E:Enc α}{j:Nat}{v:ah}:∀{aF:ae (α×E.Y)} {k:Nat} {p p':α×E.Y},aF[k]? =some p->(E.pat p.1 p.2).set j v=E.pat p'.1 p'.2->j<E.n->(dP E aF).set (k*E.n+j) v=dP E (aF.set k p')
 |[],k,p,p',h,_,_=>by cases h
 |q::l,0,p,p',h,hp,hj=>by
  cases h;unfold dP;rw[FK,IW,gq,List.set_append_left _ _ (by rw[E.len];exact hj),hp];rfl
 |q::l,k+1,p,p',h,hp,hj=>by
  have ih:=Tt tj hp hj;unfold dP at ih⊢;rw[FK,DU _ _ (by rw[E.len,wO];omega),E.len,show(k+1)*E.n+j - E.n=k*E.n+j by rw[wO];omega,ih];rfl
def vY{α:Type}(E:Enc α)(v:ah)(aF:ae (α×E.Y)):aI:=
 ⟨λw=>(aF=[]/\∃a c,v=.slice a 0 c/\SB E.n a)\/∃i o f c cells,(v=.slice (some ⟨i,o,some f⟩) aF.length c/\aF.length<=c/\(f=0\/f=E.n))/\Fz w i cells/\
  ∀(k:Nat) p,aF[k]? =some p->(∀(j:Nat) u,(E.pat p.1 p.2)[j]? =some u->cells[o+k*E.n+j]? =some u)/\∀f∈E.fs p.1 p.2,f.p w,
  λa h=>by
   rcases h with h|⟨i,o,f,c,cells,h1,h2,h3⟩
   .exact .inl h
   .refine .inr ⟨i,o,f,c,cells,h1,h2.mono a,λk x hk=>?_⟩;obtain⟨q1,q2⟩:=h3 k x hk;exact⟨q1,λf hf=>f.mono a (q2 f hf)⟩⟩
def vZ{α:Type}(E:Enc α)(aF:ae (α×E.Y)):aI:=⟨λw=>∀p∈aF,∀f∈E.fs p.1 p.2,f.p w,λa h p hp f hf=>f.mono a (h p hp f hf)⟩
variable{α:Type}{v:ah}{w:Wd}
def ajS{E:Enc α}{aF:ae (α×E.Y)}(h:(vY E v aF).p w):(vZ E aF).p w:=by
 intro p hp f hf;rcases h with⟨rfl,_⟩|⟨i,o,fl,c,cells,_,_,h3⟩
 .cases hp
 .obtain⟨k,hk⟩:=zb.1 hp
  grind
def ajT{E:Enc α}{aF:ae (α×E.Y)}(h:(vY E v aF).p w):(ay E v (aF.map (·.1))).p w:=by
 rcases h with⟨rfl,h⟩|⟨i,o,f,c,cells,h1,h2,h3⟩
 .exact .inl ⟨rfl,h⟩
 .refine .inr ⟨i,o,f,c,cells,by grind,h2,λk x hk=>?_⟩;rw[eF]at hk;cases hp:aF[k]? with
  |none=>rw[hp]at hk;cases hk
  |some p=>
   rw[hp]at hk;cases hk;exact⟨p.2,h3 k p hp⟩
def ZI{E:Enc α}{xs:ae α}(h:(ay E v xs).p w):∃aF:ae (α×E.Y),aF.map (·.1)=xs/\(vY E v aF).p w:=by
 rcases h with⟨rfl,h⟩|⟨i,o,f,c,cells,h1,h2,h3⟩
 .exact⟨[],rfl,.inl ⟨rfl,h⟩⟩
 .obtain⟨l,hl,hp⟩:=Oa (p:=λk (p:α×E.Y)=>xs[k]? =some p.1/\(∀(j:Nat) u,(E.pat p.1 p.2)[j]? =some u->cells[o+k*E.n+j]? =some u)/\∀f∈E.fs p.1 p.2,f.p w) xs.length (λk hk=>by
   obtain⟨y,q1,q2⟩:=h3 k xs[k] (by grind);exact⟨(xs[k],y),(by grind),q1,q2⟩)
  have hm:l.map (·.1)=xs:=by
   apply iQ
   grind
  exact⟨l,hm,.inr (by grind)⟩
def ar{α:Type}(E:Enc α)(v:ah)(aF:ae (α×E.Y)):OA:=
 ⟨λw S=>(aF=[]/\(∃a,v=.slice a 0 0/\SB E.n a)/\S=[])\/∃b f,v=.slice (some ⟨b,0,some f⟩) aF.length aF.length/\(f=0\/f=E.n)/\S=[b]/\w.h.get b=some (.cells (dP E aF)),
  (by grind)⟩
def ajU{E:Enc α}{aF:ae (α×E.Y)}(w w':Wd)(S:ae Nat)(hp:(ar E v aF).p w S)(hle:w.Le w')(hh:w'.h=w.h)(hz:∀i∈S,w'.z i)(ha:(vZ E aF).p w):(vY E v aF).p w':=by
 rcases hp with⟨h1,⟨a,h2,h3⟩,_⟩|⟨b,f,h1,h2,h3,h4⟩
 .exact .inl ⟨h1,a,0,h2,h3⟩
 .refine .inr ⟨b,0,f,_,_,⟨h1,bG _,h2⟩,⟨hz b (by rw[h3];exact bR.2 rfl),.inl (by rw[hh];exact h4)⟩,λk p hk=>⟨λj u hj=>?_,λf hf=>f.mono hle (ha p (aV hk) f hf)⟩⟩;rw[gq];exact yC hk hj
section
variable {B:ae Nat} {w0:Wd} {kl kl' bA:ae OA} {F:ae aI} {K:KO} {ds:ae Tmp} {rest:ae bV} {n:Nat} {l:qr} {D:ae Deferred} {pm:az FrameMode} {ro:az Nat} {d:Nat} {g:az (Tmp×Bool)}
variable {α:Type} {E:Enc α} {v:ah}
variable{Q:IH->Prop}
def J6{xs:ae α}(E:Enc α)(v:ah)(h:∀aF:ae (α×E.Y),aF.map (·.1)=xs->R Q B w0 kl (vY E v aF::F))(hf:ay E v xs∈F:=by exact iN):R Q B w0 kl F:=λw s=>by
 obtain⟨aF,h1,h2⟩:=ZI (s.facts _ hf);exact h aF h1 w ⟨s.agree,s.le,s.fF,s.own,λf hf=>by
  rcases dm.1 hf with rfl|hf
  .exact h2
  .exact s.facts f hf⟩
variable{aF:ae (α×E.Y)}
def Tu(h:R Q B w0 kl (vZ E aF::F))(hf:vY E v aF∈F:=by exact iN):R Q B w0 kl F:=λw s=>
 h w ⟨s.agree,s.le,s.fF,s.own,λf hf'=>by
  rcases dm.1 hf' with rfl|hf'
  .exact ajS (s.facts _ hf)
  .exact s.facts f hf'⟩
def Oy(h:R Q B w0 kl' (vY E v aF::ay E v (aF.map (·.1))::F))(ha:∀w,(∀f∈F,f.p w)->(vZ E aF).p w)(hk:aD (ar E v aF) kl kl':=by exact dG):R Q B w0 kl F:=λw s=>by
 have hall:=ha w s.facts;obtain⟨S,⟨S1,S2,q1,q2,e⟩,h2,h3⟩:=(s.fB hk).own;subst e;let w':Wd:=⟨w.h,λi=>w.z i\/i∈S1,λi hi=>hi.elim (w.oq i) (by grind)⟩
 have hle:w.Le w':=⟨bG _,λi hi=>.inl hi,λ_ _=>rfl⟩
 have hnd:=j5.1 h2;have hel:=ajU w w' S1 q1 hle rfl (λi hi=>.inr hi) hall;refine h w' ⟨s.agree,s.le.trans hle,λi hi hz=>?_,⟨S2,fJ.loc hle (λ_ _=>rfl) q2,hnd.2.1,λi hi=>?_⟩,λf hf=>?_⟩
 .rcases hz with hz|hz
  .exact s.fF i hi hz
  grind
 .grind
 .rcases dm.1 hf with rfl|hf
  .exact hel
  .rcases dm.1 hf with rfl|hf
   .exact ajT hel
   .exact f.mono hle (s.facts f hf)
def ZJ(hlen:0<aF.length)(h:∀b f,(f=0\/f=E.n)->v=.slice (some ⟨b,0,some f⟩) aF.length aF.length->R Q B w0 (pt b (.cells (dP E aF))::kl') F)(hk:aD (ar E v aF) kl kl':=by exact dG):R Q B w0 kl F:=λw s=>by
 have s1:=s.fB hk;obtain⟨S,⟨S1,S2,q1,q2,e⟩,h2,h3⟩:=s1.own;rcases q1 with⟨h0,_⟩|⟨b,f,h4,h5,h6,h7⟩
 .grind
 .exact h b f h5 h4 w ⟨s1.agree,s1.le,s1.fF,⟨S,⟨S1,S2,⟨h6,h7⟩,q2,e⟩,h2,h3⟩,s1.facts⟩
def xz{α:Type}(E:Enc α){aF:ae (α×E.Y)}{Q:IH->Prop}{b f m:Nat}(hm:m=aF.length)(hf:f=0\/f=E.n)(h:R Q B w0 (ar E (.slice (some ⟨b,0,some f⟩) m m) aF::kl') F)(hk:aD (pt b (.cells (dP E aF))) kl kl':=by exact dG):R Q B w0 kl F:=λw s=>by
 refine h w ((s.fB hk).CB (A:=pt b (.cells (dP E aF))) λw S hp=>.inr ⟨b,f,by rw[hm],hf,hp.1,hp.2⟩)
def ZK(h:∀a,v=.slice a aF.length aF.length->R Q B w0 kl F)(hk:aD (ar E v aF) kl kl':=by exact dG):R Q B w0 kl F:=λw s=>by
 obtain⟨S,⟨S1,S2,q1,q2,e⟩,h2,h3⟩:=(s.fB hk).own;rcases q1 with⟨rfl,⟨a,h1,_⟩,_⟩|⟨b,f,h4,_⟩
 .exact h a h1 w s
 .exact h _ h4 w s
variable{x:aB}{c m:Nat}{t e:aM}
def GK(hu:P.underlying t=some (.slice e))(hx:ev l x=.slice none m c):Pu P (ev l) (.bin .eql t x (.const (.slice none 0 0))) (.bool true):=λh=>by
 have he:dX P (Op.equal t (.slice none m c) (.slice none 0 0))=some true:=by
  show dX P (Op.equalIn (9999+1) t (.slice none m c) (.slice none 0 0))=_;unfold Op.equalIn;rw[gu,qz hu];rfl
 have h1:lC P (do eqGuard .eql t x (.const (.slice none 0 0)) (.slice none m c) (.slice none 0 0);binOp .eql t (.slice none m c) (.slice none 0 0))=some (.bool true):=by
  exact oc
 have h2:mD P .eql t x (.const (.slice none 0 0)) (.slice none m c) (.slice none 0 0)=some (.bool true):=by
  by_cases hmc:m=0/\c=0
  .show cond (dQ (Value.slice none m c)&&dQ (Value.slice none 0 0)) (lC P (do eqGuard .eql t x (.const (.slice none 0 0)) (.slice none m c) (.slice none 0 0);binOp .eql t (.slice none m c) (.slice none 0 0))) _=_;rw[h1];obtain⟨rfl,rfl⟩:=hmc;simp[dQ]
  .have e0:dQ (Value.slice none m c)=false:=by
    cases hb:dQ (Value.slice none m c)with
    |false=>rfl
    |true=>exact absurd (by simpa[dQ]using hb) hmc
   have e1:wU P t (.slice none m c) (.slice none 0 0)=some true:=by
    unfold wU;rw[hu]
   show cond (dQ (Value.slice none m c)&&dQ (Value.slice none 0 0)) _ (match wU P t (.slice none m c) (.slice none 0 0)with|some b=>some (Value.bool b)|none=>none)=_;rw[e0,e1];rfl
 simp only[aR.run,hx];show(match mD P .eql t x (.const (.slice none 0 0)) (.slice none m c) (.slice none 0 0)with|some v=>some (v,h)|none=>none)=_;rw[h2]
def zK{a:Addr}(hu:P.underlying t=some (.slice e))(hx:ev l x=.slice (some a) m c):Pu P (ev l) (.bin .eql t x (.const (.slice none 0 0))) (.bool false):=λh=>by
 have h2:mD P .eql t x (.const (.slice none 0 0)) (.slice (some a) m c) (.slice none 0 0)=some (.bool false):=by
  have:wU P t (.slice (some a) m c) (.slice none 0 0)=some false:=by
   unfold wU;rw[hu]
  show(match wU P t (.slice (some a) m c) (.slice none 0 0)with|some b=>some (Value.bool b)|none=>none)=_;rw[this]
 simp only[aR.run,hx];show(match mD P .eql t x (.const (.slice none 0 0)) (.slice (some a) m c) (.slice none 0 0)with|some v=>some (v,h)|none=>none)=_;rw[h2]
variable{s:aB}{b:Nat}
def J7{e:aM}{size bytes:Nat}{a:az Addr}
 (next:R (λh=>aO P ds rest (act n ((d,.slice (some ⟨b,0,some 0⟩) 0 0)::l) D pm ro) h K) B w0 (pt b (.cells [])::kl') F)
 (hs:ev l s=.slice (some ⟨b,0,some 0⟩) 0 0:=by rfl) (hx:ev l x=.slice a 0 c:=by rfl) (hk:aD (pt b (.cells [])) kl kl':=by exact dG) (hn:Nat.blt d n=true:=by rfl) (hg:bJ l g=true:=by rfl):
 R (λh=>aO P ds (⟨⟨some d,g,.append e size bytes s x⟩,[]⟩::rest) (act n l D pm ro) h K) B w0 kl F:=λw st=>by
 have st1:=st.fB hk;refine mG hn hg ?_ (next ⟨w.h.set b (.cells []),w.z,λi hi=>w.oq i hi⟩ st1.write);have h0:∀m,Nat.mul 0 m=0:=λm=>IW m;have e1:w.h.storeAt b 0 []=some (w.h.set b (.cells [])):=by
  unfold IH.storeAt;simp only[st1.get.1];rfl
 simp only[aR.run,hx,hs,qp,Aj,Cf];rw[h0,h0,e1];have:(Nat.ble 0 small&&Nat.ble 0 small&&Nat.ble 0 small)=true:=rfl;rfl
def J8{α:Type}{e:aM}{size bytes:Nat}(E:Enc α)(aF:ae (α×E.Y))(hne:0<aF.length)(hm:aF.length*bytes<=1073741824/\aF.length*size<=1073741824/\aF.length<=1073741824)
 (next:∀b',R (λh=>aO P ds rest (act n ((d,.slice (some ⟨b',0,some size⟩) aF.length aF.length)::l) D pm ro) h K) B w0 (pt b' (.cells (dP E aF))::kl') F)
 (hs:ev l s=.slice (some ⟨b,0,some 0⟩) 0 0:=by rfl) (hx:ev l x=v:=by conv=>lhs;whnf) (hf:vY E v aF∈F:=by exact iN) (hz:E.n=size:=by rfl) (hk:aD (pt b (.cells [])) kl kl':=by exact dG) (hn:Nat.blt d n=true:=by rfl) (hg:bJ l g=true:=by rfl):
 R (λh=>aO P ds (⟨⟨some d,g,.append e size bytes s x⟩,[]⟩::rest) (act n l D pm ro) h K) B w0 kl F:=λw st=>by
 subst hz;have st1:=st.fB hk;have hat:At w.h b (.cells []):=st.at_ hk;obtain⟨k,hk'⟩:∃k,aF.length=k+1:=⟨aF.length - 1,s6⟩
 rcases st.facts _ hf with⟨rfl,_⟩|⟨i,o,f,c,cells,⟨e1,hc⟩,q2,q3⟩
 .simp at hne
 have hfl:=zJ aF;have hcells:∀j,j<aF.length*E.n->cells[o+j]? =(dP E aF)[j]?:=λj hj=>by
  have hn0:0<E.n:=by
   exact sk
  have hd:j/E.n<aF.length:=by rw[WY hn0];exact hj
  have hmod:=BN j hn0;have hpk:=bN hd;have hu:(E.pat (aF[j/E.n]).1 (aF[j/E.n]).2)[j%E.n]? =some ((E.pat (aF[j/E.n]).1 (aF[j/E.n]).2)[j%E.n]'(by rw[E.len];exact hmod)):=bN _;have h1:=(q3 (j/E.n) _ hpk).1 (j%E.n) _ hu;have h2:=yC hpk hu;have Cy:j/E.n*E.n+j%E.n=j:=C1
  rw[pR,Cy]at h1;rw[Cy]at h2;rw[h1,h2]
 have hlen:o+aF.length*E.n<=cells.length\/aF.length*E.n=0:=by
  rcases WX (aF.length*E.n)with h0|h0
  .exact .inr h0
  .left;have h1:=hcells (aF.length*E.n - 1) s6;have hx0:(dP E aF)[aF.length*E.n - 1]? =some ((dP E aF)[aF.length*E.n - 1]'(s6)):=bN _;rw[hx0]at h1;have:=(bz.1 h1).1;omega
 have hread:w.h.je i o (aF.length*E.n)=some (dP E aF):=by
  rw[q2.cells.je,qw,qM,if_pos wl];congr 1;apply iQ;intro j;rw[wP];by_cases hj:j<aF.length*E.n
  .rw[if_pos hj,rH];exact hcells j hj
  .rw[if_neg hj,fT s6]
 refine Sn (b:=b) (o:=0) (m:=0) (k:=k) (f:=some 0) (old:=[]) (xs:=dP E aF) hn hg hs (by rw[hx,e1,hk'];rfl) ?_ ?_ (.inl rfl) ?_ λh' mv=>?_
 .rw[hx,e1,<- hk'];exact hread
 .rw[hat.cX.je,IW];rfl
 .rw[gq,<- hk'];omega
 obtain⟨w',rfl,kF,AO⟩:=st1.move mv;rw[bP]at kF;have:=next w.h.next w' kF
 rw[hk']at this;rw[gq];exact this
end
end Go.Ideal
namespace Go.Ideal
variable {P:Program}
inductive GL(P:Program)(ty:TypeId):Value->Value->Bool->Prop
 |int {a b:Int} (h:P.underlying ty=some (.int .i64)):GL P ty (.int .i64 a) (.int .i64 b) (decide (a=b))
 |str {a b:ByteArray} (h:P.underlying ty=some .string):GL P ty (.string a) (.string b) (decide (a=b))
def J9:dX P program=some P:=rfl
def Ka{α:Type}{c:Prop}[Decidable c]{a b:Sem α}:dX P (if c then a else b)=if c then dX P a else dX P b:=by split<;>rfl
variable{r:Bool}{ty:aM}{a b:ah}
def ZL(c:GL P ty a b r)(d:Nat):dX P (Op.equalIn (d+1) ty a b)=some r:=by
 cases c with
 |int h=>
  unfold Op.equalIn;rw[gu,qz h];rfl
 |str h=>
  unfold Op.equalIn;rw[gu,qz h];show some (_==_)=_;rw[bytes_beq]
def Oz{v:ah}(c:GL P ty a b r){xs:Array ah}{o:Nat}(hx:xs[o]? =some v):dX P (part ty xs o)=some v:=by
 have hu:∃d,P.underlying ty=some d/\(∀fs,d≠.struct fs)/\∀n e,d≠.array n e:=by
  cases c with
  |int h=>grind
  |str h=>grind
 obtain⟨d,h1,h2,h3⟩:=hu;have hag:dX P (isAgg ty)=some false:=by
  unfold isAgg;rw[gu,qz h1];cases d with
  |struct fs=>grind
  |array n e=>grind
  |_=>rfl
 unfold part;rw[gu,hag];rw[hx];rfl
inductive GM(P:Program)(xs ys:List Value):List Field->Bool->Prop
 |nil:GM P xs ys [] true
 |cons {f:Field} {fs:List Field} {a b:Value} {r r':Bool} (hn:(f.name== "_")=false) (hx:xs[f.offset]? =some a) (hy:ys[f.offset]? =some b) (c:GL P f.type a b r) (t:GM P xs ys fs r'):GM P xs ys (f::fs) (r&&r')
def ZM{d:Nat}{t:aM}{fs:Array Field}{xs ys:ae ah}(hu:P.underlying t=some (.struct fs))(hp:P.stoodInHeld t=false)(h:GM P xs ys fs.toList r):dX P (Op.equalIn (d+2) t (.agg ⟨xs⟩) (.agg ⟨ys⟩))=some r:=by
 unfold Op.equalIn;rw[gu,qz hu];simp only[lS];rw[gu,J9];simp only[lS,hp,if_false];rw[<- Array.forIn_toList];generalize fs.toList=l at h;clear hu;induction h with
 |nil=>rfl
 | @cons f fs a b r r' hn hx hy c t ih=>
   have hn:f.name≠ "_" :=by simpa using hn
   rw[List.forIn_cons];simp only[gu,Ka,if_pos hn,hn,ne_eq,if_true]at ih⊢;rw[Oz (xs:=⟨xs⟩) c xf,lS,Oz (xs:=⟨ys⟩) c (by simpa using hy),lS,ZL c,lS];cases r with
   |false=>rfl
   |true=>exact ih
section
variable {l:qr}
variable{t:aM}{x y:aB}{op:BinOp}
def ajV{a b:Array ah}(hm:P.eqGuardType P.depth t=false):dX P (eqGuard op t x y (.agg a) (.agg b))=some ():=by
 have key:dX P (do if !(<- program).eqGuardType (<- program).depth t then return
                   if <- Op.eqGuardIn Op.maxDepth t (.agg a) (.agg b)then unsupported (.noEntry "binop\x2feql: two nil values of an interface type with methods, in a part of a struct or an array"))=some ():=by
  rw[gu,J9];simp only[lS];rw[gu,J9];simp only[lS,hm,if_true];rfl
 cases op<;>first|exact key|rfl
def ZN{a b:ae ah}{v:ah}(ha:iY a=true)(hb:iY b=true)(hm:P.eqGuardType P.depth t=false)(hv:dX P (binOp op t (.agg ⟨a⟩) (.agg ⟨b⟩))=some v)(hf:dQ v=true):mD P op t x y (.agg ⟨a⟩) (.agg ⟨b⟩)=some v:=by
 have h1:lC P (do eqGuard op t x y (.agg ⟨a⟩) (.agg ⟨b⟩);binOp op t (.agg ⟨a⟩) (.agg ⟨b⟩))=some v:=by
  unfold lC;rw[gu,ajV hm]
  grind
 show cond (dQ (.agg ⟨a⟩)&&dQ (.agg ⟨b⟩)) (lC P (do eqGuard op t x y (.agg ⟨a⟩) (.agg ⟨b⟩);binOp op t (.agg ⟨a⟩) (.agg ⟨b⟩))) _=_;rw[h1];simp[dQ,ha,hb]
def ZO{fs:Array Field}{xs ys:ae ah}{r:Bool}(hx:ev l x=.agg ⟨xs⟩)(hy:ev l y=.agg ⟨ys⟩)(hu:P.underlying t=some (.struct fs))(hp:P.stoodInHeld t=false)(hm:P.eqGuardType P.depth t=false)(h:GM P xs ys fs.toList r)(ha:iY xs=true)(hb:iY ys=true):
 Pu P (ev l) (.bin .neq t x y) (.bool (!r)):=λh0=>by
 simp only[aR.run,hx,hy];rw[ZN ha hb hm (by
  show dX P (do pure (Value.bool (!(<- Op.equal t (.agg ⟨xs⟩) (.agg ⟨ys⟩)))))=_;rw[gu,show dX P (Op.equal t (.agg ⟨xs⟩) (.agg ⟨ys⟩))=some r from ZM hu hp h];rfl) rfl]
variable{e:aM}{n:Nat}{xs ys:ae Int}
def ZP{d:Nat}(hu:P.underlying t=some (.array n e))(he:P.underlying e=some (.int .i64))(hs:P.info? e|>.map (·.size)|>(·=some 1))(hx:xs.length=n)(hy:ys.length=n):
 dX P (Op.equalIn (d+2) t (.agg ⟨xs.map (.int .i64)⟩) (.agg ⟨ys.map (.int .i64)⟩))=some (decide (xs=ys)):=by
 have hsz:dX P (sizeOf e)=some 1:=by
  exact gE
 unfold Op.equalIn;rw[gu,qz hu];simp only[lS];rw[gu,hsz];simp only[lS,lU];rw[Std.Legacy.Range.forIn_eq_forIn_range'];simp only[Std.Legacy.Range.size,BQ,Mf,Nat.div_one];have key:∀(m i:Nat),i+m=n->dX P (do
  let Kb <- forIn (List.range' i m 1) ((none,()):az Bool×Unit) λi Kb=>
   (do let a <- part e ⟨xs.map (.int .i64)⟩ i
       let b <- part e ⟨ys.map (.int .i64)⟩ i
       let r <- Op.equalIn (d+1) e a b
       if(!r)=true then pure (ForInStep.done (some false,()))else pure (ForInStep.yield (none,())))
  match Kb.fst with
  |some r=>pure r
  |none=>pure true)=some (decide (xs.drop i=ys.drop i)):=by
  intro m;induction m with
  |zero=>
   intro i hi;rw[BU s6,BU s6];rfl
  |succ m ih=>
   intro i hi;have hix:i<xs.length:=s6
   have Kc:i<ys.length:=s6
   have c:GL P e (.int .i64 xs[i]) (.int .i64 ys[i]) (decide (xs[i]=ys[i])):=.int he;rw[List.range'_succ,List.forIn_cons];simp only[gu,Ka];rw[Oz (xs:=⟨xs.map (.int .i64)⟩) (o:=i) (v:=.int .i64 xs[i]) c (by simp[hix]),lS,Oz (xs:=⟨ys.map (.int .i64)⟩) (o:=i) (v:=.int .i64 ys[i]) c (by simp[Kc]),lS,ZL c,lS];rw[mX hix,mX Kc];have ih:=ih (i+1) s6;simp only[gu,Ka]at ih;by_cases hxy:xs[i]=ys[i]
   .rw[eB hxy];simp only[Bool.not_true,DR,if_false];show(dX P _).bind _=_;rw[show decide (xs[i]::xs.drop (i+1)=ys[i]::ys.drop (i+1))=decide (xs.drop (i+1)=ys.drop (i+1))from(by grind)];exact ih
   .rw[dA hxy];simp only[Bool.not_false,if_true];rw[show decide (xs[i]::xs.drop (i+1)=ys[i]::ys.drop (i+1))=false from(by grind)];rfl
 have:=key n 0 s6;rw[za,za]at this;refine Eq.trans ?_ this;simp only[gu]
 grind
def ajW(hx:ev l x=.agg ⟨xs.map (.int .i64)⟩)(hy:ev l y=.agg ⟨ys.map (.int .i64)⟩)(hu:P.underlying t=some (.array n e))(he:P.underlying e=some (.int .i64))(hs:P.info? e|>.map (·.size)|>(·=some 1))(hxl:xs.length=n)(hyl:ys.length=n)(hm:P.eqGuardType P.depth t=false):
 Pu P (ev l) (.bin .eql t x y) (.bool (decide (xs=ys))):=λh0=>by
 have hfr:∀zs:ae Int,iY (zs.map (Value.int .i64))=true:=by
  intro zs;induction zs with
  |nil=>rfl
  |cons z zs ih=>simp[iY,dQ,Ideal.cellV,ih]
 simp only[aR.run,hx,hy];rw[ZN (hfr xs) (hfr ys) hm (by
  show dX P (do pure (Value.bool (<- Op.equal t (.agg ⟨xs.map (.int .i64)⟩) (.agg ⟨ys.map (.int .i64)⟩))))=_;rw[gu,show dX P (Op.equal t (.agg ⟨xs.map (.int .i64)⟩) (.agg ⟨ys.map (.int .i64)⟩))=some (decide (xs=ys))from ZP hu he hs hxl hyl];rfl) rfl]
def GN(P:Program):ae Field->Nat->ae Bool->Bool
 |[],_,[]=>true
 |f::fs,i,k::ks=>!(f.name== "_")&&f.offset==i&&(match P.underlying f.type with
  |some (.int .i64)=>k
  |some .string=>!k
  |_=>false)&&GN P fs (i+1) ks
 |_,_,_=>false
def cellsE:ae ah->ae ah->Bool
 | .int .i64 a::xs,.int .i64 b::ys=>decide (a=b)&&cellsE xs ys
 | .string a::xs,.string b::ys=>decide (a=b)&&cellsE xs ys
 |_,_=>true
def OB:ae Bool->ae ah->Bool
 |[],[]=>true
 |true::ks,.int .i64 _::vs=>OB ks vs
 |false::ks,.string _::vs=>OB ks vs
 |_,_=>false
def row_of{xs ys:ae ah}:∀{fs:ae Field} {i:Nat} {ks:ae Bool} {xs' ys':ae ah},GN P fs i ks=true->OB ks xs'=true->OB ks ys'=true->(∀j,xs[i+j]? =xs'[j]?)->(∀j,ys[i+j]? =ys'[j]?)->GM P xs ys fs (cellsE xs' ys')
 |[],i,[],[],[],_,_,_,_,_=>.nil
 |f::fs,i,k::ks,[],ys',h,hx,hy,ex,ey=>by cases k<;>cases hx
 |f::fs,i,k::ks,x::xs',[],h,hx,hy,ex,ey=>by cases k<;>cases hy
 |f::fs,i,k::ks,x::xs',y::ys',h,hx,hy,ex,ey=>by
  simp only[GN,gV]at h;obtain⟨⟨⟨h1,h2⟩,h3⟩,h4⟩:=h;have e1:xs[f.offset]? =some x:=by have:=ex 0;grind
  have e2:ys[f.offset]? =some y:=by have:=ey 0;grind
  have ZQ:∀j,xs[i+1+j]? =xs'[j]?:=λj=>by have:=ex (j+1);grind
  have ZR:∀j,ys[i+1+j]? =ys'[j]?:=λj=>by have:=ey (j+1);grind
  cases k with
  |true=>
   match x,hx,y,hy with
   | .int .i64 a,hx,.int .i64 b,hy=>
     have hu:P.underlying f.type=some (.int .i64):=by
      grind
     exact .cons tG e1 e2 (.int hu) (row_of h4 hx hy ZQ ZR)
  |false=>
   match x,hx,y,hy with
   | .string a,hx,.string b,hy=>
     have hu:P.underlying f.type=some .string:=by
      grind
     exact .cons tG e1 e2 (.str hu) (row_of h4 hx hy ZQ ZR)
end
end Go.Ideal
namespace Go.Ideal
variable {P:Program}
variable{ρ:aB->ah}{x:aB}
def xA{src dst:aM}{kk k:IntKind}{n m:Int}{ds:TypeDesc}(hs:P.underlying src=some ds)(hd:P.underlying dst=some (.int k))(hx:ρ x=.int kk n)(hw:k.wrap n=m):Pu P ρ (.conv src dst x) (.int k m):=λh=>by
 have h1:dX P (convert src dst (.int kk n))=some (.int k m):=by
  unfold convert;rw[gu,qz hs];simp only[lS];rw[gu,qz hd];rw[<- hw];rfl
 simp only[aR.run,hx,lC,h1];rfl
variable{a:Nat}
def OC(h:a<18446744073709551616):IntKind.u64.wrap (a:Int)=a:=by
 show(let m:=a%(2^64:Int);if false&&m>=(2^63)then m - (2^64)else m)=_
 grind
def Tv{y:aB}{t:aM}{b:Nat}(hx:ρ x=.int .u64 (a:Int))(hy:ρ y=.int .u64 (b:Int))(hb:b<64):Pu P ρ (.bin .shr t x y) (.int .u64 ((a>>>b:Nat):Int)):=λh=>by
 have hv:dX P (binOp .shr t (.int .u64 a) (.int .u64 b))=some (.int .u64 ((a>>>b:Nat))):=by
  show dX P (Op.shift .shr .u64 a .u64 b)=_;show some (Value.int .u64 ((a:Int).fdiv (2^(min (b:Int).toNat 64))))=_;rw[Me]
  grind
 have h1:lC P (do eqGuard .shr t x y (.int .u64 a) (.int .u64 b);binOp .shr t (.int .u64 a) (.int .u64 b))=some (.int .u64 ((a>>>b:Nat))):=by
  unfold lC;rw[gu];simp only[hv];rfl
 have h2:mD P .shr t x y (.int .u64 a) (.int .u64 b)=some (.int .u64 ((a>>>b:Nat))):=by
  exact h1
 simp only[aR.run,hx,hy,h2]
def Tw{α:Type}[DecidableEq α]{bH:α->ah}{kt:aM}{d:TypeDesc}(hu:P.underlying kt=some d)(hn:∀a b,Instr.sameNow d (bH a) (bH b)=none)(he:∀a b,dX P (Op.equal kt (bH a) (bH b))=some (decide (a=b)))(a:α)(aC:ae (α×ah))(es:ae MapEntry)(h:tH bH aC es):wT P kt (bH a) es=some (tC a aC 0):=by
 have ZT:∀(aC:ae (α×ah)) (es:ae MapEntry) (i:Nat),tH bH aC es->dX P (Instr.findAsking kt (bH a) es i)=some (tC a aC i):=by
  intro aC;induction aC with
  |nil=>
   intro es i h;exact oT
  |cons p aC ih=>
   intro es i h;obtain⟨e,es',rfl,h1,h2,h3⟩:=Tg h;unfold Instr.findAsking;rw[gu,h1,he];unfold tC;by_cases hab:a=p.1
   .rw[eB hab,if_pos hab,h2];rfl
   grind
 unfold wT Instr.findKey;rw[gu,qz hu];cases aC with
 |nil=>
  exact oT
 |cons p aC=>
  obtain⟨e,es',rfl,h1,h2,h3⟩:=Tg h;have:Instr.findNow d (bH a) (e::es') 0=none:=by
   show(match Instr.sameNow d (bH a) e.key with
   |some true=>some (some (0,e.val))
   |some false=>Instr.findNow d (bH a) es' 1
   |none=>none)=_
   rw[h1,hn]
  grind
abbrev jl:Int×Int->ah:=λp=>.agg ⟨[.int .i64 p.1,.int .i64 p.2]⟩
def ajX{kt e:aM}(hu:P.underlying kt=some (.array 2 e))(he:P.underlying e=some (.int .i64))(hs:P.info? e|>.map (·.size)|>(·=some 1))(hc:∀a b:Int,uu P kt (.agg ⟨[.int .i64 a,.int .i64 b]⟩)=true):rY P kt jl where
 EF a:=hc a.1 a.2
 find a aC es h:=Tw hu (λa b=>rfl) (λa b=>by
  have:=ZP (d:=9998) (xs:=[a.1,a.2]) (ys:=[b.1,b.2]) hu he hs rfl rfl;rw[show decide (a=b)=decide ([a.1,a.2]=[b.1,b.2])from(by grind)];exact this) a aC es h
 same a:=by
  show((⟨[Value.int .i64 a.1,.int .i64 a.2]⟩:Array ah).size==(⟨[Value.int .i64 a.1,.int .i64 a.2]⟩:Array ah).size&&(List.zip [Value.int .i64 a.1,.int .i64 a.2] [Value.int .i64 a.1,.int .i64 a.2]).all λ(x,y)=>Instr.sameBits 9999 x y)=true;simp[Instr.sameBits]
end Go.Ideal
namespace Go.Ideal
section
variable {P:Program}
variable {ds:ae Tmp} {rest:ae bV} {n:Nat} {l:qr} {D:ae Deferred} {pm:az FrameMode} {ro:az Nat} {h:IH} {K:KO} {d:Nat} {g:az (Tmp×Bool)}
variable{re:ae jh}
def ZU{op:aR}{v:ah}{h':IH}(hn:Nat.blt d n=true)(hg:bJ l g=true)(hr:op.run P (ev l) h=some (v,h'))
 (hsm:∀q∈re,∃u h2,q.op.run P (ev ((d,v)::l)) h'=some (u,h2)/\∀d',q.dst=some d'->lk ((d,v)::l) d'=u)
 (next:aO P ds rest (act n ((d,v)::l) D pm ro) h' K):aO P ds (⟨⟨some d,g,op⟩,re⟩::rest) (act n l D pm ro) h K:=
 .nL (zz hg) v h' we (λq hq _=>by
  obtain⟨u,h2,e1,e2⟩:=hsm q hq;exact gO) xF
variable{e:aM}{size bytes k:Nat}{s x:aB}{xs:ae ah}
def ajY{b o m:Nat}{f:az Nat}{old:ae ah}(hn:Nat.blt d n=true)(hg:bJ l g=true)
 (hs:ev l s=.slice (some ⟨b,o,f⟩) m m) (hx:qp (ev l x)=some (k+1)) (hxs:pg size (k+1) (ev l x) h=some xs) (hold:h.je b o (m*size)=some old)
 (hf:f=some 0\/f=some size) (hm:(m+(k+1))*bytes<=1073741824/\(m+(k+1))*size<=1073741824/\m+(k+1)<=1073741824)
 (hsm:∀h',Cv h h' b (.cells (old++xs))->∀q∈re,∃u h2,q.op.run P (ev ((d,.slice (some ⟨h.next,0,some size⟩) (m+(k+1)) (m+(k+1)))::l)) h'=some (u,h2)/\∀d',q.dst=some d'->lk ((d,.slice (some ⟨h.next,0,some size⟩) (m+(k+1)) (m+(k+1)))::l) d'=u)
 (next:∀h',Cv h h' b (.cells (old++xs))->aO P ds rest (act n ((d,.slice (some ⟨h.next,0,some size⟩) (m+(k+1)) (m+(k+1)))::l) D pm ro) h' K):
 aO P ds (⟨⟨some d,g,.append e size bytes s x⟩,re⟩::rest) (act n l D pm ro) h K:=by
 have hle:∀{a b:Nat},a<=b->Nat.ble a b=true:=λh=>by rw[vH];exact h
 have hlt:Nat.ble (m+(k+1)) m=false:=by
  exact pD
 have hc:(Nat.ble (Nat.mul (m+(k+1)) bytes) small&&Nat.ble (Nat.mul (m+(k+1)) size) small&&Nat.ble (m+(k+1)) small)=true:=by
  exact ij
 have hrun:∃h',(aR.append e size bytes s x).run P (ev l) h=some (.slice (some ⟨h.next,0,some size⟩) (m+(k+1)) (m+(k+1)),h')/\Cv h h' b (.cells (old++xs)):=by
  exact cM
 obtain⟨h',hr,hM⟩:=hrun;exact ZU hn hg hr (hsm h' hM) (next h' hM)
def ajZ{c:Nat}(hn:Nat.blt d n=true)(hg:bJ l g=true)
 (hs:ev l s=.slice none 0 0) (hx:qp (ev l x)=some (k+1)) (hxs:pg size (k+1) (ev l x) h=some xs)
 (hm:(k+1)*bytes<=1073741824/\(k+1)*size<=1073741824/\(k+1)<=1073741824)
 (hsm:∀h',Agree h h'->At h' h.next (.cells xs)->h'.next=h.next+1->∀q∈re,∃u h2,q.op.run P (ev ((d,.slice (some ⟨h.next,0,some size⟩) (k+1) (k+1))::l)) h'=some (u,h2)/\∀d',q.dst=some d'->lk ((d,.slice (some ⟨h.next,0,some size⟩) (k+1) (k+1))::l) d'=u)
 (next:∀h',Agree h h'->At h' h.next (.cells xs)->h'.next=h.next+1->aO P ds rest (act n ((d,.slice (some ⟨h.next,0,some size⟩) (k+1) (k+1))::l) D pm ro) h' K):
 aO P ds (⟨⟨some d,g,.append e size bytes s x⟩,re⟩::rest) (act n l D pm ro) h K:=by
 have hle:∀{a b:Nat},a<=b->Nat.ble a b=true:=λh=>by rw[vH];exact h
 have e0:Nat.add 0 (k+1)=k+1:=gq _;refine ZU hn hg ?_ (hsm _ (Sj _ _) (Sk _ _) rfl) (next _ (Sj _ _) (Sk _ _) rfl);have Er:Aj size (k+1) (ev l x) h=some xs:=hxs;simp only[aR.run,hx,Er,hs,Cf,e0];rw[hle (show Nat.mul (k+1) bytes<=small from hm.1),hle (show Nat.mul (k+1) size<=small from hm.2.1),hle (show k+1<=small from hm.2.2)];have e1:pg size 0 (.slice none 0 0) h=some []:=by
  rfl
 have e2:Nat.ble (k+1) 0=false:=rfl;simp only[Bool.and_self,cond_true,e2,cond_false,e1,kR,bP]
end
section
variable {P:Program}
variable {ρ:aB->ah}
variable {B:ae Nat} {w0:Wd} {kl kl':ae OA} {F:ae aI} {a:bE} {K:KO}
variable {y:dD} {i j m0:Nat} {I:Nat->bE->IH->Prop} {ch:ae PanicEntry}
variable {B:ae Nat} {w0:Wd} {kl kl':ae OA} {F:ae aI} {K:KO} {ds:ae Tmp} {rest:ae bV} {n:Nat} {l:qr} {D:ae Deferred} {pm:az FrameMode} {ro:az Nat} {d:Nat} {g:az (Tmp×Bool)}
def aj0{re:ae jh}{α:Type}{E:Enc α}{e:aM}{size bytes b':Nat}{s x:aB}{v:ah}{xs:ae α}{a:α}{y:E.Y}{cs:ae ah}{k1 k2:ae OA}(hn:Nat.blt d n=true)(hg:bJ l g=true)
 (hs:ev l s=v) (hx:ev l x=.slice (some ⟨b',0,some 0⟩) 1 1) (hk:aD (ap E v xs) kl k1) (hc:aD (pt b' (.cells cs)) k1 k2) (hp:cs=E.pat a y) (hF:Sub (E.fs a y) F) (hz:E.n=size)
 (hm:(xs.length+1)*bytes<=1073741824/\(xs.length+1)*size<=1073741824/\xs.length+1<=1073741824)
 (hsm:∀ad,Same P re (ev ((d,.slice ad (xs.length+1) (xs.length+1))::l)) ((d,.slice ad (xs.length+1) (xs.length+1))::l) B w0 (ap E (.slice ad (xs.length+1) (xs.length+1)) (xs++[a])::k2) F)
 (r:∀ad,R (λh=>aO P ds rest (act n ((d,.slice ad (xs.length+1) (xs.length+1))::l) D pm ro) h K) B w0 (ap E (.slice ad (xs.length+1) (xs.length+1)) (xs++[a])::k2) F):
 R (λh=>aO P ds (⟨⟨some d,g,.append e size bytes s x⟩,re⟩::rest) (act n l D pm ro) h K) B w0 kl F:=by
 intro w st;subst hp hz;have hlen:=E.len a y;have st2:St B w0 (ap E v xs::pt b' (.cells (E.pat a y))::k2) F w:=st.ku (.cons hk (.cons hc .nil));have hat:At w.h b' (.cells (E.pat a y)):=st2.at_ (.there .here);have pu:St B w0 (ap E v xs::k2) F w:=(st2.fB (.there .here)).tail;have hfs:∀f∈E.fs a y,f.p w:=λf hf=>st.facts f (hF.mem f hf);have hread:w.h.je b' 0 (1*E.n)=some (E.pat a y):=by
  exact mA
 have hx1:qp (ev l x)=some (0+1):=by rw[hx];rfl
 have hx2:pg E.n (0+1) (ev l x) w.h=some (E.pat a y):=AI
 have put:∀(w':Wd) (c:Nat) (f:Nat) (cells:ae ah),cells.length=xs.length*E.n->(∀(k:Nat) z,xs[k]? =some z->∃y,(∀(j:Nat) u,(E.pat z y)[j]? =some u->cells[k*E.n+j]? =some u)/\∀f∈E.fs z y,f.p w')->(∀f∈E.fs a y,f.p w')->
  (f=0\/f=E.n)->∀S,(pt c (.cells (cells++E.pat a y))).p w' S->(ap E (.slice (some ⟨c,0,some f⟩) (xs.length+1) (xs.length+1)) (xs++[a])).p w' S:=by
  intro w' c f cells h1 h2 h3 h4 S hp;refine .inr ⟨c,0,f,_,by grind,h4,hp.1,hp.2,by grind,λk z hk=>?_⟩;by_cases hlt:k<xs.length
  .exact gR
  .exact fg
 obtain⟨S,⟨S1,S2,q,q2,e1⟩,hnd,hown⟩:=pu.own;rcases q with⟨rfl,rfl,rfl⟩|⟨b,o,f,cells,rfl,hf,rfl,hb,hcl,hel⟩
 .have key:∀h',Agree w.h h'->At h' w.h.next (.cells (E.pat a y))->h'.next=w.h.next+1->∃w':Wd,w'.h=h'/\St B w0 (ap E (.slice (some ⟨w.h.next,0,some E.n⟩) (([]:ae α).length+1) (([]:ae α).length+1)) ([]++[a])::k2) F w':=λh' ag uK hnx=>by
   obtain⟨w',rfl,kF⟩:=pu.tail.fresh ag uK hnx;refine⟨w',rfl,?_⟩;have hle:∀f∈E.fs a y,f.p w':=λf hf=>kF.facts f (hF.mem f hf);exact kF.yz λS hp=>put w' _ E.n [] s7 (by grind) hle (.inr rfl) S hp
  refine ajZ (c:=0) hn hg hs hx1 hx2 (by simpa using hm) (λh' ag uK hnx=>?_) λh' ag uK hnx=>?_
  .obtain⟨w',rfl,kF⟩:=key h' ag uK hnx;exact hsm _ w' kF
  .obtain⟨w',rfl,kF⟩:=key h' ag uK hnx;exact r _ w' kF
 .have zA:St B w0 (pt b (.cells cells)::k2) F w:=⟨pu.agree,pu.le,pu.fF,⟨S,⟨_,S2,⟨rfl,hb⟩,q2,e1⟩,hnd,hown⟩,pu.facts⟩
  have JR:At w.h b (.cells cells):=zA.at_ .here;have key:∀h',Cv w.h h' b (.cells (cells.drop o++E.pat a y))->∃w':Wd,w'.h=h'/\St B w0 (ap E (.slice (some ⟨w.h.next,0,some E.n⟩) (xs.length+1) (xs.length+1)) (xs++[a])::k2) F w':=λh' mv=>by
   obtain⟨w',rfl,kF,AO⟩:=zA.move mv;refine⟨w',rfl,kF.yz λS hp=>?_⟩;have hle:∀f∈E.fs a y,f.p w':=λf hf=>kF.facts f (hF.mem f hf);refine put w' _ E.n (cells.drop o) (by grind) (λk z hk=>?_) hle (.inr rfl) S hp;obtain⟨y',u1,u2⟩:=hel k z hk;exact⟨y',(by grind),λf hf=>f.mono AO (u2 f hf)⟩
  refine ajY (old:=cells.drop o) (xs:=E.pat a y) hn hg hs hx1 hx2 ?_ (by grind) hm (λh' mv=>?_) λh' mv=>?_
  .have hdl:(cells.drop o).length=xs.length*E.n:=by grind
   rw[JR.cX.je,qw,qM,if_pos s6,<- hdl,dK]
  .obtain⟨w',rfl,kF⟩:=key h' mv;exact hsm _ w' kF
  .obtain⟨w',rfl,kF⟩:=key h' mv;exact r _ w' kF
end
section
variable {P:Program} {B:ae Nat} {w0:Wd} {kl kl' bA:ae OA} {F:ae aI} {K:KO} {n:Nat} {l:qr} {D:ae Deferred} {pm:az FrameMode} {ro:az Nat}
def ZV{re:ae jh}{α:Type}(E:Enc α){ds:ae Tmp}{rest:ae bV}{d:Nat}{g:az (Tmp×Bool)}{e:aM}{size bytes b':Nat}{s x:aB}{v:ah}{xs:ae α}(a:α)(y:E.Y){cs:ae ah}{k1 k2:ae OA}
 (hm:(xs.length+1)*bytes<=1073741824/\(xs.length+1)*size<=1073741824/\xs.length+1<=1073741824)
 (next:∀ad,R (λh=>aO P ds rest (act n ((d,.slice ad (xs.length+1) (xs.length+1))::l) D pm ro) h K) B w0 (ap E (.slice ad (xs.length+1) (xs.length+1)) (xs++[a])::k2) F)
 (hn:Nat.blt d n=true:=by rfl) (hg:bJ l g=true:=by rfl)
 (hs:ev l s=v:=by conv=>lhs;whnf) (hx:ev l x=.slice (some ⟨b',0,some 0⟩) 1 1:=by rfl) (hk:aD (ap E v xs) kl k1:=by exact dG) (hc:aD (pt b' (.cells cs)) k1 k2:=by exact dG) (hp:cs=E.pat a y:=by rfl) (hF:Sub (E.fs a y) F:=by exact kV) (hz:E.n=size:=by rfl)
 (hsm:∀ad,Same P re (ev ((d,.slice ad (xs.length+1) (xs.length+1))::l)) ((d,.slice ad (xs.length+1) (xs.length+1))::l) B w0 (ap E (.slice ad (xs.length+1) (xs.length+1)) (xs++[a])::k2) F:=by intro _;repeat (first|exact Gv|refine Gw rfl dG tf rfl ?_|refine JS rfl iN tf rfl ?_|refine JU rfl iN tf rfl ?_|refine JV rfl dG tf rfl ?_|refine JW rfl iN tf rfl ?_|refine JX rfl iN tf rfl ?_|refine Y7 CN rfl ?_)):
 R (λh=>aO P ds (⟨⟨some d,g,.append e size bytes s x⟩,re⟩::rest) (act n l D pm ro) h K) B w0 kl F:=
 aj0 hn hg hs hx hk hc hp hF hz hm hsm next
end
variable {P:Program}
section
variable {α κ:Type} [DecidableEq κ] {bH:κ->ah} {E:Enc α}
def AY(E:Enc α):ae (κ×ah)->ae (κ×ae α)->ae OA
 |p::aC,q::m=>ap E p.2 q.2::AY E aC m
 |_,_=>[]
def AZ(E:Enc α)(n:κ):ae (κ×ah)->ae (κ×ae α)->ae OA
 |p::aC,q::m=>if n=p.1 then AY E aC m else ap E p.2 q.2::AZ E n aC m
 |_,_=>[]
def Ke(bH:κ->ah)(E:Enc α)(b:Nat)(m:ae (κ×ae α)):OA:=
 ⟨λw S=>∃aC:ae (κ×ah),aC.map (·.1)=m.map (·.1)/\fJ w (ic bH b aC::AY E aC m) S,λa h ⟨aC,h1,h2⟩=>⟨aC,h1,fJ.loc a h h2⟩⟩
def ZW(E:Enc α)(n:κ)(aC:ae (κ×ah))(m:ae (κ×ae α)):OA:=⟨λw S=>fJ w (AZ E n aC m) S,λa h hp=>fJ.loc a h hp⟩
def ZX(E:Enc α)(aC:ae (κ×ah))(m:ae (κ×ae α)):OA:=⟨λw S=>fJ w (AY E aC m) S,λa h hp=>fJ.loc a h hp⟩
def ZY(E:Enc α)(aC:ae (κ×ah))(m:ae (κ×ae α)):aI:=
 ⟨λw=>∀n v xs,dM n aC=some v->dM n m=some xs->(ay E v xs).p w,λa h n v xs h1 h2=>(ay E v xs).mono a (h n v xs h1 h2)⟩
def Tx{β γ:Type}{n:κ}:∀{aC:ae (κ×β)} {m:ae (κ×γ)},aC.map (·.1)=m.map (·.1)->(dM n aC=none↔dM n m=none)
 |[],[],_=>⟨λ_=>rfl,λ_=>rfl⟩
 |(a,u)::aC,(b,x)::m,h=>by
  injection h with h1 h2;subst h1;unfold dM;by_cases e:n=a
  .grind
  .rw[if_neg e,if_neg e];exact Tx h2
 |[],_::_,h=>by cases h
 |_::_,[],h=>by cases h
def ZZ{n:κ}:∀{aC:ae (κ×ah)} {m:ae (κ×ae α)},dM n aC=none->AZ E n aC m=AY E aC m
 |[],_,_=>by rfl
 |_::_,[],_=>by rfl
 |(a,u)::aC,(b,x)::m,h=>by
  unfold dM at h;by_cases e:n=a
  .grind
  .rw[if_neg e]at h;unfold AZ AY;rw[if_neg e,ZZ h]
def Ty{n:κ}{v:ah}{xs:ae α}:∀{aC:ae (κ×ah)} {m:ae (κ×ae α)},aC.map (·.1)=m.map (·.1)->dM n aC=some v->dM n m=some xs->aD (ap E v xs) (AY E aC m) (AZ E n aC m)
 |[],_,_,h,_=>by cases h
 |_::_,[],h,_,_=>by cases h
 |(a,u)::aC,(b,x)::m,h,h1,h2=>by
  injection h with e1 e2;subst e1;unfold dM at h1 h2;unfold AY AZ;by_cases e:n=a
  .rw[if_pos e]at h1 h2⊢;cases h1;cases h2;exact .here
  .rw[if_neg e]at h1 h2⊢;exact .there (Ty e2 h1 h2)
def Z0{n:κ}{v:ah}{xs:ae α}:∀{aC:ae (κ×ah)} {m:ae (κ×ae α)},aC.map (·.1)=m.map (·.1)->aD (ap E v xs) (AY E (upd n v aC) (upd n xs m)) (AZ E n aC m)
 |[],[],_=>by exact .here
 |[],_::_,h=>by cases h
 |_::_,[],h=>by cases h
 |(a,u)::aC,(b,x)::m,h=>by
  injection h with e1 e2;subst e1;unfold upd AZ;by_cases e:n=a
  .rw[if_pos e,if_pos e,if_pos e];exact .here
  .rw[if_neg e,if_neg e,if_neg e];exact .there (Z0 e2)
def Kg{β γ:Type}{n:κ}{v:β}{x:γ}:∀{aC:ae (κ×β)} {m:ae (κ×γ)},aC.map (·.1)=m.map (·.1)->(upd n v aC).map (·.1)=(upd n x m).map (·.1)
 |[],[],_=>rfl
 |[],_::_,h=>by cases h
 |_::_,[],h=>by cases h
 |(a,u)::aC,(b,y)::m,h=>by
  injection h with e1 e2;subst e1;unfold upd;by_cases e:n=a
  .grind
  .rw[if_neg e,if_neg e,iX,iX,Kg e2]
variable {B:ae Nat} {w0:Wd} {kl kl' bA k1 k2:ae OA} {F:ae aI} {Q:IH->Prop} {b:Nat} {m:ae (κ×ae α)}
def aj1(E:Enc α)(h:R Q B w0 (Ke bH E b ([]:ae (κ×ae α))::kl') F)(hk:aD (ic bH b []) kl kl':=by exact dG):R Q B w0 kl F:=
 .perm (λw S hS=>by
  obtain⟨S',⟨T1,T2,u1,u2,e⟩,hp⟩:=hS.fB hk;exact⟨S',⟨T1,T2,⟨[],rfl,T1,[],u1,rfl,s7⟩,u2,e⟩,hp⟩) h
def aj2(n:κ)(hk:aD (Ke bH E b m) kl kl':=by exact dG)
 (h:∀(aC:ae (κ×ah)) (v:ah),aC.map (·.1)=m.map (·.1)->kw false (.slice none 0 0) n aC=v->R Q B w0 (ic bH b aC::ap E v ((dM n m).getD [])::ZW E n aC m::kl') F):R Q B w0 kl F:=λw s=>by
 obtain⟨S,⟨S1,S2,⟨aC,hkeys,T1,T2,u1,u2,e1⟩,q2,e⟩,hnd,hall⟩:=(s.fB hk).own;have key:∃T',fJ w (ap E (kw false (.slice none 0 0) n aC) ((dM n m).getD [])::AZ E n aC m) T'/\T2.Perm T':=by
  cases hl:dM n aC with
  |none=>
   have hm:=(Tx hkeys).1 hl;have e1:kw false (.slice none 0 0) n aC=.slice none 0 0:=by unfold kw;rw[hl];rfl
   rw[e1,hm,ZZ hl];exact⟨T2,⟨[],T2,.inl ⟨rfl,rfl,rfl⟩,u2,rfl⟩,.refl _⟩
  |some v=>
   cases hm:dM n m with
   |none=>rw[(Tx hkeys).2 hm]at hl;cases hl
   |some xs=>
    have e1:kw false (.slice none 0 0) n aC=v:=by unfold kw;rw[hl];rfl
    rw[e1];exact u2.fB (Ty hkeys hl hm)
 obtain⟨T',⟨T3,T4,u3,u4,e3⟩,hp⟩:=key;subst e e1 e3;have hperm:((T1++T2)++S2).Perm (T1++(T3++(T4++S2))):=by
  grind
 exact h aC _ hkeys rfl w ⟨s.agree,s.le,s.fF,⟨_,⟨T1,_,u1,⟨T3,_,u3,⟨T4,S2,u4,q2,rfl⟩,rfl⟩,rfl⟩,hperm.nodup hnd,(by grind)⟩,s.facts⟩
def aj3(n:κ){aC:ae (κ×ah)}{v:ah}{xs:ae α}(hkeys:aC.map (·.1)=m.map (·.1))(h:R Q B w0 (Ke bH E b (upd n xs m)::bA) F)
 (h1:aD (ic bH b (upd n v aC)) kl k1:=by exact dG) (h2:aD (ap E v xs) k1 k2:=by exact dG) (h3:aD (ZW E n aC m) k2 bA:=by exact dG):R Q B w0 kl F:=
 .perm (λw S hS=>by
  obtain⟨S1,S2,q1,q2,hp⟩:=hS.ku (.cons h1 (.cons h2 (.cons h3 .nil)));obtain⟨T1,U1,u1,⟨T2,U2,u2,⟨T3,U3,u3,u4,e3⟩,e2⟩,e1⟩:=q1;subst u4 e3 e2 e1;obtain⟨V,v1,v2⟩:=fJ.Og (Z0 hkeys) ⟨T2,T3,u2,u3,rfl⟩;refine⟨(T1++V)++S2,⟨T1++V,S2,⟨upd n v aC,Kg hkeys,⟨T1,V,u1,v1,rfl⟩⟩,q2,rfl⟩,hp.trans ?_⟩
  grind) h
def aj4(h:∀aC:ae (κ×ah),aC.map (·.1)=m.map (·.1)->R Q B w0 (ic bH b aC::ZX E aC m::kl') F)(hk:aD (Ke bH E b m) kl kl':=by exact dG):R Q B w0 kl F:=λw s=>by
 obtain⟨S,⟨S1,S2,⟨aC,hkeys,T1,T2,u1,u2,e1⟩,q2,e⟩,hnd,hall⟩:=(s.fB hk).own;refine h aC hkeys w ⟨s.agree,s.le,s.fF,⟨T1++(T2++S2),⟨T1,_,u1,⟨T2,S2,u2,q2,rfl⟩,rfl⟩,?_,λi hi=>hall i ?_⟩,s.facts⟩
 .grind
 grind
def aj5{aC:ae (κ×ah)}(hkeys:aC.map (·.1)=m.map (·.1)):qV (ZX E aC m) [ZY E aC m]:=by
 intro w w' S hS hle hh hz f hf;rw[bR.1 hf];intro n v xs h1 h2;obtain⟨S',⟨T1,T2,u1,_,e⟩,hp⟩:=hS.fB (Ty hkeys h1 h2);exact ja w w' T1 u1 hle hh (by grind) _ (by grind)
end
end Go.Ideal
namespace Go.Ideal
variable {P:Program} {B:ae Nat} {w0:Wd} {kl kl' bA:ae OA} {F:ae aI} {K:KO} {ds:ae Tmp} {rest:ae bV} {n:Nat} {l:qr} {D:ae Deferred} {pm:az FrameMode} {ro:az Nat} {d:Nat} {g:az (Tmp×Bool)}
def Z4{α:Type}(E:Enc α){x i:aB}{v:ah}{xss:ae (ae α)}(k:Nat)(xs:ae α){kk:IntKind}{d2:Nat}{g2:az (Tmp×Bool)}(hz:xss[k]? =some xs)
 (next:∀b o u,R (λh=>aO P ds rest (act n ((d2,u)::(d,.pointer (some ⟨b,o,none⟩))::l) D pm ro) h K) B w0 kl (ay E u xs::F))
 (hn:Nat.blt d n=true:=by rfl) (hg:bJ l g=true:=by rfl) (hn2:Nat.blt d2 n=true:=by rfl) (hg2:∀u,bJ ((d,u)::l) g2=true:=by intro _;rfl) (hx:ev l x=v:=by conv=>lhs;whnf) (hi:ev l i=.int kk (k:Int):=by rfl)
 (hk:aD (ap (aA E) v xss) kl kl':=by exact dG):
 R (λh=>aO P ds (⟨⟨some d,g,.jw 1 x i⟩,[]⟩::⟨⟨some d2,g2,.fG (.tmp d)⟩,[]⟩::rest) (act n l D pm ro) h K) B w0 kl F:=by
 intro w s;have s1:=s.fB hk;obtain⟨S,⟨S1,S2,p,p2,e⟩,h2,h3⟩:=s1.own;have hlt:=(bz.1 hz).1;rcases p with⟨h,_⟩|⟨b,o,f,cells,e1,hf,e2,hb,hcl,hel⟩
 .rw[h]at hz;cases hz
 .subst e1;obtain⟨y,u1,u2⟩:=hel k xs hz;have hc:cells[o+(k:Int).toNat*1]? =some y:=by
   have:=u1 0 y rfl;simpa[aA]using this
  exact eI
end Go.Ideal
namespace Go.Ideal
variable {P:Program} {B:ae Nat} {w0:Wd} {kl kl' bA k1 k2:ae OA} {F:ae aI} {Q:IH->Prop}
section
variable {β:Type} (A:ah->β->OA)
def zM(vs:ae ah)(xss:ae β):ae OA:=(vs.zip xss).map λp=>A p.1 p.2
def qB(b:Nat)(xss:ae β):OA:=
 ⟨λw S=>∃vs:ae ah,vs.length=xss.length/\fJ w (pt b (.cells vs)::zM A vs xss) S,λa h ⟨vs,h1,h2⟩=>⟨vs,h1,fJ.loc a h h2⟩⟩
def Z5(vs:ae ah)(xss:ae β)(k:Nat):OA:=
 ⟨λw S=>fJ w ((zM A vs xss).eraseIdx k) S,λa h hp=>fJ.loc a h hp⟩
variable{xss:ae β}{k:Nat}{vs:ae ah}{v:ah}{xs:β}
def Z6(hv:vs[k]? =some v)(hx:xss[k]? =some xs):(zM A vs xss)[k]? =some (A v xs):=by
 simp[zM,List.zip,List.getElem?_zipWith,hv,hx]
variable{b:Nat}
def Z7(hx:xss[k]? =some xs)(hk:aD (qB A b xss) kl kl':=by exact dG)
 (h:∀(vs:ae ah) (v:ah),vs.length=xss.length->vs[k]? =some v->R Q B w0 (pt b (.cells vs)::A v xs::Z5 A vs xss k::kl') F):R Q B w0 kl F:=λw s=>by
 obtain⟨S,⟨S1,S2,⟨vs,h1,h2⟩,q2,e⟩,hnd,hall⟩:=(s.fB hk).own;subst e;have hlt:=(bz.1 hx).1;have hv:vs[k]? =some (vs[k]'(s6)):=bN s6;refine h vs _ h1 hv w ?_;have hg:=Z6 A hv hx;obtain⟨T1,T2,u1,u2,e⟩:=h2;obtain⟨T3,⟨T4,T5,u4,u5,e5⟩,u6⟩:=u2.fB (aD.at hg);subst e5 e;have hperm:((T1++T2)++S2).Perm (T1++(T4++(T5++S2))):=by
  exact oa
 exact⟨s.agree,s.le,s.fF,⟨T1++(T4++(T5++S2)),⟨T1,_,u1,⟨T4,_,u4,⟨T5,S2,u5,q2,rfl⟩,rfl⟩,rfl⟩,hperm.nodup hnd,λi hi=>hall i (hperm.mem_iff.2 hi)⟩,s.facts⟩
def aj6:zM A (vs.set k v) (xss.set k xs)=(zM A vs xss).set k (A v xs):=by
 apply iQ;intro j;simp only[zM,List.zip]
 grind
def Z8{xs:β}(hlen:vs.length=xss.length)(hk:k<xss.length)(h1:aD (pt b (.cells (vs.set k v))) kl k1:=by exact dG)
 (h2:aD (A v xs) k1 k2:=by exact dG) (h3:aD (Z5 A vs xss k) k2 bA:=by exact dG) (h:R Q B w0 (qB A b (xss.set k xs)::bA) F):R Q B w0 kl F:=
 .perm (λw S hS=>by
  obtain⟨S1,S2,q1,q2,hp⟩:=hS.ku (.cons h1 (.cons h2 (.cons h3 .nil)));obtain⟨T1,U1,u1,⟨T2,U2,u2,⟨T3,U3,u3,u4,e3⟩,e2⟩,e1⟩:=q1;subst u4 e3 e2 e1;have hl:((zM A vs xss).set k (A v xs))[k]? =some (A v xs):=by
   rw[rM,if_pos rfl,if_pos (by simp[zM];omega)]
  obtain⟨V,v1,v2⟩:=fJ.Og (aD.at hl) ⟨T2,T3,u2,by rw[SY];exact u3,rfl⟩;refine⟨(T1++V)++S2,⟨T1++V,S2,⟨vs.set k v,by simp[hlen],⟨T1,V,u1,by rw[aj6];exact v1,rfl⟩⟩,q2,rfl⟩,hp.trans ?_⟩
  grind) h
def aj7{m:Nat}{v0:ah}{x0:β}(h0:∀w,(A v0 x0).p w [])(hk:aD (pt b (.cells (List.replicate m v0))) kl kl':=by exact dG)(h:R Q B w0 (qB A b (List.replicate m x0)::kl') F):R Q B w0 kl F:=
 .perm (λw S hS=>by
  obtain⟨S',⟨T1,T2,u1,u2,e⟩,hp⟩:=hS.fB hk;refine⟨S',⟨T1,T2,⟨List.replicate m v0,s7,⟨T1,[],u1,?_,s7⟩⟩,u2,e⟩,hp⟩;have:∀m,fJ w (zM A (List.replicate m v0) (List.replicate m x0)) []:=by
   intro m;induction m with
   |zero=>rfl
   |succ m ih=>exact⟨[],[],h0 w,ih,rfl⟩
  exact this m) h
def aj8{E:Enc β}{c:Nat}(fv:ah->E.Y)(hn:E.n=1)(hpat:∀x v,E.pat x (fv v)=[v])(hA:∀v xs,qV (A v xs) (E.fs xs (fv v)))(hc:xss.length<=c:=by first|exact bG _|omega):qV (qB A b xss) [ay E (.slice (some ⟨b,0,some 0⟩) xss.length c) xss]:=by
 intro w w' S ⟨vs,hlen,T1,T2,⟨h1,h2⟩,u2,e⟩ hle hh hz f hf;subst e;rw[bR.1 hf];refine .inr ⟨b,0,0,c,vs,⟨rfl,hc,.inl rfl⟩,⟨hz b (by rw[h1];simp),.inl ud⟩,λk xs hk=>?_⟩;have hlt:=(bz.1 hk).1;have hv:vs[k]? =some (vs[k]'(s6)):=bN s6;have hg:=Z6 A hv hk;obtain⟨T3,⟨T4,T5,u4,u5,e5⟩,u6⟩:=u2.fB (aD.at hg);subst e5;refine⟨fv (vs[k]'(s6)),λj u hj=>?_,λg hgm=>?_⟩
 .rw[hpat]at hj;match j,hj with
  |0,hj=>
   cases hj;rw[hn];simp
 .exact hA _ _ w w' T4 u4 hle hh (λi hi=>hz i (wQ _ (u6.mem_iff.2 (ul _ hi)))) g hgm
end
def OD{α:Type}(v:ah)(xs:ae α):aI:=⟨λ_=>xs=[]->v=.slice none 0 0,λ_ h=>h⟩
def nP{α:Type}(E:Enc α)(v:ah)(xs:ae α):OA:=⟨λw S=>(ap E v xs).p w S/\(xs=[]->v=.slice none 0 0),λa h hp=>⟨(ap E v xs).loc a h hp.1,hp.2⟩⟩
def xB{α:Type}(E:Enc α):Enc (ae α):=⟨1,ah,λ_ v=>[v],λxs v=>[ay E v xs,OD v xs],λ_ _=>rfl⟩
variable{α:Type}{v:ah}
def aj9{E:Enc α}{xs:ae α}:qV (nP E v xs) [ay E v xs,OD v xs]:=by
 intro w w' S hp hle hh hz f hf;rcases dm.1 hf with rfl|hf
 .exact ja w w' S hp.1 hle hh hz _ (by grind)
 .rw[bR.1 hf];exact hp.2
def Z9(E:Enc α)(v:ah)(xs:ae α)(h:(xs=[]->v=.slice none 0 0)->R Q B w0 (ap E v xs::kl') F)(hk:aD (nP E v xs) kl kl':=by exact dG):R Q B w0 kl F:=λw s=>by
 obtain⟨S,⟨S1,S2,q1,q2,e⟩,h2,h3⟩:=(s.fB hk).own;exact h q1.2 w ⟨s.agree,s.le,s.fF,⟨S,⟨S1,S2,q1.1,q2,e⟩,h2,h3⟩,s.facts⟩
def aaa(E:Enc α)(v:ah)(xs:ae α)(hz:xs=[]->v=.slice none 0 0)(h:R Q B w0 (nP E v xs::kl') F)(hk:aD (ap E v xs) kl kl':=by exact dG):R Q B w0 kl F:=λw s=>
 h w ((s.fB hk).CB λw S hp=>⟨hp,hz⟩)
variable{w:Wd}
def aab{E:Enc α}{xss:ae (ae α)}(h:(ay (xB E) v xss).p w):(ay (aA E) v xss).p w:=by
 rcases h with h|⟨i,o,f,c,cells,h1,h2,h3⟩
 .exact .inl h
 .refine .inr ⟨i,o,f,c,cells,h1,h2,λk x hk=>?_⟩;obtain⟨y,q1,q2⟩:=h3 k x hk;exact⟨y,q1,λf hf=>q2 f (by rw[bR.1 hf];exact eX ..)⟩
def Kh{A A':OA}(e:A=A')(h:R Q B w0 (A'::kl') F)(hk:aD A kl kl':=by exact dG):R Q B w0 kl F:=by
 subst e;exact λw s=>h w (s.fB hk)
def St.aac{E:Enc α}{aF:ae (α×E.Y)}(h0:0<aF.length)(hall:(vZ E aF).p w)(s:St B w0 (ar E v aF::kl') F w):St B w0 (ap E v (aF.map (·.1))::kl') F w:=by
 obtain⟨S,⟨S1,S2,q1,q2,e⟩,h2,h3⟩:=s.own;refine⟨s.agree,s.le,s.fF,⟨S,⟨S1,S2,?_,q2,e⟩,h2,h3⟩,s.facts⟩;rcases q1 with⟨h4,_⟩|⟨b,f,h4,h5,h6,h7⟩
 .grind
 .refine .inr ⟨b,0,f,_,by grind,h5,h6,h7,by rw[zJ,bi,gq],λk x hk=>?_⟩;rw[eF]at hk;cases hp:aF[k]? with
  |none=>rw[hp]at hk;cases hk
  |some p=>
   rw[hp]at hk;cases hk;exact⟨p.2,λj u hj=>by rw[gq];exact yC hp hj,λf hf=>hall p (by grind) f hf⟩
def aad{E:Enc α}{aF:ae (α×E.Y)}(h0:0<aF.length)(h:R Q B w0 (ap E v (aF.map (·.1))::kl') F)(hfs:∀w,(∀f∈F,f.p w)->(vZ E aF).p w)(hk:aD (ar E v aF) kl kl':=by exact dG):R Q B w0 kl F:=λw s=>
 h w (St.aac h0 (hfs w s.facts) (s.fB hk))
end Go.Ideal
namespace Go.Ideal
variable {P:Program}
def GQ{α:Type}(P:Program)(vals:α->ae ah)(fe:α->ae aI)(fn:Fn)(first cap:ae ah)(F:ae aI)(X:ae α->Prop):Prop:=
 ∀(S:Type) (inv:S->ae OA) (ok:ae α->S->Prop) (step:S->α->S×Bool) (s0:S) (oM:Fn) (y1 y2:ae ah) (F':ae aI),ok [] s0->
  (∀vs s x rest,ok vs s->X (vs++x::rest)->(step s x).2=true->ok (vs++[x]) (step s x).1)->
  (∀vs s x rest,ok vs s->X (vs++x::rest)->aY P oM (y1++vals x) y2 (inv s) (fe x++F') (λ_:Unit=>.bool (step s x).2) (λ_=>inv (step s x).1) (λ_=>[]) (λ_=>True))->
  aY P fn (first++[.func oM ⟨y1⟩ ⟨y2⟩]) cap (inv s0) (F++F') (λ_:ae α=>.tuple ⟨[]⟩) (λxs=>inv (cz step s0 xs)) (λ_=>[]) X
def aY.facts{Y:Type}{fn:Fn}{args cap:ae ah}{kl:ae OA}{F F2:ae aI}{val:Y->ah}{kl':Y->ae OA}{fs:Y->ae aI}{pr:Y->Prop}(h:aY P fn args cap kl F val kl' fs pr)(hF:∀f∈F,f∈F2):aY P fn args cap kl F2 val kl' fs pr:=
 λB w s=>h B w ⟨s.agree,s.le,s.fF,s.own,λf hf=>s.facts f (hF f hf)⟩
section
variable {B:ae Nat} {w0:Wd} {kl kl' bA:ae OA} {F:ae aI} {K:KO} {n:Nat} {l:qr} {D:ae Deferred} {pm:az FrameMode} {ro:az Nat}
variable{S α Z:Type}{ps:ae Tmp}{assign body:dD}{fn:Fn}{first captured:ae ah}{F1:ae aI}
def aka{f:aB}{vals:α->ae ah}{fe:α->ae aI}{X:ae α->Prop}(step:S->α->S×Out)(inv:S->ae OA)(ok:ae α->S->Prop)(s0:S)(h0:ok [] s0)
 (hok:∀vs s x rest,ok vs s->X (vs++x::rest)->(step s x).2=.normal->ok (vs++[x]) (step s x).1) (hit:GQ P vals fe fn first captured F1 X)
 (hf:ev l f=.func fn ⟨first⟩ ⟨captured⟩) (hps:ps.all (λp=>Nat.blt p n)=true) (hlen:∀x,ps.length=(vals x).length) (hk:aJ (inv s0) kl bA) (hF:Sub F1 F) (jM:∀s x,xq (step s x).2)
 (l3:α->Z->qr) (k3:α->Z->ae OA)
 (ha:∀(s:S) (x:α) (lo:Nat) (o:fw) B w0,R (λh=>EV P assign (act n ((ps.zip (vals x)).reverse++l) [] none (some lo)) h (CP B w0 n (l3 x) lo o (λz=>k3 x z++inv s) (fe x++F))) B w0 (pt lo o::inv s) (fe x++F))
 (hb:∀(vs:ae α) (s:S) (x:α) (rest:ae α) (z:Z) (lo:Nat) (L:nJ) B w0,ok vs s->X (vs++x::rest)->R (λh=>EV P body (act n (l3 x z) [] none (some lo)) h (xu B w0 lo L (λ_:Unit=>(step s x).2) (λ_=>inv (step s x).1) (λ_=>[]) (λ_=>True))) B w0 (pt lo (.loop (tq L))::(k3 x z++inv s)) (fe x++F))
 (next:∀r xs,X xs->R (λh=>K (gM step s0 xs).2 (act n l ({target:=.collected r,args:= #[]}::D) pm none) h) B w0 (inv (gM step s0 xs).1++(pt r (.jJ true)::bA)) F):
 R (λh=>EV P (.rangeFunc f ps assign body) (act n l D pm none) h K) B w0 kl F:=by
 refine Od (GD:=λ_=>.tuple ⟨[]⟩) (out:=λxs=>(gM step s0 xs).2) (k1':=λxs=>inv (gM step s0 xs).1) (fs:=λ_=>[]) (pr:=X) hf ?_ hk (hF.app (Sub.refl' F [])) (by grind);intro lo r;have:=hit (S×Out) (λso=>pt lo (.loop (mJ ⟨.ready,none,iZ l,n,ps,assign,body,r⟩ so.2))::inv so.1) (λvs so=>so.2=.normal/\ok vs so.1) (λso x=>(step so.1 x,ow (step so.1 x).2)) (s0,.normal) (.yield lo) [] [] F ⟨rfl,h0⟩
  (λvs so x rest ho hx h=>by
    exact eo)
  (λvs so x rest ho hx=>by
    obtain⟨s,o⟩:=so;obtain⟨hn,ho⟩:=ho;subst hn;exact Tq (L:=⟨.ready,none,iZ l,n,ps,assign,body,r⟩) (args:=vals x) l (l3 x) (λz=>k3 x z++inv s) rfl rfl hps (hlen x)
     (by grind) (by grind))
 have e:(λxs:ae α=>pt lo (.loop (mJ ⟨.ready,none,iZ l,n,ps,assign,body,r⟩ (cz (λso x=>(step so.1 x,ow (step so.1 x).2)) (s0,.normal) xs).2))::inv (cz (λso x=>(step so.1 x,ow (step so.1 x).2)) (s0,.normal) xs).1)=λxs=>pt lo (.loop (mJ ⟨.ready,none,iZ l,n,ps,assign,body,r⟩ (gM step s0 xs).2))::inv (gM step s0 xs).1:=by
  funext xs
  rw[JZ]
 have h2:=this;rw[e]at h2;exact h2
def Ki{f:aB}{vals:α->ae ah}{fe:α->ae aI}{X:ae α->Prop}(step:S->α->S×Out)(inv:S->ae OA)(ok:ae α->S->Prop)(s0:S)(l3:α->Z->qr)(k3:α->Z->ae OA)(h0:ok [] s0)
 (hok:∀vs s x rest,ok vs s->X (vs++x::rest)->(step s x).2=.normal->ok (vs++[x]) (step s x).1) (hit:GQ P vals fe fn first captured F1 X)
 (ha:∀(s:S) (x:α) (lo:Nat) (o:fw) B w0,R (λh=>EV P assign (act n ((ps.zip (vals x)).reverse++l) [] none (some lo)) h (CP B w0 n (l3 x) lo o (λz=>k3 x z++inv s) (fe x++F))) B w0 (pt lo o::inv s) (fe x++F))
 (hb:∀(vs:ae α) (s:S) (x:α) (rest:ae α) (z:Z) (lo:Nat) (L:nJ) B w0,ok vs s->X (vs++x::rest)->R (λh=>EV P body (act n (l3 x z) [] none (some lo)) h (xu B w0 lo L (λ_:Unit=>(step s x).2) (λ_=>inv (step s x).1) (λ_=>[]) (λ_=>True))) B w0 (pt lo (.loop (tq L))::(k3 x z++inv s)) (fe x++F))
 (next:∀r xs,X xs->R (λh=>K (gM step s0 xs).2 (act n l ({target:=.collected r,args:= #[]}::D) pm none) h) B w0 (inv (gM step s0 xs).1++(pt r (.jJ true)::bA)) F)
 (jM:∀s x,xq (step s x).2)
 (hf:ev l f=.func fn ⟨first⟩ ⟨captured⟩:=by rfl) (hps:ps.all (λp=>Nat.blt p n)=true:=by rfl) (hlen:∀x,ps.length=(vals x).length:=by intro _;rfl)
 (hk:aJ (inv s0) kl bA:=by exact lH) (hF:Sub F1 F:=by exact kV):
 R (λh=>EV P (.rangeFunc f ps assign body) (act n l D pm none) h K) B w0 kl F:=
 aka step inv ok s0 h0 hok hit hf hps hlen hk hF jM l3 k3 ha hb next
end
def akb{b o:Nat}{cs:ae ah}{w:Wd}(m:Nat)(h:(aX b o cs).p w):(aX b (o+m) (cs.drop m)).p w:=by
 obtain⟨cells,h1,h2⟩:=h;exact⟨cells,h1,(by grind)⟩
section
variable {B:ae Nat} {w0:Wd} {kl:ae OA} {F:ae aI}
def akc{b:Nat}{cs ds:ae ah}{Q:IH->Prop}(m:Nat)(hd:cs.drop m=ds)(h:R Q B w0 kl (aX b m ds::F))(hf:aX b 0 cs∈F:=by exact iN):R Q B w0 kl F:=
 fA _ (λw hw=>by have:=akb m (hw _ hf);grind) h
def aae{α:Type}(E:Enc α){v:ah}{xs:ae α}{k:Nat}{x:α}{Q:IH->Prop}(n:Nat)(hn:E.n=n)(hx:xs[k]? =some x)
 (h:∀b o f c y,v=.slice (some ⟨b,o,some f⟩) xs.length c->R Q B w0 kl (aX b (o+k*n) (E.pat x y)::(E.fs x y++F))) (hf:ay E v xs∈F:=by exact iN):R Q B w0 kl F:=λw s=>by
 subst hn;rcases s.facts _ hf with⟨h0,_⟩|⟨i,o,f,c,cells,⟨h1,_⟩,h2,h3⟩
 .rw[h0]at hx;cases hx
 .obtain⟨y,q1,q2⟩:=h3 k x hx;refine h i o f c y h1 w ⟨s.agree,s.le,s.fF,s.own,λg hg=>?_⟩;rcases dm.1 hg with rfl|hg
  .exact⟨cells,h2,q1⟩
  .rcases fU.1 hg with hg|hg
   .exact q2 g hg
   .exact s.facts g hg
end
end Go.Ideal
namespace Go.Ideal
variable {P:Program} {B:ae Nat} {w0:Wd} {kl kl' bA:ae OA} {F:ae aI} {K:KO} {ds:ae Tmp} {rest:ae bV} {n:Nat} {l:qr} {D:ae Deferred} {pm:az FrameMode} {ro:az Nat} {d:Nat} {g:az (Tmp×Bool)}
def OE{cs1 cs2 xs:ae ah}(h:xs.length<=cs2.length):jV (cs1++cs2) cs1.length xs=some (cs1++(xs++cs2.drop xs.length)):=by
 obtain⟨r,hr⟩:=EJ (cs1++cs2) cs1.length xs (by grind);obtain⟨h1,h2,h3⟩:=Ee hr;rw[hr];congr 1;apply iQ
 grind
end Go.Ideal
namespace Go.Ideal
open Go.RowKit Go.WideShapes Go.ChangeShapes
variable {P:Program}
section
variable {H:Type} {enc:aM×ah->H} {W:World}
end
end Go.Ideal
namespace Go.Ideal
variable {P:Program}

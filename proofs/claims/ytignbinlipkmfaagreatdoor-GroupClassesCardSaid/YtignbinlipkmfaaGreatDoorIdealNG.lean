/- Part. -/
import Derived.Test.YtignbinlipkmfaaGreatDoorIdealKG
import Derived.Sort.Row
import Derived.Sort.Grow
import Derived.Laws.StructEq
set_option linter.all false
namespace Go.Ideal
variable {P:Program}
def Cr{Y:Type}(B:ae Nat)(w0:Wd)(ret:Y->iL)(kl':Y->ae OA)(fs:Y->ae aH)(pr:Y->Prop):KR:=λr pm h'=>
 pm=none/\∃(w':Wd) (y:Y),w'.h=h'/\St B w0 (kl' y) (fs y) w'/\r=ret y/\pr y
def rW{Y:Type}(P:Program)(fn:Fn)(args cap:ae ah)(kl:ae OA)(F:ae aH)(ret:Y->iL)(kl':Y->ae OA)(fs:Y->ae aH)(pr:Y->Prop):Prop:=
 ∀(B:ae Nat) (w:Wd),St B w kl F w->CALL P ⟨fn,args,cap,none⟩ w.h (Cr B w ret kl' fs pr)
variable{args cap:ae ah}{Y:Type}{kl:ae OA}{F:ae aH}
def rW.toC{fn:Fn}{ret:Y->iL}{kl':Y->ae OA}{fs:Y->ae aH}{pr:Y->Prop}(val:Y->ah)(h:rW P fn args cap kl F ret kl' fs pr)
 (hv:∀y,pr y->ret y=.ok (val y)):bA P fn args cap kl F val kl' fs pr:=λB w s=>by
 refine .ji _ (h B w s) ?_;rintro r pm h' ⟨e,w',y,e1,st,er,hp⟩;exact⟨e,w',y,e1,st,er.trans (hv y hp),hp⟩
def Pj{Y:Type}(B:ae Nat)(w0:Wd)(ret:Y->iL)(md:Y->FrameMode)(kl':Y->ae OA)(fs:Y->ae aH)(pr:Y->Prop):KR:=λr pm h'=>
 ∃(w':Wd) (y:Y),pm=some (md y)/\w'.h=h'/\St B w0 (kl' y) (fs y) w'/\r=ret y/\pr y
def KA{Y:Type}(P:Program)(fn:Fn)(args cap:ae ah)(m:FrameMode)(kl:ae OA)(F:ae aH)(ret:Y->iL)(md:Y->FrameMode)(kl':Y->ae OA)(fs:Y->ae aH)(pr:Y->Prop):Prop:=
 ∀(B:ae Nat) (w:Wd),St B w kl F w->CALL P ⟨fn,args,cap,some m⟩ w.h (Pj B w ret md kl' fs pr)
variable{f:eD}{c:cK}{m:Nat}{l0:qr}
def VK{K:KR}{pm:aj FrameMode}(cf:gK)(hF:(lX P rJ rM).F f=some cf)(h1:cf.body=c)(h2:rG cf.ntmps (iI (args++cap))=m)(h3:rU 0 (args++cap) []=l0){h:IH}
 (hb:EV P c (act m l0 [] pm none) h (tq P cf K)):CALL P ⟨.func f,args,cap,pm⟩ h K:=by
 obtain⟨fn,e1,e2⟩:=(rT P rJ rM (λf q h v h' hm=>by cases hm)).fn f cf hF;refine U8 cf fn e1 e2 ?_;rw[O7,h1,h2,h3];exact hb
def AJ{ret:Y->iL}{kl':Y->ae OA}{fs:Y->ae aH}{pr:Y->Prop}(cf:gK)(hF:(lX P rJ rM).F f=some cf)
 (hb:∀B w0,R (λh=>EV P c (act m l0 [] none none) h (tq P cf (Cr B w0 ret kl' fs pr))) B w0 kl F)
 (h1:cf.body=c:=by conv=>lhs;(reduce;(try simp only[Int.reduceOfNat,Int.reduceNegSucc]))) (h2:rG cf.ntmps (iI (args++cap))=m:=by conv=>lhs;whnf) (h3:rU 0 (args++cap) []=l0:=by dsimp only[rU,Nat.reduceAdd,List.append_nil,List.cons_append,List.nil_append]):rW P (.func f) args cap kl F ret kl' fs pr:=
 λB w s=>VK cf hF h1 h2 h3 (hb B w w s)
def VL{pm:FrameMode}{ret:Y->iL}{md:Y->FrameMode}{kl':Y->ae OA}{fs:Y->ae aH}{pr:Y->Prop}(cf:gK)(hF:(lX P rJ rM).F f=some cf)
 (hb:∀B w0,R (λh=>EV P c (act m l0 [] (some pm) none) h (tq P cf (Pj B w0 ret md kl' fs pr))) B w0 kl F)
 (h1:cf.body=c:=by conv=>lhs;(reduce;(try simp only[Int.reduceOfNat,Int.reduceNegSucc]))) (h2:rG cf.ntmps (iI (args++cap))=m:=by conv=>lhs;whnf) (h3:rU 0 (args++cap) []=l0:=by dsimp only[rU,Nat.reduceAdd,List.append_nil,List.cons_append,List.nil_append]):KA P (.func f) args cap pm kl F ret md kl' fs pr:=
 λB w s=>VK cf hF h1 h2 h3 (hb B w w s)
section
variable {B:ae Nat} {w0:Wd} {kl kl' bi:ae OA} {F:ae aH} {K:KO} {ds:ae Tmp} {rest:ae bJ} {n:Nat} {l:qr} {D:ae Deferred} {pm:aj FrameMode} {ro:aj Nat} {d:Nat} {g:aj (Tmp×Bool)}
variable{k1:ae OA}{F1:ae aH}
def St.KC{w:Wd}{bi:ae OA}(s:St B w0 kl F w)(hk:aM k1 kl bi)(hF:Sub F1 F):
 ∃S1,St S1 w k1 F1 w/\∀(w':Wd) (k1':ae OA) (F':ae aH),St S1 w k1' F' w'->St B w0 (k1'++bi) (F'++F) w':=by
 obtain⟨S,h1,h2,h3⟩:=s.own;obtain⟨S1,S2,q1,q2,hp⟩:=h1.kJ hk;have hsub:∀i∈S1,i∈S:=λi hi=>hp.mem_iff.2 (jS _ hi);exact⟨S1,⟨⟨bz _,λ_ _ _=>rfl,λ_ _=>rfl⟩,Wd.Le.refl w,λi _ hz=>.inl hz,⟨S1,q1,(iT.1 (hp.nodup h2)).1,λi hi=>⟨.inr hi,(h3 i (hsub i hi)).2⟩⟩,λf hf=>s.facts f (hF.mem f hf)⟩,
  λw' k1' F' c=>s.call (k1:=k1) (F1:=F1) ⟨S,hp,h2,h3⟩ q2 c⟩
variable{Y:Type}{vs captured first as:ae ah}{fn:Fn}{f:ak}{xs:ae ak}
def ag6{re:ae iy}{ret:Y->iL}{k1':Y->ae OA}{fs:Y->ae aH}{pr:Y->Prop}
 (hc:rW P fn as captured k1 F1 ret k1' fs pr) (hn:Nat.blt d n=true) (hg:bK l g=true) (hf:ev l f=.func fn ⟨first⟩ ⟨captured⟩) (hx:EvL (ev l) xs vs) (ha:first++vs=as)
 (hk:aM k1 kl bi) (hF:Sub F1 F)
 (hs:∀y v,pr y->ret y=.ok v->Same P re (ev ((d,v)::l)) ((d,v)::l) B w0 (k1' y++bi) (fs y++F))
 (next:∀y v,pr y->ret y=.ok v->R (λh=>aK P ds rest (act n ((d,v)::l) D pm ro) h K) B w0 (k1' y++bi) (fs y++F))
 (GX:∀y ch,pr y->ret y=.fD ch->R (λh=>K (.panic ch) (act n (Cg ds n l) D pm ro) h) B w0 (k1' y++bi) (fs y++F)):
 R (λh=>aK P ds (⟨⟨some d,g,.call f xs⟩,re⟩::rest) (act n l D pm ro) h K) B w0 kl F:=by
 intro w s;obtain⟨S1,s1,back⟩:=s.KC hk hF;have hcall:=hc S1 w s1;subst ha;rw[<- hx.map]at hcall;refine s_call hn hg fn hf _ hcall ?_ ?_ ?_ ?_
 .rintro v h' ⟨_,w',y,rfl,c,hv,hpr⟩;exact hs y v hpr hv.symm w' (back w' _ _ c)
 .rintro v h' ⟨_,w',y,rfl,c,hv,hpr⟩;exact next y v hpr hv.symm w' (back w' _ _ c)
 .rintro ch h' ⟨_,w',y,rfl,c,hv,hpr⟩;rw[JE];exact GX y ch hpr hv.symm w' (back w' _ _ c)
 .rintro r p h' ⟨e,_⟩;exact e
def wy{re:ae iy}{ret:Y->iL}{k1':Y->ae OA}{fs:Y->ae aH}{pr:Y->Prop}{dR:Y->ae OA}{F2:Y->ae aH}
 (hc:rW P fn as captured k1 F1 ret k1' fs pr)
 (next:∀y v,pr y->ret y=.ok v->R (λh=>aK P ds rest (act n ((d,v)::l) D pm ro) h K) B w0 (dR y) (F2 y))
 (GX:∀y ch,pr y->ret y=.fD ch->R (λh=>K (.panic ch) (act n (Cg ds n l) D pm ro) h) B w0 (dR y) (F2 y))
 (hn:Nat.blt d n=true:=by rfl) (hg:bK l g=true:=by rfl) (hf:ev l f=.func fn ⟨first⟩ ⟨captured⟩:=by rfl) (hx:EvL (ev l) xs vs:=by repeat (first|with_reducible exact EvL.nil|((with_reducible apply EvL.cons);(conv=>lhs;whnf)))) (ha:first++vs=as:=by rfl)
 (hk:aM k1 kl bi:=by exact l6) (hF:Sub F1 F:=by exact lI) (hk2:∀y,dI (k1' y) bi (dR y):=by intro y;repeat (first|exact dI.nil|apply dI.cons|exact dI.self|exact dI.app)) (hF2:∀y,dI (fs y) F (F2 y):=by intro y;repeat (first|exact dI.nil|apply dI.cons|exact dI.self|exact dI.app))
 (hs:∀y v,pr y->ret y=.ok v->Same P re (ev ((d,v)::l)) ((d,v)::l) B w0 (dR y) (F2 y):=by intro _ _ _ _;repeat (first|exact Ef|refine Eg rfl dK qt rfl ?_|refine GH rfl gM qt rfl ?_|refine GI rfl gM qt rfl ?_|refine GJ rfl dK qt rfl ?_|refine GK rfl gM qt rfl ?_|refine GL rfl gM qt rfl ?_)):
 R (λh=>aK P ds (⟨⟨some d,g,.call f xs⟩,re⟩::rest) (act n l D pm ro) h K) B w0 kl F:=
 ag6 hc hn hg hf hx ha hk hF (λy v a b=>by rw[(hk2 y).eq,(hF2 y).eq];exact hs y v a b) (λy v a b=>by rw[(hk2 y).eq,(hF2 y).eq];exact next y v a b) (λy v a b=>by rw[(hk2 y).eq,(hF2 y).eq];exact GX y v a b)
variable{v:ah}
def Eo{x:ak}{t:aB}{dst:aj Tmp}{re:ae iy}
 (next:R (λh=>K (.panic [{v:=.iface t v,recovered:=false}]) (act n (Cg ds n l) D pm ro) h) B w0 kl F)
 (hx:ev l x=.iface t v:=by rfl) (hg:bK l g=true:=by rfl):R (λh=>aK P ds (⟨⟨dst,g,.panic x⟩,re⟩::rest) (act n l D pm ro) h K) B w0 kl F:=λw s=>afF hg hx (next w s)
def ag7{f:ak}{args:ae ak}
 (next:R (λh=>aK P ds rest (act n l ({target:=.fn fn ⟨captured⟩,args:=⟨first++vs⟩}::D) pm none) h K) B w0 kl F)
 (hf:ev l f=.func fn ⟨first⟩ ⟨captured⟩:=by rfl) (hx:EvL (ev l) args vs:=by repeat (first|with_reducible exact EvL.nil|((with_reducible apply EvL.cons);(conv=>lhs;whnf)))) (hg:bK l g=true:=by rfl):
 R (λh=>aK P ds (⟨⟨none,g,.dcall f args⟩,[]⟩::rest) (act n l D pm none) h K) B w0 kl F:=λw s=>by
 refine afG hg rfl hf ?_;rw[hx.map];exact next w s
variable{m:FrameMode}
def VM{m':FrameMode}(he:jV m=(v,m'))
 (next:R (λh=>aK P ds rest (act n ((d,v)::l) D (some m') none) h K) B w0 kl F) (hn:Nat.blt d n=true:=by rfl) (hg:bK l g=true:=by rfl):
 R (λh=>aK P ds (⟨⟨some d,g,.recover⟩,[]⟩::rest) (act n l D (some m) none) h K) B w0 kl F:=λw s=>by
 refine afH hn hg rfl ?_;rw[he];exact next w s
def RL(P:Program)(cf:gK)(l:qr)(D:ae Deferred)(m:FrameMode)(Kr:iL->IH->Prop)(B:ae Nat)(w0:Wd)(kl:ae OA)(F:ae aH):Prop:=∀w,St B w0 kl F w->LEAVE P cf (iw l) D m w.h Kr
def GY{cf:gK}{Kr:KR}{o:Out}(h:RL P cf l D m (λr h=>Kr r pm h) B w0 kl F)(hm:vK o=some m:=by rfl):R (λh=>tq P cf Kr o (act n l D pm ro) h) B w0 kl F:=λw s=>by
 show(match vK o with
  |none=>False
  |some m=>LEAVE P cf (iw l) D m w.h λr h''=>Kr r pm h'')
 rw[hm];exact h w s
variable {cf:gK} {Kr:iL->IH->Prop}
def ag8(hk:∀w,St B w0 kl F w->Kr (.ok (qL vs)) w.h)(hr:RS l kl cf.results vs:=by exact yV):RL P cf l [] .returning Kr B w0 kl F:=λw s=>by
 refine .ret (qL vs) ?_ (hk w s);unfold rH;rw[hr.all s];exact lP
def VN{args:ae ah}{ret:Y->iL}{md:Y->FrameMode}{k1':Y->ae OA}{fs:Y->ae aH}{pr:Y->Prop}{dR:Y->ae OA}{F2:Y->ae aH}
 (hc:KA P fn args captured m k1 F1 ret md k1' fs pr)
 (next:∀y v,pr y->ret y=.ok v->RL P cf l D (Aa (md y)) Kr B w0 (dR y) (F2 y))
 (GX:∀y ch,pr y->ret y=.fD ch->RL P cf l D (Dw (md y) ch) Kr B w0 (dR y) (F2 y))
 (hk:aM k1 kl bi:=by exact l6) (hF:Sub F1 F:=by exact lI) (hk2:∀y,dI (k1' y) bi (dR y):=by intro y;repeat (first|exact dI.nil|apply dI.cons|exact dI.self|exact dI.app)) (hF2:∀y,dI (fs y) F (F2 y):=by intro y;repeat (first|exact dI.nil|apply dI.cons|exact dI.self|exact dI.app)) (hm:m≠.run:=by intro e;cases e):
 RL P cf l ({target:=.fn fn ⟨captured⟩,args:=⟨args⟩}::D) m Kr B w0 kl F:=λw s=>by
 obtain⟨S1,s1,back⟩:=s.KC hk hF;refine .call hm _ (hc S1 w s1) ?_ ?_ ?_
 .rintro r p h' ⟨w',y,e,_⟩ hp;rw[e]at hp;cases hp
 .rintro v m' h' ⟨w',y,e,rfl,c,hv,hpr⟩;injection e with e;subst e;have:=next y v hpr hv.symm w' ye
  exact this
 .rintro ch m' h' ⟨w',y,e,rfl,c,hv,hpr⟩;injection e with e;subst e;exact GX y ch hpr hv.symm w' ye
variable{dR:ae OA}
def Cs{o:Out}{ret:Y->iL}{k1:Y->ae OA}{fs:Y->ae aH}{pr:Y->Prop}(y:Y)(hv:ret y=.ok (qL vs))(hp:pr y)(hD:kK kl D dR:=by repeat (first|exact kK.nil|(apply kK.cons;(focus (repeat (first|with_reducible exact aC.here|with_reducible apply aC.there|with_reducible apply aC.app))))))
 (hr:RS l dR cf.results vs:=by exact yV) (hk:aM (k1 y) dR bi:=by exact l6) (hF:Sub (fs y) F:=by exact lI) (ho:o=.normal\/o=.ret:=by first|exact .inl rfl|exact .inr rfl):
 R (λh=>tq P cf (Cr B w0 ret k1 fs pr) o (act n l D none ro) h) B w0 kl F:=by
 refine GY (m:=.returning) ?_ yp;intro w s;refine kK.leave hD (λw' s'=>⟨qL vs,?_,rfl,w',y,rfl,((s'.kJ hk).drop).sub hF,hv.symm,hp⟩) w s;unfold rH;rw[hr.all s'];match vs with
 |[]=>rfl
 |[v]=>rfl
 |_::_::_=>rfl
def kK.VO{ts:T ah}{ch:ae PanicEntry}:∀{D:ae Deferred} {kl dR:ae OA},kK kl D dR->(∀w',St B w0 dR F w'->Kr (.fD ch) w'.h)->∀w,St B w0 kl F w->LEAVE P cf ts D (.panicking ch) w.h Kr
 |_,_,_,.nil,hk,w,s=>.fD ch (hk w s)
 |_,_,_,.cons (r:=r) h t,hk,w,s=>by
  have s1:=s.fu h;refine .coll tc r s1.get.1 ?_;exact kK.VO t hk _ (s1.write (o':=.iU false)).tail
def Ct{ch:ae PanicEntry}{ret:Y->iL}{k1:Y->ae OA}{fs:Y->ae aH}{pr:Y->Prop}(y:Y)(hv:ret y=.fD ch)(hp:pr y)(hD:kK kl D dR:=by repeat (first|exact kK.nil|(apply kK.cons;(focus (repeat (first|with_reducible exact aC.here|with_reducible apply aC.there|with_reducible apply aC.app))))))
 (hk:aM (k1 y) dR bi:=by exact l6) (hF:Sub (fs y) F:=by exact lI):
 R (λh=>tq P cf (Cr B w0 ret k1 fs pr) (.panic ch) (act n l D none ro) h) B w0 kl F:=by
 refine GY (m:=.panicking ch) ?_;intro w s;exact kK.VO hD (λw' s'=>⟨rfl,w',y,rfl,((s'.kJ hk).drop).sub hF,hv.symm,hp⟩) w s
def VP{o:Out}{ret:Y->iL}{md:Y->FrameMode}{k1:Y->ae OA}{fs:Y->ae aH}{pr:Y->Prop}(y:Y)(hv:ret y=.ok (qL vs))(hm:md y=m)(hp:pr y)(hD:kK kl D dR:=by repeat (first|exact kK.nil|(apply kK.cons;(focus (repeat (first|with_reducible exact aC.here|with_reducible apply aC.there|with_reducible apply aC.app))))))
 (hr:RS l dR cf.results vs:=by exact yV) (hk:aM (k1 y) dR bi:=by exact l6) (hF:Sub (fs y) F:=by exact lI) (ho:o=.normal\/o=.ret:=by first|exact .inl rfl|exact .inr rfl):
 R (λh=>tq P cf (Pj B w0 ret md k1 fs pr) o (act n l D (some m) ro) h) B w0 kl F:=by
 refine GY (m:=.returning) ?_ yp;intro w s;refine kK.leave hD (λw' s'=>⟨qL vs,?_,w',y,by rw[hm],rfl,((s'.kJ hk).drop).sub hF,hv.symm,hp⟩) w s;unfold rH;rw[hr.all s'];match vs with
 |[]=>rfl
 |[v]=>rfl
 |_::_::_=>rfl
def VQ{ret:Y->iL}{k1:Y->ae OA}{fs:Y->ae aH}{pr:Y->Prop}(y:Y)(hv:ret y=.ok (qL vs))(hp:pr y)(hr:RS l kl cf.results vs:=by exact yV)(hk:aM (k1 y) kl bi:=by exact l6)(hF:Sub (fs y) F:=by exact lI):
 RL P cf l [] .returning (λr h=>Cr B w0 ret k1 fs pr r none h) B w0 kl F:=
 ag8 (λw s=>⟨rfl,w,y,rfl,((s.kJ hk).drop).sub hF,hv.symm,hp⟩) hr
end
end Go.Ideal
namespace Go.Ideal
variable {P:Program}
variable{α:Type}
def VS{β:Type}(f:α->β)(hf:∀a b,f a=f b->a=b){l1 l2:ae α}(h:(l1.map f).Perm (l2.map f)):l1.Perm l2:=by
 classical
 rw[List.perm_iff_count];intro a;have:=h.count_eq (f a);have key:∀l:ae α,(l.map f).count (f a)=l.count a:=by
  intro l;induction l with
  |nil=>rfl
  |cons x l ih=>
   rw[fK,List.count_cons,List.count_cons,ih];by_cases e:x=a
   .subst e;simp
   .have:¬f x=f a:=λh=>e (hf _ _ h);simp[e,this]
 rw[key,key]at this;exact this
def VT{α β:Type}{f:α->β}:∀{l:ae α},(l.map f).Nodup->∀{a b:α},a∈l->b∈l->f a=f b->a=b
 |[],_,a,b,ha,_,_=>by cases ha
 |x::l,h,a,b,ha,hb,e=>by
  rw[fK,yj]at h;obtain⟨hx,hl⟩:=h;rcases bN.1 ha with h1|ha<;>rcases bN.1 hb with h2|hb
  .rw[h1,h2]
  .rw[<- h1,e]at hx;exact absurd (IU hb) hx
  .rw[<- h2,<- e]at hx;exact absurd (IU ha) hx
  .exact VT hl ha hb e
def qc{α:Type}[DecidableEq α](a:α):ae (α×ah)->Nat->aj (Nat×ah)
 |[],_=>none
 |(b,v)::l,i=>if a=b then some (i,v)else qc a l (i+1)
def bZ{α β:Type}[DecidableEq α](a:α):ae (α×β)->aj β
 |[]=>none
 |(b,v)::l=>if a=b then some v else bZ a l
def upd{α β:Type}[DecidableEq α](a:α)(v:β):ae (α×β)->ae (α×β)
 |[]=>[(a,v)]
 |(b,u)::l=>if a=b then(a,v)::l else(b,u)::upd a v l
def qd{α:Type}(aW:α->ah)(ay:ae (α×ah))(es:ae MapEntry):Prop:=es.map (λe=>(e.key,e.val))=ay.map λp=>(aW p.1,p.2)
structure qf(P:Program)(kt:TypeId){α:Type}[DecidableEq α](aW:α->Value):Prop where
 Cu:∀a,rC P kt (aW a)=true
 find:∀a ay es,qd aW ay es->uo P kt (aW a) es=some (qc a ay 0)
 same:∀a,Instr.sameBits 10000 (aW a) (aW a)=true
variable{kt:aB}
def Pk{v:ah}(ha:bR v=true)(h:∀b,bX P (Instr.checkKey b 10000 kt v)=some ()):rC P kt v=true:=by
 unfold rC;rw[ha,h true,h false];rfl
def Pm{aW:α->ah}{p:α×ah}{ay:ae (α×ah)}{es:ae MapEntry}(h:qd aW (p::ay) es):∃e es',es=e::es'/\e.key=aW p.1/\e.val=p.2/\qd aW ay es':=by
 cases es with
 |nil=>cases h
 |cons e es=>
  unfold qd at h;rw[fK,fK]at h;injection h with h1 h2;injection h1 with h1 h3;exact⟨e,es,rfl,h1,h3,h2⟩
def VU{α:Type}[DecidableEq α]{aW:α->ah}{d:TypeDesc}(hs:∀a b,Instr.sameNow d (aW a) (aW b)=some (decide (a=b)))(a:α):∀(ay:ae (α×ah)) (es:ae MapEntry) (i:Nat),qd aW ay es->Instr.findNow d (aW a) es i=some (qc a ay i)
 |[],es,i,h=>by
  exact mm
 |p::ay,es,i,h=>by
  obtain⟨e,es',rfl,h1,h2,h3⟩:=Pm h;have ih:=VU hs a ay es' (i+1) h3;show(match Instr.sameNow d (aW a) e.key with
   |some true=>some (some (i,e.val))
   |some false=>Instr.findNow d (aW a) es' (i+1)
   |none=>none)=_
  rw[h1,hs a p.1];unfold qc;by_cases hab:a=p.1
  .rw[fo hab,if_pos hab,h2]
  .rw[di hab,if_neg hab];exact ih
def VV[DecidableEq α]{aW:α->ah}{kt:aB}{d:TypeDesc}(hu:P.underlying kt=some d)(hs:∀a b,Instr.sameNow d (aW a) (aW b)=some (decide (a=b)))(a:α)(ay:ae (α×ah))(es:ae MapEntry)(h:qd aW ay es):uo P kt (aW a) es=some (qc a ay 0):=by
 unfold uo Instr.findKey;rw[eF,oL hu];simp only[gy,VU hs a ay es 0 h];rfl
def ag9(hu:P.underlying kt=some (.int .i64)):qf P kt (λn:Int=>.int .i64 n) where
 Cu a:=Pk rfl λb=>by
  exact lB
 find a ay es h:=VV hu (λa b=>by
  show(if IntKind.i64=IntKind.i64 then some (a==b)else none)=_;rw[if_pos rfl];congr 1) a ay es h
 same a:=by
  show(IntKind.i64==IntKind.i64&&a==a)=true;simp
def bytes_beq(a b:ByteArray):(a==b)=decide (a=b):=by
 have:(a==b)=(a.data==b.data):=rfl;rw[this];by_cases h:a=b
 .subst h;simp
 .rw[di h];cases hb:a.data==b.data with
  |false=>rfl
  |true=>exact absurd (ByteArray.ext (eq_of_beq hb)) h
def aha(hu:P.underlying kt=some .string):qf P kt (λs:ByteArray=>.string s) where
 Cu a:=Pk rfl λb=>by
  exact lB
 find a ay es h:=VV hu (λa b=>by
  show some (a==b)=_;rw[bytes_beq]) a ay es h
 same a:=by
  show(a==a)=true;rw[bytes_beq];simp
def VW{α:Type}[DecidableEq α](a:α):∀(ay:ae (α×ah)) (i:Nat),(qc a ay i).map (·.2)=bZ a ay
 |[],_=>rfl
 |(b,v)::l,i=>by
  unfold qc bZ;by_cases h:a=b
  .rw[if_pos h,if_pos h];rfl
  .rw[if_neg h,if_neg h];exact VW a l (i+1)
def VX[DecidableEq α]{aW:α->ah}{kt:aB}(hk:qf P kt aW){h:IH}{m zero:ah}{ok:Bool}{a:α}{ay:ae (α×ah)}{es:ae MapEntry}(he:entriesOf m h=some es)(ho:qd aW ay es):
 BK P kt zero m (aW a) ok h=some (match bZ a ay with
  |some v=>cond ok (.tuple #[v,.bool true]) v
  |none=>cond ok (.tuple #[zero,.bool false]) zero):=by
 unfold BK;simp only[he,hk.Cu,cond_true,hk.find a ay es ho];have:=VW a ay 0;cases hf:qc a ay 0 with
 |none=>rw[hf]at this;rw[<- this];rfl
 |some p=>rw[hf]at this;rw[<- this];rfl
def VY{α:Type}[DecidableEq α](a:α):∀(ay:ae (α×ah)) (i j:Nat) (v:ah),qc a ay i=some (j,v)->∃k,j=i+k/\ay[k]? =some (a,v)/\∀u,upd a u ay=ay.set k (a,u)
 |[],i,j,v,h=>by cases h
 |(b,w)::l,i,j,v,h=>by
  unfold qc at h;split at h
  .rename_i hab;subst hab;cases h;exact⟨0,rfl,rfl,λu=>by simp[upd]⟩
  .rename_i hab;obtain⟨k,h1,h2,h3⟩:=VY a l (i+1) j v h;exact⟨k+1,p0,by simpa using h2,λu=>by simp[upd,if_neg hab,h3]⟩
def VZ{α:Type}[DecidableEq α](a:α):∀(ay:ae (α×ah)) (i:Nat),qc a ay i=none->(∀p∈ay,a≠p.1)/\∀u,upd a u ay=ay++[(a,u)]
 |[],i,h=>⟨λp hp=>(by cases hp),λu=>rfl⟩
 |(b,w)::l,i,h=>by
  unfold qc at h;split at h
  .cases h
  .rename_i hab;obtain⟨h1,h2⟩:=VZ a l (i+1) h;refine⟨λp hp=>?_,λu=>by simp[upd,if_neg hab,h2]⟩;rcases bN.1 hp with rfl|hp
   .exact hab
   .exact h1 p hp
structure AL{α:Type}(aW:α->Value)(ay:List (α×Value))(es:List MapEntry)(clock:Nat):Prop where
 uJ:qd aW ay es
 lt:∀e∈es,e.born<clock
 nd:(es.map (·.born)).Nodup
 keys:(ay.map (·.1)).Nodup
def ahb[DecidableEq α]{aW:α->ah}{kt:aB}(hk:qf P kt aW){h:IH}{b:Nat}{a:α}{v:ah}{ay:ae (α×ah)}{es:ae MapEntry}{clock:Nat}(hg:h.get b=some (.map es clock))(ho:AL aW ay es clock):
 ∃es' clock',FE P kt (.map (some b)) (aW a) v h=some (h.set b (.map es' clock'))/\AL aW (upd a v ay) es' clock':=by
 unfold FE;simp only[hg,hk.Cu,cond_true,hk.find a ay es ho.uJ];cases hf:qc a ay 0 with
 |none=>
  obtain⟨h1,h2⟩:=VZ a ay 0 hf;refine⟨_,_,rfl,?_⟩;rw[h2,jc];refine⟨?_,λe he=>?_,?_,?_⟩
  .unfold qd;rw[dQ,dQ,ho.uJ];rfl
  .rcases fO.1 he with he|he
   .exact Nc (ho.lt e he)
   .rw[bF.1 he];exact x9 _
  .rw[dQ,iT];refine⟨ho.nd,qe,λx hx y hy e=>?_⟩;obtain⟨e0,he0,rfl⟩:=cZ.1 hx;have:y=clock:=by simpa using hy
   have:=ho.lt e0 he0;omega
  .rw[dQ,iT];refine⟨ho.keys,qe,λx hx y hy e=>?_⟩;obtain⟨p,hp,rfl⟩:=cZ.1 hx;have:y=a:=by simpa using hy
   exact h1 p hp (by rw[e,this])
 |some p=>
  obtain⟨j,u⟩:=p;obtain⟨k,rfl,h2,h3⟩:=VY a ay 0 j u hf;rw[eB];have hlen:es.length=ay.length:=by
   have:=congrArg List.length ho.uJ;simpa using this
  have hk':=(aT.1 h2).1;have Pn:es[k]? =some es[k]:=bH p0;have hkey:es[k].key=aW a:=by
   have:=congrArg (λl=>l[k]?) ho.uJ;simp only[bU,Pn,h2,kD]at this;injection this with this;injection this
  simp only[rP,Pn,hkey,hk.same,cond_true];refine⟨_,_,rfl,?_⟩;rw[h3,Tx];refine⟨?_,λe he=>?_,?_,?_⟩
  .unfold qd;apply iK;intro i;have:=congrArg (λl=>l[i]?) ho.uJ;simp only[bU]at this;simp only[bU,List.getElem?_modify,ow];by_cases hi:k=i
   .subst hi;simp[Pn,hk']
   .rw[if_neg hi];cases he:es[i]? with
    |none=>rw[he]at this;simp only[Option.map_none]at this⊢;simp[hi,<- this]
    |some e=>rw[he]at this;simp only[kD]at this⊢;simp[hi,<- this]
  .obtain⟨i,he⟩:=ym.1 he;rw[List.getElem?_modify]at he;cases Po:es[i]? with
   |none=>rw[Po]at he;simp at he
   |some e0=>
    rw[Po]at he;have hlt:=ho.lt e0 (aV Po);injection he with he;rw[<- he];split<;>exact hlt
  .have:(es.modify k λe=>{e with key:=aW a,val:=v}).map (·.born)=es.map (·.born):=by
    apply iK;intro i;simp only[bU,List.getElem?_modify];cases es[i]? with
    |none=>rfl
    |some e=>simp only[kD];split<;>rfl
   rw[this];exact ho.nd
  .have:(ay.set k (a,v)).map (·.1)=ay.map (·.1):=by
    apply iK;intro i;simp only[bU,ow];by_cases hi:k=i
    .subst hi;rw[if_pos rfl,if_pos hk',h2];rfl
    .rw[if_neg hi]
   rw[this];exact ho.keys
def fw{α:Type}(aW:α->ah)(b:Nat)(ay:ae (α×ah)):OA:=⟨λw S=>S=[b]/\∃es clock,w.h.get b=some (.map es clock)/\AL aW ay es clock,λa h ⟨h1,es,clock,h2,h3⟩=>⟨h1,es,clock,by rw[h b rj];exact h2,h3⟩⟩
def uK{α:Type}(aW:α->ah)(b:Nat)(ay:ae (α×ah)):aH:=⟨λw=>w.z b/\∃es clock,w.h.get b=some (.map es clock)/\AL aW ay es clock,λa ⟨h1,es,clock,h2,h3⟩=>⟨a.z b h1,es,clock,by rw[a.get b h1];exact h2,h3⟩⟩
def Cv{aW:α->ah}{b:Nat}{ay:ae (α×ah)}:pM (fw aW b ay) [uK aW b ay]:=by
 intro w w' S ⟨h1,es,clock,h2,h3⟩ hle hh hz f hf;rw[bF.1 hf];exact⟨hz b rj,es,clock,by rw[hh];exact h2,h3⟩
section
variable {B:ae Nat} {w0:Wd} {kl kl' bi:ae OA} {F:ae aH} {K:KO} {ds:ae Tmp} {rest:ae bJ} {n:Nat} {l:qr} {D:ae Deferred} {pm:aj FrameMode} {ro:aj Nat} {d:Nat} {g:aj (Tmp×Bool)}
variable {α:Type} [DecidableEq α] {aW:α->ah}
variable{ay:ae (α×ah)}{b:Nat}
def St.V3{w:Wd}(h:St B w0 (fw aW b ay::kl) F w):∃es clock,AL aW ay es clock/\St B w0 (pt b (.map es clock)::kl) F w:=by
 obtain⟨S,⟨S1,S2,⟨q1,es,clock,q3,q4⟩,q2,e⟩,h2,h3⟩:=h.own;exact⟨es,clock,q4,h.agree,h.le,h.eT,⟨S,⟨S1,S2,⟨q1,q3⟩,q2,e⟩,h2,h3⟩,h.facts⟩
def wz(aW:α->ah)
 (next:∀b,R (λh=>aK P ds rest (act n ((d,.map (some b))::l) D pm ro) h K) B w0 (fw aW b []::kl) F) (hn:Nat.blt d n=true:=by rfl) (hg:bK l g=true:=by rfl):
 R (λh=>aK P ds (⟨⟨some d,g,.wZ⟩,[]⟩::rest) (act n l D pm ro) h K) B w0 kl F:=λw s=>
 lG hn hg (h':=w.h.new (.map [] 0)) ya (next w.h.next (w.new _) ((s.new _).yS (A:=pt w.h.next (.map [] 0)) (A':=fw aW w.h.next []) λw S hp=>⟨hp.1,[],0,hp.2,⟨rfl,λe he=>(by cases he),wW,wW⟩⟩))
def jd{α:Type}[DecidableEq α](ok:Bool)(zero:ah)(a:α)(ay:ae (α×ah)):ah:=match bZ a ay with
 |some v=>cond ok (.tuple #[v,.bool true]) v
 |none=>cond ok (.tuple #[zero,.bool false]) zero
variable{m k:ak}{kt:aB}{zero:ah}{ok:Bool}
def Pp(hk:qf P kt aW)(a:α)
 (next:R (λh=>aK P ds rest (act n ((d,jd ok zero a ay)::l) D pm ro) h K) B w0 kl F)
 (hm:ev l m=.map (some b):=by rfl) (ha:ev l k=aW a:=by conv=>lhs;whnf) (hf:uK aW b ay∈F:=by exact gM) (hn:Nat.blt d n=true:=by rfl) (hg:bK l g=true:=by rfl):
 R (λh=>aK P ds (⟨⟨some d,g,.lookup kt zero m k ok⟩,[]⟩::rest) (act n l D pm ro) h K) B w0 kl F:=λw s=>by
 obtain⟨_,es,clock,h1,h2⟩:=s.facts _ hf;refine lG hn hg (v:=jd ok zero a ay) ?_ (next w s);have:BK P kt zero (.map (some b)) (aW a) ok w.h=_:=VX hk (by simp only[entriesOf,h1]) h2.uJ;simp only[aF.run,hm,ha,this];rfl
def Cw(hk:qf P kt aW)(a:α)
 (next:R (λh=>aK P ds rest (act n ((d,jd ok zero a ay)::l) D pm ro) h K) B w0 kl F)
 (hm:ev l m=.map (some b):=by rfl) (ha:ev l k=aW a:=by conv=>lhs;whnf) (hs:aC (fw aW b ay) kl kl':=by exact dK) (hn:Nat.blt d n=true:=by rfl) (hg:bK l g=true:=by rfl):
 R (λh=>aK P ds (⟨⟨some d,g,.lookup kt zero m k ok⟩,[]⟩::rest) (act n l D pm ro) h K) B w0 kl F:=λw s=>by
 obtain⟨es,clock,h2,s1⟩:=(s.fu hs).V3;refine lG hn hg (v:=jd ok zero a ay) ?_ (next w s);have:BK P kt zero (.map (some b)) (aW a) ok w.h=_:=VX hk (by simp only[entriesOf,s1.get.1]) h2.uJ;simp only[aF.run,hm,ha,this];rfl
variable{x:ak}
def tu{v:ah}(hk:qf P kt aW)(a:α)
 (next:R (λh=>aK P ds rest (act n l D pm ro) h K) B w0 (fw aW b (upd a v ay)::kl') F)
 (hm:ev l m=.map (some b):=by rfl) (ha:ev l k=aW a:=by conv=>lhs;whnf) (hv:ev l x=v:=by conv=>lhs;whnf) (hs:aC (fw aW b ay) kl kl':=by exact dK) (hg:bK l g=true:=by rfl):
 R (λh=>aK P ds (⟨⟨none,g,.IZ kt m k x⟩,[]⟩::rest) (act n l D pm ro) h K) B w0 kl F:=λw s=>by
 obtain⟨es,clock,h2,s1⟩:=(s.fu hs).V3;obtain⟨es',clock',e1,e2⟩:=ahb (v:=v) hk (a:=a) s1.get.1 h2;refine JC hg (v:=dH) (h':=w.h.set b (.map es' clock')) ?_ (next _ ((s1.write (o':=.map es' clock')).yS (A:=pt b (.map es' clock')) (A':=fw aW b (upd a v ay)) λw S hp=>⟨hp.1,es',clock',hp.2,e2⟩));simp only[aF.run,hm,ha,hv,e1]
variable{es:ae MapEntry}
def V4{clock:Nat}(h:AL aW ay es clock):es.length=ay.length:=by
 have:=congrArg List.length h.uJ;simpa using this
def Cx{α:Type}(aW:α->ah)(r b:Nat)(ay fI:ae (α×ah)):OA:=⟨λw S=>S=[r]/\∃es clock seen last,w.h.get b=some (.map es clock)/\w.z b/\AL aW ay es clock/\w.h.get r=some (.mapIter (some b) clock seen last)/\last=clock/\
 (∃ve rem:ae MapEntry,qd aW fI ve/\ve.map (·.born)=seen/\(ve++rem).Perm es),
 λa h ⟨h1,es,clock,seen,last,h2,h3,h4,h5,h6,h7⟩=>⟨h1,es,clock,seen,last,by rw[a.get b h3];exact h2,a.z b h3,h4,by rw[h r rj];exact h5,h6,h7⟩⟩
def V5
 (next:∀r,R (λh=>aK P ds rest (act n ((d,.pointer (some ⟨r,0,none⟩))::l) D pm ro) h K) B w0 (Cx aW r b ay []::kl) F)
 (hm:ev l m=.map (some b):=by rfl) (hf:uK aW b ay∈F:=by exact gM) (hn:Nat.blt d n=true:=by rfl) (hg:bK l g=true:=by rfl):
 R (λh=>aK P ds (⟨⟨some d,g,.rangeMap m⟩,[]⟩::rest) (act n l D pm ro) h K) B w0 kl F:=λw s=>by
 obtain⟨hz,es,clock,h1,h2⟩:=s.facts _ hf;refine lG hn hg (h':=w.h.new (.mapIter (some b) clock [] clock)) (by simp only[aF.run,hm,h1]) (next w.h.next (w.new _) ?_);have s1:=s.new (.mapIter (some b) clock [] clock);obtain⟨hz',es',clock',h1',h2'⟩:=s1.facts _ hf;refine s1.xB λS hp=>⟨hp.1,es',clock',[],clock,h1',hz',h2',?_,?_,[],es',rfl,rfl,.refl _⟩
 .have:clock'=clock:=by
   have e:(w.new (.mapIter (some b) clock [] clock)).h.get b=w.h.get b:=by
    exact mS
   rw[e,h1]at h1';injection h1' with h1';injection h1' with _ h1';exact h1'.symm
  rw[this];exact hp.2
 .have e:(w.new (.mapIter (some b) clock [] clock)).h.get b=w.h.get b:=by
   exact mS
  rw[e,h1]at h1';injection h1' with h1';injection h1' with _ h1'
def ahc{ve rem:ae MapEntry}(hp:(ve++rem).Perm es)(hn:(es.map (·.born)).Nodup):(es.filter λe=>!(ve.map (·.born)).contains e.born).Perm rem:=by
 have hp2:((ve++rem).filter λe=>!(ve.map (·.born)).contains e.born).Perm (es.filter λe=>!(ve.map (·.born)).contains e.born):=hp.filter _;rw[Dp]at hp2;have h1:ve.filter (λe=>!(ve.map (·.born)).contains e.born)=[]:=by
  rw[List.filter_eq_nil_iff];intro e he;simp only[BA,Bool.not_eq_false',List.contains_eq_mem,Dl];simp;exact⟨e,he,rfl⟩
 have hnd:((ve++rem).map (·.born)).Nodup:=(hp.map _).nodup_iff.2 hn;rw[dQ,iT]at hnd;have h2:rem.filter (λe=>!(ve.map (·.born)).contains e.born)=rem:=by
  rw[SB];intro e he;simp only[BA,List.contains_eq_mem,decide_eq_false_iff_not];intro hm;exact hnd.2.2 _ hm _ (IU he) rfl
 rw[h1,h2,dW]at hp2;exact hp2.symm
variable{fI:ae (α×ah)}{r:Nat}
def V6
 (more:∀p rem,(fI++p::rem).Perm ay->R (λh=>aK P ds rest (act n ((d,.tuple #[.bool true,aW p.1,p.2])::l) D pm ro) h K) B w0 (Cx aW r b ay (fI++[p])::kl') F)
 (done:fI.Perm ay->R (λh=>aK P ds rest (act n ((d,.tuple #[.bool false])::l) D pm ro) h K) B w0 (Cx aW r b ay fI::kl') F)
 (inj:∀a c,aW a=aW c->a=c)
 (hx:ev l x=.pointer (some ⟨r,0,none⟩):=by rfl) (hs:aC (Cx aW r b ay fI) kl kl':=by exact dK) (hn:Nat.blt d n=true:=by rfl) (hg:bK l g=true:=by rfl):
 R (λh=>aK P ds (⟨⟨some d,g,.yx x⟩,[]⟩::rest) (act n l D pm ro) h K) B w0 kl F:=λw s0=>by
 have s:=s0.fu hs;obtain⟨S,⟨S1,S2,⟨q1,es,clock,seen,last,h1,hz,h2,h3,h4,ve,rem,h5,h6,h7⟩,q2,eS⟩,hnd,hown⟩:=s.own;subst h4 h6;have hpl:=ahc h7 h2.nd;have hold:((es.filter λe=>!(ve.map (·.born)).contains e.born).filter λe=>Nat.blt e.born last)=es.filter λe=>!(ve.map (·.born)).contains e.born:=by
  rw[SB];intro e he;have:=h2.lt e (ry.1 he).1;rw[uj];exact this
 have hnew:((es.filter λe=>!(ve.map (·.born)).contains e.born).filter λe=>Nat.ble last e.born)=[]:=by
  rw[List.filter_eq_nil_iff];intro e he;have:=h2.lt e (ry.1 he).1;rw[sO];omega
 have hcl:(!(ve.map (·.born)).isEmpty&&!es.isEmpty&&es.all (λe=>Nat.ble last e.born))=false:=by
  cases es with
  |nil=>simp
  |cons e es=>
   have:=h2.lt e (dP ..);have:Nat.ble last e.born=false:=by
    cases hb:Nat.ble last e.born with
    |false=>rfl
    |true=>rw[sO]at hb;omega
   simp[this]
 have ahd:BQ (ev l x) w.h=some ((if(es.filter λe=>!(ve.map (·.born)).contains e.born).isEmpty then[(.tuple #[.bool false],w.h)]else[])++
  (es.filter λe=>!(ve.map (·.born)).contains e.born).map λe=>(.tuple #[.bool true,e.key,e.val],w.h.set r (.mapIter (some b) last (ve.map (·.born)++[e.born]) last))):=by
  rw[hx];unfold BQ;simp only[h3,h1];rw[hcl];simp only[cond_false,hold,hnew,iH]
 have ari:∀(arj:ae MapEntry) (ark:ae (α×ah)),True:=λ_ _=>trivial;refine .next (xA hg) x rfl rfl _ (by rw[nX];exact ahd) ?_
 intro vh hm;rcases fO.1 hm with hm|hm
 .split at hm
  .rename_i hemp;rw[bF.1 hm,qI hn];have ahe:rem=[]:=by
    have:(es.filter λe=>!(ve.map (·.born)).contains e.born)=[]:=by simpa using hemp
    rw[this]at hpl;exact List.nil_perm.1 hpl|>λh=>h
   refine done ?_ w s;subst ahe;rw[iH]at h7;have hm1:=h7.map (λe=>(e.key,e.val));rw[h5,h2.uJ]at hm1;exact VS (λp:α×ah=>(aW p.1,p.2)) (λp q hpq=>by
    exact oR) hm1
  .cases hm
 .obtain⟨e,he,rfl⟩:=cZ.1 hm;have hr:e∈rem:=hpl.mem_iff.1 he;obtain⟨r1,r2,ahf⟩:=List.append_of_mem hr;obtain⟨i,hi,hie⟩:∃i,i<ay.length/\es[i]? =some e:=by
   obtain⟨i,hi⟩:=ym.1 (ry.1 he).1;have:=(aT.1 hi).1;rw[V4 h2]at this;exact⟨i,this,hi⟩
  have hpe:(e.key,e.val)=(aW ay[i].1,ay[i].2):=by
   have:=congrArg (λl=>l[i]?) h2.uJ;simp only[bU,hie,bH hi,kD]at this;injection this
  injection hpe with hpk hpv;rw[qI hn,hpk,hpv];have hperm:(ve++[e]++(r1++r2)).Perm es:=by
   refine List.Perm.trans ?_ h7;rw[ahf,fq];refine List.Perm.append_left _ ?_;exact(List.perm_middle (l₁:=r1) (l₂:=r2) (a:=e)).symm
  have GZ:qd aW (fI++[ay[i]]) (ve++[e]):=by
   unfold qd;rw[dQ,dQ,h5];simp[hpk,hpv]
  obtain⟨Pq,ahg⟩:∃Pq:ae (α×ah),(fI++ay[i]::Pq).Perm ay:=by
   have hm1:=hperm.map (λe=>(e.key,e.val));rw[dQ,GZ,h2.uJ]at hm1;have hex:∀ls:ae MapEntry,(∀x∈ls,∃p:α×ah,(x.key,x.val)=(aW p.1,p.2))->∃ps:ae (α×ah),ls.map (λe=>(e.key,e.val))=ps.map λp=>(aW p.1,p.2):=by
    intro ls;induction ls with
    |nil=>intro _;exact⟨[],rfl⟩
    |cons x ls ih=>
     intro h;obtain⟨p,hp⟩:=h x (dP ..);obtain⟨ps,hps⟩:=ih λy hy=>h y (dO _ hy);exact⟨p::ps,by rw[fK,fK,hp,hps]⟩
   obtain⟨ps,hps⟩:=hex (r1++r2) (λy hy=>by
    have hy':y∈es:=hperm.mem_iff.1 (ou _ hy);obtain⟨j,hj⟩:=ym.1 hy';have hj':=(aT.1 hj).1;rw[V4 h2]at hj';have:=congrArg (λl=>l[j]?) h2.uJ;simp only[bU,hj,bH hj',kD]at this;injection this with this;exact⟨_,this⟩)
   rw[hps,<- dQ]at hm1;refine⟨ps,?_⟩;have:=VS (λp:α×ah=>(aW p.1,p.2)) (λp q hpq=>by
    exact oR) hm1
   rwa [fq]at this
  refine more ay[i] Pq ahg ⟨w.h.set r (.mapIter (some b) last (ve.map (·.born)++[e.born]) last),w.z,λi hi=>w.lH i hi⟩ ?_;have s2:St B w0 (pt r (.mapIter (some b) last (ve.map (·.born)) last)::kl') F w:=⟨s.agree,s.le,s.eT,⟨S,⟨S1,S2,⟨q1,h3⟩,q2,eS⟩,hnd,hown⟩,s.facts⟩
  have s3:=s2.write (o':=.mapIter (some b) last (ve.map (·.born)++[e.born]) last);refine s3.xB λS' hp=>⟨hp.1,es,last,_,last,?_,hz,h2,hp.2,rfl,ve++[e],r1++r2,GZ,by rw[dQ];rfl,hperm⟩
  have hrb:r≠b:=λer=>by
   have:=s2.own;obtain⟨S0,⟨T1,T2,⟨u1,_⟩,_,ue⟩,_,ho⟩:=this;exact(ho r (by rw[ue,u1];simp)).2.2 (er▸hz)
  show(w.h.set r _).get b=_;rw[IH.lC,if_neg (λer=>hrb er.symm)];exact h1
def V7{p:α×ah}
 (next:R (λh=>aK P ds rest (act n ((d,.tuple #[aW p.1,p.2])::l) D pm ro) h K) B w0 kl F)
 (hx:ev l x=.pointer (some ⟨r,0,none⟩):=by rfl) (hs:aC (Cx aW r b ay (fI++[p])) kl kl':=by exact dK) (hn:Nat.blt d n=true:=by rfl) (hg:bK l g=true:=by rfl):
 R (λh=>aK P ds (⟨⟨some d,g,.entry x⟩,[]⟩::rest) (act n l D pm ro) h K) B w0 kl F:=λw s0=>by
 have s:=s0.fu hs;obtain⟨S,⟨S1,S2,⟨q1,es,clock,seen,last,h1,hz,h2,h3,h4,ve,rem,h5,h6,h7⟩,q2,e⟩,hnd,hown⟩:=s.own;subst h4 h6;obtain⟨V8,x0,GZ,hx0,hx1⟩:∃V8 x0,ve=V8++[x0]/\x0.key=aW p.1/\x0.val=p.2:=by
  unfold qd at h5;rw[dQ]at h5;obtain⟨a1,a2,e1,e2,e3⟩:=List.map_eq_append_iff.1 h5;obtain⟨x0,a3,e4,e5,e6⟩:=List.map_eq_cons_iff.1 e3;have:a3=[]:=by simpa using e6
  subst this;injection e5 with e5 e7;exact⟨a1,x0,by rw[e1,e4],e5,e7⟩
 have hfind:es.find? (λy=>Nat.beq y.born x0.born)=some x0:=by
  have hm:x0∈es:=h7.mem_iff.1 (jS _ (by rw[GZ];simp));cases hf:es.find? (λy=>Nat.beq y.born x0.born)with
  |none=>
   have:=List.find?_eq_none.1 hf x0 hm;simp[Fv]at this
  |some y=>
   have hy:=List.find?_some hf;have hym:=List.mem_of_find?_eq_some hf;have hb:y.born=x0.born:=rq hy;congr 1;exact VT h2.nd hym hm hb
 refine lG hn hg (v:=.tuple #[aW p.1,p.2]) ?_ (next w s0);simp only[aF.run,hx,h3,h1];rw[GZ];simp only[dQ,fK,List.map_nil,List.getLast?_append,List.getLast?_singleton,Option.some_or,Fv,cond_true,hfind,hx0,hx1]
end
end Go.Ideal
namespace Go.Ideal
open Go.Sort
variable {P:Program}
def WR.grow{β:aD}{h:IH}{w:World}(hW:WR P β h w)(os:Array Obj):WR P β h (grow w os)/\Eff β h w β h (grow w os):=by
 have hold:∀b,b<w.heap.size->(Go.Sort.grow w os).heap[b]? =w.heap[b]?:=λb hb=>by
  show(w.heap++os)[b]? =_;rw[acj hb]
 refine⟨⟨hW.dom,hW.live,λi g o h1 h2=>?_,hW.inj⟩,⟨λ_ _=>rfl,bz _,λ_ _ h=>h,λ_ _ _=>rfl,bz _,λ_ _ _=>rfl,rfl,rfl,rfl,?_,λb hb _=>hold b hb,λi g hg hi=>absurd (hW.dom _ _ hg) p0,λi g _ _ _ _ hb=>hold _ hb,bz _⟩⟩
 .have hO:=hW.obj i g o h1 h2;exact hO.congr (hold _ hO.lt)
 .show w.heap.size<=(w.heap++os).size;rw[Array.size_append];omega
def KD(o:Nat):ae ah->Array ah->Array ah
 |[],c=>c
 |v::vs,c=>KD (o+1) vs (c.setIfInBounds o v)
def V9(b:Nat):∀(vs:ae ah) (o:Nat) (w:World),w.setCells b o vs=mapBlock w b (KD o vs)
 |[],o,w=>(mapBlock_id w b _ λc e fr h=>rfl).symm
 |v::vs,o,w=>by
  show(w.setCell ⟨b,o,none⟩ v).setCells b (o+1) vs=_;rw[V9 b vs (o+1),setCell_eq,mapBlock_mapBlock];rfl
def We:∀(vs:ae ah) (o:Nat) (c:Array ah) (k:Nat),(KD o vs c)[k]? =if o<=k/\k<o+vs.length/\k<c.size then vs[k - o]? else c[k]?
 |[],o,c,k=>by
  rw[if_neg (by rw[wU];omega)];rfl
 |v::vs,o,c,k=>by
  show(KD (o+1) vs (c.setIfInBounds o v))[k]? =_;rw[We vs (o+1),Array.size_setIfInBounds,lU];by_cases h1:o+1<=k/\k<o+1+vs.length/\k<c.size
  .rw[if_pos h1,if_pos ⟨p0,p0,h1.2.2⟩];rw[show k - o=(k - (o+1))+1 by omega,ru]
  .rw[if_neg h1,aci];by_cases h2:o=k
   .subst h2;rw[if_pos rfl];by_cases h3:o<c.size
    .rw[if_pos h3,if_pos ⟨bz _,p0,h3⟩,mM];rfl
    .rw[if_neg h3,if_neg p0];exact(sN p0).symm
   .rw[if_neg h2,if_neg p0]
def setCells_putRow{α:Type}[Inhabited α](enc:α->ah)(w:World)(b o:Nat)(d:Array α):w.setCells b o (d.toList.map enc)=putRow enc w b o d:=by
 rw[V9];unfold putRow;refine mapBlock_congr w b _ _ λc e fr hc=>?_;apply Array.ext_getElem?;intro k;rw[We,putCells,Array.getElem?_mapIdx,aS,Sy];by_cases hk:k<c.size
 .by_cases h:o<=k/\k<o+d.size
  .rw[if_pos ⟨h.1,h.2,hk⟩,Nh hk,kD,if_pos h,bU,yc,Nh p0];rw[kD,getElem!_pos d _ p0]
  .rw[if_neg (λq=>h ⟨q.1,q.2.1⟩),Nh hk,kD,if_neg h]
 .rw[if_neg p0,sN p0];rfl
def Ps(P:Program)(f:eD):Prop:=∀(blk off cap:Nat) (zs:ae Int) (w:World),Holds (Value.int .i64) w blk off zs.toArray->blk<w.heap.size->zs.length<4611686018427387904->
 Calls P f #[.slice (some ⟨blk,off,none⟩) zs.length cap] w λe w'=>e=.returned (.tuple #[])/\∃n os,w'=Go.Sort.grow (putRow (Value.int .i64) (Sort.ahead w n) blk off (zs.mergeSort λx y=>decide (x<=y)).toArray) os
def bP(zs:ae Int):ae Int:=zs.mergeSort λx y=>decide (x<=y)
def AO(zs:ae Int):(bP zs).length=zs.length:=List.length_mergeSort zs
variable{f:eD}
def ahh(hS:Ps P f){fn:Func}(hfn:P.funcs[f]? =some fn){body:Code}(hb:fn.body=some body)(hname:fn.name≠ "runtime.NumGoroutine"){b o c:Nat}{fl:aj Nat}{zs:ae Int}{h h':IH}{cs:ae ah}
 (hg:h.get b=some (.cells cs)) (hz:∀(j:Nat) z,zs[j]? =some z->cs[o+j]? =some (.int .i64 z)) (hne:0<zs.length) (hlen:zs.length<4611686018427387904) (hs:h.storeAt b o ((bP zs).map (.int .i64))=some h'):
 kI P ⟨.func f,[.slice (some ⟨b,o,fl⟩) zs.length c],[],none⟩ h (λr pm h2=>pm=none/\r=.ok (.tuple ⟨[]⟩)/\h2=h'):=by
 intro β w fn' args' cap' hG hW hf ha hcap;obtain⟨jf,t1,t2⟩:=Al (P:=P) (q:=⟨.func f,[.slice (some ⟨b,o,fl⟩) zs.length c],[],none⟩) (f:=f) (args:=[.slice (some ⟨b,o,fl⟩) zs.length c]) sv hf ha hcap hfn hb hname w;cases t2 with|cons hv tl=>
 cases tl;obtain⟨g,a,c',hi,rfl,hab,_,hn,hcc,hao,_⟩:=hv.mD;have hao:a.off=g.off+o/\a.spot=none:=by
  exact nt
 obtain⟨⟨c0,t0,KE,hh,_⟩,q2,q3,q4,q5,q6⟩:=hW.obj b g _ hi hg;have ea:a=⟨g.b,g.off+o,none⟩:=by
  obtain⟨ab,ao,as⟩:=a;exact mA
 subst ea;have hin:∀j,j<zs.length->o+j<cs.length:=λj hj=>(aT.1 (hz j _ (bH hj))).1;have hH:Holds (Value.int .i64) w g.b (g.off+o) zs.toArray:=λj hj=>by
  have hj:j<zs.length:=tD
  obtain⟨v',h1,h2⟩:=q6 (o+j) _ (hz j _ (bH hj));have:=h2.mq;subst this;refine⟨?_,(q4 _ (by have:=hin j hj;omega)).2⟩;rw[kE,h1];congr 2;rw[getElem!_pos zs.toArray j tD];simp
 have hlt:g.b<w.heap.size:=(IP.1 hh).1;have hC:=hS g.b (g.off+o) c' zs w hH hlt hlen;obtain⟨_,w1,w2⟩:=BX hW hi hs (vs':=(bP zs).map (.int .i64)) (aQ.free (by
  have:∀l:ae Int,gD (l.map (Value.int .i64))=true:=by
   exact lR
  exact this _)) (by
  exact px)
 refine⟨_,Frame.enter P f ⟨_⟩ .normal,t1,rfl,λcs0 uF=>?_⟩;obtain⟨e,w',fr,⟨he,k,os,hw'⟩,hcomes,hfr,hlv⟩:=hC cs0;subst he;have hw1:putRow (Value.int .i64) (Sort.ahead w k) g.b (g.off+o) (zs.mergeSort λx y=>decide (x<=y)).toArray=Sort.ahead (w.setCells g.b (g.off+o) ((bP zs).map (.int .i64))) k:=by
  have:=setCells_putRow (Value.int .i64) w g.b (g.off+o) (bP zs).toArray;rw[show(bP zs).toArray.toList=bP zs from rfl]at this;rw[this];rfl
 rw[hw1]at hw';have w3:WR P β h' (Sort.ahead (w.setCells g.b (g.off+o) ((bP zs).map (.int .i64))) k):=w1.nV rfl;have w4:=w2.trans (Eff.nV (w':=Sort.ahead (w.setCells g.b (g.off+o) ((bP zs).map (.int .i64))) k) w1.dom rfl rfl rfl rfl (IL _ _));obtain⟨w5,w6⟩:=w3.grow os;rw[<- hw']at w5 w6;refine⟨.ok (.tuple ⟨[]⟩),none,h',β,w',.returned (.tuple #[]),cs0,⟨rfl,rfl,rfl⟩,w5,w4.trans w6,.ok (.dH _),.none cs0,.inl ⟨f,_,fr,rfl,hcomes,hfr,hlv.2.2.1,hlv.1,hlv.2.1,hlv.2.2.2⟩⟩
def AP{α:Type}:∀(l:ae α) (o:Nat) (xs:ae α),o+xs.length<=l.length->∃r,iZ l o xs=some r
 |[],o,xs,h=>by
  have h1:xs=[]:=mo.1 (by rw[wU]at h;omega);have h2:o=0:=by rw[wU]at h;omega
  exact⟨[],by rw[Tv,if_pos ⟨h1,h2⟩]⟩
 |c::l,0,[],h=>⟨_,Tw c l⟩
 |c::l,0,x::xs,h=>by
  obtain⟨r,hr⟩:=AP l 0 xs (by simp only[lU]at h;omega);exact⟨x::r,by rw[Jd,hr];rfl⟩
 |c::l,o+1,xs,h=>by
  obtain⟨r,hr⟩:=AP l o xs (by simp only[lU]at h;omega);exact⟨c::r,by rw[Nz,hr];rfl⟩
def ahi(hS:Ps P f){fn:Func}(hfn:P.funcs[f]? =some fn){body:Code}(hb:fn.body=some body)(hname:fn.name≠ "runtime.NumGoroutine"){a:aj Addr}{zs:ae Int}(hne:0<zs.length)(hlen:zs.length<4611686018427387904):
 bA P (.func f) [.slice a zs.length zs.length] [] [ap ai (.slice a zs.length zs.length) zs] [] (λ_:Unit=>.tuple ⟨[]⟩) (λ_=>[ap ai (.slice a zs.length zs.length) (bP zs)]) (λ_=>[]) (λ_=>True):=by
 intro B w s;obtain⟨S,⟨S1,S2,q1,q2,e⟩,h2,h3⟩:=s.own;rcases q1 with⟨h,_⟩|⟨b,o,fl,cells,e1,hf,e2,hb',hcl,hel⟩
 .rw[h]at hne;simp at hne
 injection e1 with e1 Pt;subst e1;have hcl:cells.length=o+zs.length:=by rw[hcl];simp[ai]
 have hz:∀(j:Nat) z,zs[j]? =some z->cells[o+j]? =some (.int .i64 z):=λj z hj=>by
  obtain⟨y,u1,_⟩:=hel j z hj;have:=u1 0 (.int .i64 z) rfl;simpa[ai]using this
 have hst:∃cs2,w.h.storeAt b o ((bP zs).map (.int .i64))=some (w.h.set b (.cells cs2))/\cs2.length=cells.length/\∀(k:Nat) z,(bP zs)[k]? =some z->cs2[o+k]? =some (.int .i64 z):=by
  have hov:∃cs2,iZ cells o ((bP zs).map (.int .i64))=some cs2:=AP _ _ _ (by rw[aS,AO];omega);exact dl
 obtain⟨cs2,hst,hl2,Ep⟩:=hst;refine .real (D8 _ (ahh hS hfn hb hname hb' hz hne hlen hst) ?_);rintro r pm h' ⟨rfl,rfl,rfl⟩;have s1:St B w [pt b (.cells cells)] [] w:=⟨s.agree,s.le,s.eT,⟨S,⟨S1,S2,⟨e2,hb'⟩,q2,e⟩,h2,h3⟩,λf hf=>by cases hf⟩
 refine⟨rfl,⟨w.h.set b (.cells cs2),w.z,λi hi=>w.lH i hi⟩,(),rfl,?_,rfl,trivial⟩;refine(s1.write (o':=.cells cs2)).yS (A:=pt b (.cells cs2)) λw' S' hp=>?_;refine .inr ⟨b,o,fl,cs2,by rw[AO],hf,hp.1,hp.2,by rw[hl2,hcl,AO];simp[ai],λk x hk=>⟨(),λj u hj=>?_,λf hf=>by cases hf⟩⟩;match j,hj with
 |0,hj=>
  cases hj;have:=Ep k x hk;simpa[ai]using this
end Go.Ideal
namespace Go.Ideal
variable {P:Program}
def uL{α:Type}(P:Program)(vals:α->ae ah)(fn:Fn)(first cap:ae ah)(F:ae aH)(X:ae α->Prop):Prop:=
 ∀(S:Type) (inv:S->ae OA) (ok:ae α->S->Prop) (step:S->α->S×Bool) (s0:S) (xG:Fn) (y1 y2:ae ah) (F':ae aH),ok [] s0->
  (∀vs s x rest,ok vs s->X (vs++x::rest)->(step s x).2=true->ok (vs++[x]) (step s x).1)->
  (∀vs s x rest,ok vs s->X (vs++x::rest)->bA P xG (y1++vals x) y2 (inv s) F' (λ_:Unit=>.bool (step s x).2) (λ_=>inv (step s x).1) (λ_=>[]) (λ_=>True))->
  bA P fn (first++[.func xG ⟨y1⟩ ⟨y2⟩]) cap (inv s0) (F++F') (λ_:ae α=>.tuple ⟨[]⟩) (λxs=>inv (iG step s0 xs)) (λ_=>[]) X
section
variable {B:ae Nat} {w0:Wd} {kl kl' bi:ae OA} {F:ae aH} {K:KO} {n:Nat} {l:qr} {D:ae Deferred} {pm:aj FrameMode} {ro:aj Nat}
def Er{Z:Type}(B:ae Nat)(w0:Wd)(n:Nat)(l3:Z->qr)(lo:Nat)(o:bG)(kl:Z->ae OA)(F:ae aH):KO:=λoo a h=>
 oo=.normal/\∃z,a=act n (l3 z) [] none (some lo)/\∃w:Wd,w.h=h/\St B w0 (pt lo o::kl z) F w
variable{Z:Type}{lo:Nat}
def Es{l3:Z->qr}{o:bG}{k3:Z->ae OA}(z:Z)(hl:l3 z=l)(hk:aM (pt lo o::k3 z) kl bi:=by exact l6):R (λh=>Er B w0 n l3 lo o k3 F .normal (act n l [] none (some lo)) h) B w0 kl F:=λw s=>
 ⟨rfl,z,by rw[hl],w,rfl,(s.kJ hk).drop⟩
def Wh{Y:Type}{L:oC}{args:ae ah}{k1:ae OA}{out:Y->Out}{k1':Y->ae OA}{fs:Y->ae aH}{pr:Y->Prop}(l:qr)(l3:Z->qr)(k3:Z->ae OA)(hl:L.tmps=iw l)(hst:L.state=.ready)(hps:L.params.all (λp=>Nat.blt p L.n)=true)(hlen:L.params.length=args.length)
 (ha:∀B w0,R (λh=>EV P L.assign (act L.n ((L.params.zip args).reverse++l) [] none (some lo)) h (Er B w0 L.n l3 lo (.loop L) k3 F)) B w0 (pt lo (.loop L)::k1) F)
 (hb:∀z B w0,R (λh=>EV P L.body (act L.n (l3 z) [] none (some lo)) h (Cm B w0 lo L out k1' fs pr)) B w0 (pt lo (.loop (xE L))::k3 z) F):
 bA P (.yield lo) args [] (pt lo (.loop L)::k1) F (λy:Y=>.bool (nL (out y))) (λy=>pt lo (.loop (mO L (out y)))::k1' y) fs pr:=by
 intro B w s;obtain⟨l2,e1,e2⟩:=VE L.n L.params args l hps hlen;refine .round lo rfl rfl L s.get.1 hlen.symm _ (by
  rw[hl];show EV P L.assign (aU.mk L.n (vM L.n L.params args (iw l)) [] none (some lo)) w.h _;rw[e1,e2];exact ha B w w s) ?_ ?_
 .rintro o a h ⟨rfl,z,rfl,w1,rfl,s1⟩;exact⟨rfl,L,s1.get.1,hst⟩
 .rintro a h r1 ⟨_,z,rfl,w1,rfl,s1⟩ hr;have hr1:r1=L:=by
   have:=s1.get.1;rw[hr]at this;injection this with this;injection this
  subst hr1;have hb:=hb z B w _ (s1.write (o':=.loop (xE r1)));refine OB hb _ ?_;rintro o a h ⟨hd,w2,y,rfl,rfl,hn,s2,hp⟩;refine⟨xE r1,s2.get.1,hd,?_⟩;have fin:∀o',nL o'=nL (out y)->mO r1 o'=mO r1 (out y)->Left B w (λy:Y=>.bool (nL (out y))) (λy=>pt lo (.loop (mO r1 (out y)))::k1' y) fs pr (.ok (.bool (nL (out y)))) none (w2.h.set lo (.loop (mO r1 (out y)))):=λo' _ _=>
   ⟨rfl,_,y,rfl,s2.write,rfl,hp⟩
  cases ho:out y with
  |normal=>have:=fin .normal sR sR;rw[ho]at this;exact this
  |exit j=>have:=fin (.exit j) sR sR;rw[ho]at this;exact this
  |ret=>have:=fin .ret sR sR;rw[ho]at this;exact this
  |panic ch=>rw[ho]at hn;exact hn.elim
variable{S α:Type}{ps:ae Tmp}{assign body:cK}{fn:Fn}{first captured:ae ah}{F1:ae aH}
def ahj{f:ak}{vals:α->ae ah}{X:ae α->Prop}(step:S->α->S×Out)(inv:S->ae OA)(ok:ae α->S->Prop)(s0:S)(h0:ok [] s0)
 (hok:∀vs s x rest,ok vs s->X (vs++x::rest)->(step s x).2=.normal->ok (vs++[x]) (step s x).1) (hit:uL P vals fn first captured F1 X)
 (hf:ev l f=.func fn ⟨first⟩ ⟨captured⟩) (hps:ps.all (λp=>Nat.blt p n)=true) (hlen:∀x,ps.length=(vals x).length) (hk:aM (inv s0) kl bi) (hF:Sub F1 F) (jv:∀s x,Ck (step s x).2)
 (l3:α->Z->qr) (k3:α->Z->ae OA)
 (ha:∀(s:S) (x:α) (lo:Nat) (o:bG) B w0,R (λh=>EV P assign (act n ((ps.zip (vals x)).reverse++l) [] none (some lo)) h (Er B w0 n (l3 x) lo o (λz=>k3 x z++inv s) F)) B w0 (pt lo o::inv s) F)
 (hb:∀(vs:ae α) (s:S) (x:α) (rest:ae α) (z:Z) (lo:Nat) (L:oC) B w0,ok vs s->X (vs++x::rest)->R (λh=>EV P body (act n (l3 x z) [] none (some lo)) h (Cm B w0 lo L (λ_:Unit=>(step s x).2) (λ_=>inv (step s x).1) (λ_=>[]) (λ_=>True))) B w0 (pt lo (.loop (xE L))::(k3 x z++inv s)) F)
 (next:∀r xs,X xs->R (λh=>K (jF step s0 xs).2 (act n l ({target:=.collected r,args:= #[]}::D) pm none) h) B w0 (inv (jF step s0 xs).1++(pt r (.iU true)::bi)) F):
 R (λh=>EV P (.rangeFunc f ps assign body) (act n l D pm none) h K) B w0 kl F:=by
 refine VF (Y:=ae α) (k1:=inv s0) (F1:=F1++F) (Ku:=λ_=>.tuple ⟨[]⟩) (out:=λxs=>(jF step s0 xs).2) (k1':=λxs=>inv (jF step s0 xs).1) (fs:=λ_=>[]) (pr:=X) hf ?_ hk (hF.app (Sub.refl' F [])) (λr y hy=>next r y hy);intro lo r;have:=hit (S×Out) (λso=>pt lo (.loop (mO ⟨.ready,none,iw l,n,ps,assign,body,r⟩ so.2))::inv so.1) (λvs so=>so.2=.normal/\ok vs so.1) (λso x=>(step so.1 x,nL (step so.1 x).2)) (s0,.normal) (.yield lo) [] [] F ⟨rfl,h0⟩
  (λvs so x rest ho hx h=>by
    exact eE)
  (λvs so x rest ho hx=>by
    exact cJ)
 have e:(λxs:ae α=>pt lo (.loop (mO ⟨.ready,none,iw l,n,ps,assign,body,r⟩ (iG (λ(so:S×Out) x=>(step so.1 x,nL (step so.1 x).2)) (s0,.normal) xs).2))::inv (iG (λ(so:S×Out) x=>(step so.1 x,nL (step so.1 x).2)) (s0,.normal) xs).1)=λxs=>pt lo (.loop (mO ⟨.ready,none,iw l,n,ps,assign,body,r⟩ (jF step s0 xs).2))::inv (jF step s0 xs).1:=by
  funext xs
  rw[Pe]
 have h2:bA P fn (first++[.func (.yield lo) ⟨[]⟩ ⟨[]⟩]) captured (pt lo (.loop ⟨.ready,none,iw l,n,ps,assign,body,r⟩)::inv s0) (F1++F) (λ_:ae α=>.tuple ⟨[]⟩) (λxs=>pt lo (.loop (mO ⟨.ready,none,iw l,n,ps,assign,body,r⟩ (iG (λ(so:S×Out) x=>(step so.1 x,nL (step so.1 x).2)) (s0,.normal) xs).2))::inv (iG (λ(so:S×Out) x=>(step so.1 x,nL (step so.1 x).2)) (s0,.normal) xs).1) (λ_=>[]) X:=this;rw[e]at h2;exact h2
def G5{f:ak}{vals:α->ae ah}{X:ae α->Prop}(step:S->α->S×Out)(inv:S->ae OA)(ok:ae α->S->Prop)(s0:S)(l3:α->Z->qr)(k3:α->Z->ae OA)(h0:ok [] s0)
 (hok:∀vs s x rest,ok vs s->X (vs++x::rest)->(step s x).2=.normal->ok (vs++[x]) (step s x).1) (hit:uL P vals fn first captured F1 X)
 (ha:∀(s:S) (x:α) (lo:Nat) (o:bG) B w0,R (λh=>EV P assign (act n ((ps.zip (vals x)).reverse++l) [] none (some lo)) h (Er B w0 n (l3 x) lo o (λz=>k3 x z++inv s) F)) B w0 (pt lo o::inv s) F)
 (hb:∀(vs:ae α) (s:S) (x:α) (rest:ae α) (z:Z) (lo:Nat) (L:oC) B w0,ok vs s->X (vs++x::rest)->R (λh=>EV P body (act n (l3 x z) [] none (some lo)) h (Cm B w0 lo L (λ_:Unit=>(step s x).2) (λ_=>inv (step s x).1) (λ_=>[]) (λ_=>True))) B w0 (pt lo (.loop (xE L))::(k3 x z++inv s)) F)
 (next:∀r xs,X xs->R (λh=>K (jF step s0 xs).2 (act n l ({target:=.collected r,args:= #[]}::D) pm none) h) B w0 (inv (jF step s0 xs).1++(pt r (.iU true)::bi)) F)
 (jv:∀s x,Ck (step s x).2)
 (hf:ev l f=.func fn ⟨first⟩ ⟨captured⟩:=by rfl) (hps:ps.all (λp=>Nat.blt p n)=true:=by rfl) (hlen:∀x,ps.length=(vals x).length:=by intro _;rfl)
 (hk:aM (inv s0) kl bi:=by exact l6) (hF:Sub F1 F:=by exact lI):
 R (λh=>EV P (.rangeFunc f ps assign body) (act n l D pm none) h K) B w0 kl F:=
 ahj step inv ok s0 h0 hok hit hf hps hlen hk hF jv l3 k3 ha hb next
end
end Go.Ideal
namespace Go.Ideal
variable {P:Program}
def dV{α:Type}(E:Enc α)(aJ:ae (α×E.Y)):ae ah:=aJ.flatMap λp=>E.pat p.1 p.2
def Et{α:Type}{E:Enc α}:∀aJ:ae (α×E.Y),(dV E aJ).length=aJ.length*E.n
 |[]=>by simp[dV]
 |p::l=>by
  have ih:=Et l;unfold dV at ih⊢;rw[Ni,dL,ih,E.len,lU,qx];omega
def AQ{α:Type}{E:Enc α}:∀{aJ:ae (α×E.Y)} {k:Nat} {p:α×E.Y} {j:Nat} {u:ah},aJ[k]? =some p->(E.pat p.1 p.2)[j]? =some u->(dV E aJ)[k*E.n+j]? =some u
 |[],k,p,j,u,h,_=>by cases h
 |q::l,0,p,j,u,h,hj=>by
  cases h;unfold dV;rw[Ni,Fw,eB,iY (aT.1 hj).1];exact hj
 |q::l,k+1,p,j,u,h,hj=>by
  have ih:=AQ (aJ:=l) (k:=k) qS hj;unfold dV at ih⊢;rw[Ni,jm (by rw[E.len,qx];omega),E.len,show(k+1)*E.n+j - E.n=k*E.n+j by rw[qx];omega];exact ih
def Pv{α:Type}{E:Enc α}{j:Nat}{v:ah}:∀{aJ:ae (α×E.Y)} {k:Nat} {p p':α×E.Y},aJ[k]? =some p->(E.pat p.1 p.2).set j v=E.pat p'.1 p'.2->j<E.n->(dV E aJ).set (k*E.n+j) v=dV E (aJ.set k p')
 |[],k,p,p',h,_,_=>by cases h
 |q::l,0,p,p',h,hp,hj=>by
  cases h;unfold dV;rw[Ni,Fw,eB,List.set_append_left _ _ (by rw[E.len];exact hj),hp];rfl
 |q::l,k+1,p,p',h,hp,hj=>by
  have ih:=Pv (aJ:=l) (k:=k) qS hp hj;unfold dV at ih⊢;rw[Ni,zQ _ _ (by rw[E.len,qx];omega),E.len,show(k+1)*E.n+j - E.n=k*E.n+j by rw[qx];omega,ih];rfl
def tC{α:Type}(E:Enc α)(v:ah)(aJ:ae (α×E.Y)):aH:=
 ⟨λw=>(aJ=[]/\∃a c,v=.slice a 0 c/\O1 E.n a)\/∃i o f c cells,(v=.slice (some ⟨i,o,some f⟩) aJ.length c/\aJ.length<=c/\(f=0\/f=E.n))/\Fz w i cells/\
  ∀(k:Nat) p,aJ[k]? =some p->(∀(j:Nat) u,(E.pat p.1 p.2)[j]? =some u->cells[o+k*E.n+j]? =some u)/\∀f∈E.fs p.1 p.2,f.p w,
  λa h=>by
   rcases h with h|⟨i,o,f,c,cells,h1,h2,h3⟩
   .exact .inl h
   .refine .inr ⟨i,o,f,c,cells,h1,h2.mono a,λk x hk=>?_⟩;obtain⟨q1,q2⟩:=h3 k x hk;exact⟨q1,λf hf=>f.mono a (q2 f hf)⟩⟩
def yZ{α:Type}(E:Enc α)(aJ:ae (α×E.Y)):aH:=⟨λw=>∀p∈aJ,∀f∈E.fs p.1 p.2,f.p w,λa h p hp f hf=>f.mono a (h p hp f hf)⟩
variable{α:Type}{v:ah}{w:Wd}
def ahk{E:Enc α}{aJ:ae (α×E.Y)}(h:(tC E v aJ).p w):(yZ E aJ).p w:=by
 intro p hp f hf;rcases h with⟨rfl,_⟩|⟨i,o,fl,c,cells,_,_,h3⟩
 .cases hp
 .obtain⟨k,hk⟩:=ym.1 hp;exact(h3 k p hk).2 f hf
def ahl{E:Enc α}{aJ:ae (α×E.Y)}(h:(tC E v aJ).p w):(aA E v (aJ.map (·.1))).p w:=by
 rcases h with⟨rfl,h⟩|⟨i,o,f,c,cells,h1,h2,h3⟩
 .exact .inl ⟨rfl,h⟩
 .refine .inr ⟨i,o,f,c,cells,by rw[aS];exact h1,h2,λk x hk=>?_⟩;rw[bU]at hk;cases hp:aJ[k]? with
  |none=>rw[hp]at hk;cases hk
  |some p=>
   rw[hp]at hk;cases hk;exact⟨p.2,h3 k p hp⟩
def Wi{E:Enc α}{xs:ae α}(h:(aA E v xs).p w):∃aJ:ae (α×E.Y),aJ.map (·.1)=xs/\(tC E v aJ).p w:=by
 rcases h with⟨rfl,h⟩|⟨i,o,f,c,cells,h1,h2,h3⟩
 .exact⟨[],rfl,.inl ⟨rfl,h⟩⟩
 .obtain⟨l,hl,hp⟩:=Pb (p:=λk (p:α×E.Y)=>xs[k]? =some p.1/\(∀(j:Nat) u,(E.pat p.1 p.2)[j]? =some u->cells[o+k*E.n+j]? =some u)/\∀f∈E.fs p.1 p.2,f.p w) xs.length (λk hk=>by
   obtain⟨y,q1,q2⟩:=h3 k xs[k] (bH hk);exact⟨(xs[k],y),bH hk,q1,q2⟩)
  have hm:l.map (·.1)=xs:=by
   apply iK;intro k;rw[bU];by_cases hk:k<xs.length
   .have hk':k<l.length:=by omega
    rw[bH hk',kD,(hp k l[k] (bH hk')).1]
   .rw[dY p0,dY p0];rfl
  exact⟨l,hm,.inr ⟨i,o,f,c,cells,by rw[hl];exact h1,h2,λk p hk=>(hp k p hk).2⟩⟩
def ar{α:Type}(E:Enc α)(v:ah)(aJ:ae (α×E.Y)):OA:=
 ⟨λw S=>(aJ=[]/\(∃a,v=.slice a 0 0/\O1 E.n a)/\S=[])\/∃b f,v=.slice (some ⟨b,0,some f⟩) aJ.length aJ.length/\(f=0\/f=E.n)/\S=[b]/\w.h.get b=some (.cells (dV E aJ)),
  λa h hp=>by
   rcases hp with hp|⟨b,f,h1,h2,h3,h4⟩
   .exact .inl hp
   .exact .inr ⟨b,f,h1,h2,h3,by rw[h b tx];exact h4⟩⟩
def ahm{E:Enc α}{aJ:ae (α×E.Y)}(w w':Wd)(S:ae Nat)(hp:(ar E v aJ).p w S)(hle:w.Le w')(hh:w'.h=w.h)(hz:∀i∈S,w'.z i)(ha:(yZ E aJ).p w):(tC E v aJ).p w':=by
 rcases hp with⟨h1,⟨a,h2,h3⟩,_⟩|⟨b,f,h1,h2,h3,h4⟩
 .exact .inl ⟨h1,a,0,h2,h3⟩
 .refine .inr ⟨b,0,f,_,_,⟨h1,bz _,h2⟩,⟨hz b tx,.inl (by rw[hh];exact h4)⟩,λk p hk=>⟨λj u hj=>?_,λf hf=>f.mono hle (ha p (aV hk) f hf)⟩⟩;rw[eB];exact AQ hk hj
section
variable {B:ae Nat} {w0:Wd} {kl kl' bi:ae OA} {F:ae aH} {K:KO} {ds:ae Tmp} {rest:ae bJ} {n:Nat} {l:qr} {D:ae Deferred} {pm:aj FrameMode} {ro:aj Nat} {d:Nat} {g:aj (Tmp×Bool)}
variable {α:Type} {E:Enc α} {v:ah}
variable{Q:IH->Prop}
def KF{xs:ae α}(E:Enc α)(v:ah)(h:∀aJ:ae (α×E.Y),aJ.map (·.1)=xs->R Q B w0 kl (tC E v aJ::F))(hf:aA E v xs∈F:=by exact gM):R Q B w0 kl F:=λw s=>by
 obtain⟨aJ,h1,h2⟩:=Wi (s.facts _ hf);exact h aJ h1 w ⟨s.agree,s.le,s.eT,s.own,λf hf=>by
  rcases bN.1 hf with rfl|hf
  .exact h2
  .exact s.facts f hf⟩
variable{aJ:ae (α×E.Y)}
def Wj(h:R Q B w0 kl (yZ E aJ::F))(hf:tC E v aJ∈F:=by exact gM):R Q B w0 kl F:=λw s=>
 h w ⟨s.agree,s.le,s.eT,s.own,λf hf'=>by
  rcases bN.1 hf' with rfl|hf'
  .exact ahk (s.facts _ hf)
  .exact s.facts f hf'⟩
def KG(h:R Q B w0 kl' (tC E v aJ::aA E v (aJ.map (·.1))::F))(ha:∀w,(∀f∈F,f.p w)->(yZ E aJ).p w)(hk:aC (ar E v aJ) kl kl':=by exact dK):R Q B w0 kl F:=λw s=>by
 have hall:=ha w s.facts;obtain⟨S,⟨S1,S2,q1,q2,e⟩,h2,h3⟩:=(s.fu hk).own;subst e;let w':Wd:=⟨w.h,λi=>w.z i\/i∈S1,λi hi=>hi.elim (w.lH i) λhi=>(h3 i (jS _ hi)).2.1⟩
 have hle:w.Le w':=⟨bz _,λi hi=>.inl hi,λ_ _=>rfl⟩
 have hnd:=iT.1 h2;have hel:=ahm w w' S1 q1 hle rfl (λi hi=>.inr hi) hall;refine h w' ⟨s.agree,s.le.trans hle,λi hi hz=>?_,⟨S2,fA.loc hle (λ_ _=>rfl) q2,hnd.2.1,λi hi=>?_⟩,λf hf=>?_⟩
 .rcases hz with hz|hz
  .exact s.eT i hi hz
  .exact oS
 .exact gR
 .rcases bN.1 hf with rfl|hf
  .exact hel
  .rcases bN.1 hf with rfl|hf
   .exact ahl hel
   .exact f.mono hle (s.facts f hf)
def Wl(hlen:0<aJ.length)(h:∀b f,(f=0\/f=E.n)->v=.slice (some ⟨b,0,some f⟩) aJ.length aJ.length->R Q B w0 (pt b (.cells (dV E aJ))::kl') F)(hk:aC (ar E v aJ) kl kl':=by exact dK):R Q B w0 kl F:=λw s=>by
 have s1:=s.fu hk;obtain⟨S,⟨S1,S2,q1,q2,e⟩,h2,h3⟩:=s1.own;rcases q1 with⟨h0,_⟩|⟨b,f,h4,h5,h6,h7⟩
 .rw[h0]at hlen;simp at hlen
 .exact h b f h5 h4 w ⟨s1.agree,s1.le,s1.eT,⟨S,⟨S1,S2,⟨h6,h7⟩,q2,e⟩,h2,h3⟩,s1.facts⟩
def wB{α:Type}(E:Enc α){aJ:ae (α×E.Y)}{Q:IH->Prop}{b f m:Nat}(hm:m=aJ.length)(hf:f=0\/f=E.n)(h:R Q B w0 (ar E (.slice (some ⟨b,0,some f⟩) m m) aJ::kl') F)(hk:aC (pt b (.cells (dV E aJ))) kl kl':=by exact dK):R Q B w0 kl F:=λw s=>by
 refine h w ((s.fu hk).yS (A:=pt b (.cells (dV E aJ))) λw S hp=>.inr ⟨b,f,by rw[hm],hf,hp.1,hp.2⟩)
def Wm(h:∀a,v=.slice a aJ.length aJ.length->R Q B w0 kl F)(hk:aC (ar E v aJ) kl kl':=by exact dK):R Q B w0 kl F:=λw s=>by
 obtain⟨S,⟨S1,S2,q1,q2,e⟩,h2,h3⟩:=(s.fu hk).own;rcases q1 with⟨rfl,⟨a,h1,_⟩,_⟩|⟨b,f,h4,_⟩
 .exact h a h1 w s
 .exact h _ h4 w s
variable{x:ak}{c m:Nat}{t e:aB}
def G6(hu:P.underlying t=some (.slice e))(hx:ev l x=.slice none m c):Pu P (ev l) (.bin .eql t x (.const (.slice none 0 0))) (.bool true):=λh=>by
 have he:bX P (Op.equal t (.slice none m c) (.slice none 0 0))=some true:=by
  show bX P (Op.equalIn (9999+1) t (.slice none m c) (.slice none 0 0))=_;unfold Op.equalIn;rw[eF,oL hu];rfl
 have h1:jo P (do eqGuard .eql t x (.const (.slice none 0 0)) (.slice none m c) (.slice none 0 0);binOp .eql t (.slice none m c) (.slice none 0 0))=some (.bool true):=by
  exact eC
 have h2:ku P .eql t x (.const (.slice none 0 0)) (.slice none m c) (.slice none 0 0)=some (.bool true):=by
  by_cases hmc:m=0/\c=0
  .show cond (bR (Value.slice none m c)&&bR (Value.slice none 0 0)) (jo P (do eqGuard .eql t x (.const (.slice none 0 0)) (.slice none m c) (.slice none 0 0);binOp .eql t (.slice none m c) (.slice none 0 0))) _=_;rw[h1];obtain⟨rfl,rfl⟩:=hmc;simp[bR]
  .have e0:bR (Value.slice none m c)=false:=by
    cases hb:bR (Value.slice none m c)with
    |false=>rfl
    |true=>exact absurd (by simpa[bR]using hb) hmc
   have e1:uq P t (.slice none m c) (.slice none 0 0)=some true:=by
    unfold uq;rw[hu]
   show cond (bR (Value.slice none m c)&&bR (Value.slice none 0 0)) _ (match uq P t (.slice none m c) (.slice none 0 0)with|some b=>some (Value.bool b)|none=>none)=_;rw[e0,e1];rfl
 simp only[aF.run,hx];show(match ku P .eql t x (.const (.slice none 0 0)) (.slice none m c) (.slice none 0 0)with|some v=>some (v,h)|none=>none)=_;rw[h2]
def AU{a:Addr}(hu:P.underlying t=some (.slice e))(hx:ev l x=.slice (some a) m c):Pu P (ev l) (.bin .eql t x (.const (.slice none 0 0))) (.bool false):=λh=>by
 have h2:ku P .eql t x (.const (.slice none 0 0)) (.slice (some a) m c) (.slice none 0 0)=some (.bool false):=by
  have:uq P t (.slice (some a) m c) (.slice none 0 0)=some false:=by
   unfold uq;rw[hu]
  show(match uq P t (.slice (some a) m c) (.slice none 0 0)with|some b=>some (Value.bool b)|none=>none)=_;rw[this]
 simp only[aF.run,hx];show(match ku P .eql t x (.const (.slice none 0 0)) (.slice (some a) m c) (.slice none 0 0)with|some v=>some (v,h)|none=>none)=_;rw[h2]
variable{s:ak}{b:Nat}
def KH{e:aB}{size bytes:Nat}{a:aj Addr}
 (next:R (λh=>aK P ds rest (act n ((d,.slice (some ⟨b,0,some 0⟩) 0 0)::l) D pm ro) h K) B w0 (pt b (.cells [])::kl') F)
 (hs:ev l s=.slice (some ⟨b,0,some 0⟩) 0 0:=by rfl) (hx:ev l x=.slice a 0 c:=by rfl) (hk:aC (pt b (.cells [])) kl kl':=by exact dK) (hn:Nat.blt d n=true:=by rfl) (hg:bK l g=true:=by rfl):
 R (λh=>aK P ds (⟨⟨some d,g,.append e size bytes s x⟩,[]⟩::rest) (act n l D pm ro) h K) B w0 kl F:=λw st=>by
 have st1:=st.fu hk;refine lG hn hg (v:=.slice (some ⟨b,0,some 0⟩) 0 0) (h':=w.h.set b (.cells [])) ?_ (next ⟨w.h.set b (.cells []),w.z,λi hi=>w.lH i hi⟩ st1.write);have h0:∀m,Nat.mul 0 m=0:=λm=>Fw m;have e1:w.h.storeAt b 0 []=some (w.h.set b (.cells [])):=by
  unfold IH.storeAt;simp only[st1.get.1];rfl
 simp only[aF.run,hx,hs,oD,yA,w9];show cond (Nat.ble (Nat.mul (Nat.add 0 0) bytes) small&&Nat.ble (Nat.mul (Nat.add 0 0) size) small&&Nat.ble (Nat.add 0 0) small) (cond (Nat.ble (Nat.add 0 0) 0) (match w.h.storeAt b (Nat.add 0 (Nat.mul 0 size)) []with|some h=>some (Value.slice (some ⟨b,0,some 0⟩) (Nat.add 0 0) 0,h)|none=>none) _) none=_;rw[show Nat.add 0 0=0 from rfl,h0,h0,show Nat.add 0 0=0 from rfl,e1];have:(Nat.ble 0 small&&Nat.ble 0 small&&Nat.ble 0 small)=true:=rfl;rw[this];rfl
def KI{α:Type}{e:aB}{size bytes:Nat}(E:Enc α)(aJ:ae (α×E.Y))(hne:0<aJ.length)(hm:aJ.length*bytes<=1073741824/\aJ.length*size<=1073741824/\aJ.length<=1073741824)
 (next:∀b',R (λh=>aK P ds rest (act n ((d,.slice (some ⟨b',0,some size⟩) aJ.length aJ.length)::l) D pm ro) h K) B w0 (pt b' (.cells (dV E aJ))::kl') F)
 (hs:ev l s=.slice (some ⟨b,0,some 0⟩) 0 0:=by rfl) (hx:ev l x=v:=by conv=>lhs;whnf) (hf:tC E v aJ∈F:=by exact gM) (hz:E.n=size:=by rfl) (hk:aC (pt b (.cells [])) kl kl':=by exact dK) (hn:Nat.blt d n=true:=by rfl) (hg:bK l g=true:=by rfl):
 R (λh=>aK P ds (⟨⟨some d,g,.append e size bytes s x⟩,[]⟩::rest) (act n l D pm ro) h K) B w0 kl F:=λw st=>by
 subst hz;have st1:=st.fu hk;have hat:At w.h b (.cells []):=st.at_ hk;obtain⟨k,hk'⟩:∃k,aJ.length=k+1:=⟨aJ.length - 1,p0⟩
 rcases st.facts _ hf with⟨rfl,_⟩|⟨i,o,f,c,cells,⟨e1,hc⟩,q2,q3⟩
 .simp at hne
 have hfl:=Et aJ;have hcells:∀j,j<aJ.length*E.n->cells[o+j]? =(dV E aJ)[j]?:=λj hj=>by
  have hn0:0<E.n:=by
   rcases M7 E.n with h0|h0
   .rw[h0]at hj;omega
   .exact h0
  have hd:j/E.n<aJ.length:=by rw[Nat.div_lt_iff_lt_mul hn0];exact hj
  have hmod:=zM j hn0;have hpk:=bH hd;have hu:(E.pat (aJ[j/E.n]).1 (aJ[j/E.n]).2)[j%E.n]? =some ((E.pat (aJ[j/E.n]).1 (aJ[j/E.n]).2)[j%E.n]'(by rw[E.len];exact hmod)):=bH _;have h1:=(q3 (j/E.n) _ hpk).1 (j%E.n) _ hu;have h2:=AQ hpk hu;have Gy:j/E.n*E.n+j%E.n=j:=by rw[Fq];exact Nat.div_add_mod j E.n
  rw[kE,Gy]at h1;rw[Gy]at h2;rw[h1,h2]
 have hlen:o+aJ.length*E.n<=cells.length\/aJ.length*E.n=0:=by
  rcases M7 (aJ.length*E.n)with h0|h0
  .exact .inr h0
  .left;have h1:=hcells (aJ.length*E.n - 1) p0;have hx0:(dV E aJ)[aJ.length*E.n - 1]? =some ((dV E aJ)[aJ.length*E.n - 1]'(p0)):=bH _;rw[hx0]at h1;have:=(aT.1 h1).1;omega
 have hpos:0<E.n\/E.n=0:=p0
 have hread:w.h.iq i o (aJ.length*E.n)=some (dV E aJ):=by
  rw[q2.cells.iq,oH,pE,if_pos ri];congr 1;apply iK;intro j;rw[qy];by_cases hj:j<aJ.length*E.n
  .rw[if_pos hj,jR];exact hcells j hj
  .rw[if_neg hj,dY p0]
 refine OQ (b:=b) (o:=0) (m:=0) (k:=k) (f:=some 0) (old:=[]) (xs:=dV E aJ) hn hg hs (by rw[hx,e1,hk'];rfl) ?_ ?_ (.inl rfl) ?_ λh' mv=>?_
 .rw[hx,e1,<- hk'];exact hread
 .rw[hat.c.iq,Fw];rfl
 .rw[eB,<- hk'];omega
 obtain⟨w',rfl,jw,yT⟩:=st1.move mv;rw[dW]at jw;have:=next w.h.next w' jw
 rw[hk']at this;rw[eB];exact this
end
end Go.Ideal
namespace Go.Ideal
variable {P:Program}
inductive Eu(P:Program)(ty:TypeId):Value->Value->Bool->Prop
 |int {a b:Int} (h:P.underlying ty=some (.int .i64)):Eu P ty (.int .i64 a) (.int .i64 b) (decide (a=b))
 |str {a b:ByteArray} (h:P.underlying ty=some .string):Eu P ty (.string a) (.string b) (decide (a=b))
def G7:bX P program=some P:=rfl
def G8{α:Type}{c:Prop}[Decidable c]{a b:Sem α}:bX P (if c then a else b)=if c then bX P a else bX P b:=by split<;>rfl
variable{r:Bool}{ty:aB}{a b:ah}
def Wn(c:Eu P ty a b r)(d:Nat):bX P (Op.equalIn (d+1) ty a b)=some r:=by
 cases c with
 |int h=>
  exact oA
 |str h=>
  unfold Op.equalIn;rw[eF,oL h];show some (_==_)=_;rw[bytes_beq]
def KJ{v:ah}(c:Eu P ty a b r){xs:Array ah}{o:Nat}(hx:xs[o]? =some v):bX P (part ty xs o)=some v:=by
 have hu:∃d,P.underlying ty=some d/\(∀fs,d≠.struct fs)/\∀n e,d≠.array n e:=by
  cases c with
  |int h=>exact⟨_,h,(by intro _ e;cases e),(by intro _ _ e;cases e)⟩
  |str h=>exact⟨_,h,(by intro _ e;cases e),(by intro _ _ e;cases e)⟩
 obtain⟨d,h1,h2,h3⟩:=hu;have hag:bX P (isAgg ty)=some false:=by
  unfold isAgg;rw[eF,oL h1];cases d with
  |struct fs=>exact absurd rfl (h2 fs)
  |array n e=>exact absurd rfl (h3 n e)
  |_=>rfl
 exact gA
inductive Ew(P:Program)(xs ys:List Value):List Field->Bool->Prop
 |nil:Ew P xs ys [] true
 |cons {f:Field} {fs:List Field} {a b:Value} {r r':Bool} (hn:(f.name== "_")=false) (hx:xs[f.offset]? =some a) (hy:ys[f.offset]? =some b) (c:Eu P f.type a b r) (t:Ew P xs ys fs r'):Ew P xs ys (f::fs) (r&&r')
def Wo{d:Nat}{t:aB}{fs:Array Field}{xs ys:ae ah}(hu:P.underlying t=some (.struct fs))(hp:P.stoodInHeld t=false)(h:Ew P xs ys fs.toList r):bX P (Op.equalIn (d+2) t (.agg ⟨xs⟩) (.agg ⟨ys⟩))=some r:=by
 unfold Op.equalIn;rw[eF,oL hu];simp only[gy];rw[eF,G7];simp only[gy,hp,uh,if_false];rw[<- Array.forIn_toList];generalize fs.toList=l at h;clear hu;induction h with
 |nil=>rfl
 | @cons f fs a b r r' hn hx hy c t ih=>
   have hn:f.name≠ "_" :=by simpa using hn
   rw[List.forIn_cons];simp only[eF,G8,if_pos hn,hn,ne_eq,not_false_eq_true,if_true]at ih⊢;rw[KJ (xs:=⟨xs⟩) c qT,gy,KJ (xs:=⟨ys⟩) c (by simpa using hy),gy,Wn c,gy];cases r with
   |false=>rfl
   |true=>exact ih
section
variable {l:qr}
variable{t:aB}{x y:ak}{op:BinOp}
def ahn{a b:Array ah}(hm:P.eqGuardType P.depth t=false):bX P (eqGuard op t x y (.agg a) (.agg b))=some ():=by
 have key:bX P (do if !(<- program).eqGuardType (<- program).depth t then return
                   if <- Op.eqGuardIn Op.maxDepth t (.agg a) (.agg b)then unsupported (.noEntry "binop\x2feql: two nil values of an interface type with methods, in a part of a struct or an array"))=some ():=by
  rw[eF,G7];simp only[gy];rw[eF,G7];simp only[gy,hm,M9,if_true];rfl
 cases op<;>first|exact key|rfl
def Wp{a b:ae ah}{v:ah}(ha:gD a=true)(hb:gD b=true)(hm:P.eqGuardType P.depth t=false)(hv:bX P (binOp op t (.agg ⟨a⟩) (.agg ⟨b⟩))=some v)(hf:bR v=true):ku P op t x y (.agg ⟨a⟩) (.agg ⟨b⟩)=some v:=by
 have h1:jo P (do eqGuard op t x y (.agg ⟨a⟩) (.agg ⟨b⟩);binOp op t (.agg ⟨a⟩) (.agg ⟨b⟩))=some v:=by
  unfold jo;rw[eF,ahn hm];simp only[gy,hv,hf,cond]
 show cond (bR (.agg ⟨a⟩)&&bR (.agg ⟨b⟩)) (jo P (do eqGuard op t x y (.agg ⟨a⟩) (.agg ⟨b⟩);binOp op t (.agg ⟨a⟩) (.agg ⟨b⟩))) _=_;rw[h1];simp[bR,ha,hb]
def Wq{fs:Array Field}{xs ys:ae ah}{r:Bool}(hx:ev l x=.agg ⟨xs⟩)(hy:ev l y=.agg ⟨ys⟩)(hu:P.underlying t=some (.struct fs))(hp:P.stoodInHeld t=false)(hm:P.eqGuardType P.depth t=false)(h:Ew P xs ys fs.toList r)(ha:gD xs=true)(hb:gD ys=true):
 Pu P (ev l) (.bin .neq t x y) (.bool (!r)):=λh0=>by
 simp only[aF.run,hx,hy];rw[Wp ha hb hm (v:=.bool (!r)) (by
  show bX P (do pure (Value.bool (!(<- Op.equal t (.agg ⟨xs⟩) (.agg ⟨ys⟩)))))=_;rw[eF,show bX P (Op.equal t (.agg ⟨xs⟩) (.agg ⟨ys⟩))=some r from Wo (d:=9998) hu hp h];rfl) rfl]
variable{e:aB}{n:Nat}{xs ys:ae Int}
def Ws{d:Nat}(hu:P.underlying t=some (.array n e))(he:P.underlying e=some (.int .i64))(hs:P.info? e|>.map (·.size)|>(·=some 1))(hx:xs.length=n)(hy:ys.length=n):
 bX P (Op.equalIn (d+2) t (.agg ⟨xs.map (.int .i64)⟩) (.agg ⟨ys.map (.int .i64)⟩))=some (decide (xs=ys)):=by
 have hsz:bX P (sizeOf e)=some 1:=by
  exact eK
 unfold Op.equalIn;rw[eF,oL hu];simp only[gy];rw[eF,hsz];simp only[gy,nQ];rw[Std.Legacy.Range.forIn_eq_forIn_range'];simp only[Std.Legacy.Range.size,yg,Nat.add_sub_cancel,Nat.div_one];have key:∀(m i:Nat),i+m=n->bX P (do
  let G9 <- forIn (List.range' i m 1) ((none,()):aj Bool×Unit) λi G9=>
   (do let a <- part e ⟨xs.map (.int .i64)⟩ i
       let b <- part e ⟨ys.map (.int .i64)⟩ i
       let r <- Op.equalIn (d+1) e a b
       if(!r)=true then pure (ForInStep.done (some false,()))else pure (ForInStep.yield (none,())))
  match G9.fst with
  |some r=>pure r
  |none=>pure true)=some (decide (xs.drop i=ys.drop i)):=by
  intro m;induction m with
  |zero=>
   intro i hi;rw[BB p0,BB p0];rfl
  |succ m ih=>
   intro i hi;have hix:i<xs.length:=p0
   have He:i<ys.length:=p0
   have c:Eu P e (.int .i64 xs[i]) (.int .i64 ys[i]) (decide (xs[i]=ys[i])):=.int he;rw[List.range'_succ,List.forIn_cons];simp only[eF,G8];rw[KJ (xs:=⟨xs.map (.int .i64)⟩) (o:=i) (v:=.int .i64 xs[i]) c (by simp[hix]),gy,KJ (xs:=⟨ys.map (.int .i64)⟩) (o:=i) (v:=.int .i64 ys[i]) c (by simp[He]),gy,Wn c,gy];exact cF
 have:=key n 0 p0;rw[vI,vI]at this;refine Eq.trans ?_ this;simp only[eF];congr 1;funext s
 cases s.fst<;>rfl
def aho(hx:ev l x=.agg ⟨xs.map (.int .i64)⟩)(hy:ev l y=.agg ⟨ys.map (.int .i64)⟩)(hu:P.underlying t=some (.array n e))(he:P.underlying e=some (.int .i64))(hs:P.info? e|>.map (·.size)|>(·=some 1))(hxl:xs.length=n)(hyl:ys.length=n)(hm:P.eqGuardType P.depth t=false):
 Pu P (ev l) (.bin .eql t x y) (.bool (decide (xs=ys))):=λh0=>by
 have hfr:∀zs:ae Int,gD (zs.map (Value.int .i64))=true:=by
  intro zs;induction zs with
  |nil=>rfl
  |cons z zs ih=>rw[fK];simp[gD,bR,Ideal.cellV,ih]
 simp only[aF.run,hx,hy];rw[Wp (hfr xs) (hfr ys) hm (v:=.bool (decide (xs=ys))) (by
  show bX P (do pure (Value.bool (<- Op.equal t (.agg ⟨xs.map (.int .i64)⟩) (.agg ⟨ys.map (.int .i64)⟩))))=_;rw[eF,show bX P (Op.equal t (.agg ⟨xs.map (.int .i64)⟩) (.agg ⟨ys.map (.int .i64)⟩))=some (decide (xs=ys))from Ws (d:=9998) hu he hs hxl hyl];rfl) rfl]
def Ex(P:Program):ae Field->Nat->ae Bool->Bool
 |[],_,[]=>true
 |f::fs,i,k::ks=>!(f.name== "_")&&f.offset==i&&(match P.underlying f.type with
  |some (.int .i64)=>k
  |some .string=>!k
  |_=>false)&&Ex P fs (i+1) ks
 |_,_,_=>false
def cellsE:ae ah->ae ah->Bool
 | .int .i64 a::xs,.int .i64 b::ys=>decide (a=b)&&cellsE xs ys
 | .string a::xs,.string b::ys=>decide (a=b)&&cellsE xs ys
 |_,_=>true
def KM:ae Bool->ae ah->Bool
 |[],[]=>true
 |true::ks,.int .i64 _::vs=>KM ks vs
 |false::ks,.string _::vs=>KM ks vs
 |_,_=>false
def row_of{xs ys:ae ah}:∀{fs:ae Field} {i:Nat} {ks:ae Bool} {xs' ys':ae ah},Ex P fs i ks=true->KM ks xs'=true->KM ks ys'=true->(∀j,xs[i+j]? =xs'[j]?)->(∀j,ys[i+j]? =ys'[j]?)->Ew P xs ys fs (cellsE xs' ys')
 |[],i,[],[],[],_,_,_,_,_=>.nil
 |f::fs,i,k::ks,[],ys',h,hx,hy,ex,ey=>by cases k<;>cases hx
 |f::fs,i,k::ks,x::xs',[],h,hx,hy,ex,ey=>by cases k<;>cases hy
 |f::fs,i,k::ks,x::xs',y::ys',h,hx,hy,ex,ey=>by
  simp only[Ex,dG]at h;obtain⟨⟨⟨h1,h2⟩,h3⟩,h4⟩:=h;have h2:f.offset=i:=sq
  have e1:xs[f.offset]? =some x:=by have:=ex 0;rw[wS]at this;rw[h2,this];rfl
  have e2:ys[f.offset]? =some y:=by have:=ey 0;rw[wS]at this;rw[h2,this];rfl
  have Wt:∀j,xs[i+1+j]? =xs'[j]?:=λj=>by have:=ex (j+1);rw[show i+1+j=i+(j+1)by omega,this];rfl
  have Wu:∀j,ys[i+1+j]? =ys'[j]?:=λj=>by have:=ey (j+1);rw[show i+1+j=i+(j+1)by omega,this];rfl
  cases k with
  |true=>
   match x,hx,y,hy with
   | .int .i64 a,hx,.int .i64 b,hy=>
     have hu:P.underlying f.type=some (.int .i64):=by
      cases hq:P.underlying f.type with
      |none=>rw[hq]at h3;cases h3
      |some q=>
       rw[hq]at h3;cases q with
       |int kk=>cases kk<;>first|rfl|cases h3
       |string=>cases h3
       |_=>cases h3
     exact .cons r6 e1 e2 (.int hu) (row_of h4 hx hy Wt Wu)
  |false=>
   match x,hx,y,hy with
   | .string a,hx,.string b,hy=>
     have hu:P.underlying f.type=some .string:=by
      cases hq:P.underlying f.type with
      |none=>rw[hq]at h3;cases h3
      |some q=>
       rw[hq]at h3;cases q with
       |int kk=>cases kk<;>cases h3
       |string=>rfl
       |_=>cases h3
     exact .cons r6 e1 e2 (.str hu) (row_of h4 hx hy Wt Wu)
end
end Go.Ideal
namespace Go.Ideal
variable {P:Program}
variable{ρ:ak->ah}{x:ak}
def uM{src dst:aB}{kk k:IntKind}{n m:Int}{ds:TypeDesc}(hs:P.underlying src=some ds)(hd:P.underlying dst=some (.int k))(hx:ρ x=.int kk n)(hw:k.wrap n=m):Pu P ρ (.conv src dst x) (.int k m):=λh=>by
 have h1:bX P (convert src dst (.int kk n))=some (.int k m):=by
  unfold convert;rw[eF,oL hs];simp only[gy];rw[eF,oL hd];simp only[gy];rw[<- hw];rfl
 simp only[aF.run,hx,jo,h1];rfl
variable{a:Nat}
def KN(h:a<18446744073709551616):IntKind.u64.wrap (a:Int)=a:=by
 show(let m:=(a:Int)%(2^64:Int);if false&&m>=(2^63:Int)then m - (2^64:Int)else m)=_;simp only[Bool.false_and,uh,if_false];rw[Int.emod_eq_of_lt p0 (by simpa using(by omega:(a:Int)<18446744073709551616))]
def Pw{y:ak}{t:aB}{b:Nat}(hx:ρ x=.int .u64 (a:Int))(hy:ρ y=.int .u64 (b:Int))(hb:b<64):Pu P ρ (.bin .shr t x y) (.int .u64 ((a>>>b:Nat):Int)):=λh=>by
 have hv:bX P (binOp .shr t (.int .u64 (a:Int)) (.int .u64 (b:Int)))=some (.int .u64 ((a>>>b:Nat):Int)):=by
  show bX P (Op.shift .shr .u64 a .u64 b)=_;unfold Op.shift;rw[if_neg p0];show some (Value.int .u64 ((a:Int).fdiv (2^(min (b:Int).toNat 64))))=_;exact eR
 have h1:jo P (do eqGuard .shr t x y (.int .u64 (a:Int)) (.int .u64 (b:Int));binOp .shr t (.int .u64 (a:Int)) (.int .u64 (b:Int)))=some (.int .u64 ((a>>>b:Nat):Int)):=by
  exact lA
 have h2:ku P .shr t x y (.int .u64 (a:Int)) (.int .u64 (b:Int))=some (.int .u64 ((a>>>b:Nat):Int)):=by
  unfold ku;have:(match qD .u64 .u64 with|true=>nS .shr .u64 (a:Int) (b:Int)|false=>none)=none:=rfl;simp only[qD,bR,Fu,cond];exact h1
 exact nF
def Px{α:Type}[DecidableEq α]{aW:α->ah}{kt:aB}{d:TypeDesc}(hu:P.underlying kt=some d)(hn:∀a b,Instr.sameNow d (aW a) (aW b)=none)(he:∀a b,bX P (Op.equal kt (aW a) (aW b))=some (decide (a=b)))(a:α)(ay:ae (α×ah))(es:ae MapEntry)(h:qd aW ay es):uo P kt (aW a) es=some (qc a ay 0):=by
 have ahp:∀(ay:ae (α×ah)) (es:ae MapEntry) (i:Nat),qd aW ay es->bX P (Instr.findAsking kt (aW a) es i)=some (qc a ay i):=by
  intro ay;induction ay with
  |nil=>
   intro es i h;exact mm
  |cons p ay ih=>
   intro es i h;obtain⟨e,es',rfl,h1,h2,h3⟩:=Pm h;unfold Instr.findAsking;rw[eF,h1,he];simp only[gy];unfold qc;by_cases hab:a=p.1
   .rw[fo hab,if_pos hab,h2];rfl
   .rw[di hab,if_neg hab];exact ih es' (i+1) h3
 unfold uo Instr.findKey;rw[eF,oL hu];simp only[gy];cases ay with
 |nil=>
  exact mm
 |cons p ay=>
  have h':=h;obtain⟨e,es',rfl,h1,h2,h3⟩:=Pm h;have:Instr.findNow d (aW a) (e::es') 0=none:=by
   show(match Instr.sameNow d (aW a) e.key with
   |some true=>some (some (0,e.val))
   |some false=>Instr.findNow d (aW a) es' 1
   |none=>none)=_
   rw[h1,hn]
  rw[this];exact ahp _ _ _ h'
abbrev iD:Int×Int->ah:=λp=>.agg ⟨[.int .i64 p.1,.int .i64 p.2]⟩
def ahq{kt e:aB}(hu:P.underlying kt=some (.array 2 e))(he:P.underlying e=some (.int .i64))(hs:P.info? e|>.map (·.size)|>(·=some 1))(hc:∀a b:Int,rC P kt (.agg ⟨[.int .i64 a,.int .i64 b]⟩)=true):qf P kt iD where
 Cu a:=hc a.1 a.2
 find a ay es h:=Px hu (λa b=>rfl) (λa b=>by
  have:=Ws (d:=9998) (xs:=[a.1,a.2]) (ys:=[b.1,b.2]) hu he hs rfl rfl;rw[show decide (a=b)=decide ([a.1,a.2]=[b.1,b.2])from sP.2 ⟨λh=>by rw[h],λh=>by
   injection h with h1 h2;injection h2 with h2;exact Prod.ext h1 h2⟩]
  exact this) a ay es h
 same a:=by
  show((⟨[Value.int .i64 a.1,.int .i64 a.2]⟩:Array ah).size==(⟨[Value.int .i64 a.1,.int .i64 a.2]⟩:Array ah).size&&(List.zip [Value.int .i64 a.1,.int .i64 a.2] [Value.int .i64 a.1,.int .i64 a.2]).all λ(x,y)=>Instr.sameBits 9999 x y)=true;simp[Instr.sameBits]
end Go.Ideal
namespace Go.Ideal
section
variable {P:Program}
variable {ds:ae Tmp} {rest:ae bJ} {n:Nat} {l:qr} {D:ae Deferred} {pm:aj FrameMode} {ro:aj Nat} {h:IH} {K:KO} {d:Nat} {g:aj (Tmp×Bool)}
variable{re:ae iy}
def Wv{op:aF}{v:ah}{h':IH}(hn:Nat.blt d n=true)(hg:bK l g=true)(hr:op.run P (ev l) h=some (v,h'))
 (hsm:∀q∈re,∃u h2,q.op.run P (ev ((d,v)::l)) h'=some (u,h2)/\∀d',q.dst=some d'->lk ((d,v)::l) d'=u)
 (next:aK P ds rest (act n ((d,v)::l) D pm ro) h' K):aK P ds (⟨⟨some d,g,op⟩,re⟩::rest) (act n l D pm ro) h K:=
 .lZ (xA hg) v h' ta (λq hq _=>by
  obtain⟨u,h2,e1,e2⟩:=hsm q hq;exact eN) tw
variable{e:aB}{size bytes k:Nat}{s x:ak}{xs:ae ah}
def ahr{b o m:Nat}{f:aj Nat}{old:ae ah}(hn:Nat.blt d n=true)(hg:bK l g=true)
 (hs:ev l s=.slice (some ⟨b,o,f⟩) m m) (hx:oD (ev l x)=some (k+1)) (hxs:nG size (k+1) (ev l x) h=some xs) (hold:h.iq b o (m*size)=some old)
 (hf:f=some 0\/f=some size) (hm:(m+(k+1))*bytes<=1073741824/\(m+(k+1))*size<=1073741824/\m+(k+1)<=1073741824)
 (hsm:∀h',Ap h h' b (.cells (old++xs))->∀q∈re,∃u h2,q.op.run P (ev ((d,.slice (some ⟨h.next,0,some size⟩) (m+(k+1)) (m+(k+1)))::l)) h'=some (u,h2)/\∀d',q.dst=some d'->lk ((d,.slice (some ⟨h.next,0,some size⟩) (m+(k+1)) (m+(k+1)))::l) d'=u)
 (next:∀h',Ap h h' b (.cells (old++xs))->aK P ds rest (act n ((d,.slice (some ⟨h.next,0,some size⟩) (m+(k+1)) (m+(k+1)))::l) D pm ro) h' K):
 aK P ds (⟨⟨some d,g,.append e size bytes s x⟩,re⟩::rest) (act n l D pm ro) h K:=by
 have hle:∀{a b:Nat},a<=b->Nat.ble a b=true:=λh=>by rw[sO];exact h
 have hlt:Nat.ble (m+(k+1)) m=false:=by
  exact mN
 have hc:(Nat.ble (Nat.mul (m+(k+1)) bytes) small&&Nat.ble (Nat.mul (m+(k+1)) size) small&&Nat.ble (m+(k+1)) small)=true:=by
  exact e9
 have hrun:∃h',(aF.append e size bytes s x).run P (ev l) h=some (.slice (some ⟨h.next,0,some size⟩) (m+(k+1)) (m+(k+1)),h')/\Ap h h' b (.cells (old++xs)):=by
  exact cj
 obtain⟨h',hr,hM⟩:=hrun;exact Wv hn hg hr (hsm h' hM) (next h' hM)
def ahs{c:Nat}(hn:Nat.blt d n=true)(hg:bK l g=true)
 (hs:ev l s=.slice none 0 0) (hx:oD (ev l x)=some (k+1)) (hxs:nG size (k+1) (ev l x) h=some xs)
 (hm:(k+1)*bytes<=1073741824/\(k+1)*size<=1073741824/\(k+1)<=1073741824)
 (hsm:∀h',Agree h h'->At h' h.next (.cells xs)->h'.next=h.next+1->∀q∈re,∃u h2,q.op.run P (ev ((d,.slice (some ⟨h.next,0,some size⟩) (k+1) (k+1))::l)) h'=some (u,h2)/\∀d',q.dst=some d'->lk ((d,.slice (some ⟨h.next,0,some size⟩) (k+1) (k+1))::l) d'=u)
 (next:∀h',Agree h h'->At h' h.next (.cells xs)->h'.next=h.next+1->aK P ds rest (act n ((d,.slice (some ⟨h.next,0,some size⟩) (k+1) (k+1))::l) D pm ro) h' K):
 aK P ds (⟨⟨some d,g,.append e size bytes s x⟩,re⟩::rest) (act n l D pm ro) h K:=by
 have hle:∀{a b:Nat},a<=b->Nat.ble a b=true:=λh=>by rw[sO];exact h
 have e0:Nat.add 0 (k+1)=k+1:=eB _;refine Wv hn hg (h':=h.new (.cells xs)) ?_ (hsm _ (OJ _ _) (OL _ _) rfl) (next _ (OJ _ _) (OL _ _) rfl);have Cf:yA size (k+1) (ev l x) h=some xs:=hxs;simp only[aF.run,hx,Cf,hs,w9,e0];rw[hle (show Nat.mul (k+1) bytes<=small from hm.1),hle (show Nat.mul (k+1) size<=small from hm.2.1),hle (show k+1<=small from hm.2.2)];have e1:nG size 0 (.slice none 0 0) h=some []:=by
  exact ox
 have e2:Nat.ble (k+1) 0=false:=rfl;simp only[Fu,cond_true,e2,cond_false,e1,jc,dW]
end
section
variable {P:Program}
variable {ρ:ak->ah}
variable {B:ae Nat} {w0:Wd} {kl kl':ae OA} {F:ae aH} {a:aU} {K:KO}
variable {y:cK} {i j m0:Nat} {I:Nat->aU->IH->Prop} {ch:ae PanicEntry}
variable {B:ae Nat} {w0:Wd} {kl kl':ae OA} {F:ae aH} {K:KO} {ds:ae Tmp} {rest:ae bJ} {n:Nat} {l:qr} {D:ae Deferred} {pm:aj FrameMode} {ro:aj Nat} {d:Nat} {g:aj (Tmp×Bool)}
def aht{re:ae iy}{α:Type}{E:Enc α}{e:aB}{size bytes b':Nat}{s x:ak}{v:ah}{xs:ae α}{a:α}{y:E.Y}{cs:ae ah}{k1 k2:ae OA}(hn:Nat.blt d n=true)(hg:bK l g=true)
 (hs:ev l s=v) (hx:ev l x=.slice (some ⟨b',0,some 0⟩) 1 1) (hk:aC (ap E v xs) kl k1) (hc:aC (pt b' (.cells cs)) k1 k2) (hp:cs=E.pat a y) (hF:Sub (E.fs a y) F) (hz:E.n=size)
 (hm:(xs.length+1)*bytes<=1073741824/\(xs.length+1)*size<=1073741824/\xs.length+1<=1073741824)
 (hsm:∀ad,Same P re (ev ((d,.slice ad (xs.length+1) (xs.length+1))::l)) ((d,.slice ad (xs.length+1) (xs.length+1))::l) B w0 (ap E (.slice ad (xs.length+1) (xs.length+1)) (xs++[a])::k2) F)
 (r:∀ad,R (λh=>aK P ds rest (act n ((d,.slice ad (xs.length+1) (xs.length+1))::l) D pm ro) h K) B w0 (ap E (.slice ad (xs.length+1) (xs.length+1)) (xs++[a])::k2) F):
 R (λh=>aK P ds (⟨⟨some d,g,.append e size bytes s x⟩,re⟩::rest) (act n l D pm ro) h K) B w0 kl F:=by
 intro w st;subst hp hz;have hlen:=E.len a y;have st2:St B w0 (ap E v xs::pt b' (.cells (E.pat a y))::k2) F w:=st.kJ (.cons hk (.cons hc .nil));have hat:At w.h b' (.cells (E.pat a y)):=st2.at_ (.there .here);have nK:St B w0 (ap E v xs::k2) F w:=(st2.fu (.there .here)).tail;have hfs:∀f∈E.fs a y,f.p w:=λf hf=>st.facts f (hF.mem f hf);have hread:w.h.iq b' 0 (1*E.n)=some (E.pat a y):=by
  exact iS
 have hx1:oD (ev l x)=some (0+1):=by rw[hx];rfl
 have hx2:nG E.n (0+1) (ev l x) w.h=some (E.pat a y):=vj
 have put:∀(w':Wd) (c:Nat) (f:Nat) (cells:ae ah),cells.length=xs.length*E.n->(∀(k:Nat) z,xs[k]? =some z->∃y,(∀(j:Nat) u,(E.pat z y)[j]? =some u->cells[k*E.n+j]? =some u)/\∀f∈E.fs z y,f.p w')->(∀f∈E.fs a y,f.p w')->
  (f=0\/f=E.n)->∀S,(pt c (.cells (cells++E.pat a y))).p w' S->(ap E (.slice (some ⟨c,0,some f⟩) (xs.length+1) (xs.length+1)) (xs++[a])).p w' S:=by
  intro w' c f cells h1 h2 h3 h4 S hp;refine .inr ⟨c,0,f,_,by rw[dL];rfl,h4,hp.1,hp.2,by rw[dL,dL,h1,hlen,qA,qx,zP,eB],λk z hk=>?_⟩;by_cases hlt:k<xs.length
  .exact cW
  .exact cM
 obtain⟨S,⟨S1,S2,q,q2,e1⟩,hnd,hown⟩:=nK.own;rcases q with⟨rfl,rfl,rfl⟩|⟨b,o,f,cells,rfl,hf,rfl,hb,hcl,hel⟩
 .have key:∀h',Agree w.h h'->At h' w.h.next (.cells (E.pat a y))->h'.next=w.h.next+1->∃w':Wd,w'.h=h'/\St B w0 (ap E (.slice (some ⟨w.h.next,0,some E.n⟩) (([]:ae α).length+1) (([]:ae α).length+1)) ([]++[a])::k2) F w':=λh' ag qK hnx=>by
   obtain⟨w',rfl,jw⟩:=nK.tail.fresh ag qK hnx;refine⟨w',rfl,?_⟩;have hle:∀f∈E.fs a y,f.p w':=λf hf=>jw.facts f (hF.mem f hf);exact jw.xB λS hp=>put w' _ E.n [] qe (λk z hk=>by cases hk) hle (.inr rfl) S hp
  refine ahs (c:=0) hn hg hs hx1 hx2 (by simpa using hm) (λh' ag qK hnx=>?_) λh' ag qK hnx=>?_
  .obtain⟨w',rfl,jw⟩:=key h' ag qK hnx;exact hsm _ w' jw
  .obtain⟨w',rfl,jw⟩:=key h' ag qK hnx;exact r _ w' jw
 .have xC:St B w0 (pt b (.cells cells)::k2) F w:=⟨nK.agree,nK.le,nK.eT,⟨S,⟨_,S2,⟨rfl,hb⟩,q2,e1⟩,hnd,hown⟩,nK.facts⟩
  have GG:At w.h b (.cells cells):=xC.at_ .here;have key:∀h',Ap w.h h' b (.cells (cells.drop o++E.pat a y))->∃w':Wd,w'.h=h'/\St B w0 (ap E (.slice (some ⟨w.h.next,0,some E.n⟩) (xs.length+1) (xs.length+1)) (xs++[a])::k2) F w':=λh' mv=>by
   obtain⟨w',rfl,jw,yT⟩:=xC.move mv;refine⟨w',rfl,jw.xB λS hp=>?_⟩;have hle:∀f∈E.fs a y,f.p w':=λf hf=>jw.facts f (hF.mem f hf);refine put w' _ E.n (cells.drop o) ri (λk z hk=>?_) hle (.inr rfl) S hp;obtain⟨y',u1,u2⟩:=hel k z hk;exact⟨y',λj u hj=>by rw[jR,<- kE];exact u1 j u hj,λf hf=>f.mono yT (u2 f hf)⟩
  refine ahr (old:=cells.drop o) (xs:=E.pat a y) hn hg hs hx1 hx2 ?_ (hf.elim (λe=>.inl (by rw[e])) λe=>.inr (by rw[e])) hm (λh' mv=>?_) λh' mv=>?_
  .have hdl:(cells.drop o).length=xs.length*E.n:=by rw[lm];omega
   rw[GG.c.iq,oH,pE,if_pos p0,<- hdl,eH]
  .obtain⟨w',rfl,jw⟩:=key h' mv;exact hsm _ w' jw
  .obtain⟨w',rfl,jw⟩:=key h' mv;exact r _ w' jw
end
section
variable {P:Program} {B:ae Nat} {w0:Wd} {kl kl' bi:ae OA} {F:ae aH} {K:KO} {n:Nat} {l:qr} {D:ae Deferred} {pm:aj FrameMode} {ro:aj Nat}
def Ww{re:ae iy}{α:Type}(E:Enc α){ds:ae Tmp}{rest:ae bJ}{d:Nat}{g:aj (Tmp×Bool)}{e:aB}{size bytes b':Nat}{s x:ak}{v:ah}{xs:ae α}(a:α)(y:E.Y){cs:ae ah}{k1 k2:ae OA}
 (hm:(xs.length+1)*bytes<=1073741824/\(xs.length+1)*size<=1073741824/\xs.length+1<=1073741824)
 (next:∀ad,R (λh=>aK P ds rest (act n ((d,.slice ad (xs.length+1) (xs.length+1))::l) D pm ro) h K) B w0 (ap E (.slice ad (xs.length+1) (xs.length+1)) (xs++[a])::k2) F)
 (hn:Nat.blt d n=true:=by rfl) (hg:bK l g=true:=by rfl)
 (hs:ev l s=v:=by conv=>lhs;whnf) (hx:ev l x=.slice (some ⟨b',0,some 0⟩) 1 1:=by rfl) (hk:aC (ap E v xs) kl k1:=by exact dK) (hc:aC (pt b' (.cells cs)) k1 k2:=by exact dK) (hp:cs=E.pat a y:=by rfl) (hF:Sub (E.fs a y) F:=by exact lI) (hz:E.n=size:=by rfl)
 (hsm:∀ad,Same P re (ev ((d,.slice ad (xs.length+1) (xs.length+1))::l)) ((d,.slice ad (xs.length+1) (xs.length+1))::l) B w0 (ap E (.slice ad (xs.length+1) (xs.length+1)) (xs++[a])::k2) F:=by intro _;repeat (first|exact Ef|refine Eg rfl dK qt rfl ?_|refine GH rfl gM qt rfl ?_|refine GI rfl gM qt rfl ?_|refine GJ rfl dK qt rfl ?_|refine GK rfl gM qt rfl ?_|refine GL rfl gM qt rfl ?_|refine Vu yb rfl ?_)):
 R (λh=>aK P ds (⟨⟨some d,g,.append e size bytes s x⟩,re⟩::rest) (act n l D pm ro) h K) B w0 kl F:=
 aht hn hg hs hx hk hc hp hF hz hm hsm next
end
variable {P:Program}
section
variable {α κ:Type} [DecidableEq κ] {aW:κ->ah} {E:Enc α}
def oO(E:Enc α):ae (κ×ah)->ae (κ×ae α)->ae OA
 |p::ay,q::m=>ap E p.2 q.2::oO E ay m
 |_,_=>[]
def uN(E:Enc α)(n:κ):ae (κ×ah)->ae (κ×ae α)->ae OA
 |p::ay,q::m=>if n=p.1 then oO E ay m else ap E p.2 q.2::uN E n ay m
 |_,_=>[]
def Hf(aW:κ->ah)(E:Enc α)(b:Nat)(m:ae (κ×ae α)):OA:=
 ⟨λw S=>∃ay:ae (κ×ah),ay.map (·.1)=m.map (·.1)/\fA w (fw aW b ay::oO E ay m) S,λa h ⟨ay,h1,h2⟩=>⟨ay,h1,fA.loc a h h2⟩⟩
def Wx(E:Enc α)(n:κ)(ay:ae (κ×ah))(m:ae (κ×ae α)):OA:=⟨λw S=>fA w (uN E n ay m) S,λa h hp=>fA.loc a h hp⟩
def Wy(E:Enc α)(ay:ae (κ×ah))(m:ae (κ×ae α)):OA:=⟨λw S=>fA w (oO E ay m) S,λa h hp=>fA.loc a h hp⟩
def Wz(E:Enc α)(ay:ae (κ×ah))(m:ae (κ×ae α)):aH:=
 ⟨λw=>∀n v xs,bZ n ay=some v->bZ n m=some xs->(aA E v xs).p w,λa h n v xs h1 h2=>(aA E v xs).mono a (h n v xs h1 h2)⟩
def Py{β γ:Type}{n:κ}:∀{ay:ae (κ×β)} {m:ae (κ×γ)},ay.map (·.1)=m.map (·.1)->(bZ n ay=none↔bZ n m=none)
 |[],[],_=>⟨λ_=>rfl,λ_=>rfl⟩
 |(a,u)::ay,(b,x)::m,h=>by
  rw[fK,fK]at h;injection h with h1 h2;have h1:a=b:=h1;subst h1;unfold bZ;by_cases e:n=a
  .rw[if_pos e,if_pos e];exact⟨λh=>(nomatch h),λh=>(nomatch h)⟩
  .rw[if_neg e,if_neg e];exact Py h2
 |[],_::_,h=>by cases h
 |_::_,[],h=>by cases h
def WA{n:κ}:∀{ay:ae (κ×ah)} {m:ae (κ×ae α)},bZ n ay=none->uN E n ay m=oO E ay m
 |[],_,_=>by unfold uN oO;rfl
 |_::_,[],_=>by unfold uN oO;rfl
 |(a,u)::ay,(b,x)::m,h=>by
  unfold bZ at h;by_cases e:n=a
  .rw[if_pos e]at h;cases h
  .rw[if_neg e]at h;unfold uN oO;rw[if_neg e,WA h]
def Pz{n:κ}{v:ah}{xs:ae α}:∀{ay:ae (κ×ah)} {m:ae (κ×ae α)},ay.map (·.1)=m.map (·.1)->bZ n ay=some v->bZ n m=some xs->aC (ap E v xs) (oO E ay m) (uN E n ay m)
 |[],_,_,h,_=>by cases h
 |_::_,[],h,_,_=>by cases h
 |(a,u)::ay,(b,x)::m,h,h1,h2=>by
  rw[fK,fK]at h;injection h with e1 e2;have e1:a=b:=e1;subst e1;unfold bZ at h1 h2;unfold oO uN;by_cases e:n=a
  .rw[if_pos e]at h1 h2⊢;cases h1;cases h2;exact .here
  .rw[if_neg e]at h1 h2⊢;exact .there (Pz e2 h1 h2)
def WB{n:κ}{v:ah}{xs:ae α}:∀{ay:ae (κ×ah)} {m:ae (κ×ae α)},ay.map (·.1)=m.map (·.1)->aC (ap E v xs) (oO E (upd n v ay) (upd n xs m)) (uN E n ay m)
 |[],[],_=>by unfold upd uN oO oO;exact .here
 |[],_::_,h=>by cases h
 |_::_,[],h=>by cases h
 |(a,u)::ay,(b,x)::m,h=>by
  rw[fK,fK]at h;injection h with e1 e2;have e1:a=b:=e1;subst e1;unfold upd uN;by_cases e:n=a
  .rw[if_pos e,if_pos e,if_pos e];rw[show oO E ((n,v)::ay) ((n,xs)::m)=ap E v xs::oO E ay m from rfl];exact .here
  .rw[if_neg e,if_neg e,if_neg e];rw[show oO E ((a,u)::upd n v ay) ((a,x)::upd n xs m)=ap E u x::oO E (upd n v ay) (upd n xs m)from rfl];exact .there (WB e2)
def Hg{β γ:Type}{n:κ}{v:β}{x:γ}:∀{ay:ae (κ×β)} {m:ae (κ×γ)},ay.map (·.1)=m.map (·.1)->(upd n v ay).map (·.1)=(upd n x m).map (·.1)
 |[],[],_=>rfl
 |[],_::_,h=>by cases h
 |_::_,[],h=>by cases h
 |(a,u)::ay,(b,y)::m,h=>by
  rw[fK,fK]at h;injection h with e1 e2;have e1:a=b:=e1;subst e1;unfold upd;by_cases e:n=a
  .rw[if_pos e,if_pos e,fK,fK,e2]
  .rw[if_neg e,if_neg e,fK,fK,Hg e2]
variable {B:ae Nat} {w0:Wd} {kl kl' bi k1 k2:ae OA} {F:ae aH} {Q:IH->Prop} {b:Nat} {m:ae (κ×ae α)}
def ahu(E:Enc α)(h:R Q B w0 (Hf aW E b ([]:ae (κ×ae α))::kl') F)(hk:aC (fw aW b []) kl kl':=by exact dK):R Q B w0 kl F:=
 .perm (λw S hS=>by
  obtain⟨S',⟨T1,T2,u1,u2,e⟩,hp⟩:=hS.fu hk;exact⟨S',⟨T1,T2,⟨[],rfl,T1,[],u1,rfl,qe⟩,u2,e⟩,hp⟩) h
def ahv(n:κ)(hk:aC (Hf aW E b m) kl kl':=by exact dK)
 (h:∀(ay:ae (κ×ah)) (v:ah),ay.map (·.1)=m.map (·.1)->jd false (.slice none 0 0) n ay=v->R Q B w0 (fw aW b ay::ap E v ((bZ n m).getD [])::Wx E n ay m::kl') F):R Q B w0 kl F:=λw s=>by
 obtain⟨S,⟨S1,S2,⟨ay,hkeys,T1,T2,u1,u2,e1⟩,q2,e⟩,hnd,hall⟩:=(s.fu hk).own;have key:∃T',fA w (ap E (jd false (.slice none 0 0) n ay) ((bZ n m).getD [])::uN E n ay m) T'/\T2.Perm T':=by
  cases hl:bZ n ay with
  |none=>
   have hm:=(Py (n:=n) hkeys).1 hl;have e1:jd false (.slice none 0 0) n ay=.slice none 0 0:=by unfold jd;rw[hl];rfl
   rw[e1,hm,WA hl];exact⟨T2,⟨[],T2,.inl ⟨rfl,rfl,rfl⟩,u2,rfl⟩,.refl _⟩
  |some v=>
   cases hm:bZ n m with
   |none=>rw[(Py (n:=n) hkeys).2 hm]at hl;cases hl
   |some xs=>
    have e1:jd false (.slice none 0 0) n ay=v:=by unfold jd;rw[hl];rfl
    rw[e1];exact u2.fu (Pz hkeys hl hm)
 obtain⟨T',⟨T3,T4,u3,u4,e3⟩,hp⟩:=key;subst e e1 e3;have hperm:((T1++T2)++S2).Perm (T1++(T3++(T4++S2))):=by
  rw[fq];refine List.Perm.append_left T1 ?_;rw[<- fq];exact List.Perm.append_right S2 hp
 exact h ay _ hkeys rfl w ⟨s.agree,s.le,s.eT,⟨_,⟨T1,_,u1,⟨T3,_,u3,⟨T4,S2,u4,q2,rfl⟩,rfl⟩,rfl⟩,hperm.nodup hnd,λi hi=>hall i (hperm.mem_iff.2 hi)⟩,s.facts⟩
def ahw(n:κ){ay:ae (κ×ah)}{v:ah}{xs:ae α}(hkeys:ay.map (·.1)=m.map (·.1))(h:R Q B w0 (Hf aW E b (upd n xs m)::bi) F)
 (h1:aC (fw aW b (upd n v ay)) kl k1:=by exact dK) (h2:aC (ap E v xs) k1 k2:=by exact dK) (h3:aC (Wx E n ay m) k2 bi:=by exact dK):R Q B w0 kl F:=
 .perm (λw S hS=>by
  obtain⟨S1,S2,q1,q2,hp⟩:=hS.kJ (.cons h1 (.cons h2 (.cons h3 .nil)));obtain⟨T1,U1,u1,⟨T2,U2,u2,⟨T3,U3,u3,u4,e3⟩,e2⟩,e1⟩:=q1;have u4:U3=[]:=u4;subst u4 e3 e2 e1;obtain⟨V,v1,v2⟩:=fA.Pf (WB (E:=E) (n:=n) (v:=v) (xs:=xs) hkeys) (S:=T2++T3) (w:=w) ⟨T2,T3,u2,u3,rfl⟩;refine⟨(T1++V)++S2,⟨T1++V,S2,⟨upd n v ay,Hg hkeys,⟨T1,V,u1,v1,rfl⟩⟩,q2,rfl⟩,hp.trans ?_⟩;exact mL) h
def ahx(h:∀ay:ae (κ×ah),ay.map (·.1)=m.map (·.1)->R Q B w0 (fw aW b ay::Wy E ay m::kl') F)(hk:aC (Hf aW E b m) kl kl':=by exact dK):R Q B w0 kl F:=λw s=>by
 obtain⟨S,⟨S1,S2,⟨ay,hkeys,T1,T2,u1,u2,e1⟩,q2,e⟩,hnd,hall⟩:=(s.fu hk).own;subst e e1;refine h ay hkeys w ⟨s.agree,s.le,s.eT,⟨T1++(T2++S2),⟨T1,_,u1,⟨T2,S2,u2,q2,rfl⟩,rfl⟩,?_,λi hi=>hall i ?_⟩,s.facts⟩
 .rw[<- fq];exact hnd
 .rw[fq];exact hi
def ahy{ay:ae (κ×ah)}(hkeys:ay.map (·.1)=m.map (·.1)):pM (Wy E ay m) [Wz E ay m]:=by
 intro w w' S hS hle hh hz f hf;rw[bF.1 hf];have hS:fA w (oO E ay m) S:=hS;clear hf;intro n v xs h1 h2;obtain⟨S',⟨T1,T2,u1,_,e⟩,hp⟩:=hS.fu (Pz hkeys h1 h2);subst e;exact jk w w' T1 u1 hle hh (λi hi=>hz i (hp.mem_iff.2 (jS _ hi))) _ (bF.2 rfl)
end
end Go.Ideal
namespace Go.Ideal
variable {P:Program} {B:ae Nat} {w0:Wd} {kl kl' bi:ae OA} {F:ae aH} {K:KO} {ds:ae Tmp} {rest:ae bJ} {n:Nat} {l:qr} {D:ae Deferred} {pm:aj FrameMode} {ro:aj Nat} {d:Nat} {g:aj (Tmp×Bool)}
def WC{α:Type}(E:Enc α){x i:ak}{v:ah}{xss:ae (ae α)}(k:Nat)(xs:ae α){kk:IntKind}{d2:Nat}{g2:aj (Tmp×Bool)}(hz:xss[k]? =some xs)
 (next:∀b o u,R (λh=>aK P ds rest (act n ((d2,u)::(d,.pointer (some ⟨b,o,none⟩))::l) D pm ro) h K) B w0 kl (aA E u xs::F))
 (hn:Nat.blt d n=true:=by rfl) (hg:bK l g=true:=by rfl) (hn2:Nat.blt d2 n=true:=by rfl) (hg2:∀u,bK ((d,u)::l) g2=true:=by intro _;rfl) (hx:ev l x=v:=by conv=>lhs;whnf) (hi:ev l i=.int kk (k:Int):=by rfl)
 (hk:aC (ap (az E) v xss) kl kl':=by exact dK):
 R (λh=>aK P ds (⟨⟨some d,g,.oz 1 x i⟩,[]⟩::⟨⟨some d2,g2,.gJ (.tmp d)⟩,[]⟩::rest) (act n l D pm ro) h K) B w0 kl F:=by
 intro w s;have s1:=s.fu hk;obtain⟨S,⟨S1,S2,p,p2,e⟩,h2,h3⟩:=s1.own;have hlt:=(aT.1 hz).1;rcases p with⟨h,_⟩|⟨b,o,f,cells,e1,hf,e2,hb,hcl,hel⟩
 .rw[h]at hz;cases hz
 .subst e1;obtain⟨y,u1,u2⟩:=hel k xs hz;have hc:cells[o+(k:Int).toNat*1]? =some y:=by
   have:=u1 0 y rfl;simpa[az]using this
  exact cU
end Go.Ideal
namespace Go.Ideal
variable {P:Program} {B:ae Nat} {w0:Wd} {kl kl' bi k1 k2:ae OA} {F:ae aH} {Q:IH->Prop}
section
variable {β:Type} (A:ah->β->OA)
def uO(vs:ae ah)(xss:ae β):ae OA:=(vs.zip xss).map λp=>A p.1 p.2
def oP(b:Nat)(xss:ae β):OA:=
 ⟨λw S=>∃vs:ae ah,vs.length=xss.length/\fA w (pt b (.cells vs)::uO A vs xss) S,λa h ⟨vs,h1,h2⟩=>⟨vs,h1,fA.loc a h h2⟩⟩
def WE(vs:ae ah)(xss:ae β)(k:Nat):OA:=
 ⟨λw S=>fA w ((uO A vs xss).eraseIdx k) S,λa h hp=>fA.loc a h hp⟩
variable{xss:ae β}{k:Nat}{vs:ae ah}{v:ah}{xs:β}
def WG(hv:vs[k]? =some v)(hx:xss[k]? =some xs):(uO A vs xss)[k]? =some (A v xs):=by
 simp[uO,List.zip,bU,List.getElem?_zipWith,hv,hx]
variable{b:Nat}
def WH(hx:xss[k]? =some xs)(hk:aC (oP A b xss) kl kl':=by exact dK)
 (h:∀(vs:ae ah) (v:ah),vs.length=xss.length->vs[k]? =some v->R Q B w0 (pt b (.cells vs)::A v xs::WE A vs xss k::kl') F):R Q B w0 kl F:=λw s=>by
 obtain⟨S,⟨S1,S2,⟨vs,h1,h2⟩,q2,e⟩,hnd,hall⟩:=(s.fu hk).own;subst e;have hlt:=(aT.1 hx).1;have hv:vs[k]? =some (vs[k]'(p0)):=bH p0;refine h vs _ h1 hv w ?_;have hg:(uO A vs xss)[k]? =some (A (vs[k]'(p0)) xs):=WG A hv hx;obtain⟨T1,T2,u1,u2,e⟩:=h2;obtain⟨T3,⟨T4,T5,u4,u5,e5⟩,u6⟩:=u2.fu (aC.at hg);subst e5 e;have hperm:((T1++T2)++S2).Perm (T1++(T4++(T5++S2))):=by
  rw[fq];refine List.Perm.append_left T1 ?_;rw[<- fq];exact List.Perm.append_right S2 u6
 exact⟨s.agree,s.le,s.eT,⟨T1++(T4++(T5++S2)),⟨T1,_,u1,⟨T4,_,u4,⟨T5,S2,u5,q2,rfl⟩,rfl⟩,rfl⟩,hperm.nodup hnd,λi hi=>hall i (hperm.mem_iff.2 hi)⟩,s.facts⟩
def ahz:uO A (vs.set k v) (xss.set k xs)=(uO A vs xss).set k (A v xs):=by
 apply iK;intro j;simp only[uO,bU,ow,List.zip,List.getElem?_zipWith];by_cases e:k=j
 .subst e;by_cases h1:k<vs.length
  .by_cases h2:k<xss.length
   .simp[h1,h2];omega
   .simp[h1,h2];omega
  .simp[h1];omega
 .simp[e]
def WI{xs:β}(hlen:vs.length=xss.length)(hk:k<xss.length)(h1:aC (pt b (.cells (vs.set k v))) kl k1:=by exact dK)
 (h2:aC (A v xs) k1 k2:=by exact dK) (h3:aC (WE A vs xss k) k2 bi:=by exact dK) (h:R Q B w0 (oP A b (xss.set k xs)::bi) F):R Q B w0 kl F:=
 .perm (λw S hS=>by
  obtain⟨S1,S2,q1,q2,hp⟩:=hS.kJ (.cons h1 (.cons h2 (.cons h3 .nil)));obtain⟨T1,U1,u1,⟨T2,U2,u2,⟨T3,U3,u3,u4,e3⟩,e2⟩,e1⟩:=q1;have u4:U3=[]:=u4;subst u4 e3 e2 e1;have hl:((uO A vs xss).set k (A v xs))[k]? =some (A v xs):=by
   rw[ow,if_pos rfl,if_pos (by simp[uO];omega)]
  obtain⟨V,v1,v2⟩:=fA.Pf (aC.at hl) (S:=T2++T3) (w:=w) ⟨T2,T3,u2,by rw[VH];exact u3,rfl⟩;refine⟨(T1++V)++S2,⟨T1++V,S2,⟨vs.set k v,by simp[hlen],⟨T1,V,u1,by rw[ahz];exact v1,rfl⟩⟩,q2,rfl⟩,hp.trans ?_⟩;exact mL) h
def ahA{m:Nat}{v0:ah}{x0:β}(h0:∀w,(A v0 x0).p w [])(hk:aC (pt b (.cells (List.replicate m v0))) kl kl':=by exact dK)(h:R Q B w0 (oP A b (List.replicate m x0)::kl') F):R Q B w0 kl F:=
 .perm (λw S hS=>by
  obtain⟨S',⟨T1,T2,u1,u2,e⟩,hp⟩:=hS.fu hk;refine⟨S',⟨T1,T2,⟨List.replicate m v0,qe,⟨T1,[],u1,?_,qe⟩⟩,u2,e⟩,hp⟩;have:∀m,fA w (uO A (List.replicate m v0) (List.replicate m x0)) []:=by
   intro m;induction m with
   |zero=>rfl
   |succ m ih=>exact⟨[],[],h0 w,ih,rfl⟩
  exact this m) h
def ahB{E:Enc β}{c:Nat}(fv:ah->E.Y)(hn:E.n=1)(hpat:∀x v,E.pat x (fv v)=[v])(hA:∀v xs,pM (A v xs) (E.fs xs (fv v)))(hc:xss.length<=c:=by first|exact bz _|omega):pM (oP A b xss) [aA E (.slice (some ⟨b,0,some 0⟩) xss.length c) xss]:=by
 intro w w' S ⟨vs,hlen,T1,T2,⟨h1,h2⟩,u2,e⟩ hle hh hz f hf;subst e;rw[bF.1 hf];refine .inr ⟨b,0,0,c,vs,⟨rfl,hc,.inl rfl⟩,⟨hz b tr,.inl sn⟩,λk xs hk=>?_⟩;have hlt:=(aT.1 hk).1;have hv:vs[k]? =some (vs[k]'(p0)):=bH p0;have hg:(uO A vs xss)[k]? =some (A (vs[k]'(p0)) xs):=WG A hv hk;obtain⟨T3,⟨T4,T5,u4,u5,e5⟩,u6⟩:=u2.fu (aC.at hg);subst e5;refine⟨fv (vs[k]'(p0)),λj u hj=>?_,λg hgm=>?_⟩
 .rw[hpat]at hj;match j,hj with
  |0,hj=>
   cases hj;show vs[0+k*E.n+0]? =_;rw[hn];simp
 .exact hA _ _ w w' T4 u4 hle hh (λi hi=>hz i (ou _ (u6.mem_iff.2 (jS _ hi)))) g hgm
end
def KP{α:Type}(v:ah)(xs:ae α):aH:=⟨λ_=>xs=[]->v=.slice none 0 0,λ_ h=>h⟩
def l8{α:Type}(E:Enc α)(v:ah)(xs:ae α):OA:=⟨λw S=>(ap E v xs).p w S/\(xs=[]->v=.slice none 0 0),λa h hp=>⟨(ap E v xs).loc a h hp.1,hp.2⟩⟩
def uP{α:Type}(E:Enc α):Enc (ae α):=⟨1,ah,λ_ v=>[v],λxs v=>[aA E v xs,KP v xs],λ_ _=>rfl⟩
variable{α:Type}{v:ah}
def ahC{E:Enc α}{xs:ae α}:pM (l8 E v xs) [aA E v xs,KP v xs]:=by
 intro w w' S hp hle hh hz f hf;rcases bN.1 hf with rfl|hf
 .exact jk w w' S hp.1 hle hh hz _ (bF.2 rfl)
 .rw[bF.1 hf];exact hp.2
def WJ(E:Enc α)(v:ah)(xs:ae α)(h:(xs=[]->v=.slice none 0 0)->R Q B w0 (ap E v xs::kl') F)(hk:aC (l8 E v xs) kl kl':=by exact dK):R Q B w0 kl F:=λw s=>by
 obtain⟨S,⟨S1,S2,q1,q2,e⟩,h2,h3⟩:=(s.fu hk).own;exact h q1.2 w ⟨s.agree,s.le,s.eT,⟨S,⟨S1,S2,q1.1,q2,e⟩,h2,h3⟩,s.facts⟩
def WK(E:Enc α)(v:ah)(xs:ae α)(hz:xs=[]->v=.slice none 0 0)(h:R Q B w0 (l8 E v xs::kl') F)(hk:aC (ap E v xs) kl kl':=by exact dK):R Q B w0 kl F:=λw s=>
 h w ((s.fu hk).yS (A:=ap E v xs) λw S hp=>⟨hp,hz⟩)
variable{w:Wd}
def WL{E:Enc α}{xss:ae (ae α)}(h:(aA (uP E) v xss).p w):(aA (az E) v xss).p w:=by
 rcases h with h|⟨i,o,f,c,cells,h1,h2,h3⟩
 .exact .inl h
 .refine .inr ⟨i,o,f,c,cells,h1,h2,λk x hk=>?_⟩;obtain⟨y,q1,q2⟩:=h3 k x hk;exact⟨y,q1,λf hf=>q2 f (by rw[bF.1 hf];exact dP ..)⟩
def Cy{A A':OA}(e:A=A')(h:R Q B w0 (A'::kl') F)(hk:aC A kl kl':=by exact dK):R Q B w0 kl F:=by
 subst e;exact λw s=>h w (s.fu hk)
def St.WM{E:Enc α}{aJ:ae (α×E.Y)}(h0:0<aJ.length)(hall:(yZ E aJ).p w)(s:St B w0 (ar E v aJ::kl') F w):St B w0 (ap E v (aJ.map (·.1))::kl') F w:=by
 obtain⟨S,⟨S1,S2,q1,q2,e⟩,h2,h3⟩:=s.own;refine⟨s.agree,s.le,s.eT,⟨S,⟨S1,S2,?_,q2,e⟩,h2,h3⟩,s.facts⟩;rcases q1 with⟨h4,_⟩|⟨b,f,h4,h5,h6,h7⟩
 .rw[h4]at h0;simp at h0
 .refine .inr ⟨b,0,f,_,by rw[aS];exact h4,h5,h6,h7,by rw[Et,aS,eB],λk x hk=>?_⟩;rw[bU]at hk;cases hp:aJ[k]? with
  |none=>rw[hp]at hk;cases hk
  |some p=>
   rw[hp]at hk;cases hk;exact⟨p.2,λj u hj=>by rw[eB];exact AQ hp hj,λf hf=>hall p (aV hp) f hf⟩
def ahD{E:Enc α}{aJ:ae (α×E.Y)}(h0:0<aJ.length)(h:R Q B w0 (ap E v (aJ.map (·.1))::kl') F)(hfs:∀w,(∀f∈F,f.p w)->(yZ E aJ).p w)(hk:aC (ar E v aJ) kl kl':=by exact dK):R Q B w0 kl F:=λw s=>
 h w (St.WM h0 (hfs w s.facts) (s.fu hk))
end Go.Ideal
namespace Go.Ideal
variable {P:Program}
def PD{α:Type}(P:Program)(vals:α->ae ah)(fe:α->ae aH)(fn:Fn)(first cap:ae ah)(F:ae aH)(X:ae α->Prop):Prop:=
 ∀(S:Type) (inv:S->ae OA) (ok:ae α->S->Prop) (step:S->α->S×Bool) (s0:S) (xG:Fn) (y1 y2:ae ah) (F':ae aH),ok [] s0->
  (∀vs s x rest,ok vs s->X (vs++x::rest)->(step s x).2=true->ok (vs++[x]) (step s x).1)->
  (∀vs s x rest,ok vs s->X (vs++x::rest)->bA P xG (y1++vals x) y2 (inv s) (fe x++F') (λ_:Unit=>.bool (step s x).2) (λ_=>inv (step s x).1) (λ_=>[]) (λ_=>True))->
  bA P fn (first++[.func xG ⟨y1⟩ ⟨y2⟩]) cap (inv s0) (F++F') (λ_:ae α=>.tuple ⟨[]⟩) (λxs=>inv (iG step s0 xs)) (λ_=>[]) X
def bA.facts{Y:Type}{fn:Fn}{args cap:ae ah}{kl:ae OA}{F F2:ae aH}{val:Y->ah}{kl':Y->ae OA}{fs:Y->ae aH}{pr:Y->Prop}(h:bA P fn args cap kl F val kl' fs pr)(hF:∀f∈F,f∈F2):bA P fn args cap kl F2 val kl' fs pr:=
 λB w s=>h B w ⟨s.agree,s.le,s.eT,s.own,λf hf=>s.facts f (hF f hf)⟩
section
variable {B:ae Nat} {w0:Wd} {kl kl' bi:ae OA} {F:ae aH} {K:KO} {n:Nat} {l:qr} {D:ae Deferred} {pm:aj FrameMode} {ro:aj Nat}
variable{S α Z:Type}{ps:ae Tmp}{assign body:cK}{fn:Fn}{first captured:ae ah}{F1:ae aH}
def ahE{f:ak}{vals:α->ae ah}{fe:α->ae aH}{X:ae α->Prop}(step:S->α->S×Out)(inv:S->ae OA)(ok:ae α->S->Prop)(s0:S)(h0:ok [] s0)
 (hok:∀vs s x rest,ok vs s->X (vs++x::rest)->(step s x).2=.normal->ok (vs++[x]) (step s x).1) (hit:PD P vals fe fn first captured F1 X)
 (hf:ev l f=.func fn ⟨first⟩ ⟨captured⟩) (hps:ps.all (λp=>Nat.blt p n)=true) (hlen:∀x,ps.length=(vals x).length) (hk:aM (inv s0) kl bi) (hF:Sub F1 F) (jv:∀s x,Ck (step s x).2)
 (l3:α->Z->qr) (k3:α->Z->ae OA)
 (ha:∀(s:S) (x:α) (lo:Nat) (o:bG) B w0,R (λh=>EV P assign (act n ((ps.zip (vals x)).reverse++l) [] none (some lo)) h (Er B w0 n (l3 x) lo o (λz=>k3 x z++inv s) (fe x++F))) B w0 (pt lo o::inv s) (fe x++F))
 (hb:∀(vs:ae α) (s:S) (x:α) (rest:ae α) (z:Z) (lo:Nat) (L:oC) B w0,ok vs s->X (vs++x::rest)->R (λh=>EV P body (act n (l3 x z) [] none (some lo)) h (Cm B w0 lo L (λ_:Unit=>(step s x).2) (λ_=>inv (step s x).1) (λ_=>[]) (λ_=>True))) B w0 (pt lo (.loop (xE L))::(k3 x z++inv s)) (fe x++F))
 (next:∀r xs,X xs->R (λh=>K (jF step s0 xs).2 (act n l ({target:=.collected r,args:= #[]}::D) pm none) h) B w0 (inv (jF step s0 xs).1++(pt r (.iU true)::bi)) F):
 R (λh=>EV P (.rangeFunc f ps assign body) (act n l D pm none) h K) B w0 kl F:=by
 refine VF (Y:=ae α) (k1:=inv s0) (F1:=F1++F) (Ku:=λ_=>.tuple ⟨[]⟩) (out:=λxs=>(jF step s0 xs).2) (k1':=λxs=>inv (jF step s0 xs).1) (fs:=λ_=>[]) (pr:=X) hf ?_ hk (hF.app (Sub.refl' F [])) (λr y hy=>next r y hy);intro lo r;have:=hit (S×Out) (λso=>pt lo (.loop (mO ⟨.ready,none,iw l,n,ps,assign,body,r⟩ so.2))::inv so.1) (λvs so=>so.2=.normal/\ok vs so.1) (λso x=>(step so.1 x,nL (step so.1 x).2)) (s0,.normal) (.yield lo) [] [] F ⟨rfl,h0⟩
  (λvs so x rest ho hx h=>by
    exact eE)
  (λvs so x rest ho hx=>by
    exact cJ)
 have e:(λxs:ae α=>pt lo (.loop (mO ⟨.ready,none,iw l,n,ps,assign,body,r⟩ (iG (λ(so:S×Out) x=>(step so.1 x,nL (step so.1 x).2)) (s0,.normal) xs).2))::inv (iG (λ(so:S×Out) x=>(step so.1 x,nL (step so.1 x).2)) (s0,.normal) xs).1)=λxs=>pt lo (.loop (mO ⟨.ready,none,iw l,n,ps,assign,body,r⟩ (jF step s0 xs).2))::inv (jF step s0 xs).1:=by
  funext xs
  rw[Pe]
 have h2:bA P fn (first++[.func (.yield lo) ⟨[]⟩ ⟨[]⟩]) captured (pt lo (.loop ⟨.ready,none,iw l,n,ps,assign,body,r⟩)::inv s0) (F1++F) (λ_:ae α=>.tuple ⟨[]⟩) (λxs=>pt lo (.loop (mO ⟨.ready,none,iw l,n,ps,assign,body,r⟩ (iG (λ(so:S×Out) x=>(step so.1 x,nL (step so.1 x).2)) (s0,.normal) xs).2))::inv (iG (λ(so:S×Out) x=>(step so.1 x,nL (step so.1 x).2)) (s0,.normal) xs).1) (λ_=>[]) X:=this;rw[e]at h2;exact h2
def ahF{f:ak}{vals:α->ae ah}{fe:α->ae aH}{X:ae α->Prop}(step:S->α->S×Out)(inv:S->ae OA)(ok:ae α->S->Prop)(s0:S)(l3:α->Z->qr)(k3:α->Z->ae OA)(h0:ok [] s0)
 (hok:∀vs s x rest,ok vs s->X (vs++x::rest)->(step s x).2=.normal->ok (vs++[x]) (step s x).1) (hit:PD P vals fe fn first captured F1 X)
 (ha:∀(s:S) (x:α) (lo:Nat) (o:bG) B w0,R (λh=>EV P assign (act n ((ps.zip (vals x)).reverse++l) [] none (some lo)) h (Er B w0 n (l3 x) lo o (λz=>k3 x z++inv s) (fe x++F))) B w0 (pt lo o::inv s) (fe x++F))
 (hb:∀(vs:ae α) (s:S) (x:α) (rest:ae α) (z:Z) (lo:Nat) (L:oC) B w0,ok vs s->X (vs++x::rest)->R (λh=>EV P body (act n (l3 x z) [] none (some lo)) h (Cm B w0 lo L (λ_:Unit=>(step s x).2) (λ_=>inv (step s x).1) (λ_=>[]) (λ_=>True))) B w0 (pt lo (.loop (xE L))::(k3 x z++inv s)) (fe x++F))
 (next:∀r xs,X xs->R (λh=>K (jF step s0 xs).2 (act n l ({target:=.collected r,args:= #[]}::D) pm none) h) B w0 (inv (jF step s0 xs).1++(pt r (.iU true)::bi)) F)
 (jv:∀s x,Ck (step s x).2)
 (hf:ev l f=.func fn ⟨first⟩ ⟨captured⟩:=by rfl) (hps:ps.all (λp=>Nat.blt p n)=true:=by rfl) (hlen:∀x,ps.length=(vals x).length:=by intro _;rfl)
 (hk:aM (inv s0) kl bi:=by exact l6) (hF:Sub F1 F:=by exact lI):
 R (λh=>EV P (.rangeFunc f ps assign body) (act n l D pm none) h K) B w0 kl F:=
 ahE step inv ok s0 h0 hok hit hf hps hlen hk hF jv l3 k3 ha hb next
end
section
variable {B:ae Nat} {w0:Wd} {kl:ae OA} {F:ae aH}
end
end Go.Ideal
namespace Go.Ideal
variable {P:Program} {B:ae Nat} {w0:Wd} {kl kl' bi:ae OA} {F:ae aH} {K:KO} {ds:ae Tmp} {rest:ae bJ} {n:Nat} {l:qr} {D:ae Deferred} {pm:aj FrameMode} {ro:aj Nat} {d:Nat} {g:aj (Tmp×Bool)}
def PE{cs1 cs2 xs:ae ah}(h:xs.length<=cs2.length):iZ (cs1++cs2) cs1.length xs=some (cs1++(xs++cs2.drop xs.length)):=by
 obtain⟨r,hr⟩:=AP (cs1++cs2) cs1.length xs (by rw[dL];omega);obtain⟨h1,h2,h3⟩:=Ab hr;rw[hr];congr 1;apply iK;intro j;rw[h3 j];by_cases c1:j<cs1.length
 .rw[if_neg p0,iY c1,iY c1]
 .by_cases c2:j<cs1.length+xs.length
  .rw[if_pos ⟨p0,c2⟩,jm p0,iY p0]
  .rw[if_neg p0,jm p0,jm p0,jm p0,jR];congr 1;omega
end Go.Ideal
namespace Go.Ideal
open Go.RowKit Go.WideShapes Go.ChangeShapes
variable {P:Program}
def uQ(P:Program)(n:Nat):Lay:=(List.range n).map λg=>(some ⟨g,0,0,Jm P g,0⟩,none)
variable{n:Nat}
def WN{i:Nat}(h:i<n):(uQ P n)[i]? =some (some ⟨i,0,0,Jm P i,0⟩,none):=by
 unfold uQ;rw[bU,qw h];rfl
def ahG(n:Nat):(uQ P n).length=n:=by unfold uQ;rw[aS,nP]
def ahH(sW:P.follows .mixedOrders=true){f:eD}(fn:Func)(hfn:P.funcs[f]? =some fn)(hbody:fn.body.isNone=false)(hname:(fn.name== "runtime.NumGoroutine")=false){args args':ae ah}{L:Lay}{w:World}{v:ah}(ahI:GOK P (jX L))
 (hL:∀(i:Nat) g cs,L[i]? =some (some g,some cs)->Ed L w g cs) (hargs:aQ (jX L) args args') (hv:bR v=true)
 (hc:CALL P ⟨.func f,args,[],none⟩ (kU L) (λr pm h'=>pm=none/\r=.ok v/\Agree (kU L) h')):
 Calls P f ⟨args'⟩ w (λe w'=>e=.returned v/\Below w.heap.size w w'):=by
 have hM:=UM sW hc;have hW:WR P (jX L) (kU L) w:=afJ hL;obtain⟨nx,F0,n1,n2,n3⟩:=hM (jX L) w (.func f) args' [] ahI hW (.func f) hargs .nil;have hnx:nx=.enter f ⟨args'⟩:=by
  have hcall:(callFunc f ⟨args'⟩).run P w=.ok (.enter f ⟨args'⟩) w:=by
   simp only[callFunc,dm,run_program,dB,hfn,hname,hbody,uh,if_false,ed]
  have e:(⟨args'⟩:Array ah)++(⟨[]⟩:Array ah)=⟨args'⟩:=sL
  have n1:(invoke (.fn (.func f) ⟨[]⟩) ⟨args'⟩).run P w=.ok nx w:=n1;simp only[invoke,e]at n1;rw[hcall]at n1;cases n1;rfl
 subst hnx;have yU:F0=Frame.enter P f ⟨args'⟩ .normal:=by
  have:entry P .normal (.enter f ⟨args'⟩)=some (Frame.enter P f ⟨args'⟩ .normal):=rfl;have n2:entry P .normal (.enter f ⟨args'⟩)=some F0:=n2;rw[this]at n2;exact(Option.some.inj n2).symm
 subst yU;intro cs;obtain⟨r,pm',h',β',w',r',cs1,q1,q2,q3,q4,q5,q6⟩:=n3 cs (by intro m hm;cases hm);obtain⟨hp,rfl,hag⟩:=q1;cases q5;cases q4 with
 | @ok v v' nW=>
   have:=nW.pF hv;subst this;rcases q6 with⟨f1,a1,F1,e1,e2,e3,e4,e5⟩|⟨⟨_,l,e1⟩,_⟩
   .cases e1;refine⟨.returned v',w',F1,⟨rfl,?_⟩,e2,e3,?_⟩
    .refine⟨q3.os,q3.tape,q3.output,q3.size,λk hk=>?_⟩;by_cases hx:∀i g,jX L i=some g->(kU L).get i≠none->g.b≠k
     .exact q3.keep k hk hx
     .have hx:∃i g,jX L i=some g/\(kU L).get i≠none/\g.b=k:=by
       exact lj
      obtain⟨i,g,hi,hg,rfl⟩:=hx;have hin:=hW.dom i g hi;exact q3.sU i g (by rw[hag.low (bz _)];exact hin) hin hi hg hk
    .exact n9
   .cases e1
section
variable {H:Type} {enc:aB×ah->H} {W:World}
def WO(sW:P.follows .mixedOrders=true){f:eD}(fn:Func)(hfn:P.funcs[f]? =some fn)(hbody:fn.body.isNone=false)(hname:(fn.name== "runtime.NumGoroutine")=false){K:aB->Prop}
 (hK:∀t,K t->PlainT P K t) {ts:ae aB} {vs:ae ah} {ds:ae (DataW H)} {ps:ae MemPlace} (hT:∀t∈ts,K t) (hok:∀(j:Nat) t v,ts[j]? =some t->vs[j]? =some v->Value.okWide P W .any 0 t v)
 (hA:DataW.TrodAll enc P W 0 (λ_=>true) true ts vs ds ps)
 (ahJ:∀(w:Wd) (vs':ae ah),P.globals.size<=w.h.next->(∀i,i<w.h.next->w.z i)->vs'.length=vs.length->(∀(j:Nat) t v d,ts[j]? =some t->vs'[j]? =some v->ds[j]? =some d->xD P w t v d)->∃F,(∀f∈F,f.p w)/\eU P f vs' F (.bool true)):
 Calls P f ⟨vs⟩ W (λe w'=>e=.returned (.bool true)/\Below W.heap.size W w'):=by
 obtain⟨M,vs',h1,h2,h3⟩:=Vi hK hT hok hA (uQ P P.globals.size);have hlG:=ahG (P:=P) P.globals.size;refine ahH sW fn hfn hbody hname (L:=uQ P P.globals.size++M) (args:=vs') (λg hg=>⟨⟨g,0,0,Jm P g,0⟩,?_,rfl,rfl,rfl⟩) (λi g cs hi=>?_) h1 rfl ?_
 .unfold jX;rw[iY p0,WN hg];rfl
 .by_cases hlt:i<P.globals.size
  .rw[iY p0,WN hlt]at hi;cases hi
  .exact h3 i g cs p0 hi
 have hlen:vs'.length=vs.length:=by
  have:∀{a b:ae ah},aQ (jX (uQ P P.globals.size++M)) a b->a.length=b.length:=by
   intro a;induction a with
   |nil=>intro b h;cases h;rfl
   |cons x a ih=>intro b h;cases h with|cons q r=>simp[ih r]
  exact this h1
 obtain⟨F,hF,hfn'⟩:=ahJ (Kq (uQ P P.globals.size++M)) vs' (by show _<=(uQ P P.globals.size++M).length;rw[dL];omega) (λi hi=>hi) hlen (λj t v d ht hv hd=>by
  obtain⟨v0,e,nW⟩:=agU (ts:=ts) h1 j v hv;exact agT rfl (h2 j t v d ht hv hd) nW (hok j t v0 ht e))
 have st:St [] (Kq (uQ P P.globals.size++M)) [] F (Kq (uQ P P.globals.size++M)):=⟨⟨bz _,λ_ _ _=>rfl,λ_ _=>rfl⟩,Wd.Le.refl _,λi _ hz=>.inl hz,⟨[],rfl,wW,λi hi=>by cases hi⟩,hF⟩
 refine .ji _ (hfn' [] (Kq (uQ P P.globals.size++M)) st) ?_;rintro r pm h' ⟨rfl,w',y,rfl,s,rfl,_⟩;exact⟨rfl,rfl,⟨s.agree.next,λi hi=>s.agree.get i hi qe,λhl=>s.agree.low hl qe⟩⟩
end
def Hl(n:Nat):aH:=⟨λw=>n<=w.h.next,λa h=>mh h a.next⟩
def ahK{f:eD}{v:ah}(hs:∀h:IH,n<=h.next->CALL P ⟨.func f,[],[],none⟩ h (λr pm h'=>pm=none/\r=.ok v/\h'=h)):eU P f [] [Hl n] v:=λB w s=>
 .ji _ (hs w.h (s.facts (Hl n) (bF.2 rfl))) (by rintro r pm h' ⟨rfl,rfl,rfl⟩;exact⟨rfl,w,(),rfl,⟨s.agree,s.le,s.eT,s.own,λf h=>by cases h⟩,rfl,trivial⟩)
end Go.Ideal
namespace Go.Ideal
variable {P:Program}
def PG:ah->Bool
 | .tuple ⟨c::cs⟩=>bR c&&cs.all bR
 | .tuple _=>false
 |v=>bR v
def aQ.WQ{β:aD}:∀{l:ae ah},l.all bR=true->aQ β l l
 |[],_=>.nil
 |v::l,h=>by
  rw[Di,dG]at h;exact .cons (VR.free h.1) (aQ.WQ h.2)
def aQ.PI{β:aD}:∀{l l':ae ah},aQ β l l'->l.all bR=true->l'=l
 |_,_,.nil,_=>rfl
 |_,_,.cons h1 h2,h=>by
  rw[Di,dG]at h;rw[h1.pF h.1,aQ.PI h2 h.2]
def VR.ahL{β:aD}{v:ah}(h:PG v=true):VR β v v:=by
 unfold PG at h;split at h
 .rename_i c cs;exact .tuple (aQ.WQ (by rw[Di];exact h))
 .cases h
 .exact VR.free h

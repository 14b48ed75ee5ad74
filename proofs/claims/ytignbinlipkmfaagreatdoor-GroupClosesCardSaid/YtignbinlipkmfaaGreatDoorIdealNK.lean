/- Part. -/
import Derived.Test.YtignbinlipkmfaaGreatDoorIdealKK
import Derived.Sort.Row
import Derived.Sort.Grow
import Derived.Laws.StructEq
set_option linter.all false
namespace Go.Ideal
variable {P:Program}
def BG{Y:Type}(B:ae Nat)(w0:Wd)(ret:Y->ji)(kl':Y->ae OA)(fs:Y->ae aP)(pr:Y->Prop):KR:=λr pm h'=>
 pm=none/\∃(w':Wd) (y:Y),w'.h=h'/\St B w0 (kl' y) (fs y) w'/\r=ret y/\pr y
def rV{Y:Type}(P:Program)(fn:Fn)(args cap:ae ah)(kl:ae OA)(F:ae aP)(ret:Y->ji)(kl':Y->ae OA)(fs:Y->ae aP)(pr:Y->Prop):Prop:=
 ∀(B:ae Nat) (w:Wd),St B w kl F w->CALL P ⟨fn,args,cap,none⟩ w.h (BG B w ret kl' fs pr)
variable{args cap:ae ah}{Y:Type}{kl:ae OA}{F:ae aP}
def rV.toC{fn:Fn}{ret:Y->ji}{kl':Y->ae OA}{fs:Y->ae aP}{pr:Y->Prop}(val:Y->ah)(h:rV P fn args cap kl F ret kl' fs pr)
 (hv:∀y,pr y->ret y=.ok (val y)):cK P fn args cap kl F val kl' fs pr:=λB w s=>by
 refine .kv _ (h B w s) ?_;rintro r pm h' ⟨e,w',y,e1,st,er,hp⟩;exact⟨e,w',y,e1,st,er.trans (hv y hp),hp⟩
def OQ{Y:Type}(B:ae Nat)(w0:Wd)(ret:Y->ji)(md:Y->FrameMode)(kl':Y->ae OA)(fs:Y->ae aP)(pr:Y->Prop):KR:=λr pm h'=>
 ∃(w':Wd) (y:Y),pm=some (md y)/\w'.h=h'/\St B w0 (kl' y) (fs y) w'/\r=ret y/\pr y
def JW{Y:Type}(P:Program)(fn:Fn)(args cap:ae ah)(m:FrameMode)(kl:ae OA)(F:ae aP)(ret:Y->ji)(md:Y->FrameMode)(kl':Y->ae OA)(fs:Y->ae aP)(pr:Y->Prop):Prop:=
 ∀(B:ae Nat) (w:Wd),St B w kl F w->CALL P ⟨fn,args,cap,some m⟩ w.h (OQ B w ret md kl' fs pr)
variable{f:iI}{c:dA}{m:Nat}{l0:qr}
def UN{K:KR}{pm:ak FrameMode}(cf:iF)(hF:(mg P rG rH).F f=some cf)(h1:cf.body=c)(h2:rE cf.ntmps (je (args++cap))=m)(h3:rQ 0 (args++cap) []=l0){h:IH}
 (hb:EV P c (act m l0 [] pm none) h (tC P cf K)):CALL P ⟨.func f,args,cap,pm⟩ h K:=by
 obtain⟨fn,e1,e2⟩:=(rP P rG rH (λf q h v h' hm=>by cases hm)).fn f cf hF;refine Ud cf fn e1 e2 ?_;rw[OC,h1,h2,h3];exact hb
def Aa{ret:Y->ji}{kl':Y->ae OA}{fs:Y->ae aP}{pr:Y->Prop}(cf:iF)(hF:(mg P rG rH).F f=some cf)
 (hb:∀B w0,R (λh=>EV P c (act m l0 [] none none) h (tC P cf (BG B w0 ret kl' fs pr))) B w0 kl F)
 (h1:cf.body=c:=by conv=>lhs;(reduce;(try simp only[Int.reduceOfNat,Int.reduceNegSucc]))) (h2:rE cf.ntmps (je (args++cap))=m:=by conv=>lhs;whnf) (h3:rQ 0 (args++cap) []=l0:=by dsimp only[rQ,Nat.reduceAdd,List.append_nil,List.cons_append,List.nil_append]):rV P (.func f) args cap kl F ret kl' fs pr:=
 λB w s=>UN cf hF h1 h2 h3 (hb B w w s)
def UO{pm:FrameMode}{ret:Y->ji}{md:Y->FrameMode}{kl':Y->ae OA}{fs:Y->ae aP}{pr:Y->Prop}(cf:iF)(hF:(mg P rG rH).F f=some cf)
 (hb:∀B w0,R (λh=>EV P c (act m l0 [] (some pm) none) h (tC P cf (OQ B w0 ret md kl' fs pr))) B w0 kl F)
 (h1:cf.body=c:=by conv=>lhs;(reduce;(try simp only[Int.reduceOfNat,Int.reduceNegSucc]))) (h2:rE cf.ntmps (je (args++cap))=m:=by conv=>lhs;whnf) (h3:rQ 0 (args++cap) []=l0:=by dsimp only[rQ,Nat.reduceAdd,List.append_nil,List.cons_append,List.nil_append]):JW P (.func f) args cap pm kl F ret md kl' fs pr:=
 λB w s=>UN cf hF h1 h2 h3 (hb B w w s)
section
variable {B:ae Nat} {w0:Wd} {kl kl' bD:ae OA} {F:ae aP} {K:KO} {ds:ae Tmp} {rest:ae bY} {n:Nat} {l:qr} {D:ae Deferred} {pm:ak FrameMode} {ro:ak Nat} {d:Nat} {g:ak (Tmp×Bool)}
variable{k1:ae OA}{F1:ae aP}
def St.JX{w:Wd}{bD:ae OA}(s:St B w0 kl F w)(hk:aO k1 kl bD)(hF:Sub F1 F):
 ∃S1,St S1 w k1 F1 w/\∀(w':Wd) (k1':ae OA) (F':ae aP),St S1 w k1' F' w'->St B w0 (k1'++bD) (F'++F) w':=by
 obtain⟨S,h1,h2,h3⟩:=s.own;obtain⟨S1,S2,q1,q2,hp⟩:=h1.kV hk;have hsub:∀i∈S1,i∈S:=λi hi=>hp.mem_iff.2 (lq _ hi);exact⟨S1,⟨⟨bQ _,λ_ _ _=>rfl,λ_ _=>rfl⟩,Wd.Le.refl w,λi _ hz=>.inl hz,⟨S1,q1,(iT.1 (hp.nodup h2)).1,λi hi=>⟨.inr hi,(h3 i (hsub i hi)).2⟩⟩,λf hf=>s.facts f (hF.mem f hf)⟩,
  λw' k1' F' c=>s.call (k1:=k1) (F1:=F1) ⟨S,hp,h2,h3⟩ q2 c⟩
variable{Y:Type}{vs captured first as:ae ah}{fn:Fn}{f:ay}{xs:ae ay}
def afR{re:ae iU}{ret:Y->ji}{k1':Y->ae OA}{fs:Y->ae aP}{pr:Y->Prop}
 (hc:rV P fn as captured k1 F1 ret k1' fs pr) (hn:Nat.blt d n=true) (hg:cO l g=true) (hf:ev l f=.func fn ⟨first⟩ ⟨captured⟩) (hx:EvL (ev l) xs vs) (ha:first++vs=as)
 (hk:aO k1 kl bD) (hF:Sub F1 F)
 (hs:∀y v,pr y->ret y=.ok v->Same P re (ev ((d,v)::l)) ((d,v)::l) B w0 (k1' y++bD) (fs y++F))
 (next:∀y v,pr y->ret y=.ok v->R (λh=>aJ P ds rest (act n ((d,v)::l) D pm ro) h K) B w0 (k1' y++bD) (fs y++F))
 (F7:∀y ch,pr y->ret y=.fU ch->R (λh=>K (.panic ch) (act n (Bw ds n l) D pm ro) h) B w0 (k1' y++bD) (fs y++F)):
 R (λh=>aJ P ds (⟨⟨some d,g,.call f xs⟩,re⟩::rest) (act n l D pm ro) h K) B w0 kl F:=by
 intro w s;obtain⟨S1,s1,back⟩:=s.JX hk hF;have hcall:=hc S1 w s1;subst ha;rw[<- hx.map]at hcall;refine s_call hn hg fn hf _ hcall ?_ ?_ ?_ ?_
 .rintro v h' ⟨_,w',y,rfl,c,hv,hpr⟩;exact hs y v hpr hv.symm w' (back w' _ _ c)
 .rintro v h' ⟨_,w',y,rfl,c,hv,hpr⟩;exact next y v hpr hv.symm w' (back w' _ _ c)
 .rintro ch h' ⟨_,w',y,rfl,c,hv,hpr⟩;rw[I6];exact F7 y ch hpr hv.symm w' (back w' _ _ c)
 .rintro r p h' ⟨e,_⟩;exact e
def wD{re:ae iU}{ret:Y->ji}{k1':Y->ae OA}{fs:Y->ae aP}{pr:Y->Prop}{eH:Y->ae OA}{F2:Y->ae aP}
 (hc:rV P fn as captured k1 F1 ret k1' fs pr)
 (next:∀y v,pr y->ret y=.ok v->R (λh=>aJ P ds rest (act n ((d,v)::l) D pm ro) h K) B w0 (eH y) (F2 y))
 (F7:∀y ch,pr y->ret y=.fU ch->R (λh=>K (.panic ch) (act n (Bw ds n l) D pm ro) h) B w0 (eH y) (F2 y))
 (hn:Nat.blt d n=true:=by rfl) (hg:cO l g=true:=by rfl) (hf:ev l f=.func fn ⟨first⟩ ⟨captured⟩:=by rfl) (hx:EvL (ev l) xs vs:=by repeat (first|with_reducible exact EvL.nil|((with_reducible apply EvL.cons);(conv=>lhs;whnf)))) (ha:first++vs=as:=by rfl)
 (hk:aO k1 kl bD:=by exact mP) (hF:Sub F1 F:=by exact mE) (hk2:∀y,dO (k1' y) bD (eH y):=by intro y;repeat (first|exact dO.nil|apply dO.cons|exact dO.self|exact dO.app)) (hF2:∀y,dO (fs y) F (F2 y):=by intro y;repeat (first|exact dO.nil|apply dO.cons|exact dO.self|exact dO.app))
 (hs:∀y v,pr y->ret y=.ok v->Same P re (ev ((d,v)::l)) ((d,v)::l) B w0 (eH y) (F2 y):=by intro _ _ _ _;repeat (first|exact Du|refine Dv rfl fB tD rfl ?_|refine FO rfl iP tD rfl ?_|refine FP rfl iP tD rfl ?_|refine FQ rfl fB tD rfl ?_|refine FT rfl iP tD rfl ?_|refine FU rfl iP tD rfl ?_)):
 R (λh=>aJ P ds (⟨⟨some d,g,.call f xs⟩,re⟩::rest) (act n l D pm ro) h K) B w0 kl F:=
 afR hc hn hg hf hx ha hk hF (λy v a b=>by rw[(hk2 y).eq,(hF2 y).eq];exact hs y v a b) (λy v a b=>by rw[(hk2 y).eq,(hF2 y).eq];exact next y v a b) (λy v a b=>by rw[(hk2 y).eq,(hF2 y).eq];exact F7 y v a b)
variable{v:ah}
def DF{x:ay}{t:aC}{dst:ak Tmp}{re:ae iU}
 (next:R (λh=>K (.panic [{v:=.iface t v,recovered:=false}]) (act n (Bw ds n l) D pm ro) h) B w0 kl F)
 (hx:ev l x=.iface t v:=by rfl) (hg:cO l g=true:=by rfl):R (λh=>aJ P ds (⟨⟨dst,g,.panic x⟩,re⟩::rest) (act n l D pm ro) h K) B w0 kl F:=λw s=>aet hg hx (next w s)
def afS{f:ay}{args:ae ay}
 (next:R (λh=>aJ P ds rest (act n l ({target:=.fn fn ⟨captured⟩,args:=⟨first++vs⟩}::D) pm none) h K) B w0 kl F)
 (hf:ev l f=.func fn ⟨first⟩ ⟨captured⟩:=by rfl) (hx:EvL (ev l) args vs:=by repeat (first|with_reducible exact EvL.nil|((with_reducible apply EvL.cons);(conv=>lhs;whnf)))) (hg:cO l g=true:=by rfl):
 R (λh=>aJ P ds (⟨⟨none,g,.dcall f args⟩,[]⟩::rest) (act n l D pm none) h K) B w0 kl F:=λw s=>by
 refine aeu hg rfl hf ?_;rw[hx.map];exact next w s
variable{m:FrameMode}
def UQ{m':FrameMode}(he:ko m=(v,m'))
 (next:R (λh=>aJ P ds rest (act n ((d,v)::l) D (some m') none) h K) B w0 kl F) (hn:Nat.blt d n=true:=by rfl) (hg:cO l g=true:=by rfl):
 R (λh=>aJ P ds (⟨⟨some d,g,.recover⟩,[]⟩::rest) (act n l D (some m) none) h K) B w0 kl F:=λw s=>by
 refine aev hn hg rfl ?_;rw[he];exact next w s
def RL(P:Program)(cf:iF)(l:qr)(D:ae Deferred)(m:FrameMode)(Kr:ji->IH->Prop)(B:ae Nat)(w0:Wd)(kl:ae OA)(F:ae aP):Prop:=∀w,St B w0 kl F w->LEAVE P cf (jy l) D m w.h Kr
def F8{cf:iF}{Kr:KR}{o:Out}(h:RL P cf l D m (λr h=>Kr r pm h) B w0 kl F)(hm:vP o=some m:=by rfl):R (λh=>tC P cf Kr o (act n l D pm ro) h) B w0 kl F:=λw s=>by
 show(match vP o with
  |none=>False
  |some m=>LEAVE P cf (jy l) D m w.h λr h''=>Kr r pm h'')
 rw[hm];exact h w s
variable {cf:iF} {Kr:ji->IH->Prop}
def afT(hk:∀w,St B w0 kl F w->Kr (.ok (rR vs)) w.h)(hr:RS l kl cf.results vs:=by exact yN):RL P cf l [] .returning Kr B w0 kl F:=λw s=>by
 refine .ret (rR vs) ?_ (hk w s);unfold rF;rw[hr.all s];exact pb
def UR{args:ae ah}{ret:Y->ji}{md:Y->FrameMode}{k1':Y->ae OA}{fs:Y->ae aP}{pr:Y->Prop}{eH:Y->ae OA}{F2:Y->ae aP}
 (hc:JW P fn args captured m k1 F1 ret md k1' fs pr)
 (next:∀y v,pr y->ret y=.ok v->RL P cf l D (zG (md y)) Kr B w0 (eH y) (F2 y))
 (F7:∀y ch,pr y->ret y=.fU ch->RL P cf l D (CR (md y) ch) Kr B w0 (eH y) (F2 y))
 (hk:aO k1 kl bD:=by exact mP) (hF:Sub F1 F:=by exact mE) (hk2:∀y,dO (k1' y) bD (eH y):=by intro y;repeat (first|exact dO.nil|apply dO.cons|exact dO.self|exact dO.app)) (hF2:∀y,dO (fs y) F (F2 y):=by intro y;repeat (first|exact dO.nil|apply dO.cons|exact dO.self|exact dO.app)) (hm:m≠.run:=by intro e;cases e):
 RL P cf l ({target:=.fn fn ⟨captured⟩,args:=⟨args⟩}::D) m Kr B w0 kl F:=λw s=>by
 obtain⟨S1,s1,back⟩:=s.JX hk hF;refine .call hm _ (hc S1 w s1) ?_ ?_ ?_
 .rintro r p h' ⟨w',y,e,_⟩ hp;rw[e]at hp;cases hp
 .rintro v m' h' ⟨w',y,e,rfl,c,hv,hpr⟩;injection e with e;subst e;have:=next y v hpr hv.symm w' B3
  exact this
 .rintro ch m' h' ⟨w',y,e,rfl,c,hv,hpr⟩;injection e with e;subst e;exact F7 y ch hpr hv.symm w' B3
variable{eH:ae OA}
def BH{o:Out}{ret:Y->ji}{k1:Y->ae OA}{fs:Y->ae aP}{pr:Y->Prop}(y:Y)(hv:ret y=.ok (rR vs))(hp:pr y)(hD:kW kl D eH:=by repeat (first|exact kW.nil|(apply kW.cons;(focus (repeat (first|with_reducible exact aD.here|with_reducible apply aD.there|with_reducible apply aD.app))))))
 (hr:RS l eH cf.results vs:=by exact yN) (hk:aO (k1 y) eH bD:=by exact mP) (hF:Sub (fs y) F:=by exact mE) (ho:o=.normal\/o=.ret:=by first|exact .inl rfl|exact .inr rfl):
 R (λh=>tC P cf (BG B w0 ret k1 fs pr) o (act n l D none ro) h) B w0 kl F:=by
 refine F8 (m:=.returning) ?_ B4;intro w s;refine kW.leave hD (λw' s'=>⟨rR vs,?_,rfl,w',y,rfl,((s'.kV hk).drop).sub hF,hv.symm,hp⟩) w s;unfold rF;rw[hr.all s'];match vs with
 |[]=>rfl
 |[v]=>rfl
 |_::_::_=>rfl
def kW.UT{ts:T ah}{ch:ae PanicEntry}:∀{D:ae Deferred} {kl eH:ae OA},kW kl D eH->(∀w',St B w0 eH F w'->Kr (.fU ch) w'.h)->∀w,St B w0 kl F w->LEAVE P cf ts D (.panicking ch) w.h Kr
 |_,_,_,.nil,hk,w,s=>.fU ch (hk w s)
 |_,_,_,.cons (r:=r) h t,hk,w,s=>by
  have s1:=s.iw h;refine .coll xj r s1.get.1 ?_;exact kW.UT t hk _ (s1.write (o':=.jE false)).tail
def BI{ch:ae PanicEntry}{ret:Y->ji}{k1:Y->ae OA}{fs:Y->ae aP}{pr:Y->Prop}(y:Y)(hv:ret y=.fU ch)(hp:pr y)(hD:kW kl D eH:=by repeat (first|exact kW.nil|(apply kW.cons;(focus (repeat (first|with_reducible exact aD.here|with_reducible apply aD.there|with_reducible apply aD.app))))))
 (hk:aO (k1 y) eH bD:=by exact mP) (hF:Sub (fs y) F:=by exact mE):
 R (λh=>tC P cf (BG B w0 ret k1 fs pr) (.panic ch) (act n l D none ro) h) B w0 kl F:=by
 refine F8 (m:=.panicking ch) ?_;intro w s;exact kW.UT hD (λw' s'=>⟨rfl,w',y,rfl,((s'.kV hk).drop).sub hF,hv.symm,hp⟩) w s
def UU{o:Out}{ret:Y->ji}{md:Y->FrameMode}{k1:Y->ae OA}{fs:Y->ae aP}{pr:Y->Prop}(y:Y)(hv:ret y=.ok (rR vs))(hm:md y=m)(hp:pr y)(hD:kW kl D eH:=by repeat (first|exact kW.nil|(apply kW.cons;(focus (repeat (first|with_reducible exact aD.here|with_reducible apply aD.there|with_reducible apply aD.app))))))
 (hr:RS l eH cf.results vs:=by exact yN) (hk:aO (k1 y) eH bD:=by exact mP) (hF:Sub (fs y) F:=by exact mE) (ho:o=.normal\/o=.ret:=by first|exact .inl rfl|exact .inr rfl):
 R (λh=>tC P cf (OQ B w0 ret md k1 fs pr) o (act n l D (some m) ro) h) B w0 kl F:=by
 refine F8 (m:=.returning) ?_ B4;intro w s;refine kW.leave hD (λw' s'=>⟨rR vs,?_,w',y,by rw[hm],rfl,((s'.kV hk).drop).sub hF,hv.symm,hp⟩) w s;unfold rF;rw[hr.all s'];match vs with
 |[]=>rfl
 |[v]=>rfl
 |_::_::_=>rfl
def UW{ret:Y->ji}{k1:Y->ae OA}{fs:Y->ae aP}{pr:Y->Prop}(y:Y)(hv:ret y=.ok (rR vs))(hp:pr y)(hr:RS l kl cf.results vs:=by exact yN)(hk:aO (k1 y) kl bD:=by exact mP)(hF:Sub (fs y) F:=by exact mE):
 RL P cf l [] .returning (λr h=>BG B w0 ret k1 fs pr r none h) B w0 kl F:=
 afT (λw s=>⟨rfl,w,y,rfl,((s.kV hk).drop).sub hF,hv.symm,hp⟩) hr
end
end Go.Ideal
namespace Go.Ideal
variable {P:Program}
variable{α:Type}
def UX{β:Type}(f:α->β)(hf:∀a b,f a=f b->a=b){l1 l2:ae α}(h:(l1.map f).Perm (l2.map f)):l1.Perm l2:=by
 classical
 rw[List.perm_iff_count];intro a;have:=h.count_eq (f a);have key:∀l:ae α,(l.map f).count (f a)=l.count a:=by
  intro l;induction l with
  |nil=>rfl
  |cons x l ih=>
   rw[iQ,List.count_cons,List.count_cons,ih];by_cases e:x=a
   .subst e;simp
   .have:¬f x=f a:=λh=>e (hf _ _ h);simp[e,this]
 rw[key,key]at this;exact this
def UY{α β:Type}{f:α->β}:∀{l:ae α},(l.map f).Nodup->∀{a b:α},a∈l->b∈l->f a=f b->a=b
 |[],_,a,b,ha,_,_=>by cases ha
 |x::l,h,a,b,ha,hb,e=>by
  rw[iQ,xY]at h;obtain⟨hx,hl⟩:=h;rcases bT.1 ha with h1|ha<;>rcases bT.1 hb with h2|hb
  .rw[h1,h2]
  .rw[<- h1,e]at hx;exact absurd (Mw hb) hx
  .rw[<- h2,<- e]at hx;exact absurd (Mw ha) hx
  .exact UY hl ha hb e
def qz{α:Type}[DecidableEq α](a:α):ae (α×ah)->Nat->ak (Nat×ah)
 |[],_=>none
 |(b,v)::l,i=>if a=b then some (i,v)else qz a l (i+1)
def dK{α β:Type}[DecidableEq α](a:α):ae (α×β)->ak β
 |[]=>none
 |(b,v)::l=>if a=b then some v else dK a l
def upd{α β:Type}[DecidableEq α](a:α)(v:β):ae (α×β)->ae (α×β)
 |[]=>[(a,v)]
 |(b,u)::l=>if a=b then(a,v)::l else(b,u)::upd a v l
def qA{α:Type}(bq:α->ah)(az:ae (α×ah))(es:ae MapEntry):Prop:=es.map (λe=>(e.key,e.val))=az.map λp=>(bq p.1,p.2)
structure tJ(P:Program)(kt:TypeId){α:Type}[DecidableEq α](bq:α->Value):Prop where
 F9:∀a,sO P kt (bq a)=true
 find:∀a az es,qA bq az es->uB P kt (bq a) es=some (qz a az 0)
 same:∀a,Instr.sameBits 10000 (bq a) (bq a)=true
variable{kt:aC}
def UZ{v:ah}(ha:cz v=true)(h:∀b,dZ P (Instr.checkKey b 10000 kt v)=some ()):sO P kt v=true:=by
 unfold sO;rw[ha,h true,h false];rfl
def OT{bq:α->ah}{p:α×ah}{az:ae (α×ah)}{es:ae MapEntry}(h:qA bq (p::az) es):∃e es',es=e::es'/\e.key=bq p.1/\e.val=p.2/\qA bq az es':=by
 cases es with
 |nil=>cases h
 |cons e es=>
  unfold qA at h;rw[iQ,iQ]at h;injection h with h1 h2;injection h1 with h1 h3;exact⟨e,es,rfl,h1,h3,h2⟩
def U0{α:Type}[DecidableEq α]{bq:α->ah}{d:TypeDesc}(hs:∀a b,Instr.sameNow d (bq a) (bq b)=some (decide (a=b)))(a:α):∀(az:ae (α×ah)) (es:ae MapEntry) (i:Nat),qA bq az es->Instr.findNow d (bq a) es i=some (qz a az i)
 |[],es,i,h=>by
  exact pw
 |p::az,es,i,h=>by
  obtain⟨e,es',rfl,h1,h2,h3⟩:=OT h;have ih:=U0 hs a az es' (i+1) h3;show(match Instr.sameNow d (bq a) e.key with
   |some true=>some (some (i,e.val))
   |some false=>Instr.findNow d (bq a) es' (i+1)
   |none=>none)=_
  rw[h1,hs a p.1];unfold qz;by_cases hab:a=p.1
  .rw[eB hab,if_pos hab,h2]
  .rw[aY hab,if_neg hab];exact ih
def U4[DecidableEq α]{bq:α->ah}{kt:aC}{d:TypeDesc}(hu:P.underlying kt=some d)(hs:∀a b,Instr.sameNow d (bq a) (bq b)=some (decide (a=b)))(a:α)(az:ae (α×ah))(es:ae MapEntry)(h:qA bq az es):uB P kt (bq a) es=some (qz a az 0):=by
 unfold uB Instr.findKey;rw[iW,tq hu];simp only[jB,U0 hs a az es 0 h];rfl
def afU(hu:P.underlying kt=some (.int .i64)):tJ P kt (λn:Int=>.int .i64 n) where
 F9 a:=UZ rfl λb=>by
  exact oR
 find a az es h:=U4 hu (λa b=>by
  show(if IntKind.i64=IntKind.i64 then some (a==b)else none)=_;rw[if_pos rfl];congr 1) a az es h
 same a:=by
  show(IntKind.i64==IntKind.i64&&a==a)=true;simp
def bytes_beq(a b:ByteArray):(a==b)=decide (a=b):=by
 have:(a==b)=(a.data==b.data):=rfl;rw[this];by_cases h:a=b
 .subst h;simp
 .rw[aY h];cases hb:a.data==b.data with
  |false=>rfl
  |true=>exact absurd (ByteArray.ext (eq_of_beq hb)) h
def afV(hu:P.underlying kt=some .string):tJ P kt (λs:ByteArray=>.string s) where
 F9 a:=UZ rfl λb=>by
  exact oR
 find a az es h:=U4 hu (λa b=>by
  show some (a==b)=_;rw[bytes_beq]) a az es h
 same a:=by
  show(a==a)=true;rw[bytes_beq];simp
def U5{α:Type}[DecidableEq α](a:α):∀(az:ae (α×ah)) (i:Nat),(qz a az i).map (·.2)=dK a az
 |[],_=>rfl
 |(b,v)::l,i=>by
  unfold qz dK;by_cases h:a=b
  .rw[if_pos h,if_pos h];rfl
  .rw[if_neg h,if_neg h];exact U5 a l (i+1)
def U6[DecidableEq α]{bq:α->ah}{kt:aC}(hk:tJ P kt bq){h:IH}{m zero:ah}{ok:Bool}{a:α}{az:ae (α×ah)}{es:ae MapEntry}(he:entriesOf m h=some es)(ho:qA bq az es):
 Bb P kt zero m (bq a) ok h=some (match dK a az with
  |some v=>cond ok (.tuple #[v,.bool true]) v
  |none=>cond ok (.tuple #[zero,.bool false]) zero):=by
 unfold Bb;simp only[he,hk.F9,cond_true,hk.find a az es ho];have:=U5 a az 0;cases hf:qz a az 0 with
 |none=>rw[hf]at this;rw[<- this];rfl
 |some p=>rw[hf]at this;rw[<- this];rfl
def U7{α:Type}[DecidableEq α](a:α):∀(az:ae (α×ah)) (i j:Nat) (v:ah),qz a az i=some (j,v)->∃k,j=i+k/\az[k]? =some (a,v)/\∀u,upd a u az=az.set k (a,u)
 |[],i,j,v,h=>by cases h
 |(b,w)::l,i,j,v,h=>by
  unfold qz at h;split at h
  .rename_i hab;subst hab;cases h;exact⟨0,rfl,rfl,λu=>by simp[upd]⟩
  .rename_i hab;obtain⟨k,h1,h2,h3⟩:=U7 a l (i+1) j v h;exact⟨k+1,tr,by simpa using h2,λu=>by simp[upd,if_neg hab,h3]⟩
def U8{α:Type}[DecidableEq α](a:α):∀(az:ae (α×ah)) (i:Nat),qz a az i=none->(∀p∈az,a≠p.1)/\∀u,upd a u az=az++[(a,u)]
 |[],i,h=>⟨λp hp=>(by cases hp),λu=>rfl⟩
 |(b,w)::l,i,h=>by
  unfold qz at h;split at h
  .cases h
  .rename_i hab;obtain⟨h1,h2⟩:=U8 a l (i+1) h;refine⟨λp hp=>?_,λu=>by simp[upd,if_neg hab,h2]⟩;rcases bT.1 hp with rfl|hp
   .exact hab
   .exact h1 p hp
structure Ab{α:Type}(bq:α->Value)(az:List (α×Value))(es:List MapEntry)(clock:Nat):Prop where
 uO:qA bq az es
 lt:∀e∈es,e.born<clock
 nd:(es.map (·.born)).Nodup
 keys:(az.map (·.1)).Nodup
def afW[DecidableEq α]{bq:α->ah}{kt:aC}(hk:tJ P kt bq){h:IH}{b:Nat}{a:α}{v:ah}{az:ae (α×ah)}{es:ae MapEntry}{clock:Nat}(hg:h.get b=some (.map es clock))(ho:Ab bq az es clock):
 ∃es' clock',EH P kt (.map (some b)) (bq a) v h=some (h.set b (.map es' clock'))/\Ab bq (upd a v az) es' clock':=by
 unfold EH;simp only[hg,hk.F9,cond_true,hk.find a az es ho.uO];cases hf:qz a az 0 with
 |none=>
  obtain⟨h1,h2⟩:=U8 a az 0 hf;refine⟨_,_,rfl,?_⟩;rw[h2,jQ];refine⟨?_,λe he=>?_,?_,?_⟩
  .unfold qA;rw[fG,fG,ho.uO];rfl
  .rcases dY.1 he with he|he
   .exact Mr (ho.lt e he)
   .rw[bK.1 he];exact xW _
  .rw[fG,iT];refine⟨ho.nd,tt,λx hx y hy e=>?_⟩;obtain⟨e0,he0,rfl⟩:=eF.1 hx;have:y=clock:=by simpa using hy
   have:=ho.lt e0 he0;omega
  .rw[fG,iT];refine⟨ho.keys,tt,λx hx y hy e=>?_⟩;obtain⟨p,hp,rfl⟩:=eF.1 hx;have:y=a:=by simpa using hy
   exact h1 p hp (by rw[e,this])
 |some p=>
  obtain⟨j,u⟩:=p;obtain⟨k,rfl,h2,h3⟩:=U7 a az 0 j u hf;rw[fq];have hlen:es.length=az.length:=by
   have:=congrArg List.length ho.uO;simpa using this
  have hk':=(bC.1 h2).1;have OU:es[k]? =some es[k]:=bX tr;have hkey:es[k].key=bq a:=by
   have:=congrArg (λl=>l[k]?) ho.uO;simp only[dN,OU,h2,lg]at this;injection this with this;injection this
  simp only[rJ,OU,hkey,hk.same,cond_true];refine⟨_,_,rfl,?_⟩;rw[h3,Si];refine⟨?_,λe he=>?_,?_,?_⟩
  .unfold qA;apply jW;intro i;have:=congrArg (λl=>l[i]?) ho.uO;simp only[dN]at this;simp only[dN,List.getElem?_modify,nI];by_cases hi:k=i
   .subst hi;simp[OU,hk']
   .rw[if_neg hi];cases he:es[i]? with
    |none=>rw[he]at this;simp only[Option.map_none]at this⊢;simp[hi,<- this]
    |some e=>rw[he]at this;simp only[lg]at this⊢;simp[hi,<- this]
  .obtain⟨i,he⟩:=wZ.1 he;rw[List.getElem?_modify]at he;cases OV:es[i]? with
   |none=>rw[OV]at he;simp at he
   |some e0=>
    rw[OV]at he;have hlt:=ho.lt e0 (aS OV);injection he with he;rw[<- he];split<;>exact hlt
  .have:(es.modify k λe=>{e with key:=bq a,val:=v}).map (·.born)=es.map (·.born):=by
    apply jW;intro i;simp only[dN,List.getElem?_modify];cases es[i]? with
    |none=>rfl
    |some e=>simp only[lg];split<;>rfl
   rw[this];exact ho.nd
  .have:(az.set k (a,v)).map (·.1)=az.map (·.1):=by
    apply jW;intro i;simp only[dN,nI];by_cases hi:k=i
    .subst hi;rw[if_pos rfl,if_pos hk',h2];rfl
    .rw[if_neg hi]
   rw[this];exact ho.keys
def iG{α:Type}(bq:α->ah)(b:Nat)(az:ae (α×ah)):OA:=⟨λw S=>S=[b]/\∃es clock,w.h.get b=some (.map es clock)/\Ab bq az es clock,λa h ⟨h1,es,clock,h2,h3⟩=>⟨h1,es,clock,by rw[h b wg];exact h2,h3⟩⟩
def uP{α:Type}(bq:α->ah)(b:Nat)(az:ae (α×ah)):aP:=⟨λw=>w.z b/\∃es clock,w.h.get b=some (.map es clock)/\Ab bq az es clock,λa ⟨h1,es,clock,h2,h3⟩=>⟨a.z b h1,es,clock,by rw[a.get b h1];exact h2,h3⟩⟩
def DI{bq:α->ah}{b:Nat}{az:ae (α×ah)}:sZ (iG bq b az) [uP bq b az]:=by
 intro w w' S ⟨h1,es,clock,h2,h3⟩ hle hh hz f hf;rw[bK.1 hf];exact⟨hz b wg,es,clock,by rw[hh];exact h2,h3⟩
section
variable {B:ae Nat} {w0:Wd} {kl kl' bD:ae OA} {F:ae aP} {K:KO} {ds:ae Tmp} {rest:ae bY} {n:Nat} {l:qr} {D:ae Deferred} {pm:ak FrameMode} {ro:ak Nat} {d:Nat} {g:ak (Tmp×Bool)}
variable {α:Type} [DecidableEq α] {bq:α->ah}
variable{az:ae (α×ah)}{b:Nat}
def St.U9{w:Wd}(h:St B w0 (iG bq b az::kl) F w):∃es clock,Ab bq az es clock/\St B w0 (pt b (.map es clock)::kl) F w:=by
 obtain⟨S,⟨S1,S2,⟨q1,es,clock,q3,q4⟩,q2,e⟩,h2,h3⟩:=h.own;exact⟨es,clock,q4,h.agree,h.le,h.ig,⟨S,⟨S1,S2,⟨q1,q3⟩,q2,e⟩,h2,h3⟩,h.facts⟩
def Ac(bq:α->ah)
 (next:∀b,R (λh=>aJ P ds rest (act n ((d,.map (some b))::l) D pm ro) h K) B w0 (iG bq b []::kl) F) (hn:Nat.blt d n=true:=by rfl) (hg:cO l g=true:=by rfl):
 R (λh=>aJ P ds (⟨⟨some d,g,.xe⟩,[]⟩::rest) (act n l D pm ro) h K) B w0 kl F:=λw s=>
 ni hn hg (h':=w.h.new (.map [] 0)) B0 (next w.h.next (w.new _) ((s.new _).BA (A:=pt w.h.next (.map [] 0)) (A':=iG bq w.h.next []) λw S hp=>⟨hp.1,[],0,hp.2,⟨rfl,λe he=>(by cases he),w9,w9⟩⟩))
def lX{α:Type}[DecidableEq α](ok:Bool)(zero:ah)(a:α)(az:ae (α×ah)):ah:=match dK a az with
 |some v=>cond ok (.tuple #[v,.bool true]) v
 |none=>cond ok (.tuple #[zero,.bool false]) zero
variable{m k:ay}{kt:aC}{zero:ah}{ok:Bool}
def Va(hk:tJ P kt bq)(a:α)
 (next:R (λh=>aJ P ds rest (act n ((d,lX ok zero a az)::l) D pm ro) h K) B w0 kl F)
 (hm:ev l m=.map (some b):=by rfl) (ha:ev l k=bq a:=by conv=>lhs;whnf) (hf:uP bq b az∈F:=by exact iP) (hn:Nat.blt d n=true:=by rfl) (hg:cO l g=true:=by rfl):
 R (λh=>aJ P ds (⟨⟨some d,g,.lookup kt zero m k ok⟩,[]⟩::rest) (act n l D pm ro) h K) B w0 kl F:=λw s=>by
 obtain⟨_,es,clock,h1,h2⟩:=s.facts _ hf;refine ni hn hg (v:=lX ok zero a az) ?_ (next w s);have:Bb P kt zero (.map (some b)) (bq a) ok w.h=_:=U6 hk (by simp only[entriesOf,h1]) h2.uO;simp only[aH.run,hm,ha,this];rfl
def Ga(hk:tJ P kt bq)(a:α)
 (next:R (λh=>aJ P ds rest (act n ((d,lX ok zero a az)::l) D pm ro) h K) B w0 kl F)
 (hm:ev l m=.map (some b):=by rfl) (ha:ev l k=bq a:=by conv=>lhs;whnf) (hs:aD (iG bq b az) kl kl':=by exact fB) (hn:Nat.blt d n=true:=by rfl) (hg:cO l g=true:=by rfl):
 R (λh=>aJ P ds (⟨⟨some d,g,.lookup kt zero m k ok⟩,[]⟩::rest) (act n l D pm ro) h K) B w0 kl F:=λw s=>by
 obtain⟨es,clock,h2,s1⟩:=(s.iw hs).U9;refine ni hn hg (v:=lX ok zero a az) ?_ (next w s);have:Bb P kt zero (.map (some b)) (bq a) ok w.h=_:=U6 hk (by simp only[entriesOf,s1.get.1]) h2.uO;simp only[aH.run,hm,ha,this];rfl
variable{x:ay}
def yQ{v:ah}(hk:tJ P kt bq)(a:α)
 (next:R (λh=>aJ P ds rest (act n l D pm ro) h K) B w0 (iG bq b (upd a v az)::kl') F)
 (hm:ev l m=.map (some b):=by rfl) (ha:ev l k=bq a:=by conv=>lhs;whnf) (hv:ev l x=v:=by conv=>lhs;whnf) (hs:aD (iG bq b az) kl kl':=by exact fB) (hg:cO l g=true:=by rfl):
 R (λh=>aJ P ds (⟨⟨none,g,.Ic kt m k x⟩,[]⟩::rest) (act n l D pm ro) h K) B w0 kl F:=λw s=>by
 obtain⟨es,clock,h2,s1⟩:=(s.iw hs).U9;obtain⟨es',clock',e1,e2⟩:=afW (v:=v) hk (a:=a) s1.get.1 h2;refine Oe hg (v:=dR) (h':=w.h.set b (.map es' clock')) ?_ (next _ ((s1.write (o':=.map es' clock')).BA (A:=pt b (.map es' clock')) (A':=iG bq b (upd a v az)) λw S hp=>⟨hp.1,es',clock',hp.2,e2⟩));simp only[aH.run,hm,ha,hv,e1]
variable{es:ae MapEntry}
def Vb{clock:Nat}(h:Ab bq az es clock):es.length=az.length:=by
 have:=congrArg List.length h.uO;simpa using this
def BJ{α:Type}(bq:α->ah)(r b:Nat)(az jg:ae (α×ah)):OA:=⟨λw S=>S=[r]/\∃es clock seen last,w.h.get b=some (.map es clock)/\w.z b/\Ab bq az es clock/\w.h.get r=some (.mapIter (some b) clock seen last)/\last=clock/\
 (∃ve rem:ae MapEntry,qA bq jg ve/\ve.map (·.born)=seen/\(ve++rem).Perm es),
 λa h ⟨h1,es,clock,seen,last,h2,h3,h4,h5,h6,h7⟩=>⟨h1,es,clock,seen,last,by rw[a.get b h3];exact h2,a.z b h3,h4,by rw[h r wg];exact h5,h6,h7⟩⟩
def Vd
 (next:∀r,R (λh=>aJ P ds rest (act n ((d,.pointer (some ⟨r,0,none⟩))::l) D pm ro) h K) B w0 (BJ bq r b az []::kl) F)
 (hm:ev l m=.map (some b):=by rfl) (hf:uP bq b az∈F:=by exact iP) (hn:Nat.blt d n=true:=by rfl) (hg:cO l g=true:=by rfl):
 R (λh=>aJ P ds (⟨⟨some d,g,.rangeMap m⟩,[]⟩::rest) (act n l D pm ro) h K) B w0 kl F:=λw s=>by
 obtain⟨hz,es,clock,h1,h2⟩:=s.facts _ hf;refine ni hn hg (h':=w.h.new (.mapIter (some b) clock [] clock)) (by simp only[aH.run,hm,h1]) (next w.h.next (w.new _) ?_);have s1:=s.new (.mapIter (some b) clock [] clock);obtain⟨hz',es',clock',h1',h2'⟩:=s1.facts _ hf;refine s1.zV λS hp=>⟨hp.1,es',clock',[],clock,h1',hz',h2',?_,?_,[],es',rfl,rfl,.refl _⟩
 .have:clock'=clock:=by
   have e:(w.new (.mapIter (some b) clock [] clock)).h.get b=w.h.get b:=by
    exact pT
   rw[e,h1]at h1';injection h1' with h1';injection h1' with _ h1';exact h1'.symm
  rw[this];exact hp.2
 .have e:(w.new (.mapIter (some b) clock [] clock)).h.get b=w.h.get b:=by
   exact pT
  rw[e,h1]at h1';injection h1' with h1';injection h1' with _ h1'
def afX{ve rem:ae MapEntry}(hp:(ve++rem).Perm es)(hn:(es.map (·.born)).Nodup):(es.filter λe=>!(ve.map (·.born)).contains e.born).Perm rem:=by
 have hp2:((ve++rem).filter λe=>!(ve.map (·.born)).contains e.born).Perm (es.filter λe=>!(ve.map (·.born)).contains e.born):=hp.filter _;rw[H6]at hp2;have h1:ve.filter (λe=>!(ve.map (·.born)).contains e.born)=[]:=by
  rw[List.filter_eq_nil_iff];intro e he;simp only[AX,Bool.not_eq_false',List.contains_eq_mem,zu];simp;exact⟨e,he,rfl⟩
 have hnd:((ve++rem).map (·.born)).Nodup:=(hp.map _).nodup_iff.2 hn;rw[fG,iT]at hnd;have h2:rem.filter (λe=>!(ve.map (·.born)).contains e.born)=rem:=by
  rw[List.filter_eq_self];intro e he;simp only[AX,List.contains_eq_mem,decide_eq_false_iff_not];intro hm;exact hnd.2.2 _ hm _ (Mw he) rfl
 rw[h1,h2,dU]at hp2;exact hp2.symm
variable{jg:ae (α×ah)}{r:Nat}
def Ve
 (more:∀p rem,(jg++p::rem).Perm az->R (λh=>aJ P ds rest (act n ((d,.tuple #[.bool true,bq p.1,p.2])::l) D pm ro) h K) B w0 (BJ bq r b az (jg++[p])::kl') F)
 (done:jg.Perm az->R (λh=>aJ P ds rest (act n ((d,.tuple #[.bool false])::l) D pm ro) h K) B w0 (BJ bq r b az jg::kl') F)
 (inj:∀a c,bq a=bq c->a=c)
 (hx:ev l x=.pointer (some ⟨r,0,none⟩):=by rfl) (hs:aD (BJ bq r b az jg) kl kl':=by exact fB) (hn:Nat.blt d n=true:=by rfl) (hg:cO l g=true:=by rfl):
 R (λh=>aJ P ds (⟨⟨some d,g,.yf x⟩,[]⟩::rest) (act n l D pm ro) h K) B w0 kl F:=λw s0=>by
 have s:=s0.iw hs;obtain⟨S,⟨S1,S2,⟨q1,es,clock,seen,last,h1,hz,h2,h3,h4,ve,rem,h5,h6,h7⟩,q2,eS⟩,hnd,hown⟩:=s.own;subst h4 h6;have hpl:=afX h7 h2.nd;have hold:((es.filter λe=>!(ve.map (·.born)).contains e.born).filter λe=>Nat.blt e.born last)=es.filter λe=>!(ve.map (·.born)).contains e.born:=by
  rw[List.filter_eq_self];intro e he;have:=h2.lt e (uw.1 he).1;rw[uo];exact this
 have hnew:((es.filter λe=>!(ve.map (·.born)).contains e.born).filter λe=>Nat.ble last e.born)=[]:=by
  rw[List.filter_eq_nil_iff];intro e he;have:=h2.lt e (uw.1 he).1;rw[wV];omega
 have hcl:(!(ve.map (·.born)).isEmpty&&!es.isEmpty&&es.all (λe=>Nat.ble last e.born))=false:=by
  cases es with
  |nil=>simp
  |cons e es=>
   have:=h2.lt e (fT ..);have:Nat.ble last e.born=false:=by
    cases hb:Nat.ble last e.born with
    |false=>rfl
    |true=>rw[wV]at hb;omega
   simp[this]
 have afY:Bf (ev l x) w.h=some ((if(es.filter λe=>!(ve.map (·.born)).contains e.born).isEmpty then[(.tuple #[.bool false],w.h)]else[])++
  (es.filter λe=>!(ve.map (·.born)).contains e.born).map λe=>(.tuple #[.bool true,e.key,e.val],w.h.set r (.mapIter (some b) last (ve.map (·.born)++[e.born]) last))):=by
  rw[hx];unfold Bf;simp only[h3,h1];rw[hcl];simp only[cond_false,hold,hnew,jd]
 have aoH:∀(aoI:ae MapEntry) (aoJ:ae (α×ah)),True:=λ_ _=>trivial;refine .next (xC hg) x rfl rfl _ (by rw[oz];exact afY) ?_
 intro vh hm;rcases dY.1 hm with hm|hm
 .split at hm
  .rename_i hemp;rw[bK.1 hm,qH hn];have afZ:rem=[]:=by
    have:(es.filter λe=>!(ve.map (·.born)).contains e.born)=[]:=by simpa using hemp
    rw[this]at hpl;exact List.nil_perm.1 hpl|>λh=>h
   refine done ?_ w s;subst afZ;rw[jd]at h7;have hm1:=h7.map (λe=>(e.key,e.val));rw[h5,h2.uO]at hm1;exact UX (λp:α×ah=>(bq p.1,p.2)) (λp q hpq=>by
    exact r7) hm1
  .cases hm
 .obtain⟨e,he,rfl⟩:=eF.1 hm;have hr:e∈rem:=hpl.mem_iff.1 he;obtain⟨r1,r2,af0⟩:=List.append_of_mem hr;obtain⟨i,hi,hie⟩:∃i,i<az.length/\es[i]? =some e:=by
   obtain⟨i,hi⟩:=wZ.1 (uw.1 he).1;have:=(bC.1 hi).1;rw[Vb h2]at this;exact⟨i,this,hi⟩
  have hpe:(e.key,e.val)=(bq az[i].1,az[i].2):=by
   have:=congrArg (λl=>l[i]?) h2.uO;simp only[dN,hie,bX hi,lg]at this;injection this
  injection hpe with hpk hpv;rw[qH hn,hpk,hpv];have hperm:(ve++[e]++(r1++r2)).Perm es:=by
   refine List.Perm.trans ?_ h7;rw[af0,gz];refine List.Perm.append_left _ ?_;exact(List.perm_middle (l₁:=r1) (l₂:=r2) (a:=e)).symm
  have Gb:qA bq (jg++[az[i]]) (ve++[e]):=by
   unfold qA;rw[fG,fG,h5];simp[hpk,hpv]
  obtain⟨OW,af1⟩:∃OW:ae (α×ah),(jg++az[i]::OW).Perm az:=by
   have hm1:=hperm.map (λe=>(e.key,e.val));rw[fG,Gb,h2.uO]at hm1;have hex:∀ls:ae MapEntry,(∀x∈ls,∃p:α×ah,(x.key,x.val)=(bq p.1,p.2))->∃ps:ae (α×ah),ls.map (λe=>(e.key,e.val))=ps.map λp=>(bq p.1,p.2):=by
    intro ls;induction ls with
    |nil=>intro _;exact⟨[],rfl⟩
    |cons x ls ih=>
     intro h;obtain⟨p,hp⟩:=h x (fT ..);obtain⟨ps,hps⟩:=ih λy hy=>h y (fO _ hy);exact⟨p::ps,by rw[iQ,iQ,hp,hps]⟩
   obtain⟨ps,hps⟩:=hex (r1++r2) (λy hy=>by
    have hy':y∈es:=hperm.mem_iff.1 (pI _ hy);obtain⟨j,hj⟩:=wZ.1 hy';have hj':=(bC.1 hj).1;rw[Vb h2]at hj';have:=congrArg (λl=>l[j]?) h2.uO;simp only[dN,hj,bX hj',lg]at this;injection this with this;exact⟨_,this⟩)
   rw[hps,<- fG]at hm1;refine⟨ps,?_⟩;have:=UX (λp:α×ah=>(bq p.1,p.2)) (λp q hpq=>by
    exact r7) hm1
   rwa [gz]at this
  refine more az[i] OW af1 ⟨w.h.set r (.mapIter (some b) last (ve.map (·.born)++[e.born]) last),w.z,λi hi=>w.nP i hi⟩ ?_;have s2:St B w0 (pt r (.mapIter (some b) last (ve.map (·.born)) last)::kl') F w:=⟨s.agree,s.le,s.ig,⟨S,⟨S1,S2,⟨q1,h3⟩,q2,eS⟩,hnd,hown⟩,s.facts⟩
  have s3:=s2.write (o':=.mapIter (some b) last (ve.map (·.born)++[e.born]) last);refine s3.zV λS' hp=>⟨hp.1,es,last,_,last,?_,hz,h2,hp.2,rfl,ve++[e],r1++r2,Gb,by rw[fG];rfl,hperm⟩
  have hrb:r≠b:=λer=>by
   have:=s2.own;obtain⟨S0,⟨T1,T2,⟨u1,_⟩,_,ue⟩,_,ho⟩:=this;exact(ho r (by rw[ue,u1];simp)).2.2 (er▸hz)
  show(w.h.set r _).get b=_;rw[IH.nM,if_neg (λer=>hrb er.symm)];exact h1
def Vf{p:α×ah}
 (next:R (λh=>aJ P ds rest (act n ((d,.tuple #[bq p.1,p.2])::l) D pm ro) h K) B w0 kl F)
 (hx:ev l x=.pointer (some ⟨r,0,none⟩):=by rfl) (hs:aD (BJ bq r b az (jg++[p])) kl kl':=by exact fB) (hn:Nat.blt d n=true:=by rfl) (hg:cO l g=true:=by rfl):
 R (λh=>aJ P ds (⟨⟨some d,g,.entry x⟩,[]⟩::rest) (act n l D pm ro) h K) B w0 kl F:=λw s0=>by
 have s:=s0.iw hs;obtain⟨S,⟨S1,S2,⟨q1,es,clock,seen,last,h1,hz,h2,h3,h4,ve,rem,h5,h6,h7⟩,q2,e⟩,hnd,hown⟩:=s.own;subst h4 h6;obtain⟨Vg,x0,Gb,hx0,hx1⟩:∃Vg x0,ve=Vg++[x0]/\x0.key=bq p.1/\x0.val=p.2:=by
  unfold qA at h5;rw[fG]at h5;obtain⟨a1,a2,e1,e2,e3⟩:=List.map_eq_append_iff.1 h5;obtain⟨x0,a3,e4,e5,e6⟩:=List.map_eq_cons_iff.1 e3;have:a3=[]:=by simpa using e6
  subst this;injection e5 with e5 e7;exact⟨a1,x0,by rw[e1,e4],e5,e7⟩
 have hfind:es.find? (λy=>Nat.beq y.born x0.born)=some x0:=by
  have hm:x0∈es:=h7.mem_iff.1 (lq _ (by rw[Gb];simp));cases hf:es.find? (λy=>Nat.beq y.born x0.born)with
  |none=>
   have:=List.find?_eq_none.1 hf x0 hm;simp[Nat.beq_refl]at this
  |some y=>
   have hy:=List.find?_some hf;have hym:=RG hf;have hb:y.born=x0.born:=qY hy;congr 1;exact UY h2.nd hym hm hb
 refine ni hn hg (v:=.tuple #[bq p.1,p.2]) ?_ (next w s0);simp only[aH.run,hx,h3,h1];rw[Gb];simp only[fG,iQ,List.map_nil,List.getLast?_append,List.getLast?_singleton,Option.some_or,Nat.beq_refl,cond_true,hfind,hx0,hx1]
end
end Go.Ideal
namespace Go.Ideal
open Go.Sort
variable {P:Program}
def WR.grow{β:aI}{h:IH}{w:World}(hW:WR P β h w)(os:Array Obj):WR P β h (grow w os)/\Eff β h w β h (grow w os):=by
 have hold:∀b,b<w.heap.size->(Go.Sort.grow w os).heap[b]? =w.heap[b]?:=λb hb=>by
  show(w.heap++os)[b]? =_;rw[Array.getElem?_append_left hb]
 refine⟨⟨hW.dom,hW.live,λi g o h1 h2=>?_,hW.inj⟩,⟨λ_ _=>rfl,bQ _,λ_ _ h=>h,λ_ _ _=>rfl,bQ _,λ_ _ _=>rfl,rfl,rfl,rfl,?_,λb hb _=>hold b hb,λi g hg hi=>absurd (hW.dom _ _ hg) tr,λi g _ _ _ _ hb=>hold _ hb,bQ _⟩⟩
 .have hO:=hW.obj i g o h1 h2;exact hO.congr (hold _ hO.lt)
 .show w.heap.size<=(w.heap++os).size;rw[Array.size_append];omega
def JY(o:Nat):ae ah->Array ah->Array ah
 |[],c=>c
 |v::vs,c=>JY (o+1) vs (c.setIfInBounds o v)
def Vh(b:Nat):∀(vs:ae ah) (o:Nat) (w:World),w.setCells b o vs=mapBlock w b (JY o vs)
 |[],o,w=>(mapBlock_id w b _ λc e fr h=>rfl).symm
 |v::vs,o,w=>by
  show(w.setCell ⟨b,o,none⟩ v).setCells b (o+1) vs=_;rw[Vh b vs (o+1),setCell_eq,mapBlock_mapBlock];rfl
def Vi:∀(vs:ae ah) (o:Nat) (c:Array ah) (k:Nat),(JY o vs c)[k]? =if o<=k/\k<o+vs.length/\k<c.size then vs[k - o]? else c[k]?
 |[],o,c,k=>by
  rw[if_neg (by rw[EC];omega)];rfl
 |v::vs,o,c,k=>by
  show(JY (o+1) vs (c.setIfInBounds o v))[k]? =_;rw[Vi vs (o+1),Array.size_setIfInBounds,oh];by_cases h1:o+1<=k/\k<o+1+vs.length/\k<c.size
  .rw[if_pos h1,if_pos ⟨tr,tr,h1.2.2⟩];rw[show k - o=(k - (o+1))+1 by omega,sI]
  .rw[if_neg h1,aaS];by_cases h2:o=k
   .subst h2;rw[if_pos rfl];by_cases h3:o<c.size
    .rw[if_pos h3,if_pos ⟨bQ _,tr,h3⟩,xZ];rfl
    .rw[if_neg h3,if_neg tr];exact(vC tr).symm
   .rw[if_neg h2,if_neg tr]
def setCells_putRow{α:Type}[Inhabited α](enc:α->ah)(w:World)(b o:Nat)(d:Array α):w.setCells b o (d.toList.map enc)=putRow enc w b o d:=by
 rw[Vh];unfold putRow;refine mapBlock_congr w b _ _ λc e fr hc=>?_;apply Array.ext_getElem?;intro k;rw[Vi,putCells,Array.getElem?_mapIdx,bZ,Ry];by_cases hk:k<c.size
 .by_cases h:o<=k/\k<o+d.size
  .rw[if_pos ⟨h.1,h.2,hk⟩,aaU hk,lg,if_pos h,dN,AU,aaU tr];rw[lg,getElem!_pos d _ tr]
  .rw[if_neg (λq=>h ⟨q.1,q.2.1⟩),aaU hk,lg,if_neg h]
 .rw[if_neg tr,vC tr];rfl
def OX(P:Program)(f:iI):Prop:=∀(blk off cap:Nat) (zs:ae Int) (w:World),Holds (Value.int .i64) w blk off zs.toArray->blk<w.heap.size->zs.length<4611686018427387904->
 Calls P f #[.slice (some ⟨blk,off,none⟩) zs.length cap] w λe w'=>e=.returned (.tuple #[])/\∃n os,w'=Go.Sort.grow (putRow (Value.int .i64) (Sort.ahead w n) blk off (zs.mergeSort λx y=>decide (x<=y)).toArray) os
def bR(zs:ae Int):ae Int:=zs.mergeSort λx y=>decide (x<=y)
def Ad(zs:ae Int):(bR zs).length=zs.length:=List.length_mergeSort zs
variable{f:iI}
def af2(hS:OX P f){fn:Func}(hfn:P.funcs[f]? =some fn){body:Code}(hb:fn.body=some body)(hname:fn.name≠ "runtime.NumGoroutine"){b o c:Nat}{fl:ak Nat}{zs:ae Int}{h h':IH}{cs:ae ah}
 (hg:h.get b=some (.cells cs)) (hz:∀(j:Nat) z,zs[j]? =some z->cs[o+j]? =some (.int .i64 z)) (hne:0<zs.length) (hlen:zs.length<4611686018427387904) (hs:h.storeAt b o ((bR zs).map (.int .i64))=some h'):
 mD P ⟨.func f,[.slice (some ⟨b,o,fl⟩) zs.length c],[],none⟩ h (λr pm h2=>pm=none/\r=.ok (.tuple ⟨[]⟩)/\h2=h'):=by
 intro β w fn' args' cap' hG hW hf ha hcap;obtain⟨jZ,t1,t2⟩:=FD (P:=P) (q:=⟨.func f,[.slice (some ⟨b,o,fl⟩) zs.length c],[],none⟩) (f:=f) (args:=[.slice (some ⟨b,o,fl⟩) zs.length c]) zc hf ha hcap hfn hb hname w;cases t2 with|cons hv tl=>
 cases tl;obtain⟨g,a,c',hi,rfl,hab,_,hn,hcc,hao,_⟩:=hv.ow;have hao:a.off=g.off+o/\a.spot=none:=by
  rcases hao with e|e
  .omega
  .exact e
 obtain⟨⟨c0,t0,fz0,hh⟩,q2,q3,q4,q5,q6⟩:=hW.obj b g _ hi hg;have ea:a=⟨g.b,g.off+o,none⟩:=by
  obtain⟨ab,ao,as⟩:=a;simp only at hab hao;rw[hab,hao.1,hao.2]
 subst ea;have hin:∀j,j<zs.length->o+j<cs.length:=λj hj=>(bC.1 (hz j _ (bX hj))).1;have hH:Holds (Value.int .i64) w g.b (g.off+o) zs.toArray:=λj hj=>by
  have hj:j<zs.length:=zd
  obtain⟨v',h1,h2⟩:=q6 (o+j) _ (hz j _ (bX hj));have:=h2.nO;subst this;refine⟨?_,(q4 _ (by have:=hin j hj;omega)).2⟩;rw[oM,h1];congr 2;rw[getElem!_pos zs.toArray j zd];simp
 have hlt:g.b<w.heap.size:=(Rz.1 hh).1;have hC:=hS g.b (g.off+o) c' zs w hH hlt hlen;obtain⟨_,w1,w2⟩:=Iw hW hi hs (vs':=(bR zs).map (.int .i64)) (aZ.free (by
  have:∀l:ae Int,gu (l.map (Value.int .i64))=true:=by
   exact pe
  exact this _)) (by
  exact sC)
 refine⟨_,Frame.enter P f ⟨_⟩ .normal,t1,rfl,λcs0 xu=>?_⟩;obtain⟨e,w',fr,⟨he,k,os,hw'⟩,hcomes,hfr,hlv⟩:=hC cs0;subst he;have hw1:putRow (Value.int .i64) (Sort.ahead w k) g.b (g.off+o) (zs.mergeSort λx y=>decide (x<=y)).toArray=Sort.ahead (w.setCells g.b (g.off+o) ((bR zs).map (.int .i64))) k:=by
  have:=setCells_putRow (Value.int .i64) w g.b (g.off+o) (bR zs).toArray;rw[show(bR zs).toArray.toList=bR zs from rfl]at this;rw[this];rfl
 rw[hw1]at hw';have w3:WR P β h' (Sort.ahead (w.setCells g.b (g.off+o) ((bR zs).map (.int .i64))) k):=w1.sU rfl;have w4:=w2.trans (Eff.sU (w':=Sort.ahead (w.setCells g.b (g.off+o) ((bR zs).map (.int .i64))) k) w1.dom rfl rfl rfl rfl (Nat.le_add_right _ _));obtain⟨w5,w6⟩:=w3.grow os;rw[<- hw']at w5 w6;refine⟨.ok (.tuple ⟨[]⟩),none,h',β,w',.returned (.tuple #[]),cs0,⟨rfl,rfl,rfl⟩,w5,w4.trans w6,.ok (.dR _),.none cs0,.inl ⟨f,_,fr,rfl,hcomes,hfr,hlv.2.2.1,hlv.1,hlv.2.1,hlv.2.2.2⟩⟩
def JZ{α:Type}:∀(l:ae α) (o:Nat) (xs:ae α),o+xs.length<=l.length->∃r,kG l o xs=some r
 |[],o,xs,h=>by
  have h1:xs=[]:=jX.1 (by rw[EC]at h;omega);have h2:o=0:=by rw[EC]at h;omega
  exact⟨[],by rw[Sd,if_pos ⟨h1,h2⟩]⟩
 |c::l,0,[],h=>⟨_,Sg c l⟩
 |c::l,0,x::xs,h=>by
  obtain⟨r,hr⟩:=JZ l 0 xs (by simp only[oh]at h;omega);exact⟨x::r,by rw[MW,hr];rfl⟩
 |c::l,o+1,xs,h=>by
  obtain⟨r,hr⟩:=JZ l o xs (by simp only[oh]at h;omega);exact⟨c::r,by rw[MX,hr];rfl⟩
def af4(hS:OX P f){fn:Func}(hfn:P.funcs[f]? =some fn){body:Code}(hb:fn.body=some body)(hname:fn.name≠ "runtime.NumGoroutine"){a:ak Addr}{zs:ae Int}(hne:0<zs.length)(hlen:zs.length<4611686018427387904):
 cK P (.func f) [.slice a zs.length zs.length] [] [ap ai (.slice a zs.length zs.length) zs] [] (λ_:Unit=>.tuple ⟨[]⟩) (λ_=>[ap ai (.slice a zs.length zs.length) (bR zs)]) (λ_=>[]) (λ_=>True):=by
 intro B w s;obtain⟨S,⟨S1,S2,q1,q2,e⟩,h2,h3⟩:=s.own;rcases q1 with⟨h,_⟩|⟨b,o,fl,cells,e1,hf,e2,hb',hcl,hel⟩
 .rw[h]at hne;simp at hne
 injection e1 with e1 e1';subst e1;have hcl:cells.length=o+zs.length:=by rw[hcl];simp[ai]
 have hz:∀(j:Nat) z,zs[j]? =some z->cells[o+j]? =some (.int .i64 z):=λj z hj=>by
  obtain⟨y,u1,_⟩:=hel j z hj;have:=u1 0 (.int .i64 z) rfl;simpa[ai]using this
 have hst:∃cs2,w.h.storeAt b o ((bR zs).map (.int .i64))=some (w.h.set b (.cells cs2))/\cs2.length=cells.length/\∀(k:Nat) z,(bR zs)[k]? =some z->cs2[o+k]? =some (.int .i64 z):=by
  have hov:∃cs2,kG cells o ((bR zs).map (.int .i64))=some cs2:=JZ _ _ _ (by rw[bZ,Ad];omega);exact eK
 obtain⟨cs2,hst,hl2,OY⟩:=hst;refine .real (NL _ (af2 hS hfn hb hname hb' hz hne hlen hst) ?_);rintro r pm h' ⟨rfl,rfl,rfl⟩;have s1:St B w [pt b (.cells cells)] [] w:=⟨s.agree,s.le,s.ig,⟨S,⟨S1,S2,⟨e2,hb'⟩,q2,e⟩,h2,h3⟩,λf hf=>by cases hf⟩
 refine⟨rfl,⟨w.h.set b (.cells cs2),w.z,λi hi=>w.nP i hi⟩,(),rfl,?_,rfl,trivial⟩;refine(s1.write (o':=.cells cs2)).BA (A:=pt b (.cells cs2)) λw' S' hp=>?_;refine .inr ⟨b,o,fl,cs2,by rw[Ad],hf,hp.1,hp.2,by rw[hl2,hcl,Ad];simp[ai],λk x hk=>⟨(),λj u hj=>?_,λf hf=>by cases hf⟩⟩;match j,hj with
 |0,hj=>
  cases hj;have:=OY k x hk;simpa[ai]using this
end Go.Ideal
namespace Go.Ideal
variable {P:Program}
def uQ{α:Type}(P:Program)(vals:α->ae ah)(fn:Fn)(first cap:ae ah)(F:ae aP)(X:ae α->Prop):Prop:=
 ∀(S:Type) (inv:S->ae OA) (ok:ae α->S->Prop) (step:S->α->S×Bool) (s0:S) (DJ:Fn) (y1 y2:ae ah) (F':ae aP),ok [] s0->
  (∀vs s x rest,ok vs s->X (vs++x::rest)->(step s x).2=true->ok (vs++[x]) (step s x).1)->
  (∀vs s x rest,ok vs s->X (vs++x::rest)->cK P DJ (y1++vals x) y2 (inv s) F' (λ_:Unit=>.bool (step s x).2) (λ_=>inv (step s x).1) (λ_=>[]) (λ_=>True))->
  cK P fn (first++[.func DJ ⟨y1⟩ ⟨y2⟩]) cap (inv s0) (F++F') (λ_:ae α=>.tuple ⟨[]⟩) (λxs=>inv (kK step s0 xs)) (λ_=>[]) X
section
variable {B:ae Nat} {w0:Wd} {kl kl' bD:ae OA} {F:ae aP} {K:KO} {n:Nat} {l:qr} {D:ae Deferred} {pm:ak FrameMode} {ro:ak Nat}
def J2{Z:Type}(B:ae Nat)(w0:Wd)(n:Nat)(l3:Z->qr)(lo:Nat)(o:bO)(kl:Z->ae OA)(F:ae aP):KO:=λoo a h=>
 oo=.normal/\∃z,a=act n (l3 z) [] none (some lo)/\∃w:Wd,w.h=h/\St B w0 (pt lo o::kl z) F w
variable{Z:Type}{lo:Nat}
def Gc{l3:Z->qr}{o:bO}{k3:Z->ae OA}(z:Z)(hl:l3 z=l)(hk:aO (pt lo o::k3 z) kl bD:=by exact mP):R (λh=>J2 B w0 n l3 lo o k3 F .normal (act n l [] none (some lo)) h) B w0 kl F:=λw s=>
 ⟨rfl,z,by rw[hl],w,rfl,(s.kV hk).drop⟩
def af6{Y:Type}{L:qo}{args:ae ah}{k1:ae OA}{out:Y->Out}{k1':Y->ae OA}{fs:Y->ae aP}{pr:Y->Prop}(l:qr)(l3:Z->qr)(k3:Z->ae OA)(hl:L.tmps=jy l)(hst:L.state=.ready)(hps:L.params.all (λp=>Nat.blt p L.n)=true)(hlen:L.params.length=args.length)
 (ha:∀B w0,R (λh=>EV P L.assign (act L.n ((L.params.zip args).reverse++l) [] none (some lo)) h (J2 B w0 L.n l3 lo (.loop L) k3 F)) B w0 (pt lo (.loop L)::k1) F)
 (hb:∀z B w0,R (λh=>EV P L.body (act L.n (l3 z) [] none (some lo)) h (FZ B w0 lo L out k1' fs pr)) B w0 (pt lo (.loop (zZ L))::k3 z) F):
 cK P (.yield lo) args [] (pt lo (.loop L)::k1) F (λy:Y=>.bool (rT (out y))) (λy=>pt lo (.loop (qb L (out y)))::k1' y) fs pr:=by
 intro B w s;obtain⟨l2,e1,e2⟩:=UI L.n L.params args l hps hlen;refine .round lo rfl rfl L s.get.1 hlen.symm _ (by
  rw[hl];show EV P L.assign (bi.mk L.n (vQ L.n L.params args (jy l)) [] none (some lo)) w.h _;rw[e1,e2];exact ha B w w s) ?_ ?_
 .rintro o a h ⟨rfl,z,rfl,w1,rfl,s1⟩;exact⟨rfl,L,s1.get.1,hst⟩
 .rintro a h r1 ⟨_,z,rfl,w1,rfl,s1⟩ hr;have hr1:r1=L:=by
   have:=s1.get.1;rw[hr]at this;injection this with this;injection this
  subst hr1;have hb:=hb z B w _ (s1.write (o':=.loop (zZ r1)));refine NW hb _ ?_;rintro o a h ⟨hd,w2,y,rfl,rfl,hn,s2,hp⟩;refine⟨zZ r1,s2.get.1,hd,?_⟩;have fin:∀o',rT o'=rT (out y)->qb r1 o'=qb r1 (out y)->Left B w (λy:Y=>.bool (rT (out y))) (λy=>pt lo (.loop (qb r1 (out y)))::k1' y) fs pr (.ok (.bool (rT (out y)))) none (w2.h.set lo (.loop (qb r1 (out y)))):=λo' _ _=>
   ⟨rfl,_,y,rfl,s2.write,rfl,hp⟩
  cases ho:out y with
  |normal=>have:=fin .normal wk wk;rw[ho]at this;exact this
  |exit j=>have:=fin (.exit j) wk wk;rw[ho]at this;exact this
  |ret=>have:=fin .ret wk wk;rw[ho]at this;exact this
  |panic ch=>rw[ho]at hn;exact hn.elim
variable{S α:Type}{ps:ae Tmp}{assign body:dA}{fn:Fn}{first captured:ae ah}{F1:ae aP}
def af7{f:ay}{vals:α->ae ah}{X:ae α->Prop}(step:S->α->S×Out)(inv:S->ae OA)(ok:ae α->S->Prop)(s0:S)(h0:ok [] s0)
 (hok:∀vs s x rest,ok vs s->X (vs++x::rest)->(step s x).2=.normal->ok (vs++[x]) (step s x).1) (hit:uQ P vals fn first captured F1 X)
 (hf:ev l f=.func fn ⟨first⟩ ⟨captured⟩) (hps:ps.all (λp=>Nat.blt p n)=true) (hlen:∀x,ps.length=(vals x).length) (hk:aO (inv s0) kl bD) (hF:Sub F1 F) (kJ:∀s x,FY (step s x).2)
 (l3:α->Z->qr) (k3:α->Z->ae OA)
 (ha:∀(s:S) (x:α) (lo:Nat) (o:bO) B w0,R (λh=>EV P assign (act n ((ps.zip (vals x)).reverse++l) [] none (some lo)) h (J2 B w0 n (l3 x) lo o (λz=>k3 x z++inv s) F)) B w0 (pt lo o::inv s) F)
 (hb:∀(vs:ae α) (s:S) (x:α) (rest:ae α) (z:Z) (lo:Nat) (L:qo) B w0,ok vs s->X (vs++x::rest)->R (λh=>EV P body (act n (l3 x z) [] none (some lo)) h (FZ B w0 lo L (λ_:Unit=>(step s x).2) (λ_=>inv (step s x).1) (λ_=>[]) (λ_=>True))) B w0 (pt lo (.loop (zZ L))::(k3 x z++inv s)) F)
 (next:∀r xs,X xs->R (λh=>K (oF step s0 xs).2 (act n l ({target:=.collected r,args:= #[]}::D) pm none) h) B w0 (inv (oF step s0 xs).1++(pt r (.jE true)::bD)) F):
 R (λh=>EV P (.rangeFunc f ps assign body) (act n l D pm none) h K) B w0 kl F:=by
 refine afK (Y:=ae α) (k1:=inv s0) (F1:=F1++F) (OI:=λ_=>.tuple ⟨[]⟩) (out:=λxs=>(oF step s0 xs).2) (k1':=λxs=>inv (oF step s0 xs).1) (fs:=λ_=>[]) (pr:=X) hf ?_ hk (hF.app (Sub.refl' F [])) (λr y hy=>next r y hy);intro lo r;have:=hit (S×Out) (λso=>pt lo (.loop (qb ⟨.ready,none,jy l,n,ps,assign,body,r⟩ so.2))::inv so.1) (λvs so=>so.2=.normal/\ok vs so.1) (λso x=>(step so.1 x,rT (step so.1 x).2)) (s0,.normal) (.yield lo) [] [] F ⟨rfl,h0⟩
  (λvs so x rest ho hx h=>by
    have h:rT (step so.1 x).2=true:=h;have hn:(step so.1 x).2=.normal:=by
     cases e:(step so.1 x).2 with
     |normal=>rfl
     |_=>rw[e]at h;cases h
    exact⟨hn,hok vs so.1 x rest ho.2 hx hn⟩)
  (λvs so x rest ho hx=>by
    obtain⟨s,o⟩:=so;obtain⟨hn,ho⟩:=ho;have hn:o=.normal:=hn;subst hn;exact af6 (Y:=Unit) (L:=⟨.ready,none,jy l,n,ps,assign,body,r⟩) (args:=vals x) (k1:=inv s) (out:=λ_=>(step s x).2) (k1':=λ_=>inv (step s x).1) (fs:=λ_=>[]) (pr:=λ_=>True) l (l3 x) (λz=>k3 x z++inv s) rfl rfl hps (hlen x)
     (λB w0=>ha s x lo _ B w0) (λz B w0=>hb vs s x rest z lo _ B w0 ho hx))
 have e:(λxs:ae α=>pt lo (.loop (qb ⟨.ready,none,jy l,n,ps,assign,body,r⟩ (kK (λ(so:S×Out) x=>(step so.1 x,rT (step so.1 x).2)) (s0,.normal) xs).2))::inv (kK (λ(so:S×Out) x=>(step so.1 x,rT (step so.1 x).2)) (s0,.normal) xs).1)=λxs=>pt lo (.loop (qb ⟨.ready,none,jy l,n,ps,assign,body,r⟩ (oF step s0 xs).2))::inv (oF step s0 xs).1:=by
  funext xs
  rw[UJ]
 have h2:cK P fn (first++[.func (.yield lo) ⟨[]⟩ ⟨[]⟩]) captured (pt lo (.loop ⟨.ready,none,jy l,n,ps,assign,body,r⟩)::inv s0) (F1++F) (λ_:ae α=>.tuple ⟨[]⟩) (λxs=>pt lo (.loop (qb ⟨.ready,none,jy l,n,ps,assign,body,r⟩ (kK (λ(so:S×Out) x=>(step so.1 x,rT (step so.1 x).2)) (s0,.normal) xs).2))::inv (kK (λ(so:S×Out) x=>(step so.1 x,rT (step so.1 x).2)) (s0,.normal) xs).1) (λ_=>[]) X:=this;rw[e]at h2;exact h2
def Gd{f:ay}{vals:α->ae ah}{X:ae α->Prop}(step:S->α->S×Out)(inv:S->ae OA)(ok:ae α->S->Prop)(s0:S)(l3:α->Z->qr)(k3:α->Z->ae OA)(h0:ok [] s0)
 (hok:∀vs s x rest,ok vs s->X (vs++x::rest)->(step s x).2=.normal->ok (vs++[x]) (step s x).1) (hit:uQ P vals fn first captured F1 X)
 (ha:∀(s:S) (x:α) (lo:Nat) (o:bO) B w0,R (λh=>EV P assign (act n ((ps.zip (vals x)).reverse++l) [] none (some lo)) h (J2 B w0 n (l3 x) lo o (λz=>k3 x z++inv s) F)) B w0 (pt lo o::inv s) F)
 (hb:∀(vs:ae α) (s:S) (x:α) (rest:ae α) (z:Z) (lo:Nat) (L:qo) B w0,ok vs s->X (vs++x::rest)->R (λh=>EV P body (act n (l3 x z) [] none (some lo)) h (FZ B w0 lo L (λ_:Unit=>(step s x).2) (λ_=>inv (step s x).1) (λ_=>[]) (λ_=>True))) B w0 (pt lo (.loop (zZ L))::(k3 x z++inv s)) F)
 (next:∀r xs,X xs->R (λh=>K (oF step s0 xs).2 (act n l ({target:=.collected r,args:= #[]}::D) pm none) h) B w0 (inv (oF step s0 xs).1++(pt r (.jE true)::bD)) F)
 (kJ:∀s x,FY (step s x).2)
 (hf:ev l f=.func fn ⟨first⟩ ⟨captured⟩:=by rfl) (hps:ps.all (λp=>Nat.blt p n)=true:=by rfl) (hlen:∀x,ps.length=(vals x).length:=by intro _;rfl)
 (hk:aO (inv s0) kl bD:=by exact mP) (hF:Sub F1 F:=by exact mE):
 R (λh=>EV P (.rangeFunc f ps assign body) (act n l D pm none) h K) B w0 kl F:=
 af7 step inv ok s0 h0 hok hit hf hps hlen hk hF kJ l3 k3 ha hb next
end
end Go.Ideal
namespace Go.Ideal
variable {P:Program}
def gV{α:Type}(E:Enc α)(aN:ae (α×E.Y)):ae ah:=aN.flatMap λp=>E.pat p.1 p.2
def Gf{α:Type}{E:Enc α}:∀aN:ae (α×E.Y),(gV E aN).length=aN.length*E.n
 |[]=>by simp[gV]
 |p::l=>by
  have ih:=Gf l;unfold gV at ih⊢;rw[Mx,ik,ih,E.len,oh,sM];omega
def BK{α:Type}{E:Enc α}:∀{aN:ae (α×E.Y)} {k:Nat} {p:α×E.Y} {j:Nat} {u:ah},aN[k]? =some p->(E.pat p.1 p.2)[j]? =some u->(gV E aN)[k*E.n+j]? =some u
 |[],k,p,j,u,h,_=>by cases h
 |q::l,0,p,j,u,h,hj=>by
  cases h;unfold gV;rw[Mx,HY,fq,pG (bC.1 hj).1];exact hj
 |q::l,k+1,p,j,u,h,hj=>by
  have ih:=BK (aN:=l) (k:=k) tE hj;unfold gV at ih⊢;rw[Mx,rq (by rw[E.len,sM];omega),E.len,show(k+1)*E.n+j - E.n=k*E.n+j by rw[sM];omega];exact ih
def OZ{α:Type}{E:Enc α}{j:Nat}{v:ah}:∀{aN:ae (α×E.Y)} {k:Nat} {p p':α×E.Y},aN[k]? =some p->(E.pat p.1 p.2).set j v=E.pat p'.1 p'.2->j<E.n->(gV E aN).set (k*E.n+j) v=gV E (aN.set k p')
 |[],k,p,p',h,_,_=>by cases h
 |q::l,0,p,p',h,hp,hj=>by
  cases h;unfold gV;rw[Mx,HY,fq,List.set_append_left _ _ (by rw[E.len];exact hj),hp];rfl
 |q::l,k+1,p,p',h,hp,hj=>by
  have ih:=OZ (aN:=l) (k:=k) tE hp hj;unfold gV at ih⊢;rw[Mx,RH _ _ (by rw[E.len,sM];omega),E.len,show(k+1)*E.n+j - E.n=k*E.n+j by rw[sM];omega,ih];rfl
def tK{α:Type}(E:Enc α)(v:ah)(aN:ae (α×E.Y)):aP:=
 ⟨λw=>(aN=[]/\∃a c,v=.slice a 0 c/\Ox E.n a)\/∃i o f c cells,(v=.slice (some ⟨i,o,some f⟩) aN.length c/\aN.length<=c/\(f=0\/f=E.n))/\Fz w i cells/\
  ∀(k:Nat) p,aN[k]? =some p->(∀(j:Nat) u,(E.pat p.1 p.2)[j]? =some u->cells[o+k*E.n+j]? =some u)/\∀f∈E.fs p.1 p.2,f.p w,
  λa h=>by
   rcases h with h|⟨i,o,f,c,cells,h1,h2,h3⟩
   .exact .inl h
   .refine .inr ⟨i,o,f,c,cells,h1,h2.mono a,λk x hk=>?_⟩;obtain⟨q1,q2⟩:=h3 k x hk;exact⟨q1,λf hf=>f.mono a (q2 f hf)⟩⟩
def yR{α:Type}(E:Enc α)(aN:ae (α×E.Y)):aP:=⟨λw=>∀p∈aN,∀f∈E.fs p.1 p.2,f.p w,λa h p hp f hf=>f.mono a (h p hp f hf)⟩
variable{α:Type}{v:ah}{w:Wd}
def af8{E:Enc α}{aN:ae (α×E.Y)}(h:(tK E v aN).p w):(yR E aN).p w:=by
 intro p hp f hf;rcases h with⟨rfl,_⟩|⟨i,o,fl,c,cells,_,_,h3⟩
 .cases hp
 .obtain⟨k,hk⟩:=wZ.1 hp;exact(h3 k p hk).2 f hf
def af9{E:Enc α}{aN:ae (α×E.Y)}(h:(tK E v aN).p w):(aj E v (aN.map (·.1))).p w:=by
 rcases h with⟨rfl,h⟩|⟨i,o,f,c,cells,h1,h2,h3⟩
 .exact .inl ⟨rfl,h⟩
 .refine .inr ⟨i,o,f,c,cells,by rw[bZ];exact h1,h2,λk x hk=>?_⟩;rw[dN]at hk;cases hp:aN[k]? with
  |none=>rw[hp]at hk;cases hk
  |some p=>
   rw[hp]at hk;cases hk;exact⟨p.2,h3 k p hp⟩
def Vj{E:Enc α}{xs:ae α}(h:(aj E v xs).p w):∃aN:ae (α×E.Y),aN.map (·.1)=xs/\(tK E v aN).p w:=by
 rcases h with⟨rfl,h⟩|⟨i,o,f,c,cells,h1,h2,h3⟩
 .exact⟨[],rfl,.inl ⟨rfl,h⟩⟩
 .obtain⟨l,hl,hp⟩:=OG (p:=λk (p:α×E.Y)=>xs[k]? =some p.1/\(∀(j:Nat) u,(E.pat p.1 p.2)[j]? =some u->cells[o+k*E.n+j]? =some u)/\∀f∈E.fs p.1 p.2,f.p w) xs.length (λk hk=>by
   obtain⟨y,q1,q2⟩:=h3 k xs[k] (bX hk);exact⟨(xs[k],y),bX hk,q1,q2⟩)
  have hm:l.map (·.1)=xs:=by
   apply jW;intro k;rw[dN];by_cases hk:k<xs.length
   .have hk':k<l.length:=by omega
    rw[bX hk',lg,(hp k l[k] (bX hk')).1]
   .rw[iq tr,iq tr];rfl
  exact⟨l,hm,.inr ⟨i,o,f,c,cells,by rw[hl];exact h1,h2,λk p hk=>(hp k p hk).2⟩⟩
def ar{α:Type}(E:Enc α)(v:ah)(aN:ae (α×E.Y)):OA:=
 ⟨λw S=>(aN=[]/\(∃a,v=.slice a 0 0/\Ox E.n a)/\S=[])\/∃b f,v=.slice (some ⟨b,0,some f⟩) aN.length aN.length/\(f=0\/f=E.n)/\S=[b]/\w.h.get b=some (.cells (gV E aN)),
  λa h hp=>by
   rcases hp with hp|⟨b,f,h1,h2,h3,h4⟩
   .exact .inl hp
   .exact .inr ⟨b,f,h1,h2,h3,by rw[h b y6];exact h4⟩⟩
def aga{E:Enc α}{aN:ae (α×E.Y)}(w w':Wd)(S:ae Nat)(hp:(ar E v aN).p w S)(hle:w.Le w')(hh:w'.h=w.h)(hz:∀i∈S,w'.z i)(ha:(yR E aN).p w):(tK E v aN).p w':=by
 rcases hp with⟨h1,⟨a,h2,h3⟩,_⟩|⟨b,f,h1,h2,h3,h4⟩
 .exact .inl ⟨h1,a,0,h2,h3⟩
 .refine .inr ⟨b,0,f,_,_,⟨h1,bQ _,h2⟩,⟨hz b y6,.inl (by rw[hh];exact h4)⟩,λk p hk=>⟨λj u hj=>?_,λf hf=>f.mono hle (ha p (aS hk) f hf)⟩⟩;rw[fq];exact BK hk hj
section
variable {B:ae Nat} {w0:Wd} {kl kl' bD:ae OA} {F:ae aP} {K:KO} {ds:ae Tmp} {rest:ae bY} {n:Nat} {l:qr} {D:ae Deferred} {pm:ak FrameMode} {ro:ak Nat} {d:Nat} {g:ak (Tmp×Bool)}
variable {α:Type} {E:Enc α} {v:ah}
variable{Q:IH->Prop}
def J3{xs:ae α}(E:Enc α)(v:ah)(h:∀aN:ae (α×E.Y),aN.map (·.1)=xs->R Q B w0 kl (tK E v aN::F))(hf:aj E v xs∈F:=by exact iP):R Q B w0 kl F:=λw s=>by
 obtain⟨aN,h1,h2⟩:=Vj (s.facts _ hf);exact h aN h1 w ⟨s.agree,s.le,s.ig,s.own,λf hf=>by
  rcases bT.1 hf with rfl|hf
  .exact h2
  .exact s.facts f hf⟩
variable{aN:ae (α×E.Y)}
def Vk(h:R Q B w0 kl (yR E aN::F))(hf:tK E v aN∈F:=by exact iP):R Q B w0 kl F:=λw s=>
 h w ⟨s.agree,s.le,s.ig,s.own,λf hf'=>by
  rcases bT.1 hf' with rfl|hf'
  .exact af8 (s.facts _ hf)
  .exact s.facts f hf'⟩
def J4(h:R Q B w0 kl' (tK E v aN::aj E v (aN.map (·.1))::F))(ha:∀w,(∀f∈F,f.p w)->(yR E aN).p w)(hk:aD (ar E v aN) kl kl':=by exact fB):R Q B w0 kl F:=λw s=>by
 have hall:=ha w s.facts;obtain⟨S,⟨S1,S2,q1,q2,e⟩,h2,h3⟩:=(s.iw hk).own;subst e;let w':Wd:=⟨w.h,λi=>w.z i\/i∈S1,λi hi=>hi.elim (w.nP i) λhi=>(h3 i (lq _ hi)).2.1⟩
 have hle:w.Le w':=⟨bQ _,λi hi=>.inl hi,λ_ _=>rfl⟩
 have hnd:=iT.1 h2;have hel:=aga w w' S1 q1 hle rfl (λi hi=>.inr hi) hall;refine h w' ⟨s.agree,s.le.trans hle,λi hi hz=>?_,⟨S2,fP.loc hle (λ_ _=>rfl) q2,hnd.2.1,λi hi=>?_⟩,λf hf=>?_⟩
 .rcases hz with hz|hz
  .exact s.ig i hi hz
  .exact r8
 .exact lE
 .rcases bT.1 hf with rfl|hf
  .exact hel
  .rcases bT.1 hf with rfl|hf
   .exact af9 hel
   .exact f.mono hle (s.facts f hf)
def Vl(hlen:0<aN.length)(h:∀b f,(f=0\/f=E.n)->v=.slice (some ⟨b,0,some f⟩) aN.length aN.length->R Q B w0 (pt b (.cells (gV E aN))::kl') F)(hk:aD (ar E v aN) kl kl':=by exact fB):R Q B w0 kl F:=λw s=>by
 have s1:=s.iw hk;obtain⟨S,⟨S1,S2,q1,q2,e⟩,h2,h3⟩:=s1.own;rcases q1 with⟨h0,_⟩|⟨b,f,h4,h5,h6,h7⟩
 .rw[h0]at hlen;simp at hlen
 .exact h b f h5 h4 w ⟨s1.agree,s1.le,s1.ig,⟨S,⟨S1,S2,⟨h6,h7⟩,q2,e⟩,h2,h3⟩,s1.facts⟩
def uR{α:Type}(E:Enc α){aN:ae (α×E.Y)}{Q:IH->Prop}{b f m:Nat}(hm:m=aN.length)(hf:f=0\/f=E.n)(h:R Q B w0 (ar E (.slice (some ⟨b,0,some f⟩) m m) aN::kl') F)(hk:aD (pt b (.cells (gV E aN))) kl kl':=by exact fB):R Q B w0 kl F:=λw s=>by
 refine h w ((s.iw hk).BA (A:=pt b (.cells (gV E aN))) λw S hp=>.inr ⟨b,f,by rw[hm],hf,hp.1,hp.2⟩)
def Vm(h:∀a,v=.slice a aN.length aN.length->R Q B w0 kl F)(hk:aD (ar E v aN) kl kl':=by exact fB):R Q B w0 kl F:=λw s=>by
 obtain⟨S,⟨S1,S2,q1,q2,e⟩,h2,h3⟩:=(s.iw hk).own;rcases q1 with⟨rfl,⟨a,h1,_⟩,_⟩|⟨b,f,h4,_⟩
 .exact h a h1 w s
 .exact h _ h4 w s
variable{x:ay}{c m:Nat}{t e:aC}
def Gg(hu:P.underlying t=some (.slice e))(hx:ev l x=.slice none m c):Pu P (ev l) (.bin .eql t x (.const (.slice none 0 0))) (.bool true):=λh=>by
 have he:dZ P (Op.equal t (.slice none m c) (.slice none 0 0))=some true:=by
  show dZ P (Op.equalIn (9999+1) t (.slice none m c) (.slice none 0 0))=_;unfold Op.equalIn;rw[iW,tq hu];rfl
 have h1:lT P (do eqGuard .eql t x (.const (.slice none 0 0)) (.slice none m c) (.slice none 0 0);binOp .eql t (.slice none m c) (.slice none 0 0))=some (.bool true):=by
  exact fb
 have h2:mZ P .eql t x (.const (.slice none 0 0)) (.slice none m c) (.slice none 0 0)=some (.bool true):=by
  by_cases hmc:m=0/\c=0
  .show cond (cz (Value.slice none m c)&&cz (Value.slice none 0 0)) (lT P (do eqGuard .eql t x (.const (.slice none 0 0)) (.slice none m c) (.slice none 0 0);binOp .eql t (.slice none m c) (.slice none 0 0))) _=_;rw[h1];obtain⟨rfl,rfl⟩:=hmc;simp[cz]
  .have e0:cz (Value.slice none m c)=false:=by
    cases hb:cz (Value.slice none m c)with
    |false=>rfl
    |true=>exact absurd (by simpa[cz]using hb) hmc
   have e1:uC P t (.slice none m c) (.slice none 0 0)=some true:=by
    unfold uC;rw[hu]
   show cond (cz (Value.slice none m c)&&cz (Value.slice none 0 0)) _ (match uC P t (.slice none m c) (.slice none 0 0)with|some b=>some (Value.bool b)|none=>none)=_;rw[e0,e1];rfl
 simp only[aH.run,hx];show(match mZ P .eql t x (.const (.slice none 0 0)) (.slice none m c) (.slice none 0 0)with|some v=>some (v,h)|none=>none)=_;rw[h2]
def Ae{a:Addr}(hu:P.underlying t=some (.slice e))(hx:ev l x=.slice (some a) m c):Pu P (ev l) (.bin .eql t x (.const (.slice none 0 0))) (.bool false):=λh=>by
 have h2:mZ P .eql t x (.const (.slice none 0 0)) (.slice (some a) m c) (.slice none 0 0)=some (.bool false):=by
  have:uC P t (.slice (some a) m c) (.slice none 0 0)=some false:=by
   unfold uC;rw[hu]
  show(match uC P t (.slice (some a) m c) (.slice none 0 0)with|some b=>some (Value.bool b)|none=>none)=_;rw[this]
 simp only[aH.run,hx];show(match mZ P .eql t x (.const (.slice none 0 0)) (.slice (some a) m c) (.slice none 0 0)with|some v=>some (v,h)|none=>none)=_;rw[h2]
variable{s:ay}{b:Nat}
def J5{e:aC}{size bytes:Nat}{a:ak Addr}
 (next:R (λh=>aJ P ds rest (act n ((d,.slice (some ⟨b,0,some 0⟩) 0 0)::l) D pm ro) h K) B w0 (pt b (.cells [])::kl') F)
 (hs:ev l s=.slice (some ⟨b,0,some 0⟩) 0 0:=by rfl) (hx:ev l x=.slice a 0 c:=by rfl) (hk:aD (pt b (.cells [])) kl kl':=by exact fB) (hn:Nat.blt d n=true:=by rfl) (hg:cO l g=true:=by rfl):
 R (λh=>aJ P ds (⟨⟨some d,g,.append e size bytes s x⟩,[]⟩::rest) (act n l D pm ro) h K) B w0 kl F:=λw st=>by
 have st1:=st.iw hk;refine ni hn hg (v:=.slice (some ⟨b,0,some 0⟩) 0 0) (h':=w.h.set b (.cells [])) ?_ (next ⟨w.h.set b (.cells []),w.z,λi hi=>w.nP i hi⟩ st1.write);have h0:∀m,Nat.mul 0 m=0:=λm=>HY m;have e1:w.h.storeAt b 0 []=some (w.h.set b (.cells [])):=by
  unfold IH.storeAt;simp only[st1.get.1];rfl
 simp only[aH.run,hx,hs,pM,zC,ym];show cond (Nat.ble (Nat.mul (Nat.add 0 0) bytes) small&&Nat.ble (Nat.mul (Nat.add 0 0) size) small&&Nat.ble (Nat.add 0 0) small) (cond (Nat.ble (Nat.add 0 0) 0) (match w.h.storeAt b (Nat.add 0 (Nat.mul 0 size)) []with|some h=>some (Value.slice (some ⟨b,0,some 0⟩) (Nat.add 0 0) 0,h)|none=>none) _) none=_;rw[show Nat.add 0 0=0 from rfl,h0,h0,show Nat.add 0 0=0 from rfl,e1];have:(Nat.ble 0 small&&Nat.ble 0 small&&Nat.ble 0 small)=true:=rfl;rw[this];rfl
def J6{α:Type}{e:aC}{size bytes:Nat}(E:Enc α)(aN:ae (α×E.Y))(hne:0<aN.length)(hm:aN.length*bytes<=1073741824/\aN.length*size<=1073741824/\aN.length<=1073741824)
 (next:∀b',R (λh=>aJ P ds rest (act n ((d,.slice (some ⟨b',0,some size⟩) aN.length aN.length)::l) D pm ro) h K) B w0 (pt b' (.cells (gV E aN))::kl') F)
 (hs:ev l s=.slice (some ⟨b,0,some 0⟩) 0 0:=by rfl) (hx:ev l x=v:=by conv=>lhs;whnf) (hf:tK E v aN∈F:=by exact iP) (hz:E.n=size:=by rfl) (hk:aD (pt b (.cells [])) kl kl':=by exact fB) (hn:Nat.blt d n=true:=by rfl) (hg:cO l g=true:=by rfl):
 R (λh=>aJ P ds (⟨⟨some d,g,.append e size bytes s x⟩,[]⟩::rest) (act n l D pm ro) h K) B w0 kl F:=λw st=>by
 subst hz;have st1:=st.iw hk;have hat:At w.h b (.cells []):=st.at_ hk;obtain⟨k,hk'⟩:∃k,aN.length=k+1:=⟨aN.length - 1,tr⟩
 rcases st.facts _ hf with⟨rfl,_⟩|⟨i,o,f,c,cells,⟨e1,hc⟩,q2,q3⟩
 .simp at hne
 have hfl:=Gf aN;have hcells:∀j,j<aN.length*E.n->cells[o+j]? =(gV E aN)[j]?:=λj hj=>by
  have hn0:0<E.n:=by
   rcases Mm E.n with h0|h0
   .rw[h0]at hj;omega
   .exact h0
  have hd:j/E.n<aN.length:=by rw[Nat.div_lt_iff_lt_mul hn0];exact hj
  have hmod:=Nat.mod_lt j hn0;have hpk:=bX hd;have hu:(E.pat (aN[j/E.n]).1 (aN[j/E.n]).2)[j%E.n]? =some ((E.pat (aN[j/E.n]).1 (aN[j/E.n]).2)[j%E.n]'(by rw[E.len];exact hmod)):=bX _;have h1:=(q3 (j/E.n) _ hpk).1 (j%E.n) _ hu;have h2:=BK hpk hu;have FK:j/E.n*E.n+j%E.n=j:=by rw[Nat.mul_comm];exact Nat.div_add_mod j E.n
  rw[oM,FK]at h1;rw[FK]at h2;rw[h1,h2]
 have hlen:o+aN.length*E.n<=cells.length\/aN.length*E.n=0:=by
  rcases Mm (aN.length*E.n)with h0|h0
  .exact .inr h0
  .left;have h1:=hcells (aN.length*E.n - 1) tr;have hx0:(gV E aN)[aN.length*E.n - 1]? =some ((gV E aN)[aN.length*E.n - 1]'(tr)):=bX _;rw[hx0]at h1;have:=(bC.1 h1).1;omega
 have hpos:0<E.n\/E.n=0:=tr
 have hread:w.h.jh i o (aN.length*E.n)=some (gV E aN):=by
  rw[q2.cells.jh,qw,qD,if_pos vf];congr 1;apply jW;intro j;rw[vF];by_cases hj:j<aN.length*E.n
  .rw[if_pos hj,sK];exact hcells j hj
  .rw[if_neg hj,iq tr]
 refine Oi (b:=b) (o:=0) (m:=0) (k:=k) (f:=some 0) (old:=[]) (xs:=gV E aN) hn hg hs (by rw[hx,e1,hk'];rfl) ?_ ?_ (.inl rfl) ?_ λh' mv=>?_
 .rw[hx,e1,<- hk'];exact hread
 .rw[hat.c.jh,HY];rfl
 .rw[fq,<- hk'];omega
 obtain⟨w',rfl,kz,Dr⟩:=st1.move mv;rw[dU]at kz;have:=next w.h.next w' kz
 rw[hk']at this;rw[fq];exact this
end
end Go.Ideal
namespace Go.Ideal
variable {P:Program}
inductive DK(P:Program)(ty:TypeId):Value->Value->Bool->Prop
 |int {a b:Int} (h:P.underlying ty=some (.int .i64)):DK P ty (.int .i64 a) (.int .i64 b) (decide (a=b))
 |str {a b:ByteArray} (h:P.underlying ty=some .string):DK P ty (.string a) (.string b) (decide (a=b))
def J7:dZ P program=some P:=rfl
def O0{α:Type}{c:Prop}[Decidable c]{a b:Sem α}:dZ P (if c then a else b)=if c then dZ P a else dZ P b:=by split<;>rfl
variable{r:Bool}{ty:aC}{a b:ah}
def Vn(c:DK P ty a b r)(d:Nat):dZ P (Op.equalIn (d+1) ty a b)=some r:=by
 cases c with
 |int h=>
  unfold Op.equalIn;rw[iW,tq h];simp only[jB,if_true];rfl
 |str h=>
  unfold Op.equalIn;rw[iW,tq h];show some (_==_)=_;rw[bytes_beq]
def J8{v:ah}(c:DK P ty a b r){xs:Array ah}{o:Nat}(hx:xs[o]? =some v):dZ P (part ty xs o)=some v:=by
 have hu:∃d,P.underlying ty=some d/\(∀fs,d≠.struct fs)/\∀n e,d≠.array n e:=by
  cases c with
  |int h=>exact⟨_,h,(by intro _ e;cases e),(by intro _ _ e;cases e)⟩
  |str h=>exact⟨_,h,(by intro _ e;cases e),(by intro _ _ e;cases e)⟩
 obtain⟨d,h1,h2,h3⟩:=hu;have hag:dZ P (isAgg ty)=some false:=by
  unfold isAgg;rw[iW,tq h1];cases d with
  |struct fs=>exact absurd rfl (h2 fs)
  |array n e=>exact absurd rfl (h3 n e)
  |_=>rfl
 unfold part;rw[iW,hag];show dZ P (match xs[o]? with|some v=>pure v|none=>stuck "part: no such cell")=_;rw[hx];rfl
inductive DL(P:Program)(xs ys:List Value):List Field->Bool->Prop
 |nil:DL P xs ys [] true
 |cons {f:Field} {fs:List Field} {a b:Value} {r r':Bool} (hn:(f.name== "_")=false) (hx:xs[f.offset]? =some a) (hy:ys[f.offset]? =some b) (c:DK P f.type a b r) (t:DL P xs ys fs r'):DL P xs ys (f::fs) (r&&r')
def agb{d:Nat}{t:aC}{fs:Array Field}{xs ys:ae ah}(hu:P.underlying t=some (.struct fs))(hp:P.stoodInHeld t=false)(h:DL P xs ys fs.toList r):dZ P (Op.equalIn (d+2) t (.agg ⟨xs⟩) (.agg ⟨ys⟩))=some r:=by
 unfold Op.equalIn;rw[iW,tq hu];simp only[jB];rw[iW,J7];simp only[jB,hp,wW,if_false];rw[<- Array.forIn_toList];generalize fs.toList=l at h;clear hu;induction h with
 |nil=>rfl
 | @cons f fs a b r r' hn hx hy c t ih=>
   have hn:f.name≠ "_" :=by simpa using hn
   rw[List.forIn_cons];simp only[iW,O0,if_pos hn,hn,ne_eq,not_false_eq_true,if_true]at ih⊢;rw[J8 (xs:=⟨xs⟩) c tR,jB,J8 (xs:=⟨ys⟩) c (by simpa using hy),jB,Vn c,jB];cases r with
   |false=>rfl
   |true=>exact ih
section
variable {l:qr}
variable{t:aC}{x y:ay}{op:BinOp}
def agc{a b:Array ah}(hm:P.eqGuardType P.depth t=false):dZ P (eqGuard op t x y (.agg a) (.agg b))=some ():=by
 have key:dZ P (do if !(<- program).eqGuardType (<- program).depth t then return
                   if <- Op.eqGuardIn Op.maxDepth t (.agg a) (.agg b)then unsupported (.noEntry "binop\x2feql: two nil values of an interface type with methods, in a part of a struct or an array"))=some ():=by
  rw[iW,J7];simp only[jB];rw[iW,J7];simp only[jB,hm,Bool.not_false,if_true];rfl
 cases op<;>first|exact key|rfl
def Vo{a b:ae ah}{v:ah}(ha:gu a=true)(hb:gu b=true)(hm:P.eqGuardType P.depth t=false)(hv:dZ P (binOp op t (.agg ⟨a⟩) (.agg ⟨b⟩))=some v)(hf:cz v=true):mZ P op t x y (.agg ⟨a⟩) (.agg ⟨b⟩)=some v:=by
 have h1:lT P (do eqGuard op t x y (.agg ⟨a⟩) (.agg ⟨b⟩);binOp op t (.agg ⟨a⟩) (.agg ⟨b⟩))=some v:=by
  unfold lT;rw[iW,agc hm];simp only[jB,hv,hf,cond]
 show cond (cz (.agg ⟨a⟩)&&cz (.agg ⟨b⟩)) (lT P (do eqGuard op t x y (.agg ⟨a⟩) (.agg ⟨b⟩);binOp op t (.agg ⟨a⟩) (.agg ⟨b⟩))) _=_;rw[h1];simp[cz,ha,hb]
def DN{fs:Array Field}{xs ys:ae ah}{r:Bool}(hx:ev l x=.agg ⟨xs⟩)(hy:ev l y=.agg ⟨ys⟩)(hu:P.underlying t=some (.struct fs))(hp:P.stoodInHeld t=false)(hm:P.eqGuardType P.depth t=false)(h:DL P xs ys fs.toList r)(ha:gu xs=true)(hb:gu ys=true):
 Pu P (ev l) (.bin .neq t x y) (.bool (!r)):=λh0=>by
 simp only[aH.run,hx,hy];rw[Vo ha hb hm (v:=.bool (!r)) (by
  show dZ P (do pure (Value.bool (!(<- Op.equal t (.agg ⟨xs⟩) (.agg ⟨ys⟩)))))=_;rw[iW,show dZ P (Op.equal t (.agg ⟨xs⟩) (.agg ⟨ys⟩))=some r from agb (d:=9998) hu hp h];rfl) rfl]
variable{e:aC}{n:Nat}{xs ys:ae Int}
def Vp{d:Nat}(hu:P.underlying t=some (.array n e))(he:P.underlying e=some (.int .i64))(hs:P.info? e|>.map (·.size)|>(·=some 1))(hx:xs.length=n)(hy:ys.length=n):
 dZ P (Op.equalIn (d+2) t (.agg ⟨xs.map (.int .i64)⟩) (.agg ⟨ys.map (.int .i64)⟩))=some (decide (xs=ys)):=by
 have hsz:dZ P (sizeOf e)=some 1:=by
  unfold sizeOf typeInfo;cases hi:P.info? e with
  |none=>rw[hi]at hs;cases hs
  |some i=>
   rw[hi]at hs;have hs:i.size=1:=by simpa using hs
   simp only[iW,J7,jB,hi];rw[<- hs];rfl
 unfold Op.equalIn;rw[iW,tq hu];simp only[jB];rw[iW,hsz];simp only[jB,uu];rw[Std.Legacy.Range.forIn_eq_forIn_range'];simp only[Std.Legacy.Range.size,ED,Nat.add_sub_cancel,Nat.div_one];have key:∀(m i:Nat),i+m=n->dZ P (do
  let Vq <- forIn (List.range' i m 1) ((none,()):ak Bool×Unit) λi Vq=>
   (do let a <- part e ⟨xs.map (.int .i64)⟩ i
       let b <- part e ⟨ys.map (.int .i64)⟩ i
       let r <- Op.equalIn (d+1) e a b
       if(!r)=true then pure (ForInStep.done (some false,()))else pure (ForInStep.yield (none,())))
  match Vq.fst with
  |some r=>pure r
  |none=>pure true)=some (decide (xs.drop i=ys.drop i)):=by
  intro m;induction m with
  |zero=>
   intro i hi;rw[List.drop_eq_nil_of_le tr,List.drop_eq_nil_of_le tr];rfl
  |succ m ih=>
   intro i hi;have hix:i<xs.length:=tr
   have Vr:i<ys.length:=tr
   have c:DK P e (.int .i64 xs[i]) (.int .i64 ys[i]) (decide (xs[i]=ys[i])):=.int he;rw[List.range'_succ,List.forIn_cons];simp only[iW,O0];rw[J8 (xs:=⟨xs.map (.int .i64)⟩) (o:=i) (v:=.int .i64 xs[i]) c (by simp[hix]),jB,J8 (xs:=⟨ys.map (.int .i64)⟩) (o:=i) (v:=.int .i64 ys[i]) c (by simp[Vr]),jB,Vn c,jB];rw[x8 hix,x8 Vr];have ih:=ih (i+1) tr;simp only[iW,O0]at ih;by_cases hxy:xs[i]=ys[i]
   .rw[eB hxy];simp only[Bool.not_true,wW,if_false];show(dZ P _).bind _=_;rw[show decide (xs[i]::xs.drop (i+1)=ys[i]::ys.drop (i+1))=decide (xs.drop (i+1)=ys.drop (i+1))from pJ.2 (by rw[CG];exact⟨λh=>h.2,λh=>⟨hxy,h⟩⟩)];exact ih
   .rw[aY hxy];simp only[Bool.not_false,if_true];rw[show decide (xs[i]::xs.drop (i+1)=ys[i]::ys.drop (i+1))=false from aY (λh=>hxy (List.cons.inj h).1)];rfl
 have:=key n 0 tr;rw[AY,AY]at this;refine Eq.trans ?_ this;simp only[iW];congr 1;funext s
 cases s.fst<;>rfl
def agd(hx:ev l x=.agg ⟨xs.map (.int .i64)⟩)(hy:ev l y=.agg ⟨ys.map (.int .i64)⟩)(hu:P.underlying t=some (.array n e))(he:P.underlying e=some (.int .i64))(hs:P.info? e|>.map (·.size)|>(·=some 1))(hxl:xs.length=n)(hyl:ys.length=n)(hm:P.eqGuardType P.depth t=false):
 Pu P (ev l) (.bin .eql t x y) (.bool (decide (xs=ys))):=λh0=>by
 have hfr:∀zs:ae Int,gu (zs.map (Value.int .i64))=true:=by
  intro zs;induction zs with
  |nil=>rfl
  |cons z zs ih=>rw[iQ];simp[gu,cz,Ideal.cellV,ih]
 simp only[aH.run,hx,hy];rw[Vo (hfr xs) (hfr ys) hm (v:=.bool (decide (xs=ys))) (by
  show dZ P (do pure (Value.bool (<- Op.equal t (.agg ⟨xs.map (.int .i64)⟩) (.agg ⟨ys.map (.int .i64)⟩))))=_;rw[iW,show dZ P (Op.equal t (.agg ⟨xs.map (.int .i64)⟩) (.agg ⟨ys.map (.int .i64)⟩))=some (decide (xs=ys))from Vp (d:=9998) hu he hs hxl hyl];rfl) rfl]
def Gh(P:Program):ae Field->Nat->ae Bool->Bool
 |[],_,[]=>true
 |f::fs,i,k::ks=>!(f.name== "_")&&f.offset==i&&(match P.underlying f.type with
  |some (.int .i64)=>k
  |some .string=>!k
  |_=>false)&&Gh P fs (i+1) ks
 |_,_,_=>false
def cellsE:ae ah->ae ah->Bool
 | .int .i64 a::xs,.int .i64 b::ys=>decide (a=b)&&cellsE xs ys
 | .string a::xs,.string b::ys=>decide (a=b)&&cellsE xs ys
 |_,_=>true
def J9:ae Bool->ae ah->Bool
 |[],[]=>true
 |true::ks,.int .i64 _::vs=>J9 ks vs
 |false::ks,.string _::vs=>J9 ks vs
 |_,_=>false
def row_of{xs ys:ae ah}:∀{fs:ae Field} {i:Nat} {ks:ae Bool} {xs' ys':ae ah},Gh P fs i ks=true->J9 ks xs'=true->J9 ks ys'=true->(∀j,xs[i+j]? =xs'[j]?)->(∀j,ys[i+j]? =ys'[j]?)->DL P xs ys fs (cellsE xs' ys')
 |[],i,[],[],[],_,_,_,_,_=>.nil
 |f::fs,i,k::ks,[],ys',h,hx,hy,ex,ey=>by cases k<;>cases hx
 |f::fs,i,k::ks,x::xs',[],h,hx,hy,ex,ey=>by cases k<;>cases hy
 |f::fs,i,k::ks,x::xs',y::ys',h,hx,hy,ex,ey=>by
  simp only[Gh,dI]at h;obtain⟨⟨⟨h1,h2⟩,h3⟩,h4⟩:=h;have h2:f.offset=i:=wj
  have e1:xs[f.offset]? =some x:=by have:=ex 0;rw[AQ]at this;rw[h2,this];rfl
  have e2:ys[f.offset]? =some y:=by have:=ey 0;rw[AQ]at this;rw[h2,this];rfl
  have Vs:∀j,xs[i+1+j]? =xs'[j]?:=λj=>by have:=ex (j+1);rw[show i+1+j=i+(j+1)by omega,this];rfl
  have Vt:∀j,ys[i+1+j]? =ys'[j]?:=λj=>by have:=ey (j+1);rw[show i+1+j=i+(j+1)by omega,this];rfl
  cases k with
  |true=>
   match x,hx,y,hy with
   | .int .i64 a,hx,.int .i64 b,hy=>
     have hu:P.underlying f.type=some (.int .i64):=by
      cases hq:P.underlying f.type with
      |none=>rw[hq]at h3;cases h3
      |some q=>
       rw[hq]at h3;cases q with
       |int kk=>cases kk<;>first|rfl|cases h3
       |string=>cases h3
       |_=>cases h3
     exact .cons ur e1 e2 (.int hu) (row_of h4 hx hy Vs Vt)
  |false=>
   match x,hx,y,hy with
   | .string a,hx,.string b,hy=>
     have hu:P.underlying f.type=some .string:=by
      cases hq:P.underlying f.type with
      |none=>rw[hq]at h3;cases h3
      |some q=>
       rw[hq]at h3;cases q with
       |int kk=>cases kk<;>cases h3
       |string=>rfl
       |_=>cases h3
     exact .cons ur e1 e2 (.str hu) (row_of h4 hx hy Vs Vt)
end
end Go.Ideal
namespace Go.Ideal
variable {P:Program}
variable{ρ:ay->ah}{x:ay}
def O1{src dst:aC}{kk k:IntKind}{n m:Int}{ds:TypeDesc}(hs:P.underlying src=some ds)(hd:P.underlying dst=some (.int k))(hx:ρ x=.int kk n)(hw:k.wrap n=m):Pu P ρ (.conv src dst x) (.int k m):=λh=>by
 have h1:dZ P (convert src dst (.int kk n))=some (.int k m):=by
  unfold convert;rw[iW,tq hs];simp only[jB];rw[iW,tq hd];simp only[jB];rw[<- hw];rfl
 simp only[aH.run,hx,lT,h1];rfl
variable{a:Nat}
def age(h:a<18446744073709551616):IntKind.u64.wrap (a:Int)=a:=by
 show(let m:=(a:Int)%(2^64:Int);if false&&m>=(2^63:Int)then m - (2^64:Int)else m)=_;simp only[MB,wW,if_false];rw[Int.emod_eq_of_lt tr (by simpa using(by omega:(a:Int)<18446744073709551616))]
def agf{y:ay}{t:aC}{b:Nat}(hx:ρ x=.int .u64 (a:Int))(hy:ρ y=.int .u64 (b:Int))(hb:b<64):Pu P ρ (.bin .shr t x y) (.int .u64 ((a>>>b:Nat):Int)):=λh=>by
 have hv:dZ P (binOp .shr t (.int .u64 (a:Int)) (.int .u64 (b:Int)))=some (.int .u64 ((a>>>b:Nat):Int)):=by
  show dZ P (Op.shift .shr .u64 a .u64 b)=_;unfold Op.shift;rw[if_neg tr];show some (Value.int .u64 ((a:Int).fdiv (2^(min (b:Int).toNat 64))))=_;exact gE
 have h1:lT P (do eqGuard .shr t x y (.int .u64 (a:Int)) (.int .u64 (b:Int));binOp .shr t (.int .u64 (a:Int)) (.int .u64 (b:Int)))=some (.int .u64 ((a>>>b:Nat):Int)):=by
  unfold lT;rw[iW,Dt AW xj];simp only[jB,hv];rfl
 have h2:mZ P .shr t x y (.int .u64 (a:Int)) (.int .u64 (b:Int))=some (.int .u64 ((a>>>b:Nat):Int)):=by
  unfold mZ;have:(match vN .u64 .u64 with|true=>qp .shr .u64 (a:Int) (b:Int)|false=>none)=none:=rfl;simp only[vN,cz,Mq,cond];exact h1
 simp only[aH.run,hx,hy,h2]
def agh{α:Type}[DecidableEq α]{bq:α->ah}{kt:aC}{d:TypeDesc}(hu:P.underlying kt=some d)(hn:∀a b,Instr.sameNow d (bq a) (bq b)=none)(he:∀a b,dZ P (Op.equal kt (bq a) (bq b))=some (decide (a=b)))(a:α)(az:ae (α×ah))(es:ae MapEntry)(h:qA bq az es):uB P kt (bq a) es=some (qz a az 0):=by
 have agi:∀(az:ae (α×ah)) (es:ae MapEntry) (i:Nat),qA bq az es->dZ P (Instr.findAsking kt (bq a) es i)=some (qz a az i):=by
  intro az;induction az with
  |nil=>
   intro es i h;exact pw
  |cons p az ih=>
   intro es i h;obtain⟨e,es',rfl,h1,h2,h3⟩:=OT h;unfold Instr.findAsking;rw[iW,h1,he];simp only[jB];unfold qz;by_cases hab:a=p.1
   .rw[eB hab,if_pos hab,h2];rfl
   .rw[aY hab,if_neg hab];exact ih es' (i+1) h3
 unfold uB Instr.findKey;rw[iW,tq hu];simp only[jB];cases az with
 |nil=>
  exact pw
 |cons p az=>
  have h':=h;obtain⟨e,es',rfl,h1,h2,h3⟩:=OT h;have:Instr.findNow d (bq a) (e::es') 0=none:=by
   show(match Instr.sameNow d (bq a) e.key with
   |some true=>some (some (0,e.val))
   |some false=>Instr.findNow d (bq a) es' 1
   |none=>none)=_
   rw[h1,hn]
  rw[this];exact agi _ _ _ h'
abbrev BL:Int×Int->ah:=λp=>.agg ⟨[.int .i64 p.1,.int .i64 p.2]⟩
def agj{kt e:aC}(hu:P.underlying kt=some (.array 2 e))(he:P.underlying e=some (.int .i64))(hs:P.info? e|>.map (·.size)|>(·=some 1))(hc:∀a b:Int,sO P kt (.agg ⟨[.int .i64 a,.int .i64 b]⟩)=true):tJ P kt BL where
 F9 a:=hc a.1 a.2
 find a az es h:=agh hu (λa b=>rfl) (λa b=>by
  have:=Vp (d:=9998) (xs:=[a.1,a.2]) (ys:=[b.1,b.2]) hu he hs rfl rfl;rw[show decide (a=b)=decide ([a.1,a.2]=[b.1,b.2])from pJ.2 ⟨λh=>by rw[h],λh=>by
   injection h with h1 h2;injection h2 with h2;exact Prod.ext h1 h2⟩]
  exact this) a az es h
 same a:=by
  show((⟨[Value.int .i64 a.1,.int .i64 a.2]⟩:Array ah).size==(⟨[Value.int .i64 a.1,.int .i64 a.2]⟩:Array ah).size&&(List.zip [Value.int .i64 a.1,.int .i64 a.2] [Value.int .i64 a.1,.int .i64 a.2]).all λ(x,y)=>Instr.sameBits 9999 x y)=true;simp[Instr.sameBits]
end Go.Ideal
namespace Go.Ideal
section
variable {P:Program}
variable {ds:ae Tmp} {rest:ae bY} {n:Nat} {l:qr} {D:ae Deferred} {pm:ak FrameMode} {ro:ak Nat} {h:IH} {K:KO} {d:Nat} {g:ak (Tmp×Bool)}
variable{re:ae iU}
def Vu{op:aH}{v:ah}{h':IH}(hn:Nat.blt d n=true)(hg:cO l g=true)(hr:op.run P (ev l) h=some (v,h'))
 (hsm:∀q∈re,∃u h2,q.op.run P (ev ((d,v)::l)) h'=some (u,h2)/\∀d',q.dst=some d'->lk ((d,v)::l) d'=u)
 (next:aJ P ds rest (act n ((d,v)::l) D pm ro) h' K):aJ P ds (⟨⟨some d,g,op⟩,re⟩::rest) (act n l D pm ro) h K:=
 .mo (xC hg) v h' xf (λq hq _=>by
  obtain⟨u,h2,e1,e2⟩:=hsm q hq;exact gk) y4
variable{e:aC}{size bytes k:Nat}{s x:ay}{xs:ae ah}
def agk{b o m:Nat}{f:ak Nat}{old:ae ah}(hn:Nat.blt d n=true)(hg:cO l g=true)
 (hs:ev l s=.slice (some ⟨b,o,f⟩) m m) (hx:pM (ev l x)=some (k+1)) (hxs:nJ size (k+1) (ev l x) h=some xs) (hold:h.jh b o (m*size)=some old)
 (hf:f=some 0\/f=some size) (hm:(m+(k+1))*bytes<=1073741824/\(m+(k+1))*size<=1073741824/\m+(k+1)<=1073741824)
 (hsm:∀h',Bu h h' b (.cells (old++xs))->∀q∈re,∃u h2,q.op.run P (ev ((d,.slice (some ⟨h.next,0,some size⟩) (m+(k+1)) (m+(k+1)))::l)) h'=some (u,h2)/\∀d',q.dst=some d'->lk ((d,.slice (some ⟨h.next,0,some size⟩) (m+(k+1)) (m+(k+1)))::l) d'=u)
 (next:∀h',Bu h h' b (.cells (old++xs))->aJ P ds rest (act n ((d,.slice (some ⟨h.next,0,some size⟩) (m+(k+1)) (m+(k+1)))::l) D pm ro) h' K):
 aJ P ds (⟨⟨some d,g,.append e size bytes s x⟩,re⟩::rest) (act n l D pm ro) h K:=by
 have hle:∀{a b:Nat},a<=b->Nat.ble a b=true:=λh=>by rw[wV];exact h
 have hlt:Nat.ble (m+(k+1)) m=false:=by
  exact pS
 have hc:(Nat.ble (Nat.mul (m+(k+1)) bytes) small&&Nat.ble (Nat.mul (m+(k+1)) size) small&&Nat.ble (m+(k+1)) small)=true:=by
  exact hJ
 have hrun:∃h',(aH.append e size bytes s x).run P (ev l) h=some (.slice (some ⟨h.next,0,some size⟩) (m+(k+1)) (m+(k+1)),h')/\Bu h h' b (.cells (old++xs)):=by
  exact cm
 obtain⟨h',hr,hM⟩:=hrun;exact Vu hn hg hr (hsm h' hM) (next h' hM)
def agl{c:Nat}(hn:Nat.blt d n=true)(hg:cO l g=true)
 (hs:ev l s=.slice none 0 0) (hx:pM (ev l x)=some (k+1)) (hxs:nJ size (k+1) (ev l x) h=some xs)
 (hm:(k+1)*bytes<=1073741824/\(k+1)*size<=1073741824/\(k+1)<=1073741824)
 (hsm:∀h',Agree h h'->At h' h.next (.cells xs)->h'.next=h.next+1->∀q∈re,∃u h2,q.op.run P (ev ((d,.slice (some ⟨h.next,0,some size⟩) (k+1) (k+1))::l)) h'=some (u,h2)/\∀d',q.dst=some d'->lk ((d,.slice (some ⟨h.next,0,some size⟩) (k+1) (k+1))::l) d'=u)
 (next:∀h',Agree h h'->At h' h.next (.cells xs)->h'.next=h.next+1->aJ P ds rest (act n ((d,.slice (some ⟨h.next,0,some size⟩) (k+1) (k+1))::l) D pm ro) h' K):
 aJ P ds (⟨⟨some d,g,.append e size bytes s x⟩,re⟩::rest) (act n l D pm ro) h K:=by
 have hle:∀{a b:Nat},a<=b->Nat.ble a b=true:=λh=>by rw[wV];exact h
 have e0:Nat.add 0 (k+1)=k+1:=fq _;refine Vu hn hg (h':=h.new (.cells xs)) ?_ (hsm _ (Ob _ _) (Oc _ _) rfl) (next _ (Ob _ _) (Oc _ _) rfl);have Bv:zC size (k+1) (ev l x) h=some xs:=hxs;simp only[aH.run,hx,Bv,hs,ym,e0];rw[hle (show Nat.mul (k+1) bytes<=small from hm.1),hle (show Nat.mul (k+1) size<=small from hm.2.1),hle (show k+1<=small from hm.2.2)];have e1:nJ size 0 (.slice none 0 0) h=some []:=by
  exact rL
 have e2:Nat.ble (k+1) 0=false:=rfl;simp only[Mq,cond_true,e2,cond_false,e1,jQ,dU]
end
section
variable {P:Program}
variable {ρ:ay->ah}
variable {B:ae Nat} {w0:Wd} {kl kl':ae OA} {F:ae aP} {a:bi} {K:KO}
variable {y:dA} {i j m0:Nat} {I:Nat->bi->IH->Prop} {ch:ae PanicEntry}
variable {B:ae Nat} {w0:Wd} {kl kl':ae OA} {F:ae aP} {K:KO} {ds:ae Tmp} {rest:ae bY} {n:Nat} {l:qr} {D:ae Deferred} {pm:ak FrameMode} {ro:ak Nat} {d:Nat} {g:ak (Tmp×Bool)}
def agm{re:ae iU}{α:Type}{E:Enc α}{e:aC}{size bytes b':Nat}{s x:ay}{v:ah}{xs:ae α}{a:α}{y:E.Y}{cs:ae ah}{k1 k2:ae OA}(hn:Nat.blt d n=true)(hg:cO l g=true)
 (hs:ev l s=v) (hx:ev l x=.slice (some ⟨b',0,some 0⟩) 1 1) (hk:aD (ap E v xs) kl k1) (hc:aD (pt b' (.cells cs)) k1 k2) (hp:cs=E.pat a y) (hF:Sub (E.fs a y) F) (hz:E.n=size)
 (hm:(xs.length+1)*bytes<=1073741824/\(xs.length+1)*size<=1073741824/\xs.length+1<=1073741824)
 (hsm:∀ad,Same P re (ev ((d,.slice ad (xs.length+1) (xs.length+1))::l)) ((d,.slice ad (xs.length+1) (xs.length+1))::l) B w0 (ap E (.slice ad (xs.length+1) (xs.length+1)) (xs++[a])::k2) F)
 (r:∀ad,R (λh=>aJ P ds rest (act n ((d,.slice ad (xs.length+1) (xs.length+1))::l) D pm ro) h K) B w0 (ap E (.slice ad (xs.length+1) (xs.length+1)) (xs++[a])::k2) F):
 R (λh=>aJ P ds (⟨⟨some d,g,.append e size bytes s x⟩,re⟩::rest) (act n l D pm ro) h K) B w0 kl F:=by
 intro w st;subst hp hz;have hlen:=E.len a y;have st2:St B w0 (ap E v xs::pt b' (.cells (E.pat a y))::k2) F w:=st.kV (.cons hk (.cons hc .nil));have hat:At w.h b' (.cells (E.pat a y)):=st2.at_ (.there .here);have nQ:St B w0 (ap E v xs::k2) F w:=(st2.iw (.there .here)).tail;have hfs:∀f∈E.fs a y,f.p w:=λf hf=>st.facts f (hF.mem f hf);have hread:w.h.jh b' 0 (1*E.n)=some (E.pat a y):=by
  exact mA
 have hx1:pM (ev l x)=some (0+1):=by rw[hx];rfl
 have hx2:nJ E.n (0+1) (ev l x) w.h=some (E.pat a y):=AT
 have put:∀(w':Wd) (c:Nat) (f:Nat) (cells:ae ah),cells.length=xs.length*E.n->(∀(k:Nat) z,xs[k]? =some z->∃y,(∀(j:Nat) u,(E.pat z y)[j]? =some u->cells[k*E.n+j]? =some u)/\∀f∈E.fs z y,f.p w')->(∀f∈E.fs a y,f.p w')->
  (f=0\/f=E.n)->∀S,(pt c (.cells (cells++E.pat a y))).p w' S->(ap E (.slice (some ⟨c,0,some f⟩) (xs.length+1) (xs.length+1)) (xs++[a])).p w' S:=by
  intro w' c f cells h1 h2 h3 h4 S hp;refine .inr ⟨c,0,f,_,by rw[ik];rfl,h4,hp.1,hp.2,by rw[ik,ik,h1,hlen,vI,sM,zy,fq],λk z hk=>?_⟩;by_cases hlt:k<xs.length
  .exact de
  .exact cS
 obtain⟨S,⟨S1,S2,q,q2,e1⟩,hnd,hown⟩:=nQ.own;rcases q with⟨rfl,rfl,rfl⟩|⟨b,o,f,cells,rfl,hf,rfl,hb,hcl,hel⟩
 .have key:∀h',Agree w.h h'->At h' w.h.next (.cells (E.pat a y))->h'.next=w.h.next+1->∃w':Wd,w'.h=h'/\St B w0 (ap E (.slice (some ⟨w.h.next,0,some E.n⟩) (([]:ae α).length+1) (([]:ae α).length+1)) ([]++[a])::k2) F w':=λh' ag pY hnx=>by
   obtain⟨w',rfl,kz⟩:=nQ.tail.fresh ag pY hnx;refine⟨w',rfl,?_⟩;have hle:∀f∈E.fs a y,f.p w':=λf hf=>kz.facts f (hF.mem f hf);exact kz.zV λS hp=>put w' _ E.n [] tt (λk z hk=>by cases hk) hle (.inr rfl) S hp
  refine agl (c:=0) hn hg hs hx1 hx2 (by simpa using hm) (λh' ag pY hnx=>?_) λh' ag pY hnx=>?_
  .obtain⟨w',rfl,kz⟩:=key h' ag pY hnx;exact hsm _ w' kz
  .obtain⟨w',rfl,kz⟩:=key h' ag pY hnx;exact r _ w' kz
 .have zW:St B w0 (pt b (.cells cells)::k2) F w:=⟨nQ.agree,nQ.le,nQ.ig,⟨S,⟨_,S2,⟨rfl,hb⟩,q2,e1⟩,hnd,hown⟩,nQ.facts⟩
  have FN:At w.h b (.cells cells):=zW.at_ .here;have key:∀h',Bu w.h h' b (.cells (cells.drop o++E.pat a y))->∃w':Wd,w'.h=h'/\St B w0 (ap E (.slice (some ⟨w.h.next,0,some E.n⟩) (xs.length+1) (xs.length+1)) (xs++[a])::k2) F w':=λh' mv=>by
   obtain⟨w',rfl,kz,Dr⟩:=zW.move mv;refine⟨w',rfl,kz.zV λS hp=>?_⟩;have hle:∀f∈E.fs a y,f.p w':=λf hf=>kz.facts f (hF.mem f hf);refine put w' _ E.n (cells.drop o) vf (λk z hk=>?_) hle (.inr rfl) S hp;obtain⟨y',u1,u2⟩:=hel k z hk;exact⟨y',λj u hj=>by rw[sK,<- oM];exact u1 j u hj,λf hf=>f.mono Dr (u2 f hf)⟩
  refine agk (old:=cells.drop o) (xs:=E.pat a y) hn hg hs hx1 hx2 ?_ (hf.elim (λe=>.inl (by rw[e])) λe=>.inr (by rw[e])) hm (λh' mv=>?_) λh' mv=>?_
  .have hdl:(cells.drop o).length=xs.length*E.n:=by rw[vH];omega
   rw[FN.c.jh,qw,qD,if_pos tr,<- hdl,bM]
  .obtain⟨w',rfl,kz⟩:=key h' mv;exact hsm _ w' kz
  .obtain⟨w',rfl,kz⟩:=key h' mv;exact r _ w' kz
end
section
variable {P:Program} {B:ae Nat} {w0:Wd} {kl kl' bD:ae OA} {F:ae aP} {K:KO} {n:Nat} {l:qr} {D:ae Deferred} {pm:ak FrameMode} {ro:ak Nat}
def Vv{re:ae iU}{α:Type}(E:Enc α){ds:ae Tmp}{rest:ae bY}{d:Nat}{g:ak (Tmp×Bool)}{e:aC}{size bytes b':Nat}{s x:ay}{v:ah}{xs:ae α}(a:α)(y:E.Y){cs:ae ah}{k1 k2:ae OA}
 (hm:(xs.length+1)*bytes<=1073741824/\(xs.length+1)*size<=1073741824/\xs.length+1<=1073741824)
 (next:∀ad,R (λh=>aJ P ds rest (act n ((d,.slice ad (xs.length+1) (xs.length+1))::l) D pm ro) h K) B w0 (ap E (.slice ad (xs.length+1) (xs.length+1)) (xs++[a])::k2) F)
 (hn:Nat.blt d n=true:=by rfl) (hg:cO l g=true:=by rfl)
 (hs:ev l s=v:=by conv=>lhs;whnf) (hx:ev l x=.slice (some ⟨b',0,some 0⟩) 1 1:=by rfl) (hk:aD (ap E v xs) kl k1:=by exact fB) (hc:aD (pt b' (.cells cs)) k1 k2:=by exact fB) (hp:cs=E.pat a y:=by rfl) (hF:Sub (E.fs a y) F:=by exact mE) (hz:E.n=size:=by rfl)
 (hsm:∀ad,Same P re (ev ((d,.slice ad (xs.length+1) (xs.length+1))::l)) ((d,.slice ad (xs.length+1) (xs.length+1))::l) B w0 (ap E (.slice ad (xs.length+1) (xs.length+1)) (xs++[a])::k2) F:=by intro _;repeat (first|exact Du|refine Dv rfl fB tD rfl ?_|refine FO rfl iP tD rfl ?_|refine FP rfl iP tD rfl ?_|refine FQ rfl fB tD rfl ?_|refine FT rfl iP tD rfl ?_|refine FU rfl iP tD rfl ?_|refine Uz B1 rfl ?_)):
 R (λh=>aJ P ds (⟨⟨some d,g,.append e size bytes s x⟩,re⟩::rest) (act n l D pm ro) h K) B w0 kl F:=
 agm hn hg hs hx hk hc hp hF hz hm hsm next
end
variable {P:Program}
section
variable {α κ:Type} [DecidableEq κ] {bq:κ->ah} {E:Enc α}
def oZ(E:Enc α):ae (κ×ah)->ae (κ×ae α)->ae OA
 |p::az,q::m=>ap E p.2 q.2::oZ E az m
 |_,_=>[]
def uS(E:Enc α)(n:κ):ae (κ×ah)->ae (κ×ae α)->ae OA
 |p::az,q::m=>if n=p.1 then oZ E az m else ap E p.2 q.2::uS E n az m
 |_,_=>[]
def Gi(bq:κ->ah)(E:Enc α)(b:Nat)(m:ae (κ×ae α)):OA:=
 ⟨λw S=>∃az:ae (κ×ah),az.map (·.1)=m.map (·.1)/\fP w (iG bq b az::oZ E az m) S,λa h ⟨az,h1,h2⟩=>⟨az,h1,fP.loc a h h2⟩⟩
def Vw(E:Enc α)(n:κ)(az:ae (κ×ah))(m:ae (κ×ae α)):OA:=⟨λw S=>fP w (uS E n az m) S,λa h hp=>fP.loc a h hp⟩
def Vx(E:Enc α)(az:ae (κ×ah))(m:ae (κ×ae α)):OA:=⟨λw S=>fP w (oZ E az m) S,λa h hp=>fP.loc a h hp⟩
def Vy(E:Enc α)(az:ae (κ×ah))(m:ae (κ×ae α)):aP:=
 ⟨λw=>∀n v xs,dK n az=some v->dK n m=some xs->(aj E v xs).p w,λa h n v xs h1 h2=>(aj E v xs).mono a (h n v xs h1 h2)⟩
def O3{β γ:Type}{n:κ}:∀{az:ae (κ×β)} {m:ae (κ×γ)},az.map (·.1)=m.map (·.1)->(dK n az=none↔dK n m=none)
 |[],[],_=>⟨λ_=>rfl,λ_=>rfl⟩
 |(a,u)::az,(b,x)::m,h=>by
  rw[iQ,iQ]at h;injection h with h1 h2;have h1:a=b:=h1;subst h1;unfold dK;by_cases e:n=a
  .rw[if_pos e,if_pos e];exact⟨λh=>(nomatch h),λh=>(nomatch h)⟩
  .rw[if_neg e,if_neg e];exact O3 h2
 |[],_::_,h=>by cases h
 |_::_,[],h=>by cases h
def Vz{n:κ}:∀{az:ae (κ×ah)} {m:ae (κ×ae α)},dK n az=none->uS E n az m=oZ E az m
 |[],_,_=>by unfold uS oZ;rfl
 |_::_,[],_=>by unfold uS oZ;rfl
 |(a,u)::az,(b,x)::m,h=>by
  unfold dK at h;by_cases e:n=a
  .rw[if_pos e]at h;cases h
  .rw[if_neg e]at h;unfold uS oZ;rw[if_neg e,Vz h]
def O4{n:κ}{v:ah}{xs:ae α}:∀{az:ae (κ×ah)} {m:ae (κ×ae α)},az.map (·.1)=m.map (·.1)->dK n az=some v->dK n m=some xs->aD (ap E v xs) (oZ E az m) (uS E n az m)
 |[],_,_,h,_=>by cases h
 |_::_,[],h,_,_=>by cases h
 |(a,u)::az,(b,x)::m,h,h1,h2=>by
  rw[iQ,iQ]at h;injection h with e1 e2;have e1:a=b:=e1;subst e1;unfold dK at h1 h2;unfold oZ uS;by_cases e:n=a
  .rw[if_pos e]at h1 h2⊢;cases h1;cases h2;exact .here
  .rw[if_neg e]at h1 h2⊢;exact .there (O4 e2 h1 h2)
def VA{n:κ}{v:ah}{xs:ae α}:∀{az:ae (κ×ah)} {m:ae (κ×ae α)},az.map (·.1)=m.map (·.1)->aD (ap E v xs) (oZ E (upd n v az) (upd n xs m)) (uS E n az m)
 |[],[],_=>by unfold upd uS oZ oZ;exact .here
 |[],_::_,h=>by cases h
 |_::_,[],h=>by cases h
 |(a,u)::az,(b,x)::m,h=>by
  rw[iQ,iQ]at h;injection h with e1 e2;have e1:a=b:=e1;subst e1;unfold upd uS;by_cases e:n=a
  .rw[if_pos e,if_pos e,if_pos e];rw[show oZ E ((n,v)::az) ((n,xs)::m)=ap E v xs::oZ E az m from rfl];exact .here
  .rw[if_neg e,if_neg e,if_neg e];rw[show oZ E ((a,u)::upd n v az) ((a,x)::upd n xs m)=ap E u x::oZ E (upd n v az) (upd n xs m)from rfl];exact .there (VA e2)
def Gj{β γ:Type}{n:κ}{v:β}{x:γ}:∀{az:ae (κ×β)} {m:ae (κ×γ)},az.map (·.1)=m.map (·.1)->(upd n v az).map (·.1)=(upd n x m).map (·.1)
 |[],[],_=>rfl
 |[],_::_,h=>by cases h
 |_::_,[],h=>by cases h
 |(a,u)::az,(b,y)::m,h=>by
  rw[iQ,iQ]at h;injection h with e1 e2;have e1:a=b:=e1;subst e1;unfold upd;by_cases e:n=a
  .rw[if_pos e,if_pos e,iQ,iQ,e2]
  .rw[if_neg e,if_neg e,iQ,iQ,Gj e2]
variable {B:ae Nat} {w0:Wd} {kl kl' bD k1 k2:ae OA} {F:ae aP} {Q:IH->Prop} {b:Nat} {m:ae (κ×ae α)}
def agn(E:Enc α)(h:R Q B w0 (Gi bq E b ([]:ae (κ×ae α))::kl') F)(hk:aD (iG bq b []) kl kl':=by exact fB):R Q B w0 kl F:=
 .perm (λw S hS=>by
  obtain⟨S',⟨T1,T2,u1,u2,e⟩,hp⟩:=hS.iw hk;exact⟨S',⟨T1,T2,⟨[],rfl,T1,[],u1,rfl,tt⟩,u2,e⟩,hp⟩) h
def agp(n:κ)(hk:aD (Gi bq E b m) kl kl':=by exact fB)
 (h:∀(az:ae (κ×ah)) (v:ah),az.map (·.1)=m.map (·.1)->lX false (.slice none 0 0) n az=v->R Q B w0 (iG bq b az::ap E v ((dK n m).getD [])::Vw E n az m::kl') F):R Q B w0 kl F:=λw s=>by
 obtain⟨S,⟨S1,S2,⟨az,hkeys,T1,T2,u1,u2,e1⟩,q2,e⟩,hnd,hall⟩:=(s.iw hk).own;have key:∃T',fP w (ap E (lX false (.slice none 0 0) n az) ((dK n m).getD [])::uS E n az m) T'/\T2.Perm T':=by
  cases hl:dK n az with
  |none=>
   have hm:=(O3 (n:=n) hkeys).1 hl;have e1:lX false (.slice none 0 0) n az=.slice none 0 0:=by unfold lX;rw[hl];rfl
   rw[e1,hm,Vz hl];exact⟨T2,⟨[],T2,.inl ⟨rfl,rfl,rfl⟩,u2,rfl⟩,.refl _⟩
  |some v=>
   cases hm:dK n m with
   |none=>rw[(O3 (n:=n) hkeys).2 hm]at hl;cases hl
   |some xs=>
    have e1:lX false (.slice none 0 0) n az=v:=by unfold lX;rw[hl];rfl
    rw[e1];exact u2.iw (O4 hkeys hl hm)
 obtain⟨T',⟨T3,T4,u3,u4,e3⟩,hp⟩:=key;subst e e1 e3;have hperm:((T1++T2)++S2).Perm (T1++(T3++(T4++S2))):=by
  rw[gz];refine List.Perm.append_left T1 ?_;rw[<- gz];exact List.Perm.append_right S2 hp
 exact h az _ hkeys rfl w ⟨s.agree,s.le,s.ig,⟨_,⟨T1,_,u1,⟨T3,_,u3,⟨T4,S2,u4,q2,rfl⟩,rfl⟩,rfl⟩,hperm.nodup hnd,λi hi=>hall i (hperm.mem_iff.2 hi)⟩,s.facts⟩
def agq(n:κ){az:ae (κ×ah)}{v:ah}{xs:ae α}(hkeys:az.map (·.1)=m.map (·.1))(h:R Q B w0 (Gi bq E b (upd n xs m)::bD) F)
 (h1:aD (iG bq b (upd n v az)) kl k1:=by exact fB) (h2:aD (ap E v xs) k1 k2:=by exact fB) (h3:aD (Vw E n az m) k2 bD:=by exact fB):R Q B w0 kl F:=
 .perm (λw S hS=>by
  obtain⟨S1,S2,q1,q2,hp⟩:=hS.kV (.cons h1 (.cons h2 (.cons h3 .nil)));obtain⟨T1,U1,u1,⟨T2,U2,u2,⟨T3,U3,u3,u4,e3⟩,e2⟩,e1⟩:=q1;have u4:U3=[]:=u4;subst u4 e3 e2 e1;obtain⟨V,v1,v2⟩:=fP.OM (VA (E:=E) (n:=n) (v:=v) (xs:=xs) hkeys) (S:=T2++T3) (w:=w) ⟨T2,T3,u2,u3,rfl⟩;refine⟨(T1++V)++S2,⟨T1++V,S2,⟨upd n v az,Gj hkeys,⟨T1,V,u1,v1,rfl⟩⟩,q2,rfl⟩,hp.trans ?_⟩;exact pP) h
def agr(h:∀az:ae (κ×ah),az.map (·.1)=m.map (·.1)->R Q B w0 (iG bq b az::Vx E az m::kl') F)(hk:aD (Gi bq E b m) kl kl':=by exact fB):R Q B w0 kl F:=λw s=>by
 obtain⟨S,⟨S1,S2,⟨az,hkeys,T1,T2,u1,u2,e1⟩,q2,e⟩,hnd,hall⟩:=(s.iw hk).own;subst e e1;refine h az hkeys w ⟨s.agree,s.le,s.ig,⟨T1++(T2++S2),⟨T1,_,u1,⟨T2,S2,u2,q2,rfl⟩,rfl⟩,?_,λi hi=>hall i ?_⟩,s.facts⟩
 .rw[<- gz];exact hnd
 .rw[gz];exact hi
def agt{az:ae (κ×ah)}(hkeys:az.map (·.1)=m.map (·.1)):sZ (Vx E az m) [Vy E az m]:=by
 intro w w' S hS hle hh hz f hf;rw[bK.1 hf];have hS:fP w (oZ E az m) S:=hS;clear hf;intro n v xs h1 h2;obtain⟨S',⟨T1,T2,u1,_,e⟩,hp⟩:=hS.iw (O4 hkeys h1 h2);subst e;exact gI w w' T1 u1 hle hh (λi hi=>hz i (hp.mem_iff.2 (lq _ hi))) _ (bK.2 rfl)
end
end Go.Ideal
namespace Go.Ideal
variable {P:Program} {B:ae Nat} {w0:Wd} {kl kl' bD:ae OA} {F:ae aP} {K:KO} {ds:ae Tmp} {rest:ae bY} {n:Nat} {l:qr} {D:ae Deferred} {pm:ak FrameMode} {ro:ak Nat} {d:Nat} {g:ak (Tmp×Bool)}
def Ka{α:Type}(E:Enc α){x i:ay}{v:ah}{xss:ae (ae α)}(k:Nat)(xs:ae α){kk:IntKind}{d2:Nat}{g2:ak (Tmp×Bool)}(hz:xss[k]? =some xs)
 (next:∀b o u,R (λh=>aJ P ds rest (act n ((d2,u)::(d,.pointer (some ⟨b,o,none⟩))::l) D pm ro) h K) B w0 kl (aj E u xs::F))
 (hn:Nat.blt d n=true:=by rfl) (hg:cO l g=true:=by rfl) (hn2:Nat.blt d2 n=true:=by rfl) (hg2:∀u,cO ((d,u)::l) g2=true:=by intro _;rfl) (hx:ev l x=v:=by conv=>lhs;whnf) (hi:ev l i=.int kk (k:Int):=by rfl)
 (hk:aD (ap (aA E) v xss) kl kl':=by exact fB):
 R (λh=>aJ P ds (⟨⟨some d,g,.oq 1 x i⟩,[]⟩::⟨⟨some d2,g2,.iE (.tmp d)⟩,[]⟩::rest) (act n l D pm ro) h K) B w0 kl F:=by
 intro w s;have s1:=s.iw hk;obtain⟨S,⟨S1,S2,p,p2,e⟩,h2,h3⟩:=s1.own;have hlt:=(bC.1 hz).1;rcases p with⟨h,_⟩|⟨b,o,f,cells,e1,hf,e2,hb,hcl,hel⟩
 .rw[h]at hz;cases hz
 .subst e1;obtain⟨y,u1,u2⟩:=hel k xs hz;have hc:cells[o+(k:Int).toNat*1]? =some y:=by
   have:=u1 0 y rfl;simpa[aA]using this
  refine Oh hn hg hx hi tr tr ?_;have hbS:b∈S:=by rw[e,e2];simp
  refine I5 hn2 (hg2 _) (by show lk _ d=_;simp[lk]) ⟨(h3 b hbS).2.1,hb⟩ hc (next _ _ y w ⟨s.agree,s.le,s.ig,s.own,λf hf=>?_⟩);rcases bT.1 hf with rfl|hf
  .exact u2 _ (bK.2 rfl)
  .exact s.facts f hf
end Go.Ideal
namespace Go.Ideal
variable {P:Program} {B:ae Nat} {w0:Wd} {kl kl' bD k1 k2:ae OA} {F:ae aP} {Q:IH->Prop}
section
variable {β:Type} (A:ah->β->OA)
def uT(vs:ae ah)(xss:ae β):ae OA:=(vs.zip xss).map λp=>A p.1 p.2
def o8(b:Nat)(xss:ae β):OA:=
 ⟨λw S=>∃vs:ae ah,vs.length=xss.length/\fP w (pt b (.cells vs)::uT A vs xss) S,λa h ⟨vs,h1,h2⟩=>⟨vs,h1,fP.loc a h h2⟩⟩
def VB(vs:ae ah)(xss:ae β)(k:Nat):OA:=
 ⟨λw S=>fP w ((uT A vs xss).eraseIdx k) S,λa h hp=>fP.loc a h hp⟩
variable{xss:ae β}{k:Nat}{vs:ae ah}{v:ah}{xs:β}
def VC(hv:vs[k]? =some v)(hx:xss[k]? =some xs):(uT A vs xss)[k]? =some (A v xs):=by
 simp[uT,List.zip,dN,List.getElem?_zipWith,hv,hx]
variable{b:Nat}
def VD(hx:xss[k]? =some xs)(hk:aD (o8 A b xss) kl kl':=by exact fB)
 (h:∀(vs:ae ah) (v:ah),vs.length=xss.length->vs[k]? =some v->R Q B w0 (pt b (.cells vs)::A v xs::VB A vs xss k::kl') F):R Q B w0 kl F:=λw s=>by
 obtain⟨S,⟨S1,S2,⟨vs,h1,h2⟩,q2,e⟩,hnd,hall⟩:=(s.iw hk).own;subst e;have hlt:=(bC.1 hx).1;have hv:vs[k]? =some (vs[k]'(tr)):=bX tr;refine h vs _ h1 hv w ?_;have hg:(uT A vs xss)[k]? =some (A (vs[k]'(tr)) xs):=VC A hv hx;obtain⟨T1,T2,u1,u2,e⟩:=h2;obtain⟨T3,⟨T4,T5,u4,u5,e5⟩,u6⟩:=u2.iw (aD.at hg);subst e5 e;have hperm:((T1++T2)++S2).Perm (T1++(T4++(T5++S2))):=by
  rw[gz];refine List.Perm.append_left T1 ?_;rw[<- gz];exact List.Perm.append_right S2 u6
 exact⟨s.agree,s.le,s.ig,⟨T1++(T4++(T5++S2)),⟨T1,_,u1,⟨T4,_,u4,⟨T5,S2,u5,q2,rfl⟩,rfl⟩,rfl⟩,hperm.nodup hnd,λi hi=>hall i (hperm.mem_iff.2 hi)⟩,s.facts⟩
def agu:uT A (vs.set k v) (xss.set k xs)=(uT A vs xss).set k (A v xs):=by
 apply jW;intro j;simp only[uT,dN,nI,List.zip,List.getElem?_zipWith];by_cases e:k=j
 .subst e;by_cases h1:k<vs.length
  .by_cases h2:k<xss.length
   .simp[h1,h2];omega
   .simp[h1,h2];omega
  .simp[h1];omega
 .simp[e]
def VE{xs:β}(hlen:vs.length=xss.length)(hk:k<xss.length)(h1:aD (pt b (.cells (vs.set k v))) kl k1:=by exact fB)
 (h2:aD (A v xs) k1 k2:=by exact fB) (h3:aD (VB A vs xss k) k2 bD:=by exact fB) (h:R Q B w0 (o8 A b (xss.set k xs)::bD) F):R Q B w0 kl F:=
 .perm (λw S hS=>by
  obtain⟨S1,S2,q1,q2,hp⟩:=hS.kV (.cons h1 (.cons h2 (.cons h3 .nil)));obtain⟨T1,U1,u1,⟨T2,U2,u2,⟨T3,U3,u3,u4,e3⟩,e2⟩,e1⟩:=q1;have u4:U3=[]:=u4;subst u4 e3 e2 e1;have hl:((uT A vs xss).set k (A v xs))[k]? =some (A v xs):=by
   rw[nI,if_pos rfl,if_pos (by simp[uT];omega)]
  obtain⟨V,v1,v2⟩:=fP.OM (aD.at hl) (S:=T2++T3) (w:=w) ⟨T2,T3,u2,by rw[UL];exact u3,rfl⟩;refine⟨(T1++V)++S2,⟨T1++V,S2,⟨vs.set k v,by simp[hlen],⟨T1,V,u1,by rw[agu];exact v1,rfl⟩⟩,q2,rfl⟩,hp.trans ?_⟩;exact pP) h
def agv{m:Nat}{v0:ah}{x0:β}(h0:∀w,(A v0 x0).p w [])(hk:aD (pt b (.cells (List.replicate m v0))) kl kl':=by exact fB)(h:R Q B w0 (o8 A b (List.replicate m x0)::kl') F):R Q B w0 kl F:=
 .perm (λw S hS=>by
  obtain⟨S',⟨T1,T2,u1,u2,e⟩,hp⟩:=hS.iw hk;refine⟨S',⟨T1,T2,⟨List.replicate m v0,tt,⟨T1,[],u1,?_,tt⟩⟩,u2,e⟩,hp⟩;have:∀m,fP w (uT A (List.replicate m v0) (List.replicate m x0)) []:=by
   intro m;induction m with
   |zero=>rfl
   |succ m ih=>exact⟨[],[],h0 w,ih,rfl⟩
  exact this m) h
def agw{E:Enc β}{c:Nat}(fv:ah->E.Y)(hn:E.n=1)(hpat:∀x v,E.pat x (fv v)=[v])(hA:∀v xs,sZ (A v xs) (E.fs xs (fv v)))(hc:xss.length<=c:=by first|exact bQ _|omega):sZ (o8 A b xss) [aj E (.slice (some ⟨b,0,some 0⟩) xss.length c) xss]:=by
 intro w w' S ⟨vs,hlen,T1,T2,⟨h1,h2⟩,u2,e⟩ hle hh hz f hf;subst e;rw[bK.1 hf];refine .inr ⟨b,0,0,c,vs,⟨rfl,hc,.inl rfl⟩,⟨hz b yy,.inl AS⟩,λk xs hk=>?_⟩;have hlt:=(bC.1 hk).1;have hv:vs[k]? =some (vs[k]'(tr)):=bX tr;have hg:(uT A vs xss)[k]? =some (A (vs[k]'(tr)) xs):=VC A hv hk;obtain⟨T3,⟨T4,T5,u4,u5,e5⟩,u6⟩:=u2.iw (aD.at hg);subst e5;refine⟨fv (vs[k]'(tr)),λj u hj=>?_,λg hgm=>?_⟩
 .rw[hpat]at hj;match j,hj with
  |0,hj=>
   cases hj;show vs[0+k*E.n+0]? =_;rw[hn];simp
 .exact hA _ _ w w' T4 u4 hle hh (λi hi=>hz i (pI _ (u6.mem_iff.2 (lq _ hi)))) g hgm
end
def Kb{α:Type}(v:ah)(xs:ae α):aP:=⟨λ_=>xs=[]->v=.slice none 0 0,λ_ h=>h⟩
def mF{α:Type}(E:Enc α)(v:ah)(xs:ae α):OA:=⟨λw S=>(ap E v xs).p w S/\(xs=[]->v=.slice none 0 0),λa h hp=>⟨(ap E v xs).loc a h hp.1,hp.2⟩⟩
def uU{α:Type}(E:Enc α):Enc (ae α):=⟨1,ah,λ_ v=>[v],λxs v=>[aj E v xs,Kb v xs],λ_ _=>rfl⟩
variable{α:Type}{v:ah}
def agx{E:Enc α}{xs:ae α}:sZ (mF E v xs) [aj E v xs,Kb v xs]:=by
 intro w w' S hp hle hh hz f hf;rcases bT.1 hf with rfl|hf
 .exact gI w w' S hp.1 hle hh hz _ (bK.2 rfl)
 .rw[bK.1 hf];exact hp.2
def VF(E:Enc α)(v:ah)(xs:ae α)(h:(xs=[]->v=.slice none 0 0)->R Q B w0 (ap E v xs::kl') F)(hk:aD (mF E v xs) kl kl':=by exact fB):R Q B w0 kl F:=λw s=>by
 obtain⟨S,⟨S1,S2,q1,q2,e⟩,h2,h3⟩:=(s.iw hk).own;exact h q1.2 w ⟨s.agree,s.le,s.ig,⟨S,⟨S1,S2,q1.1,q2,e⟩,h2,h3⟩,s.facts⟩
def VG(E:Enc α)(v:ah)(xs:ae α)(hz:xs=[]->v=.slice none 0 0)(h:R Q B w0 (mF E v xs::kl') F)(hk:aD (ap E v xs) kl kl':=by exact fB):R Q B w0 kl F:=λw s=>
 h w ((s.iw hk).BA (A:=ap E v xs) λw S hp=>⟨hp,hz⟩)
variable{w:Wd}
def VH{E:Enc α}{xss:ae (ae α)}(h:(aj (uU E) v xss).p w):(aj (aA E) v xss).p w:=by
 rcases h with h|⟨i,o,f,c,cells,h1,h2,h3⟩
 .exact .inl h
 .refine .inr ⟨i,o,f,c,cells,h1,h2,λk x hk=>?_⟩;obtain⟨y,q1,q2⟩:=h3 k x hk;exact⟨y,q1,λf hf=>q2 f (by rw[bK.1 hf];exact fT ..)⟩
def DR{A A':OA}(e:A=A')(h:R Q B w0 (A'::kl') F)(hk:aD A kl kl':=by exact fB):R Q B w0 kl F:=by
 subst e;exact λw s=>h w (s.iw hk)
def St.VI{E:Enc α}{aN:ae (α×E.Y)}(h0:0<aN.length)(hall:(yR E aN).p w)(s:St B w0 (ar E v aN::kl') F w):St B w0 (ap E v (aN.map (·.1))::kl') F w:=by
 obtain⟨S,⟨S1,S2,q1,q2,e⟩,h2,h3⟩:=s.own;refine⟨s.agree,s.le,s.ig,⟨S,⟨S1,S2,?_,q2,e⟩,h2,h3⟩,s.facts⟩;rcases q1 with⟨h4,_⟩|⟨b,f,h4,h5,h6,h7⟩
 .rw[h4]at h0;simp at h0
 .refine .inr ⟨b,0,f,_,by rw[bZ];exact h4,h5,h6,h7,by rw[Gf,bZ,fq],λk x hk=>?_⟩;rw[dN]at hk;cases hp:aN[k]? with
  |none=>rw[hp]at hk;cases hk
  |some p=>
   rw[hp]at hk;cases hk;exact⟨p.2,λj u hj=>by rw[fq];exact BK hp hj,λf hf=>hall p (aS hp) f hf⟩
def VJ{E:Enc α}{aN:ae (α×E.Y)}(h0:0<aN.length)(h:R Q B w0 (ap E v (aN.map (·.1))::kl') F)(hfs:∀w,(∀f∈F,f.p w)->(yR E aN).p w)(hk:aD (ar E v aN) kl kl':=by exact fB):R Q B w0 kl F:=λw s=>
 h w (St.VI h0 (hfs w s.facts) (s.iw hk))
end Go.Ideal
namespace Go.Ideal
variable {P:Program}
def cK.facts{Y:Type}{fn:Fn}{args cap:ae ah}{kl:ae OA}{F F2:ae aP}{val:Y->ah}{kl':Y->ae OA}{fs:Y->ae aP}{pr:Y->Prop}(h:cK P fn args cap kl F val kl' fs pr)(hF:∀f∈F,f∈F2):cK P fn args cap kl F2 val kl' fs pr:=
 λB w s=>h B w ⟨s.agree,s.le,s.ig,s.own,λf hf=>s.facts f (hF f hf)⟩
section
variable {B:ae Nat} {w0:Wd} {kl kl' bD:ae OA} {F:ae aP} {K:KO} {n:Nat} {l:qr} {D:ae Deferred} {pm:ak FrameMode} {ro:ak Nat}
end
section
variable {B:ae Nat} {w0:Wd} {kl:ae OA} {F:ae aP}
end
end Go.Ideal
namespace Go.Ideal
variable {P:Program} {B:ae Nat} {w0:Wd} {kl kl' bD:ae OA} {F:ae aP} {K:KO} {ds:ae Tmp} {rest:ae bY} {n:Nat} {l:qr} {D:ae Deferred} {pm:ak FrameMode} {ro:ak Nat} {d:Nat} {g:ak (Tmp×Bool)}
end Go.Ideal
namespace Go.Ideal
open Go.RowKit Go.WideShapes Go.ChangeShapes
variable {P:Program}
def uV(P:Program)(n:Nat):Lay:=(List.range n).map λg=>(some ⟨g,0,0,IJ P g,0⟩,none)
variable{n:Nat}
def VK{i:Nat}(h:i<n):(uV P n)[i]? =some (some ⟨i,0,0,IJ P i,0⟩,none):=by
 unfold uV;rw[dN,ru h];rfl
def agy(n:Nat):(uV P n).length=n:=by unfold uV;rw[bZ,qm]
def agz(Bt:P.follows .mixedOrders=true){f:iI}(fn:Func)(hfn:P.funcs[f]? =some fn)(hbody:fn.body.isNone=false)(hname:(fn.name== "runtime.NumGoroutine")=false){args args':ae ah}{L:Lay}{w:World}{v:ah}(agA:lF P (kw L))
 (hL:∀(i:Nat) g cs,L[i]? =some (some g,some cs)->Dp L w g cs) (hargs:aZ (kw L) args args') (hv:cz v=true)
 (hc:CALL P ⟨.func f,args,[],none⟩ (lG L) (λr pm h'=>pm=none/\r=.ok v/\Agree (lG L) h')):
 Calls P f ⟨args'⟩ w (λe w'=>e=.returned v/\Below w.heap.size w w'):=by
 have hM:=aeb Bt hc;have hW:WR P (kw L) (lG L) w:=aex hL;obtain⟨nx,F0,n1,n2,n3⟩:=hM (kw L) w (.func f) args' [] agA hW (.func f) hargs .nil;have hnx:nx=.enter f ⟨args'⟩:=by
  have hcall:(callFunc f ⟨args'⟩).run P w=.ok (.enter f ⟨args'⟩) w:=by
   simp only[callFunc,dF,run_program,dH,hfn,hname,hbody,wW,if_false,fD]
  have e:(⟨args'⟩:Array ah)++(⟨[]⟩:Array ah)=⟨args'⟩:=we
  have n1:(invoke (.fn (.func f) ⟨[]⟩) ⟨args'⟩).run P w=.ok nx w:=n1;simp only[invoke,e]at n1;rw[hcall]at n1;cases n1;rfl
 subst hnx;have BD:F0=Frame.enter P f ⟨args'⟩ .normal:=by
  have:entry P .normal (.enter f ⟨args'⟩)=some (Frame.enter P f ⟨args'⟩ .normal):=rfl;have n2:entry P .normal (.enter f ⟨args'⟩)=some F0:=n2;rw[this]at n2;exact(Option.some.inj n2).symm
 subst BD;intro cs;obtain⟨r,pm',h',β',w',r',cs1,q1,q2,q3,q4,q5,q6⟩:=n3 cs (by intro m hm;cases hm);obtain⟨hp,rfl,hag⟩:=q1;cases q5;cases q4 with
 | @ok v v' sV=>
   have:=sV.pR hv;subst this;rcases q6 with⟨f1,a1,F1,e1,e2,e3,e4,e5⟩|⟨⟨_,l,e1⟩,_⟩
   .cases e1;refine⟨.returned v',w',F1,⟨rfl,?_⟩,e2,e3,?_⟩
    .refine⟨q3.os,q3.tape,q3.output,q3.size,λk hk=>?_⟩;by_cases hx:∀i g,kw L i=some g->(lG L).get i≠none->g.b≠k
     .exact q3.keep k hk hx
     .have hx:∃i g,kw L i=some g/\(lG L).get i≠none/\g.b=k:=by
       apply Classical.byContradiction;intro hc;exact hx λi g hi hg hb=>hc ⟨i,g,hi,hg,hb⟩
      obtain⟨i,g,hi,hg,rfl⟩:=hx;have hin:=hW.dom i g hi;exact q3.uE i g (by rw[hag.low (bQ _)];exact hin) hin hi hg hk
    .obtain⟨t1,t2,fn,t3,t4⟩:=e5;exact⟨t1,t2,e4,fn,t3,t4⟩
   .cases e1
section
variable {H:Type} {enc:aC×ah->H} {W:World}
def VL(Bt:P.follows .mixedOrders=true){f:iI}(fn:Func)(hfn:P.funcs[f]? =some fn)(hbody:fn.body.isNone=false)(hname:(fn.name== "runtime.NumGoroutine")=false){K:aC->Prop}
 (hK:∀t,K t->PlainT P K t) {ts:ae aC} {vs:ae ah} {ds:ae (DataW H)} {ps:ae MemPlace} (hT:∀t∈ts,K t) (hok:∀(j:Nat) t v,ts[j]? =some t->vs[j]? =some v->Value.okWide P W .any 0 t v)
 (hA:DataW.TrodAll enc P W 0 (λ_=>true) true ts vs ds ps)
 (agB:∀(w:Wd) (vs':ae ah),P.globals.size<=w.h.next->(∀i,i<w.h.next->w.z i)->vs'.length=vs.length->(∀(j:Nat) t v d,ts[j]? =some t->vs'[j]? =some v->ds[j]? =some d->zY P w t v d)->∃F,(∀f∈F,f.p w)/\dL P f vs' F (.bool true)):
 Calls P f ⟨vs⟩ W (λe w'=>e=.returned (.bool true)/\Below W.heap.size W w'):=by
 obtain⟨M,vs',h1,h2,h3⟩:=Um hK hT hok hA (uV P P.globals.size);have hlG:=agy (P:=P) P.globals.size;refine agz Bt fn hfn hbody hname (L:=uV P P.globals.size++M) (args:=vs') (λg hg=>⟨⟨g,0,0,IJ P g,0⟩,?_,rfl,rfl,rfl⟩) (λi g cs hi=>?_) h1 rfl ?_
 .unfold kw;rw[pG tr,VK hg];rfl
 .by_cases hlt:i<P.globals.size
  .rw[pG tr,VK hlt]at hi;cases hi
  .exact h3 i g cs tr hi
 have hlen:vs'.length=vs.length:=by
  have:∀{a b:ae ah},aZ (kw (uV P P.globals.size++M)) a b->a.length=b.length:=by
   intro a;induction a with
   |nil=>intro b h;cases h;rfl
   |cons x a ih=>intro b h;cases h with|cons q r=>simp[ih r]
  exact this h1
 obtain⟨F,hF,hfn'⟩:=agB (JL (uV P P.globals.size++M)) vs' (by show _<=(uV P P.globals.size++M).length;rw[ik];omega) (λi hi=>hi) hlen (λj t v d ht hv hd=>by
  obtain⟨v0,e,sV⟩:=afG (ts:=ts) h1 j v hv;exact afF rfl (h2 j t v d ht hv hd) sV (hok j t v0 ht e))
 have st:St [] (JL (uV P P.globals.size++M)) [] F (JL (uV P P.globals.size++M)):=⟨⟨bQ _,λ_ _ _=>rfl,λ_ _=>rfl⟩,Wd.Le.refl _,λi _ hz=>.inl hz,⟨[],rfl,w9,λi hi=>by cases hi⟩,hF⟩
 refine .kv _ (hfn' [] (JL (uV P P.globals.size++M)) st) ?_;rintro r pm h' ⟨rfl,w',y,rfl,s,rfl,_⟩;exact⟨rfl,rfl,⟨s.agree.next,λi hi=>s.agree.get i hi tt,λhl=>s.agree.low hl tt⟩⟩
end
def Gl(n:Nat):aP:=⟨λw=>n<=w.h.next,λa h=>ql h a.next⟩
def agC{f:iI}{v:ah}(hs:∀h:IH,n<=h.next->CALL P ⟨.func f,[],[],none⟩ h (λr pm h'=>pm=none/\r=.ok v/\h'=h)):dL P f [] [Gl n] v:=λB w s=>
 .kv _ (hs w.h (s.facts (Gl n) (bK.2 rfl))) (by rintro r pm h' ⟨rfl,rfl,rfl⟩;exact⟨rfl,w,(),rfl,⟨s.agree,s.le,s.ig,s.own,λf h=>by cases h⟩,rfl,trivial⟩)
end Go.Ideal
namespace Go.Ideal
variable {P:Program}
def O5:ah->Bool
 | .tuple ⟨c::cs⟩=>cz c&&cs.all cz
 | .tuple _=>false
 |v=>cz v
def aZ.VM{β:aI}:∀{l:ae ah},l.all cz=true->aZ β l l
 |[],_=>.nil
 |v::l,h=>by
  rw[CE,dI]at h;exact .cons (VR.free h.1) (aZ.VM h.2)
def aZ.O6{β:aI}:∀{l l':ae ah},aZ β l l'->l.all cz=true->l'=l
 |_,_,.nil,_=>rfl
 |_,_,.cons h1 h2,h=>by
  rw[CE,dI]at h;rw[h1.pR h.1,aZ.O6 h2 h.2]
def VR.agD{β:aI}{v:ah}(h:O5 v=true):VR β v v:=by
 unfold O5 at h;split at h
 .rename_i c cs;exact .tuple (aZ.VM (by rw[CE];exact h))
 .cases h
 .exact VR.free h

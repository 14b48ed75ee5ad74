/- Part. -/
import Derived.Test.YtoilpafpgndilaaGreatIdealKF
import Derived.Sort.Row
import Derived.Sort.Grow
import Derived.Laws.StructEq
set_option linter.all false
namespace Go.Ideal
variable {P:Program}
def AO{Y:Type}(B:kI Nat)(w0:Wd)(ret:Y->iU)(kl':Y->kI OA)(fs:Y->kI aO)(pr:Y->Prop):KR:=λr pm h'=>
 pm=none/\∃(w':Wd) (y:Y),w'.h=h'/\St B w0 (kl' y) (fs y) w'/\r=ret y/\pr y
def qJ{Y:Type}(P:Program)(fn:Fn)(args cap:kI vI)(kl:kI OA)(F:kI aO)(ret:Y->iU)(kl':Y->kI OA)(fs:Y->kI aO)(pr:Y->Prop):Prop:=
 ∀(B:kI Nat) (w:Wd),St B w kl F w->CALL P ⟨fn,args,cap,none⟩ w.h (AO B w ret kl' fs pr)
variable{args cap:kI vI}{Y:Type}{kl:kI OA}{F:kI aO}
def qJ.toC{fn:Fn}{ret:Y->iU}{kl':Y->kI OA}{fs:Y->kI aO}{pr:Y->Prop}(val:Y->vI)(h:qJ P fn args cap kl F ret kl' fs pr)
 (hv:∀y,pr y->ret y=.ok (val y)):bA P fn args cap kl F val kl' fs pr:=λB w s=>by
 refine .vT _ (h B w s) ?_;rintro r pm h' ⟨e,w',y,e1,st,er,hp⟩;exact⟨e,w',y,e1,st,er.trans (hv y hp),hp⟩
def MP{Y:Type}(B:kI Nat)(w0:Wd)(ret:Y->iU)(md:Y->FrameMode)(kl':Y->kI OA)(fs:Y->kI aO)(pr:Y->Prop):KR:=λr pm h'=>
 ∃(w':Wd) (y:Y),pm=some (md y)/\w'.h=h'/\St B w0 (kl' y) (fs y) w'/\r=ret y/\pr y
def IP{Y:Type}(P:Program)(fn:Fn)(args cap:kI vI)(m:FrameMode)(kl:kI OA)(F:kI aO)(ret:Y->iU)(md:Y->FrameMode)(kl':Y->kI OA)(fs:Y->kI aO)(pr:Y->Prop):Prop:=
 ∀(B:kI Nat) (w:Wd),St B w kl F w->CALL P ⟨fn,args,cap,some m⟩ w.h (MP B w ret md kl' fs pr)
variable{f:agR}{c:dI}{m:Nat}{l0:qr}
def SG{K:KR}{pm:x8 FrameMode}(cf:gV)(hF:(pX P qC pY).F f=some cf)(h1:cf.body=c)(h2:rD cf.ntmps (iL (args++cap))=m)(h3:qg 0 (args++cap) []=l0){h:IH}
 (hb:EV P c (act m l0 [] pm none) h (rQ P cf K)):CALL P ⟨.func f,args,cap,pm⟩ h K:=by
 obtain⟨fn,e1,e2⟩:=(Cr P qC pY (λf q h v h' hm=>by cases hm)).fn f cf hF;refine RO cf fn e1 e2 ?_;rw[ME,h1,h2,h3];exact hb
def y7{ret:Y->iU}{kl':Y->kI OA}{fs:Y->kI aO}{pr:Y->Prop}(cf:gV)(hF:(pX P qC pY).F f=some cf)
 (hb:∀B w0,R (λh=>EV P c (act m l0 [] none none) h (rQ P cf (AO B w0 ret kl' fs pr))) B w0 kl F)
 (h1:cf.body=c:=by conv=>lhs;(reduce;(try simp only[Int.reduceOfNat,Int.reduceNegSucc]))) (h2:rD cf.ntmps (iL (args++cap))=m:=by conv=>lhs;whnf) (h3:qg 0 (args++cap) []=l0:=by dsimp only[qg,Nat.reduceAdd,List.append_nil,List.cons_append,List.nil_append]):qJ P (.func f) args cap kl F ret kl' fs pr:=
 λB w s=>SG cf hF h1 h2 h3 (hb B w w s)
def SH{pm:FrameMode}{ret:Y->iU}{md:Y->FrameMode}{kl':Y->kI OA}{fs:Y->kI aO}{pr:Y->Prop}(cf:gV)(hF:(pX P qC pY).F f=some cf)
 (hb:∀B w0,R (λh=>EV P c (act m l0 [] (some pm) none) h (rQ P cf (MP B w0 ret md kl' fs pr))) B w0 kl F)
 (h1:cf.body=c:=by conv=>lhs;(reduce;(try simp only[Int.reduceOfNat,Int.reduceNegSucc]))) (h2:rD cf.ntmps (iL (args++cap))=m:=by conv=>lhs;whnf) (h3:qg 0 (args++cap) []=l0:=by dsimp only[qg,Nat.reduceAdd,List.append_nil,List.cons_append,List.nil_append]):IP P (.func f) args cap pm kl F ret md kl' fs pr:=
 λB w s=>SG cf hF h1 h2 h3 (hb B w w s)
section
variable {B:kI Nat} {w0:Wd} {kl kl' bH:kI OA} {F:kI aO} {K:KO} {ds:kI Tmp} {rest:kI bV} {n:Nat} {l:qr} {D:kI Deferred} {pm:x8 FrameMode} {ro:x8 Nat} {d:Nat} {g:x8 (Tmp×Bool)}
variable{k1:kI OA}{F1:kI aO}
def St.pz{w:Wd}{bH:kI OA}(s:St B w0 kl F w)(hk:aI k1 kl bH)(hF:Sub F1 F):
 ∃S1,St S1 w k1 F1 w/\∀(w':Wd) (k1':kI OA) (F':kI aO),St S1 w k1' F' w'->St B w0 (k1'++bH) (F'++F) w':=by
 obtain⟨S,h1,h2,h3⟩:=s.own;obtain⟨S1,S2,q1,q2,hp⟩:=h1.kv hk;have hsub:∀i∈S1,i∈S:=λi hi=>hp.mem_iff.2 (je _ hi);exact⟨S1,⟨⟨bT _,λ_ _ _=>rfl,λ_ _=>rfl⟩,Wd.Le.refl w,λi _ hz=>.inl hz,⟨S1,q1,(iT.1 (hp.nodup h2)).1,λi hi=>⟨.inr hi,(h3 i (hsub i hi)).2⟩⟩,λf hf=>s.facts f (hF.mem f hf)⟩,
  λw' k1' F' c=>s.call (k1:=k1) (F1:=F1) ⟨S,hp,h2,h3⟩ q2 c⟩
variable{Y:Type}{vs captured first as:kI vI}{fn:Fn}{f:aaB}{xs:kI aaB}
def acP{re:kI iq}{ret:Y->iU}{k1':Y->kI OA}{fs:Y->kI aO}{pr:Y->Prop}
 (hc:qJ P fn as captured k1 F1 ret k1' fs pr) (hn:Nat.blt d n=true) (hg:cZ l g=true) (hf:ev l f=.func fn ⟨first⟩ ⟨captured⟩) (hx:EvL (ev l) xs vs) (ha:first++vs=as)
 (hk:aI k1 kl bH) (hF:Sub F1 F)
 (hs:∀y v,pr y->ret y=.ok v->Same P re (ev ((d,v)::l)) ((d,v)::l) B w0 (k1' y++bH) (fs y++F))
 (next:∀y v,pr y->ret y=.ok v->R (λh=>aH P ds rest (act n ((d,v)::l) D pm ro) h K) B w0 (k1' y++bH) (fs y++F))
 (EZ:∀y ch,pr y->ret y=.fT ch->R (λh=>K (.panic ch) (act n (Ay ds n l) D pm ro) h) B w0 (k1' y++bH) (fs y++F)):
 R (λh=>aH P ds (⟨⟨some d,g,.call f xs⟩,re⟩::rest) (act n l D pm ro) h K) B w0 kl F:=by
 intro w s;obtain⟨S1,s1,back⟩:=s.pz hk hF;have hcall:=hc S1 w s1;subst ha;rw[<- hx.map]at hcall;refine s_call hn hg fn hf _ hcall ?_ ?_ ?_ ?_
 .rintro v h' ⟨_,w',y,rfl,c,hv,hpr⟩;exact hs y v hpr hv.symm w' (back w' _ _ c)
 .rintro v h' ⟨_,w',y,rfl,c,hv,hpr⟩;exact next y v hpr hv.symm w' (back w' _ _ c)
 .rintro ch h' ⟨_,w',y,rfl,c,hv,hpr⟩;rw[Ho];exact EZ y ch hpr hv.symm w' (back w' _ _ c)
 .rintro r p h' ⟨e,_⟩;exact e
def uT{re:kI iq}{ret:Y->iU}{k1':Y->kI OA}{fs:Y->kI aO}{pr:Y->Prop}{fu:Y->kI OA}{F2:Y->kI aO}
 (hc:qJ P fn as captured k1 F1 ret k1' fs pr)
 (next:∀y v,pr y->ret y=.ok v->R (λh=>aH P ds rest (act n ((d,v)::l) D pm ro) h K) B w0 (fu y) (F2 y))
 (EZ:∀y ch,pr y->ret y=.fT ch->R (λh=>K (.panic ch) (act n (Ay ds n l) D pm ro) h) B w0 (fu y) (F2 y))
 (hn:Nat.blt d n=true:=by rfl) (hg:cZ l g=true:=by rfl) (hf:ev l f=.func fn ⟨first⟩ ⟨captured⟩:=by rfl) (hx:EvL (ev l) xs vs:=by repeat (first|with_reducible exact EvL.nil|((with_reducible apply EvL.cons);(conv=>lhs;whnf)))) (ha:first++vs=as:=by rfl)
 (hk:aI k1 kl bH:=by exact pg) (hF:Sub F1 F:=by exact o9) (hk2:∀y,bS (k1' y) bH (fu y):=by intro y;repeat (first|exact bS.nil|apply bS.cons|exact bS.self|exact bS.app)) (hF2:∀y,bS (fs y) F (F2 y):=by intro y;repeat (first|exact bS.nil|apply bS.cons|exact bS.self|exact bS.app))
 (hs:∀y v,pr y->ret y=.ok v->Same P re (ev ((d,v)::l)) ((d,v)::l) B w0 (fu y) (F2 y):=by intro _ _ _ _;repeat (first|exact yZ|refine AJ rfl afv AG rfl ?_|refine Cy rfl vW AG rfl ?_|refine EO rfl vW AG rfl ?_|refine EP rfl afv AG rfl ?_|refine EQ rfl vW AG rfl ?_|refine ER rfl vW AG rfl ?_)):
 R (λh=>aH P ds (⟨⟨some d,g,.call f xs⟩,re⟩::rest) (act n l D pm ro) h K) B w0 kl F:=
 acP hc hn hg hf hx ha hk hF (λy v a b=>by rw[(hk2 y).eq,(hF2 y).eq];exact hs y v a b) (λy v a b=>by rw[(hk2 y).eq,(hF2 y).eq];exact next y v a b) (λy v a b=>by rw[(hk2 y).eq,(hF2 y).eq];exact EZ y v a b)
variable{v:vI}
def CJ{x:aaB}{t:adH}{dst:x8 Tmp}{re:kI iq}
 (next:R (λh=>K (.panic [{v:=.iface t v,recovered:=false}]) (act n (Ay ds n l) D pm ro) h) B w0 kl F)
 (hx:ev l x=.iface t v:=by rfl) (hg:cZ l g=true:=by rfl):R (λh=>aH P ds (⟨⟨dst,g,.panic x⟩,re⟩::rest) (act n l D pm ro) h K) B w0 kl F:=λw s=>abg hg hx (next w s)
def acQ{f:aaB}{args:kI aaB}
 (next:R (λh=>aH P ds rest (act n l ({target:=.fn fn ⟨captured⟩,args:=⟨first++vs⟩}::D) pm none) h K) B w0 kl F)
 (hf:ev l f=.func fn ⟨first⟩ ⟨captured⟩:=by rfl) (hx:EvL (ev l) args vs:=by repeat (first|with_reducible exact EvL.nil|((with_reducible apply EvL.cons);(conv=>lhs;whnf)))) (hg:cZ l g=true:=by rfl):
 R (λh=>aH P ds (⟨⟨none,g,.dcall f args⟩,[]⟩::rest) (act n l D pm none) h K) B w0 kl F:=λw s=>by
 refine abh hg rfl hf ?_;rw[hx.map];exact next w s
variable{m:FrameMode}
def SI{m':FrameMode}(he:jI m=(v,m'))
 (next:R (λh=>aH P ds rest (act n ((d,v)::l) D (some m') none) h K) B w0 kl F) (hn:Nat.blt d n=true:=by rfl) (hg:cZ l g=true:=by rfl):
 R (λh=>aH P ds (⟨⟨some d,g,.recover⟩,[]⟩::rest) (act n l D (some m) none) h K) B w0 kl F:=λw s=>by
 refine abj hn hg rfl ?_;rw[he];exact next w s
def RL(P:Program)(cf:gV)(l:qr)(D:kI Deferred)(m:FrameMode)(Kr:iU->IH->Prop)(B:kI Nat)(w0:Wd)(kl:kI OA)(F:kI aO):Prop:=∀w,St B w0 kl F w->LEAVE P cf (ahI l) D m w.h Kr
def E5{cf:gV}{Kr:KR}{o:Out}(h:RL P cf l D m (λr h=>Kr r pm h) B w0 kl F)(hm:uC o=some m:=by rfl):R (λh=>rQ P cf Kr o (act n l D pm ro) h) B w0 kl F:=λw s=>by
 show(match uC o with
  |none=>False
  |some m=>LEAVE P cf (ahI l) D m w.h λr h''=>Kr r pm h'')
 rw[hm];exact h w s
variable {cf:gV} {Kr:iU->IH->Prop}
def acR(hk:∀w,St B w0 kl F w->Kr (.ok (rO vs)) w.h)(hr:RS l kl cf.results vs:=by exact Cz):RL P cf l [] .returning Kr B w0 kl F:=λw s=>by
 refine .ret (rO vs) ?_ (hk w s);unfold qB;rw[hr.all s];exact sY
def SK{args:kI vI}{ret:Y->iU}{md:Y->FrameMode}{k1':Y->kI OA}{fs:Y->kI aO}{pr:Y->Prop}{fu:Y->kI OA}{F2:Y->kI aO}
 (hc:IP P fn args captured m k1 F1 ret md k1' fs pr)
 (next:∀y v,pr y->ret y=.ok v->RL P cf l D (yJ (md y)) Kr B w0 (fu y) (F2 y))
 (EZ:∀y ch,pr y->ret y=.fT ch->RL P cf l D (BQ (md y) ch) Kr B w0 (fu y) (F2 y))
 (hk:aI k1 kl bH:=by exact pg) (hF:Sub F1 F:=by exact o9) (hk2:∀y,bS (k1' y) bH (fu y):=by intro y;repeat (first|exact bS.nil|apply bS.cons|exact bS.self|exact bS.app)) (hF2:∀y,bS (fs y) F (F2 y):=by intro y;repeat (first|exact bS.nil|apply bS.cons|exact bS.self|exact bS.app)) (hm:m≠.run:=by intro e;cases e):
 RL P cf l ({target:=.fn fn ⟨captured⟩,args:=⟨args⟩}::D) m Kr B w0 kl F:=λw s=>by
 obtain⟨S1,s1,back⟩:=s.pz hk hF;refine .call hm _ (hc S1 w s1) ?_ ?_ ?_
 .rintro r p h' ⟨w',y,e,_⟩ hp;rw[e]at hp;cases hp
 .rintro v m' h' ⟨w',y,e,rfl,c,hv,hpr⟩;injection e with e;subst e;have:=next y v hpr hv.symm w' HP
  exact this
 .rintro ch m' h' ⟨w',y,e,rfl,c,hv,hpr⟩;injection e with e;subst e;exact EZ y ch hpr hv.symm w' HP
variable{fu:kI OA}
def AP{o:Out}{ret:Y->iU}{k1:Y->kI OA}{fs:Y->kI aO}{pr:Y->Prop}(y:Y)(hv:ret y=.ok (rO vs))(hp:pr y)(hD:jZ kl D fu:=by repeat (first|exact jZ.nil|(apply jZ.cons;(focus (repeat (first|with_reducible exact az.here|with_reducible apply az.there|with_reducible apply az.app))))))
 (hr:RS l fu cf.results vs:=by exact Cz) (hk:aI (k1 y) fu bH:=by exact pg) (hF:Sub (fs y) F:=by exact o9) (ho:o=.normal\/o=.ret:=by first|exact .inl rfl|exact .inr rfl):
 R (λh=>rQ P cf (AO B w0 ret k1 fs pr) o (act n l D none ro) h) B w0 kl F:=by
 refine E5 (m:=.returning) ?_ HQ;intro w s;refine jZ.leave hD (λw' s'=>⟨rO vs,?_,rfl,w',y,rfl,((s'.kv hk).drop).sub hF,hv.symm,hp⟩) w s;unfold qB;rw[hr.all s'];match vs with
 |[]=>rfl
 |[v]=>rfl
 |_::_::_=>rfl
def jZ.SL{ts:T vI}{ch:kI PanicEntry}:∀{D:kI Deferred} {kl fu:kI OA},jZ kl D fu->(∀w',St B w0 fu F w'->Kr (.fT ch) w'.h)->∀w,St B w0 kl F w->LEAVE P cf ts D (.panicking ch) w.h Kr
 |_,_,_,.nil,hk,w,s=>.fT ch (hk w s)
 |_,_,_,.cons (r:=r) h t,hk,w,s=>by
  have s1:=s.gq h;refine .coll CC r s1.get.1 ?_;exact jZ.SL t hk _ (s1.write (o':=.aid false)).tail
def AQ{ch:kI PanicEntry}{ret:Y->iU}{k1:Y->kI OA}{fs:Y->kI aO}{pr:Y->Prop}(y:Y)(hv:ret y=.fT ch)(hp:pr y)(hD:jZ kl D fu:=by repeat (first|exact jZ.nil|(apply jZ.cons;(focus (repeat (first|with_reducible exact az.here|with_reducible apply az.there|with_reducible apply az.app))))))
 (hk:aI (k1 y) fu bH:=by exact pg) (hF:Sub (fs y) F:=by exact o9):
 R (λh=>rQ P cf (AO B w0 ret k1 fs pr) (.panic ch) (act n l D none ro) h) B w0 kl F:=by
 refine E5 (m:=.panicking ch) ?_;intro w s;exact jZ.SL hD (λw' s'=>⟨rfl,w',y,rfl,((s'.kv hk).drop).sub hF,hv.symm,hp⟩) w s
def SN{o:Out}{ret:Y->iU}{md:Y->FrameMode}{k1:Y->kI OA}{fs:Y->kI aO}{pr:Y->Prop}(y:Y)(hv:ret y=.ok (rO vs))(hm:md y=m)(hp:pr y)(hD:jZ kl D fu:=by repeat (first|exact jZ.nil|(apply jZ.cons;(focus (repeat (first|with_reducible exact az.here|with_reducible apply az.there|with_reducible apply az.app))))))
 (hr:RS l fu cf.results vs:=by exact Cz) (hk:aI (k1 y) fu bH:=by exact pg) (hF:Sub (fs y) F:=by exact o9) (ho:o=.normal\/o=.ret:=by first|exact .inl rfl|exact .inr rfl):
 R (λh=>rQ P cf (MP B w0 ret md k1 fs pr) o (act n l D (some m) ro) h) B w0 kl F:=by
 refine E5 (m:=.returning) ?_ HQ;intro w s;refine jZ.leave hD (λw' s'=>⟨rO vs,?_,w',y,by rw[hm],rfl,((s'.kv hk).drop).sub hF,hv.symm,hp⟩) w s;unfold qB;rw[hr.all s'];match vs with
 |[]=>rfl
 |[v]=>rfl
 |_::_::_=>rfl
def SQ{ret:Y->iU}{k1:Y->kI OA}{fs:Y->kI aO}{pr:Y->Prop}(y:Y)(hv:ret y=.ok (rO vs))(hp:pr y)(hr:RS l kl cf.results vs:=by exact Cz)(hk:aI (k1 y) kl bH:=by exact pg)(hF:Sub (fs y) F:=by exact o9):
 RL P cf l [] .returning (λr h=>AO B w0 ret k1 fs pr r none h) B w0 kl F:=
 acR (λw s=>⟨rfl,w,y,rfl,((s.kv hk).drop).sub hF,hv.symm,hp⟩) hr
end
end Go.Ideal
namespace Go.Ideal
variable {P:Program}
variable{α:Type}
def SS{β:Type}(f:α->β)(hf:∀a b,f a=f b->a=b){l1 l2:kI α}(h:(l1.map f).Perm (l2.map f)):l1.Perm l2:=by
 classical
 rw[List.perm_iff_count];intro a;have:=h.count_eq (f a);have key:∀l:kI α,(l.map f).count (f a)=l.count a:=by
  intro l;induction l with
  |nil=>rfl
  |cons x l ih=>
   rw[agO,List.count_cons,List.count_cons,ih];by_cases e:x=a
   .subst e;simp
   .have:¬f x=f a:=λh=>e (hf _ _ h);simp[e,this]
 rw[key,key]at this;exact this
def SV{α β:Type}{f:α->β}:∀{l:kI α},(l.map f).Nodup->∀{a b:α},a∈l->b∈l->f a=f b->a=b
 |[],_,a,b,ha,_,_=>by cases ha
 |x::l,h,a,b,ha,hb,e=>by
  rw[agO,yD]at h;obtain⟨hx,hl⟩:=h;rcases dx.1 ha with h1|ha<;>rcases dx.1 hb with h2|hb
  .rw[h1,h2]
  .rw[<- h1,e]at hx;exact absurd (Kn hb) hx
  .rw[<- h2,<- e]at hx;exact absurd (Kn ha) hx
  .exact SV hl ha hb e
def pE{α:Type}[DecidableEq α](a:α):kI (α×vI)->Nat->x8 (Nat×vI)
 |[],_=>none
 |(b,v)::l,i=>if a=b then some (i,v)else pE a l (i+1)
def dR{α β:Type}[DecidableEq α](a:α):kI (α×β)->x8 β
 |[]=>none
 |(b,v)::l=>if a=b then some v else dR a l
def upd{α β:Type}[DecidableEq α](a:α)(v:β):kI (α×β)->kI (α×β)
 |[]=>[(a,v)]
 |(b,u)::l=>if a=b then(a,v)::l else(b,u)::upd a v l
def pF{α:Type}(aX:α->vI)(aj:kI (α×vI))(es:kI MapEntry):Prop:=es.map (λe=>(e.key,e.val))=aj.map λp=>(aX p.1,p.2)
structure rR(P:Program)(kt:TypeId){α:Type}[DecidableEq α](aX:α->Value):Prop where
 E8:∀a,rz P kt (aX a)=true
 find:∀a aj es,pF aX aj es->sU P kt (aX a) es=some (pE a aj 0)
 same:∀a,Instr.sameBits 10000 (aX a) (aX a)=true
variable{kt:adH}
def SX{v:vI}(ha:cK v=true)(h:∀b,eD P (Instr.checkKey b 10000 kt v)=some ()):rz P kt v=true:=by
 unfold rz;rw[ha,h true,h false];rfl
def MQ{aX:α->vI}{p:α×vI}{aj:kI (α×vI)}{es:kI MapEntry}(h:pF aX (p::aj) es):∃e es',es=e::es'/\e.key=aX p.1/\e.val=p.2/\pF aX aj es':=by
 cases es with
 |nil=>cases h
 |cons e es=>
  unfold pF at h;rw[agO,agO]at h;injection h with h1 h2;injection h1 with h1 h3;exact⟨e,es,rfl,h1,h3,h2⟩
def SY{α:Type}[DecidableEq α]{aX:α->vI}{d:TypeDesc}(hs:∀a b,Instr.sameNow d (aX a) (aX b)=some (decide (a=b)))(a:α):∀(aj:kI (α×vI)) (es:kI MapEntry) (i:Nat),pF aX aj es->Instr.findNow d (aX a) es i=some (pE a aj i)
 |[],es,i,h=>by
  exact tb
 |p::aj,es,i,h=>by
  obtain⟨e,es',rfl,h1,h2,h3⟩:=MQ h;have ih:=SY hs a aj es' (i+1) h3;show(match Instr.sameNow d (aX a) e.key with
   |some true=>some (some (i,e.val))
   |some false=>Instr.findNow d (aX a) es' (i+1)
   |none=>none)=_
  rw[h1,hs a p.1];unfold pE;by_cases hab:a=p.1
  .rw[dK hab,if_pos hab,h2]
  .rw[aR hab,if_neg hab];exact ih
def S9[DecidableEq α]{aX:α->vI}{kt:adH}{d:TypeDesc}(hu:P.underlying kt=some d)(hs:∀a b,Instr.sameNow d (aX a) (aX b)=some (decide (a=b)))(a:α)(aj:kI (α×vI))(es:kI MapEntry)(h:pF aX aj es):sU P kt (aX a) es=some (pE a aj 0):=by
 unfold sU Instr.findKey;rw[ig,rM hu];simp only[iX,SY hs a aj es 0 h];rfl
def acS(hu:P.underlying kt=some (.int .i64)):rR P kt (λn:Int=>.int .i64 n) where
 E8 a:=SX rfl λb=>by
  exact sC
 find a aj es h:=S9 hu (λa b=>by
  show(if IntKind.i64=IntKind.i64 then some (a==b)else none)=_;rw[if_pos rfl];congr 1) a aj es h
 same a:=by
  show(IntKind.i64==IntKind.i64&&a==a)=true;simp
def bytes_beq(a b:ByteArray):(a==b)=decide (a=b):=by
 have:(a==b)=(a.data==b.data):=rfl;rw[this];by_cases h:a=b
 .subst h;simp
 .rw[aR h];cases hb:a.data==b.data with
  |false=>rfl
  |true=>exact absurd (ByteArray.ext (eq_of_beq hb)) h
def acT(hu:P.underlying kt=some .string):rR P kt (λs:ByteArray=>.string s) where
 E8 a:=SX rfl λb=>by
  exact sC
 find a aj es h:=S9 hu (λa b=>by
  show some (a==b)=_;rw[bytes_beq]) a aj es h
 same a:=by
  show(a==a)=true;rw[bytes_beq];simp
def Ta{α:Type}[DecidableEq α](a:α):∀(aj:kI (α×vI)) (i:Nat),(pE a aj i).map (·.2)=dR a aj
 |[],_=>rfl
 |(b,v)::l,i=>by
  unfold pE dR;by_cases h:a=b
  .rw[if_pos h,if_pos h];rfl
  .rw[if_neg h,if_neg h];exact Ta a l (i+1)
def Tc[DecidableEq α]{aX:α->vI}{kt:adH}(hk:rR P kt aX){h:IH}{m zero:vI}{ok:Bool}{a:α}{aj:kI (α×vI)}{es:kI MapEntry}(he:entriesOf m h=some es)(ho:pF aX aj es):
 zZ P kt zero m (aX a) ok h=some (match dR a aj with
  |some v=>cond ok (.tuple #[v,.bool true]) v
  |none=>cond ok (.tuple #[zero,.bool false]) zero):=by
 unfold zZ;simp only[he,hk.E8,cond_true,hk.find a aj es ho];have:=Ta a aj 0;cases hf:pE a aj 0 with
 |none=>rw[hf]at this;rw[<- this];rfl
 |some p=>rw[hf]at this;rw[<- this];rfl
def Td{α:Type}[DecidableEq α](a:α):∀(aj:kI (α×vI)) (i j:Nat) (v:vI),pE a aj i=some (j,v)->∃k,j=i+k/\aj[k]? =some (a,v)/\∀u,upd a u aj=aj.set k (a,u)
 |[],i,j,v,h=>by cases h
 |(b,w)::l,i,j,v,h=>by
  unfold pE at h;split at h
  .rename_i hab;subst hab;cases h;exact⟨0,rfl,rfl,λu=>by simp[upd]⟩
  .rename_i hab;obtain⟨k,h1,h2,h3⟩:=Td a l (i+1) j v h;exact⟨k+1,z7,by simpa using h2,λu=>by simp[upd,if_neg hab,h3]⟩
def Te{α:Type}[DecidableEq α](a:α):∀(aj:kI (α×vI)) (i:Nat),pE a aj i=none->(∀p∈aj,a≠p.1)/\∀u,upd a u aj=aj++[(a,u)]
 |[],i,h=>⟨λp hp=>(by cases hp),λu=>rfl⟩
 |(b,w)::l,i,h=>by
  unfold pE at h;split at h
  .cases h
  .rename_i hab;obtain⟨h1,h2⟩:=Te a l (i+1) h;refine⟨λp hp=>?_,λu=>by simp[upd,if_neg hab,h2]⟩;rcases dx.1 hp with rfl|hp
   .exact hab
   .exact h1 p hp
structure AU{α:Type}(aX:α->Value)(aj:List (α×Value))(es:List MapEntry)(clock:Nat):Prop where
 tQ:pF aX aj es
 lt:∀e∈es,e.born<clock
 nd:(es.map (·.born)).Nodup
 keys:(aj.map (·.1)).Nodup
def acU[DecidableEq α]{aX:α->vI}{kt:adH}(hk:rR P kt aX){h:IH}{b:Nat}{a:α}{v:vI}{aj:kI (α×vI)}{es:kI MapEntry}{clock:Nat}(hg:h.get b=some (.map es clock))(ho:AU aX aj es clock):
 ∃es' clock',DL P kt (.map (some b)) (aX a) v h=some (h.set b (.map es' clock'))/\AU aX (upd a v aj) es' clock':=by
 unfold DL;simp only[hg,hk.E8,cond_true,hk.find a aj es ho.tQ];cases hf:pE a aj 0 with
 |none=>
  obtain⟨h1,h2⟩:=Te a aj 0 hf;refine⟨_,_,rfl,?_⟩;rw[h2,jK];refine⟨?_,λe he=>?_,?_,?_⟩
  .unfold pF;rw[fP,fP,ho.tQ];rfl
  .rcases dX.1 he with he|he
   .exact Km (ho.lt e he)
   .rw[bM.1 he];exact wN _
  .rw[fP,iT];refine⟨ho.nd,An,λx hx y hy e=>?_⟩;obtain⟨e0,he0,rfl⟩:=eT.1 hx;have:y=clock:=by simpa using hy
   have:=ho.lt e0 he0;omega
  .rw[fP,iT];refine⟨ho.keys,An,λx hx y hy e=>?_⟩;obtain⟨p,hp,rfl⟩:=eT.1 hx;have:y=a:=by simpa using hy
   exact h1 p hp (by rw[e,this])
 |some p=>
  obtain⟨j,u⟩:=p;obtain⟨k,rfl,h2,h3⟩:=Td a aj 0 j u hf;rw[fo];have hlen:es.length=aj.length:=by
   have:=congrArg List.length ho.tQ;simpa using this
  have hk':=(bq.1 h2).1;have MS:es[k]? =some es[k]:=bP z7;have hkey:es[k].key=aX a:=by
   have:=congrArg (λl=>l[k]?) ho.tQ;simp only[dm,MS,h2,jT]at this;injection this with this;injection this
  simp only[sZ,MS,hkey,hk.same,cond_true];refine⟨_,_,rfl,?_⟩;rw[h3,Qn];refine⟨?_,λe he=>?_,?_,?_⟩
  .unfold pF;apply iY;intro i;have:=congrArg (λl=>l[i]?) ho.tQ;simp only[dm]at this;simp only[dm,List.getElem?_modify,oQ];by_cases hi:k=i
   .subst hi;simp[MS,hk']
   .rw[if_neg hi];cases he:es[i]? with
    |none=>rw[he]at this;simp only[Option.map_none]at this⊢;simp[hi,<- this]
    |some e=>rw[he]at this;simp only[jT]at this⊢;simp[hi,<- this]
  .obtain⟨i,he⟩:=uy.1 he;rw[List.getElem?_modify]at he;cases MU:es[i]? with
   |none=>rw[MU]at he;simp at he
   |some e0=>
    rw[MU]at he;have hlt:=ho.lt e0 (aZ MU);injection he with he;rw[<- he];split<;>exact hlt
  .have:(es.modify k λe=>{e with key:=aX a,val:=v}).map (·.born)=es.map (·.born):=by
    apply iY;intro i;simp only[dm,List.getElem?_modify];cases es[i]? with
    |none=>rfl
    |some e=>simp only[jT];split<;>rfl
   rw[this];exact ho.nd
  .have:(aj.set k (a,v)).map (·.1)=aj.map (·.1):=by
    apply iY;intro i;simp only[dm,oQ];by_cases hi:k=i
    .subst hi;rw[if_pos rfl,if_pos hk',h2];rfl
    .rw[if_neg hi]
   rw[this];exact ho.keys
def mpA{α:Type}(aX:α->vI)(b:Nat)(aj:kI (α×vI)):OA:=⟨λw S=>S=[b]/\∃es clock,w.h.get b=some (.map es clock)/\AU aX aj es clock,λa h ⟨h1,es,clock,h2,h3⟩=>⟨h1,es,clock,by rw[h b BT];exact h2,h3⟩⟩
def xM{α:Type}(aX:α->vI)(b:Nat)(aj:kI (α×vI)):aO:=⟨λw=>w.z b/\∃es clock,w.h.get b=some (.map es clock)/\AU aX aj es clock,λa ⟨h1,es,clock,h2,h3⟩=>⟨a.z b h1,es,clock,by rw[a.get b h1];exact h2,h3⟩⟩
def CK{aX:α->vI}{b:Nat}{aj:kI (α×vI)}:rH (mpA aX b aj) [xM aX b aj]:=by
 intro w w' S ⟨h1,es,clock,h2,h3⟩ hle hh hz f hf;rw[bM.1 hf];exact⟨hz b BT,es,clock,by rw[hh];exact h2,h3⟩
section
variable {B:kI Nat} {w0:Wd} {kl kl' bH:kI OA} {F:kI aO} {K:KO} {ds:kI Tmp} {rest:kI bV} {n:Nat} {l:qr} {D:kI Deferred} {pm:x8 FrameMode} {ro:x8 Nat} {d:Nat} {g:x8 (Tmp×Bool)}
variable {α:Type} [DecidableEq α] {aX:α->vI}
variable{aj:kI (α×vI)}{b:Nat}
def St.Tf{w:Wd}(h:St B w0 (mpA aX b aj::kl) F w):∃es clock,AU aX aj es clock/\St B w0 (pt b (.map es clock)::kl) F w:=by
 obtain⟨S,⟨S1,S2,⟨q1,es,clock,q3,q4⟩,q2,e⟩,h2,h3⟩:=h.own;exact⟨es,clock,q4,h.agree,h.le,h.af9,⟨S,⟨S1,S2,⟨q1,q3⟩,q2,e⟩,h2,h3⟩,h.facts⟩
def y8(aX:α->vI)
 (next:∀b,R (λh=>aH P ds rest (act n ((d,.map (some b))::l) D pm ro) h K) B w0 (mpA aX b []::kl) F) (hn:Nat.blt d n=true:=by rfl) (hg:cZ l g=true:=by rfl):
 R (λh=>aH P ds (⟨⟨some d,g,.vN⟩,[]⟩::rest) (act n l D pm ro) h K) B w0 kl F:=λw s=>
 mq hn hg (h':=w.h.new (.map [] 0)) HN (next w.h.next (w.new _) ((s.new _).AB (A:=pt w.h.next (.map [] 0)) (A':=mpA aX w.h.next []) λw S hp=>⟨hp.1,[],0,hp.2,⟨rfl,λe he=>(by cases he),yE,yE⟩⟩))
def kT{α:Type}[DecidableEq α](ok:Bool)(zero:vI)(a:α)(aj:kI (α×vI)):vI:=match dR a aj with
 |some v=>cond ok (.tuple #[v,.bool true]) v
 |none=>cond ok (.tuple #[zero,.bool false]) zero
variable{m k:aaB}{kt:adH}{zero:vI}{ok:Bool}
def Tg(hk:rR P kt aX)(a:α)
 (next:R (λh=>aH P ds rest (act n ((d,kT ok zero a aj)::l) D pm ro) h K) B w0 kl F)
 (hm:ev l m=.map (some b):=by rfl) (ha:ev l k=aX a:=by conv=>lhs;whnf) (hf:xM aX b aj∈F:=by exact vW) (hn:Nat.blt d n=true:=by rfl) (hg:cZ l g=true:=by rfl):
 R (λh=>aH P ds (⟨⟨some d,g,.lookup kt zero m k ok⟩,[]⟩::rest) (act n l D pm ro) h K) B w0 kl F:=λw s=>by
 obtain⟨_,es,clock,h1,h2⟩:=s.facts _ hf;refine mq hn hg (v:=kT ok zero a aj) ?_ (next w s);have:zZ P kt zero (.map (some b)) (aX a) ok w.h=_:=Tc hk (by simp only[entriesOf,h1]) h2.tQ;simp only[aF.run,hm,ha,this];rfl
def E9(hk:rR P kt aX)(a:α)
 (next:R (λh=>aH P ds rest (act n ((d,kT ok zero a aj)::l) D pm ro) h K) B w0 kl F)
 (hm:ev l m=.map (some b):=by rfl) (ha:ev l k=aX a:=by conv=>lhs;whnf) (hs:az (mpA aX b aj) kl kl':=by exact afv) (hn:Nat.blt d n=true:=by rfl) (hg:cZ l g=true:=by rfl):
 R (λh=>aH P ds (⟨⟨some d,g,.lookup kt zero m k ok⟩,[]⟩::rest) (act n l D pm ro) h K) B w0 kl F:=λw s=>by
 obtain⟨es,clock,h2,s1⟩:=(s.gq hs).Tf;refine mq hn hg (v:=kT ok zero a aj) ?_ (next w s);have:zZ P kt zero (.map (some b)) (aX a) ok w.h=_:=Tc hk (by simp only[entriesOf,s1.get.1]) h2.tQ;simp only[aF.run,hm,ha,this];rfl
variable{x:aaB}
def xN{v:vI}(hk:rR P kt aX)(a:α)
 (next:R (λh=>aH P ds rest (act n l D pm ro) h K) B w0 (mpA aX b (upd a v aj)::kl') F)
 (hm:ev l m=.map (some b):=by rfl) (ha:ev l k=aX a:=by conv=>lhs;whnf) (hv:ev l x=v:=by conv=>lhs;whnf) (hs:az (mpA aX b aj) kl kl':=by exact afv) (hg:cZ l g=true:=by rfl):
 R (λh=>aH P ds (⟨⟨none,g,.Gr kt m k x⟩,[]⟩::rest) (act n l D pm ro) h K) B w0 kl F:=λw s=>by
 obtain⟨es,clock,h2,s1⟩:=(s.gq hs).Tf;obtain⟨es',clock',e1,e2⟩:=acU (v:=v) hk (a:=a) s1.get.1 h2;refine Mh hg (v:=dU) (h':=w.h.set b (.map es' clock')) ?_ (next _ ((s1.write (o':=.map es' clock')).AB (A:=pt b (.map es' clock')) (A':=mpA aX b (upd a v aj)) λw S hp=>⟨hp.1,es',clock',hp.2,e2⟩));simp only[aF.run,hm,ha,hv,e1]
variable{es:kI MapEntry}
def Ti{clock:Nat}(h:AU aX aj es clock):es.length=aj.length:=by
 have:=congrArg List.length h.tQ;simpa using this
def CL{α:Type}(aX:α->vI)(r b:Nat)(aj kU:kI (α×vI)):OA:=⟨λw S=>S=[r]/\∃es clock seen last,w.h.get b=some (.map es clock)/\w.z b/\AU aX aj es clock/\w.h.get r=some (.mapIter (some b) clock seen last)/\last=clock/\
 (∃ve rem:kI MapEntry,pF aX kU ve/\ve.map (·.born)=seen/\(ve++rem).Perm es),
 λa h ⟨h1,es,clock,seen,last,h2,h3,h4,h5,h6,h7⟩=>⟨h1,es,clock,seen,last,by rw[a.get b h3];exact h2,a.z b h3,h4,by rw[h r BT];exact h5,h6,h7⟩⟩
def acV
 (next:∀r,R (λh=>aH P ds rest (act n ((d,.pointer (some ⟨r,0,none⟩))::l) D pm ro) h K) B w0 (CL aX r b aj []::kl) F)
 (hm:ev l m=.map (some b):=by rfl) (hf:xM aX b aj∈F:=by exact vW) (hn:Nat.blt d n=true:=by rfl) (hg:cZ l g=true:=by rfl):
 R (λh=>aH P ds (⟨⟨some d,g,.rangeMap m⟩,[]⟩::rest) (act n l D pm ro) h K) B w0 kl F:=λw s=>by
 obtain⟨hz,es,clock,h1,h2⟩:=s.facts _ hf;refine mq hn hg (h':=w.h.new (.mapIter (some b) clock [] clock)) (by simp only[aF.run,hm,h1]) (next w.h.next (w.new _) ?_);have s1:=s.new (.mapIter (some b) clock [] clock);obtain⟨hz',es',clock',h1',h2'⟩:=s1.facts _ hf;refine s1.Cv λS hp=>⟨hp.1,es',clock',[],clock,h1',hz',h2',?_,?_,[],es',rfl,rfl,.refl _⟩
 .have:clock'=clock:=by
   have e:(w.new (.mapIter (some b) clock [] clock)).h.get b=w.h.get b:=by
    exact tA
   rw[e,h1]at h1';injection h1' with h1';injection h1' with _ h1';exact h1'.symm
  rw[this];exact hp.2
 .have e:(w.new (.mapIter (some b) clock [] clock)).h.get b=w.h.get b:=by
   exact tA
  rw[e,h1]at h1';injection h1' with h1';injection h1' with _ h1'
def acW{ve rem:kI MapEntry}(hp:(ve++rem).Perm es)(hn:(es.map (·.born)).Nodup):(es.filter λe=>!(ve.map (·.born)).contains e.born).Perm rem:=by
 have hp2:((ve++rem).filter λe=>!(ve.map (·.born)).contains e.born).Perm (es.filter λe=>!(ve.map (·.born)).contains e.born):=hp.filter _;rw[Gi]at hp2;have h1:ve.filter (λe=>!(ve.map (·.born)).contains e.born)=[]:=by
  rw[List.filter_eq_nil_iff];intro e he;simp only[Dy,Bool.not_eq_false',List.contains_eq_mem,wP];simp;exact⟨e,he,rfl⟩
 have hnd:((ve++rem).map (·.born)).Nodup:=(hp.map _).nodup_iff.2 hn;rw[fP,iT]at hnd;have h2:rem.filter (λe=>!(ve.map (·.born)).contains e.born)=rem:=by
  rw[List.filter_eq_self];intro e he;simp only[Dy,List.contains_eq_mem,decide_eq_false_iff_not];intro hm;exact hnd.2.2 _ hm _ (Kn he) rfl
 rw[h1,h2,dY]at hp2;exact hp2.symm
variable{kU:kI (α×vI)}{r:Nat}
def acX
 (more:∀p rem,(kU++p::rem).Perm aj->R (λh=>aH P ds rest (act n ((d,.tuple #[.bool true,aX p.1,p.2])::l) D pm ro) h K) B w0 (CL aX r b aj (kU++[p])::kl') F)
 (done:kU.Perm aj->R (λh=>aH P ds rest (act n ((d,.tuple #[.bool false])::l) D pm ro) h K) B w0 (CL aX r b aj kU::kl') F)
 (inj:∀a c,aX a=aX c->a=c)
 (hx:ev l x=.pointer (some ⟨r,0,none⟩):=by rfl) (hs:az (CL aX r b aj kU) kl kl':=by exact afv) (hn:Nat.blt d n=true:=by rfl) (hg:cZ l g=true:=by rfl):
 R (λh=>aH P ds (⟨⟨some d,g,.wV x⟩,[]⟩::rest) (act n l D pm ro) h K) B w0 kl F:=λw s0=>by
 have s:=s0.gq hs;obtain⟨S,⟨S1,S2,⟨q1,es,clock,seen,last,h1,hz,h2,h3,h4,ve,rem,h5,h6,h7⟩,q2,eS⟩,hnd,hown⟩:=s.own;subst h4 h6;have hpl:=acW h7 h2.nd;have hold:((es.filter λe=>!(ve.map (·.born)).contains e.born).filter λe=>Nat.blt e.born last)=es.filter λe=>!(ve.map (·.born)).contains e.born:=by
  rw[List.filter_eq_self];intro e he;have:=h2.lt e (sP.1 he).1;rw[sJ];exact this
 have hnew:((es.filter λe=>!(ve.map (·.born)).contains e.born).filter λe=>Nat.ble last e.born)=[]:=by
  rw[List.filter_eq_nil_iff];intro e he;have:=h2.lt e (sP.1 he).1;rw[vH];omega
 have hcl:(!(ve.map (·.born)).isEmpty&&!es.isEmpty&&es.all (λe=>Nat.ble last e.born))=false:=by
  cases es with
  |nil=>simp
  |cons e es=>
   have:=h2.lt e (cB ..);have:Nat.ble last e.born=false:=by
    cases hb:Nat.ble last e.born with
    |false=>rfl
    |true=>rw[vH]at hb;omega
   simp[this]
 have acY:Ac (ev l x) w.h=some ((if(es.filter λe=>!(ve.map (·.born)).contains e.born).isEmpty then[(.tuple #[.bool false],w.h)]else[])++
  (es.filter λe=>!(ve.map (·.born)).contains e.born).map λe=>(.tuple #[.bool true,e.key,e.val],w.h.set r (.mapIter (some b) last (ve.map (·.born)++[e.born]) last))):=by
  rw[hx];unfold Ac;simp only[h3,h1];rw[hcl];simp only[cond_false,hold,hnew,gU]
 have akr:∀(aks:kI MapEntry) (akt:kI (α×vI)),True:=λ_ _=>trivial;refine .next (vV hg) x rfl rfl _ (by rw[nI];exact acY) ?_
 intro vh hm;rcases dX.1 hm with hm|hm
 .split at hm
  .rename_i hemp;rw[bM.1 hm,qf hn];have acZ:rem=[]:=by
    have:(es.filter λe=>!(ve.map (·.born)).contains e.born)=[]:=by simpa using hemp
    rw[this]at hpl;exact List.nil_perm.1 hpl|>λh=>h
   refine done ?_ w s;subst acZ;rw[gU]at h7;have hm1:=h7.map (λe=>(e.key,e.val));rw[h5,h2.tQ]at hm1;exact SS (λp:α×vI=>(aX p.1,p.2)) (λp q hpq=>by
    exact wj) hm1
  .cases hm
 .obtain⟨e,he,rfl⟩:=eT.1 hm;have hr:e∈rem:=hpl.mem_iff.1 he;obtain⟨r1,r2,ac0⟩:=List.append_of_mem hr;obtain⟨i,hi,hie⟩:∃i,i<aj.length/\es[i]? =some e:=by
   obtain⟨i,hi⟩:=uy.1 (sP.1 he).1;have:=(bq.1 hi).1;rw[Ti h2]at this;exact⟨i,this,hi⟩
  have hpe:(e.key,e.val)=(aX aj[i].1,aj[i].2):=by
   have:=congrArg (λl=>l[i]?) h2.tQ;simp only[dm,hie,bP hi,jT]at this;injection this
  injection hpe with hpk hpv;rw[qf hn,hpk,hpv];have hperm:(ve++[e]++(r1++r2)).Perm es:=by
   refine List.Perm.trans ?_ h7;rw[ac0,List.append_assoc];refine List.Perm.append_left _ ?_;exact(List.perm_middle (l₁:=r1) (l₂:=r2) (a:=e)).symm
  have Fa:pF aX (kU++[aj[i]]) (ve++[e]):=by
   unfold pF;rw[fP,fP,h5];simp[hpk,hpv]
  obtain⟨MV,ac3⟩:∃MV:kI (α×vI),(kU++aj[i]::MV).Perm aj:=by
   have hm1:=hperm.map (λe=>(e.key,e.val));rw[fP,Fa,h2.tQ]at hm1;have hex:∀ls:kI MapEntry,(∀x∈ls,∃p:α×vI,(x.key,x.val)=(aX p.1,p.2))->∃ps:kI (α×vI),ls.map (λe=>(e.key,e.val))=ps.map λp=>(aX p.1,p.2):=by
    intro ls;induction ls with
    |nil=>intro _;exact⟨[],rfl⟩
    |cons x ls ih=>
     intro h;obtain⟨p,hp⟩:=h x (cB ..);obtain⟨ps,hps⟩:=ih λy hy=>h y (cO _ hy);exact⟨p::ps,by rw[agO,agO,hp,hps]⟩
   obtain⟨ps,hps⟩:=hex (r1++r2) (λy hy=>by
    have hy':y∈es:=hperm.mem_iff.1 (nA _ hy);obtain⟨j,hj⟩:=uy.1 hy';have hj':=(bq.1 hj).1;rw[Ti h2]at hj';have:=congrArg (λl=>l[j]?) h2.tQ;simp only[dm,hj,bP hj',jT]at this;injection this with this;exact⟨_,this⟩)
   rw[hps,<- fP]at hm1;refine⟨ps,?_⟩;have:=SS (λp:α×vI=>(aX p.1,p.2)) (λp q hpq=>by
    exact wj) hm1
   rwa [List.append_assoc]at this
  refine more aj[i] MV ac3 ⟨w.h.set r (.mapIter (some b) last (ve.map (·.born)++[e.born]) last),w.z,λi hi=>w.nJ i hi⟩ ?_;have s2:St B w0 (pt r (.mapIter (some b) last (ve.map (·.born)) last)::kl') F w:=⟨s.agree,s.le,s.af9,⟨S,⟨S1,S2,⟨q1,h3⟩,q2,eS⟩,hnd,hown⟩,s.facts⟩
  have s3:=s2.write (o':=.mapIter (some b) last (ve.map (·.born)++[e.born]) last);refine s3.Cv λS' hp=>⟨hp.1,es,last,_,last,?_,hz,h2,hp.2,rfl,ve++[e],r1++r2,Fa,by rw[fP];rfl,hperm⟩
  have hrb:r≠b:=λer=>by
   have:=s2.own;obtain⟨S0,⟨T1,T2,⟨u1,_⟩,_,ue⟩,_,ho⟩:=this;exact(ho r (by rw[ue,u1];simp)).2.2 (er▸hz)
  show(w.h.set r _).get b=_;rw[IH.nH,if_neg (λer=>hrb er.symm)];exact h1
def ac4{p:α×vI}
 (next:R (λh=>aH P ds rest (act n ((d,.tuple #[aX p.1,p.2])::l) D pm ro) h K) B w0 kl F)
 (hx:ev l x=.pointer (some ⟨r,0,none⟩):=by rfl) (hs:az (CL aX r b aj (kU++[p])) kl kl':=by exact afv) (hn:Nat.blt d n=true:=by rfl) (hg:cZ l g=true:=by rfl):
 R (λh=>aH P ds (⟨⟨some d,g,.entry x⟩,[]⟩::rest) (act n l D pm ro) h K) B w0 kl F:=λw s0=>by
 have s:=s0.gq hs;obtain⟨S,⟨S1,S2,⟨q1,es,clock,seen,last,h1,hz,h2,h3,h4,ve,rem,h5,h6,h7⟩,q2,e⟩,hnd,hown⟩:=s.own;subst h4 h6;obtain⟨Tj,x0,Fa,hx0,hx1⟩:∃Tj x0,ve=Tj++[x0]/\x0.key=aX p.1/\x0.val=p.2:=by
  unfold pF at h5;rw[fP]at h5;obtain⟨a1,a2,e1,e2,e3⟩:=List.map_eq_append_iff.1 h5;obtain⟨x0,a3,e4,e5,e6⟩:=List.map_eq_cons_iff.1 e3;have:a3=[]:=by simpa using e6
  subst this;injection e5 with e5 e7;exact⟨a1,x0,by rw[e1,e4],e5,e7⟩
 have hfind:es.find? (λy=>Nat.beq y.born x0.born)=some x0:=by
  have hm:x0∈es:=h7.mem_iff.1 (je _ (by rw[Fa];simp));cases hf:es.find? (λy=>Nat.beq y.born x0.born)with
  |none=>
   have:=anG.1 hf x0 hm;simp[alT]at this
  |some y=>
   have hy:=List.find?_some hf;have hym:=anH hf;have hb:y.born=x0.born:=qo hy;congr 1;exact SV h2.nd hym hm hb
 refine mq hn hg (v:=.tuple #[aX p.1,p.2]) ?_ (next w s0);simp only[aF.run,hx,h3,h1];rw[Fa];simp only[fP,agO,List.map_nil,List.getLast?_append,List.getLast?_singleton,Option.some_or,alT,cond_true,hfind,hx0,hx1]
end
end Go.Ideal
namespace Go.Ideal
open Go.Sort
variable {P:Program}
def WR.grow{β:aG}{h:IH}{w:World}(hW:WR P β h w)(os:Array Obj):WR P β h (grow w os)/\Eff β h w β h (grow w os):=by
 have hold:∀b,b<w.heap.size->(Go.Sort.grow w os).heap[b]? =w.heap[b]?:=λb hb=>by
  show(w.heap++os)[b]? =_;rw[aoU hb]
 refine⟨⟨hW.dom,hW.live,λi g o h1 h2=>?_,hW.inj⟩,⟨λ_ _=>rfl,bT _,λ_ _ h=>h,λ_ _ _=>rfl,bT _,λ_ _ _=>rfl,rfl,rfl,rfl,?_,λb hb _=>hold b hb,λi g hg hi=>absurd (hW.dom _ _ hg) z7,λi g _ _ _ _ hb=>hold _ hb,bT _⟩⟩
 .have hO:=hW.obj i g o h1 h2;exact hO.congr (hold _ hO.lt)
 .show w.heap.size<=(w.heap++os).size;rw[Array.size_append];omega
def IQ(o:Nat):kI vI->Array vI->Array vI
 |[],c=>c
 |v::vs,c=>IQ (o+1) vs (c.setIfInBounds o v)
def Tk(b:Nat):∀(vs:kI vI) (o:Nat) (w:World),w.setCells b o vs=mapBlock w b (IQ o vs)
 |[],o,w=>(mapBlock_id w b _ λc e fr h=>rfl).symm
 |v::vs,o,w=>by
  show(w.setCell ⟨b,o,none⟩ v).setCells b (o+1) vs=_;rw[Tk b vs (o+1),setCell_eq,mapBlock_mapBlock];rfl
def Tm:∀(vs:kI vI) (o:Nat) (c:Array vI) (k:Nat),(IQ o vs c)[k]? =if o<=k/\k<o+vs.length/\k<c.size then vs[k - o]? else c[k]?
 |[],o,c,k=>by
  rw[if_neg (by rw[Dx];omega)];rfl
 |v::vs,o,c,k=>by
  show(IQ (o+1) vs (c.setIfInBounds o v))[k]? =_;rw[Tm vs (o+1),Array.size_setIfInBounds,oP];by_cases h1:o+1<=k/\k<o+1+vs.length/\k<c.size
  .rw[if_pos h1,if_pos ⟨z7,z7,h1.2.2⟩];rw[show k - o=(k - (o+1))+1 by omega,qZ]
  .rw[if_neg h1,XG];by_cases h2:o=k
   .subst h2;rw[if_pos rfl];by_cases h3:o<c.size
    .rw[if_pos h3,if_pos ⟨bT _,z7,h3⟩,vK];rfl
    .rw[if_neg h3,if_neg z7];exact(uo z7).symm
   .rw[if_neg h2,if_neg z7]
def setCells_putRow{α:Type}[Inhabited α](enc:α->vI)(w:World)(b o:Nat)(d:Array α):w.setCells b o (d.toList.map enc)=putRow enc w b o d:=by
 rw[Tk];unfold putRow;refine mapBlock_congr w b _ _ λc e fr hc=>?_;apply Array.ext_getElem?;intro k;rw[Tm,putCells,Array.getElem?_mapIdx,bY,Array.length_toList];by_cases hk:k<c.size
 .by_cases h:o<=k/\k<o+d.size
  .rw[if_pos ⟨h.1,h.2,hk⟩,XK hk,jT,if_pos h,dm,zN,XK z7];rw[jT,getElem!_pos d _ z7]
  .rw[if_neg (λq=>h ⟨q.1,q.2.1⟩),XK hk,jT,if_neg h]
 .rw[if_neg z7,uo z7];rfl
def MW(P:Program)(f:agR):Prop:=∀(blk off cap:Nat) (zs:kI Int) (w:World),Holds (Value.int .i64) w blk off zs.toArray->blk<w.heap.size->zs.length<4611686018427387904->
 Calls P f #[.slice (some ⟨blk,off,none⟩) zs.length cap] w λe w'=>e=.returned (.tuple #[])/\∃n os,w'=Go.Sort.grow (putRow (Value.int .i64) (Sort.ahead w n) blk off (zs.mergeSort λx y=>decide (x<=y)).toArray) os
def bW(zs:kI Int):kI Int:=zs.mergeSort λx y=>decide (x<=y)
def AV(zs:kI Int):(bW zs).length=zs.length:=List.length_mergeSort zs
variable{f:agR}
def ac5(hS:MW P f){fn:Func}(hfn:P.funcs[f]? =some fn){body:Code}(hb:fn.body=some body)(hname:fn.name≠ "runtime.NumGoroutine"){b o c:Nat}{fl:x8 Nat}{zs:kI Int}{h h':IH}{cs:kI vI}
 (hg:h.get b=some (.cells cs)) (hz:∀(j:Nat) z,zs[j]? =some z->cs[o+j]? =some (.int .i64 z)) (hne:0<zs.length) (hlen:zs.length<4611686018427387904) (hs:h.storeAt b o ((bW zs).map (.int .i64))=some h'):
 mQ P ⟨.func f,[.slice (some ⟨b,o,fl⟩) zs.length c],[],none⟩ h (λr pm h2=>pm=none/\r=.ok (.tuple ⟨[]⟩)/\h2=h'):=by
 intro β w fn' args' cap' hG hW hf ha hcap;obtain⟨jX,t1,t2⟩:=Rl (P:=P) (q:=⟨.func f,[.slice (some ⟨b,o,fl⟩) zs.length c],[],none⟩) (f:=f) (args:=[.slice (some ⟨b,o,fl⟩) zs.length c]) Gk hf ha hcap hfn hb hname w;cases t2 with|cons hv tl=>
 cases tl;obtain⟨g,a,c',hi,rfl,hab,_,hn,hcc,hao,_⟩:=hv.nT;have hao:a.off=g.off+o/\a.spot=none:=by
  rcases hao with e|e
  .omega
  .exact e
 obtain⟨⟨c0,t0,fz0,hh⟩,q2,q3,q4,q5,q6⟩:=hW.obj b g _ hi hg;have ea:a=⟨g.b,g.off+o,none⟩:=by
  obtain⟨ab,ao,as⟩:=a;simp only at hab hao;rw[hab,hao.1,hao.2]
 subst ea;have hin:∀j,j<zs.length->o+j<cs.length:=λj hj=>(bq.1 (hz j _ (bP hj))).1;have hH:Holds (Value.int .i64) w g.b (g.off+o) zs.toArray:=λj hj=>by
  have hj:j<zs.length:=by simpa using hj
  obtain⟨v',h1,h2⟩:=q6 (o+j) _ (hz j _ (bP hj));have:=h2.mo;subst this;refine⟨?_,(q4 _ (by have:=hin j hj;omega)).2⟩;rw[qw,h1];congr 2;rw[getElem!_pos zs.toArray j (by simpa using hj)];simp
 have hlt:g.b<w.heap.size:=(XH.1 hh).1;have hC:=hS g.b (g.off+o) c' zs w hH hlt hlen;obtain⟨_,w1,w2⟩:=KP hW hi hs (vs':=(bW zs).map (.int .i64)) (aW.free (by
  have:∀l:kI Int,fZ (l.map (Value.int .i64))=true:=by
   intro l;induction l with
   |nil=>rfl
   |cons x l ih=>rw[agO];simp[fZ,cK,Ideal.cellV,ih]
  exact this _)) (by
  rw[lK];intro x hx;obtain⟨z,_,rfl⟩:=eT.1 hx;rfl)
 refine⟨_,Frame.enter P f ⟨_⟩ .normal,t1,rfl,λcs0 Ar=>?_⟩;obtain⟨e,w',fr,⟨he,k,os,hw'⟩,hcomes,hfr,hlv⟩:=hC cs0;subst he;have hw1:putRow (Value.int .i64) (Sort.ahead w k) g.b (g.off+o) (zs.mergeSort λx y=>decide (x<=y)).toArray=Sort.ahead (w.setCells g.b (g.off+o) ((bW zs).map (.int .i64))) k:=by
  have:=setCells_putRow (Value.int .i64) w g.b (g.off+o) (bW zs).toArray;rw[show(bW zs).toArray.toList=bW zs from rfl]at this;rw[this];rfl
 rw[hw1]at hw';have w3:WR P β h' (Sort.ahead (w.setCells g.b (g.off+o) ((bW zs).map (.int .i64))) k):=w1.uH rfl;have w4:=w2.trans (Eff.uH (w':=Sort.ahead (w.setCells g.b (g.off+o) ((bW zs).map (.int .i64))) k) w1.dom rfl rfl rfl rfl (Nat.le_add_right _ _));obtain⟨w5,w6⟩:=w3.grow os;rw[<- hw']at w5 w6;refine⟨.ok (.tuple ⟨[]⟩),none,h',β,w',.returned (.tuple #[]),cs0,⟨rfl,rfl,rfl⟩,w5,w4.trans w6,.ok (.dU _),.none cs0,.inl ⟨f,_,fr,rfl,hcomes,hfr,hlv.2.2.1,hlv.1,hlv.2.1,hlv.2.2.2⟩⟩
def MX{α:Type}:∀(l:kI α) (o:Nat) (xs:kI α),o+xs.length<=l.length->∃r,jV l o xs=some r
 |[],o,xs,h=>by
  have h1:xs=[]:=jy.1 (by rw[Dx]at h;omega);have h2:o=0:=by rw[Dx]at h;omega
  exact⟨[],by rw[Ql,if_pos ⟨h1,h2⟩]⟩
 |c::l,0,[],h=>⟨_,Qm c l⟩
 |c::l,0,x::xs,h=>by
  obtain⟨r,hr⟩:=MX l 0 xs (by simp only[oP]at h;omega);exact⟨x::r,by rw[KH,hr];rfl⟩
 |c::l,o+1,xs,h=>by
  obtain⟨r,hr⟩:=MX l o xs (by simp only[oP]at h;omega);exact⟨c::r,by rw[KI,hr];rfl⟩
def ac6(hS:MW P f){fn:Func}(hfn:P.funcs[f]? =some fn){body:Code}(hb:fn.body=some body)(hname:fn.name≠ "runtime.NumGoroutine"){a:x8 Addr}{zs:kI Int}(hne:0<zs.length)(hlen:zs.length<4611686018427387904):
 bA P (.func f) [.slice a zs.length zs.length] [] [ap ae (.slice a zs.length zs.length) zs] [] (λ_:Unit=>.tuple ⟨[]⟩) (λ_=>[ap ae (.slice a zs.length zs.length) (bW zs)]) (λ_=>[]) (λ_=>True):=by
 intro B w s;obtain⟨S,⟨S1,S2,q1,q2,e⟩,h2,h3⟩:=s.own;rcases q1 with⟨h,_⟩|⟨b,o,fl,cells,e1,hf,e2,hb',hcl,hel⟩
 .rw[h]at hne;simp at hne
 injection e1 with e1 e1';subst e1;have hcl:cells.length=o+zs.length:=by rw[hcl];simp[ae]
 have hz:∀(j:Nat) z,zs[j]? =some z->cells[o+j]? =some (.int .i64 z):=λj z hj=>by
  obtain⟨y,u1,_⟩:=hel j z hj;exact sv
 have hst:∃cs2,w.h.storeAt b o ((bW zs).map (.int .i64))=some (w.h.set b (.cells cs2))/\cs2.length=cells.length/\∀(k:Nat) z,(bW zs)[k]? =some z->cs2[o+k]? =some (.int .i64 z):=by
  have hov:∃cs2,jV cells o ((bW zs).map (.int .i64))=some cs2:=MX _ _ _ (by rw[bY,AV];omega);obtain⟨cs2,hl⟩:=hov;obtain⟨l1,l2,l3⟩:=KJ hl;refine⟨cs2,?_,l2,λk z hk=>?_⟩
  .unfold IH.storeAt;simp only[hb',hl]
  .rw[l3,if_pos ⟨z7,by have:=(bq.1 hk).1;rw[bY];omega⟩,XJ,dm,hk];rfl
 obtain⟨cs2,hst,hl2,ac7⟩:=hst;refine .real (Rj _ (ac5 hS hfn hb hname hb' hz hne hlen hst) ?_);rintro r pm h' ⟨rfl,rfl,rfl⟩;have s1:St B w [pt b (.cells cells)] [] w:=⟨s.agree,s.le,s.af9,⟨S,⟨S1,S2,⟨e2,hb'⟩,q2,e⟩,h2,h3⟩,λf hf=>by cases hf⟩
 refine⟨rfl,⟨w.h.set b (.cells cs2),w.z,λi hi=>w.nJ i hi⟩,(),rfl,?_,rfl,trivial⟩;refine(s1.write (o':=.cells cs2)).AB (A:=pt b (.cells cs2)) λw' S' hp=>?_;refine .inr ⟨b,o,fl,cs2,by rw[AV],hf,hp.1,hp.2,by rw[hl2,hcl,AV];simp[ae],λk x hk=>⟨(),λj u hj=>?_,λf hf=>by cases hf⟩⟩;match j,hj with
 |0,hj=>
  cases hj;have:=ac7 k x hk;simpa[ae]using this
end Go.Ideal
namespace Go.Ideal
variable {P:Program}
def y9{α:Type}(P:Program)(vals:α->kI vI)(fn:Fn)(first cap:kI vI)(F:kI aO)(X:kI α->Prop):Prop:=
 ∀(S:Type) (inv:S->kI OA) (ok:kI α->S->Prop) (step:S->α->S×Bool) (s0:S) (Fb:Fn) (y1 y2:kI vI) (F':kI aO),ok [] s0->
  (∀vs s x rest,ok vs s->X (vs++x::rest)->(step s x).2=true->ok (vs++[x]) (step s x).1)->
  (∀vs s x rest,ok vs s->X (vs++x::rest)->bA P Fb (y1++vals x) y2 (inv s) F' (λ_:Unit=>.bool (step s x).2) (λ_=>inv (step s x).1) (λ_=>[]) (λ_=>True))->
  bA P fn (first++[.func Fb ⟨y1⟩ ⟨y2⟩]) cap (inv s0) (F++F') (λ_:kI α=>.tuple ⟨[]⟩) (λxs=>inv (mD step s0 xs)) (λ_=>[]) X
section
variable {B:kI Nat} {w0:Wd} {kl kl' bH:kI OA} {F:kI aO} {K:KO} {n:Nat} {l:qr} {D:kI Deferred} {pm:x8 FrameMode} {ro:x8 Nat}
def IR{Z:Type}(B:kI Nat)(w0:Wd)(n:Nat)(l3:Z->qr)(lo:Nat)(o:dN)(kl:Z->kI OA)(F:kI aO):KO:=λoo a h=>
 oo=.normal/\∃z,a=act n (l3 z) [] none (some lo)/\∃w:Wd,w.h=h/\St B w0 (pt lo o::kl z) F w
variable{Z:Type}{lo:Nat}
def IU{l3:Z->qr}{o:dN}{k3:Z->kI OA}(z:Z)(hl:l3 z=l)(hk:aI (pt lo o::k3 z) kl bH:=by exact pg):R (λh=>IR B w0 n l3 lo o k3 F .normal (act n l [] none (some lo)) h) B w0 kl F:=λw s=>
 ⟨rfl,z,by rw[hl],w,rfl,(s.kv hk).drop⟩
def ac8{Y:Type}{L:oV}{args:kI vI}{k1:kI OA}{out:Y->Out}{k1':Y->kI OA}{fs:Y->kI aO}{pr:Y->Prop}(l:qr)(l3:Z->qr)(k3:Z->kI OA)(hl:L.tmps=ahI l)(hst:L.state=.ready)(hps:L.params.all (λp=>Nat.blt p L.n)=true)(hlen:L.params.length=args.length)
 (ha:∀B w0,R (λh=>EV P L.assign (act L.n ((L.params.zip args).reverse++l) [] none (some lo)) h (IR B w0 L.n l3 lo (.loop L) k3 F)) B w0 (pt lo (.loop L)::k1) F)
 (hb:∀z B w0,R (λh=>EV P L.body (act L.n (l3 z) [] none (some lo)) h (EX B w0 lo L out k1' fs pr)) B w0 (pt lo (.loop (y5 L))::k3 z) F):
 bA P (.yield lo) args [] (pt lo (.loop L)::k1) F (λy:Y=>.bool (qH (out y))) (λy=>pt lo (.loop (oG L (out y)))::k1' y) fs pr:=by
 intro B w s;obtain⟨l2,e1,e2⟩:=Sv L.n L.params args l hps hlen;refine .round lo rfl rfl L s.get.1 hlen.symm _ (by
  rw[hl];show EV P L.assign (aV.mk L.n (uD L.n L.params args (ahI l)) [] none (some lo)) w.h _;rw[e1,e2];exact ha B w w s) ?_ ?_
 .rintro o a h ⟨rfl,z,rfl,w1,rfl,s1⟩;exact⟨rfl,L,s1.get.1,hst⟩
 .rintro a h r1 ⟨_,z,rfl,w1,rfl,s1⟩ hr;have hr1:r1=L:=by
   have:=s1.get.1;rw[hr]at this;injection this with this;injection this
  subst hr1;have hb:=hb z B w _ (s1.write (o':=.loop (y5 r1)));refine LY hb _ ?_;rintro o a h ⟨hd,w2,y,rfl,rfl,hn,s2,hp⟩;refine⟨y5 r1,s2.get.1,hd,?_⟩;have fin:∀o',qH o'=qH (out y)->oG r1 o'=oG r1 (out y)->Left B w (λy:Y=>.bool (qH (out y))) (λy=>pt lo (.loop (oG r1 (out y)))::k1' y) fs pr (.ok (.bool (qH (out y)))) none (w2.h.set lo (.loop (oG r1 (out y)))):=λo' _ _=>
   ⟨rfl,_,y,rfl,s2.write,rfl,hp⟩
  cases ho:out y with
  |normal=>have:=fin .normal BY BY;rw[ho]at this;exact this
  |exit j=>have:=fin (.exit j) BY BY;rw[ho]at this;exact this
  |ret=>have:=fin .ret BY BY;rw[ho]at this;exact this
  |panic ch=>rw[ho]at hn;exact hn.elim
variable{S α:Type}{ps:kI Tmp}{assign body:dI}{fn:Fn}{first captured:kI vI}{F1:kI aO}
def ac9{f:aaB}{vals:α->kI vI}{X:kI α->Prop}(step:S->α->S×Out)(inv:S->kI OA)(ok:kI α->S->Prop)(s0:S)(h0:ok [] s0)
 (hok:∀vs s x rest,ok vs s->X (vs++x::rest)->(step s x).2=.normal->ok (vs++[x]) (step s x).1) (hit:y9 P vals fn first captured F1 X)
 (hf:ev l f=.func fn ⟨first⟩ ⟨captured⟩) (hps:ps.all (λp=>Nat.blt p n)=true) (hlen:∀x,ps.length=(vals x).length) (hk:aI (inv s0) kl bH) (hF:Sub F1 F) (jM:∀s x,EW (step s x).2)
 (l3:α->Z->qr) (k3:α->Z->kI OA)
 (ha:∀(s:S) (x:α) (lo:Nat) (o:dN) B w0,R (λh=>EV P assign (act n ((ps.zip (vals x)).reverse++l) [] none (some lo)) h (IR B w0 n (l3 x) lo o (λz=>k3 x z++inv s) F)) B w0 (pt lo o::inv s) F)
 (hb:∀(vs:kI α) (s:S) (x:α) (rest:kI α) (z:Z) (lo:Nat) (L:oV) B w0,ok vs s->X (vs++x::rest)->R (λh=>EV P body (act n (l3 x z) [] none (some lo)) h (EX B w0 lo L (λ_:Unit=>(step s x).2) (λ_=>inv (step s x).1) (λ_=>[]) (λ_=>True))) B w0 (pt lo (.loop (y5 L))::(k3 x z++inv s)) F)
 (next:∀r xs,X xs->R (λh=>K (pq step s0 xs).2 (act n l ({target:=.collected r,args:= #[]}::D) pm none) h) B w0 (inv (pq step s0 xs).1++(pt r (.aid true)::bH)) F):
 R (λh=>EV P (.rangeFunc f ps assign body) (act n l D pm none) h K) B w0 kl F:=by
 refine acH (Y:=kI α) (k1:=inv s0) (F1:=F1++F) (MJ:=λ_=>.tuple ⟨[]⟩) (out:=λxs=>(pq step s0 xs).2) (k1':=λxs=>inv (pq step s0 xs).1) (fs:=λ_=>[]) (pr:=X) hf ?_ hk (hF.app (Sub.refl' F [])) (λr y hy=>next r y hy);intro lo r;have:=hit (S×Out) (λso=>pt lo (.loop (oG ⟨.ready,none,ahI l,n,ps,assign,body,r⟩ so.2))::inv so.1) (λvs so=>so.2=.normal/\ok vs so.1) (λso x=>(step so.1 x,qH (step so.1 x).2)) (s0,.normal) (.yield lo) [] [] F ⟨rfl,h0⟩
  (λvs so x rest ho hx h=>by
    exact eo)
  (λvs so x rest ho hx=>by
    exact cI)
 have e:(λxs:kI α=>pt lo (.loop (oG ⟨.ready,none,ahI l,n,ps,assign,body,r⟩ (mD (λ(so:S×Out) x=>(step so.1 x,qH (step so.1 x).2)) (s0,.normal) xs).2))::inv (mD (λ(so:S×Out) x=>(step so.1 x,qH (step so.1 x).2)) (s0,.normal) xs).1)=λxs=>pt lo (.loop (oG ⟨.ready,none,ahI l,n,ps,assign,body,r⟩ (pq step s0 xs).2))::inv (pq step s0 xs).1:=by
  funext xs
  rw[Sw]
 have h2:bA P fn (first++[.func (.yield lo) ⟨[]⟩ ⟨[]⟩]) captured (pt lo (.loop ⟨.ready,none,ahI l,n,ps,assign,body,r⟩)::inv s0) (F1++F) (λ_:kI α=>.tuple ⟨[]⟩) (λxs=>pt lo (.loop (oG ⟨.ready,none,ahI l,n,ps,assign,body,r⟩ (mD (λ(so:S×Out) x=>(step so.1 x,qH (step so.1 x).2)) (s0,.normal) xs).2))::inv (mD (λ(so:S×Out) x=>(step so.1 x,qH (step so.1 x).2)) (s0,.normal) xs).1) (λ_=>[]) X:=this;rw[e]at h2;exact h2
def IV{f:aaB}{vals:α->kI vI}{X:kI α->Prop}(step:S->α->S×Out)(inv:S->kI OA)(ok:kI α->S->Prop)(s0:S)(l3:α->Z->qr)(k3:α->Z->kI OA)(h0:ok [] s0)
 (hok:∀vs s x rest,ok vs s->X (vs++x::rest)->(step s x).2=.normal->ok (vs++[x]) (step s x).1) (hit:y9 P vals fn first captured F1 X)
 (ha:∀(s:S) (x:α) (lo:Nat) (o:dN) B w0,R (λh=>EV P assign (act n ((ps.zip (vals x)).reverse++l) [] none (some lo)) h (IR B w0 n (l3 x) lo o (λz=>k3 x z++inv s) F)) B w0 (pt lo o::inv s) F)
 (hb:∀(vs:kI α) (s:S) (x:α) (rest:kI α) (z:Z) (lo:Nat) (L:oV) B w0,ok vs s->X (vs++x::rest)->R (λh=>EV P body (act n (l3 x z) [] none (some lo)) h (EX B w0 lo L (λ_:Unit=>(step s x).2) (λ_=>inv (step s x).1) (λ_=>[]) (λ_=>True))) B w0 (pt lo (.loop (y5 L))::(k3 x z++inv s)) F)
 (next:∀r xs,X xs->R (λh=>K (pq step s0 xs).2 (act n l ({target:=.collected r,args:= #[]}::D) pm none) h) B w0 (inv (pq step s0 xs).1++(pt r (.aid true)::bH)) F)
 (jM:∀s x,EW (step s x).2)
 (hf:ev l f=.func fn ⟨first⟩ ⟨captured⟩:=by rfl) (hps:ps.all (λp=>Nat.blt p n)=true:=by rfl) (hlen:∀x,ps.length=(vals x).length:=by intro _;rfl)
 (hk:aI (inv s0) kl bH:=by exact pg) (hF:Sub F1 F:=by exact o9):
 R (λh=>EV P (.rangeFunc f ps assign body) (act n l D pm none) h K) B w0 kl F:=
 ac9 step inv ok s0 h0 hok hit hf hps hlen hk hF jM l3 k3 ha hb next
end
end Go.Ideal
namespace Go.Ideal
variable {P:Program}
def eG{α:Type}(E:Enc α)(aC:kI (α×E.Y)):kI vI:=aC.flatMap λp=>E.pat p.1 p.2
def za{α:Type}{E:Enc α}:∀aC:kI (α×E.Y),(eG E aC).length=aC.length*E.n
 |[]=>by simp[eG]
 |p::l=>by
  have ih:=za l;unfold eG at ih⊢;rw[Gj,iH,ih,E.len,oP,ru];omega
def vZ{α:Type}{E:Enc α}:∀{aC:kI (α×E.Y)} {k:Nat} {p:α×E.Y} {j:Nat} {u:vI},aC[k]? =some p->(E.pat p.1 p.2)[j]? =some u->(eG E aC)[k*E.n+j]? =some u
 |[],k,p,j,u,h,_=>by cases h
 |q::l,0,p,j,u,h,hj=>by
  cases h;unfold eG;rw[Gj,Gh,fo,qp (bq.1 hj).1];exact hj
 |q::l,k+1,p,j,u,h,hj=>by
  have ih:=vZ (aC:=l) (k:=k) AH hj;unfold eG at ih⊢;rw[Gj,pR (by rw[E.len,ru];omega),E.len,show(k+1)*E.n+j - E.n=k*E.n+j by rw[ru];omega];exact ih
def MZ{α:Type}{E:Enc α}{j:Nat}{v:vI}:∀{aC:kI (α×E.Y)} {k:Nat} {p p':α×E.Y},aC[k]? =some p->(E.pat p.1 p.2).set j v=E.pat p'.1 p'.2->j<E.n->(eG E aC).set (k*E.n+j) v=eG E (aC.set k p')
 |[],k,p,p',h,_,_=>by cases h
 |q::l,0,p,p',h,hp,hj=>by
  cases h;unfold eG;rw[Gj,Gh,fo,List.set_append_left _ _ GB,hp];rfl
 |q::l,k+1,p,p',h,hp,hj=>by
  have ih:=MZ (aC:=l) (k:=k) AH hp hj;unfold eG at ih⊢;rw[Gj,Gl _ _ (by rw[E.len,ru];omega),E.len,show(k+1)*E.n+j - E.n=k*E.n+j by rw[ru];omega,ih];rfl
def rT{α:Type}(E:Enc α)(v:vI)(aC:kI (α×E.Y)):aO:=
 ⟨λw=>(aC=[]/\∃a c,v=.slice a 0 c/\Mw E.n a)\/∃i o f c cells,(v=.slice (some ⟨i,o,some f⟩) aC.length c/\aC.length<=c/\(f=0\/f=E.n))/\Fz w i cells/\
  ∀(k:Nat) p,aC[k]? =some p->(∀(j:Nat) u,(E.pat p.1 p.2)[j]? =some u->cells[o+k*E.n+j]? =some u)/\∀f∈E.fs p.1 p.2,f.p w,
  λa h=>by
   rcases h with h|⟨i,o,f,c,cells,h1,h2,h3⟩
   .exact .inl h
   .refine .inr ⟨i,o,f,c,cells,h1,h2.mono a,λk x hk=>?_⟩;obtain⟨q1,q2⟩:=h3 k x hk;exact⟨q1,λf hf=>f.mono a (q2 f hf)⟩⟩
def pG{α:Type}(E:Enc α)(aC:kI (α×E.Y)):aO:=⟨λw=>∀p∈aC,∀f∈E.fs p.1 p.2,f.p w,λa h p hp f hf=>f.mono a (h p hp f hf)⟩
variable{α:Type}{v:vI}{w:Wd}
def ada{E:Enc α}{aC:kI (α×E.Y)}(h:(rT E v aC).p w):(pG E aC).p w:=by
 intro p hp f hf;rcases h with⟨rfl,_⟩|⟨i,o,fl,c,cells,_,_,h3⟩
 .cases hp
 .obtain⟨k,hk⟩:=uy.1 hp;exact(h3 k p hk).2 f hf
def adb{E:Enc α}{aC:kI (α×E.Y)}(h:(rT E v aC).p w):(ai E v (aC.map (·.1))).p w:=by
 rcases h with⟨rfl,h⟩|⟨i,o,f,c,cells,h1,h2,h3⟩
 .exact .inl ⟨rfl,h⟩
 .refine .inr ⟨i,o,f,c,cells,by rw[bY];exact h1,h2,λk x hk=>?_⟩;rw[dm]at hk;cases hp:aC[k]? with
  |none=>rw[hp]at hk;cases hk
  |some p=>
   rw[hp]at hk;cases hk;exact⟨p.2,h3 k p hp⟩
def Tn{E:Enc α}{xs:kI α}(h:(ai E v xs).p w):∃aC:kI (α×E.Y),aC.map (·.1)=xs/\(rT E v aC).p w:=by
 rcases h with⟨rfl,h⟩|⟨i,o,f,c,cells,h1,h2,h3⟩
 .exact⟨[],rfl,.inl ⟨rfl,h⟩⟩
 .obtain⟨l,hl,hp⟩:=IE (p:=λk (p:α×E.Y)=>xs[k]? =some p.1/\(∀(j:Nat) u,(E.pat p.1 p.2)[j]? =some u->cells[o+k*E.n+j]? =some u)/\∀f∈E.fs p.1 p.2,f.p w) xs.length (λk hk=>by
   obtain⟨y,q1,q2⟩:=h3 k xs[k] (bP hk);exact⟨(xs[k],y),bP hk,q1,q2⟩)
  have hm:l.map (·.1)=xs:=by
   exact lB
  exact⟨l,hm,.inr ⟨i,o,f,c,cells,by rw[hl];exact h1,h2,λk p hk=>(hp k p hk).2⟩⟩
def ar{α:Type}(E:Enc α)(v:vI)(aC:kI (α×E.Y)):OA:=
 ⟨λw S=>(aC=[]/\(∃a,v=.slice a 0 0/\Mw E.n a)/\S=[])\/∃b f,v=.slice (some ⟨b,0,some f⟩) aC.length aC.length/\(f=0\/f=E.n)/\S=[b]/\w.h.get b=some (.cells (eG E aC)),
  λa h hp=>by
   rcases hp with hp|⟨b,f,h1,h2,h3,h4⟩
   .exact .inl hp
   .exact .inr ⟨b,f,h1,h2,h3,by rw[h b DE];exact h4⟩⟩
def ade{E:Enc α}{aC:kI (α×E.Y)}(w w':Wd)(S:kI Nat)(hp:(ar E v aC).p w S)(hle:w.Le w')(hh:w'.h=w.h)(hz:∀i∈S,w'.z i)(ha:(pG E aC).p w):(rT E v aC).p w':=by
 rcases hp with⟨h1,⟨a,h2,h3⟩,_⟩|⟨b,f,h1,h2,h3,h4⟩
 .exact .inl ⟨h1,a,0,h2,h3⟩
 .refine .inr ⟨b,0,f,_,_,⟨h1,bT _,h2⟩,⟨hz b DE,.inl (by rw[hh];exact h4)⟩,λk p hk=>⟨λj u hj=>?_,λf hf=>f.mono hle (ha p (aZ hk) f hf)⟩⟩;rw[fo];exact vZ hk hj
section
variable {B:kI Nat} {w0:Wd} {kl kl' bH:kI OA} {F:kI aO} {K:KO} {ds:kI Tmp} {rest:kI bV} {n:Nat} {l:qr} {D:kI Deferred} {pm:x8 FrameMode} {ro:x8 Nat} {d:Nat} {g:x8 (Tmp×Bool)}
variable {α:Type} {E:Enc α} {v:vI}
variable{Q:IH->Prop}
def IW{xs:kI α}(E:Enc α)(v:vI)(h:∀aC:kI (α×E.Y),aC.map (·.1)=xs->R Q B w0 kl (rT E v aC::F))(hf:ai E v xs∈F:=by exact vW):R Q B w0 kl F:=λw s=>by
 obtain⟨aC,h1,h2⟩:=Tn (s.facts _ hf);exact h aC h1 w ⟨s.agree,s.le,s.af9,s.own,λf hf=>by
  rcases dx.1 hf with rfl|hf
  .exact h2
  .exact s.facts f hf⟩
variable{aC:kI (α×E.Y)}
def Tp(h:R Q B w0 kl (pG E aC::F))(hf:rT E v aC∈F:=by exact vW):R Q B w0 kl F:=λw s=>
 h w ⟨s.agree,s.le,s.af9,s.own,λf hf'=>by
  rcases dx.1 hf' with rfl|hf'
  .exact ada (s.facts _ hf)
  .exact s.facts f hf'⟩
def IX(h:R Q B w0 kl' (rT E v aC::ai E v (aC.map (·.1))::F))(ha:∀w,(∀f∈F,f.p w)->(pG E aC).p w)(hk:az (ar E v aC) kl kl':=by exact afv):R Q B w0 kl F:=λw s=>by
 have hall:=ha w s.facts;obtain⟨S,⟨S1,S2,q1,q2,e⟩,h2,h3⟩:=(s.gq hk).own;subst e;let w':Wd:=⟨w.h,λi=>w.z i\/i∈S1,λi hi=>hi.elim (w.nJ i) λhi=>(h3 i (je _ hi)).2.1⟩
 have hle:w.Le w':=⟨bT _,λi hi=>.inl hi,λ_ _=>rfl⟩
 have hnd:=iT.1 h2;have hel:=ade w w' S1 q1 hle rfl (λi hi=>.inr hi) hall;refine h w' ⟨s.agree,s.le.trans hle,λi hi hz=>?_,⟨S2,fI.loc hle (λ_ _=>rfl) q2,hnd.2.1,λi hi=>?_⟩,λf hf=>?_⟩
 .rcases hz with hz|hz
  .exact s.af9 i hi hz
  .exact wk
 .exact pe
 .rcases dx.1 hf with rfl|hf
  .exact hel
  .rcases dx.1 hf with rfl|hf
   .exact adb hel
   .exact f.mono hle (s.facts f hf)
def Tq(hlen:0<aC.length)(h:∀b f,(f=0\/f=E.n)->v=.slice (some ⟨b,0,some f⟩) aC.length aC.length->R Q B w0 (pt b (.cells (eG E aC))::kl') F)(hk:az (ar E v aC) kl kl':=by exact afv):R Q B w0 kl F:=λw s=>by
 have s1:=s.gq hk;obtain⟨S,⟨S1,S2,q1,q2,e⟩,h2,h3⟩:=s1.own;rcases q1 with⟨h0,_⟩|⟨b,f,h4,h5,h6,h7⟩
 .rw[h0]at hlen;simp at hlen
 .exact h b f h5 h4 w ⟨s1.agree,s1.le,s1.af9,⟨S,⟨S1,S2,⟨h6,h7⟩,q2,e⟩,h2,h3⟩,s1.facts⟩
def tT{α:Type}(E:Enc α){aC:kI (α×E.Y)}{Q:IH->Prop}{b f m:Nat}(hm:m=aC.length)(hf:f=0\/f=E.n)(h:R Q B w0 (ar E (.slice (some ⟨b,0,some f⟩) m m) aC::kl') F)(hk:az (pt b (.cells (eG E aC))) kl kl':=by exact afv):R Q B w0 kl F:=λw s=>by
 refine h w ((s.gq hk).AB (A:=pt b (.cells (eG E aC))) λw S hp=>.inr ⟨b,f,by rw[hm],hf,hp.1,hp.2⟩)
def Tt(h:∀a,v=.slice a aC.length aC.length->R Q B w0 kl F)(hk:az (ar E v aC) kl kl':=by exact afv):R Q B w0 kl F:=λw s=>by
 obtain⟨S,⟨S1,S2,q1,q2,e⟩,h2,h3⟩:=(s.gq hk).own;rcases q1 with⟨rfl,⟨a,h1,_⟩,_⟩|⟨b,f,h4,_⟩
 .exact h a h1 w s
 .exact h _ h4 w s
variable{x:aaB}{c m:Nat}{t e:adH}
def Fe(hu:P.underlying t=some (.slice e))(hx:ev l x=.slice none m c):Pu P (ev l) (.bin .eql t x (.const (.slice none 0 0))) (.bool true):=λh=>by
 have he:eD P (Op.equal t (.slice none m c) (.slice none 0 0))=some true:=by
  show eD P (Op.equalIn (9999+1) t (.slice none m c) (.slice none 0 0))=_;unfold Op.equalIn;rw[ig,rM hu];rfl
 have h1:kK P (do eqGuard .eql t x (.const (.slice none 0 0)) (.slice none m c) (.slice none 0 0);binOp .eql t (.slice none m c) (.slice none 0 0))=some (.bool true):=by
  exact ir
 have h2:mg P .eql t x (.const (.slice none 0 0)) (.slice none m c) (.slice none 0 0)=some (.bool true):=by
  by_cases hmc:m=0/\c=0
  .show cond (cK (Value.slice none m c)&&cK (Value.slice none 0 0)) (kK P (do eqGuard .eql t x (.const (.slice none 0 0)) (.slice none m c) (.slice none 0 0);binOp .eql t (.slice none m c) (.slice none 0 0))) _=_;rw[h1];obtain⟨rfl,rfl⟩:=hmc;simp[cK]
  .have e0:cK (Value.slice none m c)=false:=by
    cases hb:cK (Value.slice none m c)with
    |false=>rfl
    |true=>exact absurd (by simpa[cK]using hb) hmc
   have e1:sV P t (.slice none m c) (.slice none 0 0)=some true:=by
    unfold sV;rw[hu]
   show cond (cK (Value.slice none m c)&&cK (Value.slice none 0 0)) _ (match sV P t (.slice none m c) (.slice none 0 0)with|some b=>some (Value.bool b)|none=>none)=_;rw[e0,e1];rfl
 simp only[aF.run,hx];show(match mg P .eql t x (.const (.slice none 0 0)) (.slice none m c) (.slice none 0 0)with|some v=>some (v,h)|none=>none)=_;rw[h2]
def zb{a:Addr}(hu:P.underlying t=some (.slice e))(hx:ev l x=.slice (some a) m c):Pu P (ev l) (.bin .eql t x (.const (.slice none 0 0))) (.bool false):=λh=>by
 have h2:mg P .eql t x (.const (.slice none 0 0)) (.slice (some a) m c) (.slice none 0 0)=some (.bool false):=by
  have:sV P t (.slice (some a) m c) (.slice none 0 0)=some false:=by
   unfold sV;rw[hu]
  show(match sV P t (.slice (some a) m c) (.slice none 0 0)with|some b=>some (Value.bool b)|none=>none)=_;rw[this]
 simp only[aF.run,hx];show(match mg P .eql t x (.const (.slice none 0 0)) (.slice (some a) m c) (.slice none 0 0)with|some v=>some (v,h)|none=>none)=_;rw[h2]
variable{s:aaB}{b:Nat}
def IY{e:adH}{size bytes:Nat}{a:x8 Addr}
 (next:R (λh=>aH P ds rest (act n ((d,.slice (some ⟨b,0,some 0⟩) 0 0)::l) D pm ro) h K) B w0 (pt b (.cells [])::kl') F)
 (hs:ev l s=.slice (some ⟨b,0,some 0⟩) 0 0:=by rfl) (hx:ev l x=.slice a 0 c:=by rfl) (hk:az (pt b (.cells [])) kl kl':=by exact afv) (hn:Nat.blt d n=true:=by rfl) (hg:cZ l g=true:=by rfl):
 R (λh=>aH P ds (⟨⟨some d,g,.append e size bytes s x⟩,[]⟩::rest) (act n l D pm ro) h K) B w0 kl F:=λw st=>by
 have st1:=st.gq hk;refine mq hn hg (v:=.slice (some ⟨b,0,some 0⟩) 0 0) (h':=w.h.set b (.cells [])) ?_ (next ⟨w.h.set b (.cells []),w.z,λi hi=>w.nJ i hi⟩ st1.write);have h0:∀m,Nat.mul 0 m=0:=λm=>Gh m;have e1:w.h.storeAt b 0 []=some (w.h.set b (.cells [])):=by
  unfold IH.storeAt;simp only[st1.get.1];rfl
 simp only[aF.run,hx,hs,oW,yG,wX];show cond (Nat.ble (Nat.mul (Nat.add 0 0) bytes) small&&Nat.ble (Nat.mul (Nat.add 0 0) size) small&&Nat.ble (Nat.add 0 0) small) (cond (Nat.ble (Nat.add 0 0) 0) (match w.h.storeAt b (Nat.add 0 (Nat.mul 0 size)) []with|some h=>some (Value.slice (some ⟨b,0,some 0⟩) (Nat.add 0 0) 0,h)|none=>none) _) none=_;rw[show Nat.add 0 0=0 from rfl,h0,h0,show Nat.add 0 0=0 from rfl,e1];have:(Nat.ble 0 small&&Nat.ble 0 small&&Nat.ble 0 small)=true:=rfl;rw[this];rfl
def IZ{α:Type}{e:adH}{size bytes:Nat}(E:Enc α)(aC:kI (α×E.Y))(hne:0<aC.length)(hm:aC.length*bytes<=1073741824/\aC.length*size<=1073741824/\aC.length<=1073741824)
 (next:∀b',R (λh=>aH P ds rest (act n ((d,.slice (some ⟨b',0,some size⟩) aC.length aC.length)::l) D pm ro) h K) B w0 (pt b' (.cells (eG E aC))::kl') F)
 (hs:ev l s=.slice (some ⟨b,0,some 0⟩) 0 0:=by rfl) (hx:ev l x=v:=by conv=>lhs;whnf) (hf:rT E v aC∈F:=by exact vW) (hz:E.n=size:=by rfl) (hk:az (pt b (.cells [])) kl kl':=by exact afv) (hn:Nat.blt d n=true:=by rfl) (hg:cZ l g=true:=by rfl):
 R (λh=>aH P ds (⟨⟨some d,g,.append e size bytes s x⟩,[]⟩::rest) (act n l D pm ro) h K) B w0 kl F:=λw st=>by
 subst hz;have st1:=st.gq hk;have hat:At w.h b (.cells []):=st.at_ hk;obtain⟨k,hk'⟩:∃k,aC.length=k+1:=⟨aC.length - 1,z7⟩
 rcases st.facts _ hf with⟨rfl,_⟩|⟨i,o,f,c,cells,⟨e1,hc⟩,q2,q3⟩
 .simp at hne
 have hfl:=za aC;have hcells:∀j,j<aC.length*E.n->cells[o+j]? =(eG E aC)[j]?:=λj hj=>by
  have hn0:0<E.n:=by
   exact wA
  have hd:j/E.n<aC.length:=by rw[anE hn0];exact hj
  have hmod:=zO j hn0;have hpk:=bP hd;have hu:(E.pat (aC[j/E.n]).1 (aC[j/E.n]).2)[j%E.n]? =some ((E.pat (aC[j/E.n]).1 (aC[j/E.n]).2)[j%E.n]'(by rw[E.len];exact hmod)):=bP _;have h1:=(q3 (j/E.n) _ hpk).1 (j%E.n) _ hu;have h2:=vZ hpk hu;have yX:j/E.n*E.n+j%E.n=j:=HR
  rw[qw,yX]at h1;rw[yX]at h2;rw[h1,h2]
 have hlen:o+aC.length*E.n<=cells.length\/aC.length*E.n=0:=by
  rcases Gc (aC.length*E.n)with h0|h0
  .exact .inr h0
  .left;have h1:=hcells (aC.length*E.n - 1) z7;have hx0:(eG E aC)[aC.length*E.n - 1]? =some ((eG E aC)[aC.length*E.n - 1]'(z7)):=bP _;rw[hx0]at h1;have:=(bq.1 h1).1;omega
 have hpos:0<E.n\/E.n=0:=z7
 have hread:w.h.iM i o (aC.length*E.n)=some (eG E aC):=by
  rw[q2.cells.iM,p9,qD,if_pos A0];congr 1;apply iY;intro j;rw[sK];by_cases hj:j<aC.length*E.n
  .rw[if_pos hj,oO];exact hcells j hj
  .rw[if_neg hj,fO z7]
 refine Mk (b:=b) (o:=0) (m:=0) (k:=k) (f:=some 0) (old:=[]) (xs:=eG E aC) hn hg hs (by rw[hx,e1,hk'];rfl) ?_ ?_ (.inl rfl) ?_ λh' mv=>?_
 .rw[hx,e1,<- hk'];exact hread
 .rw[hat.c.iM,Gh];rfl
 .rw[fo,<- hk'];omega
 obtain⟨w',rfl,kz,EL⟩:=st1.move mv;rw[dY]at kz;have:=next w.h.next w' kz
 rw[hk']at this;rw[fo];exact this
end
end Go.Ideal
namespace Go.Ideal
variable {P:Program}
inductive CO(P:Program)(ty:TypeId):Value->Value->Bool->Prop
 |int {a b:Int} (h:P.underlying ty=some (.int .i64)):CO P ty (.int .i64 a) (.int .i64 b) (decide (a=b))
 |str {a b:ByteArray} (h:P.underlying ty=some .string):CO P ty (.string a) (.string b) (decide (a=b))
def I1:eD P program=some P:=rfl
def M0{α:Type}{c:Prop}[Decidable c]{a b:Sem α}:eD P (if c then a else b)=if c then eD P a else eD P b:=by split<;>rfl
variable{r:Bool}{ty:adH}{a b:vI}
def Tu(c:CO P ty a b r)(d:Nat):eD P (Op.equalIn (d+1) ty a b)=some r:=by
 cases c with
 |int h=>
  unfold Op.equalIn;rw[ig,rM h];simp only[iX,if_true];rfl
 |str h=>
  unfold Op.equalIn;rw[ig,rM h];show some (_==_)=_;rw[bytes_beq]
def I4{v:vI}(c:CO P ty a b r){xs:Array vI}{o:Nat}(hx:xs[o]? =some v):eD P (part ty xs o)=some v:=by
 have hu:∃d,P.underlying ty=some d/\(∀fs,d≠.struct fs)/\∀n e,d≠.array n e:=by
  cases c with
  |int h=>exact⟨_,h,(by intro _ e;cases e),(by intro _ _ e;cases e)⟩
  |str h=>exact⟨_,h,(by intro _ e;cases e),(by intro _ _ e;cases e)⟩
 obtain⟨d,h1,h2,h3⟩:=hu;have hag:eD P (isAgg ty)=some false:=by
  unfold isAgg;rw[ig,rM h1];cases d with
  |struct fs=>exact absurd rfl (h2 fs)
  |array n e=>exact absurd rfl (h3 n e)
  |_=>rfl
 unfold part;rw[ig,hag];show eD P (match xs[o]? with|some v=>pure v|none=>stuck "part: no such cell")=_;rw[hx];rfl
inductive CP(P:Program)(xs ys:List Value):List Field->Bool->Prop
 |nil:CP P xs ys [] true
 |cons {f:Field} {fs:List Field} {a b:Value} {r r':Bool} (hn:(f.name== "_")=false) (hx:xs[f.offset]? =some a) (hy:ys[f.offset]? =some b) (c:CO P f.type a b r) (t:CP P xs ys fs r'):CP P xs ys (f::fs) (r&&r')
def adf{d:Nat}{t:adH}{fs:Array Field}{xs ys:kI vI}(hu:P.underlying t=some (.struct fs))(hp:P.stoodInHeld t=false)(h:CP P xs ys fs.toList r):eD P (Op.equalIn (d+2) t (.agg ⟨xs⟩) (.agg ⟨ys⟩))=some r:=by
 unfold Op.equalIn;rw[ig,rM hu];simp only[iX];rw[ig,I1];simp only[iX,hp,vJ,if_false];rw[<- Array.forIn_toList];generalize fs.toList=l at h;clear hu;induction h with
 |nil=>rfl
 | @cons f fs a b r r' hn hx hy c t ih=>
   have hn:f.name≠ "_" :=by simpa using hn
   rw[List.forIn_cons];simp only[ig,M0,if_pos hn,hn,ne_eq,not_false_eq_true,if_true]at ih⊢;rw[I4 (xs:=⟨xs⟩) c AM,iX,I4 (xs:=⟨ys⟩) c (by simpa using hy),iX,Tu c,iX];cases r with
   |false=>rfl
   |true=>exact ih
section
variable {l:qr}
variable{t:adH}{x y:aaB}{op:BinOp}
def adg{a b:Array vI}(hm:P.eqGuardType P.depth t=false):eD P (eqGuard op t x y (.agg a) (.agg b))=some ():=by
 have key:eD P (do if !(<- program).eqGuardType (<- program).depth t then return
                   if <- Op.eqGuardIn Op.maxDepth t (.agg a) (.agg b)then unsupported (.noEntry "binop\x2feql: two nil values of an interface type with methods, in a part of a struct or an array"))=some ():=by
  rw[ig,I1];simp only[iX];rw[ig,I1];simp only[iX,hm,Bool.not_false,if_true];rfl
 cases op<;>first|exact key|rfl
def Tv{a b:kI vI}{v:vI}(ha:fZ a=true)(hb:fZ b=true)(hm:P.eqGuardType P.depth t=false)(hv:eD P (binOp op t (.agg ⟨a⟩) (.agg ⟨b⟩))=some v)(hf:cK v=true):mg P op t x y (.agg ⟨a⟩) (.agg ⟨b⟩)=some v:=by
 have h1:kK P (do eqGuard op t x y (.agg ⟨a⟩) (.agg ⟨b⟩);binOp op t (.agg ⟨a⟩) (.agg ⟨b⟩))=some v:=by
  unfold kK;rw[ig,adg hm];simp only[iX,hv,hf,cond]
 show cond (cK (.agg ⟨a⟩)&&cK (.agg ⟨b⟩)) (kK P (do eqGuard op t x y (.agg ⟨a⟩) (.agg ⟨b⟩);binOp op t (.agg ⟨a⟩) (.agg ⟨b⟩))) _=_;rw[h1];simp[cK,ha,hb]
def CQ{fs:Array Field}{xs ys:kI vI}{r:Bool}(hx:ev l x=.agg ⟨xs⟩)(hy:ev l y=.agg ⟨ys⟩)(hu:P.underlying t=some (.struct fs))(hp:P.stoodInHeld t=false)(hm:P.eqGuardType P.depth t=false)(h:CP P xs ys fs.toList r)(ha:fZ xs=true)(hb:fZ ys=true):
 Pu P (ev l) (.bin .neq t x y) (.bool (!r)):=λh0=>by
 simp only[aF.run,hx,hy];rw[Tv ha hb hm (v:=.bool (!r)) (by
  show eD P (do pure (Value.bool (!(<- Op.equal t (.agg ⟨xs⟩) (.agg ⟨ys⟩)))))=_;rw[ig,show eD P (Op.equal t (.agg ⟨xs⟩) (.agg ⟨ys⟩))=some r from adf (d:=9998) hu hp h];rfl) rfl]
variable{e:adH}{n:Nat}{xs ys:kI Int}
def Tw{d:Nat}(hu:P.underlying t=some (.array n e))(he:P.underlying e=some (.int .i64))(hs:P.info? e|>.map (·.size)|>(·=some 1))(hx:xs.length=n)(hy:ys.length=n):
 eD P (Op.equalIn (d+2) t (.agg ⟨xs.map (.int .i64)⟩) (.agg ⟨ys.map (.int .i64)⟩))=some (decide (xs=ys)):=by
 have hsz:eD P (sizeOf e)=some 1:=by
  unfold sizeOf typeInfo;cases hi:P.info? e with
  |none=>rw[hi]at hs;cases hs
  |some i=>
   rw[hi]at hs;have hs:i.size=1:=by simpa using hs
   simp only[ig,I1,iX,hi];rw[<- hs];rfl
 unfold Op.equalIn;rw[ig,rM hu];simp only[iX];rw[ig,hsz];simp only[iX,uw];rw[Std.Legacy.Range.forIn_eq_forIn_range'];simp only[Std.Legacy.Range.size,Dz,Nat.add_sub_cancel,Nat.div_one];have key:∀(m i:Nat),i+m=n->eD P (do
  let Tx <- forIn (List.range' i m 1) ((none,()):x8 Bool×Unit) λi Tx=>
   (do let a <- part e ⟨xs.map (.int .i64)⟩ i
       let b <- part e ⟨ys.map (.int .i64)⟩ i
       let r <- Op.equalIn (d+1) e a b
       if(!r)=true then pure (ForInStep.done (some false,()))else pure (ForInStep.yield (none,())))
  match Tx.fst with
  |some r=>pure r
  |none=>pure true)=some (decide (xs.drop i=ys.drop i)):=by
  intro m;induction m with
  |zero=>
   intro i hi;rw[akS z7,akS z7];rfl
  |succ m ih=>
   intro i hi;have hix:i<xs.length:=z7
   have Ty:i<ys.length:=z7
   have c:CO P e (.int .i64 xs[i]) (.int .i64 ys[i]) (decide (xs[i]=ys[i])):=.int he;rw[List.range'_succ,List.forIn_cons];simp only[ig,M0];rw[I4 (xs:=⟨xs.map (.int .i64)⟩) (o:=i) (v:=.int .i64 xs[i]) c (by simp[hix]),iX,I4 (xs:=⟨ys.map (.int .i64)⟩) (o:=i) (v:=.int .i64 ys[i]) c (by simp[Ty]),iX,Tu c,iX];rw[oU hix,oU Ty];have ih:=ih (i+1) z7;simp only[ig,M0]at ih;by_cases hxy:xs[i]=ys[i]
   .rw[dK hxy];simp only[Bool.not_true,vJ,if_false];show(eD P _).bind _=_;rw[show decide (xs[i]::xs.drop (i+1)=ys[i]::ys.drop (i+1))=decide (xs.drop (i+1)=ys.drop (i+1))from nO.2 (by rw[zR];exact⟨λh=>h.2,λh=>⟨hxy,h⟩⟩)];exact ih
   .rw[aR hxy];simp only[Bool.not_false,if_true];rw[show decide (xs[i]::xs.drop (i+1)=ys[i]::ys.drop (i+1))=false from aR (λh=>hxy (List.cons.inj h).1)];rfl
 have:=key n 0 z7;rw[DC,DC]at this;refine Eq.trans ?_ this;simp only[ig];congr 1;funext s
 cases s.fst<;>rfl
def adh(hx:ev l x=.agg ⟨xs.map (.int .i64)⟩)(hy:ev l y=.agg ⟨ys.map (.int .i64)⟩)(hu:P.underlying t=some (.array n e))(he:P.underlying e=some (.int .i64))(hs:P.info? e|>.map (·.size)|>(·=some 1))(hxl:xs.length=n)(hyl:ys.length=n)(hm:P.eqGuardType P.depth t=false):
 Pu P (ev l) (.bin .eql t x y) (.bool (decide (xs=ys))):=λh0=>by
 have hfr:∀zs:kI Int,fZ (zs.map (Value.int .i64))=true:=by
  intro zs;induction zs with
  |nil=>rfl
  |cons z zs ih=>rw[agO];simp[fZ,cK,Ideal.cellV,ih]
 simp only[aF.run,hx,hy];rw[Tv (hfr xs) (hfr ys) hm (v:=.bool (decide (xs=ys))) (by
  show eD P (do pure (Value.bool (<- Op.equal t (.agg ⟨xs.map (.int .i64)⟩) (.agg ⟨ys.map (.int .i64)⟩))))=_;rw[ig,show eD P (Op.equal t (.agg ⟨xs.map (.int .i64)⟩) (.agg ⟨ys.map (.int .i64)⟩))=some (decide (xs=ys))from Tw (d:=9998) hu he hs hxl hyl];rfl) rfl]
def Ff(P:Program):kI Field->Nat->kI Bool->Bool
 |[],_,[]=>true
 |f::fs,i,k::ks=>!(f.name== "_")&&f.offset==i&&(match P.underlying f.type with
  |some (.int .i64)=>k
  |some .string=>!k
  |_=>false)&&Ff P fs (i+1) ks
 |_,_,_=>false
def cellsE:kI vI->kI vI->Bool
 | .int .i64 a::xs,.int .i64 b::ys=>decide (a=b)&&cellsE xs ys
 | .string a::xs,.string b::ys=>decide (a=b)&&cellsE xs ys
 |_,_=>true
def I5:kI Bool->kI vI->Bool
 |[],[]=>true
 |true::ks,.int .i64 _::vs=>I5 ks vs
 |false::ks,.string _::vs=>I5 ks vs
 |_,_=>false
def row_of{xs ys:kI vI}:∀{fs:kI Field} {i:Nat} {ks:kI Bool} {xs' ys':kI vI},Ff P fs i ks=true->I5 ks xs'=true->I5 ks ys'=true->(∀j,xs[i+j]? =xs'[j]?)->(∀j,ys[i+j]? =ys'[j]?)->CP P xs ys fs (cellsE xs' ys')
 |[],i,[],[],[],_,_,_,_,_=>.nil
 |f::fs,i,k::ks,[],ys',h,hx,hy,ex,ey=>by cases k<;>cases hx
 |f::fs,i,k::ks,x::xs',[],h,hx,hy,ex,ey=>by cases k<;>cases hy
 |f::fs,i,k::ks,x::xs',y::ys',h,hx,hy,ex,ey=>by
  simp only[Ff,afD]at h;obtain⟨⟨⟨h1,h2⟩,h3⟩,h4⟩:=h;have h2:f.offset=i:=BW
  have e1:xs[f.offset]? =some x:=by have:=ex 0;rw[zM]at this;rw[h2,this];rfl
  have e2:ys[f.offset]? =some y:=by have:=ey 0;rw[zM]at this;rw[h2,this];rfl
  have Tz:∀j,xs[i+1+j]? =xs'[j]?:=λj=>by have:=ex (j+1);rw[show i+1+j=i+(j+1)by omega,this];rfl
  have TA:∀j,ys[i+1+j]? =ys'[j]?:=λj=>by have:=ey (j+1);rw[show i+1+j=i+(j+1)by omega,this];rfl
  cases k with
  |true=>
   match x,hx,y,hy with
   | .int .i64 a,hx,.int .i64 b,hy=>
     have hu:P.underlying f.type=some (.int .i64):=by
      cases hq:P.underlying f.type with
      |none=>rw[hq]at h3;cases h3
      |some q=>
       rw[hq]at h3;cases q with
       |int kk=>cases kk<;>first|rfl|cases h3
       |string=>cases h3
       |_=>cases h3
     exact .cons A6 e1 e2 (.int hu) (row_of h4 hx hy Tz TA)
  |false=>
   match x,hx,y,hy with
   | .string a,hx,.string b,hy=>
     have hu:P.underlying f.type=some .string:=by
      cases hq:P.underlying f.type with
      |none=>rw[hq]at h3;cases h3
      |some q=>
       rw[hq]at h3;cases q with
       |int kk=>cases kk<;>cases h3
       |string=>rfl
       |_=>cases h3
     exact .cons A6 e1 e2 (.str hu) (row_of h4 hx hy Tz TA)
end
end Go.Ideal
namespace Go.Ideal
variable {P:Program}
variable{ρ:aaB->vI}{x:aaB}
def CR{src dst:adH}{kk k:IntKind}{n m:Int}{ds:TypeDesc}(hs:P.underlying src=some ds)(hd:P.underlying dst=some (.int k))(hx:ρ x=.int kk n)(hw:k.wrap n=m):Pu P ρ (.conv src dst x) (.int k m):=λh=>by
 have h1:eD P (convert src dst (.int kk n))=some (.int k m):=by
  unfold convert;rw[ig,rM hs];simp only[iX];rw[ig,rM hd];simp only[iX];rw[<- hw];rfl
 simp only[aF.run,hx,kK,h1];rfl
variable{a:Nat}
def adi(h:a<18446744073709551616):IntKind.u64.wrap (a:Int)=a:=by
 show(let m:=(a:Int)%(2^64:Int);if false&&m>=(2^63:Int)then m - (2^64:Int)else m)=_;simp only[amN,vJ,if_false];rw[Int.emod_eq_of_lt z7 (by simpa using(by omega:(a:Int)<18446744073709551616))]
def adj{y:aaB}{t:adH}{b:Nat}(hx:ρ x=.int .u64 (a:Int))(hy:ρ y=.int .u64 (b:Int))(hb:b<64):Pu P ρ (.bin .shr t x y) (.int .u64 ((a>>>b:Nat):Int)):=λh=>by
 have hv:eD P (binOp .shr t (.int .u64 (a:Int)) (.int .u64 (b:Int)))=some (.int .u64 ((a>>>b:Nat):Int)):=by
  show eD P (Op.shift .shr .u64 a .u64 b)=_;unfold Op.shift;rw[if_neg z7];show some (Value.int .u64 ((a:Int).fdiv (2^(min (b:Int).toNat 64))))=_;exact li
 have h1:kK P (do eqGuard .shr t x y (.int .u64 (a:Int)) (.int .u64 (b:Int));binOp .shr t (.int .u64 (a:Int)) (.int .u64 (b:Int)))=some (.int .u64 ((a>>>b:Nat):Int)):=by
  unfold kK;rw[ig,Cx FG CC];simp only[iX,hv];rfl
 have h2:mg P .shr t x y (.int .u64 (a:Int)) (.int .u64 (b:Int))=some (.int .u64 ((a>>>b:Nat):Int)):=by
  unfold mg;have:(match uA .u64 .u64 with|true=>oZ .shr .u64 (a:Int) (b:Int)|false=>none)=none:=rfl;simp only[uA,cK,Kl,cond];exact h1
 simp only[aF.run,hx,hy,h2]
def adk{α:Type}[DecidableEq α]{aX:α->vI}{kt:adH}{d:TypeDesc}(hu:P.underlying kt=some d)(hn:∀a b,Instr.sameNow d (aX a) (aX b)=none)(he:∀a b,eD P (Op.equal kt (aX a) (aX b))=some (decide (a=b)))(a:α)(aj:kI (α×vI))(es:kI MapEntry)(h:pF aX aj es):sU P kt (aX a) es=some (pE a aj 0):=by
 have adl:∀(aj:kI (α×vI)) (es:kI MapEntry) (i:Nat),pF aX aj es->eD P (Instr.findAsking kt (aX a) es i)=some (pE a aj i):=by
  intro aj;induction aj with
  |nil=>
   intro es i h;exact tb
  |cons p aj ih=>
   intro es i h;obtain⟨e,es',rfl,h1,h2,h3⟩:=MQ h;unfold Instr.findAsking;rw[ig,h1,he];simp only[iX];unfold pE;by_cases hab:a=p.1
   .rw[dK hab,if_pos hab,h2];rfl
   .rw[aR hab,if_neg hab];exact ih es' (i+1) h3
 unfold sU Instr.findKey;rw[ig,rM hu];simp only[iX];cases aj with
 |nil=>
  exact tb
 |cons p aj=>
  have h':=h;obtain⟨e,es',rfl,h1,h2,h3⟩:=MQ h;have:Instr.findNow d (aX a) (e::es') 0=none:=by
   show(match Instr.sameNow d (aX a) e.key with
   |some true=>some (some (0,e.val))
   |some false=>Instr.findNow d (aX a) es' 1
   |none=>none)=_
   rw[h1,hn]
  rw[this];exact adl _ _ _ h'
abbrev AX:Int×Int->vI:=λp=>.agg ⟨[.int .i64 p.1,.int .i64 p.2]⟩
def adm{kt e:adH}(hu:P.underlying kt=some (.array 2 e))(he:P.underlying e=some (.int .i64))(hs:P.info? e|>.map (·.size)|>(·=some 1))(hc:∀a b:Int,rz P kt (.agg ⟨[.int .i64 a,.int .i64 b]⟩)=true):rR P kt AX where
 E8 a:=hc a.1 a.2
 find a aj es h:=adk hu (λa b=>rfl) (λa b=>by
  have:=Tw (d:=9998) (xs:=[a.1,a.2]) (ys:=[b.1,b.2]) hu he hs rfl rfl;rw[show decide (a=b)=decide ([a.1,a.2]=[b.1,b.2])from nO.2 ⟨λh=>by rw[h],λh=>by
   injection h with h1 h2;injection h2 with h2;exact Prod.ext h1 h2⟩]
  exact this) a aj es h
 same a:=by
  show((⟨[Value.int .i64 a.1,.int .i64 a.2]⟩:Array vI).size==(⟨[Value.int .i64 a.1,.int .i64 a.2]⟩:Array vI).size&&(List.zip [Value.int .i64 a.1,.int .i64 a.2] [Value.int .i64 a.1,.int .i64 a.2]).all λ(x,y)=>Instr.sameBits 9999 x y)=true;simp[Instr.sameBits]
end Go.Ideal
namespace Go.Ideal
section
variable {P:Program}
variable {ds:kI Tmp} {rest:kI bV} {n:Nat} {l:qr} {D:kI Deferred} {pm:x8 FrameMode} {ro:x8 Nat} {h:IH} {K:KO} {d:Nat} {g:x8 (Tmp×Bool)}
variable{re:kI iq}
def TB{op:aF}{v:vI}{h':IH}(hn:Nat.blt d n=true)(hg:cZ l g=true)(hr:op.run P (ev l) h=some (v,h'))
 (hsm:∀q∈re,∃u h2,q.op.run P (ev ((d,v)::l)) h'=some (u,h2)/\∀d',q.dst=some d'->lk ((d,v)::l) d'=u)
 (next:aH P ds rest (act n ((d,v)::l) D pm ro) h' K):aH P ds (⟨⟨some d,g,op⟩,re⟩::rest) (act n l D pm ro) h K:=
 .lu (vV hg) v h' Cp (λq hq _=>by
  obtain⟨u,h2,e1,e2⟩:=hsm q hq;exact kx) DB
variable{e:adH}{size bytes k:Nat}{s x:aaB}{xs:kI vI}
def adn{b o m:Nat}{f:x8 Nat}{old:kI vI}(hn:Nat.blt d n=true)(hg:cZ l g=true)
 (hs:ev l s=.slice (some ⟨b,o,f⟩) m m) (hx:oW (ev l x)=some (k+1)) (hxs:nE size (k+1) (ev l x) h=some xs) (hold:h.iM b o (m*size)=some old)
 (hf:f=some 0\/f=some size) (hm:(m+(k+1))*bytes<=1073741824/\(m+(k+1))*size<=1073741824/\m+(k+1)<=1073741824)
 (hsm:∀h',Av h h' b (.cells (old++xs))->∀q∈re,∃u h2,q.op.run P (ev ((d,.slice (some ⟨h.next,0,some size⟩) (m+(k+1)) (m+(k+1)))::l)) h'=some (u,h2)/\∀d',q.dst=some d'->lk ((d,.slice (some ⟨h.next,0,some size⟩) (m+(k+1)) (m+(k+1)))::l) d'=u)
 (next:∀h',Av h h' b (.cells (old++xs))->aH P ds rest (act n ((d,.slice (some ⟨h.next,0,some size⟩) (m+(k+1)) (m+(k+1)))::l) D pm ro) h' K):
 aH P ds (⟨⟨some d,g,.append e size bytes s x⟩,re⟩::rest) (act n l D pm ro) h K:=by
 have hle:∀{a b:Nat},a<=b->Nat.ble a b=true:=λh=>by rw[vH];exact h
 have hlt:Nat.ble (m+(k+1)) m=false:=by
  exact tx
 have hc:(Nat.ble (Nat.mul (m+(k+1)) bytes) small&&Nat.ble (Nat.mul (m+(k+1)) size) small&&Nat.ble (m+(k+1)) small)=true:=by
  exact lP
 have hrun:∃h',(aF.append e size bytes s x).run P (ev l) h=some (.slice (some ⟨h.next,0,some size⟩) (m+(k+1)) (m+(k+1)),h')/\Av h h' b (.cells (old++xs)):=by
  exact cE
 obtain⟨h',hr,hM⟩:=hrun;exact TB hn hg hr (hsm h' hM) (next h' hM)
def ado{c:Nat}(hn:Nat.blt d n=true)(hg:cZ l g=true)
 (hs:ev l s=.slice none 0 0) (hx:oW (ev l x)=some (k+1)) (hxs:nE size (k+1) (ev l x) h=some xs)
 (hm:(k+1)*bytes<=1073741824/\(k+1)*size<=1073741824/\(k+1)<=1073741824)
 (hsm:∀h',Agree h h'->At h' h.next (.cells xs)->h'.next=h.next+1->∀q∈re,∃u h2,q.op.run P (ev ((d,.slice (some ⟨h.next,0,some size⟩) (k+1) (k+1))::l)) h'=some (u,h2)/\∀d',q.dst=some d'->lk ((d,.slice (some ⟨h.next,0,some size⟩) (k+1) (k+1))::l) d'=u)
 (next:∀h',Agree h h'->At h' h.next (.cells xs)->h'.next=h.next+1->aH P ds rest (act n ((d,.slice (some ⟨h.next,0,some size⟩) (k+1) (k+1))::l) D pm ro) h' K):
 aH P ds (⟨⟨some d,g,.append e size bytes s x⟩,re⟩::rest) (act n l D pm ro) h K:=by
 have hle:∀{a b:Nat},a<=b->Nat.ble a b=true:=λh=>by rw[vH];exact h
 have e0:Nat.add 0 (k+1)=k+1:=fo _;refine TB hn hg (h':=h.new (.cells xs)) ?_ (hsm _ (Md _ _) (Me _ _) rfl) (next _ (Md _ _) (Me _ _) rfl);have Aw:yG size (k+1) (ev l x) h=some xs:=hxs;simp only[aF.run,hx,Aw,hs,wX,e0];rw[hle (show Nat.mul (k+1) bytes<=small from hm.1),hle (show Nat.mul (k+1) size<=small from hm.2.1),hle (show k+1<=small from hm.2.2)];have e1:nE size 0 (.slice none 0 0) h=some []:=by
  exact vj
 have e2:Nat.ble (k+1) 0=false:=rfl;simp only[Kl,cond_true,e2,cond_false,e1,jK,dY]
end
section
variable {P:Program}
variable {ρ:aaB->vI}
variable {B:kI Nat} {w0:Wd} {kl kl':kI OA} {F:kI aO} {a:aV} {K:KO}
variable {y:dI} {i j m0:Nat} {I:Nat->aV->IH->Prop} {ch:kI PanicEntry}
variable {B:kI Nat} {w0:Wd} {kl kl':kI OA} {F:kI aO} {K:KO} {ds:kI Tmp} {rest:kI bV} {n:Nat} {l:qr} {D:kI Deferred} {pm:x8 FrameMode} {ro:x8 Nat} {d:Nat} {g:x8 (Tmp×Bool)}
def adp{re:kI iq}{α:Type}{E:Enc α}{e:adH}{size bytes b':Nat}{s x:aaB}{v:vI}{xs:kI α}{a:α}{y:E.Y}{cs:kI vI}{k1 k2:kI OA}(hn:Nat.blt d n=true)(hg:cZ l g=true)
 (hs:ev l s=v) (hx:ev l x=.slice (some ⟨b',0,some 0⟩) 1 1) (hk:az (ap E v xs) kl k1) (hc:az (pt b' (.cells cs)) k1 k2) (hp:cs=E.pat a y) (hF:Sub (E.fs a y) F) (hz:E.n=size)
 (hm:(xs.length+1)*bytes<=1073741824/\(xs.length+1)*size<=1073741824/\xs.length+1<=1073741824)
 (hsm:∀ad,Same P re (ev ((d,.slice ad (xs.length+1) (xs.length+1))::l)) ((d,.slice ad (xs.length+1) (xs.length+1))::l) B w0 (ap E (.slice ad (xs.length+1) (xs.length+1)) (xs++[a])::k2) F)
 (r:∀ad,R (λh=>aH P ds rest (act n ((d,.slice ad (xs.length+1) (xs.length+1))::l) D pm ro) h K) B w0 (ap E (.slice ad (xs.length+1) (xs.length+1)) (xs++[a])::k2) F):
 R (λh=>aH P ds (⟨⟨some d,g,.append e size bytes s x⟩,re⟩::rest) (act n l D pm ro) h K) B w0 kl F:=by
 intro w st;subst hp hz;have hlen:=E.len a y;have st2:St B w0 (ap E v xs::pt b' (.cells (E.pat a y))::k2) F w:=st.kv (.cons hk (.cons hc .nil));have hat:At w.h b' (.cells (E.pat a y)):=st2.at_ (.there .here);have rJ:St B w0 (ap E v xs::k2) F w:=(st2.gq (.there .here)).tail;have hfs:∀f∈E.fs a y,f.p w:=λf hf=>st.facts f (hF.mem f hf);have hread:w.h.iM b' 0 (1*E.n)=some (E.pat a y):=by
  exact wq
 have hx1:oW (ev l x)=some (0+1):=by rw[hx];rfl
 have hx2:nE E.n (0+1) (ev l x) w.h=some (E.pat a y):=by rw[hx];exact hread
 have put:∀(w':Wd) (c:Nat) (f:Nat) (cells:kI vI),cells.length=xs.length*E.n->(∀(k:Nat) z,xs[k]? =some z->∃y,(∀(j:Nat) u,(E.pat z y)[j]? =some u->cells[k*E.n+j]? =some u)/\∀f∈E.fs z y,f.p w')->(∀f∈E.fs a y,f.p w')->
  (f=0\/f=E.n)->∀S,(pt c (.cells (cells++E.pat a y))).p w' S->(ap E (.slice (some ⟨c,0,some f⟩) (xs.length+1) (xs.length+1)) (xs++[a])).p w' S:=by
  intro w' c f cells h1 h2 h3 h4 S hp;refine .inr ⟨c,0,f,_,by rw[iH];rfl,h4,hp.1,hp.2,by rw[iH,iH,h1,hlen,zS,ru,BL,fo],λk z hk=>?_⟩;by_cases hlt:k<xs.length
  .exact nj
  .exact jn
 obtain⟨S,⟨S1,S2,q,q2,e1⟩,hnd,hown⟩:=rJ.own;rcases q with⟨rfl,rfl,rfl⟩|⟨b,o,f,cells,rfl,hf,rfl,hb,hcl,hel⟩
 .have key:∀h',Agree w.h h'->At h' w.h.next (.cells (E.pat a y))->h'.next=w.h.next+1->∃w':Wd,w'.h=h'/\St B w0 (ap E (.slice (some ⟨w.h.next,0,some E.n⟩) (([]:kI α).length+1) (([]:kI α).length+1)) ([]++[a])::k2) F w':=λh' ag uS hnx=>by
   obtain⟨w',rfl,kz⟩:=rJ.tail.fresh ag uS hnx;refine⟨w',rfl,?_⟩;have hle:∀f∈E.fs a y,f.p w':=λf hf=>kz.facts f (hF.mem f hf);exact kz.Cv λS hp=>put w' _ E.n [] An (λk z hk=>by cases hk) hle (.inr rfl) S hp
  refine ado (c:=0) hn hg hs hx1 hx2 FA (λh' ag uS hnx=>?_) λh' ag uS hnx=>?_
  .obtain⟨w',rfl,kz⟩:=key h' ag uS hnx;exact hsm _ w' kz
  .obtain⟨w',rfl,kz⟩:=key h' ag uS hnx;exact r _ w' kz
 .have EK:St B w0 (pt b (.cells cells)::k2) F w:=⟨rJ.agree,rJ.le,rJ.af9,⟨S,⟨_,S2,⟨rfl,hb⟩,q2,e1⟩,hnd,hown⟩,rJ.facts⟩
  have MC:At w.h b (.cells cells):=EK.at_ .here;have key:∀h',Av w.h h' b (.cells (cells.drop o++E.pat a y))->∃w':Wd,w'.h=h'/\St B w0 (ap E (.slice (some ⟨w.h.next,0,some E.n⟩) (xs.length+1) (xs.length+1)) (xs++[a])::k2) F w':=λh' mv=>by
   obtain⟨w',rfl,kz,EL⟩:=EK.move mv;refine⟨w',rfl,kz.Cv λS hp=>?_⟩;exact eM
  refine adn (old:=cells.drop o) (xs:=E.pat a y) hn hg hs hx1 hx2 ?_ (hf.elim (λe=>.inl A1) λe=>.inr A1) hm (λh' mv=>?_) λh' mv=>?_
  .exact ph
  .obtain⟨w',rfl,kz⟩:=key h' mv;exact hsm _ w' kz
  .obtain⟨w',rfl,kz⟩:=key h' mv;exact r _ w' kz
end
section
variable {P:Program} {B:kI Nat} {w0:Wd} {kl kl' bH:kI OA} {F:kI aO} {K:KO} {n:Nat} {l:qr} {D:kI Deferred} {pm:x8 FrameMode} {ro:x8 Nat}
def TC{re:kI iq}{α:Type}(E:Enc α){ds:kI Tmp}{rest:kI bV}{d:Nat}{g:x8 (Tmp×Bool)}{e:adH}{size bytes b':Nat}{s x:aaB}{v:vI}{xs:kI α}(a:α)(y:E.Y){cs:kI vI}{k1 k2:kI OA}
 (hm:(xs.length+1)*bytes<=1073741824/\(xs.length+1)*size<=1073741824/\xs.length+1<=1073741824)
 (next:∀ad,R (λh=>aH P ds rest (act n ((d,.slice ad (xs.length+1) (xs.length+1))::l) D pm ro) h K) B w0 (ap E (.slice ad (xs.length+1) (xs.length+1)) (xs++[a])::k2) F)
 (hn:Nat.blt d n=true:=by rfl) (hg:cZ l g=true:=by rfl)
 (hs:ev l s=v:=by conv=>lhs;whnf) (hx:ev l x=.slice (some ⟨b',0,some 0⟩) 1 1:=by rfl) (hk:az (ap E v xs) kl k1:=by exact afv) (hc:az (pt b' (.cells cs)) k1 k2:=by exact afv) (hp:cs=E.pat a y:=by rfl) (hF:Sub (E.fs a y) F:=by exact o9) (hz:E.n=size:=by rfl)
 (hsm:∀ad,Same P re (ev ((d,.slice ad (xs.length+1) (xs.length+1))::l)) ((d,.slice ad (xs.length+1) (xs.length+1))::l) B w0 (ap E (.slice ad (xs.length+1) (xs.length+1)) (xs++[a])::k2) F:=by intro _;repeat (first|exact yZ|refine AJ rfl afv AG rfl ?_|refine Cy rfl vW AG rfl ?_|refine EO rfl vW AG rfl ?_|refine EP rfl afv AG rfl ?_|refine EQ rfl vW AG rfl ?_|refine ER rfl vW AG rfl ?_|refine MF HO rfl ?_)):
 R (λh=>aH P ds (⟨⟨some d,g,.append e size bytes s x⟩,re⟩::rest) (act n l D pm ro) h K) B w0 kl F:=
 adp hn hg hs hx hk hc hp hF hz hm hsm next
end
variable {P:Program}
section
variable {α κ:Type} [DecidableEq κ] {aX:κ->vI} {E:Enc α}
def nX(E:Enc α):kI (κ×vI)->kI (κ×kI α)->kI OA
 |p::aj,q::m=>ap E p.2 q.2::nX E aj m
 |_,_=>[]
def tV(E:Enc α)(n:κ):kI (κ×vI)->kI (κ×kI α)->kI OA
 |p::aj,q::m=>if n=p.1 then nX E aj m else ap E p.2 q.2::tV E n aj m
 |_,_=>[]
def Fg(aX:κ->vI)(E:Enc α)(b:Nat)(m:kI (κ×kI α)):OA:=
 ⟨λw S=>∃aj:kI (κ×vI),aj.map (·.1)=m.map (·.1)/\fI w (mpA aX b aj::nX E aj m) S,λa h ⟨aj,h1,h2⟩=>⟨aj,h1,fI.loc a h h2⟩⟩
def TD(E:Enc α)(n:κ)(aj:kI (κ×vI))(m:kI (κ×kI α)):OA:=⟨λw S=>fI w (tV E n aj m) S,λa h hp=>fI.loc a h hp⟩
def TE(E:Enc α)(aj:kI (κ×vI))(m:kI (κ×kI α)):OA:=⟨λw S=>fI w (nX E aj m) S,λa h hp=>fI.loc a h hp⟩
def TF(E:Enc α)(aj:kI (κ×vI))(m:kI (κ×kI α)):aO:=
 ⟨λw=>∀n v xs,dR n aj=some v->dR n m=some xs->(ai E v xs).p w,λa h n v xs h1 h2=>(ai E v xs).mono a (h n v xs h1 h2)⟩
def M3{β γ:Type}{n:κ}:∀{aj:kI (κ×β)} {m:kI (κ×γ)},aj.map (·.1)=m.map (·.1)->(dR n aj=none↔dR n m=none)
 |[],[],_=>⟨λ_=>rfl,λ_=>rfl⟩
 |(a,u)::aj,(b,x)::m,h=>by
  rw[agO,agO]at h;injection h with h1 h2;have h1:a=b:=h1;subst h1;unfold dR;by_cases e:n=a
  .rw[if_pos e,if_pos e];exact⟨λh=>(nomatch h),λh=>(nomatch h)⟩
  .rw[if_neg e,if_neg e];exact M3 h2
 |[],_::_,h=>by cases h
 |_::_,[],h=>by cases h
def TG{n:κ}:∀{aj:kI (κ×vI)} {m:kI (κ×kI α)},dR n aj=none->tV E n aj m=nX E aj m
 |[],_,_=>by unfold tV nX;rfl
 |_::_,[],_=>by unfold tV nX;rfl
 |(a,u)::aj,(b,x)::m,h=>by
  unfold dR at h;by_cases e:n=a
  .rw[if_pos e]at h;cases h
  .rw[if_neg e]at h;unfold tV nX;rw[if_neg e,TG h]
def M4{n:κ}{v:vI}{xs:kI α}:∀{aj:kI (κ×vI)} {m:kI (κ×kI α)},aj.map (·.1)=m.map (·.1)->dR n aj=some v->dR n m=some xs->az (ap E v xs) (nX E aj m) (tV E n aj m)
 |[],_,_,h,_=>by cases h
 |_::_,[],h,_,_=>by cases h
 |(a,u)::aj,(b,x)::m,h,h1,h2=>by
  rw[agO,agO]at h;injection h with e1 e2;have e1:a=b:=e1;subst e1;unfold dR at h1 h2;unfold nX tV;by_cases e:n=a
  .rw[if_pos e]at h1 h2⊢;cases h1;cases h2;exact .here
  .rw[if_neg e]at h1 h2⊢;exact .there (M4 e2 h1 h2)
def TH{n:κ}{v:vI}{xs:kI α}:∀{aj:kI (κ×vI)} {m:kI (κ×kI α)},aj.map (·.1)=m.map (·.1)->az (ap E v xs) (nX E (upd n v aj) (upd n xs m)) (tV E n aj m)
 |[],[],_=>by unfold upd tV nX nX;exact .here
 |[],_::_,h=>by cases h
 |_::_,[],h=>by cases h
 |(a,u)::aj,(b,x)::m,h=>by
  rw[agO,agO]at h;injection h with e1 e2;have e1:a=b:=e1;subst e1;unfold upd tV;by_cases e:n=a
  .rw[if_pos e,if_pos e,if_pos e];rw[show nX E ((n,v)::aj) ((n,xs)::m)=ap E v xs::nX E aj m from rfl];exact .here
  .rw[if_neg e,if_neg e,if_neg e];rw[show nX E ((a,u)::upd n v aj) ((a,x)::upd n xs m)=ap E u x::nX E (upd n v aj) (upd n xs m)from rfl];exact .there (TH e2)
def Fh{β γ:Type}{n:κ}{v:β}{x:γ}:∀{aj:kI (κ×β)} {m:kI (κ×γ)},aj.map (·.1)=m.map (·.1)->(upd n v aj).map (·.1)=(upd n x m).map (·.1)
 |[],[],_=>rfl
 |[],_::_,h=>by cases h
 |_::_,[],h=>by cases h
 |(a,u)::aj,(b,y)::m,h=>by
  rw[agO,agO]at h;injection h with e1 e2;have e1:a=b:=e1;subst e1;unfold upd;by_cases e:n=a
  .rw[if_pos e,if_pos e,agO,agO,e2]
  .rw[if_neg e,if_neg e,agO,agO,Fh e2]
variable {B:kI Nat} {w0:Wd} {kl kl' bH k1 k2:kI OA} {F:kI aO} {Q:IH->Prop} {b:Nat} {m:kI (κ×kI α)}
def adq(E:Enc α)(h:R Q B w0 (Fg aX E b ([]:kI (κ×kI α))::kl') F)(hk:az (mpA aX b []) kl kl':=by exact afv):R Q B w0 kl F:=
 .perm (λw S hS=>by
  obtain⟨S',⟨T1,T2,u1,u2,e⟩,hp⟩:=hS.gq hk;exact⟨S',⟨T1,T2,⟨[],rfl,T1,[],u1,rfl,An⟩,u2,e⟩,hp⟩) h
def adr(n:κ)(hk:az (Fg aX E b m) kl kl':=by exact afv)
 (h:∀(aj:kI (κ×vI)) (v:vI),aj.map (·.1)=m.map (·.1)->kT false (.slice none 0 0) n aj=v->R Q B w0 (mpA aX b aj::ap E v ((dR n m).getD [])::TD E n aj m::kl') F):R Q B w0 kl F:=λw s=>by
 obtain⟨S,⟨S1,S2,⟨aj,hkeys,T1,T2,u1,u2,e1⟩,q2,e⟩,hnd,hall⟩:=(s.gq hk).own;have key:∃T',fI w (ap E (kT false (.slice none 0 0) n aj) ((dR n m).getD [])::tV E n aj m) T'/\T2.Perm T':=by
  cases hl:dR n aj with
  |none=>
   have hm:=(M3 (n:=n) hkeys).1 hl;have e1:kT false (.slice none 0 0) n aj=.slice none 0 0:=by unfold kT;rw[hl];rfl
   rw[e1,hm,TG hl];exact⟨T2,⟨[],T2,.inl ⟨rfl,rfl,rfl⟩,u2,rfl⟩,.refl _⟩
  |some v=>
   cases hm:dR n m with
   |none=>rw[(M3 (n:=n) hkeys).2 hm]at hl;cases hl
   |some xs=>
    have e1:kT false (.slice none 0 0) n aj=v:=by unfold kT;rw[hl];rfl
    rw[e1];exact u2.gq (M4 hkeys hl hm)
 obtain⟨T',⟨T3,T4,u3,u4,e3⟩,hp⟩:=key;subst e e1 e3;have hperm:((T1++T2)++S2).Perm (T1++(T3++(T4++S2))):=by
  rw[List.append_assoc];refine List.Perm.append_left T1 ?_;rw[<- List.append_assoc];exact List.Perm.append_right S2 hp
 exact h aj _ hkeys rfl w ⟨s.agree,s.le,s.af9,⟨_,⟨T1,_,u1,⟨T3,_,u3,⟨T4,S2,u4,q2,rfl⟩,rfl⟩,rfl⟩,hperm.nodup hnd,λi hi=>hall i (hperm.mem_iff.2 hi)⟩,s.facts⟩
def ads(n:κ){aj:kI (κ×vI)}{v:vI}{xs:kI α}(hkeys:aj.map (·.1)=m.map (·.1))(h:R Q B w0 (Fg aX E b (upd n xs m)::bH) F)
 (h1:az (mpA aX b (upd n v aj)) kl k1:=by exact afv) (h2:az (ap E v xs) k1 k2:=by exact afv) (h3:az (TD E n aj m) k2 bH:=by exact afv):R Q B w0 kl F:=
 .perm (λw S hS=>by
  obtain⟨S1,S2,q1,q2,hp⟩:=hS.kv (.cons h1 (.cons h2 (.cons h3 .nil)));obtain⟨T1,U1,u1,⟨T2,U2,u2,⟨T3,U3,u3,u4,e3⟩,e2⟩,e1⟩:=q1;have u4:U3=[]:=u4;subst u4 e3 e2 e1;obtain⟨V,v1,v2⟩:=fI.MN (TH (E:=E) (n:=n) (v:=v) (xs:=xs) hkeys) (S:=T2++T3) (w:=w) ⟨T2,T3,u2,u3,rfl⟩;refine⟨(T1++V)++S2,⟨T1++V,S2,⟨upd n v aj,Fh hkeys,⟨T1,V,u1,v1,rfl⟩⟩,q2,rfl⟩,hp.trans ?_⟩;exact tt) h
def adt(h:∀aj:kI (κ×vI),aj.map (·.1)=m.map (·.1)->R Q B w0 (mpA aX b aj::TE E aj m::kl') F)(hk:az (Fg aX E b m) kl kl':=by exact afv):R Q B w0 kl F:=λw s=>by
 obtain⟨S,⟨S1,S2,⟨aj,hkeys,T1,T2,u1,u2,e1⟩,q2,e⟩,hnd,hall⟩:=(s.gq hk).own;subst e e1;refine h aj hkeys w ⟨s.agree,s.le,s.af9,⟨T1++(T2++S2),⟨T1,_,u1,⟨T2,S2,u2,q2,rfl⟩,rfl⟩,?_,λi hi=>hall i ?_⟩,s.facts⟩
 .rw[<- List.append_assoc];exact hnd
 .rw[List.append_assoc];exact hi
def adu{aj:kI (κ×vI)}(hkeys:aj.map (·.1)=m.map (·.1)):rH (TE E aj m) [TF E aj m]:=by
 intro w w' S hS hle hh hz f hf;rw[bM.1 hf];have hS:fI w (nX E aj m) S:=hS;clear hf;intro n v xs h1 h2;obtain⟨S',⟨T1,T2,u1,_,e⟩,hp⟩:=hS.gq (M4 hkeys h1 h2);subst e;exact gz w w' T1 u1 hle hh (λi hi=>hz i (hp.mem_iff.2 (je _ hi))) _ (bM.2 rfl)
end
end Go.Ideal
namespace Go.Ideal
variable {P:Program} {B:kI Nat} {w0:Wd} {kl kl' bH:kI OA} {F:kI aO} {K:KO} {ds:kI Tmp} {rest:kI bV} {n:Nat} {l:qr} {D:kI Deferred} {pm:x8 FrameMode} {ro:x8 Nat} {d:Nat} {g:x8 (Tmp×Bool)}
def I6{α:Type}(E:Enc α){x i:aaB}{v:vI}{xss:kI (kI α)}(k:Nat)(xs:kI α){kk:IntKind}{d2:Nat}{g2:x8 (Tmp×Bool)}(hz:xss[k]? =some xs)
 (next:∀b o u,R (λh=>aH P ds rest (act n ((d2,u)::(d,.pointer (some ⟨b,o,none⟩))::l) D pm ro) h K) B w0 kl (ai E u xs::F))
 (hn:Nat.blt d n=true:=by rfl) (hg:cZ l g=true:=by rfl) (hn2:Nat.blt d2 n=true:=by rfl) (hg2:∀u,cZ ((d,u)::l) g2=true:=by intro _;rfl) (hx:ev l x=v:=by conv=>lhs;whnf) (hi:ev l i=.int kk (k:Int):=by rfl)
 (hk:az (ap (ak E) v xss) kl kl':=by exact afv):
 R (λh=>aH P ds (⟨⟨some d,g,.nQ 1 x i⟩,[]⟩::⟨⟨some d2,g2,.ah2 (.tmp d)⟩,[]⟩::rest) (act n l D pm ro) h K) B w0 kl F:=by
 intro w s;have s1:=s.gq hk;obtain⟨S,⟨S1,S2,p,p2,e⟩,h2,h3⟩:=s1.own;have hlt:=(bq.1 hz).1;rcases p with⟨h,_⟩|⟨b,o,f,cells,e1,hf,e2,hb,hcl,hel⟩
 .rw[h]at hz;cases hz
 .subst e1;obtain⟨y,u1,u2⟩:=hel k xs hz;have hc:cells[o+(k:Int).toNat*1]? =some y:=by
   have:=u1 0 y rfl;simpa[ak]using this
  refine Mj hn hg hx hi z7 z7 ?_;have hbS:b∈S:=DG
  refine Hg hn2 (hg2 _) DH ⟨(h3 b hbS).2.1,hb⟩ hc (next _ _ y w ⟨s.agree,s.le,s.af9,s.own,λf hf=>?_⟩);rcases dx.1 hf with rfl|hf
  .exact u2 _ (bM.2 rfl)
  .exact s.facts f hf
end Go.Ideal
namespace Go.Ideal
variable {P:Program} {B:kI Nat} {w0:Wd} {kl kl' bH k1 k2:kI OA} {F:kI aO} {Q:IH->Prop}
section
variable {β:Type} (A:vI->β->OA)
def tX(vs:kI vI)(xss:kI β):kI OA:=(vs.zip xss).map λp=>A p.1 p.2
def nY(b:Nat)(xss:kI β):OA:=
 ⟨λw S=>∃vs:kI vI,vs.length=xss.length/\fI w (pt b (.cells vs)::tX A vs xss) S,λa h ⟨vs,h1,h2⟩=>⟨vs,h1,fI.loc a h h2⟩⟩
def TI(vs:kI vI)(xss:kI β)(k:Nat):OA:=
 ⟨λw S=>fI w ((tX A vs xss).eraseIdx k) S,λa h hp=>fI.loc a h hp⟩
variable{xss:kI β}{k:Nat}{vs:kI vI}{v:vI}{xs:β}
def TJ(hv:vs[k]? =some v)(hx:xss[k]? =some xs):(tX A vs xss)[k]? =some (A v xs):=by
 simp[tX,List.zip,dm,List.getElem?_zipWith,hv,hx]
variable{b:Nat}
def TK(hx:xss[k]? =some xs)(hk:az (nY A b xss) kl kl':=by exact afv)
 (h:∀(vs:kI vI) (v:vI),vs.length=xss.length->vs[k]? =some v->R Q B w0 (pt b (.cells vs)::A v xs::TI A vs xss k::kl') F):R Q B w0 kl F:=λw s=>by
 obtain⟨S,⟨S1,S2,⟨vs,h1,h2⟩,q2,e⟩,hnd,hall⟩:=(s.gq hk).own;subst e;have hlt:=(bq.1 hx).1;have hv:vs[k]? =some (vs[k]'(z7)):=bP z7;refine h vs _ h1 hv w ?_;have hg:(tX A vs xss)[k]? =some (A (vs[k]'(z7)) xs):=TJ A hv hx;obtain⟨T1,T2,u1,u2,e⟩:=h2;obtain⟨T3,⟨T4,T5,u4,u5,e5⟩,u6⟩:=u2.gq (az.at hg);subst e5 e;have hperm:((T1++T2)++S2).Perm (T1++(T4++(T5++S2))):=by
  rw[List.append_assoc];refine List.Perm.append_left T1 ?_;rw[<- List.append_assoc];exact List.Perm.append_right S2 u6
 exact⟨s.agree,s.le,s.af9,⟨T1++(T4++(T5++S2)),⟨T1,_,u1,⟨T4,_,u4,⟨T5,S2,u5,q2,rfl⟩,rfl⟩,rfl⟩,hperm.nodup hnd,λi hi=>hall i (hperm.mem_iff.2 hi)⟩,s.facts⟩
def adv:tX A (vs.set k v) (xss.set k xs)=(tX A vs xss).set k (A v xs):=by
 apply iY;intro j;simp only[tX,dm,oQ,List.zip,List.getElem?_zipWith];by_cases e:k=j
 .subst e;by_cases h1:k<vs.length
  .by_cases h2:k<xss.length
   .simp[h1,h2];omega
   .simp[h1,h2];omega
  .simp[h1];omega
 .simp[e]
def TL{xs:β}(hlen:vs.length=xss.length)(hk:k<xss.length)(h1:az (pt b (.cells (vs.set k v))) kl k1:=by exact afv)
 (h2:az (A v xs) k1 k2:=by exact afv) (h3:az (TI A vs xss k) k2 bH:=by exact afv) (h:R Q B w0 (nY A b (xss.set k xs)::bH) F):R Q B w0 kl F:=
 .perm (λw S hS=>by
  obtain⟨S1,S2,q1,q2,hp⟩:=hS.kv (.cons h1 (.cons h2 (.cons h3 .nil)));obtain⟨T1,U1,u1,⟨T2,U2,u2,⟨T3,U3,u3,u4,e3⟩,e2⟩,e1⟩:=q1;have u4:U3=[]:=u4;subst u4 e3 e2 e1;have hl:((tX A vs xss).set k (A v xs))[k]? =some (A v xs):=by
   rw[oQ,if_pos rfl,if_pos (by simp[tX];omega)]
  obtain⟨V,v1,v2⟩:=fI.MN (az.at hl) (S:=T2++T3) (w:=w) ⟨T2,T3,u2,by rw[SE];exact u3,rfl⟩;refine⟨(T1++V)++S2,⟨T1++V,S2,⟨vs.set k v,by simp[hlen],⟨T1,V,u1,by rw[adv];exact v1,rfl⟩⟩,q2,rfl⟩,hp.trans ?_⟩;exact tt) h
def adw{m:Nat}{v0:vI}{x0:β}(h0:∀w,(A v0 x0).p w [])(hk:az (pt b (.cells (List.replicate m v0))) kl kl':=by exact afv)(h:R Q B w0 (nY A b (List.replicate m x0)::kl') F):R Q B w0 kl F:=
 .perm (λw S hS=>by
  obtain⟨S',⟨T1,T2,u1,u2,e⟩,hp⟩:=hS.gq hk;refine⟨S',⟨T1,T2,⟨List.replicate m v0,An,⟨T1,[],u1,?_,An⟩⟩,u2,e⟩,hp⟩;have:∀m,fI w (tX A (List.replicate m v0) (List.replicate m x0)) []:=by
   intro m;induction m with
   |zero=>rfl
   |succ m ih=>exact⟨[],[],h0 w,ih,rfl⟩
  exact this m) h
def adx{E:Enc β}{c:Nat}(fv:vI->E.Y)(hn:E.n=1)(hpat:∀x v,E.pat x (fv v)=[v])(hA:∀v xs,rH (A v xs) (E.fs xs (fv v)))(hc:xss.length<=c:=by first|exact bT _|omega):rH (nY A b xss) [ai E (.slice (some ⟨b,0,some 0⟩) xss.length c) xss]:=by
 intro w w' S ⟨vs,hlen,T1,T2,⟨h1,h2⟩,u2,e⟩ hle hh hz f hf;subst e;rw[bM.1 hf];refine .inr ⟨b,0,0,c,vs,⟨rfl,hc,.inl rfl⟩,⟨hz b Dd,.inl Ft⟩,λk xs hk=>?_⟩;have hlt:=(bq.1 hk).1;have hv:vs[k]? =some (vs[k]'(z7)):=bP z7;have hg:(tX A vs xss)[k]? =some (A (vs[k]'(z7)) xs):=TJ A hv hk;obtain⟨T3,⟨T4,T5,u4,u5,e5⟩,u6⟩:=u2.gq (az.at hg);subst e5;refine⟨fv (vs[k]'(z7)),λj u hj=>?_,λg hgm=>?_⟩
 .rw[hpat]at hj;match j,hj with
  |0,hj=>
   cases hj;show vs[0+k*E.n+0]? =_;rw[hn];simp
 .exact hA _ _ w w' T4 u4 hle hh (λi hi=>hz i (nA _ (u6.mem_iff.2 (je _ hi)))) g hgm
end
def I7{α:Type}(v:vI)(xs:kI α):aO:=⟨λ_=>xs=[]->v=.slice none 0 0,λ_ h=>h⟩
def lD{α:Type}(E:Enc α)(v:vI)(xs:kI α):OA:=⟨λw S=>(ap E v xs).p w S/\(xs=[]->v=.slice none 0 0),λa h hp=>⟨(ap E v xs).loc a h hp.1,hp.2⟩⟩
def tY{α:Type}(E:Enc α):Enc (kI α):=⟨1,vI,λ_ v=>[v],λxs v=>[ai E v xs,I7 v xs],λ_ _=>rfl⟩
variable{α:Type}{v:vI}
def ady{E:Enc α}{xs:kI α}:rH (lD E v xs) [ai E v xs,I7 v xs]:=by
 intro w w' S hp hle hh hz f hf;rcases dx.1 hf with rfl|hf
 .exact gz w w' S hp.1 hle hh hz _ (bM.2 rfl)
 .rw[bM.1 hf];exact hp.2
def TM(E:Enc α)(v:vI)(xs:kI α)(h:(xs=[]->v=.slice none 0 0)->R Q B w0 (ap E v xs::kl') F)(hk:az (lD E v xs) kl kl':=by exact afv):R Q B w0 kl F:=λw s=>by
 obtain⟨S,⟨S1,S2,q1,q2,e⟩,h2,h3⟩:=(s.gq hk).own;exact h q1.2 w ⟨s.agree,s.le,s.af9,⟨S,⟨S1,S2,q1.1,q2,e⟩,h2,h3⟩,s.facts⟩
def TN(E:Enc α)(v:vI)(xs:kI α)(hz:xs=[]->v=.slice none 0 0)(h:R Q B w0 (lD E v xs::kl') F)(hk:az (ap E v xs) kl kl':=by exact afv):R Q B w0 kl F:=λw s=>
 h w ((s.gq hk).AB (A:=ap E v xs) λw S hp=>⟨hp,hz⟩)
variable{w:Wd}
def TP{E:Enc α}{xss:kI (kI α)}(h:(ai (tY E) v xss).p w):(ai (ak E) v xss).p w:=by
 rcases h with h|⟨i,o,f,c,cells,h1,h2,h3⟩
 .exact .inl h
 .refine .inr ⟨i,o,f,c,cells,h1,h2,λk x hk=>?_⟩;obtain⟨y,q1,q2⟩:=h3 k x hk;exact⟨y,q1,λf hf=>q2 f (by rw[bM.1 hf];exact cB ..)⟩
def I8{A A':OA}(e:A=A')(h:R Q B w0 (A'::kl') F)(hk:az A kl kl':=by exact afv):R Q B w0 kl F:=by
 subst e;exact λw s=>h w (s.gq hk)
def St.TQ{E:Enc α}{aC:kI (α×E.Y)}(h0:0<aC.length)(hall:(pG E aC).p w)(s:St B w0 (ar E v aC::kl') F w):St B w0 (ap E v (aC.map (·.1))::kl') F w:=by
 obtain⟨S,⟨S1,S2,q1,q2,e⟩,h2,h3⟩:=s.own;refine⟨s.agree,s.le,s.af9,⟨S,⟨S1,S2,?_,q2,e⟩,h2,h3⟩,s.facts⟩;rcases q1 with⟨h4,_⟩|⟨b,f,h4,h5,h6,h7⟩
 .rw[h4]at h0;simp at h0
 .refine .inr ⟨b,0,f,_,by rw[bY];exact h4,h5,h6,h7,by rw[za,bY,fo],λk x hk=>?_⟩;rw[dm]at hk;cases hp:aC[k]? with
  |none=>rw[hp]at hk;cases hk
  |some p=>
   rw[hp]at hk;cases hk;exact⟨p.2,λj u hj=>by rw[fo];exact vZ hp hj,λf hf=>hall p (aZ hp) f hf⟩
def TR{E:Enc α}{aC:kI (α×E.Y)}(h0:0<aC.length)(h:R Q B w0 (ap E v (aC.map (·.1))::kl') F)(hfs:∀w,(∀f∈F,f.p w)->(pG E aC).p w)(hk:az (ar E v aC) kl kl':=by exact afv):R Q B w0 kl F:=λw s=>
 h w (St.TQ h0 (hfs w s.facts) (s.gq hk))
end Go.Ideal
namespace Go.Ideal
variable {P:Program}
def al1{α:Type}(P:Program)(vals:α->kI vI)(fe:α->kI aO)(fn:Fn)(first cap:kI vI)(F:kI aO)(X:kI α->Prop):Prop:=
 ∀(S:Type) (inv:S->kI OA) (ok:kI α->S->Prop) (step:S->α->S×Bool) (s0:S) (Fb:Fn) (y1 y2:kI vI) (F':kI aO),ok [] s0->
  (∀vs s x rest,ok vs s->X (vs++x::rest)->(step s x).2=true->ok (vs++[x]) (step s x).1)->
  (∀vs s x rest,ok vs s->X (vs++x::rest)->bA P Fb (y1++vals x) y2 (inv s) (fe x++F') (λ_:Unit=>.bool (step s x).2) (λ_=>inv (step s x).1) (λ_=>[]) (λ_=>True))->
  bA P fn (first++[.func Fb ⟨y1⟩ ⟨y2⟩]) cap (inv s0) (F++F') (λ_:kI α=>.tuple ⟨[]⟩) (λxs=>inv (mD step s0 xs)) (λ_=>[]) X
def bA.facts{Y:Type}{fn:Fn}{args cap:kI vI}{kl:kI OA}{F F2:kI aO}{val:Y->vI}{kl':Y->kI OA}{fs:Y->kI aO}{pr:Y->Prop}(h:bA P fn args cap kl F val kl' fs pr)(hF:∀f∈F,f∈F2):bA P fn args cap kl F2 val kl' fs pr:=
 λB w s=>h B w ⟨s.agree,s.le,s.af9,s.own,λf hf=>s.facts f (hF f hf)⟩
section
variable {B:kI Nat} {w0:Wd} {kl kl' bH:kI OA} {F:kI aO} {K:KO} {n:Nat} {l:qr} {D:kI Deferred} {pm:x8 FrameMode} {ro:x8 Nat}
variable{S α Z:Type}{ps:kI Tmp}{assign body:dI}{fn:Fn}{first captured:kI vI}{F1:kI aO}
def ao7{f:aaB}{vals:α->kI vI}{fe:α->kI aO}{X:kI α->Prop}(step:S->α->S×Out)(inv:S->kI OA)(ok:kI α->S->Prop)(s0:S)(h0:ok [] s0)
 (hok:∀vs s x rest,ok vs s->X (vs++x::rest)->(step s x).2=.normal->ok (vs++[x]) (step s x).1) (hit:al1 P vals fe fn first captured F1 X)
 (hf:ev l f=.func fn ⟨first⟩ ⟨captured⟩) (hps:ps.all (λp=>Nat.blt p n)=true) (hlen:∀x,ps.length=(vals x).length) (hk:aI (inv s0) kl bH) (hF:Sub F1 F) (jM:∀s x,EW (step s x).2)
 (l3:α->Z->qr) (k3:α->Z->kI OA)
 (ha:∀(s:S) (x:α) (lo:Nat) (o:dN) B w0,R (λh=>EV P assign (act n ((ps.zip (vals x)).reverse++l) [] none (some lo)) h (IR B w0 n (l3 x) lo o (λz=>k3 x z++inv s) (fe x++F))) B w0 (pt lo o::inv s) (fe x++F))
 (hb:∀(vs:kI α) (s:S) (x:α) (rest:kI α) (z:Z) (lo:Nat) (L:oV) B w0,ok vs s->X (vs++x::rest)->R (λh=>EV P body (act n (l3 x z) [] none (some lo)) h (EX B w0 lo L (λ_:Unit=>(step s x).2) (λ_=>inv (step s x).1) (λ_=>[]) (λ_=>True))) B w0 (pt lo (.loop (y5 L))::(k3 x z++inv s)) (fe x++F))
 (next:∀r xs,X xs->R (λh=>K (pq step s0 xs).2 (act n l ({target:=.collected r,args:= #[]}::D) pm none) h) B w0 (inv (pq step s0 xs).1++(pt r (.aid true)::bH)) F):
 R (λh=>EV P (.rangeFunc f ps assign body) (act n l D pm none) h K) B w0 kl F:=by
 refine acH (Y:=kI α) (k1:=inv s0) (F1:=F1++F) (MJ:=λ_=>.tuple ⟨[]⟩) (out:=λxs=>(pq step s0 xs).2) (k1':=λxs=>inv (pq step s0 xs).1) (fs:=λ_=>[]) (pr:=X) hf ?_ hk (hF.app (Sub.refl' F [])) (λr y hy=>next r y hy);intro lo r;have:=hit (S×Out) (λso=>pt lo (.loop (oG ⟨.ready,none,ahI l,n,ps,assign,body,r⟩ so.2))::inv so.1) (λvs so=>so.2=.normal/\ok vs so.1) (λso x=>(step so.1 x,qH (step so.1 x).2)) (s0,.normal) (.yield lo) [] [] F ⟨rfl,h0⟩
  (λvs so x rest ho hx h=>by
    exact eo)
  (λvs so x rest ho hx=>by
    exact cI)
 have e:(λxs:kI α=>pt lo (.loop (oG ⟨.ready,none,ahI l,n,ps,assign,body,r⟩ (mD (λ(so:S×Out) x=>(step so.1 x,qH (step so.1 x).2)) (s0,.normal) xs).2))::inv (mD (λ(so:S×Out) x=>(step so.1 x,qH (step so.1 x).2)) (s0,.normal) xs).1)=λxs=>pt lo (.loop (oG ⟨.ready,none,ahI l,n,ps,assign,body,r⟩ (pq step s0 xs).2))::inv (pq step s0 xs).1:=by
  funext xs
  rw[Sw]
 have h2:bA P fn (first++[.func (.yield lo) ⟨[]⟩ ⟨[]⟩]) captured (pt lo (.loop ⟨.ready,none,ahI l,n,ps,assign,body,r⟩)::inv s0) (F1++F) (λ_:kI α=>.tuple ⟨[]⟩) (λxs=>pt lo (.loop (oG ⟨.ready,none,ahI l,n,ps,assign,body,r⟩ (mD (λ(so:S×Out) x=>(step so.1 x,qH (step so.1 x).2)) (s0,.normal) xs).2))::inv (mD (λ(so:S×Out) x=>(step so.1 x,qH (step so.1 x).2)) (s0,.normal) xs).1) (λ_=>[]) X:=this;rw[e]at h2;exact h2
def anQ{f:aaB}{vals:α->kI vI}{fe:α->kI aO}{X:kI α->Prop}(step:S->α->S×Out)(inv:S->kI OA)(ok:kI α->S->Prop)(s0:S)(l3:α->Z->qr)(k3:α->Z->kI OA)(h0:ok [] s0)
 (hok:∀vs s x rest,ok vs s->X (vs++x::rest)->(step s x).2=.normal->ok (vs++[x]) (step s x).1) (hit:al1 P vals fe fn first captured F1 X)
 (ha:∀(s:S) (x:α) (lo:Nat) (o:dN) B w0,R (λh=>EV P assign (act n ((ps.zip (vals x)).reverse++l) [] none (some lo)) h (IR B w0 n (l3 x) lo o (λz=>k3 x z++inv s) (fe x++F))) B w0 (pt lo o::inv s) (fe x++F))
 (hb:∀(vs:kI α) (s:S) (x:α) (rest:kI α) (z:Z) (lo:Nat) (L:oV) B w0,ok vs s->X (vs++x::rest)->R (λh=>EV P body (act n (l3 x z) [] none (some lo)) h (EX B w0 lo L (λ_:Unit=>(step s x).2) (λ_=>inv (step s x).1) (λ_=>[]) (λ_=>True))) B w0 (pt lo (.loop (y5 L))::(k3 x z++inv s)) (fe x++F))
 (next:∀r xs,X xs->R (λh=>K (pq step s0 xs).2 (act n l ({target:=.collected r,args:= #[]}::D) pm none) h) B w0 (inv (pq step s0 xs).1++(pt r (.aid true)::bH)) F)
 (jM:∀s x,EW (step s x).2)
 (hf:ev l f=.func fn ⟨first⟩ ⟨captured⟩:=by rfl) (hps:ps.all (λp=>Nat.blt p n)=true:=by rfl) (hlen:∀x,ps.length=(vals x).length:=by intro _;rfl)
 (hk:aI (inv s0) kl bH:=by exact pg) (hF:Sub F1 F:=by exact o9):
 R (λh=>EV P (.rangeFunc f ps assign body) (act n l D pm none) h K) B w0 kl F:=
 ao7 step inv ok s0 h0 hok hit hf hps hlen hk hF jM l3 k3 ha hb next
end
section
variable {B:kI Nat} {w0:Wd} {kl:kI OA} {F:kI aO}
end
end Go.Ideal
namespace Go.Ideal
variable {P:Program} {B:kI Nat} {w0:Wd} {kl kl' bH:kI OA} {F:kI aO} {K:KO} {ds:kI Tmp} {rest:kI bV} {n:Nat} {l:qr} {D:kI Deferred} {pm:x8 FrameMode} {ro:x8 Nat} {d:Nat} {g:x8 (Tmp×Bool)}
def anR{cs1 cs2 xs:kI vI}(h:xs.length<=cs2.length):jV (cs1++cs2) cs1.length xs=some (cs1++(xs++cs2.drop xs.length)):=by
 obtain⟨r,hr⟩:=MX (cs1++cs2) cs1.length xs (by rw[iH];omega);obtain⟨h1,h2,h3⟩:=KJ hr;rw[hr];congr 1;apply iY;intro j;rw[h3 j];by_cases c1:j<cs1.length
 .rw[if_neg z7,qp c1,qp c1]
 .by_cases c2:j<cs1.length+xs.length
  .rw[if_pos ⟨z7,c2⟩,pR z7,qp z7]
  .rw[if_neg z7,pR z7,pR z7,pR z7,oO];congr 1;omega
end Go.Ideal
namespace Go.Ideal
variable {P:Program}

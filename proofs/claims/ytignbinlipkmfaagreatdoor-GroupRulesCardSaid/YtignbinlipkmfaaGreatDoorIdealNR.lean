/- Part. -/
import Derived.Test.YtignbinlipkmfaaGreatDoorIdealKR
import Derived.Sort.Row
import Derived.Sort.Grow
import Derived.Laws.StructEq
set_option linter.all false
namespace Go.Ideal
variable {P:Program}
def Eh{Y:Type}(B:ae Nat)(w0:Wd)(ret:Y->jy)(kl':Y->ae OA)(fs:Y->ae aM)(pr:Y->Prop):KR:=λr pm h'=>
 pm=none/\∃(w':Wd) (y:Y),w'.h=h'/\St B w0 (kl' y) (fs y) w'/\r=ret y/\pr y
def uA{Y:Type}(P:Program)(fn:Fn)(args cap:ae ah)(kl:ae OA)(F:ae aM)(ret:Y->jy)(kl':Y->ae OA)(fs:Y->ae aM)(pr:Y->Prop):Prop:=
 ∀(B:ae Nat) (w:Wd),St B w kl F w->CALL P ⟨fn,args,cap,none⟩ w.h (Eh B w ret kl' fs pr)
variable{args cap:ae ah}{Y:Type}{kl:ae OA}{F:ae aM}
def uA.toC{fn:Fn}{ret:Y->jy}{kl':Y->ae OA}{fs:Y->ae aM}{pr:Y->Prop}(val:Y->ah)(h:uA P fn args cap kl F ret kl' fs pr)
 (hv:∀y,pr y->ret y=.ok (val y)):bG P fn args cap kl F val kl' fs pr:=λB w s=>by
 refine .jP _ (h B w s) ?_;rintro r pm h' ⟨e,w',y,e1,st,er,hp⟩;exact⟨e,w',y,e1,st,er.trans (hv y hp),hp⟩
def Tk{Y:Type}(B:ae Nat)(w0:Wd)(ret:Y->jy)(md:Y->FrameMode)(kl':Y->ae OA)(fs:Y->ae aM)(pr:Y->Prop):KR:=λr pm h'=>
 ∃(w':Wd) (y:Y),pm=some (md y)/\w'.h=h'/\St B w0 (kl' y) (fs y) w'/\r=ret y/\pr y
def Oh{Y:Type}(P:Program)(fn:Fn)(args cap:ae ah)(m:FrameMode)(kl:ae OA)(F:ae aM)(ret:Y->jy)(md:Y->FrameMode)(kl':Y->ae OA)(fs:Y->ae aM)(pr:Y->Prop):Prop:=
 ∀(B:ae Nat) (w:Wd),St B w kl F w->CALL P ⟨fn,args,cap,some m⟩ w.h (Tk B w ret md kl' fs pr)
variable{f:fI}{c:dH}{m:Nat}{l0:qr}
def Zc{K:KR}{pm:ak FrameMode}(cf:iL)(hF:(ni P uk ul).F f=some cf)(h1:cf.body=c)(h2:uh cf.ntmps (jq (args++cap))=m)(h3:uw 0 (args++cap) []=l0){h:IH}
 (hb:EV P c (act m l0 [] pm none) h (vB P cf K)):CALL P ⟨.func f,args,cap,pm⟩ h K:=by
 obtain⟨fn,e1,e2⟩:=(uu P uk ul (λf q h v h' hm=>by cases hm)).fn f cf hF;refine Yy cf fn e1 e2 ?_;rw[Ta,h1,h2,h3];exact hb
def Co{ret:Y->jy}{kl':Y->ae OA}{fs:Y->ae aM}{pr:Y->Prop}(cf:iL)(hF:(ni P uk ul).F f=some cf)
 (hb:∀B w0,R (λh=>EV P c (act m l0 [] none none) h (vB P cf (Eh B w0 ret kl' fs pr))) B w0 kl F)
 (h1:cf.body=c:=by conv=>lhs;(reduce;(try simp only[Int.reduceOfNat,Int.reduceNegSucc]))) (h2:uh cf.ntmps (jq (args++cap))=m:=by conv=>lhs;whnf) (h3:uw 0 (args++cap) []=l0:=by dsimp only[uw,Nat.reduceAdd,List.append_nil,List.cons_append,List.nil_append]):uA P (.func f) args cap kl F ret kl' fs pr:=
 λB w s=>Zc cf hF h1 h2 h3 (hb B w w s)
def Zd{pm:FrameMode}{ret:Y->jy}{md:Y->FrameMode}{kl':Y->ae OA}{fs:Y->ae aM}{pr:Y->Prop}(cf:iL)(hF:(ni P uk ul).F f=some cf)
 (hb:∀B w0,R (λh=>EV P c (act m l0 [] (some pm) none) h (vB P cf (Tk B w0 ret md kl' fs pr))) B w0 kl F)
 (h1:cf.body=c:=by conv=>lhs;(reduce;(try simp only[Int.reduceOfNat,Int.reduceNegSucc]))) (h2:uh cf.ntmps (jq (args++cap))=m:=by conv=>lhs;whnf) (h3:uw 0 (args++cap) []=l0:=by dsimp only[uw,Nat.reduceAdd,List.append_nil,List.cons_append,List.nil_append]):Oh P (.func f) args cap pm kl F ret md kl' fs pr:=
 λB w s=>Zc cf hF h1 h2 h3 (hb B w w s)
section
variable {B:ae Nat} {w0:Wd} {kl kl' bM:ae OA} {F:ae aM} {K:KO} {ds:ae Tmp} {rest:ae bW} {n:Nat} {l:qr} {D:ae Deferred} {pm:ak FrameMode} {ro:ak Nat} {d:Nat} {g:ak (Tmp×Bool)}
variable{k1:ae OA}{F1:ae aM}
def St.Oi{w:Wd}{bM:ae OA}(s:St B w0 kl F w)(hk:aH k1 kl bM)(hF:Sub F1 F):
 ∃S1,St S1 w k1 F1 w/\∀(w':Wd) (k1':ae OA) (F':ae aM),St S1 w k1' F' w'->St B w0 (k1'++bM) (F'++F) w':=by
 obtain⟨S,h1,h2,h3⟩:=s.own;obtain⟨S1,S2,q1,q2,hp⟩:=h1.lK hk;exact⟨S1,⟨⟨bI _,λ_ _ _=>rfl,λ_ _=>rfl⟩,Wd.Le.refl w,λi _ hz=>.inl hz,(by grind),λf hf=>s.facts f (hF.mem f hf)⟩,
  λw' k1' F' c=>s.call (k1:=k1) (F1:=F1) ⟨S,hp,h2,h3⟩ q2 c⟩
variable{Y:Type}{vs captured first as:ae ah}{fn:Fn}{f:az}{xs:ae az}
def akz{re:ae iY}{ret:Y->jy}{k1':Y->ae OA}{fs:Y->ae aM}{pr:Y->Prop}
 (hc:uA P fn as captured k1 F1 ret k1' fs pr) (hn:Nat.blt d n=true) (hg:bV l g=true) (hf:ev l f=.func fn ⟨first⟩ ⟨captured⟩) (hx:EvL (ev l) xs vs) (ha:first++vs=as)
 (hk:aH k1 kl bM) (hF:Sub F1 F)
 (hs:∀y v,pr y->ret y=.ok v->Same P re (ev ((d,v)::l)) ((d,v)::l) B w0 (k1' y++bM) (fs y++F))
 (next:∀y v,pr y->ret y=.ok v->R (λh=>aJ P ds rest (act n ((d,v)::l) D pm ro) h K) B w0 (k1' y++bM) (fs y++F))
 (JX:∀y ch,pr y->ret y=.gT ch->R (λh=>K (.panic ch) (act n (D5 ds n l) D pm ro) h) B w0 (k1' y++bM) (fs y++F)):
 R (λh=>aJ P ds (⟨⟨some d,g,.call f xs⟩,re⟩::rest) (act n l D pm ro) h K) B w0 kl F:=by
 intro w s;obtain⟨S1,s1,back⟩:=s.Oi hk hF;have hcall:=hc S1 w s1;subst ha;rw[<- hx.map]at hcall;refine s_call hn hg fn hf _ hcall ?_ ?_ ?_ ?_
 .rintro v h' ⟨_,w',y,rfl,c,hv,hpr⟩;exact hs y v hpr hv.symm w' (back w' _ _ c)
 .rintro v h' ⟨_,w',y,rfl,c,hv,hpr⟩;exact next y v hpr hv.symm w' (back w' _ _ c)
 .rintro ch h' ⟨_,w',y,rfl,c,hv,hpr⟩;rw[NP];exact JX y ch hpr hv.symm w' (back w' _ _ c)
 .rintro r p h' ⟨e,_⟩;exact e
def yo{re:ae iY}{ret:Y->jy}{k1':Y->ae OA}{fs:Y->ae aM}{pr:Y->Prop}{fq:Y->ae OA}{F2:Y->ae aM}
 (hc:uA P fn as captured k1 F1 ret k1' fs pr)
 (next:∀y v,pr y->ret y=.ok v->R (λh=>aJ P ds rest (act n ((d,v)::l) D pm ro) h K) B w0 (fq y) (F2 y))
 (JX:∀y ch,pr y->ret y=.gT ch->R (λh=>K (.panic ch) (act n (D5 ds n l) D pm ro) h) B w0 (fq y) (F2 y))
 (hn:Nat.blt d n=true:=by rfl) (hg:bV l g=true:=by rfl) (hf:ev l f=.func fn ⟨first⟩ ⟨captured⟩:=by rfl) (hx:EvL (ev l) xs vs:=by repeat (first|with_reducible exact EvL.nil|((with_reducible apply EvL.cons);(conv=>lhs;whnf)))) (ha:first++vs=as:=by rfl)
 (hk:aH k1 kl bM:=by exact nH) (hF:Sub F1 F:=by exact mK) (hk2:∀y,dW (k1' y) bM (fq y):=by intro y;repeat (first|exact dW.nil|apply dW.cons|exact dW.self|exact dW.app)) (hF2:∀y,dW (fs y) F (F2 y):=by intro y;repeat (first|exact dW.nil|apply dW.cons|exact dW.self|exact dW.app))
 (hs:∀y v,pr y->ret y=.ok v->Same P re (ev ((d,v)::l)) ((d,v)::l) B w0 (fq y) (F2 y):=by intro _ _ _ _;repeat (first|exact Eb|refine Ec rfl dV tv rfl ?_|refine Gh rfl ic tv rfl ?_|refine Gi rfl ic tv rfl ?_|refine Gj rfl dV tv rfl ?_|refine Gl rfl ic tv rfl ?_|refine Gm rfl ic tv rfl ?_)):
 R (λh=>aJ P ds (⟨⟨some d,g,.call f xs⟩,re⟩::rest) (act n l D pm ro) h K) B w0 kl F:=
 akz hc hn hg hf hx ha hk hF (λy v a b=>by rw[(hk2 y).eq,(hF2 y).eq];exact hs y v a b) (λy v a b=>by rw[(hk2 y).eq,(hF2 y).eq];exact next y v a b) (λy v a b=>by rw[(hk2 y).eq,(hF2 y).eq];exact JX y v a b)
variable{v:ah}
def Gt{x:az}{t:aF}{dst:ak Tmp}{re:ae iY}
 (next:R (λh=>K (.panic [{v:=.iface t v,recovered:=false}]) (act n (D5 ds n l) D pm ro) h) B w0 kl F)
 (hx:ev l x=.iface t v:=by rfl) (hg:bV l g=true:=by rfl):R (λh=>aJ P ds (⟨⟨dst,g,.panic x⟩,re⟩::rest) (act n l D pm ro) h K) B w0 kl F:=λw s=>ai8 hg hx (next w s)
def akA{f:az}{args:ae az}
 (next:R (λh=>aJ P ds rest (act n l ({target:=.fn fn ⟨captured⟩,args:=⟨first++vs⟩}::D) pm none) h K) B w0 kl F)
 (hf:ev l f=.func fn ⟨first⟩ ⟨captured⟩:=by rfl) (hx:EvL (ev l) args vs:=by repeat (first|with_reducible exact EvL.nil|((with_reducible apply EvL.cons);(conv=>lhs;whnf)))) (hg:bV l g=true:=by rfl):
 R (λh=>aJ P ds (⟨⟨none,g,.dcall f args⟩,[]⟩::rest) (act n l D pm none) h K) B w0 kl F:=λw s=>by
 refine ai9 hg rfl hf ?_;rw[hx.map];exact next w s
variable{m:FrameMode}
def Ze{m':FrameMode}(he:mI m=(v,m'))
 (next:R (λh=>aJ P ds rest (act n ((d,v)::l) D (some m') none) h K) B w0 kl F) (hn:Nat.blt d n=true:=by rfl) (hg:bV l g=true:=by rfl):
 R (λh=>aJ P ds (⟨⟨some d,g,.recover⟩,[]⟩::rest) (act n l D (some m) none) h K) B w0 kl F:=λw s=>by
 refine aja hn hg rfl ?_;rw[he];exact next w s
def RL(P:Program)(cf:iL)(l:qr)(D:ae Deferred)(m:FrameMode)(Kr:jy->IH->Prop)(B:ae Nat)(w0:Wd)(kl:ae OA)(F:ae aM):Prop:=∀w,St B w0 kl F w->LEAVE P cf (jC l) D m w.h Kr
def JY{cf:iL}{Kr:KR}{o:Out}(h:RL P cf l D m (λr h=>Kr r pm h) B w0 kl F)(hm:xM o=some m:=by rfl):R (λh=>vB P cf Kr o (act n l D pm ro) h) B w0 kl F:=λw s=>by
 show(match xM o with
  |none=>False
  |some m=>LEAVE P cf (jC l) D m w.h λr h''=>Kr r pm h'')
 rw[hm];exact h w s
variable {cf:iL} {Kr:jy->IH->Prop}
def akB(hk:∀w,St B w0 kl F w->Kr (.ok (sK vs)) w.h)(hr:RS l kl cf.results vs:=by exact Au):RL P cf l [] .returning Kr B w0 kl F:=λw s=>by
 refine .ret (sK vs) ?_ (hk w s);unfold uj;rw[hr.all s];exact ph
def Zf{args:ae ah}{ret:Y->jy}{md:Y->FrameMode}{k1':Y->ae OA}{fs:Y->ae aM}{pr:Y->Prop}{fq:Y->ae OA}{F2:Y->ae aM}
 (hc:Oh P fn args captured m k1 F1 ret md k1' fs pr)
 (next:∀y v,pr y->ret y=.ok v->RL P cf l D (BJ (md y)) Kr B w0 (fq y) (F2 y))
 (JX:∀y ch,pr y->ret y=.gT ch->RL P cf l D (FJ (md y) ch) Kr B w0 (fq y) (F2 y))
 (hk:aH k1 kl bM:=by exact nH) (hF:Sub F1 F:=by exact mK) (hk2:∀y,dW (k1' y) bM (fq y):=by intro y;repeat (first|exact dW.nil|apply dW.cons|exact dW.self|exact dW.app)) (hF2:∀y,dW (fs y) F (F2 y):=by intro y;repeat (first|exact dW.nil|apply dW.cons|exact dW.self|exact dW.app)) (hm:m≠.run:=by intro e;cases e):
 RL P cf l ({target:=.fn fn ⟨captured⟩,args:=⟨args⟩}::D) m Kr B w0 kl F:=λw s=>by
 obtain⟨S1,s1,back⟩:=s.Oi hk hF;refine .call hm _ (hc S1 w s1) ?_ ?_ ?_
 .rintro r p h' ⟨w',y,e,_⟩ hp;rw[e]at hp;cases hp
 .rintro v m' h' ⟨w',y,e,rfl,c,hv,hpr⟩;injection e with e;subst e;have:=next y v hpr hv.symm w' B9
  exact this
 .rintro ch m' h' ⟨w',y,e,rfl,c,hv,hpr⟩;injection e with e;subst e;exact JX y ch hpr hv.symm w' B9
variable{fq:ae OA}
def Ei{o:Out}{ret:Y->jy}{k1:Y->ae OA}{fs:Y->ae aM}{pr:Y->Prop}(y:Y)(hv:ret y=.ok (sK vs))(hp:pr y)(hD:lM kl D fq:=by repeat (first|exact lM.nil|(apply lM.cons;(focus (repeat (first|with_reducible exact aB.here|with_reducible apply aB.there|with_reducible apply aB.app))))))
 (hr:RS l fq cf.results vs:=by exact Au) (hk:aH (k1 y) fq bM:=by exact nH) (hF:Sub (fs y) F:=by exact mK) (ho:o=.normal\/o=.ret:=by first|exact .inl rfl|exact .inr rfl):
 R (λh=>vB P cf (Eh B w0 ret k1 fs pr) o (act n l D none ro) h) B w0 kl F:=by
 refine JY ?_ Cd;intro w s;refine lM.leave hD (λw' s'=>⟨sK vs,?_,rfl,w',y,rfl,((s'.lK hk).drop).sub hF,hv.symm,hp⟩) w s;unfold uj;rw[hr.all s'];match vs with
 |[]=>rfl
 |[v]=>rfl
 |_::_::_=>rfl
def lM.Zg{ts:T ah}{ch:ae PanicEntry}:∀{D:ae Deferred} {kl fq:ae OA},lM kl D fq->(∀w',St B w0 fq F w'->Kr (.gT ch) w'.h)->∀w,St B w0 kl F w->LEAVE P cf ts D (.panicking ch) w.h Kr
 |_,_,_,.nil,hk,w,s=>.gT ch (hk w s)
 |_,_,_,.cons (r:=r) h t,hk,w,s=>by
  have s1:=s.gz h;refine .coll x6 r s1.get.1 ?_;exact lM.Zg t hk _ (s1.write).tail
def Ej{ch:ae PanicEntry}{ret:Y->jy}{k1:Y->ae OA}{fs:Y->ae aM}{pr:Y->Prop}(y:Y)(hv:ret y=.gT ch)(hp:pr y)(hD:lM kl D fq:=by repeat (first|exact lM.nil|(apply lM.cons;(focus (repeat (first|with_reducible exact aB.here|with_reducible apply aB.there|with_reducible apply aB.app))))))
 (hk:aH (k1 y) fq bM:=by exact nH) (hF:Sub (fs y) F:=by exact mK):
 R (λh=>vB P cf (Eh B w0 ret k1 fs pr) (.panic ch) (act n l D none ro) h) B w0 kl F:=by
 refine JY ?_;intro w s;exact lM.Zg hD (λw' s'=>⟨rfl,w',y,rfl,((s'.lK hk).drop).sub hF,hv.symm,hp⟩) w s
def Zh{o:Out}{ret:Y->jy}{md:Y->FrameMode}{k1:Y->ae OA}{fs:Y->ae aM}{pr:Y->Prop}(y:Y)(hv:ret y=.ok (sK vs))(hm:md y=m)(hp:pr y)(hD:lM kl D fq:=by repeat (first|exact lM.nil|(apply lM.cons;(focus (repeat (first|with_reducible exact aB.here|with_reducible apply aB.there|with_reducible apply aB.app))))))
 (hr:RS l fq cf.results vs:=by exact Au) (hk:aH (k1 y) fq bM:=by exact nH) (hF:Sub (fs y) F:=by exact mK) (ho:o=.normal\/o=.ret:=by first|exact .inl rfl|exact .inr rfl):
 R (λh=>vB P cf (Tk B w0 ret md k1 fs pr) o (act n l D (some m) ro) h) B w0 kl F:=by
 refine JY ?_ Cd;intro w s;refine lM.leave hD (λw' s'=>⟨sK vs,?_,w',y,by rw[hm],rfl,((s'.lK hk).drop).sub hF,hv.symm,hp⟩) w s;unfold uj;rw[hr.all s'];match vs with
 |[]=>rfl
 |[v]=>rfl
 |_::_::_=>rfl
def Zi{ret:Y->jy}{k1:Y->ae OA}{fs:Y->ae aM}{pr:Y->Prop}(y:Y)(hv:ret y=.ok (sK vs))(hp:pr y)(hr:RS l kl cf.results vs:=by exact Au)(hk:aH (k1 y) kl bM:=by exact nH)(hF:Sub (fs y) F:=by exact mK):
 RL P cf l [] .returning (λr h=>Eh B w0 ret k1 fs pr r none h) B w0 kl F:=
 akB (λw s=>⟨rfl,w,y,rfl,((s.lK hk).drop).sub hF,hv.symm,hp⟩) hr
end
end Go.Ideal
namespace Go.Ideal
variable {P:Program}
variable{α:Type}
def Zj{β:Type}(f:α->β)(hf:∀a b,f a=f b->a=b){l1 l2:ae α}(h:(l1.map f).Perm (l2.map f)):l1.Perm l2:=by
 classical
 rw[List.perm_iff_count];intro a;have key:∀l:ae α,(l.map f).count (f a)=l.count a:=by
  intro l;induction l with
  |nil=>rfl
  |cons x l ih=>
   grind
 grind
def Zk{α β:Type}{f:α->β}:∀{l:ae α},(l.map f).Nodup->∀{a b:α},a∈l->b∈l->f a=f b->a=b
 |[],_,a,b,ha,_,_=>by cases ha
 |x::l,h,a,b,ha,hb,e=>by
  rw[kv,QZ]at h;obtain⟨hx,hl⟩:=h;rcases dB.1 ha with h1|ha<;>rcases dB.1 hb with h2|hb
  .rw[h1,h2]
  .grind
  .grind
  .exact Zk hl ha hb e
def sN{α:Type}[DecidableEq α](a:α):ae (α×ah)->Nat->ak (Nat×ah)
 |[],_=>none
 |(b,v)::l,i=>if a=b then some (i,v)else sN a l (i+1)
def dG{α β:Type}[DecidableEq α](a:α):ae (α×β)->ak β
 |[]=>none
 |(b,v)::l=>if a=b then some v else dG a l
def upd{α β:Type}[DecidableEq α](a:α)(v:β):ae (α×β)->ae (α×β)
 |[]=>[(a,v)]
 |(b,u)::l=>if a=b then(a,v)::l else(b,u)::upd a v l
def sO{α:Type}(bF:α->ah)(aA:ae (α×ah))(es:ae MapEntry):Prop:=es.map (λe=>(e.key,e.val))=aA.map λp=>(bF p.1,p.2)
structure rM(P:Program)(kt:TypeId){α:Type}[DecidableEq α](bF:α->Value):Prop where
 Em:∀a,tZ P kt (bF a)=true
 find:∀a aA es,sO bF aA es->wy P kt (bF a) es=some (sN a aA 0)
 same:∀a,Instr.sameBits 10000 (bF a) (bF a)=true
variable{kt:aF}
def Tm{v:ah}(ha:cB v=true)(h:∀b,dR P (Instr.checkKey b 10000 kt v)=some ()):tZ P kt v=true:=by
 unfold tZ
 grind
def Tn{bF:α->ah}{p:α×ah}{aA:ae (α×ah)}{es:ae MapEntry}(h:sO bF (p::aA) es):∃e es',es=e::es'/\e.key=bF p.1/\e.val=p.2/\sO bF aA es':=by
 cases es with
 |nil=>cases h
 |cons e es=>
  injection h with h1 h2;injection h1 with h1 h3;exact⟨e,es,rfl,h1,h3,h2⟩
def Zl{α:Type}[DecidableEq α]{bF:α->ah}{d:TypeDesc}(hs:∀a b,Instr.sameNow d (bF a) (bF b)=some (decide (a=b)))(a:α):∀(aA:ae (α×ah)) (es:ae MapEntry) (i:Nat),sO bF aA es->Instr.findNow d (bF a) es i=some (sN a aA i)
 |[],es,i,h=>by
  exact px
 |p::aA,es,i,h=>by
  obtain⟨e,es',rfl,h1,h2,h3⟩:=Tn h;have ih:=Zl hs a aA es' (i+1) h3;show(match Instr.sameNow d (bF a) e.key with
   |some true=>some (some (i,e.val))
   |some false=>Instr.findNow d (bF a) es' (i+1)
   |none=>none)=_
  unfold sN
  grind
def Zm[DecidableEq α]{bF:α->ah}{kt:aF}{d:TypeDesc}(hu:P.underlying kt=some d)(hs:∀a b,Instr.sameNow d (bF a) (bF b)=some (decide (a=b)))(a:α)(aA:ae (α×ah))(es:ae MapEntry)(h:sO bF aA es):wy P kt (bF a) es=some (sN a aA 0):=by
 unfold wy Instr.findKey;rw[fO,qC hu];simp only[lm,Zl hs a aA es 0 h];rfl
def akC(hu:P.underlying kt=some (.int .i64)):rM P kt (λn:Int=>.int .i64 n) where
 Em a:=Tm rfl λb=>by
  exact pb
 find a aA es h:=Zm hu (λa b=>by
  show(if IntKind.i64=IntKind.i64 then some (a==b)else none)=_
  grind) a aA es h
 same a:=by
  show(IntKind.i64==IntKind.i64&&a==a)=true;simp
def bytes_beq(a b:ByteArray):(a==b)=decide (a=b):=by
 have:(a==b)=(a.data==b.data):=rfl;rw[this];by_cases h:a=b
 .subst h;simp
 .rw[aW h];cases hb:a.data==b.data with
  |false=>rfl
  |true=>exact absurd (ByteArray.ext (eq_of_beq hb)) h
def akD(hu:P.underlying kt=some .string):rM P kt (λs:ByteArray=>.string s) where
 Em a:=Tm rfl λb=>by
  exact pb
 find a aA es h:=Zm hu (λa b=>by
  show some (a==b)=_;rw[bytes_beq]) a aA es h
 same a:=by
  show(a==a)=true;rw[bytes_beq];simp
def Zn{α:Type}[DecidableEq α](a:α):∀(aA:ae (α×ah)) (i:Nat),(sN a aA i).map (·.2)=dG a aA
 |[],_=>rfl
 |(b,v)::l,i=>by
  unfold sN dG;by_cases h:a=b
  .grind
  .rw[if_neg h,if_neg h];exact Zn a l (i+1)
def Zo[DecidableEq α]{bF:α->ah}{kt:aF}(hk:rM P kt bF){h:IH}{m zero:ah}{ok:Bool}{a:α}{aA:ae (α×ah)}{es:ae MapEntry}(he:entriesOf m h=some es)(ho:sO bF aA es):
 DD P kt zero m (bF a) ok h=some (match dG a aA with
  |some v=>cond ok (.tuple #[v,.bool true]) v
  |none=>cond ok (.tuple #[zero,.bool false]) zero):=by
 unfold DD;simp only[he,hk.Em,hk.find a aA es ho];have:=Zn a aA 0
 grind
def Zp{α:Type}[DecidableEq α](a:α):∀(aA:ae (α×ah)) (i j:Nat) (v:ah),sN a aA i=some (j,v)->∃k,j=i+k/\aA[k]? =some (a,v)/\∀u,upd a u aA=aA.set k (a,u)
 |[],i,j,v,h=>by cases h
 |(b,w)::l,i,j,v,h=>by
  unfold sN at h;split at h
  .rename_i hab;subst hab;cases h;exact⟨0,rfl,rfl,λu=>by simp[upd]⟩
  .rename_i hab;obtain⟨k,h1,h2,h3⟩:=Zp a l (i+1) j v h;exact⟨k+1,tf,by simpa using h2,λu=>by simp[upd,if_neg hab,h3]⟩
def Zq{α:Type}[DecidableEq α](a:α):∀(aA:ae (α×ah)) (i:Nat),sN a aA i=none->(∀p∈aA,a≠p.1)/\∀u,upd a u aA=aA++[(a,u)]
 |[],i,h=>⟨(by grind),λu=>rfl⟩
 |(b,w)::l,i,h=>by
  unfold sN at h;split at h
  .cases h
  .rename_i hab;obtain⟨h1,h2⟩:=Zq a l (i+1) h;refine⟨λp hp=>?_,λu=>by simp[upd,if_neg hab,h2]⟩
   grind
structure Cq{α:Type}(bF:α->Value)(aA:List (α×Value))(es:List MapEntry)(clock:Nat):Prop where
 wM:sO bF aA es
 lt:∀e∈es,e.born<clock
 nd:(es.map (·.born)).Nodup
 keys:(aA.map (·.1)).Nodup
def akE[DecidableEq α]{bF:α->ah}{kt:aF}(hk:rM P kt bF){h:IH}{b:Nat}{a:α}{v:ah}{aA:ae (α×ah)}{es:ae MapEntry}{clock:Nat}(hg:h.get b=some (.map es clock))(ho:Cq bF aA es clock):
 ∃es' clock',Im P kt (.map (some b)) (bF a) v h=some (h.set b (.map es' clock'))/\Cq bF (upd a v aA) es' clock':=by
 unfold Im;simp only[hg,hk.Em,cond_true,hk.find a aA es ho.wM];cases hf:sN a aA 0 with
 |none=>
  obtain⟨h1,h2⟩:=Zq a aA 0 hf;refine⟨_,_,rfl,?_⟩;rw[h2,jO];refine⟨?_,λe he=>?_,?_,?_⟩
  .unfold sO;rw[ek,ek,ho.wM];rfl
  .rcases eP.1 he with he|he
   .exact QW (ho.lt e he)
   .rw[bS.1 he];exact zW _
  .rw[ek,jV];refine⟨ho.nd,tg,λx hx y hy e=>?_⟩;obtain⟨e0,he0,rfl⟩:=dM.1 hx;have:y=clock:=by simpa using hy
   have:=ho.lt e0 he0;omega
  .rw[ek,jV];refine⟨ho.keys,tg,λx hx y hy e=>?_⟩;obtain⟨p,hp,rfl⟩:=dM.1 hx;have:y=a:=by simpa using hy
   exact h1 p hp (by rw[e,this])
 |some p=>
  obtain⟨j,u⟩:=p;obtain⟨k,rfl,h2,h3⟩:=Zp a aA 0 j u hf;rw[gI];have hlen:es.length=aA.length:=by
   have:=congrArg List.length ho.wM;simpa using this
  have hk':=(bJ.1 h2).1;have Tp:es[k]? =some es[k]:=bY tf;have hkey:es[k].key=bF a:=by
   have:=congrArg (λl=>l[k]?) ho.wM;simp only[dZ,Tp,h2,om]at this;injection this with this;injection this
  simp only[uo,Tp,hkey,hk.same,cond_true];refine⟨_,_,rfl,?_⟩;rw[h3,Xf];refine⟨?_,λe he=>?_,?_,?_⟩
  .unfold sO;apply jr;intro i;have:=congrArg (λl=>l[i]?) ho.wM;simp only[dZ]at this;simp only[dZ,List.getElem?_modify,xE];by_cases hi:k=i
   .subst hi;simp[Tp,hk']
   .rw[if_neg hi];cases he:es[i]? with
    |none=>rw[he]at this;simp only[Option.map_none]at this⊢;simp[hi,<- this]
    |some e=>rw[he]at this;simp only[om]at this⊢;simp[hi,<- this]
  .obtain⟨i,he⟩:=xG.1 he;rw[List.getElem?_modify]at he;cases Tq:es[i]? with
   |none=>rw[Tq]at he;simp at he
   |some e0=>
    rw[Tq]at he;have hlt:=ho.lt e0 (aU Tq);injection he with he;rw[<- he];split<;>exact hlt
  .have:(es.modify k λe=>{e with key:=bF a,val:=v}).map (·.born)=es.map (·.born):=by
    apply jr;intro i;simp only[dZ,List.getElem?_modify];cases es[i]? with
    |none=>rfl
    |some e=>simp only[om];split<;>rfl
   rw[this];exact ho.nd
  .have:(aA.set k (a,v)).map (·.1)=aA.map (·.1):=by
    apply jr;intro i;simp only[dZ,xE];by_cases hi:k=i
    .subst hi;rw[if_pos rfl,if_pos hk',h2];rfl
    .rw[if_neg hi]
   rw[this];exact ho.keys
def gW{α:Type}(bF:α->ah)(b:Nat)(aA:ae (α×ah)):OA:=⟨λw S=>S=[b]/\∃es clock,w.h.get b=some (.map es clock)/\Cq bF aA es clock,(by grind)⟩
def wN{α:Type}(bF:α->ah)(b:Nat)(aA:ae (α×ah)):aM:=⟨λw=>w.z b/\∃es clock,w.h.get b=some (.map es clock)/\Cq bF aA es clock,λa ⟨h1,es,clock,h2,h3⟩=>⟨a.z b h1,es,clock,by rw[a.get b h1];exact h2,h3⟩⟩
def En{bF:α->ah}{b:Nat}{aA:ae (α×ah)}:qV (gW bF b aA) [wN bF b aA]:=by
 intro w w' S ⟨h1,es,clock,h2,h3⟩ hle hh hz f hf;rw[bS.1 hf];exact⟨(by grind),es,clock,by rw[hh];exact h2,h3⟩
section
variable {B:ae Nat} {w0:Wd} {kl kl' bM:ae OA} {F:ae aM} {K:KO} {ds:ae Tmp} {rest:ae bW} {n:Nat} {l:qr} {D:ae Deferred} {pm:ak FrameMode} {ro:ak Nat} {d:Nat} {g:ak (Tmp×Bool)}
variable {α:Type} [DecidableEq α] {bF:α->ah}
variable{aA:ae (α×ah)}{b:Nat}
def St.Zr{w:Wd}(h:St B w0 (gW bF b aA::kl) F w):∃es clock,Cq bF aA es clock/\St B w0 (pt b (.map es clock)::kl) F w:=by
 obtain⟨S,⟨S1,S2,⟨q1,es,clock,q3,q4⟩,q2,e⟩,h2,h3⟩:=h.own;exact⟨es,clock,q4,h.agree,h.le,h.fZ,⟨S,⟨S1,S2,⟨q1,q3⟩,q2,e⟩,h2,h3⟩,h.facts⟩
def yu(bF:α->ah)
 (next:∀b,R (λh=>aJ P ds rest (act n ((d,.map (some b))::l) D pm ro) h K) B w0 (gW bF b []::kl) F) (hn:Nat.blt d n=true:=by rfl) (hg:bV l g=true:=by rfl):
 R (λh=>aJ P ds (⟨⟨some d,g,.yY⟩,[]⟩::rest) (act n l D pm ro) h K) B w0 kl F:=λw s=>
 lJ hn hg (h':=w.h.new (.map [] 0)) B8 (next w.h.next (w.new _) ((s.new _).Ch (A:=pt w.h.next (.map [] 0)) λw S hp=>⟨hp.1,[],0,hp.2,⟨rfl,(by grind),xH,xH⟩⟩))
def jX{α:Type}[DecidableEq α](ok:Bool)(zero:ah)(a:α)(aA:ae (α×ah)):ah:=match dG a aA with
 |some v=>cond ok (.tuple #[v,.bool true]) v
 |none=>cond ok (.tuple #[zero,.bool false]) zero
variable{m k:az}{kt:aF}{zero:ah}{ok:Bool}
def Tt(hk:rM P kt bF)(a:α)
 (next:R (λh=>aJ P ds rest (act n ((d,jX ok zero a aA)::l) D pm ro) h K) B w0 kl F)
 (hm:ev l m=.map (some b):=by rfl) (ha:ev l k=bF a:=by conv=>lhs;whnf) (hf:wN bF b aA∈F:=by exact ic) (hn:Nat.blt d n=true:=by rfl) (hg:bV l g=true:=by rfl):
 R (λh=>aJ P ds (⟨⟨some d,g,.lookup kt zero m k ok⟩,[]⟩::rest) (act n l D pm ro) h K) B w0 kl F:=λw s=>by
 obtain⟨_,es,clock,h1,h2⟩:=s.facts _ hf;refine lJ hn hg ?_ (next w s);have:DD P kt zero (.map (some b)) (bF a) ok w.h=_:=Zo hk (by simp only[entriesOf,h1]) h2.wM;simp only[aK.run,hm,ha,this];rfl
def Eo(hk:rM P kt bF)(a:α)
 (next:R (λh=>aJ P ds rest (act n ((d,jX ok zero a aA)::l) D pm ro) h K) B w0 kl F)
 (hm:ev l m=.map (some b):=by rfl) (ha:ev l k=bF a:=by conv=>lhs;whnf) (hs:aB (gW bF b aA) kl kl':=by exact dV) (hn:Nat.blt d n=true:=by rfl) (hg:bV l g=true:=by rfl):
 R (λh=>aJ P ds (⟨⟨some d,g,.lookup kt zero m k ok⟩,[]⟩::rest) (act n l D pm ro) h K) B w0 kl F:=λw s=>by
 obtain⟨es,clock,h2,s1⟩:=(s.gz hs).Zr;refine lJ hn hg ?_ (next w s);have:DD P kt zero (.map (some b)) (bF a) ok w.h=_:=Zo hk (by simp only[entriesOf,s1.get.1]) h2.wM;simp only[aK.run,hm,ha,this];rfl
variable{x:az}
def vD{v:ah}(hk:rM P kt bF)(a:α)
 (next:R (λh=>aJ P ds rest (act n l D pm ro) h K) B w0 (gW bF b (upd a v aA)::kl') F)
 (hm:ev l m=.map (some b):=by rfl) (ha:ev l k=bF a:=by conv=>lhs;whnf) (hv:ev l x=v:=by conv=>lhs;whnf) (hs:aB (gW bF b aA) kl kl':=by exact dV) (hg:bV l g=true:=by rfl):
 R (λh=>aJ P ds (⟨⟨none,g,.M3 kt m k x⟩,[]⟩::rest) (act n l D pm ro) h K) B w0 kl F:=λw s=>by
 obtain⟨es,clock,h2,s1⟩:=(s.gz hs).Zr;obtain⟨es',clock',e1,e2⟩:=akE hk s1.get.1 h2;refine NM hg (v:=eO) ?_ (next _ ((s1.write).Ch (A:=pt b (.map es' clock')) λw S hp=>⟨hp.1,es',clock',hp.2,e2⟩));simp only[aK.run,hm,ha,hv,e1]
variable{es:ae MapEntry}
def Zt{clock:Nat}(h:Cq bF aA es clock):es.length=aA.length:=by
 have:=congrArg List.length h.wM;simpa using this
def Ep{α:Type}(bF:α->ah)(r b:Nat)(aA ig:ae (α×ah)):OA:=⟨λw S=>S=[r]/\∃es clock seen last,w.h.get b=some (.map es clock)/\w.z b/\Cq bF aA es clock/\w.h.get r=some (.mapIter (some b) clock seen last)/\last=clock/\
 (∃ve rem:ae MapEntry,sO bF ig ve/\ve.map (·.born)=seen/\(ve++rem).Perm es),
 λa h ⟨h1,es,clock,seen,last,h2,h3,h4,h5,h6,h7⟩=>⟨h1,es,clock,seen,last,by rw[a.get b h3];exact h2,a.z b h3,h4,by grind,h6,h7⟩⟩
def Zu
 (next:∀r,R (λh=>aJ P ds rest (act n ((d,.pointer (some ⟨r,0,none⟩))::l) D pm ro) h K) B w0 (Ep bF r b aA []::kl) F)
 (hm:ev l m=.map (some b):=by rfl) (hf:wN bF b aA∈F:=by exact ic) (hn:Nat.blt d n=true:=by rfl) (hg:bV l g=true:=by rfl):
 R (λh=>aJ P ds (⟨⟨some d,g,.rangeMap m⟩,[]⟩::rest) (act n l D pm ro) h K) B w0 kl F:=λw s=>by
 obtain⟨hz,es,clock,h1,h2⟩:=s.facts _ hf;refine lJ hn hg (h':=w.h.new (.mapIter (some b) clock [] clock)) (by simp only[aK.run,hm,h1]) (next w.h.next (w.new _) ?_);have s1:=s.new (.mapIter (some b) clock [] clock);obtain⟨hz',es',clock',h1',h2'⟩:=s1.facts _ hf;refine s1.zl λS hp=>⟨hp.1,es',clock',[],clock,h1',hz',h2',?_,?_,[],es',rfl,rfl,.refl _⟩
 .have:clock'=clock:=by
   exact jp
  rw[this];exact hp.2
 .exact jp
def akF{ve rem:ae MapEntry}(hp:(ve++rem).Perm es)(hn:(es.map (·.born)).Nodup):(es.filter λe=>!(ve.map (·.born)).contains e.born).Perm rem:=by
 have hp2:((ve++rem).filter λe=>!(ve.map (·.born)).contains e.born).Perm (es.filter λe=>!(ve.map (·.born)).contains e.born):=hp.filter _;rw[Q0]at hp2;have h1:ve.filter (λe=>!(ve.map (·.born)).contains e.born)=[]:=by
  rw[List.filter_eq_nil_iff]
  grind
 have hnd:((ve++rem).map (·.born)).Nodup:=(by grind)
 have h2:rem.filter (λe=>!(ve.map (·.born)).contains e.born)=rem:=by
  rw[Wz]
  grind
 rw[h1,h2]at hp2;exact hp2.symm
variable{ig:ae (α×ah)}{r:Nat}
def Zv
 (more:∀p rem,(ig++p::rem).Perm aA->R (λh=>aJ P ds rest (act n ((d,.tuple #[.bool true,bF p.1,p.2])::l) D pm ro) h K) B w0 (Ep bF r b aA (ig++[p])::kl') F)
 (done:ig.Perm aA->R (λh=>aJ P ds rest (act n ((d,.tuple #[.bool false])::l) D pm ro) h K) B w0 (Ep bF r b aA ig::kl') F)
 (inj:∀a c,bF a=bF c->a=c)
 (hx:ev l x=.pointer (some ⟨r,0,none⟩):=by rfl) (hs:aB (Ep bF r b aA ig) kl kl':=by exact dV) (hn:Nat.blt d n=true:=by rfl) (hg:bV l g=true:=by rfl):
 R (λh=>aJ P ds (⟨⟨some d,g,.zZ x⟩,[]⟩::rest) (act n l D pm ro) h K) B w0 kl F:=λw s0=>by
 have s:=s0.gz hs;obtain⟨S,⟨S1,S2,⟨q1,es,clock,seen,last,h1,hz,h2,h3,h4,ve,rem,h5,h6,h7⟩,q2,eS⟩,hnd,hown⟩:=s.own;subst h4 h6;have hpl:=akF h7 h2.nd;have hold:((es.filter λe=>!(ve.map (·.born)).contains e.born).filter λe=>Nat.blt e.born last)=es.filter λe=>!(ve.map (·.born)).contains e.born:=by
  rw[Wz];intro e he;have:=h2.lt e (tT.1 he).1;rw[vY];exact this
 have hnew:((es.filter λe=>!(ve.map (·.born)).contains e.born).filter λe=>Nat.ble last e.born)=[]:=by
  rw[List.filter_eq_nil_iff];intro e he;have:=h2.lt e (tT.1 he).1;rw[tN];omega
 have hcl:(!(ve.map (·.born)).isEmpty&&!es.isEmpty&&es.all (λe=>Nat.ble last e.born))=false:=by
  cases es with
  |nil=>simp
  |cons e es=>
   have:=h2.lt e (fF ..);have:Nat.ble last e.born=false:=by
    cases hb:Nat.ble last e.born with
    |false=>rfl
    |true=>rw[tN]at hb;omega
   simp[this]
 have akG:DJ (ev l x) w.h=some ((if(es.filter λe=>!(ve.map (·.born)).contains e.born).isEmpty then[(.tuple #[.bool false],w.h)]else[])++
  (es.filter λe=>!(ve.map (·.born)).contains e.born).map λe=>(.tuple #[.bool true,e.key,e.val],w.h.set r (.mapIter (some b) last (ve.map (·.born)++[e.born]) last))):=by
  rw[hx];unfold DJ;simp only[h3,h1];rw[hcl];simp only[cond_false,hold,hnew,iE]
 have awi:∀(awj:ae MapEntry) (awk:ae (α×ah)),True:=λ_ _=>trivial;refine .next (zi hg) x rfl rfl _ (by rw[qi];exact akG) ?_
 intro vh hm;rcases eP.1 hm with hm|hm
 .split at hm
  .rename_i hemp;rw[bS.1 hm,sI hn];have akH:rem=[]:=by
    have:(es.filter λe=>!(ve.map (·.born)).contains e.born)=[]:=by simpa using hemp
    rw[this]at hpl;exact List.nil_perm.1 hpl|>λh=>h
   refine done ?_ w s;subst akH;rw[iE]at h7;have hm1:=h7.map (λe=>(e.key,e.val));rw[h5,h2.wM]at hm1;exact Zj (λp:α×ah=>(bF p.1,p.2)) (λp q hpq=>by
    exact r6) hm1
  .cases hm
 .obtain⟨e,he,rfl⟩:=dM.1 hm;have hr:e∈rem:=hpl.mem_iff.1 he;obtain⟨r1,r2,akI⟩:=List.append_of_mem hr;obtain⟨i,hi,hie⟩:∃i,i<aA.length/\es[i]? =some e:=by
   obtain⟨i,hi⟩:=xG.1 (tT.1 he).1;have:=(bJ.1 hi).1;rw[Zt h2]at this;exact⟨i,this,hi⟩
  have hpe:(e.key,e.val)=(bF aA[i].1,aA[i].2):=by
   have:=congrArg (λl=>l[i]?) h2.wM;simp only[dZ,hie,bY hi,om]at this;injection this
  injection hpe with hpk hpv;rw[sI hn,hpk,hpv];have hperm:(ve++[e]++(r1++r2)).Perm es:=by
   refine List.Perm.trans ?_ h7;rw[akI,iO];refine List.Perm.append_left _ ?_;exact(List.perm_middle (l₁:=r1) (l₂:=r2) (a:=e)).symm
  have JZ:sO bF (ig++[aA[i]]) (ve++[e]):=by
   unfold sO;rw[ek,ek,h5];simp[hpk,hpv]
  obtain⟨Tu,akJ⟩:∃Tu:ae (α×ah),(ig++aA[i]::Tu).Perm aA:=by
   have hm1:=hperm.map (λe=>(e.key,e.val));rw[ek,JZ,h2.wM]at hm1;have hex:∀ls:ae MapEntry,(∀x∈ls,∃p:α×ah,(x.key,x.val)=(bF p.1,p.2))->∃ps:ae (α×ah),ls.map (λe=>(e.key,e.val))=ps.map λp=>(bF p.1,p.2):=by
    intro ls;induction ls with
    |nil=>intro _;exact⟨[],rfl⟩
    |cons x ls ih=>
     intro h;obtain⟨p,hp⟩:=h x (fF ..);obtain⟨ps,hps⟩:=ih λy hy=>h y (iw _ hy);exact⟨p::ps,by rw[kv,kv,hp,hps]⟩
   obtain⟨ps,hps⟩:=hex (r1++r2) (λy hy=>by
    have hy':y∈es:=hperm.mem_iff.1 (xD _ hy);obtain⟨j,hj⟩:=xG.1 hy';have hj':=(bJ.1 hj).1;rw[Zt h2]at hj';have:=congrArg (λl=>l[j]?) h2.wM;simp only[dZ,hj,bY hj',om]at this;injection this with this;exact⟨_,this⟩)
   rw[hps,<- ek]at hm1;refine⟨ps,?_⟩;have:=Zj (λp:α×ah=>(bF p.1,p.2)) (λp q hpq=>by
    exact r6) hm1
   rwa [iO]at this
  refine more aA[i] Tu akJ ⟨w.h.set r (.mapIter (some b) last (ve.map (·.born)++[e.born]) last),w.z,λi hi=>w.l8 i hi⟩ ?_;have s2:St B w0 (pt r (.mapIter (some b) last (ve.map (·.born)) last)::kl') F w:=⟨s.agree,s.le,s.fZ,⟨S,⟨S1,S2,⟨q1,h3⟩,q2,eS⟩,hnd,hown⟩,s.facts⟩
  have s3:=s2.write (o':=.mapIter (some b) last (ve.map (·.born)++[e.born]) last);refine s3.zl λS' hp=>⟨hp.1,es,last,_,last,?_,hz,h2,hp.2,rfl,ve++[e],r1++r2,JZ,by rw[ek];rfl,hperm⟩
  have hrb:r≠b:=λer=>by
   have:=s2.own;obtain⟨S0,⟨T1,T2,⟨u1,_⟩,_,ue⟩,_,ho⟩:=this;exact(ho r (by rw[ue,u1];simp)).2.2 (er▸hz)
  show(w.h.set r _).get b=_;rw[IH.mJ,if_neg (λer=>hrb er.symm)];exact h1
def Zw{p:α×ah}
 (next:R (λh=>aJ P ds rest (act n ((d,.tuple #[bF p.1,p.2])::l) D pm ro) h K) B w0 kl F)
 (hx:ev l x=.pointer (some ⟨r,0,none⟩):=by rfl) (hs:aB (Ep bF r b aA (ig++[p])) kl kl':=by exact dV) (hn:Nat.blt d n=true:=by rfl) (hg:bV l g=true:=by rfl):
 R (λh=>aJ P ds (⟨⟨some d,g,.entry x⟩,[]⟩::rest) (act n l D pm ro) h K) B w0 kl F:=λw s0=>by
 have s:=s0.gz hs;obtain⟨S,⟨S1,S2,⟨q1,es,clock,seen,last,h1,hz,h2,h3,h4,ve,rem,h5,h6,h7⟩,q2,e⟩,hnd,hown⟩:=s.own;subst h4 h6;obtain⟨Zx,x0,JZ,hx0,hx1⟩:∃Zx x0,ve=Zx++[x0]/\x0.key=bF p.1/\x0.val=p.2:=by
  unfold sO at h5;rw[ek]at h5;obtain⟨a1,a2,e1,e2,e3⟩:=List.map_eq_append_iff.1 h5;obtain⟨x0,a3,e4,e5,e6⟩:=List.map_eq_cons_iff.1 e3;have:a3=[]:=by simpa using e6
  subst this;injection e5 with e5 e7;exact⟨a1,x0,by rw[e1,e4],e5,e7⟩
 have hfind:es.find? (λy=>Nat.beq y.born x0.born)=some x0:=by
  have hm:x0∈es:=h7.mem_iff.1 (uR _ (by rw[JZ];simp));cases hf:es.find? (λy=>Nat.beq y.born x0.born)with
  |none=>
   have:=List.find?_eq_none.1 hf x0 hm;simp[Dq]at this
  |some y=>
   have hy:=List.find?_some hf;have hym:=WA hf;have hb:=tL hy;congr 1;exact Zk h2.nd hym hm hb
 refine lJ hn hg ?_ (next w s0);simp only[aK.run,hx,h3,h1];rw[JZ];simp only[ek,kv,List.map_nil,List.getLast?_append,List.getLast?_singleton,Option.some_or,Dq,cond_true,hfind,hx0,hx1]
end
end Go.Ideal
namespace Go.Ideal
open Go.Sort
variable {P:Program}
def WR.grow{β:aI}{h:IH}{w:World}(hW:WR P β h w)(os:Array Obj):WR P β h (grow w os)/\Eff β h w β h (grow w os):=by
 have hold:∀b,b<w.heap.size->(Go.Sort.grow w os).heap[b]? =w.heap[b]?:=λb hb=>by
  show(w.heap++os)[b]? =_
  grind
 refine⟨⟨hW.dom,hW.live,λi g o h1 h2=>?_,hW.inj⟩,⟨λ_ _=>rfl,bI _,λ_ _ h=>h,λ_ _ _=>rfl,bI _,λ_ _ _=>rfl,rfl,rfl,rfl,?_,λb hb _=>hold b hb,λi g hg hi=>absurd (hW.dom _ _ hg) tf,(by grind),bI _⟩⟩
 .have hO:=hW.obj i g o h1 h2;exact hO.congr (hold _ hO.lt)
 grind
def Oj(o:Nat):ae ah->Array ah->Array ah
 |[],c=>c
 |v::vs,c=>Oj (o+1) vs (c.setIfInBounds o v)
def Zy(b:Nat):∀(vs:ae ah) (o:Nat) (w:World),w.setCells b o vs=mapBlock w b (Oj o vs)
 |[],o,w=>(mapBlock_id w b _ λc e fr h=>rfl).symm
 |v::vs,o,w=>by
  show(w.setCell ⟨b,o,none⟩ v).setCells b (o+1) vs=_;rw[Zy b vs (o+1),setCell_eq,mapBlock_mapBlock];rfl
def Zz:∀(vs:ae ah) (o:Nat) (c:Array ah) (k:Nat),(Oj o vs c)[k]? =if o<=k/\k<o+vs.length/\k<c.size then vs[k - o]? else c[k]?
 |[],o,c,k=>by
  rw[if_neg (by grind)];rfl
 |v::vs,o,c,k=>by
  show(Oj (o+1) vs (c.setIfInBounds o v))[k]? =_;rw[Zz vs (o+1),uS]
  grind
def setCells_putRow{α:Type}[Inhabited α](enc:α->ah)(w:World)(b o:Nat)(d:Array α):w.setCells b o (d.toList.map enc)=putRow enc w b o d:=by
 rw[Zy];refine mapBlock_congr w b _ _ λc e fr hc=>?_;apply Array.ext_getElem?;intro k;rw[Zz,putCells,bC]
 grind
def Tv(P:Program)(f:fI):Prop:=∀(blk off cap:Nat) (zs:ae Int) (w:World),Holds (Value.int .i64) w blk off zs.toArray->blk<w.heap.size->zs.length<4611686018427387904->
 Calls P f #[.slice (some ⟨blk,off,none⟩) zs.length cap] w λe w'=>e=.returned (.tuple #[])/\∃n os,w'=Go.Sort.grow (putRow (Value.int .i64) (Sort.ahead w n) blk off (zs.mergeSort λx y=>decide (x<=y)).toArray) os
def cK(zs:ae Int):ae Int:=zs.mergeSort λx y=>decide (x<=y)
def Cr(zs:ae Int):(cK zs).length=zs.length:=List.length_mergeSort zs
variable{f:fI}
def akK(hS:Tv P f){fn:Func}(hfn:P.funcs[f]? =some fn){body:Code}(hb:fn.body=some body)(hname:fn.name≠ "runtime.NumGoroutine"){b o c:Nat}{fl:ak Nat}{zs:ae Int}{h h':IH}{cs:ae ah}
 (hg:h.get b=some (.cells cs)) (hz:∀(j:Nat) z,zs[j]? =some z->cs[o+j]? =some (.int .i64 z)) (hne:0<zs.length) (hlen:zs.length<4611686018427387904) (hs:h.storeAt b o ((cK zs).map (.int .i64))=some h'):
 l6 P ⟨.func f,[.slice (some ⟨b,o,fl⟩) zs.length c],[],none⟩ h (λr pm h2=>pm=none/\r=.ok (.tuple ⟨[]⟩)/\h2=h'):=by
 intro β w fn' args' cap' hG hW hf ha hcap;obtain⟨jQ,t1,t2⟩:=BZ (P:=P) (f:=f) (args:=[.slice (some ⟨b,o,fl⟩) zs.length c]) ud hf ha hcap hfn hb hname w;cases t2 with|cons hv tl=>
 cases tl;obtain⟨g,a,c',hi,rfl,hab,_,hn,hcc,hao,_⟩:=hv.nU;have hao:a.off=g.off+o/\a.spot=none:=by
  exact qq
 obtain⟨⟨c0,t0,Ol,hh,_⟩,q2,q3,q4,q5,q6⟩:=hW.obj b g _ hi hg;have ea:a=⟨g.b,g.off+o,none⟩:=by
  obtain⟨ab,ao,as⟩:=a;exact pB
 subst ea;have hin:=λj hj=>(bJ.1 (hz j _ (bY hj))).1;have hH:Holds (Value.int .i64) w g.b (g.off+o) zs.toArray:=λj hj=>by
  obtain⟨v',h1,h2⟩:=q6 (o+j) _ (hz j _ (bY hj));have:=h2.nT;subst this;refine⟨?_,(q4 _ (by have:=hin j hj;omega)).2⟩;rw[oq,h1];congr 2;rw[getElem!_pos zs.toArray j AK];simp
 have hlt:=(MW.1 hh).1;have hC:=hS g.b (g.off+o) c' zs w hH hlt hlen;obtain⟨_,w1,w2⟩:=DR hW hi hs (aY.free (by
  have:∀l:ae Int,gJ (l.map (Value.int .i64))=true:=by
   exact py
  exact this _)) (by
  exact sv)
 refine⟨_,Frame.enter P f ⟨_⟩ .normal,t1,rfl,λcs0 wJ=>?_⟩;obtain⟨e,w',fr,⟨he,k,os,hw'⟩,hcomes,hfr,hlv⟩:=hC cs0;subst he;have hw1:putRow (Value.int .i64) (Sort.ahead w k) g.b (g.off+o) (zs.mergeSort λx y=>decide (x<=y)).toArray=Sort.ahead (w.setCells g.b (g.off+o) ((cK zs).map (.int .i64))) k:=by
  have:=setCells_putRow (Value.int .i64) w g.b (g.off+o) (cK zs).toArray;rw[this];rfl
 rw[hw1]at hw';have w3:WR P β h' (Sort.ahead (w.setCells g.b (g.off+o) ((cK zs).map (.int .i64))) k):=w1.qg rfl;have w4:=w2.trans (Eff.qg (w':=Sort.ahead (w.setCells g.b (g.off+o) ((cK zs).map (.int .i64))) k) w1.dom rfl rfl rfl rfl (Nat.le_add_right _ _));obtain⟨w5,w6⟩:=w3.grow os;rw[<- hw']at w5 w6;refine⟨.ok (.tuple ⟨[]⟩),none,h',β,w',.returned (.tuple #[]),cs0,⟨rfl,rfl,rfl⟩,w5,w4.trans w6,.ok (.eO _),.none cs0,.inl ⟨f,_,fr,rfl,hcomes,hfr,hlv.2.2.1,hlv.1,hlv.2.1,hlv.2.2.2⟩⟩
def Cs{α:Type}:∀(l:ae α) (o:Nat) (xs:ae α),o+xs.length<=l.length->∃r,jE l o xs=some r
 |[],o,xs,h=>by
  have h1:xs=[]:=lW.1 (by grind);have h2:o=0:=by grind
  exact⟨[],by rw[Xd,if_pos ⟨h1,h2⟩]⟩
 |c::l,0,[],h=>⟨_,Xe c l⟩
 |c::l,0,x::xs,h=>by
  obtain⟨r,hr⟩:=Cs l 0 xs (by grind);exact⟨x::r,by rw[Rl,hr];rfl⟩
 |c::l,o+1,xs,h=>by
  obtain⟨r,hr⟩:=Cs l o xs (by grind);exact⟨c::r,by rw[Rm,hr];rfl⟩
def akL(hS:Tv P f){fn:Func}(hfn:P.funcs[f]? =some fn){body:Code}(hb:fn.body=some body)(hname:fn.name≠ "runtime.NumGoroutine"){a:ak Addr}{zs:ae Int}(hne:0<zs.length)(hlen:zs.length<4611686018427387904):
 bG P (.func f) [.slice a zs.length zs.length] [] [ap ai (.slice a zs.length zs.length) zs] [] (λ_:Unit=>.tuple ⟨[]⟩) (λ_=>[ap ai (.slice a zs.length zs.length) (cK zs)]) (λ_=>[]) (λ_=>True):=by
 intro B w s;obtain⟨S,⟨S1,S2,q1,q2,e⟩,h2,h3⟩:=s.own;rcases q1 with⟨h,_⟩|⟨b,o,fl,cells,e1,hf,e2,hb',hcl,hel⟩
 .rw[h]at hne;simp at hne
 injection e1 with e1 Tw;subst e1;have hcl:cells.length=o+zs.length:=by rw[hcl];simp[ai]
 have hz:∀(j:Nat) z,zs[j]? =some z->cells[o+j]? =some (.int .i64 z):=λj z hj=>by
  obtain⟨y,u1,_⟩:=hel j z hj;have:=u1 0 (.int .i64 z) rfl;simpa[ai]using this
 have hst:∃cs2,w.h.storeAt b o ((cK zs).map (.int .i64))=some (w.h.set b (.cells cs2))/\cs2.length=cells.length/\∀(k:Nat) z,(cK zs)[k]? =some z->cs2[o+k]? =some (.int .i64 z):=by
  have hov:∃cs2,jE cells o ((cK zs).map (.int .i64))=some cs2:=Cs _ _ _ (by rw[bC,Cr];omega);exact kq
 obtain⟨cs2,hst,hl2,Gu⟩:=hst;refine .real (F9 _ (akK hS hfn hb hname hb' hz hne hlen hst) ?_);rintro r pm h' ⟨rfl,rfl,rfl⟩;have s1:St B w [pt b (.cells cells)] [] w:=⟨s.agree,s.le,s.fZ,⟨S,⟨S1,S2,⟨e2,hb'⟩,q2,e⟩,h2,h3⟩,λf hf=>by cases hf⟩
 refine⟨rfl,⟨w.h.set b (.cells cs2),w.z,λi hi=>w.l8 i hi⟩,(),rfl,?_,rfl,trivial⟩;refine(s1.write (o':=.cells cs2)).Ch λw' S' hp=>?_;refine .inr ⟨b,o,fl,cs2,by rw[Cr],hf,hp.1,hp.2,by rw[hl2,hcl,Cr];simp[ai],λk x hk=>⟨(),λj u hj=>?_,λf hf=>by cases hf⟩⟩;match j,hj with
 |0,hj=>
  cases hj;have:=Gu k x hk;simpa[ai]using this
end Go.Ideal
namespace Go.Ideal
variable {P:Program}
def wO{α:Type}(P:Program)(vals:α->ae ah)(fn:Fn)(first cap:ae ah)(F:ae aM)(X:ae α->Prop):Prop:=
 ∀(S:Type) (inv:S->ae OA) (ok:ae α->S->Prop) (step:S->α->S×Bool) (s0:S) (zq:Fn) (y1 y2:ae ah) (F':ae aM),ok [] s0->
  (∀vs s x rest,ok vs s->X (vs++x::rest)->(step s x).2=true->ok (vs++[x]) (step s x).1)->
  (∀vs s x rest,ok vs s->X (vs++x::rest)->bG P zq (y1++vals x) y2 (inv s) F' (λ_:Unit=>.bool (step s x).2) (λ_=>inv (step s x).1) (λ_=>[]) (λ_=>True))->
  bG P fn (first++[.func zq ⟨y1⟩ ⟨y2⟩]) cap (inv s0) (F++F') (λ_:ae α=>.tuple ⟨[]⟩) (λxs=>inv (jG step s0 xs)) (λ_=>[]) X
section
variable {B:ae Nat} {w0:Wd} {kl kl' bM:ae OA} {F:ae aM} {K:KO} {n:Nat} {l:qr} {D:ae Deferred} {pm:ak FrameMode} {ro:ak Nat}
def Gv{Z:Type}(B:ae Nat)(w0:Wd)(n:Nat)(l3:Z->qr)(lo:Nat)(o:aN)(kl:Z->ae OA)(F:ae aM):KO:=λoo a h=>
 oo=.normal/\∃z,a=act n (l3 z) [] none (some lo)/\∃w:Wd,w.h=h/\St B w0 (pt lo o::kl z) F w
variable{Z:Type}{lo:Nat}
def Gw{l3:Z->qr}{o:aN}{k3:Z->ae OA}(z:Z)(hl:l3 z=l)(hk:aH (pt lo o::k3 z) kl bM:=by exact nH):R (λh=>Gv B w0 n l3 lo o k3 F .normal (act n l [] none (some lo)) h) B w0 kl F:=λw s=>
 ⟨rfl,z,by rw[hl],w,rfl,(s.lK hk).drop⟩
def ZA{Y:Type}{L:qy}{args:ae ah}{k1:ae OA}{out:Y->Out}{k1':Y->ae OA}{fs:Y->ae aM}{pr:Y->Prop}(l:qr)(l3:Z->qr)(k3:Z->ae OA)(hl:L.tmps=jC l)(hst:L.state=.ready)(hps:L.params.all (λp=>Nat.blt p L.n)=true)(hlen:L.params.length=args.length)
 (ha:∀B w0,R (λh=>EV P L.assign (act L.n ((L.params.zip args).reverse++l) [] none (some lo)) h (Gv B w0 L.n l3 lo (.loop L) k3 F)) B w0 (pt lo (.loop L)::k1) F)
 (hb:∀z B w0,R (λh=>EV P L.body (act L.n (l3 z) [] none (some lo)) h (Ee B w0 lo L out k1' fs pr)) B w0 (pt lo (.loop (Aw L))::k3 z) F):
 bG P (.yield lo) args [] (pt lo (.loop L)::k1) F (λy:Y=>.bool (vC (out y))) (λy=>pt lo (.loop (rH L (out y)))::k1' y) fs pr:=by
 intro B w s;obtain⟨l2,e1,e2⟩:=Y3 L.n L.params args l hps hlen;refine .round lo rfl rfl L s.get.1 hlen.symm _ (by
  rw[hl];rw[e1,e2];exact ha B w w s) ?_ ?_
 .rintro o a h ⟨rfl,z,rfl,w1,rfl,s1⟩;exact⟨rfl,L,s1.get.1,hst⟩
 .rintro a h r1 ⟨_,z,rfl,w1,rfl,s1⟩ hr;have hr1:r1=L:=by
   have:=s1.get.1;rw[hr]at this;injection this with this;injection this
  subst hr1;have hb:=hb z B w _ (s1.write);refine Sr hb _ ?_;rintro o a h ⟨hd,w2,y,rfl,rfl,hn,s2,hp⟩;refine⟨Aw r1,s2.get.1,hd,?_⟩;have fin:∀o',vC o'=vC (out y)->rH r1 o'=rH r1 (out y)->Left B w (λy:Y=>.bool (vC (out y))) (λy=>pt lo (.loop (rH r1 (out y)))::k1' y) fs pr (.ok (.bool (vC (out y)))) none (w2.h.set lo (.loop (rH r1 (out y)))):=λo' _ _=>
   ⟨rfl,_,y,rfl,s2.write,rfl,hp⟩
  cases ho:out y with
  |normal=>have:=fin .normal vt vt;rw[ho]at this;exact this
  |exit j=>have:=fin (.exit j) vt vt;rw[ho]at this;exact this
  |ret=>have:=fin .ret vt vt;rw[ho]at this;exact this
  |panic ch=>rw[ho]at hn;exact hn.elim
variable{S α:Type}{ps:ae Tmp}{assign body:dH}{fn:Fn}{first captured:ae ah}{F1:ae aM}
def akM{f:az}{vals:α->ae ah}{X:ae α->Prop}(step:S->α->S×Out)(inv:S->ae OA)(ok:ae α->S->Prop)(s0:S)(h0:ok [] s0)
 (hok:∀vs s x rest,ok vs s->X (vs++x::rest)->(step s x).2=.normal->ok (vs++[x]) (step s x).1) (hit:wO P vals fn first captured F1 X)
 (hf:ev l f=.func fn ⟨first⟩ ⟨captured⟩) (hps:ps.all (λp=>Nat.blt p n)=true) (hlen:∀x,ps.length=(vals x).length) (hk:aH (inv s0) kl bM) (hF:Sub F1 F) (lI:∀s x,Ed (step s x).2)
 (l3:α->Z->qr) (k3:α->Z->ae OA)
 (ha:∀(s:S) (x:α) (lo:Nat) (o:aN) B w0,R (λh=>EV P assign (act n ((ps.zip (vals x)).reverse++l) [] none (some lo)) h (Gv B w0 n (l3 x) lo o (λz=>k3 x z++inv s) F)) B w0 (pt lo o::inv s) F)
 (hb:∀(vs:ae α) (s:S) (x:α) (rest:ae α) (z:Z) (lo:Nat) (L:qy) B w0,ok vs s->X (vs++x::rest)->R (λh=>EV P body (act n (l3 x z) [] none (some lo)) h (Ee B w0 lo L (λ_:Unit=>(step s x).2) (λ_=>inv (step s x).1) (λ_=>[]) (λ_=>True))) B w0 (pt lo (.loop (Aw L))::(k3 x z++inv s)) F)
 (next:∀r xs,X xs->R (λh=>K (kz step s0 xs).2 (act n l ({target:=.collected r,args:= #[]}::D) pm none) h) B w0 (inv (kz step s0 xs).1++(pt r (.lC true)::bM)) F):
 R (λh=>EV P (.rangeFunc f ps assign body) (act n l D pm none) h K) B w0 kl F:=by
 refine Y4 (Oa:=λ_=>.tuple ⟨[]⟩) (out:=λxs=>(kz step s0 xs).2) (k1':=λxs=>inv (kz step s0 xs).1) (fs:=λ_=>[]) (pr:=X) hf ?_ hk (hF.app (Sub.refl' F [])) (by grind);intro lo r;have:=hit (S×Out) (λso=>pt lo (.loop (rH ⟨.ready,none,jC l,n,ps,assign,body,r⟩ so.2))::inv so.1) (λvs so=>so.2=.normal/\ok vs so.1) (λso x=>(step so.1 x,vC (step so.1 x).2)) (s0,.normal) (.yield lo) [] [] F ⟨rfl,h0⟩
  (λvs so x rest ho hx h=>by
    exact mB)
  (λvs so x rest ho hx=>by
    obtain⟨s,o⟩:=so;obtain⟨hn,ho⟩:=ho;subst hn;exact ZA (L:=⟨.ready,none,jC l,n,ps,assign,body,r⟩) l (l3 x) (λz=>k3 x z++inv s) rfl rfl hps (hlen x)
     (λB w0=>ha s x lo _ B w0) (by grind))
 have e:(λxs:ae α=>pt lo (.loop (rH ⟨.ready,none,jC l,n,ps,assign,body,r⟩ (jG (λso x=>(step so.1 x,vC (step so.1 x).2)) (s0,.normal) xs).2))::inv (jG (λso x=>(step so.1 x,vC (step so.1 x).2)) (s0,.normal) xs).1)=λxs=>pt lo (.loop (rH ⟨.ready,none,jC l,n,ps,assign,body,r⟩ (kz step s0 xs).2))::inv (kz step s0 xs).1:=by
  funext xs
  rw[Tf]
 have h2:=this;rw[e]at h2;exact h2
def J2{f:az}{vals:α->ae ah}{X:ae α->Prop}(step:S->α->S×Out)(inv:S->ae OA)(ok:ae α->S->Prop)(s0:S)(l3:α->Z->qr)(k3:α->Z->ae OA)(h0:ok [] s0)
 (hok:∀vs s x rest,ok vs s->X (vs++x::rest)->(step s x).2=.normal->ok (vs++[x]) (step s x).1) (hit:wO P vals fn first captured F1 X)
 (ha:∀(s:S) (x:α) (lo:Nat) (o:aN) B w0,R (λh=>EV P assign (act n ((ps.zip (vals x)).reverse++l) [] none (some lo)) h (Gv B w0 n (l3 x) lo o (λz=>k3 x z++inv s) F)) B w0 (pt lo o::inv s) F)
 (hb:∀(vs:ae α) (s:S) (x:α) (rest:ae α) (z:Z) (lo:Nat) (L:qy) B w0,ok vs s->X (vs++x::rest)->R (λh=>EV P body (act n (l3 x z) [] none (some lo)) h (Ee B w0 lo L (λ_:Unit=>(step s x).2) (λ_=>inv (step s x).1) (λ_=>[]) (λ_=>True))) B w0 (pt lo (.loop (Aw L))::(k3 x z++inv s)) F)
 (next:∀r xs,X xs->R (λh=>K (kz step s0 xs).2 (act n l ({target:=.collected r,args:= #[]}::D) pm none) h) B w0 (inv (kz step s0 xs).1++(pt r (.lC true)::bM)) F)
 (lI:∀s x,Ed (step s x).2)
 (hf:ev l f=.func fn ⟨first⟩ ⟨captured⟩:=by rfl) (hps:ps.all (λp=>Nat.blt p n)=true:=by rfl) (hlen:∀x,ps.length=(vals x).length:=by intro _;rfl)
 (hk:aH (inv s0) kl bM:=by exact nH) (hF:Sub F1 F:=by exact mK):
 R (λh=>EV P (.rangeFunc f ps assign body) (act n l D pm none) h K) B w0 kl F:=
 akM step inv ok s0 h0 hok hit hf hps hlen hk hF lI l3 k3 ha hb next
end
end Go.Ideal
namespace Go.Ideal
variable {P:Program}
def dx{α:Type}(E:Enc α)(aD:ae (α×E.Y)):ae ah:=aD.flatMap λp=>E.pat p.1 p.2
def Ct{α:Type}{E:Enc α}:∀aD:ae (α×E.Y),(dx E aD).length=aD.length*E.n
 |[]=>by simp[dx]
 |p::l=>by
  have ih:=Ct l;unfold dx at ih⊢;rw[WB,fV,E.len,uS,xB];omega
def zu{α:Type}{E:Enc α}:∀{aD:ae (α×E.Y)} {k:Nat} {p:α×E.Y} {j:Nat} {u:ah},aD[k]? =some p->(E.pat p.1 p.2)[j]? =some u->(dx E aD)[k*E.n+j]? =some u
 |[],k,p,j,u,h,_=>by cases h
 |q::l,0,p,j,u,h,hj=>by
  unfold dx
  grind
 |q::l,k+1,p,j,u,h,hj=>by
  have ih:=zu tw hj;unfold dx at ih⊢;rw[WB,tO (by rw[E.len,xB];omega),E.len,show(k+1)*E.n+j - E.n=k*E.n+j by rw[xB];omega];exact ih
def Tx{α:Type}{E:Enc α}{j:Nat}{v:ah}:∀{aD:ae (α×E.Y)} {k:Nat} {p p':α×E.Y},aD[k]? =some p->(E.pat p.1 p.2).set j v=E.pat p'.1 p'.2->j<E.n->(dx E aD).set (k*E.n+j) v=dx E (aD.set k p')
 |[],k,p,p',h,_,_=>by cases h
 |q::l,0,p,p',h,hp,hj=>by
  cases h;unfold dx;rw[WB,Fv,gI,List.set_append_left _ _ (by rw[E.len];exact hj),hp];rfl
 |q::l,k+1,p,p',h,hp,hj=>by
  have ih:=Tx tw hp hj;unfold dx at ih⊢;rw[WB,Dr _ _ (by rw[E.len,xB];omega),E.len,show(k+1)*E.n+j - E.n=k*E.n+j by rw[xB];omega,ih];rfl
def sP{α:Type}(E:Enc α)(v:ah)(aD:ae (α×E.Y)):aM:=
 ⟨λw=>(aD=[]/\∃a c,v=.slice a 0 c/\SV E.n a)\/∃i o f c cells,(v=.slice (some ⟨i,o,some f⟩) aD.length c/\aD.length<=c/\(f=0\/f=E.n))/\Fz w i cells/\
  ∀(k:Nat) p,aD[k]? =some p->(∀(j:Nat) u,(E.pat p.1 p.2)[j]? =some u->cells[o+k*E.n+j]? =some u)/\∀f∈E.fs p.1 p.2,f.p w,
  λa h=>by
   rcases h with h|⟨i,o,f,c,cells,h1,h2,h3⟩
   .exact .inl h
   .refine .inr ⟨i,o,f,c,cells,h1,h2.mono a,λk x hk=>?_⟩;obtain⟨q1,q2⟩:=h3 k x hk;exact⟨q1,λf hf=>f.mono a (q2 f hf)⟩⟩
def wP{α:Type}(E:Enc α)(aD:ae (α×E.Y)):aM:=⟨λw=>∀p∈aD,∀f∈E.fs p.1 p.2,f.p w,λa h p hp f hf=>f.mono a (h p hp f hf)⟩
variable{α:Type}{v:ah}{w:Wd}
def akN{E:Enc α}{aD:ae (α×E.Y)}(h:(sP E v aD).p w):(wP E aD).p w:=by
 intro p hp f hf;rcases h with⟨rfl,_⟩|⟨i,o,fl,c,cells,_,_,h3⟩
 .cases hp
 .obtain⟨k,hk⟩:=xG.1 hp
  grind
def akO{E:Enc α}{aD:ae (α×E.Y)}(h:(sP E v aD).p w):(aj E v (aD.map (·.1))).p w:=by
 rcases h with⟨rfl,h⟩|⟨i,o,f,c,cells,h1,h2,h3⟩
 .exact .inl ⟨rfl,h⟩
 .refine .inr ⟨i,o,f,c,cells,by grind,h2,λk x hk=>?_⟩;rw[dZ]at hk;cases hp:aD[k]? with
  |none=>rw[hp]at hk;cases hk
  |some p=>
   rw[hp]at hk;cases hk;exact⟨p.2,h3 k p hp⟩
def ZB{E:Enc α}{xs:ae α}(h:(aj E v xs).p w):∃aD:ae (α×E.Y),aD.map (·.1)=xs/\(sP E v aD).p w:=by
 rcases h with⟨rfl,h⟩|⟨i,o,f,c,cells,h1,h2,h3⟩
 .exact⟨[],rfl,.inl ⟨rfl,h⟩⟩
 .obtain⟨l,hl,hp⟩:=Te (p:=λk (p:α×E.Y)=>xs[k]? =some p.1/\(∀(j:Nat) u,(E.pat p.1 p.2)[j]? =some u->cells[o+k*E.n+j]? =some u)/\∀f∈E.fs p.1 p.2,f.p w) xs.length (λk hk=>by
   obtain⟨y,q1,q2⟩:=h3 k xs[k] (by grind);exact⟨(xs[k],y),(by grind),q1,q2⟩)
  have hm:l.map (·.1)=xs:=by
   apply jr
   grind
  exact⟨l,hm,.inr (by grind)⟩
def ar{α:Type}(E:Enc α)(v:ah)(aD:ae (α×E.Y)):OA:=
 ⟨λw S=>(aD=[]/\(∃a,v=.slice a 0 0/\SV E.n a)/\S=[])\/∃b f,v=.slice (some ⟨b,0,some f⟩) aD.length aD.length/\(f=0\/f=E.n)/\S=[b]/\w.h.get b=some (.cells (dx E aD)),
  (by grind)⟩
def akP{E:Enc α}{aD:ae (α×E.Y)}(w w':Wd)(S:ae Nat)(hp:(ar E v aD).p w S)(hle:w.Le w')(hh:w'.h=w.h)(hz:∀i∈S,w'.z i)(ha:(wP E aD).p w):(sP E v aD).p w':=by
 rcases hp with⟨h1,⟨a,h2,h3⟩,_⟩|⟨b,f,h1,h2,h3,h4⟩
 .exact .inl ⟨h1,a,0,h2,h3⟩
 .refine .inr ⟨b,0,f,_,_,⟨h1,bI _,h2⟩,⟨hz b (by rw[h3];exact bS.2 rfl),.inl (by rw[hh];exact h4)⟩,λk p hk=>⟨λj u hj=>?_,λf hf=>f.mono hle (ha p (aU hk) f hf)⟩⟩;rw[gI];exact zu hk hj
section
variable {B:ae Nat} {w0:Wd} {kl kl' bM:ae OA} {F:ae aM} {K:KO} {ds:ae Tmp} {rest:ae bW} {n:Nat} {l:qr} {D:ae Deferred} {pm:ak FrameMode} {ro:ak Nat} {d:Nat} {g:ak (Tmp×Bool)}
variable {α:Type} {E:Enc α} {v:ah}
variable{Q:IH->Prop}
def Gx{xs:ae α}(E:Enc α)(v:ah)(h:∀aD:ae (α×E.Y),aD.map (·.1)=xs->R Q B w0 kl (sP E v aD::F))(hf:aj E v xs∈F:=by exact ic):R Q B w0 kl F:=λw s=>by
 obtain⟨aD,h1,h2⟩:=ZB (s.facts _ hf);exact h aD h1 w ⟨s.agree,s.le,s.fZ,s.own,λf hf=>by
  rcases dB.1 hf with rfl|hf
  .exact h2
  .exact s.facts f hf⟩
variable{aD:ae (α×E.Y)}
def Om(h:R Q B w0 kl (wP E aD::F))(hf:sP E v aD∈F:=by exact ic):R Q B w0 kl F:=λw s=>
 h w ⟨s.agree,s.le,s.fZ,s.own,λf hf'=>by
  rcases dB.1 hf' with rfl|hf'
  .exact akN (s.facts _ hf)
  .exact s.facts f hf'⟩
def Oo(h:R Q B w0 kl' (sP E v aD::aj E v (aD.map (·.1))::F))(ha:∀w,(∀f∈F,f.p w)->(wP E aD).p w)(hk:aB (ar E v aD) kl kl':=by exact dV):R Q B w0 kl F:=λw s=>by
 have hall:=ha w s.facts;obtain⟨S,⟨S1,S2,q1,q2,e⟩,h2,h3⟩:=(s.gz hk).own;subst e;let w':Wd:=⟨w.h,λi=>w.z i\/i∈S1,λi hi=>hi.elim (w.l8 i) (by grind)⟩
 have hle:w.Le w':=⟨bI _,λi hi=>.inl hi,λ_ _=>rfl⟩
 have hnd:=jV.1 h2;have hel:=akP w w' S1 q1 hle rfl (λi hi=>.inr hi) hall;refine h w' ⟨s.agree,s.le.trans hle,λi hi hz=>?_,⟨S2,gV.loc hle (λ_ _=>rfl) q2,hnd.2.1,λi hi=>?_⟩,λf hf=>?_⟩
 .rcases hz with hz|hz
  .exact s.fZ i hi hz
  grind
 .grind
 .rcases dB.1 hf with rfl|hf
  .exact hel
  .rcases dB.1 hf with rfl|hf
   .exact akO hel
   .exact f.mono hle (s.facts f hf)
def ZC(hlen:0<aD.length)(h:∀b f,(f=0\/f=E.n)->v=.slice (some ⟨b,0,some f⟩) aD.length aD.length->R Q B w0 (pt b (.cells (dx E aD))::kl') F)(hk:aB (ar E v aD) kl kl':=by exact dV):R Q B w0 kl F:=λw s=>by
 have s1:=s.gz hk;obtain⟨S,⟨S1,S2,q1,q2,e⟩,h2,h3⟩:=s1.own;rcases q1 with⟨h0,_⟩|⟨b,f,h4,h5,h6,h7⟩
 .grind
 .exact h b f h5 h4 w ⟨s1.agree,s1.le,s1.fZ,⟨S,⟨S1,S2,⟨h6,h7⟩,q2,e⟩,h2,h3⟩,s1.facts⟩
def wQ{α:Type}(E:Enc α){aD:ae (α×E.Y)}{Q:IH->Prop}{b f m:Nat}(hm:m=aD.length)(hf:f=0\/f=E.n)(h:R Q B w0 (ar E (.slice (some ⟨b,0,some f⟩) m m) aD::kl') F)(hk:aB (pt b (.cells (dx E aD))) kl kl':=by exact dV):R Q B w0 kl F:=λw s=>by
 refine h w ((s.gz hk).Ch (A:=pt b (.cells (dx E aD))) λw S hp=>.inr ⟨b,f,by rw[hm],hf,hp.1,hp.2⟩)
def ZE(h:∀a,v=.slice a aD.length aD.length->R Q B w0 kl F)(hk:aB (ar E v aD) kl kl':=by exact dV):R Q B w0 kl F:=λw s=>by
 obtain⟨S,⟨S1,S2,q1,q2,e⟩,h2,h3⟩:=(s.gz hk).own;rcases q1 with⟨rfl,⟨a,h1,_⟩,_⟩|⟨b,f,h4,_⟩
 .exact h a h1 w s
 .exact h _ h4 w s
variable{x:az}{c m:Nat}{t e:aF}
def J3(hu:P.underlying t=some (.slice e))(hx:ev l x=.slice none m c):Pu P (ev l) (.bin .eql t x (.const (.slice none 0 0))) (.bool true):=λh=>by
 have he:dR P (Op.equal t (.slice none m c) (.slice none 0 0))=some true:=by
  show dR P (Op.equalIn (9999+1) t (.slice none m c) (.slice none 0 0))=_;unfold Op.equalIn;rw[fO,qC hu];rfl
 have h1:kQ P (do eqGuard .eql t x (.const (.slice none 0 0)) (.slice none m c) (.slice none 0 0);binOp .eql t (.slice none m c) (.slice none 0 0))=some (.bool true):=by
  exact oR
 have h2:ow P .eql t x (.const (.slice none 0 0)) (.slice none m c) (.slice none 0 0)=some (.bool true):=by
  by_cases hmc:m=0/\c=0
  .show cond (cB (Value.slice none m c)&&cB (Value.slice none 0 0)) (kQ P (do eqGuard .eql t x (.const (.slice none 0 0)) (.slice none m c) (.slice none 0 0);binOp .eql t (.slice none m c) (.slice none 0 0))) _=_;rw[h1];obtain⟨rfl,rfl⟩:=hmc;simp[cB]
  .have e0:cB (Value.slice none m c)=false:=by
    cases hb:cB (Value.slice none m c)with
    |false=>rfl
    |true=>exact absurd (by simpa[cB]using hb) hmc
   have e1:wz P t (.slice none m c) (.slice none 0 0)=some true:=by
    unfold wz;rw[hu]
   show cond (cB (Value.slice none m c)&&cB (Value.slice none 0 0)) _ (match wz P t (.slice none m c) (.slice none 0 0)with|some b=>some (Value.bool b)|none=>none)=_;rw[e0,e1];rfl
 simp only[aK.run,hx];show(match ow P .eql t x (.const (.slice none 0 0)) (.slice none m c) (.slice none 0 0)with|some v=>some (v,h)|none=>none)=_;rw[h2]
def Cu{a:Addr}(hu:P.underlying t=some (.slice e))(hx:ev l x=.slice (some a) m c):Pu P (ev l) (.bin .eql t x (.const (.slice none 0 0))) (.bool false):=λh=>by
 have h2:ow P .eql t x (.const (.slice none 0 0)) (.slice (some a) m c) (.slice none 0 0)=some (.bool false):=by
  have:wz P t (.slice (some a) m c) (.slice none 0 0)=some false:=by
   unfold wz;rw[hu]
  show(match wz P t (.slice (some a) m c) (.slice none 0 0)with|some b=>some (Value.bool b)|none=>none)=_;rw[this]
 simp only[aK.run,hx];show(match ow P .eql t x (.const (.slice none 0 0)) (.slice (some a) m c) (.slice none 0 0)with|some v=>some (v,h)|none=>none)=_;rw[h2]
variable{s:az}{b:Nat}
def Oq{e:aF}{size bytes:Nat}{a:ak Addr}
 (next:R (λh=>aJ P ds rest (act n ((d,.slice (some ⟨b,0,some 0⟩) 0 0)::l) D pm ro) h K) B w0 (pt b (.cells [])::kl') F)
 (hs:ev l s=.slice (some ⟨b,0,some 0⟩) 0 0:=by rfl) (hx:ev l x=.slice a 0 c:=by rfl) (hk:aB (pt b (.cells [])) kl kl':=by exact dV) (hn:Nat.blt d n=true:=by rfl) (hg:bV l g=true:=by rfl):
 R (λh=>aJ P ds (⟨⟨some d,g,.append e size bytes s x⟩,[]⟩::rest) (act n l D pm ro) h K) B w0 kl F:=λw st=>by
 have st1:=st.gz hk;refine lJ hn hg ?_ (next ⟨w.h.set b (.cells []),w.z,λi hi=>w.l8 i hi⟩ st1.write);have h0:∀m,Nat.mul 0 m=0:=λm=>Fv m;have e1:w.h.storeAt b 0 []=some (w.h.set b (.cells [])):=by
  unfold IH.storeAt;simp only[st1.get.1];rfl
 simp only[aK.run,hx,hs,qb,yZ,z8];rw[h0,h0,e1];have:(Nat.ble 0 small&&Nat.ble 0 small&&Nat.ble 0 small)=true:=rfl;rfl
def Ot{α:Type}{e:aF}{size bytes:Nat}(E:Enc α)(aD:ae (α×E.Y))(hne:0<aD.length)(hm:aD.length*bytes<=1073741824/\aD.length*size<=1073741824/\aD.length<=1073741824)
 (next:∀b',R (λh=>aJ P ds rest (act n ((d,.slice (some ⟨b',0,some size⟩) aD.length aD.length)::l) D pm ro) h K) B w0 (pt b' (.cells (dx E aD))::kl') F)
 (hs:ev l s=.slice (some ⟨b,0,some 0⟩) 0 0:=by rfl) (hx:ev l x=v:=by conv=>lhs;whnf) (hf:sP E v aD∈F:=by exact ic) (hz:E.n=size:=by rfl) (hk:aB (pt b (.cells [])) kl kl':=by exact dV) (hn:Nat.blt d n=true:=by rfl) (hg:bV l g=true:=by rfl):
 R (λh=>aJ P ds (⟨⟨some d,g,.append e size bytes s x⟩,[]⟩::rest) (act n l D pm ro) h K) B w0 kl F:=λw st=>by
 subst hz;have st1:=st.gz hk;have hat:At w.h b (.cells []):=st.at_ hk;obtain⟨k,hk'⟩:∃k,aD.length=k+1:=⟨aD.length - 1,tf⟩
 rcases st.facts _ hf with⟨rfl,_⟩|⟨i,o,f,c,cells,⟨e1,hc⟩,q2,q3⟩
 .simp at hne
 have hfl:=Ct aD;have hcells:∀j,j<aD.length*E.n->cells[o+j]? =(dx E aD)[j]?:=λj hj=>by
  exact cS
 have hlen:o+aD.length*E.n<=cells.length\/aD.length*E.n=0:=by
  exact eK
 have hread:w.h.iK i o (aD.length*E.n)=some (dx E aD):=by
  exact gR
 refine SG (b:=b) (o:=0) (m:=0) (k:=k) (f:=some 0) (old:=[]) (xs:=dx E aD) hn hg hs (by rw[hx,e1,hk'];rfl) ?_ ?_ (.inl rfl) ?_ λh' mv=>?_
 .rw[hx,e1,<- hk'];exact hread
 .rw[hat.cX.iK,Fv];rfl
 .rw[gI,<- hk'];omega
 obtain⟨w',rfl,jF,yc⟩:=st1.move mv;rw[dP]at jF;have:=next w.h.next w' jF
 rw[hk']at this;rw[gI];exact this
end
end Go.Ideal
namespace Go.Ideal
variable {P:Program}
inductive Gy(P:Program)(ty:TypeId):Value->Value->Bool->Prop
 |int {a b:Int} (h:P.underlying ty=some (.int .i64)):Gy P ty (.int .i64 a) (.int .i64 b) (decide (a=b))
 |str {a b:ByteArray} (h:P.underlying ty=some .string):Gy P ty (.string a) (.string b) (decide (a=b))
def J4:dR P program=some P:=rfl
def J5{α:Type}{c:Prop}[Decidable c]{a b:Sem α}:dR P (if c then a else b)=if c then dR P a else dR P b:=by split<;>rfl
variable{r:Bool}{ty:aF}{a b:ah}
def ZF(c:Gy P ty a b r)(d:Nat):dR P (Op.equalIn (d+1) ty a b)=some r:=by
 cases c with
 |int h=>
  unfold Op.equalIn;rw[fO,qC h];rfl
 |str h=>
  unfold Op.equalIn;rw[fO,qC h];show some (_==_)=_;rw[bytes_beq]
def Ou{v:ah}(c:Gy P ty a b r){xs:Array ah}{o:Nat}(hx:xs[o]? =some v):dR P (part ty xs o)=some v:=by
 have hu:∃d,P.underlying ty=some d/\(∀fs,d≠.struct fs)/\∀n e,d≠.array n e:=by
  cases c with
  |int h=>grind
  |str h=>grind
 obtain⟨d,h1,h2,h3⟩:=hu;have hag:dR P (isAgg ty)=some false:=by
  unfold isAgg;rw[fO,qC h1];cases d with
  |struct fs=>grind
  |array n e=>grind
  |_=>rfl
 unfold part;rw[fO,hag];rw[hx];rfl
inductive Gz(P:Program)(xs ys:List Value):List Field->Bool->Prop
 |nil:Gz P xs ys [] true
 |cons {f:Field} {fs:List Field} {a b:Value} {r r':Bool} (hn:(f.name== "_")=false) (hx:xs[f.offset]? =some a) (hy:ys[f.offset]? =some b) (c:Gy P f.type a b r) (t:Gz P xs ys fs r'):Gz P xs ys (f::fs) (r&&r')
def ZG{d:Nat}{t:aF}{fs:Array Field}{xs ys:ae ah}(hu:P.underlying t=some (.struct fs))(hp:P.stoodInHeld t=false)(h:Gz P xs ys fs.toList r):dR P (Op.equalIn (d+2) t (.agg ⟨xs⟩) (.agg ⟨ys⟩))=some r:=by
 unfold Op.equalIn;rw[fO,qC hu];simp only[lm];rw[fO,J4];simp only[lm,hp,if_false];rw[<- Array.forIn_toList];generalize fs.toList=l at h;clear hu;induction h with
 |nil=>rfl
 | @cons f fs a b r r' hn hx hy c t ih=>
   have hn:f.name≠ "_" :=by simpa using hn
   rw[List.forIn_cons];simp only[fO,J5,if_pos hn,hn,ne_eq,if_true]at ih⊢;rw[Ou (xs:=⟨xs⟩) c xj,lm,Ou (xs:=⟨ys⟩) c (by simpa using hy),lm,ZF c,lm];cases r with
   |false=>rfl
   |true=>exact ih
section
variable {l:qr}
variable{t:aF}{x y:az}{op:BinOp}
def akQ{a b:Array ah}(hm:P.eqGuardType P.depth t=false):dR P (eqGuard op t x y (.agg a) (.agg b))=some ():=by
 have key:dR P (do if !(<- program).eqGuardType (<- program).depth t then return
                   if <- Op.eqGuardIn Op.maxDepth t (.agg a) (.agg b)then unsupported (.noEntry "binop\x2feql: two nil values of an interface type with methods, in a part of a struct or an array"))=some ():=by
  rw[fO,J4];simp only[lm];rw[fO,J4];simp only[lm,hm,if_true];rfl
 cases op<;>first|exact key|rfl
def ZH{a b:ae ah}{v:ah}(ha:gJ a=true)(hb:gJ b=true)(hm:P.eqGuardType P.depth t=false)(hv:dR P (binOp op t (.agg ⟨a⟩) (.agg ⟨b⟩))=some v)(hf:cB v=true):ow P op t x y (.agg ⟨a⟩) (.agg ⟨b⟩)=some v:=by
 have h1:kQ P (do eqGuard op t x y (.agg ⟨a⟩) (.agg ⟨b⟩);binOp op t (.agg ⟨a⟩) (.agg ⟨b⟩))=some v:=by
  unfold kQ;rw[fO,akQ hm]
  grind
 show cond (cB (.agg ⟨a⟩)&&cB (.agg ⟨b⟩)) (kQ P (do eqGuard op t x y (.agg ⟨a⟩) (.agg ⟨b⟩);binOp op t (.agg ⟨a⟩) (.agg ⟨b⟩))) _=_;rw[h1];simp[cB,ha,hb]
def GA{fs:Array Field}{xs ys:ae ah}{r:Bool}(hx:ev l x=.agg ⟨xs⟩)(hy:ev l y=.agg ⟨ys⟩)(hu:P.underlying t=some (.struct fs))(hp:P.stoodInHeld t=false)(hm:P.eqGuardType P.depth t=false)(h:Gz P xs ys fs.toList r)(ha:gJ xs=true)(hb:gJ ys=true):
 Pu P (ev l) (.bin .neq t x y) (.bool (!r)):=λh0=>by
 simp only[aK.run,hx,hy];rw[ZH ha hb hm (by
  show dR P (do pure (Value.bool (!(<- Op.equal t (.agg ⟨xs⟩) (.agg ⟨ys⟩)))))=_;rw[fO,show dR P (Op.equal t (.agg ⟨xs⟩) (.agg ⟨ys⟩))=some r from ZG hu hp h];rfl) rfl]
variable{e:aF}{n:Nat}{xs ys:ae Int}
def ZI{d:Nat}(hu:P.underlying t=some (.array n e))(he:P.underlying e=some (.int .i64))(hs:P.info? e|>.map (·.size)|>(·=some 1))(hx:xs.length=n)(hy:ys.length=n):
 dR P (Op.equalIn (d+2) t (.agg ⟨xs.map (.int .i64)⟩) (.agg ⟨ys.map (.int .i64)⟩))=some (decide (xs=ys)):=by
 have hsz:dR P (sizeOf e)=some 1:=by
  exact hJ
 unfold Op.equalIn;rw[fO,qC hu];simp only[lm];rw[fO,hsz];simp only[lm,pY];rw[Std.Legacy.Range.forIn_eq_forIn_range'];simp only[Std.Legacy.Range.size,Fu,Nat.add_sub_cancel,Nat.div_one];have key:∀(m i:Nat),i+m=n->dR P (do
  let J6 <- forIn (List.range' i m 1) ((none,()):ak Bool×Unit) λi J6=>
   (do let a <- part e ⟨xs.map (.int .i64)⟩ i
       let b <- part e ⟨ys.map (.int .i64)⟩ i
       let r <- Op.equalIn (d+1) e a b
       if(!r)=true then pure (ForInStep.done (some false,()))else pure (ForInStep.yield (none,())))
  match J6.fst with
  |some r=>pure r
  |none=>pure true)=some (decide (xs.drop i=ys.drop i)):=by
  intro m;induction m with
  |zero=>
   intro i hi;rw[Dt tf,Dt tf];rfl
  |succ m ih=>
   intro i hi;have hix:i<xs.length:=tf
   have J7:i<ys.length:=tf
   have c:Gy P e (.int .i64 xs[i]) (.int .i64 ys[i]) (decide (xs[i]=ys[i])):=.int he;rw[List.range'_succ,List.forIn_cons];simp only[fO,J5];rw[Ou (xs:=⟨xs.map (.int .i64)⟩) (o:=i) (v:=.int .i64 xs[i]) c (by simp[hix]),lm,Ou (xs:=⟨ys.map (.int .i64)⟩) (o:=i) (v:=.int .i64 ys[i]) c (by simp[J7]),lm,ZF c,lm];rw[qp hix,qp J7];have ih:=ih (i+1) tf;simp only[fO,J5]at ih;by_cases hxy:xs[i]=ys[i]
   .rw[dQ hxy];simp only[Bool.not_true,Dn,if_false];show(dR P _).bind _=_;rw[show decide (xs[i]::xs.drop (i+1)=ys[i]::ys.drop (i+1))=decide (xs.drop (i+1)=ys.drop (i+1))from(by grind)];exact ih
   .rw[aW hxy];simp only[Bool.not_false,if_true];rw[show decide (xs[i]::xs.drop (i+1)=ys[i]::ys.drop (i+1))=false from(by grind)];rfl
 have:=key n 0 tf;rw[wh,wh]at this;refine Eq.trans ?_ this;simp only[fO]
 grind
def akR(hx:ev l x=.agg ⟨xs.map (.int .i64)⟩)(hy:ev l y=.agg ⟨ys.map (.int .i64)⟩)(hu:P.underlying t=some (.array n e))(he:P.underlying e=some (.int .i64))(hs:P.info? e|>.map (·.size)|>(·=some 1))(hxl:xs.length=n)(hyl:ys.length=n)(hm:P.eqGuardType P.depth t=false):
 Pu P (ev l) (.bin .eql t x y) (.bool (decide (xs=ys))):=λh0=>by
 have hfr:∀zs:ae Int,gJ (zs.map (Value.int .i64))=true:=by
  intro zs;induction zs with
  |nil=>rfl
  |cons z zs ih=>simp[gJ,cB,Ideal.cellV,ih]
 simp only[aK.run,hx,hy];rw[ZH (hfr xs) (hfr ys) hm (by
  show dR P (do pure (Value.bool (<- Op.equal t (.agg ⟨xs.map (.int .i64)⟩) (.agg ⟨ys.map (.int .i64)⟩))))=_;rw[fO,show dR P (Op.equal t (.agg ⟨xs.map (.int .i64)⟩) (.agg ⟨ys.map (.int .i64)⟩))=some (decide (xs=ys))from ZI hu he hs hxl hyl];rfl) rfl]
def GD(P:Program):ae Field->Nat->ae Bool->Bool
 |[],_,[]=>true
 |f::fs,i,k::ks=>!(f.name== "_")&&f.offset==i&&(match P.underlying f.type with
  |some (.int .i64)=>k
  |some .string=>!k
  |_=>false)&&GD P fs (i+1) ks
 |_,_,_=>false
def cellsE:ae ah->ae ah->Bool
 | .int .i64 a::xs,.int .i64 b::ys=>decide (a=b)&&cellsE xs ys
 | .string a::xs,.string b::ys=>decide (a=b)&&cellsE xs ys
 |_,_=>true
def Ov:ae Bool->ae ah->Bool
 |[],[]=>true
 |true::ks,.int .i64 _::vs=>Ov ks vs
 |false::ks,.string _::vs=>Ov ks vs
 |_,_=>false
def row_of{xs ys:ae ah}:∀{fs:ae Field} {i:Nat} {ks:ae Bool} {xs' ys':ae ah},GD P fs i ks=true->Ov ks xs'=true->Ov ks ys'=true->(∀j,xs[i+j]? =xs'[j]?)->(∀j,ys[i+j]? =ys'[j]?)->Gz P xs ys fs (cellsE xs' ys')
 |[],i,[],[],[],_,_,_,_,_=>.nil
 |f::fs,i,k::ks,[],ys',h,hx,hy,ex,ey=>by cases k<;>cases hx
 |f::fs,i,k::ks,x::xs',[],h,hx,hy,ex,ey=>by cases k<;>cases hy
 |f::fs,i,k::ks,x::xs',y::ys',h,hx,hy,ex,ey=>by
  simp only[GD,eU]at h;obtain⟨⟨⟨h1,h2⟩,h3⟩,h4⟩:=h;have e1:xs[f.offset]? =some x:=by have:=ex 0;grind
  have e2:ys[f.offset]? =some y:=by have:=ey 0;grind
  have ZJ:∀j,xs[i+1+j]? =xs'[j]?:=λj=>by have:=ex (j+1);grind
  have ZK:∀j,ys[i+1+j]? =ys'[j]?:=λj=>by have:=ey (j+1);grind
  cases k with
  |true=>
   match x,hx,y,hy with
   | .int .i64 a,hx,.int .i64 b,hy=>
     have hu:P.underlying f.type=some (.int .i64):=by
      grind
     exact .cons tU e1 e2 (.int hu) (row_of h4 hx hy ZJ ZK)
  |false=>
   match x,hx,y,hy with
   | .string a,hx,.string b,hy=>
     have hu:P.underlying f.type=some .string:=by
      grind
     exact .cons tU e1 e2 (.str hu) (row_of h4 hx hy ZJ ZK)
end
end Go.Ideal
namespace Go.Ideal
variable {P:Program}
variable{ρ:az->ah}{x:az}
def zw{src dst:aF}{kk k:IntKind}{n m:Int}{ds:TypeDesc}(hs:P.underlying src=some ds)(hd:P.underlying dst=some (.int k))(hx:ρ x=.int kk n)(hw:k.wrap n=m):Pu P ρ (.conv src dst x) (.int k m):=λh=>by
 have h1:dR P (convert src dst (.int kk n))=some (.int k m):=by
  unfold convert;rw[fO,qC hs];simp only[lm];rw[fO,qC hd];rw[<- hw];rfl
 simp only[aK.run,hx,kQ,h1];rfl
variable{a:Nat}
def Ty(h:a<18446744073709551616):IntKind.u64.wrap (a:Int)=a:=by
 show(let m:=a%(2^64:Int);if false&&m>=(2^63)then m - (2^64)else m)=_
 grind
def ZL{y:az}{t:aF}{b:Nat}(hx:ρ x=.int .u64 (a:Int))(hy:ρ y=.int .u64 (b:Int))(hb:b<64):Pu P ρ (.bin .shr t x y) (.int .u64 ((a>>>b:Nat):Int)):=λh=>by
 have hv:dR P (binOp .shr t (.int .u64 a) (.int .u64 b))=some (.int .u64 ((a>>>b:Nat))):=by
  show dR P (Op.shift .shr .u64 a .u64 b)=_;show some (Value.int .u64 ((a:Int).fdiv (2^(min (b:Int).toNat 64))))=_;rw[QX]
  grind
 have h1:kQ P (do eqGuard .shr t x y (.int .u64 a) (.int .u64 b);binOp .shr t (.int .u64 a) (.int .u64 b))=some (.int .u64 ((a>>>b:Nat))):=by
  unfold kQ;rw[fO];simp only[hv];rfl
 have h2:ow P .shr t x y (.int .u64 a) (.int .u64 b)=some (.int .u64 ((a>>>b:Nat))):=by
  exact h1
 simp only[aK.run,hx,hy,h2]
def Tz{α:Type}[DecidableEq α]{bF:α->ah}{kt:aF}{d:TypeDesc}(hu:P.underlying kt=some d)(hn:∀a b,Instr.sameNow d (bF a) (bF b)=none)(he:∀a b,dR P (Op.equal kt (bF a) (bF b))=some (decide (a=b)))(a:α)(aA:ae (α×ah))(es:ae MapEntry)(h:sO bF aA es):wy P kt (bF a) es=some (sN a aA 0):=by
 have awl:∀(aA:ae (α×ah)) (es:ae MapEntry) (i:Nat),sO bF aA es->dR P (Instr.findAsking kt (bF a) es i)=some (sN a aA i):=by
  intro aA;induction aA with
  |nil=>
   intro es i h;exact px
  |cons p aA ih=>
   intro es i h;obtain⟨e,es',rfl,h1,h2,h3⟩:=Tn h;unfold Instr.findAsking;rw[fO,h1,he];unfold sN;by_cases hab:a=p.1
   .rw[dQ hab,if_pos hab,h2];rfl
   grind
 unfold wy Instr.findKey;rw[fO,qC hu];cases aA with
 |nil=>
  exact px
 |cons p aA=>
  obtain⟨e,es',rfl,h1,h2,h3⟩:=Tn h;have:Instr.findNow d (bF a) (e::es') 0=none:=by
   show(match Instr.sameNow d (bF a) e.key with
   |some true=>some (some (0,e.val))
   |some false=>Instr.findNow d (bF a) es' 1
   |none=>none)=_
   rw[h1,hn]
  grind
abbrev jg:Int×Int->ah:=λp=>.agg ⟨[.int .i64 p.1,.int .i64 p.2]⟩
def akS{kt e:aF}(hu:P.underlying kt=some (.array 2 e))(he:P.underlying e=some (.int .i64))(hs:P.info? e|>.map (·.size)|>(·=some 1))(hc:∀a b:Int,tZ P kt (.agg ⟨[.int .i64 a,.int .i64 b]⟩)=true):rM P kt jg where
 Em a:=hc a.1 a.2
 find a aA es h:=Tz hu (λa b=>rfl) (λa b=>by
  have:=ZI (d:=9998) (xs:=[a.1,a.2]) (ys:=[b.1,b.2]) hu he hs rfl rfl;rw[show decide (a=b)=decide ([a.1,a.2]=[b.1,b.2])from(by grind)];exact this) a aA es h
 same a:=by
  show((⟨[Value.int .i64 a.1,.int .i64 a.2]⟩:Array ah).size==(⟨[Value.int .i64 a.1,.int .i64 a.2]⟩:Array ah).size&&(List.zip [Value.int .i64 a.1,.int .i64 a.2] [Value.int .i64 a.1,.int .i64 a.2]).all λ(x,y)=>Instr.sameBits 9999 x y)=true;simp[Instr.sameBits]
end Go.Ideal
namespace Go.Ideal
section
variable {P:Program}
variable {ds:ae Tmp} {rest:ae bW} {n:Nat} {l:qr} {D:ae Deferred} {pm:ak FrameMode} {ro:ak Nat} {h:IH} {K:KO} {d:Nat} {g:ak (Tmp×Bool)}
variable{re:ae iY}
def TA{op:aK}{v:ah}{h':IH}(hn:Nat.blt d n=true)(hg:bV l g=true)(hr:op.run P (ev l) h=some (v,h'))
 (hsm:∀q∈re,∃u h2,q.op.run P (ev ((d,v)::l)) h'=some (u,h2)/\∀d',q.dst=some d'->lk ((d,v)::l) d'=u)
 (next:aJ P ds rest (act n ((d,v)::l) D pm ro) h' K):aJ P ds (⟨⟨some d,g,op⟩,re⟩::rest) (act n l D pm ro) h K:=
 .nC (zi hg) v h' wq (λq hq _=>by
  obtain⟨u,h2,e1,e2⟩:=hsm q hq;exact ia) xT
variable{e:aF}{size bytes k:Nat}{s x:az}{xs:ae ah}
def ZM{b o m:Nat}{f:ak Nat}{old:ae ah}(hn:Nat.blt d n=true)(hg:bV l g=true)
 (hs:ev l s=.slice (some ⟨b,o,f⟩) m m) (hx:qb (ev l x)=some (k+1)) (hxs:oV size (k+1) (ev l x) h=some xs) (hold:h.iK b o (m*size)=some old)
 (hf:f=some 0\/f=some size) (hm:(m+(k+1))*bytes<=1073741824/\(m+(k+1))*size<=1073741824/\m+(k+1)<=1073741824)
 (hsm:∀h',Cb h h' b (.cells (old++xs))->∀q∈re,∃u h2,q.op.run P (ev ((d,.slice (some ⟨h.next,0,some size⟩) (m+(k+1)) (m+(k+1)))::l)) h'=some (u,h2)/\∀d',q.dst=some d'->lk ((d,.slice (some ⟨h.next,0,some size⟩) (m+(k+1)) (m+(k+1)))::l) d'=u)
 (next:∀h',Cb h h' b (.cells (old++xs))->aJ P ds rest (act n ((d,.slice (some ⟨h.next,0,some size⟩) (m+(k+1)) (m+(k+1)))::l) D pm ro) h' K):
 aJ P ds (⟨⟨some d,g,.append e size bytes s x⟩,re⟩::rest) (act n l D pm ro) h K:=by
 have hle:∀{a b:Nat},a<=b->Nat.ble a b=true:=λh=>by rw[tN];exact h
 have hlt:Nat.ble (m+(k+1)) m=false:=by
  exact pN
 have hc:(Nat.ble (Nat.mul (m+(k+1)) bytes) small&&Nat.ble (Nat.mul (m+(k+1)) size) small&&Nat.ble (m+(k+1)) small)=true:=by
  exact iz
 have hrun:∃h',(aK.append e size bytes s x).run P (ev l) h=some (.slice (some ⟨h.next,0,some size⟩) (m+(k+1)) (m+(k+1)),h')/\Cb h h' b (.cells (old++xs)):=by
  exact cD
 obtain⟨h',hr,hM⟩:=hrun;exact TA hn hg hr (hsm h' hM) (next h' hM)
def akT{c:Nat}(hn:Nat.blt d n=true)(hg:bV l g=true)
 (hs:ev l s=.slice none 0 0) (hx:qb (ev l x)=some (k+1)) (hxs:oV size (k+1) (ev l x) h=some xs)
 (hm:(k+1)*bytes<=1073741824/\(k+1)*size<=1073741824/\(k+1)<=1073741824)
 (hsm:∀h',Agree h h'->At h' h.next (.cells xs)->h'.next=h.next+1->∀q∈re,∃u h2,q.op.run P (ev ((d,.slice (some ⟨h.next,0,some size⟩) (k+1) (k+1))::l)) h'=some (u,h2)/\∀d',q.dst=some d'->lk ((d,.slice (some ⟨h.next,0,some size⟩) (k+1) (k+1))::l) d'=u)
 (next:∀h',Agree h h'->At h' h.next (.cells xs)->h'.next=h.next+1->aJ P ds rest (act n ((d,.slice (some ⟨h.next,0,some size⟩) (k+1) (k+1))::l) D pm ro) h' K):
 aJ P ds (⟨⟨some d,g,.append e size bytes s x⟩,re⟩::rest) (act n l D pm ro) h K:=by
 have hle:∀{a b:Nat},a<=b->Nat.ble a b=true:=λh=>by rw[tN];exact h
 have e0:Nat.add 0 (k+1)=k+1:=gI _;refine TA hn hg ?_ (hsm _ (SB _ _) (SC _ _) rfl) (next _ (SB _ _) (SC _ _) rfl);have DZ:yZ size (k+1) (ev l x) h=some xs:=hxs;simp only[aK.run,hx,DZ,hs,z8,e0];rw[hle (show Nat.mul (k+1) bytes<=small from hm.1),hle (show Nat.mul (k+1) size<=small from hm.2.1),hle (show k+1<=small from hm.2.2)];have e1:oV size 0 (.slice none 0 0) h=some []:=by
  rfl
 have e2:Nat.ble (k+1) 0=false:=rfl;simp only[Bool.and_self,cond_true,e2,cond_false,e1,jO,dP]
end
section
variable {P:Program}
variable {ρ:az->ah}
variable {B:ae Nat} {w0:Wd} {kl kl':ae OA} {F:ae aM} {a:bB} {K:KO}
variable {y:dH} {i j m0:Nat} {I:Nat->bB->IH->Prop} {ch:ae PanicEntry}
variable {B:ae Nat} {w0:Wd} {kl kl':ae OA} {F:ae aM} {K:KO} {ds:ae Tmp} {rest:ae bW} {n:Nat} {l:qr} {D:ae Deferred} {pm:ak FrameMode} {ro:ak Nat} {d:Nat} {g:ak (Tmp×Bool)}
def akU{re:ae iY}{α:Type}{E:Enc α}{e:aF}{size bytes b':Nat}{s x:az}{v:ah}{xs:ae α}{a:α}{y:E.Y}{cs:ae ah}{k1 k2:ae OA}(hn:Nat.blt d n=true)(hg:bV l g=true)
 (hs:ev l s=v) (hx:ev l x=.slice (some ⟨b',0,some 0⟩) 1 1) (hk:aB (ap E v xs) kl k1) (hc:aB (pt b' (.cells cs)) k1 k2) (hp:cs=E.pat a y) (hF:Sub (E.fs a y) F) (hz:E.n=size)
 (hm:(xs.length+1)*bytes<=1073741824/\(xs.length+1)*size<=1073741824/\xs.length+1<=1073741824)
 (hsm:∀ad,Same P re (ev ((d,.slice ad (xs.length+1) (xs.length+1))::l)) ((d,.slice ad (xs.length+1) (xs.length+1))::l) B w0 (ap E (.slice ad (xs.length+1) (xs.length+1)) (xs++[a])::k2) F)
 (r:∀ad,R (λh=>aJ P ds rest (act n ((d,.slice ad (xs.length+1) (xs.length+1))::l) D pm ro) h K) B w0 (ap E (.slice ad (xs.length+1) (xs.length+1)) (xs++[a])::k2) F):
 R (λh=>aJ P ds (⟨⟨some d,g,.append e size bytes s x⟩,re⟩::rest) (act n l D pm ro) h K) B w0 kl F:=by
 intro w st;subst hp hz;have hlen:=E.len a y;have st2:St B w0 (ap E v xs::pt b' (.cells (E.pat a y))::k2) F w:=st.lK (.cons hk (.cons hc .nil));have hat:At w.h b' (.cells (E.pat a y)):=st2.at_ (.there .here);have pq:St B w0 (ap E v xs::k2) F w:=(st2.gz (.there .here)).tail;have hfs:∀f∈E.fs a y,f.p w:=λf hf=>st.facts f (hF.mem f hf);have hread:w.h.iK b' 0 (1*E.n)=some (E.pat a y):=by
  exact mS
 have hx1:qb (ev l x)=some (0+1):=by rw[hx];rfl
 have hx2:oV E.n (0+1) (ev l x) w.h=some (E.pat a y):=AH
 have put:∀(w':Wd) (c:Nat) (f:Nat) (cells:ae ah),cells.length=xs.length*E.n->(∀(k:Nat) z,xs[k]? =some z->∃y,(∀(j:Nat) u,(E.pat z y)[j]? =some u->cells[k*E.n+j]? =some u)/\∀f∈E.fs z y,f.p w')->(∀f∈E.fs a y,f.p w')->
  (f=0\/f=E.n)->∀S,(pt c (.cells (cells++E.pat a y))).p w' S->(ap E (.slice (some ⟨c,0,some f⟩) (xs.length+1) (xs.length+1)) (xs++[a])).p w' S:=by
  intro w' c f cells h1 h2 h3 h4 S hp;refine .inr ⟨c,0,f,_,by grind,h4,hp.1,hp.2,by grind,λk z hk=>?_⟩;by_cases hlt:k<xs.length
  .exact ij
  .exact eR
 obtain⟨S,⟨S1,S2,q,q2,e1⟩,hnd,hown⟩:=pq.own;rcases q with⟨rfl,rfl,rfl⟩|⟨b,o,f,cells,rfl,hf,rfl,hb,hcl,hel⟩
 .have key:∀h',Agree w.h h'->At h' w.h.next (.cells (E.pat a y))->h'.next=w.h.next+1->∃w':Wd,w'.h=h'/\St B w0 (ap E (.slice (some ⟨w.h.next,0,some E.n⟩) (([]:ae α).length+1) (([]:ae α).length+1)) ([]++[a])::k2) F w':=λh' ag vz hnx=>by
   obtain⟨w',rfl,jF⟩:=pq.tail.fresh ag vz hnx;refine⟨w',rfl,?_⟩;have hle:∀f∈E.fs a y,f.p w':=λf hf=>jF.facts f (hF.mem f hf);exact jF.zl λS hp=>put w' _ E.n [] tg (by grind) hle (.inr rfl) S hp
  refine akT (c:=0) hn hg hs hx1 hx2 (by simpa using hm) (λh' ag vz hnx=>?_) λh' ag vz hnx=>?_
  .obtain⟨w',rfl,jF⟩:=key h' ag vz hnx;exact hsm _ w' jF
  .obtain⟨w',rfl,jF⟩:=key h' ag vz hnx;exact r _ w' jF
 .have zn:St B w0 (pt b (.cells cells)::k2) F w:=⟨pq.agree,pq.le,pq.fZ,⟨S,⟨_,S2,⟨rfl,hb⟩,q2,e1⟩,hnd,hown⟩,pq.facts⟩
  have JK:At w.h b (.cells cells):=zn.at_ .here;have key:∀h',Cb w.h h' b (.cells (cells.drop o++E.pat a y))->∃w':Wd,w'.h=h'/\St B w0 (ap E (.slice (some ⟨w.h.next,0,some E.n⟩) (xs.length+1) (xs.length+1)) (xs++[a])::k2) F w':=λh' mv=>by
   obtain⟨w',rfl,jF,yc⟩:=zn.move mv;refine⟨w',rfl,jF.zl λS hp=>?_⟩;have hle:∀f∈E.fs a y,f.p w':=λf hf=>jF.facts f (hF.mem f hf);refine put w' _ E.n (cells.drop o) (by grind) (λk z hk=>?_) hle (.inr rfl) S hp;obtain⟨y',u1,u2⟩:=hel k z hk;exact⟨y',(by grind),λf hf=>f.mono yc (u2 f hf)⟩
  refine ZM (old:=cells.drop o) (xs:=E.pat a y) hn hg hs hx1 hx2 ?_ (by grind) hm (λh' mv=>?_) λh' mv=>?_
  .have hdl:(cells.drop o).length=xs.length*E.n:=by grind
   rw[JK.cX.iK,o8,o9,if_pos tf,<- hdl,bP]
  .obtain⟨w',rfl,jF⟩:=key h' mv;exact hsm _ w' jF
  .obtain⟨w',rfl,jF⟩:=key h' mv;exact r _ w' jF
end
section
variable {P:Program} {B:ae Nat} {w0:Wd} {kl kl' bM:ae OA} {F:ae aM} {K:KO} {n:Nat} {l:qr} {D:ae Deferred} {pm:ak FrameMode} {ro:ak Nat}
def ZN{re:ae iY}{α:Type}(E:Enc α){ds:ae Tmp}{rest:ae bW}{d:Nat}{g:ak (Tmp×Bool)}{e:aF}{size bytes b':Nat}{s x:az}{v:ah}{xs:ae α}(a:α)(y:E.Y){cs:ae ah}{k1 k2:ae OA}
 (hm:(xs.length+1)*bytes<=1073741824/\(xs.length+1)*size<=1073741824/\xs.length+1<=1073741824)
 (next:∀ad,R (λh=>aJ P ds rest (act n ((d,.slice ad (xs.length+1) (xs.length+1))::l) D pm ro) h K) B w0 (ap E (.slice ad (xs.length+1) (xs.length+1)) (xs++[a])::k2) F)
 (hn:Nat.blt d n=true:=by rfl) (hg:bV l g=true:=by rfl)
 (hs:ev l s=v:=by conv=>lhs;whnf) (hx:ev l x=.slice (some ⟨b',0,some 0⟩) 1 1:=by rfl) (hk:aB (ap E v xs) kl k1:=by exact dV) (hc:aB (pt b' (.cells cs)) k1 k2:=by exact dV) (hp:cs=E.pat a y:=by rfl) (hF:Sub (E.fs a y) F:=by exact mK) (hz:E.n=size:=by rfl)
 (hsm:∀ad,Same P re (ev ((d,.slice ad (xs.length+1) (xs.length+1))::l)) ((d,.slice ad (xs.length+1) (xs.length+1))::l) B w0 (ap E (.slice ad (xs.length+1) (xs.length+1)) (xs++[a])::k2) F:=by intro _;repeat (first|exact Eb|refine Ec rfl dV tv rfl ?_|refine Gh rfl ic tv rfl ?_|refine Gi rfl ic tv rfl ?_|refine Gj rfl dV tv rfl ?_|refine Gl rfl ic tv rfl ?_|refine Gm rfl ic tv rfl ?_|refine Tc AI rfl ?_)):
 R (λh=>aJ P ds (⟨⟨some d,g,.append e size bytes s x⟩,re⟩::rest) (act n l D pm ro) h K) B w0 kl F:=
 akU hn hg hs hx hk hc hp hF hz hm hsm next
end
variable {P:Program}
section
variable {α κ:Type} [DecidableEq κ] {bF:κ->ah} {E:Enc α}
def AB(E:Enc α):ae (κ×ah)->ae (κ×ae α)->ae OA
 |p::aA,q::m=>ap E p.2 q.2::AB E aA m
 |_,_=>[]
def AC(E:Enc α)(n:κ):ae (κ×ah)->ae (κ×ae α)->ae OA
 |p::aA,q::m=>if n=p.1 then AB E aA m else ap E p.2 q.2::AC E n aA m
 |_,_=>[]
def J8(bF:κ->ah)(E:Enc α)(b:Nat)(m:ae (κ×ae α)):OA:=
 ⟨λw S=>∃aA:ae (κ×ah),aA.map (·.1)=m.map (·.1)/\gV w (gW bF b aA::AB E aA m) S,λa h ⟨aA,h1,h2⟩=>⟨aA,h1,gV.loc a h h2⟩⟩
def ZO(E:Enc α)(n:κ)(aA:ae (κ×ah))(m:ae (κ×ae α)):OA:=⟨λw S=>gV w (AC E n aA m) S,λa h hp=>gV.loc a h hp⟩
def ZP(E:Enc α)(aA:ae (κ×ah))(m:ae (κ×ae α)):OA:=⟨λw S=>gV w (AB E aA m) S,λa h hp=>gV.loc a h hp⟩
def ZQ(E:Enc α)(aA:ae (κ×ah))(m:ae (κ×ae α)):aM:=
 ⟨λw=>∀n v xs,dG n aA=some v->dG n m=some xs->(aj E v xs).p w,λa h n v xs h1 h2=>(aj E v xs).mono a (h n v xs h1 h2)⟩
def TB{β γ:Type}{n:κ}:∀{aA:ae (κ×β)} {m:ae (κ×γ)},aA.map (·.1)=m.map (·.1)->(dG n aA=none↔dG n m=none)
 |[],[],_=>⟨λ_=>rfl,λ_=>rfl⟩
 |(a,u)::aA,(b,x)::m,h=>by
  injection h with h1 h2;subst h1;unfold dG;by_cases e:n=a
  .grind
  .rw[if_neg e,if_neg e];exact TB h2
 |[],_::_,h=>by cases h
 |_::_,[],h=>by cases h
def ZR{n:κ}:∀{aA:ae (κ×ah)} {m:ae (κ×ae α)},dG n aA=none->AC E n aA m=AB E aA m
 |[],_,_=>by rfl
 |_::_,[],_=>by rfl
 |(a,u)::aA,(b,x)::m,h=>by
  unfold dG at h;by_cases e:n=a
  .grind
  .rw[if_neg e]at h;unfold AC AB;rw[if_neg e,ZR h]
def TC{n:κ}{v:ah}{xs:ae α}:∀{aA:ae (κ×ah)} {m:ae (κ×ae α)},aA.map (·.1)=m.map (·.1)->dG n aA=some v->dG n m=some xs->aB (ap E v xs) (AB E aA m) (AC E n aA m)
 |[],_,_,h,_=>by cases h
 |_::_,[],h,_,_=>by cases h
 |(a,u)::aA,(b,x)::m,h,h1,h2=>by
  injection h with e1 e2;subst e1;unfold dG at h1 h2;unfold AB AC;by_cases e:n=a
  .rw[if_pos e]at h1 h2⊢;cases h1;cases h2;exact .here
  .rw[if_neg e]at h1 h2⊢;exact .there (TC e2 h1 h2)
def ZT{n:κ}{v:ah}{xs:ae α}:∀{aA:ae (κ×ah)} {m:ae (κ×ae α)},aA.map (·.1)=m.map (·.1)->aB (ap E v xs) (AB E (upd n v aA) (upd n xs m)) (AC E n aA m)
 |[],[],_=>by exact .here
 |[],_::_,h=>by cases h
 |_::_,[],h=>by cases h
 |(a,u)::aA,(b,x)::m,h=>by
  injection h with e1 e2;subst e1;unfold upd AC;by_cases e:n=a
  .rw[if_pos e,if_pos e,if_pos e];exact .here
  .rw[if_neg e,if_neg e,if_neg e];exact .there (ZT e2)
def J9{β γ:Type}{n:κ}{v:β}{x:γ}:∀{aA:ae (κ×β)} {m:ae (κ×γ)},aA.map (·.1)=m.map (·.1)->(upd n v aA).map (·.1)=(upd n x m).map (·.1)
 |[],[],_=>rfl
 |[],_::_,h=>by cases h
 |_::_,[],h=>by cases h
 |(a,u)::aA,(b,y)::m,h=>by
  injection h with e1 e2;subst e1;unfold upd;by_cases e:n=a
  .grind
  .rw[if_neg e,if_neg e,kv,kv,J9 e2]
variable {B:ae Nat} {w0:Wd} {kl kl' bM k1 k2:ae OA} {F:ae aM} {Q:IH->Prop} {b:Nat} {m:ae (κ×ae α)}
def akV(E:Enc α)(h:R Q B w0 (J8 bF E b ([]:ae (κ×ae α))::kl') F)(hk:aB (gW bF b []) kl kl':=by exact dV):R Q B w0 kl F:=
 .perm (λw S hS=>by
  obtain⟨S',⟨T1,T2,u1,u2,e⟩,hp⟩:=hS.gz hk;exact⟨S',⟨T1,T2,⟨[],rfl,T1,[],u1,rfl,tg⟩,u2,e⟩,hp⟩) h
def akW(n:κ)(hk:aB (J8 bF E b m) kl kl':=by exact dV)
 (h:∀(aA:ae (κ×ah)) (v:ah),aA.map (·.1)=m.map (·.1)->jX false (.slice none 0 0) n aA=v->R Q B w0 (gW bF b aA::ap E v ((dG n m).getD [])::ZO E n aA m::kl') F):R Q B w0 kl F:=λw s=>by
 obtain⟨S,⟨S1,S2,⟨aA,hkeys,T1,T2,u1,u2,e1⟩,q2,e⟩,hnd,hall⟩:=(s.gz hk).own;have key:∃T',gV w (ap E (jX false (.slice none 0 0) n aA) ((dG n m).getD [])::AC E n aA m) T'/\T2.Perm T':=by
  cases hl:dG n aA with
  |none=>
   have hm:=(TB hkeys).1 hl;have e1:jX false (.slice none 0 0) n aA=.slice none 0 0:=by unfold jX;rw[hl];rfl
   rw[e1,hm,ZR hl];exact⟨T2,⟨[],T2,.inl ⟨rfl,rfl,rfl⟩,u2,rfl⟩,.refl _⟩
  |some v=>
   cases hm:dG n m with
   |none=>rw[(TB hkeys).2 hm]at hl;cases hl
   |some xs=>
    have e1:jX false (.slice none 0 0) n aA=v:=by unfold jX;rw[hl];rfl
    rw[e1];exact u2.gz (TC hkeys hl hm)
 obtain⟨T',⟨T3,T4,u3,u4,e3⟩,hp⟩:=key;subst e e1 e3;have hperm:((T1++T2)++S2).Perm (T1++(T3++(T4++S2))):=by
  grind
 exact h aA _ hkeys rfl w ⟨s.agree,s.le,s.fZ,⟨_,⟨T1,_,u1,⟨T3,_,u3,⟨T4,S2,u4,q2,rfl⟩,rfl⟩,rfl⟩,hperm.nodup hnd,(by grind)⟩,s.facts⟩
def akX(n:κ){aA:ae (κ×ah)}{v:ah}{xs:ae α}(hkeys:aA.map (·.1)=m.map (·.1))(h:R Q B w0 (J8 bF E b (upd n xs m)::bM) F)
 (h1:aB (gW bF b (upd n v aA)) kl k1:=by exact dV) (h2:aB (ap E v xs) k1 k2:=by exact dV) (h3:aB (ZO E n aA m) k2 bM:=by exact dV):R Q B w0 kl F:=
 .perm (λw S hS=>by
  obtain⟨S1,S2,q1,q2,hp⟩:=hS.lK (.cons h1 (.cons h2 (.cons h3 .nil)));obtain⟨T1,U1,u1,⟨T2,U2,u2,⟨T3,U3,u3,u4,e3⟩,e2⟩,e1⟩:=q1;subst u4 e3 e2 e1;obtain⟨V,v1,v2⟩:=gV.Tg (ZT hkeys) ⟨T2,T3,u2,u3,rfl⟩;refine⟨(T1++V)++S2,⟨T1++V,S2,⟨upd n v aA,J9 hkeys,⟨T1,V,u1,v1,rfl⟩⟩,q2,rfl⟩,hp.trans ?_⟩
  grind) h
def akY(h:∀aA:ae (κ×ah),aA.map (·.1)=m.map (·.1)->R Q B w0 (gW bF b aA::ZP E aA m::kl') F)(hk:aB (J8 bF E b m) kl kl':=by exact dV):R Q B w0 kl F:=λw s=>by
 obtain⟨S,⟨S1,S2,⟨aA,hkeys,T1,T2,u1,u2,e1⟩,q2,e⟩,hnd,hall⟩:=(s.gz hk).own;refine h aA hkeys w ⟨s.agree,s.le,s.fZ,⟨T1++(T2++S2),⟨T1,_,u1,⟨T2,S2,u2,q2,rfl⟩,rfl⟩,?_,λi hi=>hall i ?_⟩,s.facts⟩
 .grind
 grind
def akZ{aA:ae (κ×ah)}(hkeys:aA.map (·.1)=m.map (·.1)):qV (ZP E aA m) [ZQ E aA m]:=by
 intro w w' S hS hle hh hz f hf;rw[bS.1 hf];intro n v xs h1 h2;obtain⟨S',⟨T1,T2,u1,_,e⟩,hp⟩:=hS.gz (TC hkeys h1 h2);exact gD w w' T1 u1 hle hh (by grind) _ (by grind)
end
end Go.Ideal
namespace Go.Ideal
variable {P:Program} {B:ae Nat} {w0:Wd} {kl kl' bM:ae OA} {F:ae aM} {K:KO} {ds:ae Tmp} {rest:ae bW} {n:Nat} {l:qr} {D:ae Deferred} {pm:ak FrameMode} {ro:ak Nat} {d:Nat} {g:ak (Tmp×Bool)}
def Ow{α:Type}(E:Enc α){x i:az}{v:ah}{xss:ae (ae α)}(k:Nat)(xs:ae α){kk:IntKind}{d2:Nat}{g2:ak (Tmp×Bool)}(hz:xss[k]? =some xs)
 (next:∀b o u,R (λh=>aJ P ds rest (act n ((d2,u)::(d,.pointer (some ⟨b,o,none⟩))::l) D pm ro) h K) B w0 kl (aj E u xs::F))
 (hn:Nat.blt d n=true:=by rfl) (hg:bV l g=true:=by rfl) (hn2:Nat.blt d2 n=true:=by rfl) (hg2:∀u,bV ((d,u)::l) g2=true:=by intro _;rfl) (hx:ev l x=v:=by conv=>lhs;whnf) (hi:ev l i=.int kk (k:Int):=by rfl)
 (hk:aB (ap (ay E) v xss) kl kl':=by exact dV):
 R (λh=>aJ P ds (⟨⟨some d,g,.jv 1 x i⟩,[]⟩::⟨⟨some d2,g2,.fE (.tmp d)⟩,[]⟩::rest) (act n l D pm ro) h K) B w0 kl F:=by
 intro w s;have s1:=s.gz hk;obtain⟨S,⟨S1,S2,p,p2,e⟩,h2,h3⟩:=s1.own;have hlt:=(bJ.1 hz).1;rcases p with⟨h,_⟩|⟨b,o,f,cells,e1,hf,e2,hb,hcl,hel⟩
 .rw[h]at hz;cases hz
 .subst e1;obtain⟨y,u1,u2⟩:=hel k xs hz;have hc:cells[o+(k:Int).toNat*1]? =some y:=by
   have:=u1 0 y rfl;simpa[ay]using this
  exact dj
end Go.Ideal
namespace Go.Ideal
variable {P:Program} {B:ae Nat} {w0:Wd} {kl kl' bM k1 k2:ae OA} {F:ae aM} {Q:IH->Prop}
section
variable {β:Type} (A:ah->β->OA)
def zx(vs:ae ah)(xss:ae β):ae OA:=(vs.zip xss).map λp=>A p.1 p.2
def qD(b:Nat)(xss:ae β):OA:=
 ⟨λw S=>∃vs:ae ah,vs.length=xss.length/\gV w (pt b (.cells vs)::zx A vs xss) S,λa h ⟨vs,h1,h2⟩=>⟨vs,h1,gV.loc a h h2⟩⟩
def ZU(vs:ae ah)(xss:ae β)(k:Nat):OA:=
 ⟨λw S=>gV w ((zx A vs xss).eraseIdx k) S,λa h hp=>gV.loc a h hp⟩
variable{xss:ae β}{k:Nat}{vs:ae ah}{v:ah}{xs:β}
def ZV(hv:vs[k]? =some v)(hx:xss[k]? =some xs):(zx A vs xss)[k]? =some (A v xs):=by
 simp[zx,List.zip,List.getElem?_zipWith,hv,hx]
variable{b:Nat}
def ZW(hx:xss[k]? =some xs)(hk:aB (qD A b xss) kl kl':=by exact dV)
 (h:∀(vs:ae ah) (v:ah),vs.length=xss.length->vs[k]? =some v->R Q B w0 (pt b (.cells vs)::A v xs::ZU A vs xss k::kl') F):R Q B w0 kl F:=λw s=>by
 obtain⟨S,⟨S1,S2,⟨vs,h1,h2⟩,q2,e⟩,hnd,hall⟩:=(s.gz hk).own;subst e;have hlt:=(bJ.1 hx).1;have hv:vs[k]? =some (vs[k]'(tf)):=bY tf;refine h vs _ h1 hv w ?_;have hg:=ZV A hv hx;obtain⟨T1,T2,u1,u2,e⟩:=h2;obtain⟨T3,⟨T4,T5,u4,u5,e5⟩,u6⟩:=u2.gz (aB.at hg);subst e5 e;have hperm:((T1++T2)++S2).Perm (T1++(T4++(T5++S2))):=by
  rw[iO];refine List.Perm.append_left T1 ?_;rw[<- iO];exact List.Perm.append_right S2 u6
 exact⟨s.agree,s.le,s.fZ,⟨T1++(T4++(T5++S2)),⟨T1,_,u1,⟨T4,_,u4,⟨T5,S2,u5,q2,rfl⟩,rfl⟩,rfl⟩,hperm.nodup hnd,λi hi=>hall i (hperm.mem_iff.2 hi)⟩,s.facts⟩
def ak0:zx A (vs.set k v) (xss.set k xs)=(zx A vs xss).set k (A v xs):=by
 apply jr;intro j;simp only[zx,List.zip]
 grind
def ZX{xs:β}(hlen:vs.length=xss.length)(hk:k<xss.length)(h1:aB (pt b (.cells (vs.set k v))) kl k1:=by exact dV)
 (h2:aB (A v xs) k1 k2:=by exact dV) (h3:aB (ZU A vs xss k) k2 bM:=by exact dV) (h:R Q B w0 (qD A b (xss.set k xs)::bM) F):R Q B w0 kl F:=
 .perm (λw S hS=>by
  obtain⟨S1,S2,q1,q2,hp⟩:=hS.lK (.cons h1 (.cons h2 (.cons h3 .nil)));obtain⟨T1,U1,u1,⟨T2,U2,u2,⟨T3,U3,u3,u4,e3⟩,e2⟩,e1⟩:=q1;subst u4 e3 e2 e1;have hl:((zx A vs xss).set k (A v xs))[k]? =some (A v xs):=by
   rw[xE,if_pos rfl,if_pos (by simp[zx];omega)]
  obtain⟨V,v1,v2⟩:=gV.Tg (aB.at hl) ⟨T2,T3,u2,by rw[Y9];exact u3,rfl⟩;refine⟨(T1++V)++S2,⟨T1++V,S2,⟨vs.set k v,by simp[hlen],⟨T1,V,u1,by rw[ak0];exact v1,rfl⟩⟩,q2,rfl⟩,hp.trans ?_⟩
  grind) h
def ak1{m:Nat}{v0:ah}{x0:β}(h0:∀w,(A v0 x0).p w [])(hk:aB (pt b (.cells (List.replicate m v0))) kl kl':=by exact dV)(h:R Q B w0 (qD A b (List.replicate m x0)::kl') F):R Q B w0 kl F:=
 .perm (λw S hS=>by
  obtain⟨S',⟨T1,T2,u1,u2,e⟩,hp⟩:=hS.gz hk;refine⟨S',⟨T1,T2,⟨List.replicate m v0,tg,⟨T1,[],u1,?_,tg⟩⟩,u2,e⟩,hp⟩;have:∀m,gV w (zx A (List.replicate m v0) (List.replicate m x0)) []:=by
   intro m;induction m with
   |zero=>rfl
   |succ m ih=>exact⟨[],[],h0 w,ih,rfl⟩
  exact this m) h
def ak2{E:Enc β}{c:Nat}(fv:ah->E.Y)(hn:E.n=1)(hpat:∀x v,E.pat x (fv v)=[v])(hA:∀v xs,qV (A v xs) (E.fs xs (fv v)))(hc:xss.length<=c:=by first|exact bI _|omega):qV (qD A b xss) [aj E (.slice (some ⟨b,0,some 0⟩) xss.length c) xss]:=by
 intro w w' S ⟨vs,hlen,T1,T2,⟨h1,h2⟩,u2,e⟩ hle hh hz f hf;subst e;rw[bS.1 hf];refine .inr ⟨b,0,0,c,vs,⟨rfl,hc,.inl rfl⟩,⟨hz b (by rw[h1];simp),.inl vj⟩,λk xs hk=>?_⟩;have hlt:=(bJ.1 hk).1;have hv:vs[k]? =some (vs[k]'(tf)):=bY tf;have hg:=ZV A hv hk;obtain⟨T3,⟨T4,T5,u4,u5,e5⟩,u6⟩:=u2.gz (aB.at hg);subst e5;refine⟨fv (vs[k]'(tf)),λj u hj=>?_,λg hgm=>?_⟩
 .rw[hpat]at hj;match j,hj with
  |0,hj=>
   cases hj;rw[hn];simp
 .exact hA _ _ w w' T4 u4 hle hh (λi hi=>hz i (xD _ (u6.mem_iff.2 (uR _ hi)))) g hgm
end
def Ox{α:Type}(v:ah)(xs:ae α):aM:=⟨λ_=>xs=[]->v=.slice none 0 0,λ_ h=>h⟩
def nJ{α:Type}(E:Enc α)(v:ah)(xs:ae α):OA:=⟨λw S=>(ap E v xs).p w S/\(xs=[]->v=.slice none 0 0),λa h hp=>⟨(ap E v xs).loc a h hp.1,hp.2⟩⟩
def wR{α:Type}(E:Enc α):Enc (ae α):=⟨1,ah,λ_ v=>[v],λxs v=>[aj E v xs,Ox v xs],λ_ _=>rfl⟩
variable{α:Type}{v:ah}
def ak3{E:Enc α}{xs:ae α}:qV (nJ E v xs) [aj E v xs,Ox v xs]:=by
 intro w w' S hp hle hh hz f hf;rcases dB.1 hf with rfl|hf
 .exact gD w w' S hp.1 hle hh hz _ (by grind)
 .rw[bS.1 hf];exact hp.2
def ZY(E:Enc α)(v:ah)(xs:ae α)(h:(xs=[]->v=.slice none 0 0)->R Q B w0 (ap E v xs::kl') F)(hk:aB (nJ E v xs) kl kl':=by exact dV):R Q B w0 kl F:=λw s=>by
 obtain⟨S,⟨S1,S2,q1,q2,e⟩,h2,h3⟩:=(s.gz hk).own;exact h q1.2 w ⟨s.agree,s.le,s.fZ,⟨S,⟨S1,S2,q1.1,q2,e⟩,h2,h3⟩,s.facts⟩
def ZZ(E:Enc α)(v:ah)(xs:ae α)(hz:xs=[]->v=.slice none 0 0)(h:R Q B w0 (nJ E v xs::kl') F)(hk:aB (ap E v xs) kl kl':=by exact dV):R Q B w0 kl F:=λw s=>
 h w ((s.gz hk).Ch λw S hp=>⟨hp,hz⟩)
variable{w:Wd}
def Z0{E:Enc α}{xss:ae (ae α)}(h:(aj (wR E) v xss).p w):(aj (ay E) v xss).p w:=by
 rcases h with h|⟨i,o,f,c,cells,h1,h2,h3⟩
 .exact .inl h
 .refine .inr ⟨i,o,f,c,cells,h1,h2,λk x hk=>?_⟩;obtain⟨y,q1,q2⟩:=h3 k x hk;exact⟨y,q1,λf hf=>q2 f (by rw[bS.1 hf];exact fF ..)⟩
def Er{A A':OA}(e:A=A')(h:R Q B w0 (A'::kl') F)(hk:aB A kl kl':=by exact dV):R Q B w0 kl F:=by
 subst e;exact λw s=>h w (s.gz hk)
def St.Z4{E:Enc α}{aD:ae (α×E.Y)}(h0:0<aD.length)(hall:(wP E aD).p w)(s:St B w0 (ar E v aD::kl') F w):St B w0 (ap E v (aD.map (·.1))::kl') F w:=by
 obtain⟨S,⟨S1,S2,q1,q2,e⟩,h2,h3⟩:=s.own;refine⟨s.agree,s.le,s.fZ,⟨S,⟨S1,S2,?_,q2,e⟩,h2,h3⟩,s.facts⟩;rcases q1 with⟨h4,_⟩|⟨b,f,h4,h5,h6,h7⟩
 .grind
 .refine .inr ⟨b,0,f,_,by grind,h5,h6,h7,by rw[Ct,bC,gI],λk x hk=>?_⟩;rw[dZ]at hk;cases hp:aD[k]? with
  |none=>rw[hp]at hk;cases hk
  |some p=>
   rw[hp]at hk;cases hk;exact⟨p.2,λj u hj=>by rw[gI];exact zu hp hj,λf hf=>hall p (by grind) f hf⟩
def Z5{E:Enc α}{aD:ae (α×E.Y)}(h0:0<aD.length)(h:R Q B w0 (ap E v (aD.map (·.1))::kl') F)(hfs:∀w,(∀f∈F,f.p w)->(wP E aD).p w)(hk:aB (ar E v aD) kl kl':=by exact dV):R Q B w0 kl F:=λw s=>
 h w (St.Z4 h0 (hfs w s.facts) (s.gz hk))
end Go.Ideal
namespace Go.Ideal
variable {P:Program}
def TD{α:Type}(P:Program)(vals:α->ae ah)(fe:α->ae aM)(fn:Fn)(first cap:ae ah)(F:ae aM)(X:ae α->Prop):Prop:=
 ∀(S:Type) (inv:S->ae OA) (ok:ae α->S->Prop) (step:S->α->S×Bool) (s0:S) (zq:Fn) (y1 y2:ae ah) (F':ae aM),ok [] s0->
  (∀vs s x rest,ok vs s->X (vs++x::rest)->(step s x).2=true->ok (vs++[x]) (step s x).1)->
  (∀vs s x rest,ok vs s->X (vs++x::rest)->bG P zq (y1++vals x) y2 (inv s) (fe x++F') (λ_:Unit=>.bool (step s x).2) (λ_=>inv (step s x).1) (λ_=>[]) (λ_=>True))->
  bG P fn (first++[.func zq ⟨y1⟩ ⟨y2⟩]) cap (inv s0) (F++F') (λ_:ae α=>.tuple ⟨[]⟩) (λxs=>inv (jG step s0 xs)) (λ_=>[]) X
def bG.facts{Y:Type}{fn:Fn}{args cap:ae ah}{kl:ae OA}{F F2:ae aM}{val:Y->ah}{kl':Y->ae OA}{fs:Y->ae aM}{pr:Y->Prop}(h:bG P fn args cap kl F val kl' fs pr)(hF:∀f∈F,f∈F2):bG P fn args cap kl F2 val kl' fs pr:=
 λB w s=>h B w ⟨s.agree,s.le,s.fZ,s.own,λf hf=>s.facts f (hF f hf)⟩
section
variable {B:ae Nat} {w0:Wd} {kl kl' bM:ae OA} {F:ae aM} {K:KO} {n:Nat} {l:qr} {D:ae Deferred} {pm:ak FrameMode} {ro:ak Nat}
variable{S α Z:Type}{ps:ae Tmp}{assign body:dH}{fn:Fn}{first captured:ae ah}{F1:ae aM}
def ak4{f:az}{vals:α->ae ah}{fe:α->ae aM}{X:ae α->Prop}(step:S->α->S×Out)(inv:S->ae OA)(ok:ae α->S->Prop)(s0:S)(h0:ok [] s0)
 (hok:∀vs s x rest,ok vs s->X (vs++x::rest)->(step s x).2=.normal->ok (vs++[x]) (step s x).1) (hit:TD P vals fe fn first captured F1 X)
 (hf:ev l f=.func fn ⟨first⟩ ⟨captured⟩) (hps:ps.all (λp=>Nat.blt p n)=true) (hlen:∀x,ps.length=(vals x).length) (hk:aH (inv s0) kl bM) (hF:Sub F1 F) (lI:∀s x,Ed (step s x).2)
 (l3:α->Z->qr) (k3:α->Z->ae OA)
 (ha:∀(s:S) (x:α) (lo:Nat) (o:aN) B w0,R (λh=>EV P assign (act n ((ps.zip (vals x)).reverse++l) [] none (some lo)) h (Gv B w0 n (l3 x) lo o (λz=>k3 x z++inv s) (fe x++F))) B w0 (pt lo o::inv s) (fe x++F))
 (hb:∀(vs:ae α) (s:S) (x:α) (rest:ae α) (z:Z) (lo:Nat) (L:qy) B w0,ok vs s->X (vs++x::rest)->R (λh=>EV P body (act n (l3 x z) [] none (some lo)) h (Ee B w0 lo L (λ_:Unit=>(step s x).2) (λ_=>inv (step s x).1) (λ_=>[]) (λ_=>True))) B w0 (pt lo (.loop (Aw L))::(k3 x z++inv s)) (fe x++F))
 (next:∀r xs,X xs->R (λh=>K (kz step s0 xs).2 (act n l ({target:=.collected r,args:= #[]}::D) pm none) h) B w0 (inv (kz step s0 xs).1++(pt r (.lC true)::bM)) F):
 R (λh=>EV P (.rangeFunc f ps assign body) (act n l D pm none) h K) B w0 kl F:=by
 refine Y4 (Oa:=λ_=>.tuple ⟨[]⟩) (out:=λxs=>(kz step s0 xs).2) (k1':=λxs=>inv (kz step s0 xs).1) (fs:=λ_=>[]) (pr:=X) hf ?_ hk (hF.app (Sub.refl' F [])) (by grind);intro lo r;have:=hit (S×Out) (λso=>pt lo (.loop (rH ⟨.ready,none,jC l,n,ps,assign,body,r⟩ so.2))::inv so.1) (λvs so=>so.2=.normal/\ok vs so.1) (λso x=>(step so.1 x,vC (step so.1 x).2)) (s0,.normal) (.yield lo) [] [] F ⟨rfl,h0⟩
  (λvs so x rest ho hx h=>by
    exact mB)
  (λvs so x rest ho hx=>by
    obtain⟨s,o⟩:=so;obtain⟨hn,ho⟩:=ho;subst hn;exact ZA (L:=⟨.ready,none,jC l,n,ps,assign,body,r⟩) (args:=vals x) l (l3 x) (λz=>k3 x z++inv s) rfl rfl hps (hlen x)
     (by grind) (by grind))
 have e:(λxs:ae α=>pt lo (.loop (rH ⟨.ready,none,jC l,n,ps,assign,body,r⟩ (jG (λso x=>(step so.1 x,vC (step so.1 x).2)) (s0,.normal) xs).2))::inv (jG (λso x=>(step so.1 x,vC (step so.1 x).2)) (s0,.normal) xs).1)=λxs=>pt lo (.loop (rH ⟨.ready,none,jC l,n,ps,assign,body,r⟩ (kz step s0 xs).2))::inv (kz step s0 xs).1:=by
  funext xs
  rw[Tf]
 have h2:=this;rw[e]at h2;exact h2
def ak5{f:az}{vals:α->ae ah}{fe:α->ae aM}{X:ae α->Prop}(step:S->α->S×Out)(inv:S->ae OA)(ok:ae α->S->Prop)(s0:S)(l3:α->Z->qr)(k3:α->Z->ae OA)(h0:ok [] s0)
 (hok:∀vs s x rest,ok vs s->X (vs++x::rest)->(step s x).2=.normal->ok (vs++[x]) (step s x).1) (hit:TD P vals fe fn first captured F1 X)
 (ha:∀(s:S) (x:α) (lo:Nat) (o:aN) B w0,R (λh=>EV P assign (act n ((ps.zip (vals x)).reverse++l) [] none (some lo)) h (Gv B w0 n (l3 x) lo o (λz=>k3 x z++inv s) (fe x++F))) B w0 (pt lo o::inv s) (fe x++F))
 (hb:∀(vs:ae α) (s:S) (x:α) (rest:ae α) (z:Z) (lo:Nat) (L:qy) B w0,ok vs s->X (vs++x::rest)->R (λh=>EV P body (act n (l3 x z) [] none (some lo)) h (Ee B w0 lo L (λ_:Unit=>(step s x).2) (λ_=>inv (step s x).1) (λ_=>[]) (λ_=>True))) B w0 (pt lo (.loop (Aw L))::(k3 x z++inv s)) (fe x++F))
 (next:∀r xs,X xs->R (λh=>K (kz step s0 xs).2 (act n l ({target:=.collected r,args:= #[]}::D) pm none) h) B w0 (inv (kz step s0 xs).1++(pt r (.lC true)::bM)) F)
 (lI:∀s x,Ed (step s x).2)
 (hf:ev l f=.func fn ⟨first⟩ ⟨captured⟩:=by rfl) (hps:ps.all (λp=>Nat.blt p n)=true:=by rfl) (hlen:∀x,ps.length=(vals x).length:=by intro _;rfl)
 (hk:aH (inv s0) kl bM:=by exact nH) (hF:Sub F1 F:=by exact mK):
 R (λh=>EV P (.rangeFunc f ps assign body) (act n l D pm none) h K) B w0 kl F:=
 ak4 step inv ok s0 h0 hok hit hf hps hlen hk hF lI l3 k3 ha hb next
end
section
variable {B:ae Nat} {w0:Wd} {kl:ae OA} {F:ae aM}
end
end Go.Ideal
namespace Go.Ideal
variable {P:Program} {B:ae Nat} {w0:Wd} {kl kl' bM:ae OA} {F:ae aM} {K:KO} {ds:ae Tmp} {rest:ae bW} {n:Nat} {l:qr} {D:ae Deferred} {pm:ak FrameMode} {ro:ak Nat} {d:Nat} {g:ak (Tmp×Bool)}
def Oy{cs1 cs2 xs:ae ah}(h:xs.length<=cs2.length):jE (cs1++cs2) cs1.length xs=some (cs1++(xs++cs2.drop xs.length)):=by
 obtain⟨r,hr⟩:=Cs (cs1++cs2) cs1.length xs (by grind);obtain⟨h1,h2,h3⟩:=BL hr;rw[hr];congr 1;apply jr
 grind
def ak6{α:Type}{E:Enc α}{v:ah}{aD:ae (α×E.Y)}{w:Wd}(h:(sP E v aD).p w):qb v=some aD.length/\yZ E.n aD.length v w.h=some (dx E aD):=by
 rcases h with⟨rfl,a,c,rfl,_⟩|⟨i,o,f,c,cells,⟨e1,hc⟩,q2,q3⟩
 .exact⟨rfl,rfl⟩
 subst e1;refine⟨rfl,?_⟩;by_cases hne:aD=[]
 .subst hne;rfl
 obtain⟨k,hk'⟩:∃k,aD.length=k+1:=⟨aD.length - 1,by have:=Ig.2 hne;omega⟩
 have hfl:=Ct aD;have hcells:∀j,j<aD.length*E.n->cells[o+j]? =(dx E aD)[j]?:=λj hj=>by
  exact cS
 have hlen:o+aD.length*E.n<=cells.length\/aD.length*E.n=0:=by
  exact eK
 have hread:w.h.iK i o (aD.length*E.n)=some (dx E aD)\/(aD.length*E.n=0):=by
  rcases hlen with hlen|hlen
  .left;exact gR
  .exact .inr hlen
 have hread:w.h.iK i o (aD.length*E.n)=some (dx E aD):=by
  rcases hread with h|h
  .exact h
  .have hf0:dx E aD=[]:=lW.1 tf;rw[h,q2.cells.iK,o9,if_pos (bH _),hf0];rfl
 rw[hk']at hread⊢;exact hread
end Go.Ideal
namespace Go.Ideal
open Go.RowKit Go.WideShapes Go.ChangeShapes
variable {P:Program}
def yx(P:Program)(n:Nat):Lay:=(List.range n).map λg=>(some ⟨g,0,0,Ns P g,0⟩,none)
variable{n:Nat}
def Z6{i:Nat}(h:i<n):(yx P n)[i]? =some (some ⟨i,0,0,Ns P i,0⟩,none):=by
 unfold yx
 grind
def ak7(n:Nat):(yx P n).length=n:=by unfold yx;grind
def ak8(uZ:P.follows .mixedOrders=true){f:fI}(fn:Func)(hfn:P.funcs[f]? =some fn)(hbody:fn.body.isNone=false)(hname:(fn.name== "runtime.NumGoroutine")=false){args args':ae ah}{L:Lay}{w:World}{v:ah}(ak9:lZ P (kV L))
 (hL:∀(i:Nat) g cs,L[i]? =some (some g,some cs)->Gf L w g cs) (hargs:aY (kV L) args args') (hv:cB v=true)
 (hc:CALL P ⟨.func f,args,[],none⟩ (l7 L) (λr pm h'=>pm=none/\r=.ok v/\Agree (l7 L) h')):
 Calls P f ⟨args'⟩ w (λe w'=>e=.returned v/\Below w.heap.size w w'):=by
 have hM:=Yh uZ hc;have hW:WR P (kV L) (l7 L) w:=ajc hL;obtain⟨nx,F0,n1,n2,n3⟩:=hM (kV L) w (.func f) args' [] ak9 hW (.func f) hargs .nil;have hnx:nx=.enter f ⟨args'⟩:=by
  have hcall:(callFunc f ⟨args'⟩).run P w=.ok (.enter f ⟨args'⟩) w:=by
   simp only[callFunc,dS,run_program,eX,hfn,hname,hbody,Dn,if_false,fM]
  have e:(⟨args'⟩:Array ah)++(⟨[]⟩:Array ah)=⟨args'⟩:=vi
  simp only[invoke,e]at n1
  grind
 subst hnx;have Ar:F0=Frame.enter P f ⟨args'⟩ .normal:=by
  have:entry P .normal (.enter f ⟨args'⟩)=some (Frame.enter P f ⟨args'⟩ .normal):=rfl;have n2:entry P .normal (.enter f ⟨args'⟩)=some F0:=n2
  grind
 subst Ar;intro cs;obtain⟨r,pm',h',β',w',r',cs1,q1,q2,q3,q4,q5,q6⟩:=n3 cs (by intro m hm;cases hm);obtain⟨hp,rfl,hag⟩:=q1;cases q5;cases q4 with
 | @ok v v' qh=>
   have:=qh.qO hv;subst this;rcases q6 with⟨f1,a1,F1,e1,e2,e3,e4,e5⟩|⟨⟨_,l,e1⟩,_⟩
   .cases e1;refine⟨.returned v',w',F1,⟨rfl,?_⟩,e2,e3,?_⟩
    .refine⟨q3.os,q3.tape,q3.output,q3.size,λk hk=>?_⟩;by_cases hx:∀i g,kV L i=some g->(l7 L).get i≠none->g.b≠k
     .exact q3.keep k hk hx
     .have hx:∃i g,kV L i=some g/\(l7 L).get i≠none/\g.b=k:=by
       grind
      obtain⟨i,g,hi,hg,rfl⟩:=hx;have hin:=hW.dom i g hi;exact q3.uX i g (by rw[hag.low (bI _)];exact hin) hin hi hg hk
    .exact qT
   .cases e1
section
variable {H:Type} {enc:aF×ah->H} {W:World}
def ala(uZ:P.follows .mixedOrders=true){f:fI}(fn:Func)(hfn:P.funcs[f]? =some fn)(hbody:fn.body.isNone=false)(hname:(fn.name== "runtime.NumGoroutine")=false){K:aF->Prop}
 (hK:∀t,K t->PlainT P K t) {ts:ae aF} {vs:ae ah} {ds:ae (DataW H)} {ps:ae MemPlace} (hT:∀t∈ts,K t) (hok:∀(j:Nat) t v,ts[j]? =some t->vs[j]? =some v->Value.okWide P W .any 0 t v)
 (hA:DataW.TrodAll enc P W 0 (λ_=>true) true ts vs ds ps)
 (alb:∀(w:Wd) (vs':ae ah),P.globals.size<=w.h.next->(∀i,i<w.h.next->w.z i)->vs'.length=vs.length->(∀(j:Nat) t v d,ts[j]? =some t->vs'[j]? =some v->ds[j]? =some d->zo P w t v d)->∃F,(∀f∈F,f.p w)/\dF P f vs' F (.bool true)):
 Calls P f ⟨vs⟩ W (λe w'=>e=.returned (.bool true)/\Below W.heap.size W w'):=by
 obtain⟨M,vs',h1,h2,h3⟩:=YH hK hT hok hA (yx P P.globals.size);have hlG:=ak7 (P:=P) P.globals.size;refine ak8 uZ fn hfn hbody hname (λg hg=>⟨⟨g,0,0,Ns P g,0⟩,?_,rfl,rfl,rfl⟩) (λi g cs hi=>?_) h1 rfl ?_
 .unfold kV;rw[pX tf,Z6 hg];rfl
 .by_cases hlt:i<P.globals.size
  .rw[pX tf,Z6 hlt]at hi;cases hi
  .exact h3 i g cs tf hi
 have hlen:vs'.length=vs.length:=by
  have:∀{a b:ae ah},aY (kV (yx P P.globals.size++M)) a b->a.length=b.length:=by
   intro a;induction a with
   |nil=>intro b h;cases h;rfl
   |cons x a ih=>intro b h;cases h with|cons q r=>simp[ih r]
  exact this h1
 obtain⟨F,hF,hfn'⟩:=alb (N8 (yx P P.globals.size++M)) vs' (by show _<=(yx P P.globals.size++M).length;grind) (λi hi=>hi) hlen (λj t v d ht hv hd=>by
  obtain⟨v0,e,qh⟩:=akn (ts:=ts) h1 j v hv;exact akm rfl (h2 j t v d ht hv hd) qh (hok j t v0 ht e))
 have st:St [] (N8 (yx P P.globals.size++M)) [] F (N8 (yx P P.globals.size++M)):=⟨⟨bI _,λ_ _ _=>rfl,λ_ _=>rfl⟩,Wd.Le.refl _,λi _ hz=>.inl hz,⟨[],rfl,xH,λi hi=>by cases hi⟩,hF⟩
 refine .jP _ (hfn' [] (N8 (yx P P.globals.size++M)) st) ?_;rintro r pm h' ⟨rfl,w',y,rfl,s,rfl,_⟩;exact⟨rfl,rfl,⟨s.agree.next,λi hi=>s.agree.get i hi tg,λhl=>s.agree.low hl tg⟩⟩
end
def Oz(n:Nat):aM:=⟨λw=>n<=w.h.next,λa h=>lV h a.next⟩
def alc{f:fI}{v:ah}(hs:∀h:IH,n<=h.next->CALL P ⟨.func f,[],[],none⟩ h (λr pm h'=>pm=none/\r=.ok v/\h'=h)):dF P f [] [Oz n] v:=λB w s=>
 .jP _ (hs w.h (s.facts (Oz n) (by grind))) (by rintro r pm h' ⟨rfl,rfl,rfl⟩;exact⟨rfl,w,(),rfl,⟨s.agree,s.le,s.fZ,s.own,λf h=>by cases h⟩,rfl,trivial⟩)
end Go.Ideal
namespace Go.Ideal
variable {P:Program}
def TE:ah->Bool
 | .tuple ⟨c::cs⟩=>cB c&&cs.all cB
 | .tuple _=>false
 |v=>cB v
def aY.Z7{β:aI}:∀{l:ae ah},l.all cB=true->aY β l l
 |[],_=>.nil
 |v::l,h=>by
  rw[MQ,eU]at h;exact .cons (VR.free h.1) (aY.Z7 h.2)
def aY.TF{β:aI}:∀{l l':ae ah},aY β l l'->l.all cB=true->l'=l
 |_,_,.nil,_=>rfl
 |_,_,.cons h1 h2,h=>by
  rw[MQ,eU]at h;rw[h1.qO h.1,aY.TF h2 h.2]
def VR.ald{β:aI}{v:ah}(h:TE v=true):VR β v v:=by
 unfold TE at h;split at h
 .exact .tuple (aY.Z7 (by grind))
 .cases h
 .exact VR.free h

/-
  The ideal machine, 66: functions that may panic; deferred functions that recover.
-/
import Derived.Test.YtbdaaopebgcnaaaGreatDoorIdealMM
import Derived.Sort.Row
import Derived.Sort.Grow
import Derived.Laws.StructEq
set_option linter.all false
namespace Go.Ideal
variable {P:Program}
def AQ{Y:Type}(B:List Nat)(w0:Wd)(ret:Y->iH)(kl':Y->List OA)(fs:Y->List aD)(pr:Y->Prop):KR:=λr pm h'=>
 pm=none/\∃(w':Wd) (y:Y),w'.h=h'/\St B w0 (kl' y) (fs y) w'/\r=ret y/\pr y
def GI{Y:Type}(P:Program)(fn:Fn)(args cap:List Value)(kl:List OA)(F:List aD)(ret:Y->iH)(kl':Y->List OA)(fs:Y->List aD)(pr:Y->Prop):Prop:=
 ∀(B:List Nat) (w:Wd),St B w kl F w->CALL P ⟨fn,args,cap,none⟩ w.h (AQ B w ret kl' fs pr)
theorem GI.toC{Y:Type}{fn:Fn}{args cap:List Value}{kl:List OA}{F:List aD}{ret:Y->iH}{kl':Y->List OA}{fs:Y->List aD}{pr:Y->Prop}(val:Y->Value)(h:GI P fn args cap kl F ret kl' fs pr)
 (hv:∀y,pr y->ret y=.ok (val y)):aX P fn args cap kl F val kl' fs pr:=λB w s=>by
 refine .wX _ (h B w s) ?_;rintro r pm h' ⟨e,w',y,e1,st,er,hp⟩;exact⟨e,w',y,e1,st,er.trans (hv y hp),hp⟩
def Lx{Y:Type}(B:List Nat)(w0:Wd)(ret:Y->iH)(md:Y->FrameMode)(kl':Y->List OA)(fs:Y->List aD)(pr:Y->Prop):KR:=λr pm h'=>
 ∃(w':Wd) (y:Y),pm=some (md y)/\w'.h=h'/\St B w0 (kl' y) (fs y) w'/\r=ret y/\pr y
def GJ{Y:Type}(P:Program)(fn:Fn)(args cap:List Value)(m:FrameMode)(kl:List OA)(F:List aD)(ret:Y->iH)(md:Y->FrameMode)(kl':Y->List OA)(fs:Y->List aD)(pr:Y->Prop):Prop:=
 ∀(B:List Nat) (w:Wd),St B w kl F w->CALL P ⟨fn,args,cap,some m⟩ w.h (Lx B w ret md kl' fs pr)
theorem Rh{K:KR}{f:FuncId}{args cap:List Value}{pm:Option FrameMode}{c:bV}{m:Nat}{l0:List (Nat×Value)}(cf:eU)(hF:(qj P o8 qW).F f=some cf)(h1:cf.body=c)(h2:qh cf.ntmps (gX (args++cap))=m)(h3:nY 0 (args++cap) []=l0){h:IH}
 (hb:EV P c (act m l0 [] pm none) h (tC P cf K)):CALL P ⟨.func f,args,cap,pm⟩ h K:=by
 obtain⟨fn,e1,e2⟩:=(CW P o8 qW (λf q h v h' hm=>by cases hm)).fn f cf hF;refine QF cf fn e1 e2 ?_;rw[Lp,h1,h2,h3];exact hb
theorem abF{Y:Type}{f:FuncId}{args cap:List Value}{kl:List OA}{F:List aD}{ret:Y->iH}{kl':Y->List OA}{fs:Y->List aD}{pr:Y->Prop}{c:bV}{m:Nat}{l0:List (Nat×Value)}(cf:eU)(hF:(qj P o8 qW).F f=some cf)
 (hb:∀B w0,R (λh=>EV P c (act m l0 [] none none) h (tC P cf (AQ B w0 ret kl' fs pr))) B w0 kl F)
 (h1:cf.body=c:=by conv=>lhs;(reduce;(try simp only[Int.reduceOfNat,Int.reduceNegSucc]))) (h2:qh cf.ntmps (gX (args++cap))=m:=by conv=>lhs;whnf) (h3:nY 0 (args++cap) []=l0:=by dsimp only[nY,Nat.reduceAdd,List.append_nil,List.cons_append,List.nil_append]):GI P (.func f) args cap kl F ret kl' fs pr:=
 λB w s=>Rh cf hF h1 h2 h3 (hb B w w s)
theorem Ri{Y:Type}{f:FuncId}{args cap:List Value}{pm:FrameMode}{kl:List OA}{F:List aD}{ret:Y->iH}{md:Y->FrameMode}{kl':Y->List OA}{fs:Y->List aD}{pr:Y->Prop}{c:bV}{m:Nat}{l0:List (Nat×Value)}(cf:eU)(hF:(qj P o8 qW).F f=some cf)
 (hb:∀B w0,R (λh=>EV P c (act m l0 [] (some pm) none) h (tC P cf (Lx B w0 ret md kl' fs pr))) B w0 kl F)
 (h1:cf.body=c:=by conv=>lhs;(reduce;(try simp only[Int.reduceOfNat,Int.reduceNegSucc]))) (h2:qh cf.ntmps (gX (args++cap))=m:=by conv=>lhs;whnf) (h3:nY 0 (args++cap) []=l0:=by dsimp only[nY,Nat.reduceAdd,List.append_nil,List.cons_append,List.nil_append]):GJ P (.func f) args cap pm kl F ret md kl' fs pr:=
 λB w s=>Rh cf hF h1 h2 h3 (hb B w w s)
section
variable {B:List Nat} {w0:Wd} {kl kl' bE:List OA} {F:List aD} {K:KO} {ds:List Tmp} {rest:List aW} {n:Nat} {l:List (Nat×Value)} {D:List Deferred} {pm:Option FrameMode} {ro:Option Nat} {d:Nat} {g:Option (Tmp×Bool)}
theorem St.abG{w:Wd}{k1 bE:List OA}{F1:List aD}(s:St B w0 kl F w)(hk:aI k1 kl bE)(hF:Sub F1 F):
 ∃S1,St S1 w k1 F1 w/\∀(w':Wd) (k1':List OA) (F':List aD),St S1 w k1' F' w'->St B w0 (k1'++bE) (F'++F) w':=by
 obtain⟨S,h1,h2,h3⟩:=s.own;obtain⟨S1,S2,q1,q2,hp⟩:=h1.jJ hk;have hsub:∀i∈S1,i∈S:=λi hi=>hp.mem_iff.2 (nN _ hi);exact⟨S1,⟨⟨aG _,λ_ _ _=>rfl,λ_ _=>rfl⟩,Wd.Le.refl w,λi _ hz=>.inl hz,⟨S1,q1,(r9.1 (hp.nodup h2)).1,λi hi=>⟨.inr hi,(h3 i (hsub i hi)).2⟩⟩,λf hf=>s.facts f (hF.mem f hf)⟩,
  λw' k1' F' c=>s.call (k1:=k1) (F1:=F1) ⟨S,hp,h2,h3⟩ q2 c⟩
theorem abH{x:Operand}{t:TypeId}{v:Value}{dst:Option Tmp}{re:List eZ}
 (next:R (λh=>K (.panic [{v:=.iface t v,recovered:=false}]) (act n (Da ds n l) D pm ro) h) B w0 kl F)
 (hx:ev l x=.iface t v:=by rfl) (hg:bH l g=true:=by rfl):R (λh=>aA P ds (⟨⟨dst,g,.panic x⟩,re⟩::rest) (act n l D pm ro) h K) B w0 kl F:=λw s=>aai hg hx (next w s)
theorem abI{f:Operand}{args:List Operand}{fn:Fn}{first captured vs:List Value}
 (next:R (λh=>aA P ds rest (act n l ({target:=.fn fn ⟨captured⟩,args:=⟨first++vs⟩}::D) pm none) h K) B w0 kl F)
 (hf:ev l f=.func fn ⟨first⟩ ⟨captured⟩:=by rfl) (hx:EvL (ev l) args vs:=by repeat (first|with_reducible exact EvL.nil|((with_reducible apply EvL.cons);(conv=>lhs;whnf)))) (hg:bH l g=true:=by rfl):
 R (λh=>aA P ds (⟨⟨none,g,.dcall f args⟩,[]⟩::rest) (act n l D pm none) h K) B w0 kl F:=λw s=>by
 refine aaj hg rfl hf ?_;rw[hx.map];exact next w s
theorem Rj{m:FrameMode}{v:Value}{m':FrameMode}(he:iT m=(v,m'))
 (next:R (λh=>aA P ds rest (act n ((d,v)::l) D (some m') none) h K) B w0 kl F) (hn:Nat.blt d n=true:=by rfl) (hg:bH l g=true:=by rfl):
 R (λh=>aA P ds (⟨⟨some d,g,.recover⟩,[]⟩::rest) (act n l D (some m) none) h K) B w0 kl F:=λw s=>by
 refine aak hn hg rfl ?_;rw[he];exact next w s
def RL(P:Program)(cf:eU)(l:List (Nat×Value))(D:List Deferred)(m:FrameMode)(Kr:iH->IH->Prop)(B:List Nat)(w0:Wd)(kl:List OA)(F:List aD):Prop:=∀w,St B w0 kl F w->LEAVE P cf (fJ l) D m w.h Kr
theorem GK{cf:eU}{Kr:KR}{o:Out}{m:FrameMode}(h:RL P cf l D m (λr h=>Kr r pm h) B w0 kl F)(hm:uq o=some m:=by rfl):R (λh=>tC P cf Kr o (act n l D pm ro) h) B w0 kl F:=λw s=>by
 show(match uq o with
  |none=>False
  |some m=>LEAVE P cf (fJ l) D m w.h λr h''=>Kr r pm h'')
 rw[hm];exact h w s
variable {cf:eU} {Kr:iH->IH->Prop}
theorem abJ{vs:List Value}(hk:∀w,St B w0 kl F w->Kr (.ok (rG vs)) w.h)(hr:RS l kl cf.results vs:=by exact Ay):RL P cf l [] .returning Kr B w0 kl F:=λw s=>by
 refine .ret (rG vs) ?_ (hk w s);unfold oW;rw[hr.all s];match vs with
 |[]=>rfl
 |[v]=>rfl
 |_::_::_=>rfl
theorem abK{m:FrameMode}{r:Nat}{args:Array Value}(next:RL P cf l D m Kr B w0 kl' F)(hk:ai (pt r (.gM true)) kl kl':=by exact gQ)(hm:m≠.run:=by intro e;cases e):RL P cf l ({target:=.collected r,args}::D) m Kr B w0 kl F:=λw s=>by
 have s1:=s.fC hk;exact .coll hm r s1.get.1 (next _ (s1.write (o':=.gM false)).tail)
theorem Rl{Y:Type}{fn:Fn}{captured args:List Value}{m:FrameMode}{k1:List OA}{F1:List aD}{ret:Y->iH}{md:Y->FrameMode}{k1':Y->List OA}{fs:Y->List aD}{pr:Y->Prop}{fq:Y->List OA}{F2:Y->List aD}
 (hc:GJ P fn args captured m k1 F1 ret md k1' fs pr)
 (next:∀y v,pr y->ret y=.ok v->RL P cf l D (wN (md y)) Kr B w0 (fq y) (F2 y))
 (abL:∀y ch,pr y->ret y=.gN ch->RL P cf l D (zJ (md y) ch) Kr B w0 (fq y) (F2 y))
 (hk:aI k1 kl bE:=by exact pI) (hF:Sub F1 F:=by exact nZ) (hk2:∀y,cO (k1' y) bE (fq y):=by intro y;repeat (first|exact cO.nil|apply cO.cons|exact cO.self|exact cO.app)) (hF2:∀y,cO (fs y) F (F2 y):=by intro y;repeat (first|exact cO.nil|apply cO.cons|exact cO.self|exact cO.app)) (hm:m≠.run:=by intro e;cases e):
 RL P cf l ({target:=.fn fn ⟨captured⟩,args:=⟨args⟩}::D) m Kr B w0 kl F:=λw s=>by
 obtain⟨S1,s1,back⟩:=s.abG hk hF;refine .call hm _ (hc S1 w s1) ?_ ?_ ?_
 ·rintro r p h' ⟨w',y,e,_⟩ hp;rw[e]at hp;cases hp
 ·rintro v m' h' ⟨w',y,e,rfl,c,hv,hpr⟩;injection e with e;subst e;have:=next y v hpr hv.symm w' (by rw[<- (hk2 y).eq,<- (hF2 y).eq];exact back w' _ _ c)
  exact this
 ·rintro ch m' h' ⟨w',y,e,rfl,c,hv,hpr⟩;injection e with e;subst e;exact abL y ch hpr hv.symm w' (by rw[<- (hk2 y).eq,<- (hF2 y).eq];exact back w' _ _ c)
theorem abM{Y:Type}{o:Out}{vs:List Value}{ret:Y->iH}{k1:Y->List OA}{fs:Y->List aD}{pr:Y->Prop}{fq:List OA}(y:Y)(hv:ret y=.ok (rG vs))(hp:pr y)(hD:lm kl D fq:=by repeat (first|exact lm.nil|(apply lm.cons;(focus (repeat (first|with_reducible exact ai.here|with_reducible apply ai.there|with_reducible apply ai.app))))))
 (hr:RS l fq cf.results vs:=by exact Ay) (hk:aI (k1 y) fq bE:=by exact pI) (hF:Sub (fs y) F:=by exact nZ) (ho:o=.normal\/o=.ret:=by first|exact .inl rfl|exact .inr rfl):
 R (λh=>tC P cf (AQ B w0 ret k1 fs pr) o (act n l D none ro) h) B w0 kl F:=by
 refine GK (m:=.returning) ?_ (by rcases ho with rfl|rfl<;>rfl);intro w s;refine lm.leave hD (λw' s'=>⟨rG vs,?_,rfl,w',y,rfl,((s'.jJ hk).drop).sub hF,hv.symm,hp⟩) w s;unfold oW;rw[hr.all s'];match vs with
 |[]=>rfl
 |[v]=>rfl
 |_::_::_=>rfl
theorem Rm{Y:Type}{o:Out}{vs:List Value}{ret:Y->iH}{m:FrameMode}{md:Y->FrameMode}{k1:Y->List OA}{fs:Y->List aD}{pr:Y->Prop}{fq:List OA}(y:Y)(hv:ret y=.ok (rG vs))(hm:md y=m)(hp:pr y)(hD:lm kl D fq:=by repeat (first|exact lm.nil|(apply lm.cons;(focus (repeat (first|with_reducible exact ai.here|with_reducible apply ai.there|with_reducible apply ai.app))))))
 (hr:RS l fq cf.results vs:=by exact Ay) (hk:aI (k1 y) fq bE:=by exact pI) (hF:Sub (fs y) F:=by exact nZ) (ho:o=.normal\/o=.ret:=by first|exact .inl rfl|exact .inr rfl):
 R (λh=>tC P cf (Lx B w0 ret md k1 fs pr) o (act n l D (some m) ro) h) B w0 kl F:=by
 refine GK (m:=.returning) ?_ (by rcases ho with rfl|rfl<;>rfl);intro w s;refine lm.leave hD (λw' s'=>⟨rG vs,?_,w',y,by rw[hm],rfl,((s'.jJ hk).drop).sub hF,hv.symm,hp⟩) w s;unfold oW;rw[hr.all s'];match vs with
 |[]=>rfl
 |[v]=>rfl
 |_::_::_=>rfl
theorem Rn{Y:Type}{ret:Y->iH}{k1:Y->List OA}{fs:Y->List aD}{pr:Y->Prop}{vs:List Value}(y:Y)(hv:ret y=.ok (rG vs))(hp:pr y)(hr:RS l kl cf.results vs:=by exact Ay)(hk:aI (k1 y) kl bE:=by exact pI)(hF:Sub (fs y) F:=by exact nZ):
 RL P cf l [] .returning (λr h=>AQ B w0 ret k1 fs pr r none h) B w0 kl F:=
 abJ (λw s=>⟨rfl,w,y,rfl,((s.jJ hk).drop).sub hF,hv.symm,hp⟩) hr
end
end Go.Ideal
namespace Go.Ideal
variable {P:Program}
theorem Ro{α β:Type}(f:α->β)(hf:∀a b,f a=f b->a=b){l1 l2:List α}(h:(l1.map f).Perm (l2.map f)):l1.Perm l2:=by
 classical
 rw[List.perm_iff_count];intro a;have:=h.count_eq (f a);have key:∀l:List α,(l.map f).count (f a)=l.count a:=by
  intro l;induction l with
  |nil=>rfl
  |cons x l ih=>
   rw[lK,List.count_cons,List.count_cons,ih];by_cases e:x=a
   ·subst e;simp
   ·have:¬f x=f a:=λh=>e (hf _ _ h);simp[e,this]
 rw[key,key]at this;exact this
theorem Rp{α β:Type}{f:α->β}:∀{l:List α},(l.map f).Nodup->∀{a b:α},a∈l->b∈l->f a=f b->a=b
 |[],_,a,b,ha,_,_=>by cases ha
 |x::l,h,a,b,ha,hb,e=>by
  rw[lK,BL]at h;obtain⟨hx,hl⟩:=h;rcases bD.1 ha with h1|ha<;>rcases bD.1 hb with h2|hb
  ·rw[h1,h2]
  ·rw[<- h1,e]at hx;exact absurd (wG hb) hx
  ·rw[<- h2,<- e]at hx;exact absurd (wG ha) hx
  ·exact Rp hl ha hb e
def nC{α:Type}[DecidableEq α](a:α):List (α×Value)->Nat->Option (Nat×Value)
 |[],_=>none
 |(b,v)::l,i=>if a=b then some (i,v)else nC a l (i+1)
def uG{α β:Type}[DecidableEq α](a:α):List (α×β)->Option β
 |[]=>none
 |(b,v)::l=>if a=b then some v else uG a l
def upd{α β:Type}[DecidableEq α](a:α)(v:β):List (α×β)->List (α×β)
 |[]=>[(a,v)]
 |(b,u)::l=>if a=b then(a,v)::l else(b,u)::upd a v l
def nD{α:Type}(aQ:α->Value)(aJ:List (α×Value))(es:List MapEntry):Prop:=es.map (λe=>(e.key,e.val))=aJ.map λp=>(aQ p.1,p.2)
structure xq(P:Program)(kt:TypeId){α:Type}[DecidableEq α](aQ:α->Value):Prop where
 mR:∀a,qQ P kt (aQ a)=true
 find:∀a aJ es,nD aQ aJ es->qP P kt (aQ a) es=some (nC a aJ 0)
 same:∀a,Instr.sameBits 10000 (aQ a) (aQ a)=true
theorem abN{kt:TypeId}{v:Value}(ha:bM v=true)(h:∀b,dz P (Instr.checkKey b 10000 kt v)=some ()):qQ P kt v=true:=by
 unfold qQ;rw[ha,h true,h false];rfl
theorem LA{α:Type}{aQ:α->Value}{p:α×Value}{aJ:List (α×Value)}{es:List MapEntry}(h:nD aQ (p::aJ) es):∃e es',es=e::es'/\e.key=aQ p.1/\e.val=p.2/\nD aQ aJ es':=by
 cases es with
 |nil=>cases h
 |cons e es=>
  unfold nD at h;rw[lK,lK]at h;injection h with h1 h2;injection h1 with h1 h3;exact⟨e,es,rfl,h1,h3,h2⟩
theorem Rq{α:Type}[DecidableEq α]{aQ:α->Value}{d:TypeDesc}(hs:∀a b,Instr.sameNow d (aQ a) (aQ b)=some (decide (a=b)))(a:α):∀(aJ:List (α×Value)) (es:List MapEntry) (i:Nat),nD aQ aJ es->Instr.findNow d (aQ a) es i=some (nC a aJ i)
 |[],es,i,h=>by
  cases es with
  |nil=>rfl
  |cons e es=>cases h
 |p::aJ,es,i,h=>by
  obtain⟨e,es',rfl,h1,h2,h3⟩:=LA h;have ih:=Rq hs a aJ es' (i+1) h3;show(match Instr.sameNow d (aQ a) e.key with
   |some true=>some (some (i,e.val))
   |some false=>Instr.findNow d (aQ a) es' (i+1)
   |none=>none)=_
  rw[h1,hs a p.1];unfold nC;by_cases hab:a=p.1
  ·rw[eP hab,if_pos hab,h2]
  ·rw[fB hab,if_neg hab];exact ih
theorem abO{α:Type}[DecidableEq α]{aQ:α->Value}{kt:TypeId}{d:TypeDesc}(hu:P.underlying kt=some d)(hs:∀a b,Instr.sameNow d (aQ a) (aQ b)=some (decide (a=b)))(a:α)(aJ:List (α×Value))(es:List MapEntry)(h:nD aQ aJ es):qP P kt (aQ a) es=some (nC a aJ 0):=by
 unfold qP Instr.findKey;rw[gu,rE hu];simp only[gJ,Rq hs a aJ es 0 h];rfl
theorem abP{kt:TypeId}(hu:P.underlying kt=some (.int .i64)):xq P kt (λn:Int=>.int .i64 n) where
 mR a:=abN rfl λb=>by
  show dz P (Instr.checkKey b (9999+1) kt _)=_;unfold Instr.checkKey;rw[gu,rE hu];rfl
 find a aJ es h:=abO hu (λa b=>by
  show(if IntKind.i64=IntKind.i64 then some (a==b)else none)=_;rw[if_pos rfl];congr 1) a aJ es h
 same a:=by
  show(IntKind.i64==IntKind.i64&&a==a)=true;simp
theorem bytes_beq(a b:ByteArray):(a==b)=decide (a=b):=by
 have:(a==b)=(a.data==b.data):=rfl;rw[this];by_cases h:a=b
 ·subst h;simp
 ·rw[fB h];cases hb:a.data==b.data with
  |false=>rfl
  |true=>exact absurd (ByteArray.ext (eq_of_beq hb)) h
theorem Rs{α:Type}[DecidableEq α](a:α):∀(aJ:List (α×Value)) (i:Nat),(nC a aJ i).map (·.2)=uG a aJ
 |[],_=>rfl
 |(b,v)::l,i=>by
  unfold nC uG;by_cases h:a=b
  ·rw[if_pos h,if_pos h];rfl
  ·rw[if_neg h,if_neg h];exact Rs a l (i+1)
theorem abQ{α:Type}[DecidableEq α]{aQ:α->Value}{kt:TypeId}(hk:xq P kt aQ){h:IH}{m zero:Value}{ok:Bool}{a:α}{aJ:List (α×Value)}{es:List MapEntry}(he:entriesOf m h=some es)(ho:nD aQ aJ es):
 zG P kt zero m (aQ a) ok h=some (match uG a aJ with
  |some v=>cond ok (.tuple #[v,.bool true]) v
  |none=>cond ok (.tuple #[zero,.bool false]) zero):=by
 unfold zG;simp only[he,hk.mR,cond_true,hk.find a aJ es ho];have:=Rs a aJ 0;cases hf:nC a aJ 0 with
 |none=>rw[hf]at this;rw[<- this];rfl
 |some p=>rw[hf]at this;rw[<- this];rfl
theorem Rt{α:Type}[DecidableEq α](a:α):∀(aJ:List (α×Value)) (i j:Nat) (v:Value),nC a aJ i=some (j,v)->∃k,j=i+k/\aJ[k]? =some (a,v)/\∀u,upd a u aJ=aJ.set k (a,u)
 |[],i,j,v,h=>by cases h
 |(b,w)::l,i,j,v,h=>by
  unfold nC at h;split at h
  ·rename_i hab;subst hab;cases h;exact⟨0,rfl,rfl,λu=>by simp[upd]⟩
  ·rename_i hab;obtain⟨k,h1,h2,h3⟩:=Rt a l (i+1) j v h;exact⟨k+1,by omega,by simpa using h2,λu=>by simp[upd,if_neg hab,h3]⟩
theorem Ru{α:Type}[DecidableEq α](a:α):∀(aJ:List (α×Value)) (i:Nat),nC a aJ i=none->(∀p∈aJ,a≠p.1)/\∀u,upd a u aJ=aJ++[(a,u)]
 |[],i,h=>⟨λp hp=>(by cases hp),λu=>rfl⟩
 |(b,w)::l,i,h=>by
  unfold nC at h;split at h
  ·cases h
  ·rename_i hab;obtain⟨h1,h2⟩:=Ru a l (i+1) h;refine⟨λp hp=>?_,λu=>by simp[upd,if_neg hab,h2]⟩;rcases bD.1 hp with rfl|hp
   ·exact hab
   ·exact h1 p hp
structure yO{α:Type}(aQ:α->Value)(aJ:List (α×Value))(es:List MapEntry)(clock:Nat):Prop where
 tF:nD aQ aJ es
 lt:∀e∈es,e.born<clock
 nd:(es.map (·.born)).Nodup
 keys:(aJ.map (·.1)).Nodup
theorem abR{α:Type}[DecidableEq α]{aQ:α->Value}{kt:TypeId}(hk:xq P kt aQ){h:IH}{b:Nat}{a:α}{v:Value}{aJ:List (α×Value)}{es:List MapEntry}{clock:Nat}(hg:h.get b=some (.map es clock))(ho:yO aQ aJ es clock):
 ∃es' clock',BV P kt (.map (some b)) (aQ a) v h=some (h.set b (.map es' clock'))/\yO aQ (upd a v aJ) es' clock':=by
 unfold BV;simp only[hg,hk.mR,cond_true,hk.find a aJ es ho.tF];cases hf:nC a aJ 0 with
 |none=>
  obtain⟨h1,h2⟩:=Ru a aJ 0 hf;refine⟨_,_,rfl,?_⟩;rw[h2,iI];refine⟨?_,λe he=>?_,?_,?_⟩
  ·unfold nD;rw[eB,eB,ho.tF];rfl
  ·rcases gF.1 he with he|he
   ·exact Jq (ho.lt e he)
   ·rw[cz.1 he];exact uR _
  ·rw[eB,r9];refine⟨ho.nd,by simp,λx hx y hy e=>?_⟩;obtain⟨e0,he0,rfl⟩:=gD.1 hx;have:y=clock:=by simpa using hy
   have:=ho.lt e0 he0;omega
  ·rw[eB,r9];refine⟨ho.keys,by simp,λx hx y hy e=>?_⟩;obtain⟨p,hp,rfl⟩:=gD.1 hx;have:y=a:=by simpa using hy
   exact h1 p hp (by rw[e,this])
 |some p=>
  obtain⟨j,u⟩:=p;obtain⟨k,rfl,h2,h3⟩:=Rt a aJ 0 j u hf;rw[bG];have hlen:es.length=aJ.length:=by
   have:=congrArg List.length ho.tF;simpa using this
  have hk':=(dU.1 h2).1;have LB:es[k]? =some es[k]:=bB (by omega);have hkey:es[k].key=aQ a:=by
   have:=congrArg (λl=>l[k]?) ho.tF;simp only[bU,LB,h2,jh]at this;injection this with this;injection this
  simp only[nT,LB,hkey,hk.same,cond_true];refine⟨_,_,rfl,?_⟩;rw[h3,O6];refine⟨?_,λe he=>?_,?_,?_⟩
  ·unfold nD;apply kz;intro i;have:=congrArg (λl=>l[i]?) ho.tF;simp only[bU]at this;simp only[bU,List.getElem?_modify,List.getElem?_set];by_cases hi:k=i
   ·subst hi;simp[LB,hk']
   ·rw[if_neg hi];cases he:es[i]? with
    |none=>rw[he]at this;simp only[Option.map_none]at this⊢;simp[hi,<- this]
    |some e=>rw[he]at this;simp only[jh]at this⊢;simp[hi,<- this]
  ·obtain⟨i,he⟩:=OG.1 he;rw[List.getElem?_modify]at he;cases LC:es[i]? with
   |none=>rw[LC]at he;simp at he
   |some e0=>
    rw[LC]at he;have hlt:=ho.lt e0 (dA LC);injection he with he;rw[<- he];split<;>exact hlt
  ·have:(es.modify k λe=>{e with key:=aQ a,val:=v}).map (·.born)=es.map (·.born):=by
    apply kz;intro i;simp only[bU,List.getElem?_modify];cases es[i]? with
    |none=>rfl
    |some e=>simp only[jh];split<;>rfl
   rw[this];exact ho.nd
  ·have:(aJ.set k (a,v)).map (·.1)=aJ.map (·.1):=by
    apply kz;intro i;simp only[bU,List.getElem?_set];by_cases hi:k=i
    ·subst hi;rw[if_pos rfl,if_pos hk',h2];rfl
    ·rw[if_neg hi]
   rw[this];exact ho.keys
def kQ{α:Type}(aQ:α->Value)(b:Nat)(aJ:List (α×Value)):OA:=⟨λw S=>S=[b]/\∃es clock,w.h.get b=some (.map es clock)/\yO aQ aJ es clock,λa h ⟨h1,es,clock,h2,h3⟩=>⟨h1,es,clock,by rw[h b (by rw[h1];exact cz.2 rfl)];exact h2,h3⟩⟩
def xu{α:Type}(aQ:α->Value)(b:Nat)(aJ:List (α×Value)):aD:=⟨λw=>w.z b/\∃es clock,w.h.get b=some (.map es clock)/\yO aQ aJ es clock,λa ⟨h1,es,clock,h2,h3⟩=>⟨a.z b h1,es,clock,by rw[a.get b h1];exact h2,h3⟩⟩
theorem LD{α:Type}{aQ:α->Value}{b:Nat}{aJ:List (α×Value)}:xm (kQ aQ b aJ) [xu aQ b aJ]:=by
 intro w w' S ⟨h1,es,clock,h2,h3⟩ hle hh hz f hf;rw[cz.1 hf];exact⟨hz b (by rw[h1];exact cz.2 rfl),es,clock,by rw[hh];exact h2,h3⟩
section
variable {B:List Nat} {w0:Wd} {kl kl' bE:List OA} {F:List aD} {K:KO} {ds:List Tmp} {rest:List aW} {n:Nat} {l:List (Nat×Value)} {D:List Deferred} {pm:Option FrameMode} {ro:Option Nat} {d:Nat} {g:Option (Tmp×Bool)}
variable {α:Type} [DecidableEq α] {aQ:α->Value}
theorem St.LF{b:Nat}{aJ:List (α×Value)}{w:Wd}(h:St B w0 (kQ aQ b aJ::kl) F w):∃es clock,yO aQ aJ es clock/\St B w0 (pt b (.map es clock)::kl) F w:=by
 obtain⟨S,⟨S1,S2,⟨q1,es,clock,q3,q4⟩,q2,e⟩,h2,h3⟩:=h.own;exact⟨es,clock,q4,h.agree,h.le,h.fw,⟨S,⟨S1,S2,⟨q1,q3⟩,q2,e⟩,h2,h3⟩,h.facts⟩
theorem GL(aQ:α->Value)
 (next:∀b,R (λh=>aA P ds rest (act n ((d,.map (some b))::l) D pm ro) h K) B w0 (kQ aQ b []::kl) F) (hn:Nat.blt d n=true:=by rfl) (hg:bH l g=true:=by rfl):
 R (λh=>aA P ds (⟨⟨some d,g,.zD⟩,[]⟩::rest) (act n l D pm ro) h K) B w0 kl F:=λw s=>
 iQ hn hg (h':=w.h.new (.map [] 0)) (by simp only[au.run,au.alloc,qg]) (next w.h.next (w.new _) ((s.new _).Ak (A:=pt w.h.next (.map [] 0)) (A':=kQ aQ w.h.next []) λw S hp=>⟨hp.1,[],0,hp.2,⟨rfl,λe he=>(by cases he),Js,Js⟩⟩))
def GM{α:Type}[DecidableEq α](ok:Bool)(zero:Value)(a:α)(aJ:List (α×Value)):Value:=match uG a aJ with
 |some v=>cond ok (.tuple #[v,.bool true]) v
 |none=>cond ok (.tuple #[zero,.bool false]) zero
theorem abS{kt:TypeId}{zero:Value}{m k:Operand}{ok:Bool}{b:Nat}{aJ:List (α×Value)}(hk:xq P kt aQ)(a:α)
 (next:R (λh=>aA P ds rest (act n ((d,GM ok zero a aJ)::l) D pm ro) h K) B w0 kl F)
 (hm:ev l m=.map (some b):=by rfl) (ha:ev l k=aQ a:=by conv=>lhs;whnf) (hs:ai (kQ aQ b aJ) kl kl':=by exact gQ) (hn:Nat.blt d n=true:=by rfl) (hg:bH l g=true:=by rfl):
 R (λh=>aA P ds (⟨⟨some d,g,.lookup kt zero m k ok⟩,[]⟩::rest) (act n l D pm ro) h K) B w0 kl F:=λw s=>by
 obtain⟨es,clock,h2,s1⟩:=(s.fC hs).LF;refine iQ hn hg (v:=GM ok zero a aJ) ?_ (next w s);have:zG P kt zero (.map (some b)) (aQ a) ok w.h=_:=abQ hk (by simp only[entriesOf,s1.get.1]) h2.tF;simp only[au.run,hm,ha,this];rfl
theorem GN{kt:TypeId}{m k x:Operand}{b:Nat}{v:Value}{aJ:List (α×Value)}(hk:xq P kt aQ)(a:α)
 (next:R (λh=>aA P ds rest (act n l D pm ro) h K) B w0 (kQ aQ b (upd a v aJ)::kl') F)
 (hm:ev l m=.map (some b):=by rfl) (ha:ev l k=aQ a:=by conv=>lhs;whnf) (hv:ev l x=v:=by conv=>lhs;whnf) (hs:ai (kQ aQ b aJ) kl kl':=by exact gQ) (hg:bH l g=true:=by rfl):
 R (λh=>aA P ds (⟨⟨none,g,.EX kt m k x⟩,[]⟩::rest) (act n l D pm ro) h K) B w0 kl F:=λw s=>by
 obtain⟨es,clock,h2,s1⟩:=(s.fC hs).LF;obtain⟨es',clock',e1,e2⟩:=abR (v:=v) hk (a:=a) s1.get.1 h2;refine K4 hg (v:=cK) (h':=w.h.set b (.map es' clock')) ?_ (next _ ((s1.write (o':=.map es' clock')).Ak (A:=pt b (.map es' clock')) (A':=kQ aQ b (upd a v aJ)) λw S hp=>⟨hp.1,es',clock',hp.2,e2⟩));simp only[au.run,hm,ha,hv,e1]
theorem LG{aJ:List (α×Value)}{es:List MapEntry}{clock:Nat}(h:yO aQ aJ es clock):es.length=aJ.length:=by
 have:=congrArg List.length h.tF;simpa using this
theorem abT{m:Operand}{b:Nat}{aJ:List (α×Value)}
 (next:R (λh=>aA P ds rest (act n ((d,.int .i64 (aJ.length:Int))::l) D pm ro) h K) B w0 kl F)
 (hm:ev l m=.map (some b):=by rfl) (hs:ai (kQ aQ b aJ) kl kl':=by exact gQ) (hn:Nat.blt d n=true:=by rfl) (hg:bH l g=true:=by rfl):
 R (λh=>aA P ds (⟨⟨some d,g,.BS m⟩,[]⟩::rest) (act n l D pm ro) h K) B w0 kl F:=λw s=>by
 obtain⟨es,clock,h2,s1⟩:=(s.fC hs).LF;refine iQ hn hg (v:=.int .i64 (aJ.length:Int)) ?_ (next w s);simp only[au.run,hm,entriesOf,s1.get.1,sI,LG h2,FO]
def vM{α:Type}(aQ:α->Value)(r b:Nat)(aJ dx:List (α×Value)):OA:=⟨λw S=>S=[r]/\∃es clock seen last,w.h.get b=some (.map es clock)/\w.z b/\yO aQ aJ es clock/\w.h.get r=some (.mapIter (some b) clock seen last)/\last=clock/\
 (∃ve rem:List MapEntry,nD aQ dx ve/\ve.map (·.born)=seen/\(ve++rem).Perm es),
 λa h ⟨h1,es,clock,seen,last,h2,h3,h4,h5,h6,h7⟩=>⟨h1,es,clock,seen,last,by rw[a.get b h3];exact h2,a.z b h3,h4,by rw[h r (by rw[h1];exact cz.2 rfl)];exact h5,h6,h7⟩⟩
theorem GQ{m:Operand}{b:Nat}{aJ:List (α×Value)}
 (next:∀r,R (λh=>aA P ds rest (act n ((d,.pointer (some ⟨r,0,none⟩))::l) D pm ro) h K) B w0 (vM aQ r b aJ []::kl) F)
 (hm:ev l m=.map (some b):=by rfl) (hf:xu aQ b aJ∈F:=by exact nA) (hn:Nat.blt d n=true:=by rfl) (hg:bH l g=true:=by rfl):
 R (λh=>aA P ds (⟨⟨some d,g,.rangeMap m⟩,[]⟩::rest) (act n l D pm ro) h K) B w0 kl F:=λw s=>by
 obtain⟨hz,es,clock,h1,h2⟩:=s.facts _ hf;refine iQ hn hg (h':=w.h.new (.mapIter (some b) clock [] clock)) (by simp only[au.run,hm,h1]) (next w.h.next (w.new _) ?_);have s1:=s.new (.mapIter (some b) clock [] clock);obtain⟨hz',es',clock',h1',h2'⟩:=s1.facts _ hf;refine s1.pE λS hp=>⟨hp.1,es',clock',[],clock,h1',hz',h2',?_,?_,[],es',rfl,rfl,.refl _⟩
 ·have:clock'=clock:=by
   have e:(w.new (.mapIter (some b) clock [] clock)).h.get b=w.h.get b:=by
    show(w.h.new _).get b=_;rw[IH.ik,if_neg (by have:=w.iR b hz;omega)]
   rw[e,h1]at h1';injection h1' with h1';injection h1' with _ h1';exact h1'.symm
  rw[this];exact hp.2
 ·have e:(w.new (.mapIter (some b) clock [] clock)).h.get b=w.h.get b:=by
   show(w.h.new _).get b=_;rw[IH.ik,if_neg (by have:=w.iR b hz;omega)]
  rw[e,h1]at h1';injection h1' with h1';injection h1' with _ h1'
theorem abU{es ve rem:List MapEntry}(hp:(ve++rem).Perm es)(hn:(es.map (·.born)).Nodup):(es.filter λe=>!(ve.map (·.born)).contains e.born).Perm rem:=by
 have hp2:((ve++rem).filter λe=>!(ve.map (·.born)).contains e.born).Perm (es.filter λe=>!(ve.map (·.born)).contains e.born):=hp.filter _;rw[List.filter_append]at hp2;have h1:ve.filter (λe=>!(ve.map (·.born)).contains e.born)=[]:=by
  rw[List.filter_eq_nil_iff];intro e he;simp only[EG,Bool.not_eq_false',List.contains_eq_mem,wC];simp;exact⟨e,he,rfl⟩
 have hnd:((ve++rem).map (·.born)).Nodup:=(hp.map _).nodup_iff.2 hn;rw[eB,r9]at hnd;have h2:rem.filter (λe=>!(ve.map (·.born)).contains e.born)=rem:=by
  rw[List.filter_eq_self];intro e he;simp only[EG,List.contains_eq_mem,decide_eq_false_iff_not];intro hm;exact hnd.2.2 _ hm _ (wG he) rfl
 rw[h1,h2,dI]at hp2;exact hp2.symm
theorem GR{x:Operand}{r b:Nat}{aJ dx:List (α×Value)}
 (more:∀p rem,(dx++p::rem).Perm aJ->R (λh=>aA P ds rest (act n ((d,.tuple #[.bool true,aQ p.1,p.2])::l) D pm ro) h K) B w0 (vM aQ r b aJ (dx++[p])::kl') F)
 (done:dx.Perm aJ->R (λh=>aA P ds rest (act n ((d,.tuple #[.bool false])::l) D pm ro) h K) B w0 (vM aQ r b aJ dx::kl') F)
 (inj:∀a c,aQ a=aQ c->a=c)
 (hx:ev l x=.pointer (some ⟨r,0,none⟩):=by rfl) (hs:ai (vM aQ r b aJ dx) kl kl':=by exact gQ) (hn:Nat.blt d n=true:=by rfl) (hg:bH l g=true:=by rfl):
 R (λh=>aA P ds (⟨⟨some d,g,.uW x⟩,[]⟩::rest) (act n l D pm ro) h K) B w0 kl F:=λw s0=>by
 have s:=s0.fC hs;obtain⟨S,⟨S1,S2,⟨q1,es,clock,seen,last,h1,hz,h2,h3,h4,ve,rem,h5,h6,h7⟩,q2,eS⟩,hnd,hown⟩:=s.own;subst h4 h6;have hpl:=abU h7 h2.nd;have hold:((es.filter λe=>!(ve.map (·.born)).contains e.born).filter λe=>Nat.blt e.born last)=es.filter λe=>!(ve.map (·.born)).contains e.born:=by
  rw[List.filter_eq_self];intro e he;have:=h2.lt e (EJ.1 he).1;rw[qK];exact this
 have hnew:((es.filter λe=>!(ve.map (·.born)).contains e.born).filter λe=>Nat.ble last e.born)=[]:=by
  rw[List.filter_eq_nil_iff];intro e he;have:=h2.lt e (EJ.1 he).1;rw[nM];omega
 have hcl:(!(ve.map (·.born)).isEmpty&&!es.isEmpty&&es.all (λe=>Nat.ble last e.born))=false:=by
  cases es with
  |nil=>simp
  |cons e es=>
   have:=h2.lt e (aR ..);have:Nat.ble last e.born=false:=by
    cases hb:Nat.ble last e.born with
    |false=>rfl
    |true=>rw[nM]at hb;omega
   simp[this]
 have abV:yx (ev l x) w.h=some ((if(es.filter λe=>!(ve.map (·.born)).contains e.born).isEmpty then[(.tuple #[.bool false],w.h)]else[])++
  (es.filter λe=>!(ve.map (·.born)).contains e.born).map λe=>(.tuple #[.bool true,e.key,e.val],w.h.set r (.mapIter (some b) last (ve.map (·.born)++[e.born]) last))):=by
  rw[hx];unfold yx;simp only[h3,h1];rw[hcl];simp only[cond_false,hold,hnew,fU]
 -- a pair for an entry
 have ajm:∀(ajn:List MapEntry) (ajo:List (α×Value)),True:=λ_ _=>trivial;refine .next (rA hg) x rfl rfl _ (by rw[kg];exact abV) ?_
 intro vh hm;rcases gF.1 hm with hm|hm
 ·split at hm
  ·rename_i hemp;rw[cz.1 hm,lg hn];have abW:rem=[]:=by
    have:(es.filter λe=>!(ve.map (·.born)).contains e.born)=[]:=by simpa using hemp
    rw[this]at hpl;exact List.nil_perm.1 hpl|>λh=>h
   refine done ?_ w s;subst abW;rw[fU]at h7;have hm1:=h7.map (λe=>(e.key,e.val));rw[h5,h2.tF]at hm1;exact Ro (λp:α×Value=>(aQ p.1,p.2)) (λp q hpq=>by
    injection hpq with e1 e2;exact Prod.ext (inj _ _ e1) e2) hm1
  ·cases hm
 ·obtain⟨e,he,rfl⟩:=gD.1 hm;have hr:e∈rem:=hpl.mem_iff.1 he;obtain⟨r1,r2,abX⟩:=List.append_of_mem hr
  -- the pair
  obtain⟨i,hi,hie⟩:∃i,i<aJ.length/\es[i]? =some e:=by
   obtain⟨i,hi⟩:=OG.1 (EJ.1 he).1;have:=(dU.1 hi).1;rw[LG h2]at this;exact⟨i,this,hi⟩
  have hpe:(e.key,e.val)=(aQ aJ[i].1,aJ[i].2):=by
   have:=congrArg (λl=>l[i]?) h2.tF;simp only[bU,hie,bB hi,jh]at this;injection this
  injection hpe with hpk hpv;rw[lg hn,hpk,hpv];have hperm:(ve++[e]++(r1++r2)).Perm es:=by
   refine List.Perm.trans ?_ h7;rw[abX,ig];refine List.Perm.append_left _ ?_;exact(List.perm_middle (l₁:=r1) (l₂:=r2) (a:=e)).symm
  have Dk:nD aQ (dx++[aJ[i]]) (ve++[e]):=by
   unfold nD;rw[eB,eB,h5];simp[hpk,hpv]
  obtain⟨LH,abY⟩:∃LH:List (α×Value),(dx++aJ[i]::LH).Perm aJ:=by
   have hm1:=hperm.map (λe=>(e.key,e.val));rw[eB,Dk,h2.tF]at hm1;have hex:∀ls:List MapEntry,(∀x∈ls,∃p:α×Value,(x.key,x.val)=(aQ p.1,p.2))->∃ps:List (α×Value),ls.map (λe=>(e.key,e.val))=ps.map λp=>(aQ p.1,p.2):=by
    intro ls;induction ls with
    |nil=>intro _;exact⟨[],rfl⟩
    |cons x ls ih=>
     intro h;obtain⟨p,hp⟩:=h x (aR ..);obtain⟨ps,hps⟩:=ih λy hy=>h y (dw _ hy);exact⟨p::ps,by rw[lK,lK,hp,hps]⟩
   obtain⟨ps,hps⟩:=hex (r1++r2) (λy hy=>by
    have hy':y∈es:=hperm.mem_iff.1 (oO _ hy);obtain⟨j,hj⟩:=OG.1 hy';have hj':=(dU.1 hj).1;rw[LG h2]at hj';have:=congrArg (λl=>l[j]?) h2.tF;simp only[bU,hj,bB hj',jh]at this;injection this with this;exact⟨_,this⟩)
   rw[hps,<- eB]at hm1;refine⟨ps,?_⟩;have:=Ro (λp:α×Value=>(aQ p.1,p.2)) (λp q hpq=>by
    injection hpq with e1 e2;exact Prod.ext (inj _ _ e1) e2) hm1
   rwa [ig]at this
  refine more aJ[i] LH abY ⟨w.h.set r (.mapIter (some b) last (ve.map (·.born)++[e.born]) last),w.z,λi hi=>w.iR i hi⟩ ?_
  -- the state behind the step
  have s2:St B w0 (pt r (.mapIter (some b) last (ve.map (·.born)) last)::kl') F w:=⟨s.agree,s.le,s.fw,⟨S,⟨S1,S2,⟨q1,h3⟩,q2,eS⟩,hnd,hown⟩,s.facts⟩
  have s3:=s2.write (o':=.mapIter (some b) last (ve.map (·.born)++[e.born]) last);refine s3.pE λS' hp=>⟨hp.1,es,last,_,last,?_,hz,h2,hp.2,rfl,ve++[e],r1++r2,Dk,by rw[eB];rfl,hperm⟩
  have hrb:r≠b:=λer=>by
   have:=s2.own;obtain⟨S0,⟨T1,T2,⟨u1,_⟩,_,ue⟩,_,ho⟩:=this;exact(ho r (by rw[ue,u1];simp)).2.2 (er▸hz)
  show(w.h.set r _).get b=_;rw[IH.kD,if_neg (λer=>hrb er.symm)];exact h1
theorem GU{x:Operand}{r b:Nat}{aJ dx:List (α×Value)}{p:α×Value}
 (next:R (λh=>aA P ds rest (act n ((d,.tuple #[aQ p.1,p.2])::l) D pm ro) h K) B w0 kl F)
 (hx:ev l x=.pointer (some ⟨r,0,none⟩):=by rfl) (hs:ai (vM aQ r b aJ (dx++[p])) kl kl':=by exact gQ) (hn:Nat.blt d n=true:=by rfl) (hg:bH l g=true:=by rfl):
 R (λh=>aA P ds (⟨⟨some d,g,.entry x⟩,[]⟩::rest) (act n l D pm ro) h K) B w0 kl F:=λw s0=>by
 have s:=s0.fC hs;obtain⟨S,⟨S1,S2,⟨q1,es,clock,seen,last,h1,hz,h2,h3,h4,ve,rem,h5,h6,h7⟩,q2,e⟩,hnd,hown⟩:=s.own;subst h4 h6;obtain⟨Rv,x0,Dk,hx0,hx1⟩:∃Rv x0,ve=Rv++[x0]/\x0.key=aQ p.1/\x0.val=p.2:=by
  unfold nD at h5;rw[eB]at h5;obtain⟨a1,a2,e1,e2,e3⟩:=List.map_eq_append_iff.1 h5;obtain⟨x0,a3,e4,e5,e6⟩:=List.map_eq_cons_iff.1 e3;have:a3=[]:=by simpa using e6
  subst this;injection e5 with e5 e7;exact⟨a1,x0,by rw[e1,e4],e5,e7⟩
 have hfind:es.find? (λy=>Nat.beq y.born x0.born)=some x0:=by
  have hm:x0∈es:=h7.mem_iff.1 (nN _ (by rw[Dk];simp));cases hf:es.find? (λy=>Nat.beq y.born x0.born)with
  |none=>
   have:=List.find?_eq_none.1 hf x0 hm;simp[wF]at this
  |some y=>
   have hy:=List.find?_some hf;have hym:=List.mem_of_find?_eq_some hf;have hb:y.born=x0.born:=oM hy;congr 1;exact Rp h2.nd hym hm hb
 refine iQ hn hg (v:=.tuple #[aQ p.1,p.2]) ?_ (next w s0);simp only[au.run,hx,h3,h1];rw[Dk];simp only[eB,lK,List.map_nil,List.getLast?_append,List.getLast?_singleton,Option.some_or,wF,cond_true,hfind,hx0,hx1]
end
end Go.Ideal
namespace Go.Ideal
open Go.Sort
variable {P:Program}
theorem WR.grow{β:ax}{h:IH}{w:World}(hW:WR P β h w)(os:Array Obj):WR P β h (grow w os)/\Eff β h w β h (grow w os):=by
 have hold:∀b,b<w.heap.size->(Go.Sort.grow w os).heap[b]? =w.heap[b]?:=λb hb=>by
  show(w.heap++os)[b]? =_;rw[Oz hb]
 refine⟨⟨hW.dom,hW.live,λi g o h1 h2=>?_,hW.inj⟩,⟨λ_ _=>rfl,aG _,λ_ _ h=>h,λ_ _ _=>rfl,aG _,λ_ _ _=>rfl,rfl,rfl,rfl,?_,λb hb _=>hold b hb,λi g hg hi=>absurd (hW.dom _ _ hg) (by omega),λi g _ _ _ _ hb=>hold _ hb,aG _⟩⟩
 ·have hO:=hW.obj i g o h1 h2;exact hO.congr (hold _ hO.lt)
 ·show w.heap.size<=(w.heap++os).size;rw[Array.size_append];omega
def GV(o:Nat):List Value->Array Value->Array Value
 |[],c=>c
 |v::vs,c=>GV (o+1) vs (c.setIfInBounds o v)
theorem Rw(b:Nat):∀(vs:List Value) (o:Nat) (w:World),w.setCells b o vs=mapBlock w b (GV o vs)
 |[],o,w=>(mapBlock_id w b _ λc e fr h=>rfl).symm
 |v::vs,o,w=>by
  show(w.setCell ⟨b,o,none⟩ v).setCells b (o+1) vs=_;rw[Rw b vs (o+1),setCell_eq,mapBlock_mapBlock];rfl
theorem Rx:∀(vs:List Value) (o:Nat) (c:Array Value) (k:Nat),(GV o vs c)[k]? =if o<=k/\k<o+vs.length/\k<c.size then vs[k - o]? else c[k]?
 |[],o,c,k=>by
  rw[if_neg (by rw[rZ];omega)];rfl
 |v::vs,o,c,k=>by
  show(GV (o+1) vs (c.setIfInBounds o v))[k]? =_;rw[Rx vs (o+1),Array.size_setIfInBounds,oN];by_cases h1:o+1<=k/\k<o+1+vs.length/\k<c.size
  ·rw[if_pos h1,if_pos ⟨by omega,by omega,h1.2.2⟩];rw[show k - o=(k - (o+1))+1 by omega,pY]
  ·rw[if_neg h1,WJ];by_cases h2:o=k
   ·subst h2;rw[if_pos rfl];by_cases h3:o<c.size
    ·rw[if_pos h3,if_pos ⟨aG _,by omega,h3⟩,qc];rfl
    ·rw[if_neg h3,if_neg (by omega)];exact(qa (by omega)).symm
   ·rw[if_neg h2,if_neg (by omega)]
theorem setCells_putRow{α:Type}[Inhabited α](enc:α->Value)(w:World)(b o:Nat)(d:Array α):w.setCells b o (d.toList.map enc)=putRow enc w b o d:=by
 rw[Rw];unfold putRow;refine mapBlock_congr w b _ _ λc e fr hc=>?_;apply Ow;intro k;rw[Rx,putCells,Array.getElem?_mapIdx,bI,Array.length_toList];by_cases hk:k<c.size
 ·by_cases h:o<=k/\k<o+d.size
  ·rw[if_pos ⟨h.1,h.2,hk⟩,OH hk,jh,if_pos h,bU,uT,OH (by omega)];rw[jh,getElem!_pos d _ (by omega)]
  ·rw[if_neg (λq=>h ⟨q.1,q.2.1⟩),OH hk,jh,if_neg h]
 ·rw[if_neg (by omega),qa (by omega)];rfl
theorem GX{α:Type}:∀(l:List α) (o:Nat) (xs:List α),o+xs.length<=l.length->∃r,gW l o xs=some r
 |[],o,xs,h=>by
  have h1:xs=[]:=qM.1 (by rw[rZ]at h;omega);have h2:o=0:=by rw[rZ]at h;omega
  exact⟨[],by rw[O4,if_pos ⟨h1,h2⟩]⟩
 |c::l,0,[],h=>⟨_,O5 c l⟩
 |c::l,0,x::xs,h=>by
  obtain⟨r,hr⟩:=GX l 0 xs (by simp only[oN]at h;omega);exact⟨x::r,by rw[JL,hr];rfl⟩
 |c::l,o+1,xs,h=>by
  obtain⟨r,hr⟩:=GX l o xs (by simp only[oN]at h;omega);exact⟨c::r,by rw[JM,hr];rfl⟩
end Go.Ideal
namespace Go.Ideal
variable {P:Program}
def GY{α:Type}(P:Program)(vals:α->List Value)(fn:Fn)(first cap:List Value)(F:List aD)(X:List α->Prop):Prop:=
 ∀(S:Type) (inv:S->List OA) (ok:List α->S->Prop) (step:S->α->S×Bool) (s0:S) (xy:Fn) (y1 y2:List Value) (F':List aD),ok [] s0->
  (∀vs s x rest,ok vs s->X (vs++x::rest)->(step s x).2=true->ok (vs++[x]) (step s x).1)->
  (∀vs s x rest,ok vs s->X (vs++x::rest)->aX P xy (y1++vals x) y2 (inv s) F' (λ_:Unit=>.bool (step s x).2) (λ_=>inv (step s x).1) (λ_=>[]) (λ_=>True))->
  aX P fn (first++[.func xy ⟨y1⟩ ⟨y2⟩]) cap (inv s0) (F++F') (λ_:List α=>.tuple ⟨[]⟩) (λxs=>inv (gz step s0 xs)) (λ_=>[]) X
section
variable {B:List Nat} {w0:Wd} {kl kl' bE:List OA} {F:List aD} {K:KO} {n:Nat} {l:List (Nat×Value)} {D:List Deferred} {pm:Option FrameMode} {ro:Option Nat}
def AU{Z:Type}(B:List Nat)(w0:Wd)(n:Nat)(l3:Z->List (Nat×Value))(lo:Nat)(o:di)(kl:Z->List OA)(F:List aD):KO:=λoo a h=>
 oo=.normal/\∃z,a=act n (l3 z) [] none (some lo)/\∃w:Wd,w.h=h/\St B w0 (pt lo o::kl z) F w
theorem LJ{Z:Type}{l3:Z->List (Nat×Value)}{lo:Nat}{o:di}{k3:Z->List OA}(z:Z)(hl:l3 z=l)(hk:aI (pt lo o::k3 z) kl bE:=by exact pI):R (λh=>AU B w0 n l3 lo o k3 F .normal (act n l [] none (some lo)) h) B w0 kl F:=λw s=>
 ⟨rfl,z,by rw[hl],w,rfl,(s.jJ hk).drop⟩
theorem Ry{Y Z:Type}{lo:Nat}{L:lT}{args:List Value}{k1:List OA}{out:Y->Out}{k1':Y->List OA}{fs:Y->List aD}{pr:Y->Prop}(l:List (Nat×Value))(l3:Z->List (Nat×Value))(k3:Z->List OA)(hl:L.tmps=fJ l)(hst:L.state=.ready)(hps:L.params.all (λp=>Nat.blt p L.n)=true)(hlen:L.params.length=args.length)
 (ha:∀B w0,R (λh=>EV P L.assign (act L.n ((L.params.zip args).reverse++l) [] none (some lo)) h (AU B w0 L.n l3 lo (.loop L) k3 F)) B w0 (pt lo (.loop L)::k1) F)
 (hb:∀z B w0,R (λh=>EV P L.body (act L.n (l3 z) [] none (some lo)) h (yM B w0 lo L out k1' fs pr)) B w0 (pt lo (.loop (uB L))::k3 z) F):
 aX P (.yield lo) args [] (pt lo (.loop L)::k1) F (λy:Y=>.bool (kP (out y))) (λy=>pt lo (.loop (ku L (out y)))::k1' y) fs pr:=by
 intro B w s;obtain⟨l2,e1,e2⟩:=Q8 L.n L.params args l hps hlen;refine .round lo rfl rfl L s.get.1 hlen.symm _ (by
  rw[hl];show EV P L.assign (aN.mk L.n (sG L.n L.params args (fJ l)) [] none (some lo)) w.h _;rw[e1,e2];exact ha B w w s) ?_ ?_
 ·rintro o a h ⟨rfl,z,rfl,w1,rfl,s1⟩;exact⟨rfl,L,s1.get.1,hst⟩
 ·rintro a h r1 ⟨_,z,rfl,w1,rfl,s1⟩ hr;have hr1:r1=L:=by
   have:=s1.get.1;rw[hr]at this;injection this with this;injection this
  subst hr1;have hb:=hb z B w _ (s1.write (o':=.loop (uB r1)));refine Qs hb _ ?_;rintro o a h ⟨hd,w2,y,rfl,rfl,hn,s2,hp⟩;refine⟨uB r1,s2.get.1,hd,?_⟩;have fin:∀o',kP o'=kP (out y)->ku r1 o'=ku r1 (out y)->Left B w (λy:Y=>.bool (kP (out y))) (λy=>pt lo (.loop (ku r1 (out y)))::k1' y) fs pr (.ok (.bool (kP (out y)))) none (w2.h.set lo (.loop (ku r1 (out y)))):=λo' _ _=>
   ⟨rfl,_,y,rfl,s2.write,rfl,hp⟩
  cases ho:out y with
  |normal=>have:=fin .normal (by rw[ho]) (by rw[ho]);rw[ho]at this;exact this
  |exit j=>have:=fin (.exit j) (by rw[ho]) (by rw[ho]);rw[ho]at this;exact this
  |ret=>have:=fin .ret (by rw[ho]) (by rw[ho]);rw[ho]at this;exact this
  |panic ch=>rw[ho]at hn;exact hn.elim
theorem abZ{S α Z:Type}{f:Operand}{ps:List Tmp}{assign body:bV}{fn:Fn}{first captured:List Value}{vals:α->List Value}{F1:List aD}{X:List α->Prop}(step:S->α->S×Out)(inv:S->List OA)(ok:List α->S->Prop)(s0:S)(h0:ok [] s0)
 (hok:∀vs s x rest,ok vs s->X (vs++x::rest)->(step s x).2=.normal->ok (vs++[x]) (step s x).1) (hit:GY P vals fn first captured F1 X)
 (hf:ev l f=.func fn ⟨first⟩ ⟨captured⟩) (hps:ps.all (λp=>Nat.blt p n)=true) (hlen:∀x,ps.length=(vals x).length) (hk:aI (inv s0) kl bE) (hF:Sub F1 F) (gY:∀s x,yL (step s x).2)
 (l3:α->Z->List (Nat×Value)) (k3:α->Z->List OA)
 (ha:∀(s:S) (x:α) (lo:Nat) (o:di) B w0,R (λh=>EV P assign (act n ((ps.zip (vals x)).reverse++l) [] none (some lo)) h (AU B w0 n (l3 x) lo o (λz=>k3 x z++inv s) F)) B w0 (pt lo o::inv s) F)
 (hb:∀(vs:List α) (s:S) (x:α) (rest:List α) (z:Z) (lo:Nat) (L:lT) B w0,ok vs s->X (vs++x::rest)->R (λh=>EV P body (act n (l3 x z) [] none (some lo)) h (yM B w0 lo L (λ_:Unit=>(step s x).2) (λ_=>inv (step s x).1) (λ_=>[]) (λ_=>True))) B w0 (pt lo (.loop (uB L))::(k3 x z++inv s)) F)
 (next:∀r xs,X xs->R (λh=>K (iL step s0 xs).2 (act n l ({target:=.collected r,args:= #[]}::D) pm none) h) B w0 (inv (iL step s0 xs).1++(pt r (.gM true)::bE)) F):
 R (λh=>EV P (.rangeFunc f ps assign body) (act n l D pm none) h K) B w0 kl F:=by
 refine Q9 (Y:=List α) (k1:=inv s0) (F1:=F1++F) (GG:=λ_=>.tuple ⟨[]⟩) (out:=λxs=>(iL step s0 xs).2) (k1':=λxs=>inv (iL step s0 xs).1) (fs:=λ_=>[]) (pr:=X) hf ?_ hk (hF.app (Sub.refl' F [])) (λr y hy=>next r y hy);intro lo r;have:=hit (S×Out) (λso=>pt lo (.loop (ku ⟨.ready,none,fJ l,n,ps,assign,body,r⟩ so.2))::inv so.1) (λvs so=>so.2=.normal/\ok vs so.1) (λso x=>(step so.1 x,kP (step so.1 x).2)) (s0,.normal) (.yield lo) [] [] F ⟨rfl,h0⟩
  (λvs so x rest ho hx h=>by
    have h:kP (step so.1 x).2=true:=h;have hn:(step so.1 x).2=.normal:=by
     cases e:(step so.1 x).2 with
     |normal=>rfl
     |_=>rw[e]at h;cases h
    exact⟨hn,hok vs so.1 x rest ho.2 hx hn⟩)
  (λvs so x rest ho hx=>by
    obtain⟨s,o⟩:=so;obtain⟨hn,ho⟩:=ho;have hn:o=.normal:=hn;subst hn;exact Ry (Y:=Unit) (L:=⟨.ready,none,fJ l,n,ps,assign,body,r⟩) (args:=vals x) (k1:=inv s) (out:=λ_=>(step s x).2) (k1':=λ_=>inv (step s x).1) (fs:=λ_=>[]) (pr:=λ_=>True) l (l3 x) (λz=>k3 x z++inv s) rfl rfl hps (hlen x)
     (λB w0=>ha s x lo _ B w0) (λz B w0=>hb vs s x rest z lo _ B w0 ho hx))
 have e:(λxs:List α=>pt lo (.loop (ku ⟨.ready,none,fJ l,n,ps,assign,body,r⟩ (gz (λ(so:S×Out) x=>(step so.1 x,kP (step so.1 x).2)) (s0,.normal) xs).2))::inv (gz (λ(so:S×Out) x=>(step so.1 x,kP (step so.1 x).2)) (s0,.normal) xs).1)=λxs=>pt lo (.loop (ku ⟨.ready,none,fJ l,n,ps,assign,body,r⟩ (iL step s0 xs).2))::inv (iL step s0 xs).1:=by
  funext xs
  rw[Ls]
 have h2:aX P fn (first++[.func (.yield lo) ⟨[]⟩ ⟨[]⟩]) captured (pt lo (.loop ⟨.ready,none,fJ l,n,ps,assign,body,r⟩)::inv s0) (F1++F) (λ_:List α=>.tuple ⟨[]⟩) (λxs=>pt lo (.loop (ku ⟨.ready,none,fJ l,n,ps,assign,body,r⟩ (gz (λ(so:S×Out) x=>(step so.1 x,kP (step so.1 x).2)) (s0,.normal) xs).2))::inv (gz (λ(so:S×Out) x=>(step so.1 x,kP (step so.1 x).2)) (s0,.normal) xs).1) (λ_=>[]) X:=this;rw[e]at h2;exact h2
theorem Rz{S α Z:Type}{f:Operand}{ps:List Tmp}{assign body:bV}{fn:Fn}{first captured:List Value}{vals:α->List Value}{F1:List aD}{X:List α->Prop}(step:S->α->S×Out)(inv:S->List OA)(ok:List α->S->Prop)(s0:S)(l3:α->Z->List (Nat×Value))(k3:α->Z->List OA)(h0:ok [] s0)
 (hok:∀vs s x rest,ok vs s->X (vs++x::rest)->(step s x).2=.normal->ok (vs++[x]) (step s x).1) (hit:GY P vals fn first captured F1 X)
 (ha:∀(s:S) (x:α) (lo:Nat) (o:di) B w0,R (λh=>EV P assign (act n ((ps.zip (vals x)).reverse++l) [] none (some lo)) h (AU B w0 n (l3 x) lo o (λz=>k3 x z++inv s) F)) B w0 (pt lo o::inv s) F)
 (hb:∀(vs:List α) (s:S) (x:α) (rest:List α) (z:Z) (lo:Nat) (L:lT) B w0,ok vs s->X (vs++x::rest)->R (λh=>EV P body (act n (l3 x z) [] none (some lo)) h (yM B w0 lo L (λ_:Unit=>(step s x).2) (λ_=>inv (step s x).1) (λ_=>[]) (λ_=>True))) B w0 (pt lo (.loop (uB L))::(k3 x z++inv s)) F)
 (next:∀r xs,X xs->R (λh=>K (iL step s0 xs).2 (act n l ({target:=.collected r,args:= #[]}::D) pm none) h) B w0 (inv (iL step s0 xs).1++(pt r (.gM true)::bE)) F)
 (gY:∀s x,yL (step s x).2)
 (hf:ev l f=.func fn ⟨first⟩ ⟨captured⟩:=by rfl) (hps:ps.all (λp=>Nat.blt p n)=true:=by rfl) (hlen:∀x,ps.length=(vals x).length:=by intro _;rfl)
 (hk:aI (inv s0) kl bE:=by exact pI) (hF:Sub F1 F:=by exact nZ):
 R (λh=>EV P (.rangeFunc f ps assign body) (act n l D pm none) h K) B w0 kl F:=
 abZ step inv ok s0 h0 hok hit hf hps hlen hk hF gY l3 k3 ha hb next
end
end Go.Ideal
namespace Go.Ideal
variable {P:Program}
def aP{α:Type}(E:Enc α)(aa:List (α×E.Y)):List Value:=aa.flatMap λp=>E.pat p.1 p.2
theorem rH{α:Type}{E:Enc α}:∀aa:List (α×E.Y),(aP E aa).length=aa.length*E.n
 |[]=>by simp[aP]
 |p::l=>by
  have ih:=rH l;unfold aP at ih⊢;rw[Jt,dN,ih,E.len,oN,lN];omega
theorem yP{α:Type}{E:Enc α}:∀{aa:List (α×E.Y)} {k:Nat} {p:α×E.Y} {j:Nat} {u:Value},aa[k]? =some p->(E.pat p.1 p.2)[j]? =some u->(aP E aa)[k*E.n+j]? =some u
 |[],k,p,j,u,h,_=>by cases h
 |q::l,0,p,j,u,h,hj=>by
  cases h;unfold aP;rw[Jt,oQ,bG,jF (dU.1 hj).1];exact hj
 |q::l,k+1,p,j,u,h,hj=>by
  have ih:=yP (aa:=l) (k:=k) (by simpa using h) hj;unfold aP at ih⊢;rw[Jt,lM (by rw[E.len,lN];omega),E.len,show(k+1)*E.n+j - E.n=k*E.n+j by rw[lN];omega];exact ih
theorem GZ{α:Type}{E:Enc α}{j:Nat}{v:Value}:∀{aa:List (α×E.Y)} {k:Nat} {p p':α×E.Y},aa[k]? =some p->(E.pat p.1 p.2).set j v=E.pat p'.1 p'.2->j<E.n->(aP E aa).set (k*E.n+j) v=aP E (aa.set k p')
 |[],k,p,p',h,_,_=>by cases h
 |q::l,0,p,p',h,hp,hj=>by
  cases h;unfold aP;rw[Jt,oQ,bG,List.set_append_left _ _ (by rw[E.len];exact hj),hp];rfl
 |q::l,k+1,p,p',h,hp,hj=>by
  have ih:=GZ (aa:=l) (k:=k) (by simpa using h) hp hj;unfold aP at ih⊢;rw[Jt,EK _ _ (by rw[E.len,lN];omega),E.len,show(k+1)*E.n+j - E.n=k*E.n+j by rw[lN];omega,ih];rfl
def qo{α:Type}(E:Enc α)(v:Value)(aa:List (α×E.Y)):aD:=
 ⟨λw=>(aa=[]/\∃a c,v=.slice a 0 c/\Lh E.n a)\/∃i o f c cells,(v=.slice (some ⟨i,o,some f⟩) aa.length c/\aa.length<=c/\(f=0\/f=E.n))/\Fz w i cells/\
  ∀(k:Nat) p,aa[k]? =some p->(∀(j:Nat) u,(E.pat p.1 p.2)[j]? =some u->cells[o+k*E.n+j]? =some u)/\∀f∈E.fs p.1 p.2,f.p w,
  λa h=>by
   rcases h with h|⟨i,o,f,c,cells,h1,h2,h3⟩
   ·exact .inl h
   ·refine .inr ⟨i,o,f,c,cells,h1,h2.mono a,λk x hk=>?_⟩;obtain⟨q1,q2⟩:=h3 k x hk;exact⟨q1,λf hf=>f.mono a (q2 f hf)⟩⟩
def og{α:Type}(E:Enc α)(aa:List (α×E.Y)):aD:=⟨λw=>∀p∈aa,∀f∈E.fs p.1 p.2,f.p w,λa h p hp f hf=>f.mono a (h p hp f hf)⟩
theorem G5{α:Type}{E:Enc α}{v:Value}{aa:List (α×E.Y)}{w:Wd}(h:(qo E v aa).p w):(og E aa).p w:=by
 intro p hp f hf;rcases h with⟨rfl,_⟩|⟨i,o,fl,c,cells,_,_,h3⟩
 ·cases hp
 ·obtain⟨k,hk⟩:=OG.1 hp;exact(h3 k p hk).2 f hf
theorem ab0{α:Type}{E:Enc α}{v:Value}{aa:List (α×E.Y)}{w:Wd}(h:(qo E v aa).p w):(ae E v (aa.map (·.1))).p w:=by
 rcases h with⟨rfl,h⟩|⟨i,o,f,c,cells,h1,h2,h3⟩
 ·exact .inl ⟨rfl,h⟩
 ·refine .inr ⟨i,o,f,c,cells,by rw[bI];exact h1,h2,λk x hk=>?_⟩;rw[bU]at hk;cases hp:aa[k]? with
  |none=>rw[hp]at hk;cases hk
  |some p=>
   rw[hp]at hk;cases hk;exact⟨p.2,h3 k p hp⟩
theorem RA{α:Type}{E:Enc α}{v:Value}{xs:List α}{w:Wd}(h:(ae E v xs).p w):∃aa:List (α×E.Y),aa.map (·.1)=xs/\(qo E v aa).p w:=by
 rcases h with⟨rfl,h⟩|⟨i,o,f,c,cells,h1,h2,h3⟩
 ·exact⟨[],rfl,.inl ⟨rfl,h⟩⟩
 ·obtain⟨l,hl,hp⟩:=Lr (p:=λk (p:α×E.Y)=>xs[k]? =some p.1/\(∀(j:Nat) u,(E.pat p.1 p.2)[j]? =some u->cells[o+k*E.n+j]? =some u)/\∀f∈E.fs p.1 p.2,f.p w) xs.length (λk hk=>by
   obtain⟨y,q1,q2⟩:=h3 k xs[k] (bB hk);exact⟨(xs[k],y),bB hk,q1,q2⟩)
  have hm:l.map (·.1)=xs:=by
   apply kz;intro k;rw[bU];by_cases hk:k<xs.length
   ·have hk':k<l.length:=by omega
    rw[bB hk',jh,(hp k l[k] (bB hk')).1]
   ·rw[jg (by omega),jg (by omega)];rfl
  exact⟨l,hm,.inr ⟨i,o,f,c,cells,by rw[hl];exact h1,h2,λk p hk=>(hp k p hk).2⟩⟩
def ar{α:Type}(E:Enc α)(v:Value)(aa:List (α×E.Y)):OA:=
 ⟨λw S=>(aa=[]/\(∃a,v=.slice a 0 0/\Lh E.n a)/\S=[])\/∃b f,v=.slice (some ⟨b,0,some f⟩) aa.length aa.length/\(f=0\/f=E.n)/\S=[b]/\w.h.get b=some (.cells (aP E aa)),
  λa h hp=>by
   rcases hp with hp|⟨b,f,h1,h2,h3,h4⟩
   ·exact .inl hp
   ·exact .inr ⟨b,f,h1,h2,h3,by rw[h b (by rw[h3];exact cz.2 rfl)];exact h4⟩⟩
theorem ab1{α:Type}{E:Enc α}{v:Value}{aa:List (α×E.Y)}(w w':Wd)(S:List Nat)(hp:(ar E v aa).p w S)(hle:w.Le w')(hh:w'.h=w.h)(hz:∀i∈S,w'.z i)(ha:(og E aa).p w):(qo E v aa).p w':=by
 rcases hp with⟨h1,⟨a,h2,h3⟩,_⟩|⟨b,f,h1,h2,h3,h4⟩
 ·exact .inl ⟨h1,a,0,h2,h3⟩
 ·refine .inr ⟨b,0,f,_,_,⟨h1,aG _,h2⟩,⟨hz b (by rw[h3];exact cz.2 rfl),.inl (by rw[hh];exact h4)⟩,λk p hk=>⟨λj u hj=>?_,λf hf=>f.mono hle (ha p (dA hk) f hf)⟩⟩;rw[bG];exact yP hk hj
section
variable {B:List Nat} {w0:Wd} {kl kl' bE:List OA} {F:List aD} {K:KO} {ds:List Tmp} {rest:List aW} {n:Nat} {l:List (Nat×Value)} {D:List Deferred} {pm:Option FrameMode} {ro:Option Nat} {d:Nat} {g:Option (Tmp×Bool)}
variable {α:Type} {E:Enc α} {v:Value}
theorem rJ{xs:List α}{Q:IH->Prop}(E:Enc α)(v:Value)(h:∀aa:List (α×E.Y),aa.map (·.1)=xs->R Q B w0 kl (qo E v aa::F))(hf:ae E v xs∈F:=by exact nA):R Q B w0 kl F:=λw s=>by
 obtain⟨aa,h1,h2⟩:=RA (s.facts _ hf);exact h aa h1 w ⟨s.agree,s.le,s.fw,s.own,λf hf=>by
  rcases bD.1 hf with rfl|hf
  ·exact h2
  ·exact s.facts f hf⟩
theorem RB{aa:List (α×E.Y)}{Q:IH->Prop}(h:R Q B w0 kl (og E aa::F))(hf:qo E v aa∈F:=by exact nA):R Q B w0 kl F:=λw s=>
 h w ⟨s.agree,s.le,s.fw,s.own,λf hf'=>by
  rcases bD.1 hf' with rfl|hf'
  ·exact G5 (s.facts _ hf)
  ·exact s.facts f hf'⟩
theorem ab2{aa:List (α×E.Y)}{Q:IH->Prop}(h:R Q B w0 kl' (qo E v aa::ae E v (aa.map (·.1))::F))(ha:∀w,(∀f∈F,f.p w)->(og E aa).p w)(hk:ai (ar E v aa) kl kl':=by exact gQ):R Q B w0 kl F:=λw s=>by
 have hall:=ha w s.facts
 -- freeze by hand
 obtain⟨S,⟨S1,S2,q1,q2,e⟩,h2,h3⟩:=(s.fC hk).own;subst e;let w':Wd:=⟨w.h,λi=>w.z i\/i∈S1,λi hi=>hi.elim (w.iR i) λhi=>(h3 i (nN _ hi)).2.1⟩
 have hle:w.Le w':=⟨aG _,λi hi=>.inl hi,λ_ _=>rfl⟩
 have hnd:=r9.1 h2;have hel:=ab1 w w' S1 q1 hle rfl (λi hi=>.inr hi) hall;refine h w' ⟨s.agree,s.le.trans hle,λi hi hz=>?_,⟨S2,iE.loc hle (λ_ _=>rfl) q2,hnd.2.1,λi hi=>?_⟩,λf hf=>?_⟩
 ·rcases hz with hz|hz
  ·exact s.fw i hi hz
  ·rcases(h3 i (nN _ hz)).1 with q|q
   ·omega
   ·exact .inr q
 ·have:=h3 i (oO _ hi);refine⟨this.1,this.2.1,λhz=>hz.elim this.2.2 λhm=>?_⟩;exact hnd.2.2 i hm i hi rfl
 ·rcases bD.1 hf with rfl|hf
  ·exact hel
  ·rcases bD.1 hf with rfl|hf
   ·exact ab0 hel
   ·exact f.mono hle (s.facts f hf)
theorem ab3{α:Type}(E:Enc α){aa:List (α×E.Y)}{Q:IH->Prop}{b f m:Nat}(hm:m=aa.length)(hf:f=0\/f=E.n)(h:R Q B w0 (ar E (.slice (some ⟨b,0,some f⟩) m m) aa::kl') F)(hk:ai (pt b (.cells (aP E aa))) kl kl':=by exact gQ):R Q B w0 kl F:=λw s=>by
 refine h w ((s.fC hk).Ak (A:=pt b (.cells (aP E aa))) λw S hp=>.inr ⟨b,f,by rw[hm],hf,hp.1,hp.2⟩)
theorem ab4{x:Operand}{t e:TypeId}{m c:Nat}(hu:P.underlying t=some (.slice e))(hx:ev l x=.slice none m c):Pu P (ev l) (.bin .eql t x (.const (.slice none 0 0))) (.bool true):=λh=>by
 have he:dz P (Op.equal t (.slice none m c) (.slice none 0 0))=some true:=by
  show dz P (Op.equalIn (9999+1) t (.slice none m c) (.slice none 0 0))=_;unfold Op.equalIn;rw[gu,rE hu];rfl
 have h1:ji P (do eqGuard .eql t x (.const (.slice none 0 0)) (.slice none m c) (.slice none 0 0);binOp .eql t (.slice none m c) (.slice none 0 0))=some (.bool true):=by
  unfold ji;rw[gu,Am (by intro c e;cases e) (by intro e;cases e)];simp only[gJ,binOp];rw[gu,he];rfl
 have h2:nk P .eql t x (.const (.slice none 0 0)) (.slice none m c) (.slice none 0 0)=some (.bool true):=by
  by_cases hmc:m=0/\c=0
  ·show cond (bM (Value.slice none m c)&&bM (Value.slice none 0 0)) (ji P (do eqGuard .eql t x (.const (.slice none 0 0)) (.slice none m c) (.slice none 0 0);binOp .eql t (.slice none m c) (.slice none 0 0))) _=_;rw[h1];obtain⟨rfl,rfl⟩:=hmc;simp[bM]
  ·have e0:bM (Value.slice none m c)=false:=by
    cases hb:bM (Value.slice none m c)with
    |false=>rfl
    |true=>exact absurd (by simpa[bM]using hb) hmc
   have e1:qR P t (.slice none m c) (.slice none 0 0)=some true:=by
    unfold qR;rw[hu]
   show cond (bM (Value.slice none m c)&&bM (Value.slice none 0 0)) _ (match qR P t (.slice none m c) (.slice none 0 0)with|some b=>some (Value.bool b)|none=>none)=_;rw[e0,e1];rfl
 simp only[au.run,hx];show(match nk P .eql t x (.const (.slice none 0 0)) (.slice none m c) (.slice none 0 0)with|some v=>some (v,h)|none=>none)=_;rw[h2]
theorem G6{x:Operand}{t e:TypeId}{a:Addr}{m c:Nat}(hu:P.underlying t=some (.slice e))(hx:ev l x=.slice (some a) m c):Pu P (ev l) (.bin .eql t x (.const (.slice none 0 0))) (.bool false):=λh=>by
 have h2:nk P .eql t x (.const (.slice none 0 0)) (.slice (some a) m c) (.slice none 0 0)=some (.bool false):=by
  have:qR P t (.slice (some a) m c) (.slice none 0 0)=some false:=by
   unfold qR;rw[hu]
  show(match qR P t (.slice (some a) m c) (.slice none 0 0)with|some b=>some (Value.bool b)|none=>none)=_;rw[this]
 simp only[au.run,hx];show(match nk P .eql t x (.const (.slice none 0 0)) (.slice (some a) m c) (.slice none 0 0)with|some v=>some (v,h)|none=>none)=_;rw[h2]
theorem RD{e:TypeId}{size bytes b c:Nat}{a:Option Addr}{s x:Operand}
 (next:R (λh=>aA P ds rest (act n ((d,.slice (some ⟨b,0,some 0⟩) 0 0)::l) D pm ro) h K) B w0 (pt b (.cells [])::kl') F)
 (hs:ev l s=.slice (some ⟨b,0,some 0⟩) 0 0:=by rfl) (hx:ev l x=.slice a 0 c:=by rfl) (hk:ai (pt b (.cells [])) kl kl':=by exact gQ) (hn:Nat.blt d n=true:=by rfl) (hg:bH l g=true:=by rfl):
 R (λh=>aA P ds (⟨⟨some d,g,.append e size bytes s x⟩,[]⟩::rest) (act n l D pm ro) h K) B w0 kl F:=λw st=>by
 have st1:=st.fC hk;refine iQ hn hg (v:=.slice (some ⟨b,0,some 0⟩) 0 0) (h':=w.h.set b (.cells [])) ?_ (next ⟨w.h.set b (.cells []),w.z,λi hi=>w.iR i hi⟩ st1.write);have h0:∀m,Nat.mul 0 m=0:=λm=>oQ m;have e1:w.h.storeAt b 0 []=some (w.h.set b (.cells [])):=by
  unfold IH.storeAt;simp only[st1.get.1];rfl
 simp only[au.run,hx,hs,kY,um,nR];show cond (Nat.ble (Nat.mul (Nat.add 0 0) bytes) small&&Nat.ble (Nat.mul (Nat.add 0 0) size) small&&Nat.ble (Nat.add 0 0) small) (cond (Nat.ble (Nat.add 0 0) 0) (match w.h.storeAt b (Nat.add 0 (Nat.mul 0 size)) []with|some h=>some (Value.slice (some ⟨b,0,some 0⟩) (Nat.add 0 0) 0,h)|none=>none) _) none=_;rw[show Nat.add 0 0=0 from rfl,h0,h0,show Nat.add 0 0=0 from rfl,e1];have:(Nat.ble 0 small&&Nat.ble 0 small&&Nat.ble 0 small)=true:=rfl;rw[this];rfl
theorem ab5{α:Type}{e:TypeId}{size bytes b:Nat}{s x:Operand}(E:Enc α)(aa:List (α×E.Y))(hne:0<aa.length)(hm:aa.length*bytes<=1073741824/\aa.length*size<=1073741824/\aa.length<=1073741824)
 (next:∀b',R (λh=>aA P ds rest (act n ((d,.slice (some ⟨b',0,some size⟩) aa.length aa.length)::l) D pm ro) h K) B w0 (pt b' (.cells (aP E aa))::kl') F)
 (hs:ev l s=.slice (some ⟨b,0,some 0⟩) 0 0:=by rfl) (hx:ev l x=v:=by conv=>lhs;whnf) (hf:qo E v aa∈F:=by exact nA) (hz:E.n=size:=by rfl) (hk:ai (pt b (.cells [])) kl kl':=by exact gQ) (hn:Nat.blt d n=true:=by rfl) (hg:bH l g=true:=by rfl):
 R (λh=>aA P ds (⟨⟨some d,g,.append e size bytes s x⟩,[]⟩::rest) (act n l D pm ro) h K) B w0 kl F:=λw st=>by
 subst hz;have st1:=st.fC hk;have hat:At w.h b (.cells []):=st.at_ hk;obtain⟨k,hk'⟩:∃k,aa.length=k+1:=⟨aa.length - 1,by omega⟩
 rcases st.facts _ hf with⟨rfl,_⟩|⟨i,o,f,c,cells,⟨e1,hc⟩,q2,q3⟩
 ·simp at hne
 have hfl:=rH aa;have hcells:∀j,j<aa.length*E.n->cells[o+j]? =(aP E aa)[j]?:=λj hj=>by
  have hn0:0<E.n:=by
   rcases BG E.n with h0|h0
   ·rw[h0]at hj;omega
   ·exact h0
  have hd:j/E.n<aa.length:=by rw[OE hn0];exact hj
  have hmod:=uU j hn0;have hpk:=bB hd;have hu:(E.pat (aa[j/E.n]).1 (aa[j/E.n]).2)[j%E.n]? =some ((E.pat (aa[j/E.n]).1 (aa[j/E.n]).2)[j%E.n]'(by rw[E.len];exact hmod)):=bB _;have h1:=(q3 (j/E.n) _ hpk).1 (j%E.n) _ hu;have h2:=yP hpk hu;have xh:j/E.n*E.n+j%E.n=j:=by rw[zo];exact Nat.div_add_mod j E.n
  rw[kX,xh]at h1;rw[xh]at h2;rw[h1,h2]
 have hlen:o+aa.length*E.n<=cells.length\/aa.length*E.n=0:=by
  rcases BG (aa.length*E.n)with h0|h0
  ·exact .inr h0
  ·left;have h1:=hcells (aa.length*E.n - 1) (by omega);have hx0:(aP E aa)[aa.length*E.n - 1]? =some ((aP E aa)[aa.length*E.n - 1]'(by omega)):=bB _;rw[hx0]at h1;have:=(dU.1 h1).1;omega
 have hpos:0<E.n\/E.n=0:=by omega
 have hread:w.h.dV i o (aa.length*E.n)=some (aP E aa):=by
  rw[q2.cells.dV,jO,jP,if_pos (by rw[iZ];omega)];congr 1;apply kz;intro j;rw[qN];by_cases hj:j<aa.length*E.n
  ·rw[if_pos hj,jf];exact hcells j hj
  ·rw[if_neg hj,jg (by omega)]
 refine C9 (b:=b) (o:=0) (m:=0) (k:=k) (f:=some 0) (old:=[]) (xs:=aP E aa) hn hg hs (by rw[hx,e1,hk'];rfl) ?_ ?_ (.inl rfl) ?_ λh' mv=>?_
 ·rw[hx,e1,<- hk'];exact hread
 ·rw[hat.c.dV,oQ];rfl
 ·rw[bG,<- hk'];omega
 obtain⟨w',rfl,dO,pG⟩:=st1.move mv;rw[dI]at dO;have:=next w.h.next w' dO
 rw[hk']at this;rw[bG];exact this
end
end Go.Ideal
namespace Go.Ideal
variable {P:Program}
inductive xz(P:Program)(ty:TypeId):Value->Value->Bool->Prop
 |int {a b:Int} (h:P.underlying ty=some (.int .i64)):xz P ty (.int .i64 a) (.int .i64 b) (decide (a=b))
 |str {a b:ByteArray} (h:P.underlying ty=some .string):xz P ty (.string a) (.string b) (decide (a=b))
theorem G7:dz P program=some P:=rfl
theorem LK{α:Type}{c:Prop}[Decidable c]{a b:Sem α}:dz P (if c then a else b)=if c then dz P a else dz P b:=by split<;>rfl
theorem RF{ty:TypeId}{a b:Value}{r:Bool}(c:xz P ty a b r)(d:Nat):dz P (Op.equalIn (d+1) ty a b)=some r:=by
 cases c with
 |int h=>
  unfold Op.equalIn;rw[gu,rE h];simp only[gJ,if_true];rfl
 |str h=>
  unfold Op.equalIn;rw[gu,rE h];show some (_==_)=_;rw[bytes_beq]
theorem G8{ty:TypeId}{a b v:Value}{r:Bool}(c:xz P ty a b r){xs:Array Value}{o:Nat}(hx:xs[o]? =some v):dz P (part ty xs o)=some v:=by
 have hu:∃d,P.underlying ty=some d/\(∀fs,d≠.struct fs)/\∀n e,d≠.array n e:=by
  cases c with
  |int h=>exact⟨_,h,(by intro _ e;cases e),(by intro _ _ e;cases e)⟩
  |str h=>exact⟨_,h,(by intro _ e;cases e),(by intro _ _ e;cases e)⟩
 obtain⟨d,h1,h2,h3⟩:=hu;have hag:dz P (isAgg ty)=some false:=by
  unfold isAgg;rw[gu,rE h1];cases d with
  |struct fs=>exact absurd rfl (h2 fs)
  |array n e=>exact absurd rfl (h3 n e)
  |_=>rfl
 unfold part;rw[gu,hag];show dz P (match xs[o]? with|some v=>pure v|none=>stuck "part: no such cell")=_;rw[hx];rfl
inductive Dl(P:Program)(xs ys:List Value):List Field->Bool->Prop
 |nil:Dl P xs ys [] true
 |cons {f:Field} {fs:List Field} {a b:Value} {r r':Bool} (hn:(f.name== "_")=false) (hx:xs[f.offset]? =some a) (hy:ys[f.offset]? =some b) (c:xz P f.type a b r) (t:Dl P xs ys fs r'):Dl P xs ys (f::fs) (r&&r')
theorem ab6{d:Nat}{t:TypeId}{fs:Array Field}{xs ys:List Value}{r:Bool}(hu:P.underlying t=some (.struct fs))(hp:P.stoodInHeld t=false)(h:Dl P xs ys fs.toList r):dz P (Op.equalIn (d+2) t (.agg ⟨xs⟩) (.agg ⟨ys⟩))=some r:=by
 unfold Op.equalIn;rw[gu,rE hu];simp only[gJ];rw[gu,G7];simp only[gJ,hp,qJ,if_false];rw[<- Array.forIn_toList];generalize fs.toList=l at h;clear hu;induction h with
 |nil=>rfl
 | @cons f fs a b r r' hn hx hy c t ih=>
   have hn:f.name≠ "_" :=by simpa using hn
   rw[List.forIn_cons];simp only[gu,LK,if_pos hn,hn,ne_eq,not_false_eq_true,if_true]at ih⊢;rw[G8 (xs:=⟨xs⟩) c (by simpa using hx),gJ,G8 (xs:=⟨ys⟩) c (by simpa using hy),gJ,RF c,gJ];cases r with
   |false=>rfl
   |true=>exact ih
section
variable {l:List (Nat×Value)}
theorem ab7{op:BinOp}{t:TypeId}{x y:Operand}{a b:Array Value}(hm:P.eqGuardType P.depth t=false):dz P (eqGuard op t x y (.agg a) (.agg b))=some ():=by
 have key:dz P (do if !(<- program).eqGuardType (<- program).depth t then return
                   if <- Op.eqGuardIn Op.maxDepth t (.agg a) (.agg b)then unsupported (.noEntry "binop\x2feql: two nil values of an interface type with methods, in a part of a struct or an array"))=some ():=by
  rw[gu,G7];simp only[gJ];rw[gu,G7];simp only[gJ,hm,Bool.not_false,if_true];rfl
 cases op<;>first|exact key|rfl
theorem ab8{op:BinOp}{t:TypeId}{x y:Operand}{a b:List Value}{v:Value}(ha:iB a=true)(hb:iB b=true)(hm:P.eqGuardType P.depth t=false)(hv:dz P (binOp op t (.agg ⟨a⟩) (.agg ⟨b⟩))=some v)(hf:bM v=true):nk P op t x y (.agg ⟨a⟩) (.agg ⟨b⟩)=some v:=by
 have h1:ji P (do eqGuard op t x y (.agg ⟨a⟩) (.agg ⟨b⟩);binOp op t (.agg ⟨a⟩) (.agg ⟨b⟩))=some v:=by
  unfold ji;rw[gu,ab7 hm];simp only[gJ,hv,hf,cond]
 show cond (bM (.agg ⟨a⟩)&&bM (.agg ⟨b⟩)) (ji P (do eqGuard op t x y (.agg ⟨a⟩) (.agg ⟨b⟩);binOp op t (.agg ⟨a⟩) (.agg ⟨b⟩))) _=_;rw[h1];simp[bM,ha,hb]
theorem RG{d n:Nat}{t e:TypeId}{xs ys:List Int}(hu:P.underlying t=some (.array n e))(he:P.underlying e=some (.int .i64))(hs:P.info? e|>.map (·.size)|>(·=some 1))(hx:xs.length=n)(hy:ys.length=n):
 dz P (Op.equalIn (d+2) t (.agg ⟨xs.map (.int .i64)⟩) (.agg ⟨ys.map (.int .i64)⟩))=some (decide (xs=ys)):=by
 have hsz:dz P (sizeOf e)=some 1:=by
  unfold sizeOf typeInfo;cases hi:P.info? e with
  |none=>rw[hi]at hs;cases hs
  |some i=>
   rw[hi]at hs;have hs:i.size=1:=by simpa using hs
   simp only[gu,G7,gJ,hi];rw[<- hs];rfl
 unfold Op.equalIn;rw[gu,rE hu];simp only[gJ];rw[gu,hsz];simp only[gJ,fV];rw[Std.Legacy.Range.forIn_eq_forIn_range'];simp only[Std.Legacy.Range.size,qb,Nat.add_sub_cancel,Nat.div_one];have key:∀(m i:Nat),i+m=n->dz P (do
  let RH <- forIn (List.range' i m 1) ((none,()):Option Bool×Unit) λi RH=>
   (do let a <- part e ⟨xs.map (.int .i64)⟩ i
       let b <- part e ⟨ys.map (.int .i64)⟩ i
       let r <- Op.equalIn (d+1) e a b
       if(!r)=true then pure (ForInStep.done (some false,()))else pure (ForInStep.yield (none,())))
  match RH.fst with
  |some r=>pure r
  |none=>pure true)=some (decide (xs.drop i=ys.drop i)):=by
  intro m;induction m with
  |zero=>
   intro i hi;rw[uV (by omega),uV (by omega)];rfl
  |succ m ih=>
   intro i hi;have hix:i<xs.length:=by omega
   have RI:i<ys.length:=by omega
   have c:xz P e (.int .i64 xs[i]) (.int .i64 ys[i]) (decide (xs[i]=ys[i])):=.int he;rw[List.range'_succ,List.forIn_cons];simp only[gu,LK];rw[G8 (xs:=⟨xs.map (.int .i64)⟩) (o:=i) (v:=.int .i64 xs[i]) c (by simp[hix]),gJ,G8 (xs:=⟨ys.map (.int .i64)⟩) (o:=i) (v:=.int .i64 ys[i]) c (by simp[RI]),gJ,RF c,gJ];rw[zz hix,zz RI];have ih:=ih (i+1) (by omega);simp only[gu,LK]at ih;by_cases hxy:xs[i]=ys[i]
   ·rw[eP hxy];simp only[Bool.not_true,qJ,if_false];show(dz P _).bind _=_;rw[show decide (xs[i]::xs.drop (i+1)=ys[i]::ys.drop (i+1))=decide (xs.drop (i+1)=ys.drop (i+1))from zA.2 (by rw[zw];exact⟨λh=>h.2,λh=>⟨hxy,h⟩⟩)];exact ih
   ·rw[fB hxy];simp only[Bool.not_false,if_true];rw[show decide (xs[i]::xs.drop (i+1)=ys[i]::ys.drop (i+1))=false from fB (λh=>hxy (List.cons.inj h).1)];rfl
 have:=key n 0 (by omega);rw[sj,sj]at this;refine Eq.trans ?_ this;simp only[gu];congr 1;funext s
 cases s.fst<;>rfl
end

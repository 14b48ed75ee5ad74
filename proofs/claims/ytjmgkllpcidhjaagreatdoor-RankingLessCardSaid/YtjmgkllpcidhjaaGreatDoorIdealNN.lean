/-
  The ideal machine, 66: functions that may panic; deferred functions that recover.
-/
import Derived.Test.YtjmgkllpcidhjaaGreatDoorIdealMN
import Derived.Sort.Row
import Derived.Sort.Grow
import Derived.Laws.StructEq
set_option linter.all false
namespace Go.Ideal
variable {P:Program}
def Ag{Y:Type}(B:List Nat)(w0:Wd)(ret:Y->gU)(kl':Y->List OA)(fs:Y->List aK)(pr:Y->Prop):KR:=λr pm h'=>
 pm=none/\∃(w':Wd) (y:Y),w'.h=h'/\St B w0 (kl' y) (fs y) w'/\r=ret y/\pr y
def FY{Y:Type}(P:Program)(fn:Fn)(args cap:List Value)(kl:List OA)(F:List aK)(ret:Y->gU)(kl':Y->List OA)(fs:Y->List aK)(pr:Y->Prop):Prop:=
 ∀(B:List Nat) (w:Wd),St B w kl F w->CALL P ⟨fn,args,cap,none⟩ w.h (Ag B w ret kl' fs pr)
theorem FY.toC{Y:Type}{fn:Fn}{args cap:List Value}{kl:List OA}{F:List aK}{ret:Y->gU}{kl':Y->List OA}{fs:Y->List aK}{pr:Y->Prop}(val:Y->Value)(h:FY P fn args cap kl F ret kl' fs pr)
 (hv:∀y,pr y->ret y=.ok (val y)):bD P fn args cap kl F val kl' fs pr:=λB w s=>by
 refine .uK _ (h B w s) ?_;rintro r pm h' ⟨e,w',y,e1,st,er,hp⟩;exact⟨e,w',y,e1,st,er.trans (hv y hp),hp⟩
def KV{Y:Type}(B:List Nat)(w0:Wd)(ret:Y->gU)(md:Y->FrameMode)(kl':Y->List OA)(fs:Y->List aK)(pr:Y->Prop):KR:=λr pm h'=>
 ∃(w':Wd) (y:Y),pm=some (md y)/\w'.h=h'/\St B w0 (kl' y) (fs y) w'/\r=ret y/\pr y
def FZ{Y:Type}(P:Program)(fn:Fn)(args cap:List Value)(m:FrameMode)(kl:List OA)(F:List aK)(ret:Y->gU)(md:Y->FrameMode)(kl':Y->List OA)(fs:Y->List aK)(pr:Y->Prop):Prop:=
 ∀(B:List Nat) (w:Wd),St B w kl F w->CALL P ⟨fn,args,cap,some m⟩ w.h (KV B w ret md kl' fs pr)
theorem Qu{K:KR}{f:FuncId}{args cap:List Value}{pm:Option FrameMode}{c:cB}{m:Nat}{l0:List (Nat×Value)}(cf:eX)(hF:(pR P pU uC).F f=some cf)(h1:cf.body=c)(h2:qY cf.ntmps (gB (args++cap))=m)(h3:rP 0 (args++cap) []=l0){h:IH}
 (hb:EV P c (act m l0 [] pm none) h (yf P cf K)):CALL P ⟨.func f,args,cap,pm⟩ h K:=by
 obtain⟨fn,e1,e2⟩:=(zV P pU uC (λf q h v h' hm=>by cases hm)).fn f cf hF;refine ZK cf fn e1 e2 ?_;rw[Qf,h1,h2,h3];exact hb
theorem aa9{Y:Type}{f:FuncId}{args cap:List Value}{kl:List OA}{F:List aK}{ret:Y->gU}{kl':Y->List OA}{fs:Y->List aK}{pr:Y->Prop}{c:cB}{m:Nat}{l0:List (Nat×Value)}(cf:eX)(hF:(pR P pU uC).F f=some cf)
 (hb:∀B w0,R (λh=>EV P c (act m l0 [] none none) h (yf P cf (Ag B w0 ret kl' fs pr))) B w0 kl F)
 (h1:cf.body=c:=by conv=>lhs;(reduce;(try simp only[Int.reduceOfNat,Int.reduceNegSucc]))) (h2:qY cf.ntmps (gB (args++cap))=m:=by conv=>lhs;whnf) (h3:rP 0 (args++cap) []=l0:=by dsimp only[rP,Nat.reduceAdd,List.append_nil,List.cons_append,List.nil_append]):FY P (.func f) args cap kl F ret kl' fs pr:=
 λB w s=>Qu cf hF h1 h2 h3 (hb B w w s)
theorem Qv{Y:Type}{f:FuncId}{args cap:List Value}{pm:FrameMode}{kl:List OA}{F:List aK}{ret:Y->gU}{md:Y->FrameMode}{kl':Y->List OA}{fs:Y->List aK}{pr:Y->Prop}{c:cB}{m:Nat}{l0:List (Nat×Value)}(cf:eX)(hF:(pR P pU uC).F f=some cf)
 (hb:∀B w0,R (λh=>EV P c (act m l0 [] (some pm) none) h (yf P cf (KV B w0 ret md kl' fs pr))) B w0 kl F)
 (h1:cf.body=c:=by conv=>lhs;(reduce;(try simp only[Int.reduceOfNat,Int.reduceNegSucc]))) (h2:qY cf.ntmps (gB (args++cap))=m:=by conv=>lhs;whnf) (h3:rP 0 (args++cap) []=l0:=by dsimp only[rP,Nat.reduceAdd,List.append_nil,List.cons_append,List.nil_append]):FZ P (.func f) args cap pm kl F ret md kl' fs pr:=
 λB w s=>Qu cf hF h1 h2 h3 (hb B w w s)
section
variable {B:List Nat} {w0:Wd} {kl kl' bK:List OA} {F:List aK} {K:KO} {ds:List Tmp} {rest:List aY} {n:Nat} {l:List (Nat×Value)} {D:List Deferred} {pm:Option FrameMode} {ro:Option Nat} {d:Nat} {g:Option (Tmp×Bool)}
theorem St.aba{w:Wd}{k1 bK:List OA}{F1:List aK}(s:St B w0 kl F w)(hk:aM k1 kl bK)(hF:Sub F1 F):
 ∃S1,St S1 w k1 F1 w/\∀(w':Wd) (k1':List OA) (F':List aK),St S1 w k1' F' w'->St B w0 (k1'++bK) (F'++F) w':=by
 obtain⟨S,h1,h2,h3⟩:=s.own;obtain⟨S1,S2,q1,q2,hp⟩:=h1.jF hk;have hsub:∀i∈S1,i∈S:=λi hi=>hp.mem_iff.2 (mK _ hi);exact⟨S1,⟨⟨aH _,λ_ _ _=>rfl,λ_ _=>rfl⟩,Wd.Le.refl w,λi _ hz=>.inl hz,⟨S1,q1,(qV.1 (hp.nodup h2)).1,λi hi=>⟨.inr hi,(h3 i (hsub i hi)).2⟩⟩,λf hf=>s.facts f (hF.mem f hf)⟩,
  λw' k1' F' c=>s.call (k1:=k1) (F1:=F1) ⟨S,hp,h2,h3⟩ q2 c⟩
theorem abb{x:Operand}{t:TypeId}{v:Value}{dst:Option Tmp}{re:List fC}
 (next:R (λh=>K (.panic [{v:=.iface t v,recovered:=false}]) (act n (CJ ds n l) D pm ro) h) B w0 kl F)
 (hx:ev l x=.iface t v:=by rfl) (hg:bH l g=true:=by rfl):R (λh=>aB P ds (⟨⟨dst,g,.panic x⟩,re⟩::rest) (act n l D pm ro) h K) B w0 kl F:=λw s=>ZH hg hx (next w s)
theorem abd{f:Operand}{args:List Operand}{fn:Fn}{first captured vs:List Value}
 (next:R (λh=>aB P ds rest (act n l ({target:=.fn fn ⟨captured⟩,args:=⟨first++vs⟩}::D) pm none) h K) B w0 kl F)
 (hf:ev l f=.func fn ⟨first⟩ ⟨captured⟩:=by rfl) (hx:EvL (ev l) args vs:=by repeat (first|with_reducible exact EvL.nil|((with_reducible apply EvL.cons);(conv=>lhs;whnf)))) (hg:bH l g=true:=by rfl):
 R (λh=>aB P ds (⟨⟨none,g,.dcall f args⟩,[]⟩::rest) (act n l D pm none) h K) B w0 kl F:=λw s=>by
 refine ZI hg rfl hf ?_;rw[hx.map];exact next w s
theorem Qw{m:FrameMode}{v:Value}{m':FrameMode}(he:iE m=(v,m'))
 (next:R (λh=>aB P ds rest (act n ((d,v)::l) D (some m') none) h K) B w0 kl F) (hn:Nat.blt d n=true:=by rfl) (hg:bH l g=true:=by rfl):
 R (λh=>aB P ds (⟨⟨some d,g,.recover⟩,[]⟩::rest) (act n l D (some m) none) h K) B w0 kl F:=λw s=>by
 refine ZJ hn hg rfl ?_;rw[he];exact next w s
def RL(P:Program)(cf:eX)(l:List (Nat×Value))(D:List Deferred)(m:FrameMode)(Kr:gU->IH->Prop)(B:List Nat)(w0:Wd)(kl:List OA)(F:List aK):Prop:=∀w,St B w0 kl F w->LEAVE P cf (gp l) D m w.h Kr
theorem F3{cf:eX}{Kr:KR}{o:Out}{m:FrameMode}(h:RL P cf l D m (λr h=>Kr r pm h) B w0 kl F)(hm:sM o=some m:=by rfl):R (λh=>yf P cf Kr o (act n l D pm ro) h) B w0 kl F:=λw s=>by
 show(match sM o with
  |none=>False
  |some m=>LEAVE P cf (gp l) D m w.h λr h''=>Kr r pm h'')
 rw[hm];exact h w s
variable {cf:eX} {Kr:gU->IH->Prop}
theorem abe{vs:List Value}(hk:∀w,St B w0 kl F w->Kr (.ok (sV vs)) w.h)(hr:RS l kl cf.results vs:=by exact CW):RL P cf l [] .returning Kr B w0 kl F:=λw s=>by
 refine .ret (sV vs) ?_ (hk w s);unfold pO;rw[hr.all s];match vs with
 |[]=>rfl
 |[v]=>rfl
 |_::_::_=>rfl
theorem abf{m:FrameMode}{r:Nat}{args:Array Value}(next:RL P cf l D m Kr B w0 kl' F)(hk:ai (pt r (.fV true)) kl kl':=by exact fM)(hm:m≠.run:=by intro e;cases e):RL P cf l ({target:=.collected r,args}::D) m Kr B w0 kl F:=λw s=>by
 have s1:=s.fe hk;exact .coll hm r s1.get.1 (next _ (s1.write (o':=.fV false)).tail)
theorem Qx{Y:Type}{fn:Fn}{captured args:List Value}{m:FrameMode}{k1:List OA}{F1:List aK}{ret:Y->gU}{md:Y->FrameMode}{k1':Y->List OA}{fs:Y->List aK}{pr:Y->Prop}{fF:Y->List OA}{F2:Y->List aK}
 (hc:FZ P fn args captured m k1 F1 ret md k1' fs pr)
 (next:∀y v,pr y->ret y=.ok v->RL P cf l D (vU (md y)) Kr B w0 (fF y) (F2 y))
 (abg:∀y ch,pr y->ret y=.fI ch->RL P cf l D (zy (md y) ch) Kr B w0 (fF y) (F2 y))
 (hk:aM k1 kl bK:=by exact qJ) (hF:Sub F1 F:=by exact pY) (hk2:∀y,bZ (k1' y) bK (fF y):=by intro y;repeat (first|exact bZ.nil|apply bZ.cons|exact bZ.self|exact bZ.app)) (hF2:∀y,bZ (fs y) F (F2 y):=by intro y;repeat (first|exact bZ.nil|apply bZ.cons|exact bZ.self|exact bZ.app)) (hm:m≠.run:=by intro e;cases e):
 RL P cf l ({target:=.fn fn ⟨captured⟩,args:=⟨args⟩}::D) m Kr B w0 kl F:=λw s=>by
 obtain⟨S1,s1,back⟩:=s.aba hk hF;refine .call hm _ (hc S1 w s1) ?_ ?_ ?_
 ·rintro r p h' ⟨w',y,e,_⟩ hp;rw[e]at hp;cases hp
 ·rintro v m' h' ⟨w',y,e,rfl,c,hv,hpr⟩;injection e with e;subst e;have:=next y v hpr hv.symm w' (by rw[<- (hk2 y).eq,<- (hF2 y).eq];exact back w' _ _ c)
  exact this
 ·rintro ch m' h' ⟨w',y,e,rfl,c,hv,hpr⟩;injection e with e;subst e;exact abg y ch hpr hv.symm w' (by rw[<- (hk2 y).eq,<- (hF2 y).eq];exact back w' _ _ c)
theorem abh{Y:Type}{o:Out}{vs:List Value}{ret:Y->gU}{k1:Y->List OA}{fs:Y->List aK}{pr:Y->Prop}{fF:List OA}(y:Y)(hv:ret y=.ok (sV vs))(hp:pr y)(hD:oG kl D fF:=by repeat (first|exact oG.nil|(apply oG.cons;(focus (repeat (first|with_reducible exact ai.here|with_reducible apply ai.there|with_reducible apply ai.app))))))
 (hr:RS l fF cf.results vs:=by exact CW) (hk:aM (k1 y) fF bK:=by exact qJ) (hF:Sub (fs y) F:=by exact pY) (ho:o=.normal\/o=.ret:=by first|exact .inl rfl|exact .inr rfl):
 R (λh=>yf P cf (Ag B w0 ret k1 fs pr) o (act n l D none ro) h) B w0 kl F:=by
 refine F3 (m:=.returning) ?_ (by rcases ho with rfl|rfl<;>rfl);intro w s;refine oG.leave hD (λw' s'=>⟨sV vs,?_,rfl,w',y,rfl,((s'.jF hk).drop).sub hF,hv.symm,hp⟩) w s;unfold pO;rw[hr.all s'];match vs with
 |[]=>rfl
 |[v]=>rfl
 |_::_::_=>rfl
theorem Qy{Y:Type}{o:Out}{vs:List Value}{ret:Y->gU}{m:FrameMode}{md:Y->FrameMode}{k1:Y->List OA}{fs:Y->List aK}{pr:Y->Prop}{fF:List OA}(y:Y)(hv:ret y=.ok (sV vs))(hm:md y=m)(hp:pr y)(hD:oG kl D fF:=by repeat (first|exact oG.nil|(apply oG.cons;(focus (repeat (first|with_reducible exact ai.here|with_reducible apply ai.there|with_reducible apply ai.app))))))
 (hr:RS l fF cf.results vs:=by exact CW) (hk:aM (k1 y) fF bK:=by exact qJ) (hF:Sub (fs y) F:=by exact pY) (ho:o=.normal\/o=.ret:=by first|exact .inl rfl|exact .inr rfl):
 R (λh=>yf P cf (KV B w0 ret md k1 fs pr) o (act n l D (some m) ro) h) B w0 kl F:=by
 refine F3 (m:=.returning) ?_ (by rcases ho with rfl|rfl<;>rfl);intro w s;refine oG.leave hD (λw' s'=>⟨sV vs,?_,w',y,by rw[hm],rfl,((s'.jF hk).drop).sub hF,hv.symm,hp⟩) w s;unfold pO;rw[hr.all s'];match vs with
 |[]=>rfl
 |[v]=>rfl
 |_::_::_=>rfl
theorem Qz{Y:Type}{ret:Y->gU}{k1:Y->List OA}{fs:Y->List aK}{pr:Y->Prop}{vs:List Value}(y:Y)(hv:ret y=.ok (sV vs))(hp:pr y)(hr:RS l kl cf.results vs:=by exact CW)(hk:aM (k1 y) kl bK:=by exact qJ)(hF:Sub (fs y) F:=by exact pY):
 RL P cf l [] .returning (λr h=>Ag B w0 ret k1 fs pr r none h) B w0 kl F:=
 abe (λw s=>⟨rfl,w,y,rfl,((s.jF hk).drop).sub hF,hv.symm,hp⟩) hr
end
end Go.Ideal
namespace Go.Ideal
variable {P:Program}
theorem QA{α β:Type}(f:α->β)(hf:∀a b,f a=f b->a=b){l1 l2:List α}(h:(l1.map f).Perm (l2.map f)):l1.Perm l2:=by
 classical
 rw[List.perm_iff_count];intro a;have:=h.count_eq (f a);have key:∀l:List α,(l.map f).count (f a)=l.count a:=by
  intro l;induction l with
  |nil=>rfl
  |cons x l ih=>
   rw[mJ,List.count_cons,List.count_cons,ih];by_cases e:x=a
   ·subst e;simp
   ·have:¬f x=f a:=λh=>e (hf _ _ h);simp[e,this]
 rw[key,key]at this;exact this
theorem QB{α β:Type}{f:α->β}:∀{l:List α},(l.map f).Nodup->∀{a b:α},a∈l->b∈l->f a=f b->a=b
 |[],_,a,b,ha,_,_=>by cases ha
 |x::l,h,a,b,ha,hb,e=>by
  rw[mJ,Bp]at h;obtain⟨hx,hl⟩:=h;rcases aU.1 ha with h1|ha<;>rcases aU.1 hb with h2|hb
  ·rw[h1,h2]
  ·rw[<- h1,e]at hx;exact absurd (List.mem_map_of_mem hb) hx
  ·rw[<- h2,<- e]at hx;exact absurd (List.mem_map_of_mem ha) hx
  ·exact QB hl ha hb e
def mU{α:Type}[DecidableEq α](a:α):List (α×Value)->Nat->Option (Nat×Value)
 |[],_=>none
 |(b,v)::l,i=>if a=b then some (i,v)else mU a l (i+1)
def qK{α β:Type}[DecidableEq α](a:α):List (α×β)->Option β
 |[]=>none
 |(b,v)::l=>if a=b then some v else qK a l
def upd{α β:Type}[DecidableEq α](a:α)(v:β):List (α×β)->List (α×β)
 |[]=>[(a,v)]
 |(b,u)::l=>if a=b then(a,v)::l else(b,u)::upd a v l
def mV{α:Type}(aS:α->Value)(aN:List (α×Value))(es:List MapEntry):Prop:=es.map (λe=>(e.key,e.val))=aN.map λp=>(aS p.1,p.2)
structure uQ(P:Program)(kt:TypeId){α:Type}[DecidableEq α](aS:α->Value):Prop where
 tF:∀a,pJ P kt (aS a)=true
 find:∀a aN es,mV aS aN es->qp P kt (aS a) es=some (mU a aN 0)
 same:∀a,Instr.sameBits 10000 (aS a) (aS a)=true
theorem abj{kt:TypeId}{v:Value}(ha:bY v=true)(h:∀b,dF P (Instr.checkKey b 10000 kt v)=some ()):pJ P kt v=true:=by
 unfold pJ;rw[ha,h true,h false];rfl
theorem KW{α:Type}{aS:α->Value}{p:α×Value}{aN:List (α×Value)}{es:List MapEntry}(h:mV aS (p::aN) es):∃e es',es=e::es'/\e.key=aS p.1/\e.val=p.2/\mV aS aN es':=by
 cases es with
 |nil=>cases h
 |cons e es=>
  unfold mV at h;rw[mJ,mJ]at h;injection h with h1 h2;injection h1 with h1 h3;exact⟨e,es,rfl,h1,h3,h2⟩
theorem QC{α:Type}[DecidableEq α]{aS:α->Value}{d:TypeDesc}(hs:∀a b,Instr.sameNow d (aS a) (aS b)=some (decide (a=b)))(a:α):∀(aN:List (α×Value)) (es:List MapEntry) (i:Nat),mV aS aN es->Instr.findNow d (aS a) es i=some (mU a aN i)
 |[],es,i,h=>by
  cases es with
  |nil=>rfl
  |cons e es=>cases h
 |p::aN,es,i,h=>by
  obtain⟨e,es',rfl,h1,h2,h3⟩:=KW h;have ih:=QC hs a aN es' (i+1) h3;show(match Instr.sameNow d (aS a) e.key with
   |some true=>some (some (i,e.val))
   |some false=>Instr.findNow d (aS a) es' (i+1)
   |none=>none)=_
  rw[h1,hs a p.1];unfold mU;by_cases hab:a=p.1
  ·rw[eH hab,if_pos hab,h2]
  ·rw[gz hab,if_neg hab];exact ih
theorem abk{α:Type}[DecidableEq α]{aS:α->Value}{kt:TypeId}{d:TypeDesc}(hu:P.underlying kt=some d)(hs:∀a b,Instr.sameNow d (aS a) (aS b)=some (decide (a=b)))(a:α)(aN:List (α×Value))(es:List MapEntry)(h:mV aS aN es):qp P kt (aS a) es=some (mU a aN 0):=by
 unfold qp Instr.findKey;rw[gW,sU hu];simp only[iA,QC hs a aN es 0 h];rfl
theorem abl{kt:TypeId}(hu:P.underlying kt=some (.int .i64)):uQ P kt (λn:Int=>.int .i64 n) where
 tF a:=abj rfl λb=>by
  show dF P (Instr.checkKey b (9999+1) kt _)=_;unfold Instr.checkKey;rw[gW,sU hu];rfl
 find a aN es h:=abk hu (λa b=>by
  show(if IntKind.i64=IntKind.i64 then some (a==b)else none)=_;rw[if_pos rfl];congr 1) a aN es h
 same a:=by
  show(IntKind.i64==IntKind.i64&&a==a)=true;simp
theorem bytes_beq(a b:ByteArray):(a==b)=decide (a=b):=by
 have:(a==b)=(a.data==b.data):=rfl;rw[this];by_cases h:a=b
 ·subst h;simp
 ·rw[gz h];cases hb:a.data==b.data with
  |false=>rfl
  |true=>exact absurd (ByteArray.ext (eq_of_beq hb)) h
theorem QD{α:Type}[DecidableEq α](a:α):∀(aN:List (α×Value)) (i:Nat),(mU a aN i).map (·.2)=qK a aN
 |[],_=>rfl
 |(b,v)::l,i=>by
  unfold mU qK;by_cases h:a=b
  ·rw[if_pos h,if_pos h];rfl
  ·rw[if_neg h,if_neg h];exact QD a l (i+1)
theorem abm{α:Type}[DecidableEq α]{aS:α->Value}{kt:TypeId}(hk:uQ P kt aS){h:IH}{m zero:Value}{ok:Bool}{a:α}{aN:List (α×Value)}{es:List MapEntry}(he:entriesOf m h=some es)(ho:mV aS aN es):
 zo P kt zero m (aS a) ok h=some (match qK a aN with
  |some v=>cond ok (.tuple #[v,.bool true]) v
  |none=>cond ok (.tuple #[zero,.bool false]) zero):=by
 unfold zo;simp only[he,hk.tF,cond_true,hk.find a aN es ho];have:=QD a aN 0;cases hf:mU a aN 0 with
 |none=>rw[hf]at this;rw[<- this];rfl
 |some p=>rw[hf]at this;rw[<- this];rfl
theorem QE{α:Type}[DecidableEq α](a:α):∀(aN:List (α×Value)) (i j:Nat) (v:Value),mU a aN i=some (j,v)->∃k,j=i+k/\aN[k]? =some (a,v)/\∀u,upd a u aN=aN.set k (a,u)
 |[],i,j,v,h=>by cases h
 |(b,w)::l,i,j,v,h=>by
  unfold mU at h;split at h
  ·rename_i hab;subst hab;cases h;exact⟨0,rfl,rfl,λu=>by simp[upd]⟩
  ·rename_i hab;obtain⟨k,h1,h2,h3⟩:=QE a l (i+1) j v h;exact⟨k+1,by omega,by simpa using h2,λu=>by simp[upd,if_neg hab,h3]⟩
theorem QF{α:Type}[DecidableEq α](a:α):∀(aN:List (α×Value)) (i:Nat),mU a aN i=none->(∀p∈aN,a≠p.1)/\∀u,upd a u aN=aN++[(a,u)]
 |[],i,h=>⟨λp hp=>(by cases hp),λu=>rfl⟩
 |(b,w)::l,i,h=>by
  unfold mU at h;split at h
  ·cases h
  ·rename_i hab;obtain⟨h1,h2⟩:=QF a l (i+1) h;refine⟨λp hp=>?_,λu=>by simp[upd,if_neg hab,h2]⟩;rcases aU.1 hp with rfl|hp
   ·exact hab
   ·exact h1 p hp
structure yl{α:Type}(aS:α->Value)(aN:List (α×Value))(es:List MapEntry)(clock:Nat):Prop where
 rT:mV aS aN es
 lt:∀e∈es,e.born<clock
 nd:(es.map (·.born)).Nodup
 keys:(aN.map (·.1)).Nodup
theorem abn{α:Type}[DecidableEq α]{aS:α->Value}{kt:TypeId}(hk:uQ P kt aS){h:IH}{b:Nat}{a:α}{v:Value}{aN:List (α×Value)}{es:List MapEntry}{clock:Nat}(hg:h.get b=some (.map es clock))(ho:yl aS aN es clock):
 ∃es' clock',BB P kt (.map (some b)) (aS a) v h=some (h.set b (.map es' clock'))/\yl aS (upd a v aN) es' clock':=by
 unfold BB;simp only[hg,hk.tF,cond_true,hk.find a aN es ho.rT];cases hf:mU a aN 0 with
 |none=>
  obtain⟨h1,h2⟩:=QF a aN 0 hf;refine⟨_,_,rfl,?_⟩;rw[h2,gV];refine⟨?_,λe he=>?_,?_,?_⟩
  ·unfold mV;rw[fH,fH,ho.rT];rfl
  ·rcases gy.1 he with he|he
   ·exact Ip (ho.lt e he)
   ·rw[di.1 he];exact qg _
  ·rw[fH,qV];refine⟨ho.nd,by simp,λx hx y hy e=>?_⟩;obtain⟨e0,he0,rfl⟩:=jQ.1 hx;have:y=clock:=by simpa using hy
   have:=ho.lt e0 he0;omega
  ·rw[fH,qV];refine⟨ho.keys,by simp,λx hx y hy e=>?_⟩;obtain⟨p,hp,rfl⟩:=jQ.1 hx;have:y=a:=by simpa using hy
   exact h1 p hp (by rw[e,this])
 |some p=>
  obtain⟨j,u⟩:=p;obtain⟨k,rfl,h2,h3⟩:=QE a aN 0 j u hf;rw[dD];have hlen:es.length=aN.length:=by
   have:=congrArg List.length ho.rT;simpa using this
  have hk':=(dX.1 h2).1;have KX:es[k]? =some es[k]:=bf (by omega);have hkey:es[k].key=aS a:=by
   have:=congrArg (λl=>l[k]?) ho.rT;simp only[bX,KX,h2,iT]at this;injection this with this;injection this
  simp only[om,KX,hkey,hk.same,cond_true];refine⟨_,_,rfl,?_⟩;rw[h3,Od];refine⟨?_,λe he=>?_,?_,?_⟩
  ·unfold mV;apply jA;intro i;have:=congrArg (λl=>l[i]?) ho.rT;simp only[bX]at this;simp only[bX,List.getElem?_modify,List.getElem?_set];by_cases hi:k=i
   ·subst hi;simp[KX,hk']
   ·rw[if_neg hi];cases he:es[i]? with
    |none=>rw[he]at this;simp only[Option.map_none]at this⊢;simp[hi,<- this]
    |some e=>rw[he]at this;simp only[iT]at this⊢;simp[hi,<- this]
  ·obtain⟨i,he⟩:=Ir.1 he;rw[List.getElem?_modify]at he;cases KY:es[i]? with
   |none=>rw[KY]at he;simp at he
   |some e0=>
    rw[KY]at he;have hlt:=ho.lt e0 (cZ KY);injection he with he;rw[<- he];split<;>exact hlt
  ·have:(es.modify k λe=>{e with key:=aS a,val:=v}).map (·.born)=es.map (·.born):=by
    apply jA;intro i;simp only[bX,List.getElem?_modify];cases es[i]? with
    |none=>rfl
    |some e=>simp only[iT];split<;>rfl
   rw[this];exact ho.nd
  ·have:(aN.set k (a,v)).map (·.1)=aN.map (·.1):=by
    apply jA;intro i;simp only[bX,List.getElem?_set];by_cases hi:k=i
    ·subst hi;rw[if_pos rfl,if_pos hk',h2];rfl
    ·rw[if_neg hi]
   rw[this];exact ho.keys
def jV{α:Type}(aS:α->Value)(b:Nat)(aN:List (α×Value)):OA:=⟨λw S=>S=[b]/\∃es clock,w.h.get b=some (.map es clock)/\yl aS aN es clock,λa h ⟨h1,es,clock,h2,h3⟩=>⟨h1,es,clock,by rw[h b (by rw[h1];exact di.2 rfl)];exact h2,h3⟩⟩
def Da{α:Type}(aS:α->Value)(b:Nat)(aN:List (α×Value)):aK:=⟨λw=>w.z b/\∃es clock,w.h.get b=some (.map es clock)/\yl aS aN es clock,λa ⟨h1,es,clock,h2,h3⟩=>⟨a.z b h1,es,clock,by rw[a.get b h1];exact h2,h3⟩⟩
theorem QG{α:Type}{aS:α->Value}{b:Nat}{aN:List (α×Value)}:wF (jV aS b aN) [Da aS b aN]:=by
 intro w w' S ⟨h1,es,clock,h2,h3⟩ hle hh hz f hf;rw[di.1 hf];exact⟨hz b (by rw[h1];exact di.2 rfl),es,clock,by rw[hh];exact h2,h3⟩
section
variable {B:List Nat} {w0:Wd} {kl kl' bK:List OA} {F:List aK} {K:KO} {ds:List Tmp} {rest:List aY} {n:Nat} {l:List (Nat×Value)} {D:List Deferred} {pm:Option FrameMode} {ro:Option Nat} {d:Nat} {g:Option (Tmp×Bool)}
variable {α:Type} [DecidableEq α] {aS:α->Value}
theorem St.KZ{b:Nat}{aN:List (α×Value)}{w:Wd}(h:St B w0 (jV aS b aN::kl) F w):∃es clock,yl aS aN es clock/\St B w0 (pt b (.map es clock)::kl) F w:=by
 obtain⟨S,⟨S1,S2,⟨q1,es,clock,q3,q4⟩,q2,e⟩,h2,h3⟩:=h.own;exact⟨es,clock,q4,h.agree,h.le,h.eO,⟨S,⟨S1,S2,⟨q1,q3⟩,q2,e⟩,h2,h3⟩,h.facts⟩
theorem Ah(aS:α->Value)
 (next:∀b,R (λh=>aB P ds rest (act n ((d,.map (some b))::l) D pm ro) h K) B w0 (jV aS b []::kl) F) (hn:Nat.blt d n=true:=by rfl) (hg:bH l g=true:=by rfl):
 R (λh=>aB P ds (⟨⟨some d,g,.zm⟩,[]⟩::rest) (act n l D pm ro) h K) B w0 kl F:=λw s=>
 iH hn hg (h':=w.h.new (.map [] 0)) (by simp only[ak.run,ak.alloc,pM]) (next w.h.next (w.new _) ((s.new _).CL (A:=pt w.h.next (.map [] 0)) (A':=jV aS w.h.next []) λw S hp=>⟨hp.1,[],0,hp.2,⟨rfl,λe he=>(by cases he),Ez,Ez⟩⟩))
def ym{α:Type}[DecidableEq α](ok:Bool)(zero:Value)(a:α)(aN:List (α×Value)):Value:=match qK a aN with
 |some v=>cond ok (.tuple #[v,.bool true]) v
 |none=>cond ok (.tuple #[zero,.bool false]) zero
theorem K3{kt:TypeId}{zero:Value}{m k:Operand}{ok:Bool}{b:Nat}{aN:List (α×Value)}(hk:uQ P kt aS)(a:α)
 (next:R (λh=>aB P ds rest (act n ((d,ym ok zero a aN)::l) D pm ro) h K) B w0 kl F)
 (hm:ev l m=.map (some b):=by rfl) (ha:ev l k=aS a:=by conv=>lhs;whnf) (hs:ai (jV aS b aN) kl kl':=by exact fM) (hn:Nat.blt d n=true:=by rfl) (hg:bH l g=true:=by rfl):
 R (λh=>aB P ds (⟨⟨some d,g,.lookup kt zero m k ok⟩,[]⟩::rest) (act n l D pm ro) h K) B w0 kl F:=λw s=>by
 obtain⟨es,clock,h2,s1⟩:=(s.fe hs).KZ;refine iH hn hg (v:=ym ok zero a aN) ?_ (next w s);have:zo P kt zero (.map (some b)) (aS a) ok w.h=_:=abm hk (by simp only[entriesOf,s1.get.1]) h2.rT;simp only[ak.run,hm,ha,this];rfl
theorem Ai{kt:TypeId}{m k x:Operand}{b:Nat}{v:Value}{aN:List (α×Value)}(hk:uQ P kt aS)(a:α)
 (next:R (λh=>aB P ds rest (act n l D pm ro) h K) B w0 (jV aS b (upd a v aN)::kl') F)
 (hm:ev l m=.map (some b):=by rfl) (ha:ev l k=aS a:=by conv=>lhs;whnf) (hv:ev l x=v:=by conv=>lhs;whnf) (hs:ai (jV aS b aN) kl kl':=by exact fM) (hg:bH l g=true:=by rfl):
 R (λh=>aB P ds (⟨⟨none,g,.EH kt m k x⟩,[]⟩::rest) (act n l D pm ro) h K) B w0 kl F:=λw s=>by
 obtain⟨es,clock,h2,s1⟩:=(s.fe hs).KZ;obtain⟨es',clock',e1,e2⟩:=abn (v:=v) hk (a:=a) s1.get.1 h2;refine JV hg (v:=bU) (h':=w.h.set b (.map es' clock')) ?_ (next _ ((s1.write (o':=.map es' clock')).CL (A:=pt b (.map es' clock')) (A':=jV aS b (upd a v aN)) λw S hp=>⟨hp.1,es',clock',hp.2,e2⟩));simp only[ak.run,hm,ha,hv,e1]
theorem K4{aN:List (α×Value)}{es:List MapEntry}{clock:Nat}(h:yl aS aN es clock):es.length=aN.length:=by
 have:=congrArg List.length h.rT;simpa using this
theorem QH{m:Operand}{b:Nat}{aN:List (α×Value)}
 (next:R (λh=>aB P ds rest (act n ((d,.int .i64 (aN.length:Int))::l) D pm ro) h K) B w0 kl F)
 (hm:ev l m=.map (some b):=by rfl) (hs:ai (jV aS b aN) kl kl':=by exact fM) (hn:Nat.blt d n=true:=by rfl) (hg:bH l g=true:=by rfl):
 R (λh=>aB P ds (⟨⟨some d,g,.Bz m⟩,[]⟩::rest) (act n l D pm ro) h K) B w0 kl F:=λw s=>by
 obtain⟨es,clock,h2,s1⟩:=(s.fe hs).KZ;refine iH hn hg (v:=.int .i64 (aN.length:Int)) ?_ (next w s);simp only[ak.run,hm,entriesOf,s1.get.1,rf,K4 h2,Fs]
def yn{α:Type}(aS:α->Value)(r b:Nat)(aN gq:List (α×Value)):OA:=⟨λw S=>S=[r]/\∃es clock seen last,w.h.get b=some (.map es clock)/\w.z b/\yl aS aN es clock/\w.h.get r=some (.mapIter (some b) clock seen last)/\last=clock/\
 (∃ve rem:List MapEntry,mV aS gq ve/\ve.map (·.born)=seen/\(ve++rem).Perm es),
 λa h ⟨h1,es,clock,seen,last,h2,h3,h4,h5,h6,h7⟩=>⟨h1,es,clock,seen,last,by rw[a.get b h3];exact h2,a.z b h3,h4,by rw[h r (by rw[h1];exact di.2 rfl)];exact h5,h6,h7⟩⟩
theorem QI{m:Operand}{b:Nat}{aN:List (α×Value)}
 (next:∀r,R (λh=>aB P ds rest (act n ((d,.pointer (some ⟨r,0,none⟩))::l) D pm ro) h K) B w0 (yn aS r b aN []::kl) F)
 (hm:ev l m=.map (some b):=by rfl) (hf:Da aS b aN∈F:=by exact oF) (hn:Nat.blt d n=true:=by rfl) (hg:bH l g=true:=by rfl):
 R (λh=>aB P ds (⟨⟨some d,g,.rangeMap m⟩,[]⟩::rest) (act n l D pm ro) h K) B w0 kl F:=λw s=>by
 obtain⟨hz,es,clock,h1,h2⟩:=s.facts _ hf;refine iH hn hg (h':=w.h.new (.mapIter (some b) clock [] clock)) (by simp only[ak.run,hm,h1]) (next w.h.next (w.new _) ?_);have s1:=s.new (.mapIter (some b) clock [] clock);obtain⟨hz',es',clock',h1',h2'⟩:=s1.facts _ hf;refine s1.nD λS hp=>⟨hp.1,es',clock',[],clock,h1',hz',h2',?_,?_,[],es',rfl,rfl,.refl _⟩
 ·have:clock'=clock:=by
   have e:(w.new (.mapIter (some b) clock [] clock)).h.get b=w.h.get b:=by
    show(w.h.new _).get b=_;rw[IH.gF,if_neg (by have:=w.iN b hz;omega)]
   rw[e,h1]at h1';injection h1' with h1';injection h1' with _ h1';exact h1'.symm
  rw[this];exact hp.2
 ·have e:(w.new (.mapIter (some b) clock [] clock)).h.get b=w.h.get b:=by
   show(w.h.new _).get b=_;rw[IH.gF,if_neg (by have:=w.iN b hz;omega)]
  rw[e,h1]at h1';injection h1' with h1';injection h1' with _ h1'
theorem abo{es ve rem:List MapEntry}(hp:(ve++rem).Perm es)(hn:(es.map (·.born)).Nodup):(es.filter λe=>!(ve.map (·.born)).contains e.born).Perm rem:=by
 have hp2:((ve++rem).filter λe=>!(ve.map (·.born)).contains e.born).Perm (es.filter λe=>!(ve.map (·.born)).contains e.born):=hp.filter _;rw[List.filter_append]at hp2;have h1:ve.filter (λe=>!(ve.map (·.born)).contains e.born)=[]:=by
  rw[List.filter_eq_nil_iff];intro e he;simp only[zh,Bool.not_eq_false',List.contains_eq_mem,Bi];simp;exact⟨e,he,rfl⟩
 have hnd:((ve++rem).map (·.born)).Nodup:=(hp.map _).nodup_iff.2 hn;rw[fH,qV]at hnd;have h2:rem.filter (λe=>!(ve.map (·.born)).contains e.born)=rem:=by
  rw[List.filter_eq_self];intro e he;simp only[zh,List.contains_eq_mem,decide_eq_false_iff_not];intro hm;exact hnd.2.2 _ hm _ (List.mem_map_of_mem he) rfl
 rw[h1,h2,gL]at hp2;exact hp2.symm
theorem QJ{x:Operand}{r b:Nat}{aN gq:List (α×Value)}
 (more:∀p rem,(gq++p::rem).Perm aN->R (λh=>aB P ds rest (act n ((d,.tuple #[.bool true,aS p.1,p.2])::l) D pm ro) h K) B w0 (yn aS r b aN (gq++[p])::kl') F)
 (done:gq.Perm aN->R (λh=>aB P ds rest (act n ((d,.tuple #[.bool false])::l) D pm ro) h K) B w0 (yn aS r b aN gq::kl') F)
 (inj:∀a c,aS a=aS c->a=c)
 (hx:ev l x=.pointer (some ⟨r,0,none⟩):=by rfl) (hs:ai (yn aS r b aN gq) kl kl':=by exact fM) (hn:Nat.blt d n=true:=by rfl) (hg:bH l g=true:=by rfl):
 R (λh=>aB P ds (⟨⟨some d,g,.uq x⟩,[]⟩::rest) (act n l D pm ro) h K) B w0 kl F:=λw s0=>by
 have s:=s0.fe hs;obtain⟨S,⟨S1,S2,⟨q1,es,clock,seen,last,h1,hz,h2,h3,h4,ve,rem,h5,h6,h7⟩,q2,eS⟩,hnd,hown⟩:=s.own;subst h4 h6;have hpl:=abo h7 h2.nd;have hold:((es.filter λe=>!(ve.map (·.born)).contains e.born).filter λe=>Nat.blt e.born last)=es.filter λe=>!(ve.map (·.born)).contains e.born:=by
  rw[List.filter_eq_self];intro e he;have:=h2.lt e (List.mem_filter.1 he).1;rw[pu];exact this
 have hnew:((es.filter λe=>!(ve.map (·.born)).contains e.born).filter λe=>Nat.ble last e.born)=[]:=by
  rw[List.filter_eq_nil_iff];intro e he;have:=h2.lt e (List.mem_filter.1 he).1;rw[nu];omega
 have hcl:(!(ve.map (·.born)).isEmpty&&!es.isEmpty&&es.all (λe=>Nat.ble last e.born))=false:=by
  cases es with
  |nil=>simp
  |cons e es=>
   have:=h2.lt e (bz ..);have:Nat.ble last e.born=false:=by
    cases hb:Nat.ble last e.born with
    |false=>rfl
    |true=>rw[nu]at hb;omega
   simp[this]
 have abp:xK (ev l x) w.h=some ((if(es.filter λe=>!(ve.map (·.born)).contains e.born).isEmpty then[(.tuple #[.bool false],w.h)]else[])++
  (es.filter λe=>!(ve.map (·.born)).contains e.born).map λe=>(.tuple #[.bool true,e.key,e.val],w.h.set r (.mapIter (some b) last (ve.map (·.born)++[e.born]) last))):=by
  rw[hx];unfold xK;simp only[h3,h1];rw[hcl];simp only[cond_false,hold,hnew,gQ]
 -- a pair for an entry
 have ai9:∀(aja:List MapEntry) (ajb:List (α×Value)),True:=λ_ _=>trivial;refine .next (qF hg) x rfl rfl _ (by rw[jT];exact abp) ?_
 intro vh hm;rcases gy.1 hm with hm|hm
 ·split at hm
  ·rename_i hemp;rw[di.1 hm,l6 hn];have abq:rem=[]:=by
    have:(es.filter λe=>!(ve.map (·.born)).contains e.born)=[]:=by simpa using hemp
    rw[this]at hpl;exact List.nil_perm.1 hpl|>λh=>h
   refine done ?_ w s;subst abq;rw[gQ]at h7;have hm1:=h7.map (λe=>(e.key,e.val));rw[h5,h2.rT]at hm1;exact QA (λp:α×Value=>(aS p.1,p.2)) (λp q hpq=>by
    injection hpq with e1 e2;exact Prod.ext (inj _ _ e1) e2) hm1
  ·cases hm
 ·obtain⟨e,he,rfl⟩:=jQ.1 hm;have hr:e∈rem:=hpl.mem_iff.1 he;obtain⟨r1,r2,abr⟩:=List.append_of_mem hr
  -- the pair
  obtain⟨i,hi,hie⟩:∃i,i<aN.length/\es[i]? =some e:=by
   obtain⟨i,hi⟩:=Ir.1 (List.mem_filter.1 he).1;have:=(dX.1 hi).1;rw[K4 h2]at this;exact⟨i,this,hi⟩
  have hpe:(e.key,e.val)=(aS aN[i].1,aN[i].2):=by
   have:=congrArg (λl=>l[i]?) h2.rT;simp only[bX,hie,bf hi,iT]at this;injection this
  injection hpe with hpk hpv;rw[l6 hn,hpk,hpv];have hperm:(ve++[e]++(r1++r2)).Perm es:=by
   refine List.Perm.trans ?_ h7;rw[abr,ik];refine List.Perm.append_left _ ?_;exact(List.perm_middle (l₁:=r1) (l₂:=r2) (a:=e)).symm
  have Db:mV aS (gq++[aN[i]]) (ve++[e]):=by
   unfold mV;rw[fH,fH,h5];simp[hpk,hpv]
  obtain⟨K5,abt⟩:∃K5:List (α×Value),(gq++aN[i]::K5).Perm aN:=by
   have hm1:=hperm.map (λe=>(e.key,e.val));rw[fH,Db,h2.rT]at hm1;have hex:∀ls:List MapEntry,(∀x∈ls,∃p:α×Value,(x.key,x.val)=(aS p.1,p.2))->∃ps:List (α×Value),ls.map (λe=>(e.key,e.val))=ps.map λp=>(aS p.1,p.2):=by
    intro ls;induction ls with
    |nil=>intro _;exact⟨[],rfl⟩
    |cons x ls ih=>
     intro h;obtain⟨p,hp⟩:=h x (bz ..);obtain⟨ps,hps⟩:=ih λy hy=>h y (dh _ hy);exact⟨p::ps,by rw[mJ,mJ,hp,hps]⟩
   obtain⟨ps,hps⟩:=hex (r1++r2) (λy hy=>by
    have hy':y∈es:=hperm.mem_iff.1 (nW _ hy);obtain⟨j,hj⟩:=Ir.1 hy';have hj':=(dX.1 hj).1;rw[K4 h2]at hj';have:=congrArg (λl=>l[j]?) h2.rT;simp only[bX,hj,bf hj',iT]at this;injection this with this;exact⟨_,this⟩)
   rw[hps,<- fH]at hm1;refine⟨ps,?_⟩;have:=QA (λp:α×Value=>(aS p.1,p.2)) (λp q hpq=>by
    injection hpq with e1 e2;exact Prod.ext (inj _ _ e1) e2) hm1
   rwa [ik]at this
  refine more aN[i] K5 abt ⟨w.h.set r (.mapIter (some b) last (ve.map (·.born)++[e.born]) last),w.z,λi hi=>w.iN i hi⟩ ?_
  -- the state behind the step
  have s2:St B w0 (pt r (.mapIter (some b) last (ve.map (·.born)) last)::kl') F w:=⟨s.agree,s.le,s.eO,⟨S,⟨S1,S2,⟨q1,h3⟩,q2,eS⟩,hnd,hown⟩,s.facts⟩
  have s3:=s2.write (o':=.mapIter (some b) last (ve.map (·.born)++[e.born]) last);refine s3.nD λS' hp=>⟨hp.1,es,last,_,last,?_,hz,h2,hp.2,rfl,ve++[e],r1++r2,Db,by rw[fH];rfl,hperm⟩
  have hrb:r≠b:=λer=>by
   have:=s2.own;obtain⟨S0,⟨T1,T2,⟨u1,_⟩,_,ue⟩,_,ho⟩:=this;exact(ho r (by rw[ue,u1];simp)).2.2 (er▸hz)
  show(w.h.set r _).get b=_;rw[IH.jC,if_neg (λer=>hrb er.symm)];exact h1
theorem QK{x:Operand}{r b:Nat}{aN gq:List (α×Value)}{p:α×Value}
 (next:R (λh=>aB P ds rest (act n ((d,.tuple #[aS p.1,p.2])::l) D pm ro) h K) B w0 kl F)
 (hx:ev l x=.pointer (some ⟨r,0,none⟩):=by rfl) (hs:ai (yn aS r b aN (gq++[p])) kl kl':=by exact fM) (hn:Nat.blt d n=true:=by rfl) (hg:bH l g=true:=by rfl):
 R (λh=>aB P ds (⟨⟨some d,g,.entry x⟩,[]⟩::rest) (act n l D pm ro) h K) B w0 kl F:=λw s0=>by
 have s:=s0.fe hs;obtain⟨S,⟨S1,S2,⟨q1,es,clock,seen,last,h1,hz,h2,h3,h4,ve,rem,h5,h6,h7⟩,q2,e⟩,hnd,hown⟩:=s.own;subst h4 h6;obtain⟨QL,x0,Db,hx0,hx1⟩:∃QL x0,ve=QL++[x0]/\x0.key=aS p.1/\x0.val=p.2:=by
  unfold mV at h5;rw[fH]at h5;obtain⟨a1,a2,e1,e2,e3⟩:=List.map_eq_append_iff.1 h5;obtain⟨x0,a3,e4,e5,e6⟩:=List.map_eq_cons_iff.1 e3;have:a3=[]:=by simpa using e6
  subst this;injection e5 with e5 e7;exact⟨a1,x0,by rw[e1,e4],e5,e7⟩
 have hfind:es.find? (λy=>Nat.beq y.born x0.born)=some x0:=by
  have hm:x0∈es:=h7.mem_iff.1 (mK _ (by rw[Db];simp));cases hf:es.find? (λy=>Nat.beq y.born x0.born)with
  |none=>
   have:=List.find?_eq_none.1 hf x0 hm;simp[vO]at this
  |some y=>
   have hy:=List.find?_some hf;have hym:=List.mem_of_find?_eq_some hf;have hb:y.born=x0.born:=nU hy;congr 1;exact QB h2.nd hym hm hb
 refine iH hn hg (v:=.tuple #[aS p.1,p.2]) ?_ (next w s0);simp only[ak.run,hx,h3,h1];rw[Db];simp only[fH,mJ,List.map_nil,List.getLast?_append,List.getLast?_singleton,Option.some_or,vO,cond_true,hfind,hx0,hx1]
end
end Go.Ideal
namespace Go.Ideal
open Go.Sort
variable {P:Program}
theorem WR.grow{β:az}{h:IH}{w:World}(hW:WR P β h w)(os:Array Obj):WR P β h (grow w os)/\Eff β h w β h (grow w os):=by
 have hold:∀b,b<w.heap.size->(Go.Sort.grow w os).heap[b]? =w.heap[b]?:=λb hb=>by
  show(w.heap++os)[b]? =_;rw[NL hb]
 refine⟨⟨hW.dom,hW.live,λi g o h1 h2=>?_,hW.inj⟩,⟨λ_ _=>rfl,aH _,λ_ _ h=>h,λ_ _ _=>rfl,aH _,λ_ _ _=>rfl,rfl,rfl,rfl,?_,λb hb _=>hold b hb,λi g hg hi=>absurd (hW.dom _ _ hg) (by omega),λi g _ _ _ _ hb=>hold _ hb,aH _⟩⟩
 ·have hO:=hW.obj i g o h1 h2;exact hO.congr (hold _ hO.lt)
 ·show w.heap.size<=(w.heap++os).size;rw[Array.size_append];omega
def F4(o:Nat):List Value->Array Value->Array Value
 |[],c=>c
 |v::vs,c=>F4 (o+1) vs (c.setIfInBounds o v)
theorem QM(b:Nat):∀(vs:List Value) (o:Nat) (w:World),w.setCells b o vs=mapBlock w b (F4 o vs)
 |[],o,w=>(mapBlock_id w b _ λc e fr h=>rfl).symm
 |v::vs,o,w=>by
  show(w.setCell ⟨b,o,none⟩ v).setCells b (o+1) vs=_;rw[QM b vs (o+1),setCell_eq,mapBlock_mapBlock];rfl
theorem QN:∀(vs:List Value) (o:Nat) (c:Array Value) (k:Nat),(F4 o vs c)[k]? =if o<=k/\k<o+vs.length/\k<c.size then vs[k - o]? else c[k]?
 |[],o,c,k=>by
  rw[if_neg (by rw[ql];omega)];rfl
 |v::vs,o,c,k=>by
  show(F4 (o+1) vs (c.setIfInBounds o v))[k]? =_;rw[QN vs (o+1),Array.size_setIfInBounds,qh];by_cases h1:o+1<=k/\k<o+1+vs.length/\k<c.size
  ·rw[if_pos h1,if_pos ⟨by omega,by omega,h1.2.2⟩];rw[show k - o=(k - (o+1))+1 by omega,oW]
  ·rw[if_neg h1,VZ];by_cases h2:o=k
   ·subst h2;rw[if_pos rfl];by_cases h3:o<c.size
    ·rw[if_pos h3,if_pos ⟨aH _,by omega,h3⟩,xA];rfl
    ·rw[if_neg h3,if_neg (by omega)];exact(o8 (by omega)).symm
   ·rw[if_neg h2,if_neg (by omega)]
theorem setCells_putRow{α:Type}[Inhabited α](enc:α->Value)(w:World)(b o:Nat)(d:Array α):w.setCells b o (d.toList.map enc)=putRow enc w b o d:=by
 rw[QM];unfold putRow;refine mapBlock_congr w b _ _ λc e fr hc=>?_;apply NJ;intro k;rw[QN,putCells,Array.getElem?_mapIdx,bC,Array.length_toList];by_cases hk:k<c.size
 ·by_cases h:o<=k/\k<o+d.size
  ·rw[if_pos ⟨h.1,h.2,hk⟩,NN hk,iT,if_pos h,bX,uk,NN (by omega)];rw[iT,getElem!_pos d _ (by omega)]
  ·rw[if_neg (λq=>h ⟨q.1,q.2.1⟩),NN hk,iT,if_neg h]
 ·rw[if_neg (by omega),o8 (by omega)];rfl
theorem Dc{α:Type}:∀(l:List α) (o:Nat) (xs:List α),o+xs.length<=l.length->∃r,fU l o xs=some r
 |[],o,xs,h=>by
  have h1:xs=[]:=sD.1 (by rw[ql]at h;omega);have h2:o=0:=by rw[ql]at h;omega
  exact⟨[],by rw[Ob,if_pos ⟨h1,h2⟩]⟩
 |c::l,0,[],h=>⟨_,Oc c l⟩
 |c::l,0,x::xs,h=>by
  obtain⟨r,hr⟩:=Dc l 0 xs (by simp only[qh]at h;omega);exact⟨x::r,by rw[IQ,hr];rfl⟩
 |c::l,o+1,xs,h=>by
  obtain⟨r,hr⟩:=Dc l o xs (by simp only[qh]at h;omega);exact⟨c::r,by rw[IR,hr];rfl⟩
end Go.Ideal
namespace Go.Ideal
variable {P:Program}
def K6{α:Type}(P:Program)(vals:α->List Value)(fn:Fn)(first cap:List Value)(F:List aK)(X:List α->Prop):Prop:=
 ∀(S:Type) (inv:S->List OA) (ok:List α->S->Prop) (step:S->α->S×Bool) (s0:S) (K7:Fn) (y1 y2:List Value) (F':List aK),ok [] s0->
  (∀vs s x rest,ok vs s->X (vs++x::rest)->(step s x).2=true->ok (vs++[x]) (step s x).1)->
  (∀vs s x rest,ok vs s->X (vs++x::rest)->bD P K7 (y1++vals x) y2 (inv s) F' (λ_:Unit=>.bool (step s x).2) (λ_=>inv (step s x).1) (λ_=>[]) (λ_=>True))->
  bD P fn (first++[.func K7 ⟨y1⟩ ⟨y2⟩]) cap (inv s0) (F++F') (λ_:List α=>.tuple ⟨[]⟩) (λxs=>inv (oI step s0 xs)) (λ_=>[]) X
section
variable {B:List Nat} {w0:Wd} {kl kl' bK:List OA} {F:List aK} {K:KO} {n:Nat} {l:List (Nat×Value)} {D:List Deferred} {pm:Option FrameMode} {ro:Option Nat}
def F5{Z:Type}(B:List Nat)(w0:Wd)(n:Nat)(l3:Z->List (Nat×Value))(lo:Nat)(o:bB)(kl:Z->List OA)(F:List aK):KO:=λoo a h=>
 oo=.normal/\∃z,a=act n (l3 z) [] none (some lo)/\∃w:Wd,w.h=h/\St B w0 (pt lo o::kl z) F w
theorem abu{Z:Type}{l3:Z->List (Nat×Value)}{lo:Nat}{o:bB}{k3:Z->List OA}(z:Z)(hl:l3 z=l)(hk:aM (pt lo o::k3 z) kl bK:=by exact qJ):R (λh=>F5 B w0 n l3 lo o k3 F .normal (act n l [] none (some lo)) h) B w0 kl F:=λw s=>
 ⟨rfl,z,by rw[hl],w,rfl,(s.jF hk).drop⟩
theorem abv{Y Z:Type}{lo:Nat}{L:mP}{args:List Value}{k1:List OA}{out:Y->Out}{k1':Y->List OA}{fs:Y->List aK}{pr:Y->Prop}(l:List (Nat×Value))(l3:Z->List (Nat×Value))(k3:Z->List OA)(hl:L.tmps=gp l)(hst:L.state=.ready)(hps:L.params.all (λp=>Nat.blt p L.n)=true)(hlen:L.params.length=args.length)
 (ha:∀B w0,R (λh=>EV P L.assign (act L.n ((L.params.zip args).reverse++l) [] none (some lo)) h (F5 B w0 L.n l3 lo (.loop L) k3 F)) B w0 (pt lo (.loop L)::k1) F)
 (hb:∀z B w0,R (λh=>EV P L.body (act L.n (l3 z) [] none (some lo)) h (CZ B w0 lo L out k1' fs pr)) B w0 (pt lo (.loop (wG L))::k3 z) F):
 bD P (.yield lo) args [] (pt lo (.loop L)::k1) F (λy:Y=>.bool (oH (out y))) (λy=>pt lo (.loop (mg L (out y)))::k1' y) fs pr:=by
 intro B w s;obtain⟨l2,e1,e2⟩:=Qn L.n L.params args l hps hlen;refine .round lo rfl rfl L s.get.1 hlen.symm _ (by
  rw[hl];show EV P L.assign (aR.mk L.n (qZ L.n L.params args (gp l)) [] none (some lo)) w.h _;rw[e1,e2];exact ha B w w s) ?_ ?_
 ·rintro o a h ⟨rfl,z,rfl,w1,rfl,s1⟩;exact⟨rfl,L,s1.get.1,hst⟩
 ·rintro a h r1 ⟨_,z,rfl,w1,rfl,s1⟩ hr;have hr1:r1=L:=by
   have:=s1.get.1;rw[hr]at this;injection this with this;injection this
  subst hr1;have hb:=hb z B w _ (s1.write (o':=.loop (wG r1)));refine PE hb _ ?_;rintro o a h ⟨hd,w2,y,rfl,rfl,hn,s2,hp⟩;refine⟨wG r1,s2.get.1,hd,?_⟩;have fin:∀o',oH o'=oH (out y)->mg r1 o'=mg r1 (out y)->Left B w (λy:Y=>.bool (oH (out y))) (λy=>pt lo (.loop (mg r1 (out y)))::k1' y) fs pr (.ok (.bool (oH (out y)))) none (w2.h.set lo (.loop (mg r1 (out y)))):=λo' _ _=>
   ⟨rfl,_,y,rfl,s2.write,rfl,hp⟩
  cases ho:out y with
  |normal=>have:=fin .normal (by rw[ho]) (by rw[ho]);rw[ho]at this;exact this
  |exit j=>have:=fin (.exit j) (by rw[ho]) (by rw[ho]);rw[ho]at this;exact this
  |ret=>have:=fin .ret (by rw[ho]) (by rw[ho]);rw[ho]at this;exact this
  |panic ch=>rw[ho]at hn;exact hn.elim
theorem abw{S α Z:Type}{f:Operand}{ps:List Tmp}{assign body:cB}{fn:Fn}{first captured:List Value}{vals:α->List Value}{F1:List aK}{X:List α->Prop}(step:S->α->S×Out)(inv:S->List OA)(ok:List α->S->Prop)(s0:S)(h0:ok [] s0)
 (hok:∀vs s x rest,ok vs s->X (vs++x::rest)->(step s x).2=.normal->ok (vs++[x]) (step s x).1) (hit:K6 P vals fn first captured F1 X)
 (hf:ev l f=.func fn ⟨first⟩ ⟨captured⟩) (hps:ps.all (λp=>Nat.blt p n)=true) (hlen:∀x,ps.length=(vals x).length) (hk:aM (inv s0) kl bK) (hF:Sub F1 F) (iM:∀s x,CY (step s x).2)
 (l3:α->Z->List (Nat×Value)) (k3:α->Z->List OA)
 (ha:∀(s:S) (x:α) (lo:Nat) (o:bB) B w0,R (λh=>EV P assign (act n ((ps.zip (vals x)).reverse++l) [] none (some lo)) h (F5 B w0 n (l3 x) lo o (λz=>k3 x z++inv s) F)) B w0 (pt lo o::inv s) F)
 (hb:∀(vs:List α) (s:S) (x:α) (rest:List α) (z:Z) (lo:Nat) (L:mP) B w0,ok vs s->X (vs++x::rest)->R (λh=>EV P body (act n (l3 x z) [] none (some lo)) h (CZ B w0 lo L (λ_:Unit=>(step s x).2) (λ_=>inv (step s x).1) (λ_=>[]) (λ_=>True))) B w0 (pt lo (.loop (wG L))::(k3 x z++inv s)) F)
 (next:∀r xs,X xs->R (λh=>K (oJ step s0 xs).2 (act n l ({target:=.collected r,args:= #[]}::D) pm none) h) B w0 (inv (oJ step s0 xs).1++(pt r (.fV true)::bK)) F):
 R (λh=>EV P (.rangeFunc f ps assign body) (act n l D pm none) h K) B w0 kl F:=by
 refine aa2 (Y:=List α) (k1:=inv s0) (F1:=F1++F) (KT:=λ_=>.tuple ⟨[]⟩) (out:=λxs=>(oJ step s0 xs).2) (k1':=λxs=>inv (oJ step s0 xs).1) (fs:=λ_=>[]) (pr:=X) hf ?_ hk (hF.app (Sub.refl' F [])) (λr y hy=>next r y hy);intro lo r;have:=hit (S×Out) (λso=>pt lo (.loop (mg ⟨.ready,none,gp l,n,ps,assign,body,r⟩ so.2))::inv so.1) (λvs so=>so.2=.normal/\ok vs so.1) (λso x=>(step so.1 x,oH (step so.1 x).2)) (s0,.normal) (.yield lo) [] [] F ⟨rfl,h0⟩
  (λvs so x rest ho hx h=>by
    have h:oH (step so.1 x).2=true:=h;have hn:(step so.1 x).2=.normal:=by
     cases e:(step so.1 x).2 with
     |normal=>rfl
     |_=>rw[e]at h;cases h
    exact⟨hn,hok vs so.1 x rest ho.2 hx hn⟩)
  (λvs so x rest ho hx=>by
    obtain⟨s,o⟩:=so;obtain⟨hn,ho⟩:=ho;have hn:o=.normal:=hn;subst hn;exact abv (Y:=Unit) (L:=⟨.ready,none,gp l,n,ps,assign,body,r⟩) (args:=vals x) (k1:=inv s) (out:=λ_=>(step s x).2) (k1':=λ_=>inv (step s x).1) (fs:=λ_=>[]) (pr:=λ_=>True) l (l3 x) (λz=>k3 x z++inv s) rfl rfl hps (hlen x)
     (λB w0=>ha s x lo _ B w0) (λz B w0=>hb vs s x rest z lo _ B w0 ho hx))
 have e:(λxs:List α=>pt lo (.loop (mg ⟨.ready,none,gp l,n,ps,assign,body,r⟩ (oI (λ(so:S×Out) x=>(step so.1 x,oH (step so.1 x).2)) (s0,.normal) xs).2))::inv (oI (λ(so:S×Out) x=>(step so.1 x,oH (step so.1 x).2)) (s0,.normal) xs).1)=λxs=>pt lo (.loop (mg ⟨.ready,none,gp l,n,ps,assign,body,r⟩ (oJ step s0 xs).2))::inv (oJ step s0 xs).1:=by
  funext xs
  rw[Qo]
 have h2:bD P fn (first++[.func (.yield lo) ⟨[]⟩ ⟨[]⟩]) captured (pt lo (.loop ⟨.ready,none,gp l,n,ps,assign,body,r⟩)::inv s0) (F1++F) (λ_:List α=>.tuple ⟨[]⟩) (λxs=>pt lo (.loop (mg ⟨.ready,none,gp l,n,ps,assign,body,r⟩ (oI (λ(so:S×Out) x=>(step so.1 x,oH (step so.1 x).2)) (s0,.normal) xs).2))::inv (oI (λ(so:S×Out) x=>(step so.1 x,oH (step so.1 x).2)) (s0,.normal) xs).1) (λ_=>[]) X:=this;rw[e]at h2;exact h2
theorem abx{S α Z:Type}{f:Operand}{ps:List Tmp}{assign body:cB}{fn:Fn}{first captured:List Value}{vals:α->List Value}{F1:List aK}{X:List α->Prop}(step:S->α->S×Out)(inv:S->List OA)(ok:List α->S->Prop)(s0:S)(l3:α->Z->List (Nat×Value))(k3:α->Z->List OA)(h0:ok [] s0)
 (hok:∀vs s x rest,ok vs s->X (vs++x::rest)->(step s x).2=.normal->ok (vs++[x]) (step s x).1) (hit:K6 P vals fn first captured F1 X)
 (ha:∀(s:S) (x:α) (lo:Nat) (o:bB) B w0,R (λh=>EV P assign (act n ((ps.zip (vals x)).reverse++l) [] none (some lo)) h (F5 B w0 n (l3 x) lo o (λz=>k3 x z++inv s) F)) B w0 (pt lo o::inv s) F)
 (hb:∀(vs:List α) (s:S) (x:α) (rest:List α) (z:Z) (lo:Nat) (L:mP) B w0,ok vs s->X (vs++x::rest)->R (λh=>EV P body (act n (l3 x z) [] none (some lo)) h (CZ B w0 lo L (λ_:Unit=>(step s x).2) (λ_=>inv (step s x).1) (λ_=>[]) (λ_=>True))) B w0 (pt lo (.loop (wG L))::(k3 x z++inv s)) F)
 (next:∀r xs,X xs->R (λh=>K (oJ step s0 xs).2 (act n l ({target:=.collected r,args:= #[]}::D) pm none) h) B w0 (inv (oJ step s0 xs).1++(pt r (.fV true)::bK)) F)
 (iM:∀s x,CY (step s x).2)
 (hf:ev l f=.func fn ⟨first⟩ ⟨captured⟩:=by rfl) (hps:ps.all (λp=>Nat.blt p n)=true:=by rfl) (hlen:∀x,ps.length=(vals x).length:=by intro _;rfl)
 (hk:aM (inv s0) kl bK:=by exact qJ) (hF:Sub F1 F:=by exact pY):
 R (λh=>EV P (.rangeFunc f ps assign body) (act n l D pm none) h K) B w0 kl F:=
 abw step inv ok s0 h0 hok hit hf hps hlen hk hF iM l3 k3 ha hb next
end
end Go.Ideal
namespace Go.Ideal
variable {P:Program}
def aW{α:Type}(E:Enc α)(aa:List (α×E.Y)):List Value:=aa.flatMap λp=>E.pat p.1 p.2
theorem qL{α:Type}{E:Enc α}:∀aa:List (α×E.Y),(aW E aa).length=aa.length*E.n
 |[]=>by simp[aW]
 |p::l=>by
  have ih:=qL l;unfold aW at ih⊢;rw[Iu,dW,ih,E.len,qh,kZ];omega
theorem yo{α:Type}{E:Enc α}:∀{aa:List (α×E.Y)} {k:Nat} {p:α×E.Y} {j:Nat} {u:Value},aa[k]? =some p->(E.pat p.1 p.2)[j]? =some u->(aW E aa)[k*E.n+j]? =some u
 |[],k,p,j,u,h,_=>by cases h
 |q::l,0,p,j,u,h,hj=>by
  cases h;unfold aW;rw[Iu,pF,dD,kD (dX.1 hj).1];exact hj
 |q::l,k+1,p,j,u,h,hj=>by
  have ih:=yo (aa:=l) (k:=k) (by simpa using h) hj;unfold aW at ih⊢;rw[Iu,pq (by rw[E.len,kZ];omega),E.len,show(k+1)*E.n+j - E.n=k*E.n+j by rw[kZ];omega];exact ih
theorem K8{α:Type}{E:Enc α}{j:Nat}{v:Value}:∀{aa:List (α×E.Y)} {k:Nat} {p p':α×E.Y},aa[k]? =some p->(E.pat p.1 p.2).set j v=E.pat p'.1 p'.2->j<E.n->(aW E aa).set (k*E.n+j) v=aW E (aa.set k p')
 |[],k,p,p',h,_,_=>by cases h
 |q::l,0,p,p',h,hp,hj=>by
  cases h;unfold aW;rw[Iu,pF,dD,List.set_append_left _ _ (by rw[E.len];exact hj),hp];rfl
 |q::l,k+1,p,p',h,hp,hj=>by
  have ih:=K8 (aa:=l) (k:=k) (by simpa using h) hp hj;unfold aW at ih⊢;rw[Iu,NP _ _ (by rw[E.len,kZ];omega),E.len,show(k+1)*E.n+j - E.n=k*E.n+j by rw[kZ];omega,ih];rfl
def tH{α:Type}(E:Enc α)(v:Value)(aa:List (α×E.Y)):aK:=
 ⟨λw=>(aa=[]/\∃a c,v=.slice a 0 c/\Kb E.n a)\/∃i o f c cells,(v=.slice (some ⟨i,o,some f⟩) aa.length c/\aa.length<=c/\(f=0\/f=E.n))/\Fz w i cells/\
  ∀(k:Nat) p,aa[k]? =some p->(∀(j:Nat) u,(E.pat p.1 p.2)[j]? =some u->cells[o+k*E.n+j]? =some u)/\∀f∈E.fs p.1 p.2,f.p w,
  λa h=>by
   rcases h with h|⟨i,o,f,c,cells,h1,h2,h3⟩
   ·exact .inl h
   ·refine .inr ⟨i,o,f,c,cells,h1,h2.mono a,λk x hk=>?_⟩;obtain⟨q1,q2⟩:=h3 k x hk;exact⟨q1,λf hf=>f.mono a (q2 f hf)⟩⟩
def qa{α:Type}(E:Enc α)(aa:List (α×E.Y)):aK:=⟨λw=>∀p∈aa,∀f∈E.fs p.1 p.2,f.p w,λa h p hp f hf=>f.mono a (h p hp f hf)⟩
theorem K9{α:Type}{E:Enc α}{v:Value}{aa:List (α×E.Y)}{w:Wd}(h:(tH E v aa).p w):(qa E aa).p w:=by
 intro p hp f hf;rcases h with⟨rfl,_⟩|⟨i,o,fl,c,cells,_,_,h3⟩
 ·cases hp
 ·obtain⟨k,hk⟩:=Ir.1 hp;exact(h3 k p hk).2 f hf
theorem aby{α:Type}{E:Enc α}{v:Value}{aa:List (α×E.Y)}{w:Wd}(h:(tH E v aa).p w):(ah E v (aa.map (·.1))).p w:=by
 rcases h with⟨rfl,h⟩|⟨i,o,f,c,cells,h1,h2,h3⟩
 ·exact .inl ⟨rfl,h⟩
 ·refine .inr ⟨i,o,f,c,cells,by rw[bC];exact h1,h2,λk x hk=>?_⟩;rw[bX]at hk;cases hp:aa[k]? with
  |none=>rw[hp]at hk;cases hk
  |some p=>
   rw[hp]at hk;cases hk;exact⟨p.2,h3 k p hp⟩
theorem abz{α:Type}{E:Enc α}{v:Value}{xs:List α}{w:Wd}(h:(ah E v xs).p w):∃aa:List (α×E.Y),aa.map (·.1)=xs/\(tH E v aa).p w:=by
 rcases h with⟨rfl,h⟩|⟨i,o,f,c,cells,h1,h2,h3⟩
 ·exact⟨[],rfl,.inl ⟨rfl,h⟩⟩
 ·obtain⟨l,hl,hp⟩:=FM (p:=λk (p:α×E.Y)=>xs[k]? =some p.1/\(∀(j:Nat) u,(E.pat p.1 p.2)[j]? =some u->cells[o+k*E.n+j]? =some u)/\∀f∈E.fs p.1 p.2,f.p w) xs.length (λk hk=>by
   obtain⟨y,q1,q2⟩:=h3 k xs[k] (bf hk);exact⟨(xs[k],y),bf hk,q1,q2⟩)
  have hm:l.map (·.1)=xs:=by
   apply jA;intro k;rw[bX];by_cases hk:k<xs.length
   ·have hk':k<l.length:=by omega
    rw[bf hk',iT,(hp k l[k] (bf hk')).1]
   ·rw[ig (by omega),ig (by omega)];rfl
  exact⟨l,hm,.inr ⟨i,o,f,c,cells,by rw[hl];exact h1,h2,λk p hk=>(hp k p hk).2⟩⟩
def ar{α:Type}(E:Enc α)(v:Value)(aa:List (α×E.Y)):OA:=
 ⟨λw S=>(aa=[]/\(∃a,v=.slice a 0 0/\Kb E.n a)/\S=[])\/∃b f,v=.slice (some ⟨b,0,some f⟩) aa.length aa.length/\(f=0\/f=E.n)/\S=[b]/\w.h.get b=some (.cells (aW E aa)),
  λa h hp=>by
   rcases hp with hp|⟨b,f,h1,h2,h3,h4⟩
   ·exact .inl hp
   ·exact .inr ⟨b,f,h1,h2,h3,by rw[h b (by rw[h3];exact di.2 rfl)];exact h4⟩⟩
theorem abA{α:Type}{E:Enc α}{v:Value}{aa:List (α×E.Y)}(w w':Wd)(S:List Nat)(hp:(ar E v aa).p w S)(hle:w.Le w')(hh:w'.h=w.h)(hz:∀i∈S,w'.z i)(ha:(qa E aa).p w):(tH E v aa).p w':=by
 rcases hp with⟨h1,⟨a,h2,h3⟩,_⟩|⟨b,f,h1,h2,h3,h4⟩
 ·exact .inl ⟨h1,a,0,h2,h3⟩
 ·refine .inr ⟨b,0,f,_,_,⟨h1,aH _,h2⟩,⟨hz b (by rw[h3];exact di.2 rfl),.inl (by rw[hh];exact h4)⟩,λk p hk=>⟨λj u hj=>?_,λf hf=>f.mono hle (ha p (cZ hk) f hf)⟩⟩;rw[dD];exact yo hk hj
section
variable {B:List Nat} {w0:Wd} {kl kl' bK:List OA} {F:List aK} {K:KO} {ds:List Tmp} {rest:List aY} {n:Nat} {l:List (Nat×Value)} {D:List Deferred} {pm:Option FrameMode} {ro:Option Nat} {d:Nat} {g:Option (Tmp×Bool)}
variable {α:Type} {E:Enc α} {v:Value}
theorem nI{xs:List α}{Q:IH->Prop}(E:Enc α)(v:Value)(h:∀aa:List (α×E.Y),aa.map (·.1)=xs->R Q B w0 kl (tH E v aa::F))(hf:ah E v xs∈F:=by exact oF):R Q B w0 kl F:=λw s=>by
 obtain⟨aa,h1,h2⟩:=abz (s.facts _ hf);exact h aa h1 w ⟨s.agree,s.le,s.eO,s.own,λf hf=>by
  rcases aU.1 hf with rfl|hf
  ·exact h2
  ·exact s.facts f hf⟩
theorem abB{aa:List (α×E.Y)}{Q:IH->Prop}(h:R Q B w0 kl' (tH E v aa::ah E v (aa.map (·.1))::F))(ha:∀w,(∀f∈F,f.p w)->(qa E aa).p w)(hk:ai (ar E v aa) kl kl':=by exact fM):R Q B w0 kl F:=λw s=>by
 have hall:=ha w s.facts
 -- freeze by hand
 obtain⟨S,⟨S1,S2,q1,q2,e⟩,h2,h3⟩:=(s.fe hk).own;subst e;let w':Wd:=⟨w.h,λi=>w.z i\/i∈S1,λi hi=>hi.elim (w.iN i) λhi=>(h3 i (mK _ hi)).2.1⟩
 have hle:w.Le w':=⟨aH _,λi hi=>.inl hi,λ_ _=>rfl⟩
 have hnd:=qV.1 h2;have hel:=abA w w' S1 q1 hle rfl (λi hi=>.inr hi) hall;refine h w' ⟨s.agree,s.le.trans hle,λi hi hz=>?_,⟨S2,gN.loc hle (λ_ _=>rfl) q2,hnd.2.1,λi hi=>?_⟩,λf hf=>?_⟩
 ·rcases hz with hz|hz
  ·exact s.eO i hi hz
  ·rcases(h3 i (mK _ hz)).1 with q|q
   ·omega
   ·exact .inr q
 ·have:=h3 i (nW _ hi);refine⟨this.1,this.2.1,λhz=>hz.elim this.2.2 λhm=>?_⟩;exact hnd.2.2 i hm i hi rfl
 ·rcases aU.1 hf with rfl|hf
  ·exact hel
  ·rcases aU.1 hf with rfl|hf
   ·exact aby hel
   ·exact f.mono hle (s.facts f hf)
theorem abC{α:Type}(E:Enc α){aa:List (α×E.Y)}{Q:IH->Prop}{b f m:Nat}(hm:m=aa.length)(hf:f=0\/f=E.n)(h:R Q B w0 (ar E (.slice (some ⟨b,0,some f⟩) m m) aa::kl') F)(hk:ai (pt b (.cells (aW E aa))) kl kl':=by exact fM):R Q B w0 kl F:=λw s=>by
 refine h w ((s.fe hk).CL (A:=pt b (.cells (aW E aa))) λw S hp=>.inr ⟨b,f,by rw[hm],hf,hp.1,hp.2⟩)
theorem QO{x:Operand}{t e:TypeId}{a:Addr}{m c:Nat}(hu:P.underlying t=some (.slice e))(hx:ev l x=.slice (some a) m c):Pu P (ev l) (.bin .eql t x (.const (.slice none 0 0))) (.bool false):=λh=>by
 have h2:qw P .eql t x (.const (.slice none 0 0)) (.slice (some a) m c) (.slice none 0 0)=some (.bool false):=by
  have:uw P t (.slice (some a) m c) (.slice none 0 0)=some false:=by
   unfold uw;rw[hu]
  show(match uw P t (.slice (some a) m c) (.slice none 0 0)with|some b=>some (Value.bool b)|none=>none)=_;rw[this]
 simp only[ak.run,hx];show(match qw P .eql t x (.const (.slice none 0 0)) (.slice (some a) m c) (.slice none 0 0)with|some v=>some (v,h)|none=>none)=_;rw[h2]
theorem QR{e:TypeId}{size bytes b c:Nat}{a:Option Addr}{s x:Operand}
 (next:R (λh=>aB P ds rest (act n ((d,.slice (some ⟨b,0,some 0⟩) 0 0)::l) D pm ro) h K) B w0 (pt b (.cells [])::kl') F)
 (hs:ev l s=.slice (some ⟨b,0,some 0⟩) 0 0:=by rfl) (hx:ev l x=.slice a 0 c:=by rfl) (hk:ai (pt b (.cells [])) kl kl':=by exact fM) (hn:Nat.blt d n=true:=by rfl) (hg:bH l g=true:=by rfl):
 R (λh=>aB P ds (⟨⟨some d,g,.append e size bytes s x⟩,[]⟩::rest) (act n l D pm ro) h K) B w0 kl F:=λw st=>by
 have st1:=st.fe hk;refine iH hn hg (v:=.slice (some ⟨b,0,some 0⟩) 0 0) (h':=w.h.set b (.cells [])) ?_ (next ⟨w.h.set b (.cells []),w.z,λi hi=>w.iN i hi⟩ st1.write);have h0:∀m,Nat.mul 0 m=0:=λm=>pF m;have e1:w.h.storeAt b 0 []=some (w.h.set b (.cells [])):=by
  unfold IH.storeAt;simp only[st1.get.1];rfl
 simp only[ak.run,hx,hs,kE,sI,nZ];show cond (Nat.ble (Nat.mul (Nat.add 0 0) bytes) small&&Nat.ble (Nat.mul (Nat.add 0 0) size) small&&Nat.ble (Nat.add 0 0) small) (cond (Nat.ble (Nat.add 0 0) 0) (match w.h.storeAt b (Nat.add 0 (Nat.mul 0 size)) []with|some h=>some (Value.slice (some ⟨b,0,some 0⟩) (Nat.add 0 0) 0,h)|none=>none) _) none=_;rw[show Nat.add 0 0=0 from rfl,h0,h0,show Nat.add 0 0=0 from rfl,e1];have:(Nat.ble 0 small&&Nat.ble 0 small&&Nat.ble 0 small)=true:=rfl;rw[this];rfl
theorem abD{α:Type}{e:TypeId}{size bytes b:Nat}{s x:Operand}(E:Enc α)(aa:List (α×E.Y))(hne:0<aa.length)(hm:aa.length*bytes<=1073741824/\aa.length*size<=1073741824/\aa.length<=1073741824)
 (next:∀b',R (λh=>aB P ds rest (act n ((d,.slice (some ⟨b',0,some size⟩) aa.length aa.length)::l) D pm ro) h K) B w0 (pt b' (.cells (aW E aa))::kl') F)
 (hs:ev l s=.slice (some ⟨b,0,some 0⟩) 0 0:=by rfl) (hx:ev l x=v:=by conv=>lhs;whnf) (hf:tH E v aa∈F:=by exact oF) (hz:E.n=size:=by rfl) (hk:ai (pt b (.cells [])) kl kl':=by exact fM) (hn:Nat.blt d n=true:=by rfl) (hg:bH l g=true:=by rfl):
 R (λh=>aB P ds (⟨⟨some d,g,.append e size bytes s x⟩,[]⟩::rest) (act n l D pm ro) h K) B w0 kl F:=λw st=>by
 subst hz;have st1:=st.fe hk;have hat:At w.h b (.cells []):=st.at_ hk;obtain⟨k,hk'⟩:∃k,aa.length=k+1:=⟨aa.length - 1,by omega⟩
 rcases st.facts _ hf with⟨rfl,_⟩|⟨i,o,f,c,cells,⟨e1,hc⟩,q2,q3⟩
 ·simp at hne
 have hfl:=qL aa;have hcells:∀j,j<aa.length*E.n->cells[o+j]? =(aW E aa)[j]?:=λj hj=>by
  have hn0:0<E.n:=by
   rcases y9 E.n with h0|h0
   ·rw[h0]at hj;omega
   ·exact h0
  have hd:j/E.n<aa.length:=by rw[Im hn0];exact hj
  have hmod:=ul j hn0;have hpk:=bf hd;have hu:(E.pat (aa[j/E.n]).1 (aa[j/E.n]).2)[j%E.n]? =some ((E.pat (aa[j/E.n]).1 (aa[j/E.n]).2)[j%E.n]'(by rw[E.len];exact hmod)):=bf _;have h1:=(q3 (j/E.n) _ hpk).1 (j%E.n) _ hu;have h2:=yo hpk hu;have rM:j/E.n*E.n+j%E.n=j:=by rw[xn];exact Io j E.n
  rw[lS,rM]at h1;rw[rM]at h2;rw[h1,h2]
 have hlen:o+aa.length*E.n<=cells.length\/aa.length*E.n=0:=by
  rcases y9 (aa.length*E.n)with h0|h0
  ·exact .inr h0
  ·left;have h1:=hcells (aa.length*E.n - 1) (by omega);have hx0:(aW E aa)[aa.length*E.n - 1]? =some ((aW E aa)[aa.length*E.n - 1]'(by omega)):=bf _;rw[hx0]at h1;have:=(dX.1 h1).1;omega
 have hpos:0<E.n\/E.n=0:=by omega
 have hread:w.h.dK i o (aa.length*E.n)=some (aW E aa):=by
  rw[q2.cells.dK,j5,j6,if_pos (by rw[jR];omega)];congr 1;apply jA;intro j;rw[qi];by_cases hj:j<aa.length*E.n
  ·rw[if_pos hj,jy];exact hcells j hj
  ·rw[if_neg hj,ig (by omega)]
 refine CG (b:=b) (o:=0) (m:=0) (k:=k) (f:=some 0) (old:=[]) (xs:=aW E aa) hn hg hs (by rw[hx,e1,hk'];rfl) ?_ ?_ (.inl rfl) ?_ λh' mv=>?_
 ·rw[hx,e1,<- hk'];exact hread
 ·rw[hat.c.dK,pF];rfl
 ·rw[dD,<- hk'];omega
 obtain⟨w',rfl,dO,qH⟩:=st1.move mv;rw[gL]at dO;have:=next w.h.next w' dO
 rw[hk']at this;rw[dD];exact this
end
end Go.Ideal
namespace Go.Ideal
variable {P:Program}
inductive Aj(P:Program)(ty:TypeId):Value->Value->Bool->Prop
 |int {a b:Int} (h:P.underlying ty=some (.int .i64)):Aj P ty (.int .i64 a) (.int .i64 b) (decide (a=b))
 |str {a b:ByteArray} (h:P.underlying ty=some .string):Aj P ty (.string a) (.string b) (decide (a=b))
theorem La:dF P program=some P:=rfl
theorem QS{α:Type}{c:Prop}[Decidable c]{a b:Sem α}:dF P (if c then a else b)=if c then dF P a else dF P b:=by split<;>rfl
theorem abE{ty:TypeId}{a b:Value}{r:Bool}(c:Aj P ty a b r)(d:Nat):dF P (Op.equalIn (d+1) ty a b)=some r:=by
 cases c with
 |int h=>
  unfold Op.equalIn;rw[gW,sU h];simp only[iA,if_true];rfl
 |str h=>
  unfold Op.equalIn;rw[gW,sU h];show some (_==_)=_;rw[bytes_beq]
theorem QT{ty:TypeId}{a b v:Value}{r:Bool}(c:Aj P ty a b r){xs:Array Value}{o:Nat}(hx:xs[o]? =some v):dF P (part ty xs o)=some v:=by
 have hu:∃d,P.underlying ty=some d/\(∀fs,d≠.struct fs)/\∀n e,d≠.array n e:=by
  cases c with
  |int h=>exact⟨_,h,(by intro _ e;cases e),(by intro _ _ e;cases e)⟩
  |str h=>exact⟨_,h,(by intro _ e;cases e),(by intro _ _ e;cases e)⟩
 obtain⟨d,h1,h2,h3⟩:=hu;have hag:dF P (isAgg ty)=some false:=by
  unfold isAgg;rw[gW,sU h1];cases d with
  |struct fs=>exact absurd rfl (h2 fs)
  |array n e=>exact absurd rfl (h3 n e)
  |_=>rfl
 unfold part;rw[gW,hag];show dF P (match xs[o]? with|some v=>pure v|none=>stuck "part: no such cell")=_;rw[hx];rfl
inductive Lb(P:Program)(xs ys:List Value):List Field->Bool->Prop
 |nil:Lb P xs ys [] true
 |cons {f:Field} {fs:List Field} {a b:Value} {r r':Bool} (hn:(f.name== "_")=false) (hx:xs[f.offset]? =some a) (hy:ys[f.offset]? =some b) (c:Aj P f.type a b r) (t:Lb P xs ys fs r'):Lb P xs ys (f::fs) (r&&r')
section
variable {l:List (Nat×Value)}
theorem abF{op:BinOp}{t:TypeId}{x y:Operand}{a b:Array Value}(hm:P.eqGuardType P.depth t=false):dF P (eqGuard op t x y (.agg a) (.agg b))=some ():=by
 have key:dF P (do if !(<- program).eqGuardType (<- program).depth t then return
                   if <- Op.eqGuardIn Op.maxDepth t (.agg a) (.agg b)then unsupported (.noEntry "binop\x2feql: two nil values of an interface type with methods, in a part of a struct or an array"))=some ():=by
  rw[gW,La];simp only[iA];rw[gW,La];simp only[iA,hm,Bool.not_false,if_true];rfl
 cases op<;>first|exact key|rfl
theorem abG{op:BinOp}{t:TypeId}{x y:Operand}{a b:List Value}{v:Value}(ha:gD a=true)(hb:gD b=true)(hm:P.eqGuardType P.depth t=false)(hv:dF P (binOp op t (.agg ⟨a⟩) (.agg ⟨b⟩))=some v)(hf:bY v=true):qw P op t x y (.agg ⟨a⟩) (.agg ⟨b⟩)=some v:=by
 have h1:jZ P (do eqGuard op t x y (.agg ⟨a⟩) (.agg ⟨b⟩);binOp op t (.agg ⟨a⟩) (.agg ⟨b⟩))=some v:=by
  unfold jZ;rw[gW,abF hm];simp only[iA,hv,hf,cond]
 show cond (bY (.agg ⟨a⟩)&&bY (.agg ⟨b⟩)) (jZ P (do eqGuard op t x y (.agg ⟨a⟩) (.agg ⟨b⟩);binOp op t (.agg ⟨a⟩) (.agg ⟨b⟩))) _=_;rw[h1];simp[bY,ha,hb]
theorem Lc{d n:Nat}{t e:TypeId}{xs ys:List Int}(hu:P.underlying t=some (.array n e))(he:P.underlying e=some (.int .i64))(hs:P.info? e|>.map (·.size)|>(·=some 1))(hx:xs.length=n)(hy:ys.length=n):
 dF P (Op.equalIn (d+2) t (.agg ⟨xs.map (.int .i64)⟩) (.agg ⟨ys.map (.int .i64)⟩))=some (decide (xs=ys)):=by
 have hsz:dF P (sizeOf e)=some 1:=by
  unfold sizeOf typeInfo;cases hi:P.info? e with
  |none=>rw[hi]at hs;cases hs
  |some i=>
   rw[hi]at hs;have hs:i.size=1:=by simpa using hs
   simp only[gW,La,iA,hi];rw[<- hs];rfl
 unfold Op.equalIn;rw[gW,sU hu];simp only[iA];rw[gW,hsz];simp only[iA,gT];rw[Std.Legacy.Range.forIn_eq_forIn_range'];simp only[Std.Legacy.Range.size,pE,Nat.add_sub_cancel,Nat.div_one];have key:∀(m i:Nat),i+m=n->dF P (do
  let QU <- forIn (List.range' i m 1) ((none,()):Option Bool×Unit) λi QU=>
   (do let a <- part e ⟨xs.map (.int .i64)⟩ i
       let b <- part e ⟨ys.map (.int .i64)⟩ i
       let r <- Op.equalIn (d+1) e a b
       if(!r)=true then pure (ForInStep.done (some false,()))else pure (ForInStep.yield (none,())))
  match QU.fst with
  |some r=>pure r
  |none=>pure true)=some (decide (xs.drop i=ys.drop i)):=by
  intro m;induction m with
  |zero=>
   intro i hi;rw[zk (by omega),zk (by omega)];rfl
  |succ m ih=>
   intro i hi;have hix:i<xs.length:=by omega
   have QV:i<ys.length:=by omega
   have c:Aj P e (.int .i64 xs[i]) (.int .i64 ys[i]) (decide (xs[i]=ys[i])):=.int he;rw[List.range'_succ,List.forIn_cons];simp only[gW,QS];rw[QT (xs:=⟨xs.map (.int .i64)⟩) (o:=i) (v:=.int .i64 xs[i]) c (by simp[hix]),iA,QT (xs:=⟨ys.map (.int .i64)⟩) (o:=i) (v:=.int .i64 ys[i]) c (by simp[QV]),iA,abE c,iA];rw[EA hix,EA QV];have ih:=ih (i+1) (by omega);simp only[gW,QS]at ih;by_cases hxy:xs[i]=ys[i]
   ·rw[eH hxy];simp only[Bool.not_true,um,if_false];show(dF P _).bind _=_;rw[show decide (xs[i]::xs.drop (i+1)=ys[i]::ys.drop (i+1))=decide (xs.drop (i+1)=ys.drop (i+1))from EB.2 (by rw[zf];exact⟨λh=>h.2,λh=>⟨hxy,h⟩⟩)];exact ih
   ·rw[gz hxy];simp only[Bool.not_false,if_true];rw[show decide (xs[i]::xs.drop (i+1)=ys[i]::ys.drop (i+1))=false from gz (λh=>hxy (List.cons.inj h).1)];rfl
 have:=key n 0 (by omega);rw[uo,uo]at this;refine Eq.trans ?_ this;simp only[gW];congr 1;funext s
 cases s.fst<;>rfl
end

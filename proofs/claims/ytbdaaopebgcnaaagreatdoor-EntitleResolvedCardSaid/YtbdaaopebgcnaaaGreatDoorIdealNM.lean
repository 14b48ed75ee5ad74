/-
  The ideal machine, 66: functions that may panic; deferred functions that recover.
-/
import Derived.Test.YtbdaaopebgcnaaaGreatDoorIdealMM
import Derived.Sort.Row
import Derived.Sort.Grow
import Derived.Laws.StructEq
set_option linter.all false
namespace Go.Ideal
variable {P:Program}
def zg{Y:Type}(B:List Nat)(w0:Wd)(ret:Y->gJ)(kl':Y->List OA)(fs:Y->List aB)(pr:Y->Prop):KR:=λr pm h'=>
 pm=none/\∃(w':Wd) (y:Y),w'.h=h'/\St B w0 (kl' y) (fs y) w'/\r=ret y/\pr y
def Ey{Y:Type}(P:Program)(fn:Fn)(args cap:List Value)(kl:List OA)(F:List aB)(ret:Y->gJ)(kl':Y->List OA)(fs:Y->List aB)(pr:Y->Prop):Prop:=
 ∀(B:List Nat) (w:Wd),St B w kl F w->CALL P ⟨fn,args,cap,none⟩ w.h (zg B w ret kl' fs pr)
theorem Ey.toC{Y:Type}{fn:Fn}{args cap:List Value}{kl:List OA}{F:List aB}{ret:Y->gJ}{kl':Y->List OA}{fs:Y->List aB}{pr:Y->Prop}(val:Y->Value)(h:Ey P fn args cap kl F ret kl' fs pr)
 (hv:∀y,pr y->ret y=.ok (val y)):aT P fn args cap kl F val kl' fs pr:=λB w s=>by
 refine .uV _ (h B w s) ?_;rintro r pm h' ⟨e,w',y,e1,st,er,hp⟩;exact⟨e,w',y,e1,st,er.trans (hv y hp),hp⟩
def I9{Y:Type}(B:List Nat)(w0:Wd)(ret:Y->gJ)(md:Y->FrameMode)(kl':Y->List OA)(fs:Y->List aB)(pr:Y->Prop):KR:=λr pm h'=>
 ∃(w':Wd) (y:Y),pm=some (md y)/\w'.h=h'/\St B w0 (kl' y) (fs y) w'/\r=ret y/\pr y
def Ez{Y:Type}(P:Program)(fn:Fn)(args cap:List Value)(m:FrameMode)(kl:List OA)(F:List aB)(ret:Y->gJ)(md:Y->FrameMode)(kl':Y->List OA)(fs:Y->List aB)(pr:Y->Prop):Prop:=
 ∀(B:List Nat) (w:Wd),St B w kl F w->CALL P ⟨fn,args,cap,some m⟩ w.h (I9 B w ret md kl' fs pr)
theorem Ov{K:KR}{f:FuncId}{args cap:List Value}{pm:Option FrameMode}{c:bG}{m:Nat}{l0:List (Nat×Value)}(cf:dW)(hF:(oz P nJ oZ).F f=some cf)(h1:cf.body=c)(h2:oq cf.ntmps (fZ (args++cap))=m)(h3:mQ 0 (args++cap) []=l0){h:IH}
 (hb:EV P c (act m l0 [] pm none) h (qM P cf K)):CALL P ⟨.func f,args,cap,pm⟩ h K:=by
 obtain⟨fn,e1,e2⟩:=(Bd P nJ oZ (λf q h v h' hm=>by cases hm)).fn f cf hF;refine NG cf fn e1 e2 ?_;rw[I5,h1,h2,h3];exact hb
theorem YT{Y:Type}{f:FuncId}{args cap:List Value}{kl:List OA}{F:List aB}{ret:Y->gJ}{kl':Y->List OA}{fs:Y->List aB}{pr:Y->Prop}{c:bG}{m:Nat}{l0:List (Nat×Value)}(cf:dW)(hF:(oz P nJ oZ).F f=some cf)
 (hb:∀B w0,R (λh=>EV P c (act m l0 [] none none) h (qM P cf (zg B w0 ret kl' fs pr))) B w0 kl F)
 (h1:cf.body=c:=by conv=>lhs;(reduce;(try simp only[Int.reduceOfNat,Int.reduceNegSucc]))) (h2:oq cf.ntmps (fZ (args++cap))=m:=by conv=>lhs;whnf) (h3:mQ 0 (args++cap) []=l0:=by dsimp only[mQ,Nat.reduceAdd,List.append_nil,List.cons_append,List.nil_append]):Ey P (.func f) args cap kl F ret kl' fs pr:=
 λB w s=>Ov cf hF h1 h2 h3 (hb B w w s)
theorem Ow{Y:Type}{f:FuncId}{args cap:List Value}{pm:FrameMode}{kl:List OA}{F:List aB}{ret:Y->gJ}{md:Y->FrameMode}{kl':Y->List OA}{fs:Y->List aB}{pr:Y->Prop}{c:bG}{m:Nat}{l0:List (Nat×Value)}(cf:dW)(hF:(oz P nJ oZ).F f=some cf)
 (hb:∀B w0,R (λh=>EV P c (act m l0 [] (some pm) none) h (qM P cf (I9 B w0 ret md kl' fs pr))) B w0 kl F)
 (h1:cf.body=c:=by conv=>lhs;(reduce;(try simp only[Int.reduceOfNat,Int.reduceNegSucc]))) (h2:oq cf.ntmps (fZ (args++cap))=m:=by conv=>lhs;whnf) (h3:mQ 0 (args++cap) []=l0:=by dsimp only[mQ,Nat.reduceAdd,List.append_nil,List.cons_append,List.nil_append]):Ez P (.func f) args cap pm kl F ret md kl' fs pr:=
 λB w s=>Ov cf hF h1 h2 h3 (hb B w w s)
section
variable {B:List Nat} {w0:Wd} {kl kl' aW:List OA} {F:List aB} {K:KO} {ds:List Tmp} {rest:List aP} {n:Nat} {l:List (Nat×Value)} {D:List Deferred} {pm:Option FrameMode} {ro:Option Nat} {d:Nat} {g:Option (Tmp×Bool)}
theorem St.YU{w:Wd}{k1 aW:List OA}{F1:List aB}(s:St B w0 kl F w)(hk:aL k1 kl aW)(hF:Sub F1 F):
 ∃S1,St S1 w k1 F1 w/\∀(w':Wd) (k1':List OA) (F':List aB),St S1 w k1' F' w'->St B w0 (k1'++aW) (F'++F) w':=by
 obtain⟨S,h1,h2,h3⟩:=s.own;obtain⟨S1,S2,q1,q2,hp⟩:=h1.jb hk;have hsub:∀i∈S1,i∈S:=λi hi=>hp.mem_iff.2 (mD _ hi);exact⟨S1,⟨⟨aC _,λ_ _ _=>rfl,λ_ _=>rfl⟩,Wd.Le.refl w,λi _ hz=>.inl hz,⟨S1,q1,(qh.1 (hp.nodup h2)).1,λi hi=>⟨.inr hi,(h3 i (hsub i hi)).2⟩⟩,λf hf=>s.facts f (hF.mem f hf)⟩,
  λw' k1' F' c=>s.call (k1:=k1) (F1:=F1) ⟨S,hp,h2,h3⟩ q2 c⟩
theorem YV{x:Operand}{t:TypeId}{v:Value}{dst:Option Tmp}{re:List fq}
 (next:R (λh=>K (.panic [{v:=.iface t v,recovered:=false}]) (act n (Bj ds n l) D pm ro) h) B w0 kl F)
 (hx:ev l x=.iface t v:=by rfl) (hg:aZ l g=true:=by rfl):R (λh=>ax P ds (⟨⟨dst,g,.panic x⟩,re⟩::rest) (act n l D pm ro) h K) B w0 kl F:=λw s=>Xr hg hx (next w s)
theorem YW{f:Operand}{args:List Operand}{fn:Fn}{first captured vs:List Value}
 (next:R (λh=>ax P ds rest (act n l ({target:=.fn fn ⟨captured⟩,args:=⟨first++vs⟩}::D) pm none) h K) B w0 kl F)
 (hf:ev l f=.func fn ⟨first⟩ ⟨captured⟩:=by rfl) (hx:EvL (ev l) args vs:=by repeat (first|with_reducible exact EvL.nil|((with_reducible apply EvL.cons);(conv=>lhs;whnf)))) (hg:aZ l g=true:=by rfl):
 R (λh=>ax P ds (⟨⟨none,g,.dcall f args⟩,[]⟩::rest) (act n l D pm none) h K) B w0 kl F:=λw s=>by
 refine Xt hg rfl hf ?_;rw[hx.map];exact next w s
theorem Ox{m:FrameMode}{v:Value}{m':FrameMode}(he:gZ m=(v,m'))
 (next:R (λh=>ax P ds rest (act n ((d,v)::l) D (some m') none) h K) B w0 kl F) (hn:Nat.blt d n=true:=by rfl) (hg:aZ l g=true:=by rfl):
 R (λh=>ax P ds (⟨⟨some d,g,.recover⟩,[]⟩::rest) (act n l D (some m) none) h K) B w0 kl F:=λw s=>by
 refine Xu hn hg rfl ?_;rw[he];exact next w s
def RL(P:Program)(cf:dW)(l:List (Nat×Value))(D:List Deferred)(m:FrameMode)(Kr:gJ->IH->Prop)(B:List Nat)(w0:Wd)(kl:List OA)(F:List aB):Prop:=∀w,St B w0 kl F w->LEAVE P cf (fu l) D m w.h Kr
theorem EA{cf:dW}{Kr:KR}{o:Out}{m:FrameMode}(h:RL P cf l D m (λr h=>Kr r pm h) B w0 kl F)(hm:rR o=some m:=by rfl):R (λh=>qM P cf Kr o (act n l D pm ro) h) B w0 kl F:=λw s=>by
 show(match rR o with
  |none=>False
  |some m=>LEAVE P cf (fu l) D m w.h λr h''=>Kr r pm h'')
 rw[hm];exact h w s
variable {cf:dW} {Kr:gJ->IH->Prop}
theorem YX{vs:List Value}(hk:∀w,St B w0 kl F w->Kr (.ok (pQ vs)) w.h)(hr:RS l kl cf.results vs:=by exact y8):RL P cf l [] .returning Kr B w0 kl F:=λw s=>by
 refine .ret (pQ vs) ?_ (hk w s);unfold nH;rw[hr.all s];match vs with
 |[]=>rfl
 |[v]=>rfl
 |_::_::_=>rfl
theorem YY{m:FrameMode}{r:Nat}{args:Array Value}(next:RL P cf l D m Kr B w0 kl' F)(hk:ah (pt r (.fO true)) kl kl':=by exact gp)(hm:m≠.run:=by intro e;cases e):RL P cf l ({target:=.collected r,args}::D) m Kr B w0 kl F:=λw s=>by
 have s1:=s.eT hk;exact .coll hm r s1.get.1 (next _ (s1.write (o':=.fO false)).tail)
theorem Oy{Y:Type}{fn:Fn}{captured args:List Value}{m:FrameMode}{k1:List OA}{F1:List aB}{ret:Y->gJ}{md:Y->FrameMode}{k1':Y->List OA}{fs:Y->List aB}{pr:Y->Prop}{eu:Y->List OA}{F2:Y->List aB}
 (hc:Ez P fn args captured m k1 F1 ret md k1' fs pr)
 (next:∀y v,pr y->ret y=.ok v->RL P cf l D (uL (md y)) Kr B w0 (eu y) (F2 y))
 (YZ:∀y ch,pr y->ret y=.fP ch->RL P cf l D (yg (md y) ch) Kr B w0 (eu y) (F2 y))
 (hk:aL k1 kl aW:=by exact nP) (hF:Sub F1 F:=by exact mR) (hk2:∀y,bO (k1' y) aW (eu y):=by intro y;repeat (first|exact bO.nil|apply bO.cons|exact bO.self|exact bO.app)) (hF2:∀y,bO (fs y) F (F2 y):=by intro y;repeat (first|exact bO.nil|apply bO.cons|exact bO.self|exact bO.app)) (hm:m≠.run:=by intro e;cases e):
 RL P cf l ({target:=.fn fn ⟨captured⟩,args:=⟨args⟩}::D) m Kr B w0 kl F:=λw s=>by
 obtain⟨S1,s1,back⟩:=s.YU hk hF;refine .call hm _ (hc S1 w s1) ?_ ?_ ?_
 ·rintro r p h' ⟨w',y,e,_⟩ hp;rw[e]at hp;cases hp
 ·rintro v m' h' ⟨w',y,e,rfl,c,hv,hpr⟩;injection e with e;subst e;have:=next y v hpr hv.symm w' (by rw[<- (hk2 y).eq,<- (hF2 y).eq];exact back w' _ _ c)
  exact this
 ·rintro ch m' h' ⟨w',y,e,rfl,c,hv,hpr⟩;injection e with e;subst e;exact YZ y ch hpr hv.symm w' (by rw[<- (hk2 y).eq,<- (hF2 y).eq];exact back w' _ _ c)
theorem Y0{Y:Type}{o:Out}{vs:List Value}{ret:Y->gJ}{k1:Y->List OA}{fs:Y->List aB}{pr:Y->Prop}{eu:List OA}(y:Y)(hv:ret y=.ok (pQ vs))(hp:pr y)(hD:j5 kl D eu:=by repeat (first|exact j5.nil|(apply j5.cons;(focus (repeat (first|with_reducible exact ah.here|with_reducible apply ah.there|with_reducible apply ah.app))))))
 (hr:RS l eu cf.results vs:=by exact y8) (hk:aL (k1 y) eu aW:=by exact nP) (hF:Sub (fs y) F:=by exact mR) (ho:o=.normal\/o=.ret:=by first|exact .inl rfl|exact .inr rfl):
 R (λh=>qM P cf (zg B w0 ret k1 fs pr) o (act n l D none ro) h) B w0 kl F:=by
 refine EA (m:=.returning) ?_ (by rcases ho with rfl|rfl<;>rfl);intro w s;refine j5.leave hD (λw' s'=>⟨pQ vs,?_,rfl,w',y,rfl,((s'.jb hk).drop).sub hF,hv.symm,hp⟩) w s;unfold nH;rw[hr.all s'];match vs with
 |[]=>rfl
 |[v]=>rfl
 |_::_::_=>rfl
theorem Oz{Y:Type}{o:Out}{vs:List Value}{ret:Y->gJ}{m:FrameMode}{md:Y->FrameMode}{k1:Y->List OA}{fs:Y->List aB}{pr:Y->Prop}{eu:List OA}(y:Y)(hv:ret y=.ok (pQ vs))(hm:md y=m)(hp:pr y)(hD:j5 kl D eu:=by repeat (first|exact j5.nil|(apply j5.cons;(focus (repeat (first|with_reducible exact ah.here|with_reducible apply ah.there|with_reducible apply ah.app))))))
 (hr:RS l eu cf.results vs:=by exact y8) (hk:aL (k1 y) eu aW:=by exact nP) (hF:Sub (fs y) F:=by exact mR) (ho:o=.normal\/o=.ret:=by first|exact .inl rfl|exact .inr rfl):
 R (λh=>qM P cf (I9 B w0 ret md k1 fs pr) o (act n l D (some m) ro) h) B w0 kl F:=by
 refine EA (m:=.returning) ?_ (by rcases ho with rfl|rfl<;>rfl);intro w s;refine j5.leave hD (λw' s'=>⟨pQ vs,?_,w',y,by rw[hm],rfl,((s'.jb hk).drop).sub hF,hv.symm,hp⟩) w s;unfold nH;rw[hr.all s'];match vs with
 |[]=>rfl
 |[v]=>rfl
 |_::_::_=>rfl
theorem OB{Y:Type}{ret:Y->gJ}{k1:Y->List OA}{fs:Y->List aB}{pr:Y->Prop}{vs:List Value}(y:Y)(hv:ret y=.ok (pQ vs))(hp:pr y)(hr:RS l kl cf.results vs:=by exact y8)(hk:aL (k1 y) kl aW:=by exact nP)(hF:Sub (fs y) F:=by exact mR):
 RL P cf l [] .returning (λr h=>zg B w0 ret k1 fs pr r none h) B w0 kl F:=
 YX (λw s=>⟨rfl,w,y,rfl,((s.jb hk).drop).sub hF,hv.symm,hp⟩) hr
end
end Go.Ideal
namespace Go.Ideal
variable {P:Program}
theorem OC{α β:Type}(f:α->β)(hf:∀a b,f a=f b->a=b){l1 l2:List α}(h:(l1.map f).Perm (l2.map f)):l1.Perm l2:=by
 classical
 rw[List.perm_iff_count];intro a;have:=h.count_eq (f a);have key:∀l:List α,(l.map f).count (f a)=l.count a:=by
  intro l;induction l with
  |nil=>rfl
  |cons x l ih=>
   rw[lc,List.count_cons,List.count_cons,ih];by_cases e:x=a
   ·subst e;simp
   ·have:¬f x=f a:=λh=>e (hf _ _ h);simp[e,this]
 rw[key,key]at this;exact this
theorem OD{α β:Type}{f:α->β}:∀{l:List α},(l.map f).Nodup->∀{a b:α},a∈l->b∈l->f a=f b->a=b
 |[],_,a,b,ha,_,_=>by cases ha
 |x::l,h,a,b,ha,hb,e=>by
  rw[lc,zT]at h;obtain⟨hx,hl⟩:=h;rcases bZ.1 ha with h1|ha<;>rcases bZ.1 hb with h2|hb
  ·rw[h1,h2]
  ·rw[<- h1,e]at hx;exact absurd (uF hb) hx
  ·rw[<- h2,<- e]at hx;exact absurd (uF ha) hx
  ·exact OD hl ha hb e
def lV{α:Type}[DecidableEq α](a:α):List (α×Value)->Nat->Option (Nat×Value)
 |[],_=>none
 |(b,v)::l,i=>if a=b then some (i,v)else lV a l (i+1)
def r9{α β:Type}[DecidableEq α](a:α):List (α×β)->Option β
 |[]=>none
 |(b,v)::l=>if a=b then some v else r9 a l
def upd{α β:Type}[DecidableEq α](a:α)(v:β):List (α×β)->List (α×β)
 |[]=>[(a,v)]
 |(b,u)::l=>if a=b then(a,v)::l else(b,u)::upd a v l
def lW{α:Type}(aN:α->Value)(aF:List (α×Value))(es:List MapEntry):Prop:=es.map (λe=>(e.key,e.val))=aF.map λp=>(aN p.1,p.2)
structure vD(P:Program)(kt:TypeId){α:Type}[DecidableEq α](aN:α->Value):Prop where
 qP:∀a,oQ P kt (aN a)=true
 find:∀a aF es,lW aN aF es->oP P kt (aN a) es=some (lV a aF 0)
 same:∀a,Instr.sameBits 10000 (aN a) (aN a)=true
theorem Y1{kt:TypeId}{v:Value}(ha:bE v=true)(h:∀b,dh P (Instr.checkKey b 10000 kt v)=some ()):oQ P kt v=true:=by
 unfold oQ;rw[ha,h true,h false];rfl
theorem Ja{α:Type}{aN:α->Value}{p:α×Value}{aF:List (α×Value)}{es:List MapEntry}(h:lW aN (p::aF) es):∃e es',es=e::es'/\e.key=aN p.1/\e.val=p.2/\lW aN aF es':=by
 cases es with
 |nil=>cases h
 |cons e es=>
  unfold lW at h;rw[lc,lc]at h;injection h with h1 h2;injection h1 with h1 h3;exact⟨e,es,rfl,h1,h3,h2⟩
theorem OE{α:Type}[DecidableEq α]{aN:α->Value}{d:TypeDesc}(hs:∀a b,Instr.sameNow d (aN a) (aN b)=some (decide (a=b)))(a:α):∀(aF:List (α×Value)) (es:List MapEntry) (i:Nat),lW aN aF es->Instr.findNow d (aN a) es i=some (lV a aF i)
 |[],es,i,h=>by
  cases es with
  |nil=>rfl
  |cons e es=>cases h
 |p::aF,es,i,h=>by
  obtain⟨e,es',rfl,h1,h2,h3⟩:=Ja h;have ih:=OE hs a aF es' (i+1) h3;show(match Instr.sameNow d (aN a) e.key with
   |some true=>some (some (i,e.val))
   |some false=>Instr.findNow d (aN a) es' (i+1)
   |none=>none)=_
  rw[h1,hs a p.1];unfold lV;by_cases hab:a=p.1
  ·rw[fK hab,if_pos hab,h2]
  ·rw[gq hab,if_neg hab];exact ih
theorem Y2{α:Type}[DecidableEq α]{aN:α->Value}{kt:TypeId}{d:TypeDesc}(hu:P.underlying kt=some d)(hs:∀a b,Instr.sameNow d (aN a) (aN b)=some (decide (a=b)))(a:α)(aF:List (α×Value))(es:List MapEntry)(h:lW aN aF es):oP P kt (aN a) es=some (lV a aF 0):=by
 unfold oP Instr.findKey;rw[gL,qJ hu];simp only[iA,OE hs a aF es 0 h];rfl
theorem Y3{kt:TypeId}(hu:P.underlying kt=some (.int .i64)):vD P kt (λn:Int=>.int .i64 n) where
 qP a:=Y1 rfl λb=>by
  show dh P (Instr.checkKey b (9999+1) kt _)=_;unfold Instr.checkKey;rw[gL,qJ hu];rfl
 find a aF es h:=Y2 hu (λa b=>by
  show(if IntKind.i64=IntKind.i64 then some (a==b)else none)=_;rw[if_pos rfl];congr 1) a aF es h
 same a:=by
  show(IntKind.i64==IntKind.i64&&a==a)=true;simp
theorem bytes_beq(a b:ByteArray):(a==b)=decide (a=b):=by
 have:(a==b)=(a.data==b.data):=rfl;rw[this];by_cases h:a=b
 ·subst h;simp
 ·rw[gq h];cases hb:a.data==b.data with
  |false=>rfl
  |true=>exact absurd (ByteArray.ext (eq_of_beq hb)) h
theorem OG{α:Type}[DecidableEq α](a:α):∀(aF:List (α×Value)) (i:Nat),(lV a aF i).map (·.2)=r9 a aF
 |[],_=>rfl
 |(b,v)::l,i=>by
  unfold lV r9;by_cases h:a=b
  ·rw[if_pos h,if_pos h];rfl
  ·rw[if_neg h,if_neg h];exact OG a l (i+1)
theorem Y4{α:Type}[DecidableEq α]{aN:α->Value}{kt:TypeId}(hk:vD P kt aN){h:IH}{m zero:Value}{ok:Bool}{a:α}{aF:List (α×Value)}{es:List MapEntry}(he:entriesOf m h=some es)(ho:lW aN aF es):
 x9 P kt zero m (aN a) ok h=some (match r9 a aF with
  |some v=>cond ok (.tuple #[v,.bool true]) v
  |none=>cond ok (.tuple #[zero,.bool false]) zero):=by
 unfold x9;simp only[he,hk.qP,cond_true,hk.find a aF es ho];have:=OG a aF 0;cases hf:lV a aF 0 with
 |none=>rw[hf]at this;rw[<- this];rfl
 |some p=>rw[hf]at this;rw[<- this];rfl
theorem OH{α:Type}[DecidableEq α](a:α):∀(aF:List (α×Value)) (i j:Nat) (v:Value),lV a aF i=some (j,v)->∃k,j=i+k/\aF[k]? =some (a,v)/\∀u,upd a u aF=aF.set k (a,u)
 |[],i,j,v,h=>by cases h
 |(b,w)::l,i,j,v,h=>by
  unfold lV at h;split at h
  ·rename_i hab;subst hab;cases h;exact⟨0,rfl,rfl,λu=>by simp[upd]⟩
  ·rename_i hab;obtain⟨k,h1,h2,h3⟩:=OH a l (i+1) j v h;exact⟨k+1,by omega,by simpa using h2,λu=>by simp[upd,if_neg hab,h3]⟩
theorem OI{α:Type}[DecidableEq α](a:α):∀(aF:List (α×Value)) (i:Nat),lV a aF i=none->(∀p∈aF,a≠p.1)/\∀u,upd a u aF=aF++[(a,u)]
 |[],i,h=>⟨λp hp=>(by cases hp),λu=>rfl⟩
 |(b,w)::l,i,h=>by
  unfold lV at h;split at h
  ·cases h
  ·rename_i hab;obtain⟨h1,h2⟩:=OI a l (i+1) h;refine⟨λp hp=>?_,λu=>by simp[upd,if_neg hab,h2]⟩;rcases bZ.1 hp with rfl|hp
   ·exact hab
   ·exact h1 p hp
structure xg{α:Type}(aN:α->Value)(aF:List (α×Value))(es:List MapEntry)(clock:Nat):Prop where
 qQ:lW aN aF es
 lt:∀e∈es,e.born<clock
 nd:(es.map (·.born)).Nodup
 keys:(aF.map (·.1)).Nodup
theorem Y5{α:Type}[DecidableEq α]{aN:α->Value}{kt:TypeId}(hk:vD P kt aN){h:IH}{b:Nat}{a:α}{v:Value}{aF:List (α×Value)}{es:List MapEntry}{clock:Nat}(hg:h.get b=some (.map es clock))(ho:xg aN aF es clock):
 ∃es' clock',Ab P kt (.map (some b)) (aN a) v h=some (h.set b (.map es' clock'))/\xg aN (upd a v aF) es' clock':=by
 unfold Ab;simp only[hg,hk.qP,cond_true,hk.find a aF es ho.qQ];cases hf:lV a aF 0 with
 |none=>
  obtain⟨h1,h2⟩:=OI a aF 0 hf;refine⟨_,_,rfl,?_⟩;rw[h2,gK];refine⟨?_,λe he=>?_,?_,?_⟩
  ·unfold lW;rw[dM,dM,ho.qQ];rfl
  ·rcases fI.1 he with he|he
   ·exact Gi (ho.lt e he)
   ·rw[cB.1 he];exact sJ _
  ·rw[dM,qh];refine⟨ho.nd,by simp,λx hx y hy e=>?_⟩;obtain⟨e0,he0,rfl⟩:=gz.1 hx;have:y=clock:=by simpa using hy
   have:=ho.lt e0 he0;omega
  ·rw[dM,qh];refine⟨ho.keys,by simp,λx hx y hy e=>?_⟩;obtain⟨p,hp,rfl⟩:=gz.1 hx;have:y=a:=by simpa using hy
   exact h1 p hp (by rw[e,this])
 |some p=>
  obtain⟨j,u⟩:=p;obtain⟨k,rfl,h2,h3⟩:=OH a aF 0 j u hf;rw[dB];have hlen:es.length=aF.length:=by
   have:=congrArg List.length ho.qQ;simpa using this
  have hk':=(dU.1 h2).1;have Jb:es[k]? =some es[k]:=bH (by omega);have hkey:es[k].key=aN a:=by
   have:=congrArg (λl=>l[k]?) ho.qQ;simp only[cK,Jb,h2,iJ]at this;injection this with this;injection this
  simp only[mH,Jb,hkey,hk.same,cond_true];refine⟨_,_,rfl,?_⟩;rw[h3,LX];refine⟨?_,λe he=>?_,?_,?_⟩
  ·unfold lW;apply jX;intro i;have:=congrArg (λl=>l[i]?) ho.qQ;simp only[cK]at this;simp only[cK,List.getElem?_modify,List.getElem?_set];by_cases hi:k=i
   ·subst hi;simp[Jb,hk']
   ·rw[if_neg hi];cases he:es[i]? with
    |none=>rw[he]at this;simp only[Option.map_none]at this⊢;simp[hi,<- this]
    |some e=>rw[he]at this;simp only[iJ]at this⊢;simp[hi,<- this]
  ·obtain⟨i,he⟩:=Lv.1 he;rw[List.getElem?_modify]at he;cases Jc:es[i]? with
   |none=>rw[Jc]at he;simp at he
   |some e0=>
    rw[Jc]at he;have hlt:=ho.lt e0 (dA Jc);injection he with he;rw[<- he];split<;>exact hlt
  ·have:(es.modify k λe=>{e with key:=aN a,val:=v}).map (·.born)=es.map (·.born):=by
    apply jX;intro i;simp only[cK,List.getElem?_modify];cases es[i]? with
    |none=>rfl
    |some e=>simp only[iJ];split<;>rfl
   rw[this];exact ho.nd
  ·have:(aF.set k (a,v)).map (·.1)=aF.map (·.1):=by
    apply jX;intro i;simp only[cK,List.getElem?_set];by_cases hi:k=i
    ·subst hi;rw[if_pos rfl,if_pos hk',h2];rfl
    ·rw[if_neg hi]
   rw[this];exact ho.keys
def jR{α:Type}(aN:α->Value)(b:Nat)(aF:List (α×Value)):OA:=⟨λw S=>S=[b]/\∃es clock,w.h.get b=some (.map es clock)/\xg aN aF es clock,λa h ⟨h1,es,clock,h2,h3⟩=>⟨h1,es,clock,by rw[h b (by rw[h1];exact cB.2 rfl)];exact h2,h3⟩⟩
def vF{α:Type}(aN:α->Value)(b:Nat)(aF:List (α×Value)):aB:=⟨λw=>w.z b/\∃es clock,w.h.get b=some (.map es clock)/\xg aN aF es clock,λa ⟨h1,es,clock,h2,h3⟩=>⟨a.z b h1,es,clock,by rw[a.get b h1];exact h2,h3⟩⟩
theorem Jd{α:Type}{aN:α->Value}{b:Nat}{aF:List (α×Value)}:vB (jR aN b aF) [vF aN b aF]:=by
 intro w w' S ⟨h1,es,clock,h2,h3⟩ hle hh hz f hf;rw[cB.1 hf];exact⟨hz b (by rw[h1];exact cB.2 rfl),es,clock,by rw[hh];exact h2,h3⟩
section
variable {B:List Nat} {w0:Wd} {kl kl' aW:List OA} {F:List aB} {K:KO} {ds:List Tmp} {rest:List aP} {n:Nat} {l:List (Nat×Value)} {D:List Deferred} {pm:Option FrameMode} {ro:Option Nat} {d:Nat} {g:Option (Tmp×Bool)}
variable {α:Type} [DecidableEq α] {aN:α->Value}
theorem St.Je{b:Nat}{aF:List (α×Value)}{w:Wd}(h:St B w0 (jR aN b aF::kl) F w):∃es clock,xg aN aF es clock/\St B w0 (pt b (.map es clock)::kl) F w:=by
 obtain⟨S,⟨S1,S2,⟨q1,es,clock,q3,q4⟩,q2,e⟩,h2,h3⟩:=h.own;exact⟨es,clock,q4,h.agree,h.le,h.eG,⟨S,⟨S1,S2,⟨q1,q3⟩,q2,e⟩,h2,h3⟩,h.facts⟩
theorem EB(aN:α->Value)
 (next:∀b,R (λh=>ax P ds rest (act n ((d,.map (some b))::l) D pm ro) h K) B w0 (jR aN b []::kl) F) (hn:Nat.blt d n=true:=by rfl) (hg:aZ l g=true:=by rfl):
 R (λh=>ax P ds (⟨⟨some d,g,.xZ⟩,[]⟩::rest) (act n l D pm ro) h K) B w0 kl F:=λw s=>
 iD hn hg (h':=w.h.new (.map [] 0)) (by simp only[ai.run,ai.alloc,om]) (next w.h.next (w.new _) ((s.new _).yR (A:=pt w.h.next (.map [] 0)) (A':=jR aN w.h.next []) λw S hp=>⟨hp.1,[],0,hp.2,⟨rfl,λe he=>(by cases he),Gl,Gl⟩⟩))
def EC{α:Type}[DecidableEq α](ok:Bool)(zero:Value)(a:α)(aF:List (α×Value)):Value:=match r9 a aF with
 |some v=>cond ok (.tuple #[v,.bool true]) v
 |none=>cond ok (.tuple #[zero,.bool false]) zero
theorem Y6{kt:TypeId}{zero:Value}{m k:Operand}{ok:Bool}{b:Nat}{aF:List (α×Value)}(hk:vD P kt aN)(a:α)
 (next:R (λh=>ax P ds rest (act n ((d,EC ok zero a aF)::l) D pm ro) h K) B w0 kl F)
 (hm:ev l m=.map (some b):=by rfl) (ha:ev l k=aN a:=by conv=>lhs;whnf) (hs:ah (jR aN b aF) kl kl':=by exact gp) (hn:Nat.blt d n=true:=by rfl) (hg:aZ l g=true:=by rfl):
 R (λh=>ax P ds (⟨⟨some d,g,.lookup kt zero m k ok⟩,[]⟩::rest) (act n l D pm ro) h K) B w0 kl F:=λw s=>by
 obtain⟨es,clock,h2,s1⟩:=(s.eT hs).Je;refine iD hn hg (v:=EC ok zero a aF) ?_ (next w s);have:x9 P kt zero (.map (some b)) (aN a) ok w.h=_:=Y4 hk (by simp only[entriesOf,s1.get.1]) h2.qQ;simp only[ai.run,hm,ha,this];rfl
theorem ED{kt:TypeId}{m k x:Operand}{b:Nat}{v:Value}{aF:List (α×Value)}(hk:vD P kt aN)(a:α)
 (next:R (λh=>ax P ds rest (act n l D pm ro) h K) B w0 (jR aN b (upd a v aF)::kl') F)
 (hm:ev l m=.map (some b):=by rfl) (ha:ev l k=aN a:=by conv=>lhs;whnf) (hv:ev l x=v:=by conv=>lhs;whnf) (hs:ah (jR aN b aF) kl kl':=by exact gp) (hg:aZ l g=true:=by rfl):
 R (λh=>ax P ds (⟨⟨none,g,.CQ kt m k x⟩,[]⟩::rest) (act n l D pm ro) h K) B w0 kl F:=λw s=>by
 obtain⟨es,clock,h2,s1⟩:=(s.eT hs).Je;obtain⟨es',clock',e1,e2⟩:=Y5 (v:=v) hk (a:=a) s1.get.1 h2;refine IJ hg (v:=bN) (h':=w.h.set b (.map es' clock')) ?_ (next _ ((s1.write (o':=.map es' clock')).yR (A:=pt b (.map es' clock')) (A':=jR aN b (upd a v aF)) λw S hp=>⟨hp.1,es',clock',hp.2,e2⟩));simp only[ai.run,hm,ha,hv,e1]
theorem Jf{aF:List (α×Value)}{es:List MapEntry}{clock:Nat}(h:xg aN aF es clock):es.length=aF.length:=by
 have:=congrArg List.length h.qQ;simpa using this
theorem Y7{m:Operand}{b:Nat}{aF:List (α×Value)}
 (next:R (λh=>ax P ds rest (act n ((d,.int .i64 (aF.length:Int))::l) D pm ro) h K) B w0 kl F)
 (hm:ev l m=.map (some b):=by rfl) (hs:ah (jR aN b aF) kl kl':=by exact gp) (hn:Nat.blt d n=true:=by rfl) (hg:aZ l g=true:=by rfl):
 R (λh=>ax P ds (⟨⟨some d,g,.z8 m⟩,[]⟩::rest) (act n l D pm ro) h K) B w0 kl F:=λw s=>by
 obtain⟨es,clock,h2,s1⟩:=(s.eT hs).Je;refine iD hn hg (v:=.int .i64 (aF.length:Int)) ?_ (next w s);simp only[ai.run,hm,entriesOf,s1.get.1,qw,Jf h2,Dx]
def tQ{α:Type}(aN:α->Value)(r b:Nat)(aF bY:List (α×Value)):OA:=⟨λw S=>S=[r]/\∃es clock seen last,w.h.get b=some (.map es clock)/\w.z b/\xg aN aF es clock/\w.h.get r=some (.mapIter (some b) clock seen last)/\last=clock/\
 (∃ve rem:List MapEntry,lW aN bY ve/\ve.map (·.born)=seen/\(ve++rem).Perm es),
 λa h ⟨h1,es,clock,seen,last,h2,h3,h4,h5,h6,h7⟩=>⟨h1,es,clock,seen,last,by rw[a.get b h3];exact h2,a.z b h3,h4,by rw[h r (by rw[h1];exact cB.2 rfl)];exact h5,h6,h7⟩⟩
theorem EE{m:Operand}{b:Nat}{aF:List (α×Value)}
 (next:∀r,R (λh=>ax P ds rest (act n ((d,.pointer (some ⟨r,0,none⟩))::l) D pm ro) h K) B w0 (tQ aN r b aF []::kl) F)
 (hm:ev l m=.map (some b):=by rfl) (hf:vF aN b aF∈F:=by exact mU) (hn:Nat.blt d n=true:=by rfl) (hg:aZ l g=true:=by rfl):
 R (λh=>ax P ds (⟨⟨some d,g,.rangeMap m⟩,[]⟩::rest) (act n l D pm ro) h K) B w0 kl F:=λw s=>by
 obtain⟨hz,es,clock,h1,h2⟩:=s.facts _ hf;refine iD hn hg (h':=w.h.new (.mapIter (some b) clock [] clock)) (by simp only[ai.run,hm,h1]) (next w.h.next (w.new _) ?_);have s1:=s.new (.mapIter (some b) clock [] clock);obtain⟨hz',es',clock',h1',h2'⟩:=s1.facts _ hf;refine s1.nN λS hp=>⟨hp.1,es',clock',[],clock,h1',hz',h2',?_,?_,[],es',rfl,rfl,.refl _⟩
 ·have:clock'=clock:=by
   have e:(w.new (.mapIter (some b) clock [] clock)).h.get b=w.h.get b:=by
    show(w.h.new _).get b=_;rw[IH.gu,if_neg (by have:=w.gX b hz;omega)]
   rw[e,h1]at h1';injection h1' with h1';injection h1' with _ h1';exact h1'.symm
  rw[this];exact hp.2
 ·have e:(w.new (.mapIter (some b) clock [] clock)).h.get b=w.h.get b:=by
   show(w.h.new _).get b=_;rw[IH.gu,if_neg (by have:=w.gX b hz;omega)]
  rw[e,h1]at h1';injection h1' with h1';injection h1' with _ h1'
theorem Y8{es ve rem:List MapEntry}(hp:(ve++rem).Perm es)(hn:(es.map (·.born)).Nodup):(es.filter λe=>!(ve.map (·.born)).contains e.born).Perm rem:=by
 have hp2:((ve++rem).filter λe=>!(ve.map (·.born)).contains e.born).Perm (es.filter λe=>!(ve.map (·.born)).contains e.born):=hp.filter _;rw[List.filter_append]at hp2;have h1:ve.filter (λe=>!(ve.map (·.born)).contains e.born)=[]:=by
  rw[List.filter_eq_nil_iff];intro e he;simp only[CB,Bool.not_eq_false',List.contains_eq_mem,ww];simp;exact⟨e,he,rfl⟩
 have hnd:((ve++rem).map (·.born)).Nodup:=(hp.map _).nodup_iff.2 hn;rw[dM,qh]at hnd;have h2:rem.filter (λe=>!(ve.map (·.born)).contains e.born)=rem:=by
  rw[List.filter_eq_self];intro e he;simp only[CB,List.contains_eq_mem,decide_eq_false_iff_not];intro hm;exact hnd.2.2 _ hm _ (uF he) rfl
 rw[h1,h2,dw]at hp2;exact hp2.symm
theorem EF{x:Operand}{r b:Nat}{aF bY:List (α×Value)}
 (more:∀p rem,(bY++p::rem).Perm aF->R (λh=>ax P ds rest (act n ((d,.tuple #[.bool true,aN p.1,p.2])::l) D pm ro) h K) B w0 (tQ aN r b aF (bY++[p])::kl') F)
 (done:bY.Perm aF->R (λh=>ax P ds rest (act n ((d,.tuple #[.bool false])::l) D pm ro) h K) B w0 (tQ aN r b aF bY::kl') F)
 (inj:∀a c,aN a=aN c->a=c)
 (hx:ev l x=.pointer (some ⟨r,0,none⟩):=by rfl) (hs:ah (tQ aN r b aF bY) kl kl':=by exact gp) (hn:Nat.blt d n=true:=by rfl) (hg:aZ l g=true:=by rfl):
 R (λh=>ax P ds (⟨⟨some d,g,.sO x⟩,[]⟩::rest) (act n l D pm ro) h K) B w0 kl F:=λw s0=>by
 have s:=s0.eT hs;obtain⟨S,⟨S1,S2,⟨q1,es,clock,seen,last,h1,hz,h2,h3,h4,ve,rem,h5,h6,h7⟩,q2,eS⟩,hnd,hown⟩:=s.own;subst h4 h6;have hpl:=Y8 h7 h2.nd;have hold:((es.filter λe=>!(ve.map (·.born)).contains e.born).filter λe=>Nat.blt e.born last)=es.filter λe=>!(ve.map (·.born)).contains e.born:=by
  rw[List.filter_eq_self];intro e he;have:=h2.lt e (CF.1 he).1;rw[oN];exact this
 have hnew:((es.filter λe=>!(ve.map (·.born)).contains e.born).filter λe=>Nat.ble last e.born)=[]:=by
  rw[List.filter_eq_nil_iff];intro e he;have:=h2.lt e (CF.1 he).1;rw[mq];omega
 have hcl:(!(ve.map (·.born)).isEmpty&&!es.isEmpty&&es.all (λe=>Nat.ble last e.born))=false:=by
  cases es with
  |nil=>simp
  |cons e es=>
   have:=h2.lt e (aS ..);have:Nat.ble last e.born=false:=by
    cases hb:Nat.ble last e.born with
    |false=>rfl
    |true=>rw[mq]at hb;omega
   simp[this]
 have Y9:wJ (ev l x) w.h=some ((if(es.filter λe=>!(ve.map (·.born)).contains e.born).isEmpty then[(.tuple #[.bool false],w.h)]else[])++
  (es.filter λe=>!(ve.map (·.born)).contains e.born).map λe=>(.tuple #[.bool true,e.key,e.val],w.h.set r (.mapIter (some b) last (ve.map (·.born)++[e.born]) last))):=by
  rw[hx];unfold wJ;simp only[h3,h1];rw[hcl];simp only[cond_false,hold,hnew,fJ]
 -- a pair for an entry
 have af6:∀(af7:List MapEntry) (af8:List (α×Value)),True:=λ_ _=>trivial;refine .next (pJ hg) x rfl rfl _ (by rw[jH];exact Y9) ?_
 intro vh hm;rcases fI.1 hm with hm|hm
 ·split at hm
  ·rename_i hemp;rw[cB.1 hm,lH hn];have Za:rem=[]:=by
    have:(es.filter λe=>!(ve.map (·.born)).contains e.born)=[]:=by simpa using hemp
    rw[this]at hpl;exact List.nil_perm.1 hpl|>λh=>h
   refine done ?_ w s;subst Za;rw[fJ]at h7;have hm1:=h7.map (λe=>(e.key,e.val));rw[h5,h2.qQ]at hm1;exact OC (λp:α×Value=>(aN p.1,p.2)) (λp q hpq=>by
    injection hpq with e1 e2;exact Prod.ext (inj _ _ e1) e2) hm1
  ·cases hm
 ·obtain⟨e,he,rfl⟩:=gz.1 hm;have hr:e∈rem:=hpl.mem_iff.1 he;obtain⟨r1,r2,Zb⟩:=List.append_of_mem hr
  -- the pair
  obtain⟨i,hi,hie⟩:∃i,i<aF.length/\es[i]? =some e:=by
   obtain⟨i,hi⟩:=Lv.1 (CF.1 he).1;have:=(dU.1 hi).1;rw[Jf h2]at this;exact⟨i,this,hi⟩
  have hpe:(e.key,e.val)=(aN aF[i].1,aF[i].2):=by
   have:=congrArg (λl=>l[i]?) h2.qQ;simp only[cK,hie,bH hi,iJ]at this;injection this
  injection hpe with hpk hpv;rw[lH hn,hpk,hpv];have hperm:(ve++[e]++(r1++r2)).Perm es:=by
   refine List.Perm.trans ?_ h7;rw[Zb,gY];refine List.Perm.append_left _ ?_;exact(List.perm_middle (l₁:=r1) (l₂:=r2) (a:=e)).symm
  have Bz:lW aN (bY++[aF[i]]) (ve++[e]):=by
   unfold lW;rw[dM,dM,h5];simp[hpk,hpv]
  obtain⟨Jg,Zc⟩:∃Jg:List (α×Value),(bY++aF[i]::Jg).Perm aF:=by
   have hm1:=hperm.map (λe=>(e.key,e.val));rw[dM,Bz,h2.qQ]at hm1;have hex:∀ls:List MapEntry,(∀x∈ls,∃p:α×Value,(x.key,x.val)=(aN p.1,p.2))->∃ps:List (α×Value),ls.map (λe=>(e.key,e.val))=ps.map λp=>(aN p.1,p.2):=by
    intro ls;induction ls with
    |nil=>intro _;exact⟨[],rfl⟩
    |cons x ls ih=>
     intro h;obtain⟨p,hp⟩:=h x (aS ..);obtain⟨ps,hps⟩:=ih λy hy=>h y (bW _ hy);exact⟨p::ps,by rw[lc,lc,hp,hps]⟩
   obtain⟨ps,hps⟩:=hex (r1++r2) (λy hy=>by
    have hy':y∈es:=hperm.mem_iff.1 (nC _ hy);obtain⟨j,hj⟩:=Lv.1 hy';have hj':=(dU.1 hj).1;rw[Jf h2]at hj';have:=congrArg (λl=>l[j]?) h2.qQ;simp only[cK,hj,bH hj',iJ]at this;injection this with this;exact⟨_,this⟩)
   rw[hps,<- dM]at hm1;refine⟨ps,?_⟩;have:=OC (λp:α×Value=>(aN p.1,p.2)) (λp q hpq=>by
    injection hpq with e1 e2;exact Prod.ext (inj _ _ e1) e2) hm1
   rwa [gY]at this
  refine more aF[i] Jg Zc ⟨w.h.set r (.mapIter (some b) last (ve.map (·.born)++[e.born]) last),w.z,λi hi=>w.gX i hi⟩ ?_
  -- the state behind the step
  have s2:St B w0 (pt r (.mapIter (some b) last (ve.map (·.born)) last)::kl') F w:=⟨s.agree,s.le,s.eG,⟨S,⟨S1,S2,⟨q1,h3⟩,q2,eS⟩,hnd,hown⟩,s.facts⟩
  have s3:=s2.write (o':=.mapIter (some b) last (ve.map (·.born)++[e.born]) last);refine s3.nN λS' hp=>⟨hp.1,es,last,_,last,?_,hz,h2,hp.2,rfl,ve++[e],r1++r2,Bz,by rw[dM];rfl,hperm⟩
  have hrb:r≠b:=λer=>by
   have:=s2.own;obtain⟨S0,⟨T1,T2,⟨u1,_⟩,_,ue⟩,_,ho⟩:=this;exact(ho r (by rw[ue,u1];simp)).2.2 (er▸hz)
  show(w.h.set r _).get b=_;rw[IH.jM,if_neg (λer=>hrb er.symm)];exact h1
theorem EG{x:Operand}{r b:Nat}{aF bY:List (α×Value)}{p:α×Value}
 (next:R (λh=>ax P ds rest (act n ((d,.tuple #[aN p.1,p.2])::l) D pm ro) h K) B w0 kl F)
 (hx:ev l x=.pointer (some ⟨r,0,none⟩):=by rfl) (hs:ah (tQ aN r b aF (bY++[p])) kl kl':=by exact gp) (hn:Nat.blt d n=true:=by rfl) (hg:aZ l g=true:=by rfl):
 R (λh=>ax P ds (⟨⟨some d,g,.entry x⟩,[]⟩::rest) (act n l D pm ro) h K) B w0 kl F:=λw s0=>by
 have s:=s0.eT hs;obtain⟨S,⟨S1,S2,⟨q1,es,clock,seen,last,h1,hz,h2,h3,h4,ve,rem,h5,h6,h7⟩,q2,e⟩,hnd,hown⟩:=s.own;subst h4 h6;obtain⟨OJ,x0,Bz,hx0,hx1⟩:∃OJ x0,ve=OJ++[x0]/\x0.key=aN p.1/\x0.val=p.2:=by
  unfold lW at h5;rw[dM]at h5;obtain⟨a1,a2,e1,e2,e3⟩:=List.map_eq_append_iff.1 h5;obtain⟨x0,a3,e4,e5,e6⟩:=List.map_eq_cons_iff.1 e3;have:a3=[]:=by simpa using e6
  subst this;injection e5 with e5 e7;exact⟨a1,x0,by rw[e1,e4],e5,e7⟩
 have hfind:es.find? (λy=>Nat.beq y.born x0.born)=some x0:=by
  have hm:x0∈es:=h7.mem_iff.1 (mD _ (by rw[Bz];simp));cases hf:es.find? (λy=>Nat.beq y.born x0.born)with
  |none=>
   have:=List.find?_eq_none.1 hf x0 hm;simp[uD]at this
  |some y=>
   have hy:=List.find?_some hf;have hym:=List.mem_of_find?_eq_some hf;have hb:y.born=x0.born:=nA hy;congr 1;exact OD h2.nd hym hm hb
 refine iD hn hg (v:=.tuple #[aN p.1,p.2]) ?_ (next w s0);simp only[ai.run,hx,h3,h1];rw[Bz];simp only[dM,lc,List.map_nil,List.getLast?_append,List.getLast?_singleton,Option.some_or,uD,cond_true,hfind,hx0,hx1]
end
end Go.Ideal
namespace Go.Ideal
open Go.Sort
variable {P:Program}
theorem WR.grow{β:ak}{h:IH}{w:World}(hW:WR P β h w)(os:Array Obj):WR P β h (grow w os)/\Eff β h w β h (grow w os):=by
 have hold:∀b,b<w.heap.size->(Go.Sort.grow w os).heap[b]? =w.heap[b]?:=λb hb=>by
  show(w.heap++os)[b]? =_;rw[Lp hb]
 refine⟨⟨hW.dom,hW.live,λi g o h1 h2=>?_,hW.inj⟩,⟨λ_ _=>rfl,aC _,λ_ _ h=>h,λ_ _ _=>rfl,aC _,λ_ _ _=>rfl,rfl,rfl,rfl,?_,λb hb _=>hold b hb,λi g hg hi=>absurd (hW.dom _ _ hg) (by omega),λi g _ _ _ _ hb=>hold _ hb,aC _⟩⟩
 ·have hO:=hW.obj i g o h1 h2;exact hO.congr (hold _ hO.lt)
 ·show w.heap.size<=(w.heap++os).size;rw[Array.size_append];omega
def EH(o:Nat):List Value->Array Value->Array Value
 |[],c=>c
 |v::vs,c=>EH (o+1) vs (c.setIfInBounds o v)
theorem OL(b:Nat):∀(vs:List Value) (o:Nat) (w:World),w.setCells b o vs=mapBlock w b (EH o vs)
 |[],o,w=>(mapBlock_id w b _ λc e fr h=>rfl).symm
 |v::vs,o,w=>by
  show(w.setCell ⟨b,o,none⟩ v).setCells b (o+1) vs=_;rw[OL b vs (o+1),setCell_eq,mapBlock_mapBlock];rfl
theorem OM:∀(vs:List Value) (o:Nat) (c:Array Value) (k:Nat),(EH o vs c)[k]? =if o<=k/\k<o+vs.length/\k<c.size then vs[k - o]? else c[k]?
 |[],o,c,k=>by
  rw[if_neg (by rw[qf];omega)];rfl
 |v::vs,o,c,k=>by
  show(EH (o+1) vs (c.setIfInBounds o v))[k]? =_;rw[OM vs (o+1),Array.size_setIfInBounds,nZ];by_cases h1:o+1<=k/\k<o+1+vs.length/\k<c.size
  ·rw[if_pos h1,if_pos ⟨by omega,by omega,h1.2.2⟩];rw[show k - o=(k - (o+1))+1 by omega,nW]
  ·rw[if_neg h1,Tu];by_cases h2:o=k
   ·subst h2;rw[if_pos rfl];by_cases h3:o<c.size
    ·rw[if_pos h3,if_pos ⟨aC _,by omega,h3⟩,uE];rfl
    ·rw[if_neg h3,if_neg (by omega)];exact(nY (by omega)).symm
   ·rw[if_neg h2,if_neg (by omega)]
theorem setCells_putRow{α:Type}[Inhabited α](enc:α->Value)(w:World)(b o:Nat)(d:Array α):w.setCells b o (d.toList.map enc)=putRow enc w b o d:=by
 rw[OL];unfold putRow;refine mapBlock_congr w b _ _ λc e fr hc=>?_;apply Ll;intro k;rw[OM,putCells,Array.getElem?_mapIdx,bI,Array.length_toList];by_cases hk:k<c.size
 ·by_cases h:o<=k/\k<o+d.size
  ·rw[if_pos ⟨h.1,h.2,hk⟩,Lx hk,iJ,if_pos h,cK,sK,Lx (by omega)];rw[iJ,getElem!_pos d _ (by omega)]
  ·rw[if_neg (λq=>h ⟨q.1,q.2.1⟩),Lx hk,iJ,if_neg h]
 ·rw[if_neg (by omega),nY (by omega)];rfl
theorem EI{α:Type}:∀(l:List α) (o:Nat) (xs:List α),o+xs.length<=l.length->∃r,fV l o xs=some r
 |[],o,xs,h=>by
  have h1:xs=[]:=qc.1 (by rw[qf]at h;omega);have h2:o=0:=by rw[qf]at h;omega
  exact⟨[],by rw[LV,if_pos ⟨h1,h2⟩]⟩
 |c::l,0,[],h=>⟨_,LW c l⟩
 |c::l,0,x::xs,h=>by
  obtain⟨r,hr⟩:=EI l 0 xs (by simp only[nZ]at h;omega);exact⟨x::r,by rw[GG,hr];rfl⟩
 |c::l,o+1,xs,h=>by
  obtain⟨r,hr⟩:=EI l o xs (by simp only[nZ]at h;omega);exact⟨c::r,by rw[GH,hr];rfl⟩
end Go.Ideal
namespace Go.Ideal
variable {P:Program}
def EJ{α:Type}(P:Program)(vals:α->List Value)(fn:Fn)(first cap:List Value)(F:List aB)(X:List α->Prop):Prop:=
 ∀(S:Type) (inv:S->List OA) (ok:List α->S->Prop) (step:S->α->S×Bool) (s0:S) (vG:Fn) (y1 y2:List Value) (F':List aB),ok [] s0->
  (∀vs s x rest,ok vs s->X (vs++x::rest)->(step s x).2=true->ok (vs++[x]) (step s x).1)->
  (∀vs s x rest,ok vs s->X (vs++x::rest)->aT P vG (y1++vals x) y2 (inv s) F' (λ_:Unit=>.bool (step s x).2) (λ_=>inv (step s x).1) (λ_=>[]) (λ_=>True))->
  aT P fn (first++[.func vG ⟨y1⟩ ⟨y2⟩]) cap (inv s0) (F++F') (λ_:List α=>.tuple ⟨[]⟩) (λxs=>inv (fF step s0 xs)) (λ_=>[]) X
section
variable {B:List Nat} {w0:Wd} {kl kl' aW:List OA} {F:List aB} {K:KO} {n:Nat} {l:List (Nat×Value)} {D:List Deferred} {pm:Option FrameMode} {ro:Option Nat}
def zh{Z:Type}(B:List Nat)(w0:Wd)(n:Nat)(l3:Z->List (Nat×Value))(lo:Nat)(o:bQ)(kl:Z->List OA)(F:List aB):KO:=λoo a h=>
 oo=.normal/\∃z,a=act n (l3 z) [] none (some lo)/\∃w:Wd,w.h=h/\St B w0 (pt lo o::kl z) F w
theorem Jh{Z:Type}{l3:Z->List (Nat×Value)}{lo:Nat}{o:bQ}{k3:Z->List OA}(z:Z)(hl:l3 z=l)(hk:aL (pt lo o::k3 z) kl aW:=by exact nP):R (λh=>zh B w0 n l3 lo o k3 F .normal (act n l [] none (some lo)) h) B w0 kl F:=λw s=>
 ⟨rfl,z,by rw[hl],w,rfl,(s.jb hk).drop⟩
theorem OO{Y Z:Type}{lo:Nat}{L:kD}{args:List Value}{k1:List OA}{out:Y->Out}{k1':Y->List OA}{fs:Y->List aB}{pr:Y->Prop}(l:List (Nat×Value))(l3:Z->List (Nat×Value))(k3:Z->List OA)(hl:L.tmps=fu l)(hst:L.state=.ready)(hps:L.params.all (λp=>Nat.blt p L.n)=true)(hlen:L.params.length=args.length)
 (ha:∀B w0,R (λh=>EV P L.assign (act L.n ((L.params.zip args).reverse++l) [] none (some lo)) h (zh B w0 L.n l3 lo (.loop L) k3 F)) B w0 (pt lo (.loop L)::k1) F)
 (hb:∀z B w0,R (λh=>EV P L.body (act L.n (l3 z) [] none (some lo)) h (wZ B w0 lo L out k1' fs pr)) B w0 (pt lo (.loop (rY L))::k3 z) F):
 aT P (.yield lo) args [] (pt lo (.loop L)::k1) F (λy:Y=>.bool (jQ (out y))) (λy=>pt lo (.loop (jI L (out y)))::k1' y) fs pr:=by
 intro B w s;obtain⟨l2,e1,e2⟩:=Oh L.n L.params args l hps hlen;refine .round lo rfl rfl L s.get.1 hlen.symm _ (by
  rw[hl];show EV P L.assign (aI.mk L.n (qo L.n L.params args (fu l)) [] none (some lo)) w.h _;rw[e1,e2];exact ha B w w s) ?_ ?_
 ·rintro o a h ⟨rfl,z,rfl,w1,rfl,s1⟩;exact⟨rfl,L,s1.get.1,hst⟩
 ·rintro a h r1 ⟨_,z,rfl,w1,rfl,s1⟩ hr;have hr1:r1=L:=by
   have:=s1.get.1;rw[hr]at this;injection this with this;injection this
  subst hr1;have hb:=hb z B w _ (s1.write (o':=.loop (rY r1)));refine Nr hb _ ?_;rintro o a h ⟨hd,w2,y,rfl,rfl,hn,s2,hp⟩;refine⟨rY r1,s2.get.1,hd,?_⟩;have fin:∀o',jQ o'=jQ (out y)->jI r1 o'=jI r1 (out y)->Left B w (λy:Y=>.bool (jQ (out y))) (λy=>pt lo (.loop (jI r1 (out y)))::k1' y) fs pr (.ok (.bool (jQ (out y)))) none (w2.h.set lo (.loop (jI r1 (out y)))):=λo' _ _=>
   ⟨rfl,_,y,rfl,s2.write,rfl,hp⟩
  cases ho:out y with
  |normal=>have:=fin .normal (by rw[ho]) (by rw[ho]);rw[ho]at this;exact this
  |exit j=>have:=fin (.exit j) (by rw[ho]) (by rw[ho]);rw[ho]at this;exact this
  |ret=>have:=fin .ret (by rw[ho]) (by rw[ho]);rw[ho]at this;exact this
  |panic ch=>rw[ho]at hn;exact hn.elim
theorem Zd{S α Z:Type}{f:Operand}{ps:List Tmp}{assign body:bG}{fn:Fn}{first captured:List Value}{vals:α->List Value}{F1:List aB}{X:List α->Prop}(step:S->α->S×Out)(inv:S->List OA)(ok:List α->S->Prop)(s0:S)(h0:ok [] s0)
 (hok:∀vs s x rest,ok vs s->X (vs++x::rest)->(step s x).2=.normal->ok (vs++[x]) (step s x).1) (hit:EJ P vals fn first captured F1 X)
 (hf:ev l f=.func fn ⟨first⟩ ⟨captured⟩) (hps:ps.all (λp=>Nat.blt p n)=true) (hlen:∀x,ps.length=(vals x).length) (hk:aL (inv s0) kl aW) (hF:Sub F1 F) (gN:∀s x,wY (step s x).2)
 (l3:α->Z->List (Nat×Value)) (k3:α->Z->List OA)
 (ha:∀(s:S) (x:α) (lo:Nat) (o:bQ) B w0,R (λh=>EV P assign (act n ((ps.zip (vals x)).reverse++l) [] none (some lo)) h (zh B w0 n (l3 x) lo o (λz=>k3 x z++inv s) F)) B w0 (pt lo o::inv s) F)
 (hb:∀(vs:List α) (s:S) (x:α) (rest:List α) (z:Z) (lo:Nat) (L:kD) B w0,ok vs s->X (vs++x::rest)->R (λh=>EV P body (act n (l3 x z) [] none (some lo)) h (wZ B w0 lo L (λ_:Unit=>(step s x).2) (λ_=>inv (step s x).1) (λ_=>[]) (λ_=>True))) B w0 (pt lo (.loop (rY L))::(k3 x z++inv s)) F)
 (next:∀r xs,X xs->R (λh=>K (gQ step s0 xs).2 (act n l ({target:=.collected r,args:= #[]}::D) pm none) h) B w0 (inv (gQ step s0 xs).1++(pt r (.fO true)::aW)) F):
 R (λh=>EV P (.rangeFunc f ps assign body) (act n l D pm none) h K) B w0 kl F:=by
 refine Oi (Y:=List α) (k1:=inv s0) (F1:=F1++F) (Ew:=λ_=>.tuple ⟨[]⟩) (out:=λxs=>(gQ step s0 xs).2) (k1':=λxs=>inv (gQ step s0 xs).1) (fs:=λ_=>[]) (pr:=X) hf ?_ hk (hF.app (Sub.refl' F [])) (λr y hy=>next r y hy);intro lo r;have:=hit (S×Out) (λso=>pt lo (.loop (jI ⟨.ready,none,fu l,n,ps,assign,body,r⟩ so.2))::inv so.1) (λvs so=>so.2=.normal/\ok vs so.1) (λso x=>(step so.1 x,jQ (step so.1 x).2)) (s0,.normal) (.yield lo) [] [] F ⟨rfl,h0⟩
  (λvs so x rest ho hx h=>by
    have h:jQ (step so.1 x).2=true:=h;have hn:(step so.1 x).2=.normal:=by
     cases e:(step so.1 x).2 with
     |normal=>rfl
     |_=>rw[e]at h;cases h
    exact⟨hn,hok vs so.1 x rest ho.2 hx hn⟩)
  (λvs so x rest ho hx=>by
    obtain⟨s,o⟩:=so;obtain⟨hn,ho⟩:=ho;have hn:o=.normal:=hn;subst hn;exact OO (Y:=Unit) (L:=⟨.ready,none,fu l,n,ps,assign,body,r⟩) (args:=vals x) (k1:=inv s) (out:=λ_=>(step s x).2) (k1':=λ_=>inv (step s x).1) (fs:=λ_=>[]) (pr:=λ_=>True) l (l3 x) (λz=>k3 x z++inv s) rfl rfl hps (hlen x)
     (λB w0=>ha s x lo _ B w0) (λz B w0=>hb vs s x rest z lo _ B w0 ho hx))
 have e:(λxs:List α=>pt lo (.loop (jI ⟨.ready,none,fu l,n,ps,assign,body,r⟩ (fF (λ(so:S×Out) x=>(step so.1 x,jQ (step so.1 x).2)) (s0,.normal) xs).2))::inv (fF (λ(so:S×Out) x=>(step so.1 x,jQ (step so.1 x).2)) (s0,.normal) xs).1)=λxs=>pt lo (.loop (jI ⟨.ready,none,fu l,n,ps,assign,body,r⟩ (gQ step s0 xs).2))::inv (gQ step s0 xs).1:=by
  funext xs
  rw[I7]
 have h2:aT P fn (first++[.func (.yield lo) ⟨[]⟩ ⟨[]⟩]) captured (pt lo (.loop ⟨.ready,none,fu l,n,ps,assign,body,r⟩)::inv s0) (F1++F) (λ_:List α=>.tuple ⟨[]⟩) (λxs=>pt lo (.loop (jI ⟨.ready,none,fu l,n,ps,assign,body,r⟩ (fF (λ(so:S×Out) x=>(step so.1 x,jQ (step so.1 x).2)) (s0,.normal) xs).2))::inv (fF (λ(so:S×Out) x=>(step so.1 x,jQ (step so.1 x).2)) (s0,.normal) xs).1) (λ_=>[]) X:=this;rw[e]at h2;exact h2
theorem OP{S α Z:Type}{f:Operand}{ps:List Tmp}{assign body:bG}{fn:Fn}{first captured:List Value}{vals:α->List Value}{F1:List aB}{X:List α->Prop}(step:S->α->S×Out)(inv:S->List OA)(ok:List α->S->Prop)(s0:S)(l3:α->Z->List (Nat×Value))(k3:α->Z->List OA)(h0:ok [] s0)
 (hok:∀vs s x rest,ok vs s->X (vs++x::rest)->(step s x).2=.normal->ok (vs++[x]) (step s x).1) (hit:EJ P vals fn first captured F1 X)
 (ha:∀(s:S) (x:α) (lo:Nat) (o:bQ) B w0,R (λh=>EV P assign (act n ((ps.zip (vals x)).reverse++l) [] none (some lo)) h (zh B w0 n (l3 x) lo o (λz=>k3 x z++inv s) F)) B w0 (pt lo o::inv s) F)
 (hb:∀(vs:List α) (s:S) (x:α) (rest:List α) (z:Z) (lo:Nat) (L:kD) B w0,ok vs s->X (vs++x::rest)->R (λh=>EV P body (act n (l3 x z) [] none (some lo)) h (wZ B w0 lo L (λ_:Unit=>(step s x).2) (λ_=>inv (step s x).1) (λ_=>[]) (λ_=>True))) B w0 (pt lo (.loop (rY L))::(k3 x z++inv s)) F)
 (next:∀r xs,X xs->R (λh=>K (gQ step s0 xs).2 (act n l ({target:=.collected r,args:= #[]}::D) pm none) h) B w0 (inv (gQ step s0 xs).1++(pt r (.fO true)::aW)) F)
 (gN:∀s x,wY (step s x).2)
 (hf:ev l f=.func fn ⟨first⟩ ⟨captured⟩:=by rfl) (hps:ps.all (λp=>Nat.blt p n)=true:=by rfl) (hlen:∀x,ps.length=(vals x).length:=by intro _;rfl)
 (hk:aL (inv s0) kl aW:=by exact nP) (hF:Sub F1 F:=by exact mR):
 R (λh=>EV P (.rangeFunc f ps assign body) (act n l D pm none) h K) B w0 kl F:=
 Zd step inv ok s0 h0 hok hit hf hps hlen hk hF gN l3 k3 ha hb next
end
end Go.Ideal
namespace Go.Ideal
variable {P:Program}
def aK{α:Type}(E:Enc α)(aa:List (α×E.Y)):List Value:=aa.flatMap λp=>E.pat p.1 p.2
theorem qR{α:Type}{E:Enc α}:∀aa:List (α×E.Y),(aK E aa).length=aa.length*E.n
 |[]=>by simp[aK]
 |p::l=>by
  have ih:=qR l;unfold aK at ih⊢;rw[Gm,dK,ih,E.len,nZ,lg];omega
theorem xh{α:Type}{E:Enc α}:∀{aa:List (α×E.Y)} {k:Nat} {p:α×E.Y} {j:Nat} {u:Value},aa[k]? =some p->(E.pat p.1 p.2)[j]? =some u->(aK E aa)[k*E.n+j]? =some u
 |[],k,p,j,u,h,_=>by cases h
 |q::l,0,p,j,u,h,hj=>by
  cases h;unfold aK;rw[Gm,og,dB,iW (dU.1 hj).1];exact hj
 |q::l,k+1,p,j,u,h,hj=>by
  have ih:=xh (aa:=l) (k:=k) (by simpa using h) hj;unfold aK at ih⊢;rw[Gm,lN (by rw[E.len,lg];omega),E.len,show(k+1)*E.n+j - E.n=k*E.n+j by rw[lg];omega];exact ih
theorem OQ{α:Type}{E:Enc α}{j:Nat}{v:Value}:∀{aa:List (α×E.Y)} {k:Nat} {p p':α×E.Y},aa[k]? =some p->(E.pat p.1 p.2).set j v=E.pat p'.1 p'.2->j<E.n->(aK E aa).set (k*E.n+j) v=aK E (aa.set k p')
 |[],k,p,p',h,_,_=>by cases h
 |q::l,0,p,p',h,hp,hj=>by
  cases h;unfold aK;rw[Gm,og,dB,List.set_append_left _ _ (by rw[E.len];exact hj),hp];rfl
 |q::l,k+1,p,p',h,hp,hj=>by
  have ih:=OQ (aa:=l) (k:=k) (by simpa using h) hp hj;unfold aK at ih⊢;rw[Gm,List.set_append_right _ _ (by rw[E.len,lg];omega),E.len,show(k+1)*E.n+j - E.n=k*E.n+j by rw[lg];omega,ih];rfl
def oD{α:Type}(E:Enc α)(v:Value)(aa:List (α×E.Y)):aB:=
 ⟨λw=>(aa=[]/\∃a c,v=.slice a 0 c/\IX E.n a)\/∃i o f c cells,(v=.slice (some ⟨i,o,some f⟩) aa.length c/\aa.length<=c/\(f=0\/f=E.n))/\Fz w i cells/\
  ∀(k:Nat) p,aa[k]? =some p->(∀(j:Nat) u,(E.pat p.1 p.2)[j]? =some u->cells[o+k*E.n+j]? =some u)/\∀f∈E.fs p.1 p.2,f.p w,
  λa h=>by
   rcases h with h|⟨i,o,f,c,cells,h1,h2,h3⟩
   ·exact .inl h
   ·refine .inr ⟨i,o,f,c,cells,h1,h2.mono a,λk x hk=>?_⟩;obtain⟨q1,q2⟩:=h3 k x hk;exact⟨q1,λf hf=>f.mono a (q2 f hf)⟩⟩
def mW{α:Type}(E:Enc α)(aa:List (α×E.Y)):aB:=⟨λw=>∀p∈aa,∀f∈E.fs p.1 p.2,f.p w,λa h p hp f hf=>f.mono a (h p hp f hf)⟩
theorem EK{α:Type}{E:Enc α}{v:Value}{aa:List (α×E.Y)}{w:Wd}(h:(oD E v aa).p w):(mW E aa).p w:=by
 intro p hp f hf;rcases h with⟨rfl,_⟩|⟨i,o,fl,c,cells,_,_,h3⟩
 ·cases hp
 ·obtain⟨k,hk⟩:=Lv.1 hp;exact(h3 k p hk).2 f hf
theorem Ze{α:Type}{E:Enc α}{v:Value}{aa:List (α×E.Y)}{w:Wd}(h:(oD E v aa).p w):(ae E v (aa.map (·.1))).p w:=by
 rcases h with⟨rfl,h⟩|⟨i,o,f,c,cells,h1,h2,h3⟩
 ·exact .inl ⟨rfl,h⟩
 ·refine .inr ⟨i,o,f,c,cells,by rw[bI];exact h1,h2,λk x hk=>?_⟩;rw[cK]at hk;cases hp:aa[k]? with
  |none=>rw[hp]at hk;cases hk
  |some p=>
   rw[hp]at hk;cases hk;exact⟨p.2,h3 k p hp⟩
theorem OT{α:Type}{E:Enc α}{v:Value}{xs:List α}{w:Wd}(h:(ae E v xs).p w):∃aa:List (α×E.Y),aa.map (·.1)=xs/\(oD E v aa).p w:=by
 rcases h with⟨rfl,h⟩|⟨i,o,f,c,cells,h1,h2,h3⟩
 ·exact⟨[],rfl,.inl ⟨rfl,h⟩⟩
 ·obtain⟨l,hl,hp⟩:=I6 (p:=λk (p:α×E.Y)=>xs[k]? =some p.1/\(∀(j:Nat) u,(E.pat p.1 p.2)[j]? =some u->cells[o+k*E.n+j]? =some u)/\∀f∈E.fs p.1 p.2,f.p w) xs.length (λk hk=>by
   obtain⟨y,q1,q2⟩:=h3 k xs[k] (bH hk);exact⟨(xs[k],y),bH hk,q1,q2⟩)
  have hm:l.map (·.1)=xs:=by
   apply jX;intro k;rw[cK];by_cases hk:k<xs.length
   ·have hk':k<l.length:=by omega
    rw[bH hk',iJ,(hp k l[k] (bH hk')).1]
   ·rw[iX (by omega),iX (by omega)];rfl
  exact⟨l,hm,.inr ⟨i,o,f,c,cells,by rw[hl];exact h1,h2,λk p hk=>(hp k p hk).2⟩⟩
def ar{α:Type}(E:Enc α)(v:Value)(aa:List (α×E.Y)):OA:=
 ⟨λw S=>(aa=[]/\(∃a,v=.slice a 0 0/\IX E.n a)/\S=[])\/∃b f,v=.slice (some ⟨b,0,some f⟩) aa.length aa.length/\(f=0\/f=E.n)/\S=[b]/\w.h.get b=some (.cells (aK E aa)),
  λa h hp=>by
   rcases hp with hp|⟨b,f,h1,h2,h3,h4⟩
   ·exact .inl hp
   ·exact .inr ⟨b,f,h1,h2,h3,by rw[h b (by rw[h3];exact cB.2 rfl)];exact h4⟩⟩
theorem Zf{α:Type}{E:Enc α}{v:Value}{aa:List (α×E.Y)}(w w':Wd)(S:List Nat)(hp:(ar E v aa).p w S)(hle:w.Le w')(hh:w'.h=w.h)(hz:∀i∈S,w'.z i)(ha:(mW E aa).p w):(oD E v aa).p w':=by
 rcases hp with⟨h1,⟨a,h2,h3⟩,_⟩|⟨b,f,h1,h2,h3,h4⟩
 ·exact .inl ⟨h1,a,0,h2,h3⟩
 ·refine .inr ⟨b,0,f,_,_,⟨h1,aC _,h2⟩,⟨hz b (by rw[h3];exact cB.2 rfl),.inl (by rw[hh];exact h4)⟩,λk p hk=>⟨λj u hj=>?_,λf hf=>f.mono hle (ha p (dA hk) f hf)⟩⟩;rw[dB];exact xh hk hj
section
variable {B:List Nat} {w0:Wd} {kl kl' aW:List OA} {F:List aB} {K:KO} {ds:List Tmp} {rest:List aP} {n:Nat} {l:List (Nat×Value)} {D:List Deferred} {pm:Option FrameMode} {ro:Option Nat} {d:Nat} {g:Option (Tmp×Bool)}
variable {α:Type} {E:Enc α} {v:Value}
theorem pR{xs:List α}{Q:IH->Prop}(E:Enc α)(v:Value)(h:∀aa:List (α×E.Y),aa.map (·.1)=xs->R Q B w0 kl (oD E v aa::F))(hf:ae E v xs∈F:=by exact mU):R Q B w0 kl F:=λw s=>by
 obtain⟨aa,h1,h2⟩:=OT (s.facts _ hf);exact h aa h1 w ⟨s.agree,s.le,s.eG,s.own,λf hf=>by
  rcases bZ.1 hf with rfl|hf
  ·exact h2
  ·exact s.facts f hf⟩
theorem OU{aa:List (α×E.Y)}{Q:IH->Prop}(h:R Q B w0 kl (mW E aa::F))(hf:oD E v aa∈F:=by exact mU):R Q B w0 kl F:=λw s=>
 h w ⟨s.agree,s.le,s.eG,s.own,λf hf'=>by
  rcases bZ.1 hf' with rfl|hf'
  ·exact EK (s.facts _ hf)
  ·exact s.facts f hf'⟩
theorem Zg{aa:List (α×E.Y)}{Q:IH->Prop}(h:R Q B w0 kl' (oD E v aa::ae E v (aa.map (·.1))::F))(ha:∀w,(∀f∈F,f.p w)->(mW E aa).p w)(hk:ah (ar E v aa) kl kl':=by exact gp):R Q B w0 kl F:=λw s=>by
 have hall:=ha w s.facts
 -- freeze by hand
 obtain⟨S,⟨S1,S2,q1,q2,e⟩,h2,h3⟩:=(s.eT hk).own;subst e;let w':Wd:=⟨w.h,λi=>w.z i\/i∈S1,λi hi=>hi.elim (w.gX i) λhi=>(h3 i (mD _ hi)).2.1⟩
 have hle:w.Le w':=⟨aC _,λi hi=>.inl hi,λ_ _=>rfl⟩
 have hnd:=qh.1 h2;have hel:=Zf w w' S1 q1 hle rfl (λi hi=>.inr hi) hall;refine h w' ⟨s.agree,s.le.trans hle,λi hi hz=>?_,⟨S2,gD.loc hle (λ_ _=>rfl) q2,hnd.2.1,λi hi=>?_⟩,λf hf=>?_⟩
 ·rcases hz with hz|hz
  ·exact s.eG i hi hz
  ·rcases(h3 i (mD _ hz)).1 with q|q
   ·omega
   ·exact .inr q
 ·have:=h3 i (nC _ hi);refine⟨this.1,this.2.1,λhz=>hz.elim this.2.2 λhm=>?_⟩;exact hnd.2.2 i hm i hi rfl
 ·rcases bZ.1 hf with rfl|hf
  ·exact hel
  ·rcases bZ.1 hf with rfl|hf
   ·exact Ze hel
   ·exact f.mono hle (s.facts f hf)
theorem Zh{α:Type}(E:Enc α){aa:List (α×E.Y)}{Q:IH->Prop}{b f m:Nat}(hm:m=aa.length)(hf:f=0\/f=E.n)(h:R Q B w0 (ar E (.slice (some ⟨b,0,some f⟩) m m) aa::kl') F)(hk:ah (pt b (.cells (aK E aa))) kl kl':=by exact gp):R Q B w0 kl F:=λw s=>by
 refine h w ((s.eT hk).yR (A:=pt b (.cells (aK E aa))) λw S hp=>.inr ⟨b,f,by rw[hm],hf,hp.1,hp.2⟩)
theorem Zi{x:Operand}{t e:TypeId}{m c:Nat}(hu:P.underlying t=some (.slice e))(hx:ev l x=.slice none m c):Pu P (ev l) (.bin .eql t x (.const (.slice none 0 0))) (.bool true):=λh=>by
 have he:dh P (Op.equal t (.slice none m c) (.slice none 0 0))=some true:=by
  show dh P (Op.equalIn (9999+1) t (.slice none m c) (.slice none 0 0))=_;unfold Op.equalIn;rw[gL,qJ hu];rfl
 have h1:ji P (do eqGuard .eql t x (.const (.slice none 0 0)) (.slice none m c) (.slice none 0 0);binOp .eql t (.slice none m c) (.slice none 0 0))=some (.bool true):=by
  unfold ji;rw[gL,yT (by intro c e;cases e) (by intro e;cases e)];simp only[iA,binOp];rw[gL,he];rfl
 have h2:mG P .eql t x (.const (.slice none 0 0)) (.slice none m c) (.slice none 0 0)=some (.bool true):=by
  by_cases hmc:m=0/\c=0
  ·show cond (bE (Value.slice none m c)&&bE (Value.slice none 0 0)) (ji P (do eqGuard .eql t x (.const (.slice none 0 0)) (.slice none m c) (.slice none 0 0);binOp .eql t (.slice none m c) (.slice none 0 0))) _=_;rw[h1];obtain⟨rfl,rfl⟩:=hmc;simp[bE]
  ·have e0:bE (Value.slice none m c)=false:=by
    cases hb:bE (Value.slice none m c)with
    |false=>rfl
    |true=>exact absurd (by simpa[bE]using hb) hmc
   have e1:oU P t (.slice none m c) (.slice none 0 0)=some true:=by
    unfold oU;rw[hu]
   show cond (bE (Value.slice none m c)&&bE (Value.slice none 0 0)) _ (match oU P t (.slice none m c) (.slice none 0 0)with|some b=>some (Value.bool b)|none=>none)=_;rw[e0,e1];rfl
 simp only[ai.run,hx];show(match mG P .eql t x (.const (.slice none 0 0)) (.slice none m c) (.slice none 0 0)with|some v=>some (v,h)|none=>none)=_;rw[h2]
theorem EL{x:Operand}{t e:TypeId}{a:Addr}{m c:Nat}(hu:P.underlying t=some (.slice e))(hx:ev l x=.slice (some a) m c):Pu P (ev l) (.bin .eql t x (.const (.slice none 0 0))) (.bool false):=λh=>by
 have h2:mG P .eql t x (.const (.slice none 0 0)) (.slice (some a) m c) (.slice none 0 0)=some (.bool false):=by
  have:oU P t (.slice (some a) m c) (.slice none 0 0)=some false:=by
   unfold oU;rw[hu]
  show(match oU P t (.slice (some a) m c) (.slice none 0 0)with|some b=>some (Value.bool b)|none=>none)=_;rw[this]
 simp only[ai.run,hx];show(match mG P .eql t x (.const (.slice none 0 0)) (.slice (some a) m c) (.slice none 0 0)with|some v=>some (v,h)|none=>none)=_;rw[h2]
theorem OV{e:TypeId}{size bytes b c:Nat}{a:Option Addr}{s x:Operand}
 (next:R (λh=>ax P ds rest (act n ((d,.slice (some ⟨b,0,some 0⟩) 0 0)::l) D pm ro) h K) B w0 (pt b (.cells [])::kl') F)
 (hs:ev l s=.slice (some ⟨b,0,some 0⟩) 0 0:=by rfl) (hx:ev l x=.slice a 0 c:=by rfl) (hk:ah (pt b (.cells [])) kl kl':=by exact gp) (hn:Nat.blt d n=true:=by rfl) (hg:aZ l g=true:=by rfl):
 R (λh=>ax P ds (⟨⟨some d,g,.append e size bytes s x⟩,[]⟩::rest) (act n l D pm ro) h K) B w0 kl F:=λw st=>by
 have st1:=st.eT hk;refine iD hn hg (v:=.slice (some ⟨b,0,some 0⟩) 0 0) (h':=w.h.set b (.cells [])) ?_ (next ⟨w.h.set b (.cells []),w.z,λi hi=>w.gX i hi⟩ st1.write);have h0:∀m,Nat.mul 0 m=0:=λm=>og m;have e1:w.h.storeAt b 0 []=some (w.h.set b (.cells [])):=by
  unfold IH.storeAt;simp only[st1.get.1];rfl
 simp only[ai.run,hx,hs,jY,rP,mE];show cond (Nat.ble (Nat.mul (Nat.add 0 0) bytes) small&&Nat.ble (Nat.mul (Nat.add 0 0) size) small&&Nat.ble (Nat.add 0 0) small) (cond (Nat.ble (Nat.add 0 0) 0) (match w.h.storeAt b (Nat.add 0 (Nat.mul 0 size)) []with|some h=>some (Value.slice (some ⟨b,0,some 0⟩) (Nat.add 0 0) 0,h)|none=>none) _) none=_;rw[show Nat.add 0 0=0 from rfl,h0,h0,show Nat.add 0 0=0 from rfl,e1];have:(Nat.ble 0 small&&Nat.ble 0 small&&Nat.ble 0 small)=true:=rfl;rw[this];rfl
theorem Zj{α:Type}{e:TypeId}{size bytes b:Nat}{s x:Operand}(E:Enc α)(aa:List (α×E.Y))(hne:0<aa.length)(hm:aa.length*bytes<=1073741824/\aa.length*size<=1073741824/\aa.length<=1073741824)
 (next:∀b',R (λh=>ax P ds rest (act n ((d,.slice (some ⟨b',0,some size⟩) aa.length aa.length)::l) D pm ro) h K) B w0 (pt b' (.cells (aK E aa))::kl') F)
 (hs:ev l s=.slice (some ⟨b,0,some 0⟩) 0 0:=by rfl) (hx:ev l x=v:=by conv=>lhs;whnf) (hf:oD E v aa∈F:=by exact mU) (hz:E.n=size:=by rfl) (hk:ah (pt b (.cells [])) kl kl':=by exact gp) (hn:Nat.blt d n=true:=by rfl) (hg:aZ l g=true:=by rfl):
 R (λh=>ax P ds (⟨⟨some d,g,.append e size bytes s x⟩,[]⟩::rest) (act n l D pm ro) h K) B w0 kl F:=λw st=>by
 subst hz;have st1:=st.eT hk;have hat:At w.h b (.cells []):=st.at_ hk;obtain⟨k,hk'⟩:∃k,aa.length=k+1:=⟨aa.length - 1,by omega⟩
 rcases st.facts _ hf with⟨rfl,_⟩|⟨i,o,f,c,cells,⟨e1,hc⟩,q2,q3⟩
 ·simp at hne
 have hfl:=qR aa;have hcells:∀j,j<aa.length*E.n->cells[o+j]? =(aK E aa)[j]?:=λj hj=>by
  have hn0:0<E.n:=by
   rcases zO E.n with h0|h0
   ·rw[h0]at hj;omega
   ·exact h0
  have hd:j/E.n<aa.length:=by rw[Lu hn0];exact hj
  have hmod:=sM j hn0;have hpk:=bH hd;have hu:(E.pat (aa[j/E.n]).1 (aa[j/E.n]).2)[j%E.n]? =some ((E.pat (aa[j/E.n]).1 (aa[j/E.n]).2)[j%E.n]'(by rw[E.len];exact hmod)):=bH _;have h1:=(q3 (j/E.n) _ hpk).1 (j%E.n) _ hu;have h2:=xh hpk hu;have u7:j/E.n*E.n+j%E.n=j:=by rw[xQ];exact Nat.div_add_mod j E.n
  rw[lQ,u7]at h1;rw[u7]at h2;rw[h1,h2]
 have hlen:o+aa.length*E.n<=cells.length\/aa.length*E.n=0:=by
  rcases zO (aa.length*E.n)with h0|h0
  ·exact .inr h0
  ·left;have h1:=hcells (aa.length*E.n - 1) (by omega);have hx0:(aK E aa)[aa.length*E.n - 1]? =some ((aK E aa)[aa.length*E.n - 1]'(by omega)):=bH _;rw[hx0]at h1;have:=(dU.1 h1).1;omega
 have hpos:0<E.n\/E.n=0:=by omega
 have hread:w.h.dL i o (aa.length*E.n)=some (aK E aa):=by
  rw[q2.cells.dL,jE,jF,if_pos (by rw[iY];omega)];congr 1;apply jX;intro j;rw[qd];by_cases hj:j<aa.length*E.n
  ·rw[if_pos hj,iV];exact hcells j hj
  ·rw[if_neg hj,iX (by omega)]
 refine Bi (b:=b) (o:=0) (m:=0) (k:=k) (f:=some 0) (old:=[]) (xs:=aK E aa) hn hg hs (by rw[hx,e1,hk'];rfl) ?_ ?_ (.inl rfl) ?_ λh' mv=>?_
 ·rw[hx,e1,<- hk'];exact hread
 ·rw[hat.c.dL,og];rfl
 ·rw[dB,<- hk'];omega
 obtain⟨w',rfl,dG,nO⟩:=st1.move mv;rw[dw]at dG;have:=next w.h.next w' dG
 rw[hk']at this;rw[dB];exact this
end
end Go.Ideal
namespace Go.Ideal
variable {P:Program}
inductive zi(P:Program)(ty:TypeId):Value->Value->Bool->Prop
 |int {a b:Int} (h:P.underlying ty=some (.int .i64)):zi P ty (.int .i64 a) (.int .i64 b) (decide (a=b))
 |str {a b:ByteArray} (h:P.underlying ty=some .string):zi P ty (.string a) (.string b) (decide (a=b))
theorem Zk:dh P program=some P:=rfl
theorem OW{α:Type}{c:Prop}[Decidable c]{a b:Sem α}:dh P (if c then a else b)=if c then dh P a else dh P b:=by split<;>rfl
theorem Zl{ty:TypeId}{a b:Value}{r:Bool}(c:zi P ty a b r)(d:Nat):dh P (Op.equalIn (d+1) ty a b)=some r:=by
 cases c with
 |int h=>
  unfold Op.equalIn;rw[gL,qJ h];simp only[iA,if_true];rfl
 |str h=>
  unfold Op.equalIn;rw[gL,qJ h];show some (_==_)=_;rw[bytes_beq]
theorem OX{ty:TypeId}{a b v:Value}{r:Bool}(c:zi P ty a b r){xs:Array Value}{o:Nat}(hx:xs[o]? =some v):dh P (part ty xs o)=some v:=by
 have hu:∃d,P.underlying ty=some d/\(∀fs,d≠.struct fs)/\∀n e,d≠.array n e:=by
  cases c with
  |int h=>exact⟨_,h,(by intro _ e;cases e),(by intro _ _ e;cases e)⟩
  |str h=>exact⟨_,h,(by intro _ e;cases e),(by intro _ _ e;cases e)⟩
 obtain⟨d,h1,h2,h3⟩:=hu;have hag:dh P (isAgg ty)=some false:=by
  unfold isAgg;rw[gL,qJ h1];cases d with
  |struct fs=>exact absurd rfl (h2 fs)
  |array n e=>exact absurd rfl (h3 n e)
  |_=>rfl
 unfold part;rw[gL,hag];show dh P (match xs[o]? with|some v=>pure v|none=>stuck "part: no such cell")=_;rw[hx];rfl
inductive Ji(P:Program)(xs ys:List Value):List Field->Bool->Prop
 |nil:Ji P xs ys [] true
 |cons {f:Field} {fs:List Field} {a b:Value} {r r':Bool} (hn:(f.name== "_")=false) (hx:xs[f.offset]? =some a) (hy:ys[f.offset]? =some b) (c:zi P f.type a b r) (t:Ji P xs ys fs r'):Ji P xs ys (f::fs) (r&&r')
section
variable {l:List (Nat×Value)}
theorem OY{d n:Nat}{t e:TypeId}{xs ys:List Int}(hu:P.underlying t=some (.array n e))(he:P.underlying e=some (.int .i64))(hs:P.info? e|>.map (·.size)|>(·=some 1))(hx:xs.length=n)(hy:ys.length=n):
 dh P (Op.equalIn (d+2) t (.agg ⟨xs.map (.int .i64)⟩) (.agg ⟨ys.map (.int .i64)⟩))=some (decide (xs=ys)):=by
 have hsz:dh P (sizeOf e)=some 1:=by
  unfold sizeOf typeInfo;cases hi:P.info? e with
  |none=>rw[hi]at hs;cases hs
  |some i=>
   rw[hi]at hs;have hs:i.size=1:=by simpa using hs
   simp only[gL,Zk,iA,hi];rw[<- hs];rfl
 unfold Op.equalIn;rw[gL,qJ hu];simp only[iA];rw[gL,hsz];simp only[iA,jB];rw[Std.Legacy.Range.forIn_eq_forIn_range'];simp only[Std.Legacy.Range.size,qg,Nat.add_sub_cancel,Nat.div_one];have key:∀(m i:Nat),i+m=n->dh P (do
  let OZ <- forIn (List.range' i m 1) ((none,()):Option Bool×Unit) λi OZ=>
   (do let a <- part e ⟨xs.map (.int .i64)⟩ i
       let b <- part e ⟨ys.map (.int .i64)⟩ i
       let r <- Op.equalIn (d+1) e a b
       if(!r)=true then pure (ForInStep.done (some false,()))else pure (ForInStep.yield (none,())))
  match OZ.fst with
  |some r=>pure r
  |none=>pure true)=some (decide (xs.drop i=ys.drop i)):=by
  intro m;induction m with
  |zero=>
   intro i hi;rw[uG (by omega),uG (by omega)];rfl
  |succ m ih=>
   intro i hi;have hix:i<xs.length:=by omega
   have O0:i<ys.length:=by omega
   have c:zi P e (.int .i64 xs[i]) (.int .i64 ys[i]) (decide (xs[i]=ys[i])):=.int he;rw[List.range'_succ,List.forIn_cons];simp only[gL,OW];rw[OX (xs:=⟨xs.map (.int .i64)⟩) (o:=i) (v:=.int .i64 xs[i]) c (by simp[hix]),iA,OX (xs:=⟨ys.map (.int .i64)⟩) (o:=i) (v:=.int .i64 ys[i]) c (by simp[O0]),iA,Zl c,iA];rw[zV hix,zV O0];have ih:=ih (i+1) (by omega);simp only[gL,OW]at ih;by_cases hxy:xs[i]=ys[i]
   ·rw[fK hxy];simp only[Bool.not_true,qb,if_false];show(dh P _).bind _=_;rw[show decide (xs[i]::xs.drop (i+1)=ys[i]::ys.drop (i+1))=decide (xs.drop (i+1)=ys.drop (i+1))from xW.2 (by rw[xS];exact⟨λh=>h.2,λh=>⟨hxy,h⟩⟩)];exact ih
   ·rw[gq hxy];simp only[Bool.not_false,if_true];rw[show decide (xs[i]::xs.drop (i+1)=ys[i]::ys.drop (i+1))=false from gq (λh=>hxy (List.cons.inj h).1)];rfl
 have:=key n 0 (by omega);rw[qi,qi]at this;refine Eq.trans ?_ this;simp only[gL];congr 1;funext s
 cases s.fst<;>rfl
end

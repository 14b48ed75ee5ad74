/-
  The ideal machine, 44: plain data, laid for the ideal machine.
-/
import Derived.Test.YtbdaaopebgcnaaaGreatDoorIdealHM
import Derived.OpenShut
set_option linter.all false
namespace Go.Ideal
open Go.ChangeShapes Go.WideShapes Go.ChangeAt Go.RowKit
def cuts{α:Type}:List Nat->List α->List (List α)
 |[],_=>[]
 |s::ss,l=>l.take s::cuts ss (l.drop s)
def sums:Nat->List Nat->List Nat
 |_,[]=>[]
 |o,s::ss=>o::sums (o+s) ss
theorem xg{α:Type}:∀(ss:List Nat) (l:List α) (o0 j:Nat) (o s:Nat),(sums o0 ss)[j]? =some o->ss[j]? =some s->(cuts ss l)[j]? =some ((l.drop (o - o0)).take s)/\o0<=o
 |[],l,o0,j,o,s,h,_=>by simp[sums]at h
 |s0::ss,l,o0,0,o,s,h,hs=>by
  simp[sums]at h hs;subst h hs;simp[cuts]
 |s0::ss,l,o0,j+1,o,s,h,hs=>by
  simp only[sums,pY]at h hs;obtain⟨h1,h2⟩:=xg ss (l.drop s0) (o0+s0) j o s h hs;refine⟨?_,by omega⟩;simp only[cuts,pY];rw[h1,List.drop_drop];congr 3;omega
theorem QH{α:Type}:∀(ss:List Nat) (l:List α),l.length=ss.sum->(cuts ss l).flatten=l
 |[],l,h=>by
  have:l=[]:=qM.1 (by simpa using h);subst this;rfl
 |s::ss,l,h=>by
  simp only[List.sum_cons]at h;simp only[cuts,uj];rw[QH ss (l.drop s) (by rw[iZ];omega),yl]
theorem K8{α:Type}:∀(ss:List Nat) (ps:List (List α)),ps.map List.length=ss->cuts ss ps.flatten=ps
 |[],[],_=>rfl
 |[],_::_,h=>by cases h
 |s::ss,[],h=>by cases h
 |s::ss,p::ps,h=>by
  simp only[lK,zw]at h;obtain⟨h1,h2⟩:=h;simp only[cuts,uj];rw[List.take_left' h1,List.drop_left' h1,K8 ss ps h2]
theorem aH.flatten{β:ax}:∀{ps qs:List (List Value)},ps.length=qs.length->(∀(j:Nat) p q,ps[j]? =some p->qs[j]? =some q->aH β p q)->aH β ps.flatten qs.flatten
 |[],[],_,_=>.nil
 |[],_::_,h,_=>by cases h
 |_::_,[],h,_=>by cases h
 |p::ps,q::qs,h,hv=>by
  simp only[uj];exact(hv 0 p q rfl rfl).append (aH.flatten (by simpa using h) λj a b ha hb=>hv (j+1) a b ha hb)
inductive gP(P:Program)(h:IH){H:Type}:TypeId->List Value->DataW H->Prop
 |bool {t:TypeId} {b:Bool} (ht:P.underlying t=some .bool):gP P h t [.bool b] (.lit (.bool b))
 |int {t:TypeId} {k:IntKind} {n:Int} (ht:P.underlying t=some (.int k)) (hw:(Lit.int k n).wf=true):gP P h t [.int k n] (.lit (.int k n))
 |string {t:TypeId} {s:ByteArray} (ht:P.underlying t=some .string) (hs:s.size<=maxLen):gP P h t [.string s] (.lit (.string s.data.toList))
 |nil {t e:TypeId} (ht:P.underlying t=some (.slice e)):gP P h t [.slice none 0 0] .nil
 |slice {t e:TypeId} {i n c:Nat} {cells:List Value} {els rest:List (DataW H)} (ht:P.underlying t=some (.slice e)) (hn:n<=c/\c<=maxLen) (hl:els.length=n) (hc:n=0\/Cells h i cells)
   (hel:∀(k:Nat) d,els[k]? =some d->gP P h e ((cells.drop (k*P.cellsOf e)).take (P.cellsOf e)) d):gP P h t [.slice (some ⟨i,0,some 0⟩) n c] (.slice els rest)
 |struct {t:TypeId} {fs:Array Field} {cs:List Value} {ds:List (DataW H)} (ht:P.underlying t=some (.struct fs)) (hl:cs.length=P.cellsOf t) (hd:ds.length=fs.size)
   (hf:∀(j:Nat) f d,fs[j]? =some f->ds[j]? =some d->gP P h f.type ((cs.drop f.offset).take (P.cellsOf f.type)) d):gP P h t cs (.agg ds)
 |array {t e:TypeId} {n:Nat} {cs:List Value} {ds:List (DataW H)} (ht:P.underlying t=some (.array n e)) (hl:cs.length=P.cellsOf t) (hd:ds.length=n)
   (hf:∀(j:Nat) d,ds[j]? =some d->gP P h e ((cs.drop (j*P.cellsOf e)).take (P.cellsOf e)) d):gP P h t cs (.agg ds)
theorem gP.mono{P:Program}{h h':IH}{H:Type}(hh:∀i cs,Cells h i cs->Cells h' i cs){t:TypeId}{cs:List Value}{d:DataW H}(r:gP P h t cs d):gP P h' t cs d:=by
 induction r with
 |bool ht=>exact .bool ht
 |int ht hw=>exact .int ht hw
 |string ht hs=>exact .string ht hs
 |nil ht=>exact .nil ht
 |slice ht hn hl hc _ ih=>exact .slice ht hn hl (hc.imp id (hh _ _)) ih
 |struct ht hl hd _ ih=>exact .struct ht hl hd ih
 |array ht hl hd _ ih=>exact .array ht hl hd ih
end Go.Ideal
namespace Go.Ideal
open Go.ChangeShapes Go.WideShapes Go.ChangeAt Go.RowKit
inductive PlainT(P:Program)(K:TypeId->Prop)(t:TypeId):Prop
 |bool (ht:P.underlying t=some .bool)
 |int (k:IntKind) (ht:P.underlying t=some (.int k))
 |string (ht:P.underlying t=some .string)
 |slice (e:TypeId) (ht:P.underlying t=some (.slice e)) (he:K e) (hs:0<P.cellsOf e)
 |struct (fs:Array Field) (ht:P.underlying t=some (.struct fs)) (hf:∀f∈fs.toList,K f.type) (ho:fs.toList.map (·.offset)=sums 0 (fs.toList.map λf=>P.cellsOf f.type))
   (hs:P.cellsOf t=(fs.toList.map λf=>P.cellsOf f.type).sum)
 |array (n:Nat) (e:TypeId) (ht:P.underlying t=some (.array n e)) (he:K e) (hs:P.cellsOf t=n*P.cellsOf e)
theorem FU(L M:Lay):(iV L).le (iV (L++M)):=λi g h=>by
 unfold iV at h⊢;cases e:L[i]? with
 |none=>rw[e]at h;cases h
 |some p=>rw[jF (dU.1 e).1,e];rw[e]at h;exact h
theorem K9{L M:Lay}{i:Nat}{cs:List Value}(h:Cells (jd L) i cs):Cells (jd (L++M)) i cs:=by
 obtain⟨h1,h2⟩:=h;have h1:i<L.length:=h1;refine⟨by show i<(L++M).length;rw[dN];omega,?_⟩;rw[FQ]at h2⊢;rw[jF h1];exact h2
theorem Aj.app{L M:Lay}{w:World}{g:fZ}{cs:List Value}(k:Aj L w g cs):Aj (L++M) w g cs:=
 ⟨k.block,k.sz,k.all,λj v hj=>let⟨v',a,b⟩:=k.cell j v hj;⟨v',a,b.mono (FU _ _)⟩⟩
def mO(W:World)(L0 M:Lay):Prop:=∀(i:Nat) g cs,L0.length<=i->(L0++M)[i]? =some (some g,some cs)->Aj (L0++M) W g cs
theorem mO.nil{W:World}{L0:Lay}:mO W L0 []:=λi g cs hi h=>by
 rw[fU,jg hi]at h;cases h
theorem mO.app{W:World}{L0 M N:Lay}(h1:mO W L0 M)(h2:mO W (L0++M) N):mO W L0 (M++N):=λi g cs hi h=>by
 rw[<- ig]at h⊢;by_cases hm:(L0++M).length<=i
 ·exact h2 i g cs hm h
 ·rw[jF (by omega)]at h;exact(h1 i g cs hi h).app
section
variable {H:Type} {enc:TypeId×Value->H} {P:Program} {W:World} {K:TypeId->Prop}
def rC(P:Program)(W:World)(L0 M:Lay)(t:TypeId)(cs cs':List Value)(d:DataW H):Prop:=
 aH (iV (L0++M)) cs' cs/\cs'.all cellV=true/\gP P (jd (L0++M)) t cs' d
theorem rC.app{L0 M N:Lay}{t:TypeId}{cs cs':List Value}{d:DataW H}(k:rC P W L0 M t cs cs' d):rC P W L0 (M++N) t cs cs' d:=by
 obtain⟨h1,h2,h3⟩:=k;unfold rC;rw[<- ig];exact⟨h1.mono (FU _ _),h2,h3.mono λi cs hc=>K9 hc⟩
theorem La{n:Nat}(ih:∀t cs x,K t->DataW.trod enc P W 0 (λ_=>true) true n t cs=some x->∀L0:Lay,∃M cs',rC P W L0 M t cs cs' x.1/\mO W L0 M):
 ∀(ps:List (TypeId×List Value×(DataW H×List MemPlace))),(∀p∈ps,K p.1/\DataW.trod enc P W 0 (λ_=>true) true n p.1 p.2.1=some p.2.2)->∀L0:Lay,
  ∃(M:Lay) (css:List (List Value)),css.length=ps.length/\(∀(j:Nat) p cs',ps[j]? =some p->css[j]? =some cs'->rC P W L0 M p.1 p.2.1 cs' p.2.2.1)/\mO W L0 M
 |[],_,L0=>⟨[],[],rfl,(λj p cs' h=>by cases h),.nil⟩
 |p::ps,hp,L0=>by
  obtain⟨h1,h2⟩:=hp p (aR ..);obtain⟨M1,cs1,k1,k2⟩:=ih _ _ _ h1 h2 L0;obtain⟨M2,css,q1,q2,q3⟩:=La ih ps (λq hq=>hp q (dw _ hq)) (L0++M1);refine⟨M1++M2,cs1::css,by simp[q1],λj p' cs' hj hc=>?_,k2.app q3⟩;cases j with
  |zero=>
   simp only[zq,az]at hj hc;subst hj hc;exact k1.app
  |succ j=>
   simp only[pY]at hj hc;have:=q2 j p' cs' hj hc;unfold rC at this⊢;rw[<- ig];exact this
theorem all_flatten:∀{css:List (List Value)},(∀cs∈css,cs.all cellV=true)->css.flatten.all cellV=true
 |[],_=>rfl
 |cs::css,h=>by
  simp only[uj,List.all_append,fD];exact⟨h cs (aR ..),all_flatten λc hc=>h c (dw _ hc)⟩
theorem QI{L0 M:Lay}{cs:List Value}{ss:List Nat}{ps:List (TypeId×List Value×(DataW H×List MemPlace))}{css:List (List Value)}(hlen:cs.length=ss.sum)(hps:ps.map (·.2.1)=cuts ss cs)
 (hcl:css.length=ps.length) (hk:∀(j:Nat) p cs',ps[j]? =some p->css[j]? =some cs'->rC P W L0 M p.1 p.2.1 cs' p.2.2.1) (hsz:(cuts ss cs).map List.length=ss):
 aH (iV (L0++M)) css.flatten cs/\css.flatten.all cellV=true/\cuts ss css.flatten=css:=by
 have hv:∀(j:Nat) a b,css[j]? =some a->(cuts ss cs)[j]? =some b->aH (iV (L0++M)) a b:=λj a b ha hb=>by
  rw[<- hps,bU]at hb;cases e:ps[j]? with
  |none=>rw[e]at hb;cases hb
  |some p=>rw[e]at hb;cases hb;exact(hk j p a e ha).1
 have hl2:css.length=(cuts ss cs).length:=by rw[hcl,<- hps,bI]
 refine⟨?_,?_,?_⟩
 ·have:=aH.flatten hl2 hv;rw[QH ss cs hlen]at this;exact this
 ·refine all_flatten λc hc=>?_;obtain⟨j,hj⟩:=qI hc;have hjl:j<ps.length:=by rw[<- hcl];exact(dU.1 hj).1
  exact(hk j ps[j] c (bB hjl) hj).2.1
 ·apply K8;rw[<- hsz];apply kz;intro j;rw[bU,bU];cases e1:css[j]? with
  |none=>
   rw[jg (by rw[<- hl2];exact WK.1 e1)]
  |some a=>
   have hj:j<(cuts ss cs).length:=by rw[<- hl2];exact(dU.1 e1).1
   rw[bB hj];have:=(hv j a _ e1 (bB hj)).length;simp only[jh];rw[this]
theorem Db:∀(ss:List Nat) (cs:List Value),cs.length=ss.sum->(cuts ss cs).map List.length=ss
 |[],_,_=>rfl
 |s::ss,cs,h=>by
  simp only[List.sum_cons]at h;simp only[cuts,lK];rw[Db ss (cs.drop s) (by rw[iZ];omega)];congr 1;rw[cB];omega
theorem Lb{a:Addr}{base n:Nat}{cs:List Value}(h:W.cells? base a n=some cs):cs.length=n/\∀(j:Nat) v,cs[j]? =some v->W.cell? (a.add j)=some v:=by
 obtain⟨_,h2,h3⟩:=World.cells?_some h;refine⟨h2,λj v hj=>?_⟩;have hjn:j<n:=by rw[<- h2];exact(dU.1 hj).1
 rw[<- hj];exact(h3 j hjn)
theorem aaq{n:Nat}(ih:∀t cs x,K t->DataW.trod enc P W 0 (λ_=>true) true n t cs=some x->∀L0:Lay,∃M cs',rC P W L0 M t cs cs' x.1/\mO W L0 M)
 {t:TypeId} {fs:Array Field} {cs:List Value} {xs:List (DataW H×List MemPlace)} (ht:P.underlying t=some (.struct fs)) (hf:∀f∈fs.toList,K f.type)
 (ho:fs.toList.map (·.offset)=sums 0 (fs.toList.map λf=>P.cellsOf f.type)) (hs:P.cellsOf t=(fs.toList.map λf=>P.cellsOf f.type).sum)
 (hlen:cs.length=P.cellsOf t) (hxl:xs.length=fs.size)
 (hx:∀(i:Nat) (f:Field),fs[i]? =some f->DataW.trod enc P W 0 (λ_=>true) true n f.type ((cs.drop f.offset).take (P.cellsOf f.type))=xs[i]?) (L0:Lay):
 ∃M cs',rC P W L0 M t cs cs' (.agg (xs.map (·.1)))/\mO W L0 M:=by
 let ss:=fs.toList.map λf=>P.cellsOf f.type
 let ps:List (TypeId×List Value×(DataW H×List MemPlace)):=(fs.toList.zip xs).map λq=>(q.1.type,(cs.drop q.1.offset).take (P.cellsOf q.1.type),q.2)
 have hps:∀(j:Nat) p,ps[j]? =some p->∃f x,fs[j]? =some f/\xs[j]? =some x/\p=(f.type,(cs.drop f.offset).take (P.cellsOf f.type),x):=λj p hj=>by
  simp only[ps,bU,OC,lQ]at hj;obtain⟨⟨f,x⟩,⟨h1,h2⟩,rfl⟩:=hj;exact⟨f,x,by rw[<- uT];exact h1,h2,rfl⟩
 have hoff:∀(j:Nat) f,fs[j]? =some f->(sums 0 ss)[j]? =some f.offset/\ss[j]? =some (P.cellsOf f.type):=λj f hj=>by
  have hj':fs.toList[j]? =some f:=by rw[uT];exact hj
  refine⟨?_,?_⟩
  ·show(sums 0 (fs.toList.map λf=>P.cellsOf f.type))[j]? =_;rw[<- ho,bU,hj'];rfl
  ·show(fs.toList.map λf=>P.cellsOf f.type)[j]? =_;rw[bU,hj'];rfl
 have hsum:cs.length=ss.sum:=hlen.trans hs;have hpl:ps.length=fs.size:=by
  simp only[ps,bI,List.length_zip,hxl,Array.length_toList,Nat.min_self]
 have hcut:ps.map (·.2.1)=cuts ss cs:=by
  apply kz;intro j;rw[bU];have hcl:(cuts ss cs).length=fs.size:=by
   have:=congrArg List.length (Db ss cs hsum);rw[bI]at this;rw[this];simp[ss]
  cases e:ps[j]? with
  |none=>
   have:=WK.1 e;rw[jg (by omega)];rfl
  |some p=>
   obtain⟨f,x,h1,h2,rfl⟩:=hps j p e;obtain⟨q1,q2⟩:=hoff j f h1;rw[(xg ss cs 0 j f.offset _ q1 q2).1];rfl
 obtain⟨M,css,k1,k2,k3⟩:=La ih ps (λp hp=>by
  obtain⟨j,hj⟩:=qI hp;obtain⟨f,x,h1,h2,rfl⟩:=hps j p hj;have hm:f∈fs.toList:=dA (by rw[uT];exact h1:fs.toList[j]? =some f);exact⟨hf f hm,by rw[hx j f h1,h2]⟩) L0
 obtain⟨v1,v2,v3⟩:=QI hsum hcut k1 k2 (Db ss cs hsum);refine⟨M,css.flatten,⟨v1,v2,?_⟩,k3⟩;refine .struct ht (by rw[<- v1.length,hlen]) (by rw[bI,hxl]) ?_;intro j f d hj hd;rw[bU]at hd;cases ex:xs[j]? with
 |none=>rw[ex]at hd;cases hd
 |some x=>
  rw[ex]at hd;cases hd;obtain⟨q1,q2⟩:=hoff j f hj;have hg:=(xg ss css.flatten 0 j f.offset _ q1 q2).1;rw[v3,qb]at hg;have eF:ps[j]? =some (f.type,(cs.drop f.offset).take (P.cellsOf f.type),x):=by
   have hj':fs.toList[j]? =some f:=by rw[uT];exact hj
   simp only[ps,bU,OC,lQ];exact⟨(f,x),⟨hj',ex⟩,rfl⟩
  exact(k2 j _ _ eF hg).2.2
theorem FV(s:Nat):∀(n o0 j:Nat),j<n->(sums o0 (List.replicate n s))[j]? =some (o0+j*s)/\(List.replicate n s)[j]? =some s
 |0,o0,j,h=>by omega
 |n+1,o0,0,h=>by simp[BK,sums]
 |n+1,o0,j+1,h=>by
  obtain⟨h1,h2⟩:=FV s n (o0+s) j (by omega);simp only[BK,sums,pY];refine⟨?_,h2⟩;rw[h1,Nat.succ_mul];congr 1;omega
theorem QJ{n:Nat}(ih:∀t cs x,K t->DataW.trod enc P W 0 (λ_=>true) true n t cs=some x->∀L0:Lay,∃M cs',rC P W L0 M t cs cs' x.1/\mO W L0 M)
 {e:TypeId} {m:Nat} {cs:List Value} {xs:List (DataW H×List MemPlace)} (he:K e) (hlen:cs.length=m*P.cellsOf e) (hxl:xs.length=m)
 (hx:∀(i:Nat),i<m->DataW.trod enc P W 0 (λ_=>true) true n e ((cs.drop (i*P.cellsOf e)).take (P.cellsOf e))=xs[i]?) (L0:Lay):
 ∃(M:Lay) (cs':List Value),aH (iV (L0++M)) cs' cs/\cs'.all cellV=true/\(∀(j:Nat) d,(xs.map (·.1))[j]? =some d->gP P (jd (L0++M)) e ((cs'.drop (j*P.cellsOf e)).take (P.cellsOf e)) d)/\mO W L0 M:=by
 let ss:=List.replicate m (P.cellsOf e)
 let ps:List (TypeId×List Value×(DataW H×List MemPlace)):=(List.range m).zip xs|>.map λq=>(e,(cs.drop (q.1*P.cellsOf e)).take (P.cellsOf e),q.2)
 have hps:∀(j:Nat) p,ps[j]? =some p->∃x,j<m/\xs[j]? =some x/\p=(e,(cs.drop (j*P.cellsOf e)).take (P.cellsOf e),x):=λj p hj=>by
  simp only[ps,bU,OC,lQ]at hj;obtain⟨⟨i,x⟩,⟨h1,h2⟩,rfl⟩:=hj;have hjm:j<m:=by rw[<- hxl];exact(dU.1 h2).1
  rw[BF hjm]at h1;cases h1;exact⟨x,hjm,h2,rfl⟩
 have hsum:cs.length=ss.sum:=by rw[hlen];simp[ss,List.sum_replicate_nat]
 have hcut:ps.map (·.2.1)=cuts ss cs:=by
  apply kz;intro j;rw[bU];have hcl:(cuts ss cs).length=m:=by
   have:=congrArg List.length (Db ss cs hsum);rw[bI]at this;rw[this];simp[ss]
  cases ep:ps[j]? with
  |none=>
   have h1:=WK.1 ep;have h2:ps.length=m:=by simp only[ps,bI,List.length_zip,hxl,OD,Nat.min_self]
   rw[jg (by omega)];rfl
  |some p=>
   obtain⟨x,h1,h2,rfl⟩:=hps j p ep;obtain⟨q1,q2⟩:=FV (P.cellsOf e) m 0 j h1;rw[(xg ss cs 0 j _ _ q1 q2).1];simp
 obtain⟨M,css,k1,k2,k3⟩:=La ih ps (λp hp=>by
  obtain⟨j,hj⟩:=qI hp;obtain⟨x,h1,h2,rfl⟩:=hps j p hj;exact⟨he,by rw[hx j h1,h2]⟩) L0
 obtain⟨v1,v2,v3⟩:=QI hsum hcut k1 k2 (Db ss cs hsum);refine⟨M,css.flatten,v1,v2,?_,k3⟩;intro j d hd;rw[bU]at hd;cases ex:xs[j]? with
 |none=>rw[ex]at hd;cases hd
 |some x=>
  rw[ex]at hd;cases hd;have hjm:j<m:=by rw[<- hxl];exact(dU.1 ex).1
  obtain⟨q1,q2⟩:=FV (P.cellsOf e) m 0 j hjm;have hg:=(xg ss css.flatten 0 j _ _ q1 q2).1;rw[v3,bG,qb]at hg;have eF:ps[j]? =some (e,(cs.drop (j*P.cellsOf e)).take (P.cellsOf e),x):=by
   simp only[ps,bU,OC,lQ];exact⟨(j,x),⟨BF hjm,ex⟩,rfl⟩
  exact(k2 j _ _ eF hg).2.2
theorem QK{a:Addr}(hs:a.spot=none)(j:Nat):a.add j=⟨a.block,a.off+j,none⟩:=by
 obtain⟨ab,ao,sp⟩:=a;simp only at hs;subst hs;by_cases h:j=0
 ·subst h;simp[Addr.add]
 ·simp[Addr.add,h]
theorem cell_spot{a:Addr}{v:Value}(h:W.cell? a=some v):a.spot=none/\∃c t fz,W.heap[a.block]? =some (.cells c t fz):=by
 unfold World.cell? at h;split at h
 ·rename_i c t fz hb;split at h
  ·cases h
  ·rename_i hsp;refine⟨?_,c,t,fz,hb⟩;cases e:a.spot with
   |none=>rfl
   |some x=>rw[e]at hsp;exact absurd rfl hsp
 ·cases h
theorem aar{a:Addr}{s m:Nat}(hs:0<s)(h:∀i,i<m->∃c,W.cells? 0 (a.add (i*s)) s=some c):
 ∃cs:List Value,cs.length=m*s/\(∀i,i<m->W.cells? 0 (a.add (i*s)) s=some ((cs.drop (i*s)).take s)):=by
 let css:=(List.range m).map λi=>(W.cells? 0 (a.add (i*s)) s).getD []
 have hget:∀i,i<m->∃c,W.cells? 0 (a.add (i*s)) s=some c/\css[i]? =some c/\c.length=s:=λi hi=>by
  obtain⟨c,hc⟩:=h i hi;refine⟨c,hc,?_,(Lb hc).1⟩;simp only[css,bU,BF hi,jh,hc,Jo]
 have hcl:css.length=m:=by simp[css]
 have hlen:css.map List.length=List.replicate m s:=by
  apply kz;intro j;by_cases hj:j<m
  ·obtain⟨c,_,h2,h3⟩:=hget j hj;rw[bU,h2,List.getElem?_replicate,if_pos hj];simp[h3]
  ·rw[jg (by rw[bI];omega),jg (by simp;omega)]
 refine⟨css.flatten,?_,λi hi=>?_⟩
 ·rw[List.length_flatten,hlen,List.sum_replicate_nat]
 ·obtain⟨c,h1,h2,_⟩:=hget i hi;obtain⟨q1,q2⟩:=FV s m 0 i hi;have:=(xg _ css.flatten 0 i _ _ q1 q2).1;rw[K8 _ css hlen,h2,bG,qb]at this;rw[h1,Option.some.inj this]
theorem QL(hK:∀t,K t->PlainT P K t):∀(n:Nat) (t:TypeId) (cs:List Value) (x:DataW H×List MemPlace),K t->DataW.trod enc P W 0 (λ_=>true) true n t cs=some x->
 ∀L0:Lay,∃M cs',rC P W L0 M t cs cs' x.1/\mO W L0 M
 |0,t,cs,x,_,h,_=>by simp[DataW.trod]at h
 |n+1,t,cs,x,hT,h,L0=>by
  have ih:=QL hK n;cases hK t hT with
  |bool ht=>
   obtain⟨b,rfl,rfl⟩:=DataW.trod_bool ht h;exact⟨[],[.bool b],⟨.cons (.bool b) .nil,rfl,.bool ht⟩,.nil⟩
  |int k ht=>
   obtain⟨m,rfl,rfl,hw⟩:=DataW.trod_int ht h;exact⟨[],[.int k m],⟨.cons (.int k m) .nil,rfl,.int ht hw⟩,.nil⟩
  |string ht=>
   obtain⟨s,rfl,rfl,hs⟩:=DataW.trod_string ht h;exact⟨[],[.string s],⟨.cons (.string s) .nil,rfl,.string ht hs⟩,.nil⟩
  |struct fs ht hf ho hs=>
   obtain⟨xs,m,hm,rfl,hl,hxl,hx⟩:=DataW.trod_struct ht h;cases hm;exact aaq ih ht hf ho hs hl hxl hx L0
  |array m e ht he hs=>
   obtain⟨xs,k,hk,rfl,hl,hxl,hx⟩:=Go.DataW.trod_array ht h;cases hk;obtain⟨M,cs',v1,v2,v3,v4⟩:=QJ ih he (hl.trans hs) hxl hx L0;exact⟨M,cs',⟨v1,v2,.array ht (by rw[<- v1.length,hl]) (by rw[bI,hxl]) v3⟩,v4⟩
  |slice e ht he hs=>
   rcases DataW.trod_slice ht h with⟨rfl,rfl⟩|⟨a,len,cap,elems,rest,k,hk,rfl,rfl,_,hlc,hcm,hel,hes,hsp,_⟩
   ·exact⟨[],[.slice none 0 0],⟨.cons (.sl0 0 0) .nil,rfl,.nil ht⟩,.nil⟩
   cases hk;obtain⟨hrl,hrs⟩:=hsp rfl;have hcells:∀i,i<len->∃c y,W.cells? 0 (a.add (i*P.cellsOf e)) (P.cellsOf e)=some c/\elems[i]? =some y/\DataW.trod enc P W 0 (λ_=>true) true n e c=some y:=λi hi=>by
    have h1:=hes i hi;have hi':i<elems.length:=by omega
    rw[bB hi',Option.bind_eq_some_iff]at h1;obtain⟨c,h2,h3⟩:=h1;exact⟨c,_,h2,bB hi',h3⟩
   obtain⟨wcs,hwl,hwc⟩:=aar (W:=W) (a:=a) (m:=len) hs (λi hi=>let⟨c,_,h1,_⟩:=hcells i hi;⟨c,h1⟩);obtain⟨M,cs',v1,v2,v3,v4⟩:=QJ ih (cs:=wcs) (xs:=elems) he hwl hel (λi hi=>by
    obtain⟨c,y,h1,h2,h3⟩:=hcells i hi;rw[hwc i hi]at h1;rw[Option.some.inj h1,h3,h2]) L0
   have QM:0<cap->∃v,W.cell? a=some v:=λhc=>by
    have key:∀c,W.cells? 0 (a.add (0*P.cellsOf e)) (P.cellsOf e)=some c->∃v,W.cell? a=some v:=λc h1=>by
     rw[oQ]at h1;have h0:a.add 0=a:=by simp[Addr.add]
     rw[h0]at h1;obtain⟨q1,q2⟩:=Lb h1;have hc0:0<c.length:=by omega
     have:=q2 0 c[0] (bB hc0);rw[h0]at this;exact⟨_,this⟩
    by_cases hl0:0<len
    ·obtain⟨c,_,h1,_⟩:=hcells 0 hl0;exact key c h1
    ·have h1:=hrs 0 (by omega);have hr0:0<rest.length:=by omega
     rw[bB hr0,Option.bind_eq_some_iff]at h1;obtain⟨c,h2,_⟩:=h1;have hz:len+0=0:=by omega
     rw[hz]at h2;exact key c h2
   let g:fZ:=⟨a.block,a.off,len*P.cellsOf e,0,0⟩
   let en:Option fZ×Option (List Value):=(some g,if len=0 then none else some cs')
   have hidx:(L0++(M++[en]))[(L0++M).length]? =some en:=by
    rw[<- ig,lM (aG _)];simp
   have mK:VR (iV (L0++(M++[en]))) (.slice (some ⟨(L0++M).length,0,some 0⟩) len cap) (.slice (some a) len cap):=by
    refine .bN (g:=g) ?_ rfl hlc ?_
    ·unfold iV;rw[hidx];rfl
    ·by_cases hc:cap=0
     ·exact .inl hc
     ·obtain⟨v,hv⟩:=QM (by omega);exact .inr ⟨rfl,(cell_spot hv).1⟩
   refine⟨M++[en],[.slice (some ⟨(L0++M).length,0,some 0⟩) len cap],⟨.cons mK .nil,rfl,?_⟩,?_⟩
   ·refine .slice ht ⟨hlc,hcm⟩ (by rw[bI,hel]) (cells:=cs') ?_ ?_
    ·by_cases hl0:len=0
     ·exact .inl hl0
     ·right;refine aal (g:=some g) ?_;rw[hidx];simp only[en,if_neg hl0]
    ·intro j d hj;have:=v3 j d hj;rw[<- ig];exact this.mono λi cs hc=>K9 hc
   ·refine v4.app ?_;intro i g' c hi hget;have hi2:i=(L0++M).length:=by
     have:=(dU.1 hget).1;rw[dN]at this;simp at this hi⊢;omega
    subst hi2;rw[ig,hidx]at hget;simp only[en,az,bK]at hget;obtain⟨rfl,hc⟩:=hget;split at hc
    ·cases hc
    ·rename_i hl0;cases hc;obtain⟨v0,hv0⟩:=QM (by omega);obtain⟨hspot,hblk⟩:=cell_spot hv0;refine⟨let⟨c,t,fz,e⟩:=hblk;⟨c,t,fz,e,.inl rfl⟩,rfl,v2,λj v hj=>?_⟩;obtain⟨v',hj',hv⟩:=v1.get hj;refine⟨v',?_,hv.mono (FU _ _)⟩;show W.cell? ⟨a.block,a.off+j,none⟩=some v';have hjl:j<len*P.cellsOf e:=by rw[<- hwl];exact(dU.1 hj').1
     have hq:j/P.cellsOf e<len:=(OE hs).2 hjl;have hm:=uU j hs;have xh:=Nat.div_add_mod j (P.cellsOf e);have hcell:=(Lb (hwc _ hq)).2 (j%P.cellsOf e) v' (by
      rw[qN,if_pos hm,jf,<- hj'];congr 1;rw[zo];exact xh)
     rw[QK hspot]at hcell;rw[QK rfl]at hcell;simp only at hcell;rw[<- hcell];congr 2;rw[kX,zo,xh]
end
end Go.Ideal
namespace Go.Ideal
open Go.ChangeShapes Go.WideShapes Go.ChangeAt Go.RowKit
def QN(P:Program)(ts:List TypeId):Bool:=ts.all λt=>match P.underlying t with
 |some .bool=>true
 |some (.int _)=>true
 |some .string=>true
 |some (.slice e)=>ts.contains e&&Nat.blt 0 (P.cellsOf e)
 |some (.struct fs)=>fs.toList.all (λf=>ts.contains f.type)&&(fs.toList.map (·.offset)==sums 0 (fs.toList.map λf=>P.cellsOf f.type))&&P.cellsOf t==(fs.toList.map λf=>P.cellsOf f.type).sum
 |some (.array n e)=>ts.contains e&&P.cellsOf t==n*P.cellsOf e
 |_=>false
theorem aat{P:Program}{ts:List TypeId}(h:QN P ts=true):∀t,t∈ts->PlainT P (·∈ts) t:=λt ht=>by
 unfold QN at h;rw[jE]at h;have h:=h t ht;split at h
 ·rename_i hu;exact .bool hu
 ·rename_i k hu;exact .int k hu
 ·rename_i hu;exact .string hu
 ·rename_i e hu;simp only[fD]at h;exact .slice e hu (EI.1 h.1) (Ac h.2)
 ·rename_i fs hu;simp only[fD,jE,beq_iff_eq]at h;exact .struct fs hu (λf hf=>EI.1 (h.1.1 f hf)) h.1.2 h.2
 ·rename_i n e hu;simp only[fD,beq_iff_eq]at h;exact .array n e hu (EI.1 h.1) h.2
 ·cases h
section
variable {H:Type} {enc:TypeId×Value->H} {P:Program} {W:World} {K:TypeId->Prop}
def xk(P:Program)(h:IH)(t:TypeId)(v:Value)(d:DataW H):Prop:=
 ∃cs,gP P h t cs d/\cs.all cellV=true/\(cs=[v]\/v=.agg ⟨cs⟩)
theorem xk.app{L M:Lay}{t:TypeId}{v:Value}{d:DataW H}(r:xk P (jd L) t v d):xk P (jd (L++M)) t v d:=by
 obtain⟨cs,h1,h2,h3⟩:=r;exact⟨cs,h1.mono λi cs hc=>K9 hc,h2,h3⟩
theorem aau(hK:∀t,K t->PlainT P K t){t:TypeId}{v:Value}{d:DataW H}{p:List MemPlace}(hT:K t)(hok:Value.okWide P W .any 0 t v)(h:DataW.Trod enc P W 0 (λ_=>true) true t v d p)(L0:Lay):
 ∃M v',VR (iV (L0++M)) v' v/\xk P (jd (L0++M)) t v' d/\mO W L0 M:=by
 obtain⟨n,hn⟩:=h;obtain⟨M,cs',⟨h1,h2,h3⟩,h4⟩:=QL hK n t _ _ hT hn L0;have agg:∀cs,v=.agg cs->∃M v',VR (iV (L0++M)) v' v/\xk P (jd (L0++M)) t v' d/\mO W L0 M:=λcs e=>by
  subst e;obtain⟨l⟩:=cs;exact⟨M,.agg ⟨cs'⟩,.agg h2 h1,⟨cs',h3,h2,.inr rfl⟩,h4⟩
 have one:v.cells= #[v]->∃M v',VR (iV (L0++M)) v' v/\xk P (jd (L0++M)) t v' d/\mO W L0 M:=λe=>by
  rw[e]at h1;match cs',h1,h2,h3 with
  |[v'],.cons h1 .nil,h2,h3=>exact⟨M,v',h1,⟨[v'],h3,h2,.inl rfl⟩,h4⟩
 cases hv:v with
 |agg cs=>rw[<- hv];exact agg cs hv
 |_=>rw[<- hv];exact one (by rw[hv];rfl)
theorem QO(hK:∀t,K t->PlainT P K t):∀{ts:List TypeId} {vs:List Value} {ds:List (DataW H)} {ps:List MemPlace},(∀t∈ts,K t)->(∀(j:Nat) t v,ts[j]? =some t->vs[j]? =some v->Value.okWide P W .any 0 t v)->
 DataW.TrodAll enc P W 0 (λ_=>true) true ts vs ds ps->∀L0:Lay,∃(M:Lay) (vs':List Value),aH (iV (L0++M)) vs' vs/\
  (∀(j:Nat) t v d,ts[j]? =some t->vs'[j]? =some v->ds[j]? =some d->xk P (jd (L0++M)) t v d)/\mO W L0 M
 |[],[],[],_,_,_,_,L0=>⟨[],[],.nil,(λj t v d h=>by cases h),.nil⟩
 |t::ts,v::vs,d::ds,_,hT,hok,⟨p,q,h1,h2,_⟩,L0=>by
  obtain⟨M1,v',a1,a2,a3⟩:=aau hK (hT t (aR ..)) (hok 0 t v rfl rfl) h1 L0;obtain⟨M2,vs',b1,b2,b3⟩:=QO hK (λt ht=>hT t (dw _ ht)) (λj t v hj hv=>hok (j+1) t v hj hv) h2 (L0++M1);rw[ig]at b1 b2;refine⟨M1++M2,v'::vs',.cons ?_ b1,?_,a3.app b3⟩
  ·rw[<- ig];exact a1.mono (FU _ _)
  ·intro j t' w d' hj hw hd;cases j with
   |zero=>
    simp only[zq,az]at hj hw hd;subst hj hw hd;rw[<- ig];exact a2.app
   |succ j=>exact b2 j t' w d' hj hw hd
end
end Go.Ideal
namespace Go.Ideal
section
variable {H:Type} {P:Program} {h:IH} {t e:TypeId} {cs:List Value} {d:DataW H}
theorem gP.kJ{k:IntKind}(ht:P.underlying t=some (.int k))(r:gP P h t cs d):∃n,cs=[.int k n]/\d=.lit (.int k n)/\(Lit.int k n).wf=true:=by
 cases r with
 |int ht' hw=>rw[ht]at ht';cases ht';exact⟨_,rfl,rfl,hw⟩
 |bool ht'=>rw[ht]at ht';cases ht'
 |string ht'=>rw[ht]at ht';cases ht'
 |nil ht'=>rw[ht]at ht';cases ht'
 |slice ht'=>rw[ht]at ht';cases ht'
 |struct ht'=>rw[ht]at ht';cases ht'
 |array ht'=>rw[ht]at ht';cases ht'
theorem gP.Cm(ht:P.underlying t=some .bool)(r:gP P h t cs d):∃b,cs=[.bool b]/\d=.lit (.bool b):=by
 cases r with
 |bool ht'=>exact⟨_,rfl,rfl⟩
 |int ht' hw=>rw[ht]at ht';cases ht'
 |string ht'=>rw[ht]at ht';cases ht'
 |nil ht'=>rw[ht]at ht';cases ht'
 |slice ht'=>rw[ht]at ht';cases ht'
 |struct ht'=>rw[ht]at ht';cases ht'
 |array ht'=>rw[ht]at ht';cases ht'
theorem gP.wR(ht:P.underlying t=some .string)(r:gP P h t cs d):∃s:ByteArray,cs=[.string s]/\d=.lit (.string s.data.toList)/\s.size<=maxLen:=by
 cases r with
 |string ht' hs=>exact⟨_,rfl,rfl,hs⟩
 |bool ht'=>rw[ht]at ht';cases ht'
 |int ht' hw=>rw[ht]at ht';cases ht'
 |nil ht'=>rw[ht]at ht';cases ht'
 |slice ht'=>rw[ht]at ht';cases ht'
 |struct ht'=>rw[ht]at ht';cases ht'
 |array ht'=>rw[ht]at ht';cases ht'
theorem gP.lV(ht:P.underlying t=some (.slice e))(r:gP P h t cs d):
 (cs=[.slice none 0 0]/\d=.nil)\/∃i n c cells els rest,cs=[.slice (some ⟨i,0,some 0⟩) n c]/\d=.slice els rest/\(n<=c/\c<=maxLen)/\els.length=n/\(n=0\/Cells h i cells)/\
   ∀(k:Nat) d,els[k]? =some d->gP P h e ((cells.drop (k*P.cellsOf e)).take (P.cellsOf e)) d:=by
 cases r with
 |nil ht'=>exact .inl ⟨rfl,rfl⟩
 |slice ht' hn hl hc hel=>rw[ht]at ht';cases ht';exact .inr ⟨_,_,_,_,_,_,rfl,rfl,hn,hl,hc,hel⟩
 |string ht'=>rw[ht]at ht';cases ht'
 |bool ht'=>rw[ht]at ht';cases ht'
 |int ht' hw=>rw[ht]at ht';cases ht'
 |struct ht'=>rw[ht]at ht';cases ht'
 |array ht'=>rw[ht]at ht';cases ht'
theorem gP.aav{fs:Array Field}(ht:P.underlying t=some (.struct fs))(r:gP P h t cs d):
 ∃ds,d=.agg ds/\cs.length=P.cellsOf t/\ds.length=fs.size/\∀(j:Nat) f d,fs[j]? =some f->ds[j]? =some d->gP P h f.type ((cs.drop f.offset).take (P.cellsOf f.type)) d:=by
 cases r with
 |struct ht' hl hd hf=>rw[ht]at ht';cases ht';exact⟨_,rfl,hl,hd,hf⟩
 |array ht'=>rw[ht]at ht';cases ht'
 |nil ht'=>rw[ht]at ht';cases ht'
 |slice ht'=>rw[ht]at ht';cases ht'
 |string ht'=>rw[ht]at ht';cases ht'
 |bool ht'=>rw[ht]at ht';cases ht'
 |int ht' hw=>rw[ht]at ht';cases ht'
def Lc:DataW H->Int
 | .lit (.int _ n)=>n
 |_=>0
theorem gP.ints{v:Value}(ht:P.underlying t=some (.slice e))(he:P.underlying e=some (.int .i64))(hc:P.cellsOf e=1)(r:gP P h t [v] d):∃xs,C8 h v xs/\∀x∈xs, -9223372036854775808<=x/\x<9223372036854775808:=by
 rcases r.lV ht with⟨e1,_⟩|⟨i,n,c,cells,els,rest,e1,_,hn,hl,hcl,hel⟩
 ·injection e1 with e1;exact⟨[],.inl ⟨rfl,none,0,0,e1,rfl⟩,by simp⟩
 ·injection e1 with e1;subst e1;have each:∀(k:Nat) d,els[k]? =some d->cells[k]? =some (.int .i64 (Lc d))/\(Lit.int .i64 (Lc d)).wf=true:=λk d hk=>by
   have:=hel k d hk;rw[hc,fV]at this;obtain⟨m,h1,h2,h3⟩:=this.kJ he;subst h2;refine⟨?_,h3⟩;have h4:((cells.drop k).take 1)[0]? =some (.int .i64 m):=by rw[h1];rfl
   rw[qN,if_pos (by omega),jf]at h4;exact h4
  refine⟨els.map Lc,?_,?_⟩
  ·rcases hcl with h0|hcl
   ·left;refine⟨?_,_,_,_,rfl,h0⟩;have:els=[]:=qM.1 (by omega);rw[this];rfl
   ·right;refine⟨i,0,0,c,cells,by rw[bI,hl],hcl,λk x hk=>?_⟩;rw[bU]at hk;cases ek:els[k]? with
    |none=>rw[ek]at hk;cases hk
    |some d=>
     rw[ek]at hk;cases hk;rw[bG];exact(each k d ek).1
  ·intro x hx;obtain⟨d,hd,rfl⟩:=gD.1 hx;obtain⟨k,hk⟩:=qI hd;have:=(each k d hk).2;simp only[Lit.wf,IntKind.min,IntKind.max,IntKind.signed,IntKind.bits,fD,wC]at this;simp at this;omega
end
end Go.Ideal
namespace Canon
structure Ld{α:Type}(c:α->α->Int):Prop where
 zero:∀a b,c a b=0↔a=b
 neg:∀a b,c a b<0↔0<c b a
 trans:∀a b d,c a b<0->c b d<0->c a d<0
def jS(a b:Int):Int:=if a<b then -1 else if b<a then 1 else 0
theorem aaw:Ld jS where
 zero a b:=by unfold jS;split<;>(try split)<;>omega
 neg a b:=by unfold jS;split<;>(try split)<;>(try split)<;>(try split)<;>omega
 trans a b d h1 h2:=by
  unfold jS at h1 h2⊢;split at h1<;>(try split at h1)<;>split at h2<;>(try split at h2)<;>first|omega|(rw[if_pos (by omega)];omega)
def iD{α:Type}(c:α->α->Int):List α->List α->Int
 |[],[]=>0
 |[],_::_=> -1
 |_::_,[]=>1
 |a::l,b::m=>if c a b≠0 then c a b else iD c l m
theorem aax{α:Type}{c:α->α->Int}(h:Ld c):Ld (iD c) where
 zero:=by
  intro a;induction a with
  |nil=>intro b;cases b<;>simp[iD]
  |cons x l ih=>
   intro b;cases b with
   |nil=>simp[iD]
   |cons y m=>
    simp only[iD];by_cases e:c x y=0
    ·rw[if_neg (by simpa using e),ih m];have:=(h.zero x y).1 e;subst this;simp
    ·rw[if_pos e];constructor
     ·intro q;exact absurd q e
     ·intro q;injection q with q1 q2;exact absurd ((h.zero x y).2 q1) e
 neg:=by
  intro a;induction a with
  |nil=>intro b;cases b<;>simp[iD]
  |cons x l ih=>
   intro b;cases b with
   |nil=>simp[iD]
   |cons y m=>
    simp only[iD];by_cases e:c x y=0
    ·have e2:=(h.zero x y).1 e;subst e2;rw[if_neg (by simpa using e),if_neg (by simpa using e)];exact ih m
    ·have e2:c y x≠0:=λq=>e ((h.zero x y).2 ((h.zero y x).1 q).symm);rw[if_pos e,if_pos e2];exact h.neg x y
 trans:=by
  intro a;induction a with
  |nil=>
   intro b d h1 h2;cases b with
   |nil=>simp[iD]at h1
   |cons y m=>cases d with
    |nil=>simp[iD]at h2
    |cons z n=>simp[iD]
  |cons x l ih=>
   intro b d h1 h2;cases b with
   |nil=>simp[iD]at h1
   |cons y m=>cases d with
    |nil=>simp[iD]at h2
    |cons z n=>
     simp only[iD]at h1 h2⊢;by_cases e1:c x y=0
     ·have:=(h.zero x y).1 e1;subst this;rw[if_neg (by simpa using e1)]at h1;by_cases e2:c x z=0
      ·rw[if_neg (by simpa using e2)]at h2⊢;exact ih m n h1 h2
      ·rw[if_pos e2]at h2⊢;exact h2
     ·rw[if_pos e1]at h1;by_cases e2:c y z=0
      ·have:=(h.zero y z).1 e2;subst this;rw[if_pos e1];exact h1
      ·rw[if_pos e2]at h2;have:=h.trans x y z h1 h2;rw[if_pos (by omega)];exact this
structure Clue where
 Lf:Int
 at_:Int
 values:List Int
instance:DecidableEq Clue:=λa b=>decidable_of_iff (a.Lf=b.Lf/\a.at_=b.at_/\a.values=b.values) (by cases a;cases b;simp)
end Canon
namespace Go.Ideal
open Canon (Clue)
def FW(h:IH)(v:Value)(l:List Clue):Prop:=
 (l=[]/\∃a m c,v=.slice a m c/\m=0)\/
 ∃i o f c cells,v=.slice (some ⟨i,o,some f⟩) l.length c/\Cells h i cells/\∀(k:Nat) g,l[k]? =some g->
  ∃vv,cells[o+k*3]? =some (.int .i64 g.Lf)/\cells[o+k*3+1]? =some (.int .i64 g.at_)/\cells[o+k*3+2]? =some vv/\C8 h vv g.values
theorem FW.agree{h h':IH}{v:Value}{l:List Clue}(a:FW h v l)(g:Agree h h'):FW h' v l:=by
 rcases a with h1|⟨i,o,f,c,cs,h1,h2,h3⟩
 ·exact .inl h1
 ·refine .inr ⟨i,o,f,c,cs,h1,h2.agree g,λk x hk=>?_⟩;obtain⟨vv,q1,q2,q3,q4⟩:=h3 k x hk;exact⟨vv,q1,q2,q3,q4.agree g⟩
section
variable {H:Type} {P:Program} {h:IH} {t e u z:TypeId} {d:DataW H}
def Lg(h:IH)(v:Value)(l:List Clue):Prop:=∃w,v=.agg ⟨[w]⟩/\FW h w l
theorem Lg.agree{h h':IH}{v:Value}{l:List Clue}(a:Lg h v l)(g:Agree h h'):Lg h' v l:=by
 obtain⟨w,e,k⟩:=a;exact⟨w,e,k.agree g⟩
end

/-
  The ideal machine, 44: plain data, laid for the ideal machine.
-/
import Derived.Test.YtbdaaopebgcnaaaGreatDoorIdealHM
import Derived.OpenShut
set_option linter.all false
namespace Go.Ideal
open Go.ChangeShapes Go.WideShapes Go.ChangeAt Go.RowKit
def cuts{α:Type}:List Nat->List α->List (List α)
 |[],_=>[]
 |s::ss,l=>l.take s::cuts ss (l.drop s)
def sums:Nat->List Nat->List Nat
 |_,[]=>[]
 |o,s::ss=>o::sums (o+s) ss
theorem u6{α:Type}:∀(ss:List Nat) (l:List α) (o0 j:Nat) (o s:Nat),(sums o0 ss)[j]? =some o->ss[j]? =some s->(cuts ss l)[j]? =some ((l.drop (o - o0)).take s)/\o0<=o
 |[],l,o0,j,o,s,h,_=>by simp[sums]at h
 |s0::ss,l,o0,0,o,s,h,hs=>by
  simp[sums]at h hs;subst h hs;simp[cuts]
 |s0::ss,l,o0,j+1,o,s,h,hs=>by
  simp only[sums,nW]at h hs;obtain⟨h1,h2⟩:=u6 ss (l.drop s0) (o0+s0) j o s h hs;refine⟨?_,by omega⟩;simp only[cuts,nW];rw[h1,List.drop_drop];congr 3;omega
theorem NJ{α:Type}:∀(ss:List Nat) (l:List α),l.length=ss.sum->(cuts ss l).flatten=l
 |[],l,h=>by
  have:l=[]:=qc.1 (by simpa using h);subst this;rfl
 |s::ss,l,h=>by
  simp only[List.sum_cons]at h;simp only[cuts,rG];rw[NJ ss (l.drop s) (by rw[iY];omega),xU]
theorem IL{α:Type}:∀(ss:List Nat) (ps:List (List α)),ps.map List.length=ss->cuts ss ps.flatten=ps
 |[],[],_=>rfl
 |[],_::_,h=>by cases h
 |s::ss,[],h=>by cases h
 |s::ss,p::ps,h=>by
  simp only[lc,xS]at h;obtain⟨h1,h2⟩:=h;simp only[cuts,rG];rw[List.take_left' h1,List.drop_left' h1,IL ss ps h2]
theorem aD.flatten{β:ak}:∀{ps qs:List (List Value)},ps.length=qs.length->(∀(j:Nat) p q,ps[j]? =some p->qs[j]? =some q->aD β p q)->aD β ps.flatten qs.flatten
 |[],[],_,_=>.nil
 |[],_::_,h,_=>by cases h
 |_::_,[],h,_=>by cases h
 |p::ps,q::qs,h,hv=>by
  simp only[rG];exact(hv 0 p q rfl rfl).append (aD.flatten (by simpa using h) λj a b ha hb=>hv (j+1) a b ha hb)
inductive fQ(P:Program)(h:IH){H:Type}:TypeId->List Value->DataW H->Prop
 |bool {t:TypeId} {b:Bool} (ht:P.underlying t=some .bool):fQ P h t [.bool b] (.lit (.bool b))
 |int {t:TypeId} {k:IntKind} {n:Int} (ht:P.underlying t=some (.int k)) (hw:(Lit.int k n).wf=true):fQ P h t [.int k n] (.lit (.int k n))
 |string {t:TypeId} {s:ByteArray} (ht:P.underlying t=some .string) (hs:s.size<=maxLen):fQ P h t [.string s] (.lit (.string s.data.toList))
 |nil {t e:TypeId} (ht:P.underlying t=some (.slice e)):fQ P h t [.slice none 0 0] .nil
 |slice {t e:TypeId} {i n c:Nat} {cells:List Value} {els rest:List (DataW H)} (ht:P.underlying t=some (.slice e)) (hn:n<=c/\c<=maxLen) (hl:els.length=n) (hc:n=0\/Cells h i cells)
   (hel:∀(k:Nat) d,els[k]? =some d->fQ P h e ((cells.drop (k*P.cellsOf e)).take (P.cellsOf e)) d):fQ P h t [.slice (some ⟨i,0,some 0⟩) n c] (.slice els rest)
 |struct {t:TypeId} {fs:Array Field} {cs:List Value} {ds:List (DataW H)} (ht:P.underlying t=some (.struct fs)) (hl:cs.length=P.cellsOf t) (hd:ds.length=fs.size)
   (hf:∀(j:Nat) f d,fs[j]? =some f->ds[j]? =some d->fQ P h f.type ((cs.drop f.offset).take (P.cellsOf f.type)) d):fQ P h t cs (.agg ds)
 |array {t e:TypeId} {n:Nat} {cs:List Value} {ds:List (DataW H)} (ht:P.underlying t=some (.array n e)) (hl:cs.length=P.cellsOf t) (hd:ds.length=n)
   (hf:∀(j:Nat) d,ds[j]? =some d->fQ P h e ((cs.drop (j*P.cellsOf e)).take (P.cellsOf e)) d):fQ P h t cs (.agg ds)
theorem fQ.mono{P:Program}{h h':IH}{H:Type}(hh:∀i cs,Cells h i cs->Cells h' i cs){t:TypeId}{cs:List Value}{d:DataW H}(r:fQ P h t cs d):fQ P h' t cs d:=by
 induction r with
 |bool ht=>exact .bool ht
 |int ht hw=>exact .int ht hw
 |string ht hs=>exact .string ht hs
 |nil ht=>exact .nil ht
 |slice ht hn hl hc _ ih=>exact .slice ht hn hl (hc.imp id (hh _ _)) ih
 |struct ht hl hd _ ih=>exact .struct ht hl hd ih
 |array ht hl hd _ ih=>exact .array ht hl hd ih
end Go.Ideal
namespace Go.Ideal
open Go.ChangeShapes Go.WideShapes Go.ChangeAt Go.RowKit
inductive PlainT(P:Program)(K:TypeId->Prop)(t:TypeId):Prop
 |bool (ht:P.underlying t=some .bool)
 |int (k:IntKind) (ht:P.underlying t=some (.int k))
 |string (ht:P.underlying t=some .string)
 |slice (e:TypeId) (ht:P.underlying t=some (.slice e)) (he:K e) (hs:0<P.cellsOf e)
 |struct (fs:Array Field) (ht:P.underlying t=some (.struct fs)) (hf:∀f∈fs.toList,K f.type) (ho:fs.toList.map (·.offset)=sums 0 (fs.toList.map λf=>P.cellsOf f.type))
   (hs:P.cellsOf t=(fs.toList.map λf=>P.cellsOf f.type).sum)
 |array (n:Nat) (e:TypeId) (ht:P.underlying t=some (.array n e)) (he:K e) (hs:P.cellsOf t=n*P.cellsOf e)
theorem DC(L M:Lay):(ig L).le (ig (L++M)):=λi g h=>by
 unfold ig at h⊢;cases e:L[i]? with
 |none=>rw[e]at h;cases h
 |some p=>rw[iW (dU.1 e).1,e];rw[e]at h;exact h
theorem IM{L M:Lay}{i:Nat}{cs:List Value}(h:Cells (iH L) i cs):Cells (iH (L++M)) i cs:=by
 obtain⟨h1,h2⟩:=h;have h1:i<L.length:=h1;refine⟨by show i<(L++M).length;rw[dK];omega,?_⟩;rw[Dz]at h2⊢;rw[iW h1];exact h2
theorem yQ.app{L M:Lay}{w:World}{g:fD}{cs:List Value}(k:yQ L w g cs):yQ (L++M) w g cs:=
 ⟨k.block,k.sz,k.all,λj v hj=>let⟨v',a,b⟩:=k.cell j v hj;⟨v',a,b.mono (DC _ _)⟩⟩
def lI(W:World)(L0 M:Lay):Prop:=∀(i:Nat) g cs,L0.length<=i->(L0++M)[i]? =some (some g,some cs)->yQ (L0++M) W g cs
theorem lI.nil{W:World}{L0:Lay}:lI W L0 []:=λi g cs hi h=>by
 rw[fJ,iX hi]at h;cases h
theorem lI.app{W:World}{L0 M N:Lay}(h1:lI W L0 M)(h2:lI W (L0++M) N):lI W L0 (M++N):=λi g cs hi h=>by
 rw[<- gY]at h⊢;by_cases hm:(L0++M).length<=i
 ·exact h2 i g cs hm h
 ·rw[iW (by omega)]at h;exact(h1 i g cs hi h).app
section
variable {H:Type} {enc:TypeId×Value->H} {P:Program} {W:World} {K:TypeId->Prop}
def pK(P:Program)(W:World)(L0 M:Lay)(t:TypeId)(cs cs':List Value)(d:DataW H):Prop:=
 aD (ig (L0++M)) cs' cs/\cs'.all cellV=true/\fQ P (iH (L0++M)) t cs' d
theorem pK.app{L0 M N:Lay}{t:TypeId}{cs cs':List Value}{d:DataW H}(k:pK P W L0 M t cs cs' d):pK P W L0 (M++N) t cs cs' d:=by
 obtain⟨h1,h2,h3⟩:=k;unfold pK;rw[<- gY];exact⟨h1.mono (DC _ _),h2,h3.mono λi cs hc=>IM hc⟩
theorem IP{n:Nat}(ih:∀t cs x,K t->DataW.trod enc P W 0 (λ_=>true) true n t cs=some x->∀L0:Lay,∃M cs',pK P W L0 M t cs cs' x.1/\lI W L0 M):
 ∀(ps:List (TypeId×List Value×(DataW H×List MemPlace))),(∀p∈ps,K p.1/\DataW.trod enc P W 0 (λ_=>true) true n p.1 p.2.1=some p.2.2)->∀L0:Lay,
  ∃(M:Lay) (css:List (List Value)),css.length=ps.length/\(∀(j:Nat) p cs',ps[j]? =some p->css[j]? =some cs'->pK P W L0 M p.1 p.2.1 cs' p.2.2.1)/\lI W L0 M
 |[],_,L0=>⟨[],[],rfl,(λj p cs' h=>by cases h),.nil⟩
 |p::ps,hp,L0=>by
  obtain⟨h1,h2⟩:=hp p (aS ..);obtain⟨M1,cs1,k1,k2⟩:=ih _ _ _ h1 h2 L0;obtain⟨M2,css,q1,q2,q3⟩:=IP ih ps (λq hq=>hp q (bW _ hq)) (L0++M1);refine⟨M1++M2,cs1::css,by simp[q1],λj p' cs' hj hc=>?_,k2.app q3⟩;cases j with
  |zero=>
   simp only[xR,au]at hj hc;subst hj hc;exact k1.app
  |succ j=>
   simp only[nW]at hj hc;have:=q2 j p' cs' hj hc;unfold pK at this⊢;rw[<- gY];exact this
theorem all_flatten:∀{css:List (List Value)},(∀cs∈css,cs.all cellV=true)->css.flatten.all cellV=true
 |[],_=>rfl
 |cs::css,h=>by
  simp only[rG,List.all_append,fo];exact⟨h cs (aS ..),all_flatten λc hc=>h c (bW _ hc)⟩
theorem NK{L0 M:Lay}{cs:List Value}{ss:List Nat}{ps:List (TypeId×List Value×(DataW H×List MemPlace))}{css:List (List Value)}(hlen:cs.length=ss.sum)(hps:ps.map (·.2.1)=cuts ss cs)
 (hcl:css.length=ps.length) (hk:∀(j:Nat) p cs',ps[j]? =some p->css[j]? =some cs'->pK P W L0 M p.1 p.2.1 cs' p.2.2.1) (hsz:(cuts ss cs).map List.length=ss):
 aD (ig (L0++M)) css.flatten cs/\css.flatten.all cellV=true/\cuts ss css.flatten=css:=by
 have hv:∀(j:Nat) a b,css[j]? =some a->(cuts ss cs)[j]? =some b->aD (ig (L0++M)) a b:=λj a b ha hb=>by
  rw[<- hps,cK]at hb;cases e:ps[j]? with
  |none=>rw[e]at hb;cases hb
  |some p=>rw[e]at hb;cases hb;exact(hk j p a e ha).1
 have hl2:css.length=(cuts ss cs).length:=by rw[hcl,<- hps,bI]
 refine⟨?_,?_,?_⟩
 ·have:=aD.flatten hl2 hv;rw[NJ ss cs hlen]at this;exact this
 ·refine all_flatten λc hc=>?_;obtain⟨j,hj⟩:=oM hc;have hjl:j<ps.length:=by rw[<- hcl];exact(dU.1 hj).1
  exact(hk j ps[j] c (bH hjl) hj).2.1
 ·apply IL;rw[<- hsz];apply jX;intro j;rw[cK,cK];cases e1:css[j]? with
  |none=>
   rw[iX (by rw[<- hl2];exact Tv.1 e1)]
  |some a=>
   have hj:j<(cuts ss cs).length:=by rw[<- hl2];exact(dU.1 e1).1
   rw[bH hj];have:=(hv j a _ e1 (bH hj)).length;simp only[iJ];rw[this]
theorem Bl:∀(ss:List Nat) (cs:List Value),cs.length=ss.sum->(cuts ss cs).map List.length=ss
 |[],_,_=>rfl
 |s::ss,cs,h=>by
  simp only[List.sum_cons]at h;simp only[cuts,lc];rw[Bl ss (cs.drop s) (by rw[iY];omega)];congr 1;rw[fB];omega
theorem IQ{a:Addr}{base n:Nat}{cs:List Value}(h:W.cells? base a n=some cs):cs.length=n/\∀(j:Nat) v,cs[j]? =some v->W.cell? (a.add j)=some v:=by
 obtain⟨_,h2,h3⟩:=World.cells?_some h;refine⟨h2,λj v hj=>?_⟩;have hjn:j<n:=by rw[<- h2];exact(dU.1 hj).1
 rw[<- hj];exact(h3 j hjn)
theorem XB{n:Nat}(ih:∀t cs x,K t->DataW.trod enc P W 0 (λ_=>true) true n t cs=some x->∀L0:Lay,∃M cs',pK P W L0 M t cs cs' x.1/\lI W L0 M)
 {t:TypeId} {fs:Array Field} {cs:List Value} {xs:List (DataW H×List MemPlace)} (ht:P.underlying t=some (.struct fs)) (hf:∀f∈fs.toList,K f.type)
 (ho:fs.toList.map (·.offset)=sums 0 (fs.toList.map λf=>P.cellsOf f.type)) (hs:P.cellsOf t=(fs.toList.map λf=>P.cellsOf f.type).sum)
 (hlen:cs.length=P.cellsOf t) (hxl:xs.length=fs.size)
 (hx:∀(i:Nat) (f:Field),fs[i]? =some f->DataW.trod enc P W 0 (λ_=>true) true n f.type ((cs.drop f.offset).take (P.cellsOf f.type))=xs[i]?) (L0:Lay):
 ∃M cs',pK P W L0 M t cs cs' (.agg (xs.map (·.1)))/\lI W L0 M:=by
 let ss:=fs.toList.map λf=>P.cellsOf f.type
 let ps:List (TypeId×List Value×(DataW H×List MemPlace)):=(fs.toList.zip xs).map λq=>(q.1.type,(cs.drop q.1.offset).take (P.cellsOf q.1.type),q.2)
 have hps:∀(j:Nat) p,ps[j]? =some p->∃f x,fs[j]? =some f/\xs[j]? =some x/\p=(f.type,(cs.drop f.offset).take (P.cellsOf f.type),x):=λj p hj=>by
  simp only[ps,cK,Ls,kz]at hj;obtain⟨⟨f,x⟩,⟨h1,h2⟩,rfl⟩:=hj;exact⟨f,x,by rw[<- sK];exact h1,h2,rfl⟩
 have hoff:∀(j:Nat) f,fs[j]? =some f->(sums 0 ss)[j]? =some f.offset/\ss[j]? =some (P.cellsOf f.type):=λj f hj=>by
  have hj':fs.toList[j]? =some f:=by rw[sK];exact hj
  refine⟨?_,?_⟩
  ·show(sums 0 (fs.toList.map λf=>P.cellsOf f.type))[j]? =_;rw[<- ho,cK,hj'];rfl
  ·show(fs.toList.map λf=>P.cellsOf f.type)[j]? =_;rw[cK,hj'];rfl
 have hsum:cs.length=ss.sum:=hlen.trans hs;have hpl:ps.length=fs.size:=by
  simp only[ps,bI,List.length_zip,hxl,Array.length_toList,Nat.min_self]
 have hcut:ps.map (·.2.1)=cuts ss cs:=by
  apply jX;intro j;rw[cK];have hcl:(cuts ss cs).length=fs.size:=by
   have:=congrArg List.length (Bl ss cs hsum);rw[bI]at this;rw[this];simp[ss]
  cases e:ps[j]? with
  |none=>
   have:=Tv.1 e;rw[iX (by omega)];rfl
  |some p=>
   obtain⟨f,x,h1,h2,rfl⟩:=hps j p e;obtain⟨q1,q2⟩:=hoff j f h1;rw[(u6 ss cs 0 j f.offset _ q1 q2).1];rfl
 obtain⟨M,css,k1,k2,k3⟩:=IP ih ps (λp hp=>by
  obtain⟨j,hj⟩:=oM hp;obtain⟨f,x,h1,h2,rfl⟩:=hps j p hj;have hm:f∈fs.toList:=dA (by rw[sK];exact h1:fs.toList[j]? =some f);exact⟨hf f hm,by rw[hx j f h1,h2]⟩) L0
 obtain⟨v1,v2,v3⟩:=NK hsum hcut k1 k2 (Bl ss cs hsum);refine⟨M,css.flatten,⟨v1,v2,?_⟩,k3⟩;refine .struct ht (by rw[<- v1.length,hlen]) (by rw[bI,hxl]) ?_;intro j f d hj hd;rw[cK]at hd;cases ex:xs[j]? with
 |none=>rw[ex]at hd;cases hd
 |some x=>
  rw[ex]at hd;cases hd;obtain⟨q1,q2⟩:=hoff j f hj;have hg:=(u6 ss css.flatten 0 j f.offset _ q1 q2).1;rw[v3,qg]at hg;have dN:ps[j]? =some (f.type,(cs.drop f.offset).take (P.cellsOf f.type),x):=by
   have hj':fs.toList[j]? =some f:=by rw[sK];exact hj
   simp only[ps,cK,Ls,kz];exact⟨(f,x),⟨hj',ex⟩,rfl⟩
  exact(k2 j _ _ dN hg).2.2
theorem DD(s:Nat):∀(n o0 j:Nat),j<n->(sums o0 (List.replicate n s))[j]? =some (o0+j*s)/\(List.replicate n s)[j]? =some s
 |0,o0,j,h=>by omega
 |n+1,o0,0,h=>by simp[Gh,sums]
 |n+1,o0,j+1,h=>by
  obtain⟨h1,h2⟩:=DD s n (o0+s) j (by omega);simp only[Gh,sums,nW];refine⟨?_,h2⟩;rw[h1,Nat.succ_mul];congr 1;omega
theorem NL{n:Nat}(ih:∀t cs x,K t->DataW.trod enc P W 0 (λ_=>true) true n t cs=some x->∀L0:Lay,∃M cs',pK P W L0 M t cs cs' x.1/\lI W L0 M)
 {e:TypeId} {m:Nat} {cs:List Value} {xs:List (DataW H×List MemPlace)} (he:K e) (hlen:cs.length=m*P.cellsOf e) (hxl:xs.length=m)
 (hx:∀(i:Nat),i<m->DataW.trod enc P W 0 (λ_=>true) true n e ((cs.drop (i*P.cellsOf e)).take (P.cellsOf e))=xs[i]?) (L0:Lay):
 ∃(M:Lay) (cs':List Value),aD (ig (L0++M)) cs' cs/\cs'.all cellV=true/\(∀(j:Nat) d,(xs.map (·.1))[j]? =some d->fQ P (iH (L0++M)) e ((cs'.drop (j*P.cellsOf e)).take (P.cellsOf e)) d)/\lI W L0 M:=by
 let ss:=List.replicate m (P.cellsOf e)
 let ps:List (TypeId×List Value×(DataW H×List MemPlace)):=(List.range m).zip xs|>.map λq=>(e,(cs.drop (q.1*P.cellsOf e)).take (P.cellsOf e),q.2)
 have hps:∀(j:Nat) p,ps[j]? =some p->∃x,j<m/\xs[j]? =some x/\p=(e,(cs.drop (j*P.cellsOf e)).take (P.cellsOf e),x):=λj p hj=>by
  simp only[ps,cK,Ls,kz]at hj;obtain⟨⟨i,x⟩,⟨h1,h2⟩,rfl⟩:=hj;have hjm:j<m:=by rw[<- hxl];exact(dU.1 h2).1
  rw[zN hjm]at h1;cases h1;exact⟨x,hjm,h2,rfl⟩
 have hsum:cs.length=ss.sum:=by rw[hlen];simp[ss,List.sum_replicate_nat]
 have hcut:ps.map (·.2.1)=cuts ss cs:=by
  apply jX;intro j;rw[cK];have hcl:(cuts ss cs).length=m:=by
   have:=congrArg List.length (Bl ss cs hsum);rw[bI]at this;rw[this];simp[ss]
  cases ep:ps[j]? with
  |none=>
   have h1:=Tv.1 ep;have h2:ps.length=m:=by simp only[ps,bI,List.length_zip,hxl,Lt,Nat.min_self]
   rw[iX (by omega)];rfl
  |some p=>
   obtain⟨x,h1,h2,rfl⟩:=hps j p ep;obtain⟨q1,q2⟩:=DD (P.cellsOf e) m 0 j h1;rw[(u6 ss cs 0 j _ _ q1 q2).1];simp
 obtain⟨M,css,k1,k2,k3⟩:=IP ih ps (λp hp=>by
  obtain⟨j,hj⟩:=oM hp;obtain⟨x,h1,h2,rfl⟩:=hps j p hj;exact⟨he,by rw[hx j h1,h2]⟩) L0
 obtain⟨v1,v2,v3⟩:=NK hsum hcut k1 k2 (Bl ss cs hsum);refine⟨M,css.flatten,v1,v2,?_,k3⟩;intro j d hd;rw[cK]at hd;cases ex:xs[j]? with
 |none=>rw[ex]at hd;cases hd
 |some x=>
  rw[ex]at hd;cases hd;have hjm:j<m:=by rw[<- hxl];exact(dU.1 ex).1
  obtain⟨q1,q2⟩:=DD (P.cellsOf e) m 0 j hjm;have hg:=(u6 ss css.flatten 0 j _ _ q1 q2).1;rw[v3,dB,qg]at hg;have dN:ps[j]? =some (e,(cs.drop (j*P.cellsOf e)).take (P.cellsOf e),x):=by
   simp only[ps,cK,Ls,kz];exact⟨(j,x),⟨zN hjm,ex⟩,rfl⟩
  exact(k2 j _ _ dN hg).2.2
theorem NM{a:Addr}(hs:a.spot=none)(j:Nat):a.add j=⟨a.block,a.off+j,none⟩:=by
 obtain⟨ab,ao,sp⟩:=a;simp only at hs;subst hs;by_cases h:j=0
 ·subst h;simp[Addr.add]
 ·simp[Addr.add,h]
theorem cell_spot{a:Addr}{v:Value}(h:W.cell? a=some v):a.spot=none/\∃c t fz,W.heap[a.block]? =some (.cells c t fz):=by
 unfold World.cell? at h;split at h
 ·rename_i c t fz hb;split at h
  ·cases h
  ·rename_i hsp;refine⟨?_,c,t,fz,hb⟩;cases e:a.spot with
   |none=>rfl
   |some x=>rw[e]at hsp;exact absurd rfl hsp
 ·cases h
theorem XC{a:Addr}{s m:Nat}(hs:0<s)(h:∀i,i<m->∃c,W.cells? 0 (a.add (i*s)) s=some c):
 ∃cs:List Value,cs.length=m*s/\(∀i,i<m->W.cells? 0 (a.add (i*s)) s=some ((cs.drop (i*s)).take s)):=by
 let css:=(List.range m).map λi=>(W.cells? 0 (a.add (i*s)) s).getD []
 have hget:∀i,i<m->∃c,W.cells? 0 (a.add (i*s)) s=some c/\css[i]? =some c/\c.length=s:=λi hi=>by
  obtain⟨c,hc⟩:=h i hi;refine⟨c,hc,?_,(IQ hc).1⟩;simp only[css,cK,zN hi,iJ,hc,Gd]
 have hcl:css.length=m:=by simp[css]
 have hlen:css.map List.length=List.replicate m s:=by
  apply jX;intro j;by_cases hj:j<m
  ·obtain⟨c,_,h2,h3⟩:=hget j hj;rw[cK,h2,List.getElem?_replicate,if_pos hj];simp[h3]
  ·rw[iX (by rw[bI];omega),iX (by simp;omega)]
 refine⟨css.flatten,?_,λi hi=>?_⟩
 ·rw[List.length_flatten,hlen,List.sum_replicate_nat]
 ·obtain⟨c,h1,h2,_⟩:=hget i hi;obtain⟨q1,q2⟩:=DD s m 0 i hi;have:=(u6 _ css.flatten 0 i _ _ q1 q2).1;rw[IL _ css hlen,h2,dB,qg]at this;rw[h1,Option.some.inj this]
theorem NN(hK:∀t,K t->PlainT P K t):∀(n:Nat) (t:TypeId) (cs:List Value) (x:DataW H×List MemPlace),K t->DataW.trod enc P W 0 (λ_=>true) true n t cs=some x->
 ∀L0:Lay,∃M cs',pK P W L0 M t cs cs' x.1/\lI W L0 M
 |0,t,cs,x,_,h,_=>by simp[DataW.trod]at h
 |n+1,t,cs,x,hT,h,L0=>by
  have ih:=NN hK n;cases hK t hT with
  |bool ht=>
   obtain⟨b,rfl,rfl⟩:=DataW.trod_bool ht h;exact⟨[],[.bool b],⟨.cons (.bool b) .nil,rfl,.bool ht⟩,.nil⟩
  |int k ht=>
   obtain⟨m,rfl,rfl,hw⟩:=DataW.trod_int ht h;exact⟨[],[.int k m],⟨.cons (.int k m) .nil,rfl,.int ht hw⟩,.nil⟩
  |string ht=>
   obtain⟨s,rfl,rfl,hs⟩:=DataW.trod_string ht h;exact⟨[],[.string s],⟨.cons (.string s) .nil,rfl,.string ht hs⟩,.nil⟩
  |struct fs ht hf ho hs=>
   obtain⟨xs,m,hm,rfl,hl,hxl,hx⟩:=DataW.trod_struct ht h;cases hm;exact XB ih ht hf ho hs hl hxl hx L0
  |array m e ht he hs=>
   obtain⟨xs,k,hk,rfl,hl,hxl,hx⟩:=Go.DataW.trod_array ht h;cases hk;obtain⟨M,cs',v1,v2,v3,v4⟩:=NL ih he (hl.trans hs) hxl hx L0;exact⟨M,cs',⟨v1,v2,.array ht (by rw[<- v1.length,hl]) (by rw[bI,hxl]) v3⟩,v4⟩
  |slice e ht he hs=>
   rcases DataW.trod_slice ht h with⟨rfl,rfl⟩|⟨a,len,cap,elems,rest,k,hk,rfl,rfl,_,hlc,hcm,hel,hes,hsp,_⟩
   ·exact⟨[],[.slice none 0 0],⟨.cons (.sl0 0 0) .nil,rfl,.nil ht⟩,.nil⟩
   cases hk;obtain⟨hrl,hrs⟩:=hsp rfl;have hcells:∀i,i<len->∃c y,W.cells? 0 (a.add (i*P.cellsOf e)) (P.cellsOf e)=some c/\elems[i]? =some y/\DataW.trod enc P W 0 (λ_=>true) true n e c=some y:=λi hi=>by
    have h1:=hes i hi;have hi':i<elems.length:=by omega
    rw[bH hi',Option.bind_eq_some_iff]at h1;obtain⟨c,h2,h3⟩:=h1;exact⟨c,_,h2,bH hi',h3⟩
   obtain⟨XD,hwl,hwc⟩:=XC (W:=W) (a:=a) (m:=len) hs (λi hi=>let⟨c,_,h1,_⟩:=hcells i hi;⟨c,h1⟩);obtain⟨M,cs',v1,v2,v3,v4⟩:=NL ih (cs:=XD) (xs:=elems) he hwl hel (λi hi=>by
    obtain⟨c,y,h1,h2,h3⟩:=hcells i hi;rw[hwc i hi]at h1;rw[Option.some.inj h1,h3,h2]) L0
   have NP:0<cap->∃v,W.cell? a=some v:=λhc=>by
    have key:∀c,W.cells? 0 (a.add (0*P.cellsOf e)) (P.cellsOf e)=some c->∃v,W.cell? a=some v:=λc h1=>by
     rw[og]at h1;have h0:a.add 0=a:=by simp[Addr.add]
     rw[h0]at h1;obtain⟨q1,q2⟩:=IQ h1;have hc0:0<c.length:=by omega
     have:=q2 0 c[0] (bH hc0);rw[h0]at this;exact⟨_,this⟩
    by_cases hl0:0<len
    ·obtain⟨c,_,h1,_⟩:=hcells 0 hl0;exact key c h1
    ·have h1:=hrs 0 (by omega);have hr0:0<rest.length:=by omega
     rw[bH hr0,Option.bind_eq_some_iff]at h1;obtain⟨c,h2,_⟩:=h1;have hz:len+0=0:=by omega
     rw[hz]at h2;exact key c h2
   let g:fD:=⟨a.block,a.off,len*P.cellsOf e,0,0⟩
   let en:Option fD×Option (List Value):=(some g,if len=0 then none else some cs')
   have hidx:(L0++(M++[en]))[(L0++M).length]? =some en:=by
    rw[<- gY,lN (aC _)];simp
   have lF:VR (ig (L0++(M++[en]))) (.slice (some ⟨(L0++M).length,0,some 0⟩) len cap) (.slice (some a) len cap):=by
    refine .bC (g:=g) ?_ rfl hlc ?_
    ·unfold ig;rw[hidx];rfl
    ·by_cases hc:cap=0
     ·exact .inl hc
     ·obtain⟨v,hv⟩:=NP (by omega);exact .inr ⟨rfl,(cell_spot hv).1⟩
   refine⟨M++[en],[.slice (some ⟨(L0++M).length,0,some 0⟩) len cap],⟨.cons lF .nil,rfl,?_⟩,?_⟩
   ·refine .slice ht ⟨hlc,hcm⟩ (by rw[bI,hel]) (cells:=cs') ?_ ?_
    ·by_cases hl0:len=0
     ·exact .inl hl0
     ·right;refine Xv (g:=some g) ?_;rw[hidx];simp only[en,if_neg hl0]
    ·intro j d hj;have:=v3 j d hj;rw[<- gY];exact this.mono λi cs hc=>IM hc
   ·refine v4.app ?_;intro i g' c hi hget;have hi2:i=(L0++M).length:=by
     have:=(dU.1 hget).1;rw[dK]at this;simp at this hi⊢;omega
    subst hi2;rw[gY,hidx]at hget;simp only[en,au,bz]at hget;obtain⟨rfl,hc⟩:=hget;split at hc
    ·cases hc
    ·rename_i hl0;cases hc;obtain⟨v0,hv0⟩:=NP (by omega);obtain⟨hspot,hblk⟩:=cell_spot hv0;refine⟨let⟨c,t,fz,e⟩:=hblk;⟨c,t,fz,e,.inl rfl⟩,rfl,v2,λj v hj=>?_⟩;obtain⟨v',hj',hv⟩:=v1.get hj;refine⟨v',?_,hv.mono (DC _ _)⟩;show W.cell? ⟨a.block,a.off+j,none⟩=some v';have hjl:j<len*P.cellsOf e:=by rw[<- hwl];exact(dU.1 hj').1
     have hq:j/P.cellsOf e<len:=(Lu hs).2 hjl;have hm:=sM j hs;have u7:=Nat.div_add_mod j (P.cellsOf e);have hcell:=(IQ (hwc _ hq)).2 (j%P.cellsOf e) v' (by
      rw[qd,if_pos hm,iV,<- hj'];congr 1;rw[xQ];exact u7)
     rw[NM hspot]at hcell;rw[NM rfl]at hcell;simp only at hcell;rw[<- hcell];congr 2;rw[lQ,xQ,u7]
end
end Go.Ideal
namespace Go.Ideal
open Go.ChangeShapes Go.WideShapes Go.ChangeAt Go.RowKit
def NQ(P:Program)(ts:List TypeId):Bool:=ts.all λt=>match P.underlying t with
 |some .bool=>true
 |some (.int _)=>true
 |some .string=>true
 |some (.slice e)=>ts.contains e&&Nat.blt 0 (P.cellsOf e)
 |some (.struct fs)=>fs.toList.all (λf=>ts.contains f.type)&&(fs.toList.map (·.offset)==sums 0 (fs.toList.map λf=>P.cellsOf f.type))&&P.cellsOf t==(fs.toList.map λf=>P.cellsOf f.type).sum
 |some (.array n e)=>ts.contains e&&P.cellsOf t==n*P.cellsOf e
 |_=>false
theorem XE{P:Program}{ts:List TypeId}(h:NQ P ts=true):∀t,t∈ts->PlainT P (·∈ts) t:=λt ht=>by
 unfold NQ at h;rw[jA]at h;have h:=h t ht;split at h
 ·rename_i hu;exact .bool hu
 ·rename_i k hu;exact .int k hu
 ·rename_i hu;exact .string hu
 ·rename_i e hu;simp only[fo]at h;exact .slice e hu (CE.1 h.1) (yK h.2)
 ·rename_i fs hu;simp only[fo,jA,beq_iff_eq]at h;exact .struct fs hu (λf hf=>CE.1 (h.1.1 f hf)) h.1.2 h.2
 ·rename_i n e hu;simp only[fo,beq_iff_eq]at h;exact .array n e hu (CE.1 h.1) h.2
 ·cases h
section
variable {H:Type} {enc:TypeId×Value->H} {P:Program} {W:World} {K:TypeId->Prop}
def vk(P:Program)(h:IH)(t:TypeId)(v:Value)(d:DataW H):Prop:=
 ∃cs,fQ P h t cs d/\cs.all cellV=true/\(cs=[v]\/v=.agg ⟨cs⟩)
theorem vk.app{L M:Lay}{t:TypeId}{v:Value}{d:DataW H}(r:vk P (iH L) t v d):vk P (iH (L++M)) t v d:=by
 obtain⟨cs,h1,h2,h3⟩:=r;exact⟨cs,h1.mono λi cs hc=>IM hc,h2,h3⟩
theorem XF(hK:∀t,K t->PlainT P K t){t:TypeId}{v:Value}{d:DataW H}{p:List MemPlace}(hT:K t)(hok:Value.okWide P W .any 0 t v)(h:DataW.Trod enc P W 0 (λ_=>true) true t v d p)(L0:Lay):
 ∃M v',VR (ig (L0++M)) v' v/\vk P (iH (L0++M)) t v' d/\lI W L0 M:=by
 obtain⟨n,hn⟩:=h;obtain⟨M,cs',⟨h1,h2,h3⟩,h4⟩:=NN hK n t _ _ hT hn L0;have agg:∀cs,v=.agg cs->∃M v',VR (ig (L0++M)) v' v/\vk P (iH (L0++M)) t v' d/\lI W L0 M:=λcs e=>by
  subst e;obtain⟨l⟩:=cs;exact⟨M,.agg ⟨cs'⟩,.agg h2 h1,⟨cs',h3,h2,.inr rfl⟩,h4⟩
 have one:v.cells= #[v]->∃M v',VR (ig (L0++M)) v' v/\vk P (iH (L0++M)) t v' d/\lI W L0 M:=λe=>by
  rw[e]at h1;match cs',h1,h2,h3 with
  |[v'],.cons h1 .nil,h2,h3=>exact⟨M,v',h1,⟨[v'],h3,h2,.inl rfl⟩,h4⟩
 cases hv:v with
 |agg cs=>rw[<- hv];exact agg cs hv
 |_=>rw[<- hv];exact one (by rw[hv];rfl)
theorem NR(hK:∀t,K t->PlainT P K t):∀{ts:List TypeId} {vs:List Value} {ds:List (DataW H)} {ps:List MemPlace},(∀t∈ts,K t)->(∀(j:Nat) t v,ts[j]? =some t->vs[j]? =some v->Value.okWide P W .any 0 t v)->
 DataW.TrodAll enc P W 0 (λ_=>true) true ts vs ds ps->∀L0:Lay,∃(M:Lay) (vs':List Value),aD (ig (L0++M)) vs' vs/\
  (∀(j:Nat) t v d,ts[j]? =some t->vs'[j]? =some v->ds[j]? =some d->vk P (iH (L0++M)) t v d)/\lI W L0 M
 |[],[],[],_,_,_,_,L0=>⟨[],[],.nil,(λj t v d h=>by cases h),.nil⟩
 |t::ts,v::vs,d::ds,_,hT,hok,⟨p,q,h1,h2,_⟩,L0=>by
  obtain⟨M1,v',a1,a2,a3⟩:=XF hK (hT t (aS ..)) (hok 0 t v rfl rfl) h1 L0;obtain⟨M2,vs',b1,b2,b3⟩:=NR hK (λt ht=>hT t (bW _ ht)) (λj t v hj hv=>hok (j+1) t v hj hv) h2 (L0++M1);rw[gY]at b1 b2;refine⟨M1++M2,v'::vs',.cons ?_ b1,?_,a3.app b3⟩
  ·rw[<- gY];exact a1.mono (DC _ _)
  ·intro j t' w d' hj hw hd;cases j with
   |zero=>
    simp only[xR,au]at hj hw hd;subst hj hw hd;rw[<- gY];exact a2.app
   |succ j=>exact b2 j t' w d' hj hw hd
end
end Go.Ideal
namespace Go.Ideal
section
variable {H:Type} {P:Program} {h:IH} {t e:TypeId} {cs:List Value} {d:DataW H}
theorem fQ.j4{k:IntKind}(ht:P.underlying t=some (.int k))(r:fQ P h t cs d):∃n,cs=[.int k n]/\d=.lit (.int k n)/\(Lit.int k n).wf=true:=by
 cases r with
 |int ht' hw=>rw[ht]at ht';cases ht';exact⟨_,rfl,rfl,hw⟩
 |bool ht'=>rw[ht]at ht';cases ht'
 |string ht'=>rw[ht]at ht';cases ht'
 |nil ht'=>rw[ht]at ht';cases ht'
 |slice ht'=>rw[ht]at ht';cases ht'
 |struct ht'=>rw[ht]at ht';cases ht'
 |array ht'=>rw[ht]at ht';cases ht'
theorem fQ.Ap(ht:P.underlying t=some .bool)(r:fQ P h t cs d):∃b,cs=[.bool b]/\d=.lit (.bool b):=by
 cases r with
 |bool ht'=>exact⟨_,rfl,rfl⟩
 |int ht' hw=>rw[ht]at ht';cases ht'
 |string ht'=>rw[ht]at ht';cases ht'
 |nil ht'=>rw[ht]at ht';cases ht'
 |slice ht'=>rw[ht]at ht';cases ht'
 |struct ht'=>rw[ht]at ht';cases ht'
 |array ht'=>rw[ht]at ht';cases ht'
theorem fQ.uP(ht:P.underlying t=some .string)(r:fQ P h t cs d):∃s:ByteArray,cs=[.string s]/\d=.lit (.string s.data.toList)/\s.size<=maxLen:=by
 cases r with
 |string ht' hs=>exact⟨_,rfl,rfl,hs⟩
 |bool ht'=>rw[ht]at ht';cases ht'
 |int ht' hw=>rw[ht]at ht';cases ht'
 |nil ht'=>rw[ht]at ht';cases ht'
 |slice ht'=>rw[ht]at ht';cases ht'
 |struct ht'=>rw[ht]at ht';cases ht'
 |array ht'=>rw[ht]at ht';cases ht'
theorem fQ.kJ(ht:P.underlying t=some (.slice e))(r:fQ P h t cs d):
 (cs=[.slice none 0 0]/\d=.nil)\/∃i n c cells els rest,cs=[.slice (some ⟨i,0,some 0⟩) n c]/\d=.slice els rest/\(n<=c/\c<=maxLen)/\els.length=n/\(n=0\/Cells h i cells)/\
   ∀(k:Nat) d,els[k]? =some d->fQ P h e ((cells.drop (k*P.cellsOf e)).take (P.cellsOf e)) d:=by
 cases r with
 |nil ht'=>exact .inl ⟨rfl,rfl⟩
 |slice ht' hn hl hc hel=>rw[ht]at ht';cases ht';exact .inr ⟨_,_,_,_,_,_,rfl,rfl,hn,hl,hc,hel⟩
 |string ht'=>rw[ht]at ht';cases ht'
 |bool ht'=>rw[ht]at ht';cases ht'
 |int ht' hw=>rw[ht]at ht';cases ht'
 |struct ht'=>rw[ht]at ht';cases ht'
 |array ht'=>rw[ht]at ht';cases ht'
theorem fQ.XG{fs:Array Field}(ht:P.underlying t=some (.struct fs))(r:fQ P h t cs d):
 ∃ds,d=.agg ds/\cs.length=P.cellsOf t/\ds.length=fs.size/\∀(j:Nat) f d,fs[j]? =some f->ds[j]? =some d->fQ P h f.type ((cs.drop f.offset).take (P.cellsOf f.type)) d:=by
 cases r with
 |struct ht' hl hd hf=>rw[ht]at ht';cases ht';exact⟨_,rfl,hl,hd,hf⟩
 |array ht'=>rw[ht]at ht';cases ht'
 |nil ht'=>rw[ht]at ht';cases ht'
 |slice ht'=>rw[ht]at ht';cases ht'
 |string ht'=>rw[ht]at ht';cases ht'
 |bool ht'=>rw[ht]at ht';cases ht'
 |int ht' hw=>rw[ht]at ht';cases ht'
def IR:DataW H->Int
 | .lit (.int _ n)=>n
 |_=>0
theorem fQ.ints{v:Value}(ht:P.underlying t=some (.slice e))(he:P.underlying e=some (.int .i64))(hc:P.cellsOf e=1)(r:fQ P h t [v] d):∃xs,Bh h v xs/\∀x∈xs, -9223372036854775808<=x/\x<9223372036854775808:=by
 rcases r.kJ ht with⟨e1,_⟩|⟨i,n,c,cells,els,rest,e1,_,hn,hl,hcl,hel⟩
 ·injection e1 with e1;exact⟨[],.inl ⟨rfl,none,0,0,e1,rfl⟩,by simp⟩
 ·injection e1 with e1;subst e1;have each:∀(k:Nat) d,els[k]? =some d->cells[k]? =some (.int .i64 (IR d))/\(Lit.int .i64 (IR d)).wf=true:=λk d hk=>by
   have:=hel k d hk;rw[hc,jB]at this;obtain⟨m,h1,h2,h3⟩:=this.j4 he;subst h2;refine⟨?_,h3⟩;have h4:((cells.drop k).take 1)[0]? =some (.int .i64 m):=by rw[h1];rfl
   rw[qd,if_pos (by omega),iV]at h4;exact h4
  refine⟨els.map IR,?_,?_⟩
  ·rcases hcl with h0|hcl
   ·left;refine⟨?_,_,_,_,rfl,h0⟩;have:els=[]:=qc.1 (by omega);rw[this];rfl
   ·right;refine⟨i,0,0,c,cells,by rw[bI,hl],hcl,λk x hk=>?_⟩;rw[cK]at hk;cases ek:els[k]? with
    |none=>rw[ek]at hk;cases hk
    |some d=>
     rw[ek]at hk;cases hk;rw[dB];exact(each k d ek).1
  ·intro x hx;obtain⟨d,hd,rfl⟩:=gz.1 hx;obtain⟨k,hk⟩:=oM hd;have:=(each k d hk).2;simp only[Lit.wf,IntKind.min,IntKind.max,IntKind.signed,IntKind.bits,fo,ww]at this;simp at this;omega
end
end Go.Ideal
namespace Canon
structure IU{α:Type}(c:α->α->Int):Prop where
 zero:∀a b,c a b=0↔a=b
 neg:∀a b,c a b<0↔0<c b a
 trans:∀a b d,c a b<0->c b d<0->c a d<0
def jm(a b:Int):Int:=if a<b then -1 else if b<a then 1 else 0
theorem XH:IU jm where
 zero a b:=by unfold jm;split<;>(try split)<;>omega
 neg a b:=by unfold jm;split<;>(try split)<;>(try split)<;>(try split)<;>omega
 trans a b d h1 h2:=by
  unfold jm at h1 h2⊢;split at h1<;>(try split at h1)<;>split at h2<;>(try split at h2)<;>first|omega|(rw[if_pos (by omega)];omega)
def gB{α:Type}(c:α->α->Int):List α->List α->Int
 |[],[]=>0
 |[],_::_=> -1
 |_::_,[]=>1
 |a::l,b::m=>if c a b≠0 then c a b else gB c l m
theorem XI{α:Type}{c:α->α->Int}(h:IU c):IU (gB c) where
 zero:=by
  intro a;induction a with
  |nil=>intro b;cases b<;>simp[gB]
  |cons x l ih=>
   intro b;cases b with
   |nil=>simp[gB]
   |cons y m=>
    simp only[gB];by_cases e:c x y=0
    ·rw[if_neg (by simpa using e),ih m];have:=(h.zero x y).1 e;subst this;simp
    ·rw[if_pos e];constructor
     ·intro q;exact absurd q e
     ·intro q;injection q with q1 q2;exact absurd ((h.zero x y).2 q1) e
 neg:=by
  intro a;induction a with
  |nil=>intro b;cases b<;>simp[gB]
  |cons x l ih=>
   intro b;cases b with
   |nil=>simp[gB]
   |cons y m=>
    simp only[gB];by_cases e:c x y=0
    ·have e2:=(h.zero x y).1 e;subst e2;rw[if_neg (by simpa using e),if_neg (by simpa using e)];exact ih m
    ·have e2:c y x≠0:=λq=>e ((h.zero x y).2 ((h.zero y x).1 q).symm);rw[if_pos e,if_pos e2];exact h.neg x y
 trans:=by
  intro a;induction a with
  |nil=>
   intro b d h1 h2;cases b with
   |nil=>simp[gB]at h1
   |cons y m=>cases d with
    |nil=>simp[gB]at h2
    |cons z n=>simp[gB]
  |cons x l ih=>
   intro b d h1 h2;cases b with
   |nil=>simp[gB]at h1
   |cons y m=>cases d with
    |nil=>simp[gB]at h2
    |cons z n=>
     simp only[gB]at h1 h2⊢;by_cases e1:c x y=0
     ·have:=(h.zero x y).1 e1;subst this;rw[if_neg (by simpa using e1)]at h1;by_cases e2:c x z=0
      ·rw[if_neg (by simpa using e2)]at h2⊢;exact ih m n h1 h2
      ·rw[if_pos e2]at h2⊢;exact h2
     ·rw[if_pos e1]at h1;by_cases e2:c y z=0
      ·have:=(h.zero y z).1 e2;subst this;rw[if_pos e1];exact h1
      ·rw[if_pos e2]at h2;have:=h.trans x y z h1 h2;rw[if_pos (by omega)];exact this
structure Clue where
 IV:Int
 at_:Int
 values:List Int
instance:DecidableEq Clue:=λa b=>decidable_of_iff (a.IV=b.IV/\a.at_=b.at_/\a.values=b.values) (by cases a;cases b;simp)
end Canon
namespace Go.Ideal
open Canon (Clue)
def DF(h:IH)(v:Value)(l:List Clue):Prop:=
 (l=[]/\∃a m c,v=.slice a m c/\m=0)\/
 ∃i o f c cells,v=.slice (some ⟨i,o,some f⟩) l.length c/\Cells h i cells/\∀(k:Nat) g,l[k]? =some g->
  ∃vv,cells[o+k*3]? =some (.int .i64 g.IV)/\cells[o+k*3+1]? =some (.int .i64 g.at_)/\cells[o+k*3+2]? =some vv/\Bh h vv g.values
theorem DF.agree{h h':IH}{v:Value}{l:List Clue}(a:DF h v l)(g:Agree h h'):DF h' v l:=by
 rcases a with h1|⟨i,o,f,c,cs,h1,h2,h3⟩
 ·exact .inl h1
 ·refine .inr ⟨i,o,f,c,cs,h1,h2.agree g,λk x hk=>?_⟩;obtain⟨vv,q1,q2,q3,q4⟩:=h3 k x hk;exact⟨vv,q1,q2,q3,q4.agree g⟩
section
variable {H:Type} {P:Program} {h:IH} {t e u z:TypeId} {d:DataW H}
def IW(h:IH)(v:Value)(l:List Clue):Prop:=∃w,v=.agg ⟨[w]⟩/\DF h w l
theorem IW.agree{h h':IH}{v:Value}{l:List Clue}(a:IW h v l)(g:Agree h h'):IW h' v l:=by
 obtain⟨w,e,k⟩:=a;exact⟨w,e,k.agree g⟩
end

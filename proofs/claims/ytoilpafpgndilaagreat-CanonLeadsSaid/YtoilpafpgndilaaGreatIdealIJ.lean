/- Part. -/
import Derived.Test.YtoilpafpgndilaaGreatIdealHJ
import Derived.OpenShut
set_option linter.all false
namespace Go.Ideal
open Go.ChangeShapes Go.WideShapes Go.ChangeAt Go.RowKit
def cuts{α:Type}:ae Nat->ae α->ae (ae α)
 |[],_=>[]
 |s::ss,l=>l.take s::cuts ss (l.drop s)
def sums:Nat->ae Nat->ae Nat
 |_,[]=>[]
 |o,s::ss=>o::sums (o+s) ss
def Cs{α:Type}:∀(ss:ae Nat) (l:ae α) (o0 j:Nat) (o s:Nat),(sums o0 ss)[j]? =some o->ss[j]? =some s->(cuts ss l)[j]? =some ((l.drop (o - o0)).take s)/\o0<=o
 |[],l,o0,j,o,s,h,_=>by simp[sums]at h
 |s0::ss,l,o0,0,o,s,h,hs=>by
  simp[sums]at h hs;subst h hs;simp[cuts]
 |s0::ss,l,o0,j+1,o,s,h,hs=>by
  simp only[sums,uf]at h hs;obtain⟨h1,h2⟩:=Cs ss (l.drop s0) (o0+s0) j o s h hs;refine⟨?_,s6⟩;simp only[cuts,uf];rw[h1,List.drop_drop];congr 3;omega
def X6{α:Type}:∀(ss:ae Nat) (l:ae α),l.length=ss.sum->(cuts ss l).flatten=l
 |[],l,h=>by
  have:l=[]:=j6.1 tf;subst this;rfl
 |s::ss,l,h=>by
  simp only[List.sum_cons]at h;simp only[cuts,VK];rw[X6 ss (l.drop s) tj,nE]
def Q5{α:Type}:∀(ss:ae Nat) (ps:ae (ae α)),ps.map List.length=ss->cuts ss ps.flatten=ps
 |[],[],_=>rfl
 |[],_::_,h=>by cases h
 |s::ss,[],h=>by cases h
 |s::ss,p::ps,h=>by
  simp only[fA,BV]at h;obtain⟨h1,h2⟩:=h;simp only[cuts,VK];rw[List.take_left' h1,List.drop_left' h1,Q5 ss ps h2]
def aW.flatten{β:aJ}:∀{ps qs:ae (ae ah)},ps.length=qs.length->(∀(j:Nat) p q,ps[j]? =some p->qs[j]? =some q->aW β p q)->aW β ps.flatten qs.flatten
 |[],[],_,_=>.nil
 |[],_::_,h,_=>by cases h
 |_::_,[],h,_=>by cases h
 |p::ps,q::qs,h,hv=>by
  simp only[VK];exact(hv 0 p q rfl rfl).append (aW.flatten tf λj a b ha hb=>hv (j+1) a b ha hb)
inductive jg(P:Program)(h:IH){H:Type}:TypeId->List Value->DataW H->Prop
 |bool {t:TypeId} {b:Bool} (ht:P.underlying t=some .bool):jg P h t [.bool b] (.lit (.bool b))
 |int {t:TypeId} {k:IntKind} {n:Int} (ht:P.underlying t=some (.int k)) (hw:(Lit.int k n).wf=true):jg P h t [.int k n] (.lit (.int k n))
 |string {t:TypeId} {s:ByteArray} (ht:P.underlying t=some .string) (hs:s.size<=maxLen):jg P h t [.string s] (.lit (.string s.data.toList))
 |nil {t e:TypeId} (ht:P.underlying t=some (.slice e)):jg P h t [.slice none 0 0] .nil
 |slice {t e:TypeId} {i n c:Nat} {cells:List Value} {els rest:List (DataW H)} (ht:P.underlying t=some (.slice e)) (hn:n<=c/\c<=maxLen) (hl:els.length=n) (hc:n=0\/Cells h i cells)
   (hel:∀(k:Nat) d,els[k]? =some d->jg P h e ((cells.drop (k*P.cellsOf e)).take (P.cellsOf e)) d):jg P h t [.slice (some ⟨i,0,some 0⟩) n c] (.slice els rest)
 |struct {t:TypeId} {fs:Array Field} {cs:List Value} {ds:List (DataW H)} (ht:P.underlying t=some (.struct fs)) (hl:cs.length=P.cellsOf t) (hd:ds.length=fs.size)
   (hf:∀(j:Nat) f d,fs[j]? =some f->ds[j]? =some d->jg P h f.type ((cs.drop f.offset).take (P.cellsOf f.type)) d):jg P h t cs (.agg ds)
 |array {t e:TypeId} {n:Nat} {cs:List Value} {ds:List (DataW H)} (ht:P.underlying t=some (.array n e)) (hl:cs.length=P.cellsOf t) (hd:ds.length=n)
   (hf:∀(j:Nat) d,ds[j]? =some d->jg P h e ((cs.drop (j*P.cellsOf e)).take (P.cellsOf e)) d):jg P h t cs (.agg ds)
def jg.mono{P:Program}{h h':IH}{H:Type}(hh:∀i cs,Cells h i cs->Cells h' i cs){t:aD}{cs:ae ah}{d:DataW H}(r:jg P h t cs d):jg P h' t cs d:=by
 induction r with
 |bool ht=>exact .bool ht
 |int ht hw=>exact .int ht hw
 |string ht hs=>exact .string ht hs
 |nil ht=>exact .nil ht
 |slice ht hn hl hc _ ih=>exact .slice ht hn hl (hc.imp id (hh _ _)) ih
 |struct ht hl hd _ ih=>exact .struct ht hl hd ih
 |array ht hl hd _ ih=>exact .array ht hl hd ih
inductive PlainT(P:Program)(K:TypeId->Prop)(t:TypeId):Prop
 |bool (ht:P.underlying t=some .bool)
 |int (k:IntKind) (ht:P.underlying t=some (.int k))
 |string (ht:P.underlying t=some .string)
 |slice (e:TypeId) (ht:P.underlying t=some (.slice e)) (he:K e) (hs:0<P.cellsOf e)
 |struct (fs:Array Field) (ht:P.underlying t=some (.struct fs)) (hf:∀f∈fs.toList,K f.type) (ho:fs.toList.map (·.offset)=sums 0 (fs.toList.map λf=>P.cellsOf f.type))
   (hs:P.cellsOf t=(fs.toList.map λf=>P.cellsOf f.type).sum)
 |array (n:Nat) (e:TypeId) (ht:P.underlying t=some (.array n e)) (he:K e) (hs:P.cellsOf t=n*P.cellsOf e)
def LQ(L M:Lay):(lS L).le (lS (L++M)):=λi g h=>by
 unfold lS at h⊢;cases e:L[i]? with
 |none=>rw[e]at h;cases h
 |some p=>rw[jL (aV.1 e).1,e];rw[e]at h;exact h
variable{M L:Lay}{cs:ae ah}
def Q6{i:Nat}(h:Cells (mh L) i cs):Cells (mh (L++M)) i cs:=by
 obtain⟨h1,h2⟩:=h;have h1:i<L.length:=h1;refine⟨by show i<(L++M).length;rw[eF];omega,?_⟩;rw[Q3]at h2⊢;rw[jL h1];exact h2
def F6.app{w:World}{g:je}(k:F6 L w g cs):F6 (L++M) w g cs:=
 ⟨k.block,k.sz,k.all,λj v hj=>let⟨v',a,b⟩:=k.cell j v hj;⟨v',a,b.mono (LQ _ _)⟩⟩
def qO(W:World)(L0 M:Lay):Prop:=∀(i:Nat) g cs,L0.length<=i->(L0++M)[i]? =some (some g,some cs)->F6 (L0++M) W g cs
variable{L0:Lay}{W:World}
def qO.nil:qO W L0 []:=λi g cs hi h=>by
 rw[gW,dW hi]at h;cases h
def qO.app{N:Lay}(h1:qO W L0 M)(h2:qO W (L0++M) N):qO W L0 (M++N):=λi g cs hi h=>by
 rw[<- List.append_assoc]at h⊢;by_cases hm:(L0++M).length<=i
 .exact h2 i g cs hm h
 .rw[jL s6]at h;exact(h1 i g cs hi h).app
section
variable {H:Type} {enc:aD×ah->H} {P:Program} {W:World} {K:aD->Prop}
def wR(P:Program)(W:World)(L0 M:Lay)(t:aD)(cs cs':ae ah)(d:DataW H):Prop:=
 aW (lS (L0++M)) cs' cs/\cs'.all cellV=true/\jg P (mh (L0++M)) t cs' d
variable{cs:ae ah}{L0 M:Lay}
def wR.app{N:Lay}{t:aD}{cs':ae ah}{d:DataW H}(k:wR P W L0 M t cs cs' d):wR P W L0 (M++N) t cs cs' d:=by
 obtain⟨h1,h2,h3⟩:=k;unfold wR;rw[<- List.append_assoc];exact⟨h1.mono (LQ _ _),h2,h3.mono λi cs hc=>Q6 hc⟩
def Q7{n:Nat}(ih:∀t cs x,K t->DataW.trod enc P W 0 (λ_=>true) true n t cs=some x->∀L0:Lay,∃M cs',wR P W L0 M t cs cs' x.1/\qO W L0 M):
 ∀(ps:ae (aD×ae ah×(DataW H×ae MemPlace))),(∀p∈ps,K p.1/\DataW.trod enc P W 0 (λ_=>true) true n p.1 p.2.1=some p.2.2)->∀L0:Lay,
  ∃(M:Lay) (css:ae (ae ah)),css.length=ps.length/\(∀(j:Nat) p cs',ps[j]? =some p->css[j]? =some cs'->wR P W L0 M p.1 p.2.1 cs' p.2.2.1)/\qO W L0 M
 |[],_,L0=>⟨[],[],rfl,(λj p cs' h=>by cases h),.nil⟩
 |p::ps,hp,L0=>by
  obtain⟨h1,h2⟩:=hp p (dD ..);obtain⟨M1,cs1,k1,k2⟩:=ih _ _ _ h1 h2 L0;obtain⟨M2,css,q1,q2,q3⟩:=Q7 ih ps (λq hq=>hp q (dB _ hq)) (L0++M1);refine⟨M1++M2,cs1::css,by simp[q1],λj p' cs' hj hc=>?_,k2.app q3⟩;cases j with
  |zero=>
   simp only[Dy,aN]at hj hc;subst hj hc;exact k1.app
  |succ j=>
   simp only[uf]at hj hc;have:=q2 j p' cs' hj hc;unfold wR at this⊢;rw[<- List.append_assoc];exact this
def all_flatten:∀{css:ae (ae ah)},(∀cs∈css,cs.all cellV=true)->css.flatten.all cellV=true
 |[],_=>rfl
 |cs::css,h=>by
  simp only[VK,List.all_append,eP];exact⟨h cs (dD ..),all_flatten λc hc=>h c (dB _ hc)⟩
def X7{ss:ae Nat}{ps:ae (aD×ae ah×(DataW H×ae MemPlace))}{css:ae (ae ah)}(hlen:cs.length=ss.sum)(hps:ps.map (·.2.1)=cuts ss cs)
 (hcl:css.length=ps.length) (hk:∀(j:Nat) p cs',ps[j]? =some p->css[j]? =some cs'->wR P W L0 M p.1 p.2.1 cs' p.2.2.1) (hsz:(cuts ss cs).map List.length=ss):
 aW (lS (L0++M)) css.flatten cs/\css.flatten.all cellV=true/\cuts ss css.flatten=css:=by
 have hv:∀(j:Nat) a b,css[j]? =some a->(cuts ss cs)[j]? =some b->aW (lS (L0++M)) a b:=λj a b ha hb=>by
  rw[<- hps,bU]at hb;cases e:ps[j]? with
  |none=>rw[e]at hb;cases hb
  |some p=>rw[e]at hb;cases hb;exact(hk j p a e ha).1
 have hl2:css.length=(cuts ss cs).length:=by rw[hcl,<- hps,aR]
 refine⟨?_,?_,?_⟩
 .have:=aW.flatten hl2 hv;rw[X6 ss cs hlen]at this;exact this
 .refine all_flatten λc hc=>?_;obtain⟨j,hj⟩:=iM hc;have hjl:j<ps.length:=by rw[<- hcl];exact(aV.1 hj).1
  exact(hk j ps[j] c (bG hjl) hj).2.1
 .apply Q5;rw[<- hsz];apply iH;intro j;rw[bU,bU];cases e1:css[j]? with
  |none=>
   rw[dW (by rw[<- hl2];exact adP.1 e1)]
  |some a=>
   have hj:j<(cuts ss cs).length:=by rw[<- hl2];exact(aV.1 e1).1
   rw[bG hj];have:=(hv j a _ e1 (bG hj)).length;simp only[lq];rw[this]
def Jd:∀(ss:ae Nat) (cs:ae ah),cs.length=ss.sum->(cuts ss cs).map List.length=ss
 |[],_,_=>rfl
 |s::ss,cs,h=>by
  simp only[List.sum_cons]at h;simp only[cuts,fA];rw[Jd ss (cs.drop s) tj];congr 1;rw[fU];omega
variable{a:Addr}{n:Nat}
def Q8{base:Nat}(h:W.cells? base a n=some cs):cs.length=n/\∀(j:Nat) v,cs[j]? =some v->W.cell? (a.add j)=some v:=by
 obtain⟨_,h2,h3⟩:=World.cells?_some h;refine⟨h2,λj v hj=>?_⟩;have hjn:j<n:=by rw[<- h2];exact(aV.1 hj).1
 rw[<- hj];exact(h3 j hjn)
def ahf(ih:∀t cs x,K t->DataW.trod enc P W 0 (λ_=>true) true n t cs=some x->∀L0:Lay,∃M cs',wR P W L0 M t cs cs' x.1/\qO W L0 M)
 {t:aD} {fs:Array Field} {cs:ae ah} {xs:ae (DataW H×ae MemPlace)} (ht:P.underlying t=some (.struct fs)) (hf:∀f∈fs.toList,K f.type)
 (ho:fs.toList.map (·.offset)=sums 0 (fs.toList.map λf=>P.cellsOf f.type)) (hs:P.cellsOf t=(fs.toList.map λf=>P.cellsOf f.type).sum)
 (hlen:cs.length=P.cellsOf t) (hxl:xs.length=fs.size)
 (hx:∀(i:Nat) (f:Field),fs[i]? =some f->DataW.trod enc P W 0 (λ_=>true) true n f.type ((cs.drop f.offset).take (P.cellsOf f.type))=xs[i]?) (L0:Lay):
 ∃M cs',wR P W L0 M t cs cs' (.agg (xs.map (·.1)))/\qO W L0 M:=by
 let ss:=fs.toList.map λf=>P.cellsOf f.type
 let ps:ae (aD×ae ah×(DataW H×ae MemPlace)):=(fs.toList.zip xs).map λq=>(q.1.type,(cs.drop q.1.offset).take (P.cellsOf q.1.type),q.2)
 have hps:∀(j:Nat) p,ps[j]? =some p->∃f x,fs[j]? =some f/\xs[j]? =some x/\p=(f.type,(cs.drop f.offset).take (P.cellsOf f.type),x):=λj p hj=>by
  simp only[ps,bU,VL,kg]at hj;obtain⟨⟨f,x⟩,⟨h1,h2⟩,rfl⟩:=hj;exact⟨f,x,by rw[<- zZ];exact h1,h2,rfl⟩
 have hoff:∀(j:Nat) f,fs[j]? =some f->(sums 0 ss)[j]? =some f.offset/\ss[j]? =some (P.cellsOf f.type):=λj f hj=>by
  have hj':fs.toList[j]? =some f:=by rw[zZ];exact hj
  refine⟨?_,?_⟩
  .show(sums 0 (fs.toList.map λf=>P.cellsOf f.type))[j]? =_;rw[<- ho,bU,hj'];rfl
  .show(fs.toList.map λf=>P.cellsOf f.type)[j]? =_;rw[bU,hj'];rfl
 have hsum:cs.length=ss.sum:=hlen.trans hs;have hpl:ps.length=fs.size:=by
  simp only[ps,aR,List.length_zip,hxl,Array.length_toList,Nat.min_self]
 have hcut:ps.map (·.2.1)=cuts ss cs:=by
  apply iH;intro j;rw[bU];have hcl:(cuts ss cs).length=fs.size:=by
   exact oA
  cases e:ps[j]? with
  |none=>
   have:=adP.1 e;rw[dW s6];rfl
  |some p=>
   obtain⟨f,x,h1,h2,rfl⟩:=hps j p e;obtain⟨q1,q2⟩:=hoff j f h1;rw[(Cs ss cs 0 j f.offset _ q1 q2).1];rfl
 obtain⟨M,css,k1,k2,k3⟩:=Q7 ih ps (λp hp=>by
  obtain⟨j,hj⟩:=iM hp;obtain⟨f,x,h1,h2,rfl⟩:=hps j p hj;have hm:f∈fs.toList:=aT (by rw[zZ];exact h1:fs.toList[j]? =some f);exact⟨hf f hm,by rw[hx j f h1,h2]⟩) L0
 obtain⟨v1,v2,v3⟩:=X7 hsum hcut k1 k2 (Jd ss cs hsum);refine⟨M,css.flatten,⟨v1,v2,?_⟩,k3⟩;refine .struct ht (by rw[<- v1.length,hlen]) (by rw[aR,hxl]) ?_;intro j f d hj hd;rw[bU]at hd;cases ex:xs[j]? with
 |none=>rw[ex]at hd;cases hd
 |some x=>
  rw[ex]at hd;cases hd;obtain⟨q1,q2⟩:=hoff j f hj;have hg:=(Cs ss css.flatten 0 j f.offset _ q1 q2).1;rw[v3,xN]at hg;have gD:ps[j]? =some (f.type,(cs.drop f.offset).take (P.cellsOf f.type),x):=by
   have hj':fs.toList[j]? =some f:=by rw[zZ];exact hj
   simp only[ps,bU,VL,kg];exact⟨(f,x),⟨hj',ex⟩,rfl⟩
  exact(k2 j _ _ gD hg).2.2
def LU(s:Nat):∀(n o0 j:Nat),j<n->(sums o0 (List.replicate n s))[j]? =some (o0+j*s)/\(List.replicate n s)[j]? =some s
 |0,o0,j,h=>by omega
 |n+1,o0,0,h=>by simp[xO,sums]
 |n+1,o0,j+1,h=>by
  obtain⟨h1,h2⟩:=LU s n (o0+s) j s6;simp only[xO,sums,uf];refine⟨?_,h2⟩;rw[h1,Nat.succ_mul];congr 1;omega
def X8(ih:∀t cs x,K t->DataW.trod enc P W 0 (λ_=>true) true n t cs=some x->∀L0:Lay,∃M cs',wR P W L0 M t cs cs' x.1/\qO W L0 M)
 {e:aD} {m:Nat} {cs:ae ah} {xs:ae (DataW H×ae MemPlace)} (he:K e) (hlen:cs.length=m*P.cellsOf e) (hxl:xs.length=m)
 (hx:∀(i:Nat),i<m->DataW.trod enc P W 0 (λ_=>true) true n e ((cs.drop (i*P.cellsOf e)).take (P.cellsOf e))=xs[i]?) (L0:Lay):
 ∃(M:Lay) (cs':ae ah),aW (lS (L0++M)) cs' cs/\cs'.all cellV=true/\(∀(j:Nat) d,(xs.map (·.1))[j]? =some d->jg P (mh (L0++M)) e ((cs'.drop (j*P.cellsOf e)).take (P.cellsOf e)) d)/\qO W L0 M:=by
 let ss:=List.replicate m (P.cellsOf e)
 let ps:ae (aD×ae ah×(DataW H×ae MemPlace)):=(List.range m).zip xs|>.map λq=>(e,(cs.drop (q.1*P.cellsOf e)).take (P.cellsOf e),q.2)
 have hps:∀(j:Nat) p,ps[j]? =some p->∃x,j<m/\xs[j]? =some x/\p=(e,(cs.drop (j*P.cellsOf e)).take (P.cellsOf e),x):=λj p hj=>by
  simp only[ps,bU,VL,kg]at hj;obtain⟨⟨i,x⟩,⟨h1,h2⟩,rfl⟩:=hj;have hjm:j<m:=by rw[<- hxl];exact(aV.1 h2).1
  rw[oI hjm]at h1;cases h1;exact⟨x,hjm,h2,rfl⟩
 have hsum:cs.length=ss.sum:=by rw[hlen];simp[ss,List.sum_replicate_nat]
 have hcut:ps.map (·.2.1)=cuts ss cs:=by
  apply iH;intro j;rw[bU];have hcl:(cuts ss cs).length=m:=by
   exact oA
  cases ep:ps[j]? with
  |none=>
   have h1:=adP.1 ep;have h2:ps.length=m:=by simp only[ps,aR,List.length_zip,hxl,nG,Nat.min_self]
   rw[dW s6];rfl
  |some p=>
   obtain⟨x,h1,h2,rfl⟩:=hps j p ep;obtain⟨q1,q2⟩:=LU (P.cellsOf e) m 0 j h1;rw[(Cs ss cs 0 j _ _ q1 q2).1];simp
 obtain⟨M,css,k1,k2,k3⟩:=Q7 ih ps (λp hp=>by
  obtain⟨j,hj⟩:=iM hp;obtain⟨x,h1,h2,rfl⟩:=hps j p hj;exact⟨he,by rw[hx j h1,h2]⟩) L0
 obtain⟨v1,v2,v3⟩:=X7 hsum hcut k1 k2 (Jd ss cs hsum);refine⟨M,css.flatten,v1,v2,?_,k3⟩;intro j d hd;rw[bU]at hd;cases ex:xs[j]? with
 |none=>rw[ex]at hd;cases hd
 |some x=>
  rw[ex]at hd;cases hd;have hjm:j<m:=by rw[<- hxl];exact(aV.1 ex).1
  obtain⟨q1,q2⟩:=LU (P.cellsOf e) m 0 j hjm;have hg:=(Cs ss css.flatten 0 j _ _ q1 q2).1;rw[v3,eB,xN]at hg;have gD:ps[j]? =some (e,(cs.drop (j*P.cellsOf e)).take (P.cellsOf e),x):=by
   simp only[ps,bU,VL,kg];exact⟨(j,x),⟨oI hjm,ex⟩,rfl⟩
  exact(k2 j _ _ gD hg).2.2
def X9(hs:a.spot=none)(j:Nat):a.add j=⟨a.block,a.off+j,none⟩:=by
 obtain⟨ab,ao,sp⟩:=a;simp only at hs;subst hs;by_cases h:j=0
 .subst h;simp[Addr.add]
 .simp[Addr.add,h]
def cell_spot{v:ah}(h:W.cell? a=some v):a.spot=none/\∃c t fz,W.heap[a.block]? =some (.cells c t fz):=by
 unfold World.cell? at h;split at h
 .rename_i c t fz hb;split at h
  .cases h
  .rename_i hsp;refine⟨?_,c,t,fz,hb⟩;cases e:a.spot with
   |none=>rfl
   |some x=>rw[e]at hsp;exact absurd rfl hsp
 .cases h
def ahg{s m:Nat}(hs:0<s)(h:∀i,i<m->∃c,W.cells? 0 (a.add (i*s)) s=some c):
 ∃cs:ae ah,cs.length=m*s/\(∀i,i<m->W.cells? 0 (a.add (i*s)) s=some ((cs.drop (i*s)).take s)):=by
 let css:=(List.range m).map λi=>(W.cells? 0 (a.add (i*s)) s).getD []
 have hget:∀i,i<m->∃c,W.cells? 0 (a.add (i*s)) s=some c/\css[i]? =some c/\c.length=s:=λi hi=>by
  obtain⟨c,hc⟩:=h i hi;refine⟨c,hc,?_,(Q8 hc).1⟩;simp only[css,bU,oI hi,lq,hc,yV]
 have hcl:css.length=m:=by simp[css]
 have hlen:css.map List.length=List.replicate m s:=by
  apply iH;intro j;by_cases hj:j<m
  .obtain⟨c,_,h2,h3⟩:=hget j hj;rw[bU,h2,HY,if_pos hj];simp[h3]
  .rw[dW tU,dW tc]
 refine⟨css.flatten,?_,λi hi=>?_⟩
 .rw[List.length_flatten,hlen,List.sum_replicate_nat]
 .obtain⟨c,h1,h2,_⟩:=hget i hi;obtain⟨q1,q2⟩:=LU s m 0 i hi;have:=(Cs _ css.flatten 0 i _ _ q1 q2).1;rw[Q5 _ css hlen,h2,eB,xN]at this;rw[h1,Option.some.inj this]
def Ya(hK:∀t,K t->PlainT P K t):∀(n:Nat) (t:aD) (cs:ae ah) (x:DataW H×ae MemPlace),K t->DataW.trod enc P W 0 (λ_=>true) true n t cs=some x->
 ∀L0:Lay,∃M cs',wR P W L0 M t cs cs' x.1/\qO W L0 M
 |0,t,cs,x,_,h,_=>by simp[DataW.trod]at h
 |n+1,t,cs,x,hT,h,L0=>by
  have ih:=Ya hK n;cases hK t hT with
  |bool ht=>
   obtain⟨b,rfl,rfl⟩:=DataW.trod_bool ht h;exact⟨[],[.bool b],⟨.cons (.bool b) .nil,rfl,.bool ht⟩,.nil⟩
  |int k ht=>
   obtain⟨m,rfl,rfl,hw⟩:=DataW.trod_int ht h;exact⟨[],[.int k m],⟨.cons (.int k m) .nil,rfl,.int ht hw⟩,.nil⟩
  |string ht=>
   obtain⟨s,rfl,rfl,hs⟩:=DataW.trod_string ht h;exact⟨[],[.string s],⟨.cons (.string s) .nil,rfl,.string ht hs⟩,.nil⟩
  |struct fs ht hf ho hs=>
   obtain⟨xs,m,hm,rfl,hl,hxl,hx⟩:=DataW.trod_struct ht h;cases hm;exact ahf ih ht hf ho hs hl hxl hx L0
  |array m e ht he hs=>
   obtain⟨xs,k,hk,rfl,hl,hxl,hx⟩:=Go.DataW.trod_array ht h;cases hk;obtain⟨M,cs',v1,v2,v3,v4⟩:=X8 ih he (hl.trans hs) hxl hx L0;exact⟨M,cs',⟨v1,v2,.array ht (by rw[<- v1.length,hl]) (by rw[aR,hxl]) v3⟩,v4⟩
  |slice e ht he hs=>
   rcases DataW.trod_slice ht h with⟨rfl,rfl⟩|⟨a,len,cap,elems,rest,k,hk,rfl,rfl,_,hlc,hcm,hel,hes,hsp,_⟩
   .exact⟨[],[.slice none 0 0],⟨.cons (.sl0 0 0) .nil,rfl,.nil ht⟩,.nil⟩
   cases hk;obtain⟨hrl,hrs⟩:=hsp rfl;have hcells:∀i,i<len->∃c y,W.cells? 0 (a.add (i*P.cellsOf e)) (P.cellsOf e)=some c/\elems[i]? =some y/\DataW.trod enc P W 0 (λ_=>true) true n e c=some y:=λi hi=>by
    have h1:=hes i hi;have hi':i<elems.length:=s6
    rw[bG hi',Option.bind_eq_some_iff]at h1;obtain⟨c,h2,h3⟩:=h1;exact⟨c,_,h2,bG hi',h3⟩
   obtain⟨wcs,hwl,hwc⟩:=ahg (W:=W) (a:=a) (m:=len) hs (λi hi=>let⟨c,_,h1,_⟩:=hcells i hi;⟨c,h1⟩);obtain⟨M,cs',v1,v2,v3,v4⟩:=X8 ih (cs:=wcs) (xs:=elems) he hwl hel (λi hi=>by
    obtain⟨c,y,h1,h2,h3⟩:=hcells i hi;rw[hwc i hi]at h1;rw[Option.some.inj h1,h3,h2]) L0
   have AQ:0<cap->∃v,W.cell? a=some v:=λhc=>by
    have key:∀c,W.cells? 0 (a.add (0*P.cellsOf e)) (P.cellsOf e)=some c->∃v,W.cell? a=some v:=λc h1=>by
     rw[Ff]at h1;have h0:a.add 0=a:=by simp[Addr.add]
     rw[h0]at h1;obtain⟨q1,q2⟩:=Q8 h1;have hc0:0<c.length:=s6
     have:=q2 0 c[0] (bG hc0);rw[h0]at this;exact⟨_,this⟩
    by_cases hl0:0<len
    .obtain⟨c,_,h1,_⟩:=hcells 0 hl0;exact key c h1
    .have h1:=hrs 0 s6;have hr0:0<rest.length:=by omega
     rw[bG hr0,Option.bind_eq_some_iff]at h1;obtain⟨c,h2,_⟩:=h1;have hz:len+0=0:=s6
     rw[hz]at h2;exact key c h2
   let g:je:=⟨a.block,a.off,len*P.cellsOf e,0,0⟩
   let en:ak je×ak (ae ah):=(some g,if len=0 then none else some cs')
   have hidx:(L0++(M++[en]))[(L0++M).length]? =some en:=by
    rw[<- List.append_assoc,jP (aZ _)];simp
   have pX:VR (lS (L0++(M++[en]))) (.slice (some ⟨(L0++M).length,0,some 0⟩) len cap) (.slice (some a) len cap):=by
    refine .az (g:=g) ?_ rfl hlc ?_
    .unfold lS;rw[hidx];rfl
    .by_cases hc:cap=0
     .exact .inl hc
     .obtain⟨v,hv⟩:=AQ s6;exact .inr ⟨rfl,(cell_spot hv).1⟩
   refine⟨M++[en],[.slice (some ⟨(L0++M).length,0,some 0⟩) len cap],⟨.cons pX .nil,rfl,?_⟩,?_⟩
   .refine .slice ht ⟨hlc,hcm⟩ (by rw[aR,hel]) (cells:=cs') ?_ ?_
    .by_cases hl0:len=0
     .exact .inl hl0
     .right;refine ag9 (g:=some g) ?_;rw[hidx];simp only[en,if_neg hl0]
    .intro j d hj;have:=v3 j d hj;rw[<- List.append_assoc];exact this.mono λi cs hc=>Q6 hc
   .refine v4.app ?_;intro i g' c hi hget;have hi2:i=(L0++M).length:=by
     have:=(aV.1 hget).1;rw[eF]at this;simp at this hi⊢;omega
    subst hi2;rw[List.append_assoc,hidx]at hget;simp only[en,aN,dH]at hget;obtain⟨rfl,hc⟩:=hget;split at hc
    .cases hc
    .rename_i hl0;cases hc;obtain⟨v0,hv0⟩:=AQ s6;obtain⟨hspot,hblk⟩:=cell_spot hv0;refine⟨let⟨c,t,fz,e⟩:=hblk;⟨c,t,fz,e,.inl rfl⟩,rfl,v2,λj v hj=>?_⟩;obtain⟨v',hj',hv⟩:=v1.get hj;refine⟨v',?_,hv.mono (LQ _ _)⟩;show W.cell? ⟨a.block,a.off+j,none⟩=some v';have hjl:j<len*P.cellsOf e:=by rw[<- hwl];exact(aV.1 hj').1
     have hq:j/P.cellsOf e<len:=(VM hs).2 hjl;have hm:=wu j hs;have Ct:=Nat.div_add_mod j (P.cellsOf e);have hcell:=(Q8 (hwc _ hq)).2 (j%P.cellsOf e) v' (by
      rw[rE,if_pos hm,jU,<- hj'];congr 1;rw[Fe];exact Ct)
     rw[X9 hspot]at hcell;rw[X9 rfl]at hcell;simp only at hcell;rw[<- hcell];congr 2;rw[l5,Fe,Ct]
end
end Go.Ideal
namespace Go.Ideal
open Go.ChangeShapes Go.WideShapes Go.ChangeAt Go.RowKit
def Yb(P:Program)(ts:ae aD):Bool:=ts.all λt=>match P.underlying t with
 |some .bool=>true
 |some (.int _)=>true
 |some .string=>true
 |some (.slice e)=>ts.contains e&&Nat.blt 0 (P.cellsOf e)
 |some (.struct fs)=>fs.toList.all (λf=>ts.contains f.type)&&(fs.toList.map (·.offset)==sums 0 (fs.toList.map λf=>P.cellsOf f.type))&&P.cellsOf t==(fs.toList.map λf=>P.cellsOf f.type).sum
 |some (.array n e)=>ts.contains e&&P.cellsOf t==n*P.cellsOf e
 |_=>false
def Yc{P:Program}{ts:ae aD}(h:Yb P ts=true):∀t,t∈ts->PlainT P (·∈ts) t:=λt ht=>by
 unfold Yb at h;rw[jy]at h;have h:=h t ht;split at h
 .rename_i hu;exact .bool hu
 .rename_i k hu;exact .int k hu
 .rename_i hu;exact .string hu
 .rename_i e hu;simp only[eP]at h;exact .slice e hu (KN.1 h.1) (FY h.2)
 .rename_i fs hu;simp only[eP,jy,beq_iff_eq]at h;exact .struct fs hu (λf hf=>KN.1 (h.1.1 f hf)) h.1.2 h.2
 .rename_i n e hu;simp only[eP,beq_iff_eq]at h;exact .array n e hu (KN.1 h.1) h.2
 .cases h
section
variable {H:Type} {enc:aD×ah->H} {P:Program} {W:World} {K:aD->Prop}
def Cu(P:Program)(h:IH)(t:aD)(v:ah)(d:DataW H):Prop:=
 ∃cs,jg P h t cs d/\cs.all cellV=true/\(cs=[v]\/v=.agg ⟨cs⟩)
def Cu.app{L M:Lay}{t:aD}{v:ah}{d:DataW H}(r:Cu P (mh L) t v d):Cu P (mh (L++M)) t v d:=by
 obtain⟨cs,h1,h2,h3⟩:=r;exact⟨cs,h1.mono λi cs hc=>Q6 hc,h2,h3⟩
def ahi(hK:∀t,K t->PlainT P K t){t:aD}{v:ah}{d:DataW H}{p:ae MemPlace}(hT:K t)(hok:Value.okWide P W .any 0 t v)(h:DataW.Trod enc P W 0 (λ_=>true) true t v d p)(L0:Lay):
 ∃M v',VR (lS (L0++M)) v' v/\Cu P (mh (L0++M)) t v' d/\qO W L0 M:=by
 obtain⟨n,hn⟩:=h;obtain⟨M,cs',⟨h1,h2,h3⟩,h4⟩:=Ya hK n t _ _ hT hn L0;have agg:∀cs,v=.agg cs->∃M v',VR (lS (L0++M)) v' v/\Cu P (mh (L0++M)) t v' d/\qO W L0 M:=λcs e=>by
  subst e;obtain⟨l⟩:=cs;exact⟨M,.agg ⟨cs'⟩,.agg h2 h1,⟨cs',h3,h2,.inr rfl⟩,h4⟩
 have one:v.cells= #[v]->∃M v',VR (lS (L0++M)) v' v/\Cu P (mh (L0++M)) t v' d/\qO W L0 M:=λe=>by
  rw[e]at h1;match cs',h1,h2,h3 with
  |[v'],.cons h1 .nil,h2,h3=>exact⟨M,v',h1,⟨[v'],h3,h2,.inl rfl⟩,h4⟩
 cases hv:v with
 |agg cs=>rw[<- hv];exact agg cs hv
 |_=>rw[<- hv];exact one (by rw[hv];rfl)
def Yd(hK:∀t,K t->PlainT P K t):∀{ts:ae aD} {vs:ae ah} {ds:ae (DataW H)} {ps:ae MemPlace},(∀t∈ts,K t)->(∀(j:Nat) t v,ts[j]? =some t->vs[j]? =some v->Value.okWide P W .any 0 t v)->
 DataW.TrodAll enc P W 0 (λ_=>true) true ts vs ds ps->∀L0:Lay,∃(M:Lay) (vs':ae ah),aW (lS (L0++M)) vs' vs/\
  (∀(j:Nat) t v d,ts[j]? =some t->vs'[j]? =some v->ds[j]? =some d->Cu P (mh (L0++M)) t v d)/\qO W L0 M
 |[],[],[],_,_,_,_,L0=>⟨[],[],.nil,(λj t v d h=>by cases h),.nil⟩
 |t::ts,v::vs,d::ds,_,hT,hok,⟨p,q,h1,h2,_⟩,L0=>by
  obtain⟨M1,v',a1,a2,a3⟩:=ahi hK (hT t (dD ..)) (hok 0 t v rfl rfl) h1 L0;obtain⟨M2,vs',b1,b2,b3⟩:=Yd hK (λt ht=>hT t (dB _ ht)) (λj t v hj hv=>hok (j+1) t v hj hv) h2 (L0++M1);rw[List.append_assoc]at b1 b2;refine⟨M1++M2,v'::vs',.cons ?_ b1,?_,a3.app b3⟩
  .rw[<- List.append_assoc];exact a1.mono (LQ _ _)
  .intro j t' w d' hj hw hd;cases j with
   |zero=>
    simp only[Dy,aN]at hj hw hd;subst hj hw hd;rw[<- List.append_assoc];exact a2.app
   |succ j=>exact b2 j t' w d' hj hw hd
end
section
variable {H:Type} {P:Program} {h:IH} {t e:aD} {cs:ae ah} {d:DataW H}
def jg.mP{k:IntKind}(ht:P.underlying t=some (.int k))(r:jg P h t cs d):∃n,cs=[.int k n]/\d=.lit (.int k n)/\(Lit.int k n).wf=true:=by
 cases r with
 |int ht' hw=>rw[ht]at ht';cases ht';exact⟨_,rfl,rfl,hw⟩
 |bool ht'=>rw[ht]at ht';cases ht'
 |string ht'=>rw[ht]at ht';cases ht'
 |nil ht'=>rw[ht]at ht';cases ht'
 |slice ht'=>rw[ht]at ht';cases ht'
 |struct ht'=>rw[ht]at ht';cases ht'
 |array ht'=>rw[ht]at ht';cases ht'
def jg.Lh(ht:P.underlying t=some .bool)(r:jg P h t cs d):∃b,cs=[.bool b]/\d=.lit (.bool b):=by
 cases r with
 |bool ht'=>exact⟨_,rfl,rfl⟩
 |int ht' hw=>rw[ht]at ht';cases ht'
 |string ht'=>rw[ht]at ht';cases ht'
 |nil ht'=>rw[ht]at ht';cases ht'
 |slice ht'=>rw[ht]at ht';cases ht'
 |struct ht'=>rw[ht]at ht';cases ht'
 |array ht'=>rw[ht]at ht';cases ht'
def jg.D8(ht:P.underlying t=some .string)(r:jg P h t cs d):∃s:ByteArray,cs=[.string s]/\d=.lit (.string s.data.toList)/\s.size<=maxLen:=by
 cases r with
 |string ht' hs=>exact⟨_,rfl,rfl,hs⟩
 |bool ht'=>rw[ht]at ht';cases ht'
 |int ht' hw=>rw[ht]at ht';cases ht'
 |nil ht'=>rw[ht]at ht';cases ht'
 |slice ht'=>rw[ht]at ht';cases ht'
 |struct ht'=>rw[ht]at ht';cases ht'
 |array ht'=>rw[ht]at ht';cases ht'
def jg.oJ(ht:P.underlying t=some (.slice e))(r:jg P h t cs d):
 (cs=[.slice none 0 0]/\d=.nil)\/∃i n c cells els rest,cs=[.slice (some ⟨i,0,some 0⟩) n c]/\d=.slice els rest/\(n<=c/\c<=maxLen)/\els.length=n/\(n=0\/Cells h i cells)/\
   ∀(k:Nat) d,els[k]? =some d->jg P h e ((cells.drop (k*P.cellsOf e)).take (P.cellsOf e)) d:=by
 cases r with
 |nil ht'=>exact .inl ⟨rfl,rfl⟩
 |slice ht' hn hl hc hel=>rw[ht]at ht';cases ht';exact .inr ⟨_,_,_,_,_,_,rfl,rfl,hn,hl,hc,hel⟩
 |string ht'=>rw[ht]at ht';cases ht'
 |bool ht'=>rw[ht]at ht';cases ht'
 |int ht' hw=>rw[ht]at ht';cases ht'
 |struct ht'=>rw[ht]at ht';cases ht'
 |array ht'=>rw[ht]at ht';cases ht'
def jg.Ye{fs:Array Field}(ht:P.underlying t=some (.struct fs))(r:jg P h t cs d):
 ∃ds,d=.agg ds/\cs.length=P.cellsOf t/\ds.length=fs.size/\∀(j:Nat) f d,fs[j]? =some f->ds[j]? =some d->jg P h f.type ((cs.drop f.offset).take (P.cellsOf f.type)) d:=by
 cases r with
 |struct ht' hl hd hf=>rw[ht]at ht';cases ht';exact⟨_,rfl,hl,hd,hf⟩
 |array ht'=>rw[ht]at ht';cases ht'
 |nil ht'=>rw[ht]at ht';cases ht'
 |slice ht'=>rw[ht]at ht';cases ht'
 |string ht'=>rw[ht]at ht';cases ht'
 |bool ht'=>rw[ht]at ht';cases ht'
 |int ht' hw=>rw[ht]at ht';cases ht'
def Q9:DataW H->Int
 | .lit (.int _ n)=>n
 |_=>0
def jg.ints{v:ah}(ht:P.underlying t=some (.slice e))(he:P.underlying e=some (.int .i64))(hc:P.cellsOf e=1)(r:jg P h t [v] d):∃xs,AL h v xs/\∀x∈xs, -9223372036854775808<=x/\x<9223372036854775808:=by
 rcases r.oJ ht with⟨e1,_⟩|⟨i,n,c,cells,els,rest,e1,_,hn,hl,hcl,hel⟩
 .injection e1 with e1;exact⟨[],.inl ⟨rfl,none,0,0,e1,rfl⟩,s7⟩
 .injection e1 with e1;subst e1;have each:∀(k:Nat) d,els[k]? =some d->cells[k]? =some (.int .i64 (Q9 d))/\(Lit.int .i64 (Q9 d)).wf=true:=λk d hk=>by
   have:=hel k d hk;rw[hc,lK]at this;obtain⟨m,h1,h2,h3⟩:=this.mP he;subst h2;refine⟨?_,h3⟩;have h4:((cells.drop k).take 1)[0]? =some (.int .i64 m):=by rw[h1];rfl
   rw[rE,if_pos s6,jU]at h4;exact h4
  refine⟨els.map Q9,?_,?_⟩
  .rcases hcl with h0|hcl
   .left;refine⟨?_,_,_,_,rfl,h0⟩;have:els=[]:=j6.1 s6;rw[this];rfl
   .right;refine⟨i,0,0,c,cells,by rw[aR,hl],hcl,λk x hk=>?_⟩;rw[bU]at hk;cases ek:els[k]? with
    |none=>rw[ek]at hk;cases hk
    |some d=>
     rw[ek]at hk;cases hk;rw[eB];exact(each k d ek).1
  .intro x hx;obtain⟨d,hd,rfl⟩:=bS.1 hx;obtain⟨k,hk⟩:=iM hd;have:=(each k d hk).2;simp only[Lit.wf,IntKind.min,IntKind.max,IntKind.signed,IntKind.bits,eP,z8]at this;simp at this;omega
end
end Go.Ideal
namespace Canon
structure F7{α:Type}(c:α->α->Int):Prop where
 zero:∀a b,c a b=0↔a=b
 neg:∀a b,c a b<0↔0<c b a
 trans:∀a b d,c a b<0->c b d<0->c a d<0
def dx(a b:Int):Int:=if a<b then -1 else if b<a then 1 else 0
def vH:F7 dx where
 zero a b:=by unfold dx;split<;>(try split)<;>omega
 neg a b:=by unfold dx;split<;>(try split)<;>(try split)<;>(try split)<;>omega
 trans a b d h1 h2:=by
  unfold dx at h1 h2⊢;split at h1<;>(try split at h1)<;>split at h2<;>(try split at h2)<;>first|omega|(rw[if_pos s6];omega)
def dN{α:Type}(c:α->α->Int):ae α->ae α->Int
 |[],[]=>0
 |[],_::_=> -1
 |_::_,[]=>1
 |a::l,b::m=>if c a b≠0 then c a b else dN c l m
def vI{α:Type}{c:α->α->Int}(h:F7 c):F7 (dN c) where
 zero:=by
  intro a;induction a with
  |nil=>intro b;cases b<;>simp[dN]
  |cons x l ih=>
   intro b;cases b with
   |nil=>simp[dN]
   |cons y m=>
    simp only[dN];by_cases e:c x y=0
    .rw[if_neg tt,ih m];have:=(h.zero x y).1 e;subst this;simp
    .rw[if_pos e];constructor
     .intro q;exact absurd q e
     .intro q;injection q with q1 q2;exact absurd ((h.zero x y).2 q1) e
 neg:=by
  intro a;induction a with
  |nil=>intro b;cases b<;>simp[dN]
  |cons x l ih=>
   intro b;cases b with
   |nil=>simp[dN]
   |cons y m=>
    simp only[dN];by_cases e:c x y=0
    .have e2:=(h.zero x y).1 e;subst e2;rw[if_neg tt,if_neg tt];exact ih m
    .have e2:c y x≠0:=λq=>e ((h.zero x y).2 ((h.zero y x).1 q).symm);rw[if_pos e,if_pos e2];exact h.neg x y
 trans:=by
  intro a;induction a with
  |nil=>
   intro b d h1 h2;cases b with
   |nil=>simp[dN]at h1
   |cons y m=>cases d with
    |nil=>simp[dN]at h2
    |cons z n=>simp[dN]
  |cons x l ih=>
   intro b d h1 h2;cases b with
   |nil=>simp[dN]at h1
   |cons y m=>cases d with
    |nil=>simp[dN]at h2
    |cons z n=>
     simp only[dN]at h1 h2⊢;by_cases e1:c x y=0
     .have:=(h.zero x y).1 e1;subst this;rw[if_neg (by simpa using e1)]at h1;by_cases e2:c x z=0
      .rw[if_neg (by simpa using e2)]at h2⊢;exact ih m n h1 h2
      .rw[if_pos e2]at h2⊢;exact h2
     .rw[if_pos e1]at h1;by_cases e2:c y z=0
      .have:=(h.zero y z).1 e2;subst this;rw[if_pos e1];exact h1
      .rw[if_pos e2]at h2;have:=h.trans x y z h1 h2;rw[if_pos s6];exact this
structure Clue where
 aS:Int
 at_:Int
 values:List Int
instance:DecidableEq Clue:=λa b=>decidable_of_iff (a.aS=b.aS/\a.at_=b.at_/\a.values=b.values) (by cases a;cases b;simp)
def jD(a b:Clue):Int:=if dx a.aS b.aS≠0 then dx a.aS b.aS else if dx a.at_ b.at_≠0 then dx a.at_ b.at_ else dN dx a.values b.values
def Yf(a b:Clue):jD a b=if dN dx [a.aS,a.at_] [b.aS,b.at_]≠0 then dN dx [a.aS,a.at_] [b.aS,b.at_]else dN dx a.values b.values:=by
 simp only[jD,dN];by_cases h1:dx a.aS b.aS=0
 .by_cases h2:dx a.at_ b.at_=0
  .simp[h1,h2]
  .simp[h1,h2]
 .simp[h1]
def LV(a b:Clue):jD a b=dN dx (a.aS::a.at_::a.values) (b.aS::b.at_::b.values):=by
 simp only[jD,dN]
def yx:F7 jD where
 zero a b:=by
  rw[LV,(vI vH).zero];obtain⟨c,p,v⟩:=a;obtain⟨d,q,w⟩:=b;simp
 neg a b:=by rw[LV,LV];exact(vI vH).neg _ _
 trans a b d h1 h2:=by rw[LV]at h1 h2⊢;exact(vI vH).trans _ _ _ h1 h2
abbrev kX:=dN jD
def AU:F7 kX:=vI yx
end Canon
namespace Go.Ideal
open Canon (Clue)
def Ei(h:IH)(v:ah)(l:ae Clue):Prop:=
 (l=[]/\∃a m c,v=.slice a m c/\m=0)\/
 ∃i o f c cells,v=.slice (some ⟨i,o,some f⟩) l.length c/\Cells h i cells/\∀(k:Nat) g,l[k]? =some g->
  ∃vv,cells[o+k*3]? =some (.int .i64 g.aS)/\cells[o+k*3+1]? =some (.int .i64 g.at_)/\cells[o+k*3+2]? =some vv/\AL h vv g.values
variable{h:IH}{v:ah}{l:ae Clue}
def Ei.agree{h':IH}(a:Ei h v l)(g:Agree h h'):Ei h' v l:=by
 rcases a with h1|⟨i,o,f,c,cs,h1,h2,h3⟩
 .exact .inl h1
 .refine .inr ⟨i,o,f,c,cs,h1,h2.agree g,λk x hk=>?_⟩;obtain⟨vv,q1,q2,q3,q4⟩:=h3 k x hk;exact⟨vv,q1,q2,q3,q4.agree g⟩
def Ei.form(a:Ei h v l):∃b c,v=.slice b l.length c:=by
 exact lR
section
variable {H:Type} {P:Program} {h:IH} {t e u z:aD} {d:DataW H}
variable{v:ah}
def jg.bV{f0 f1 f2:Field}(ht:P.underlying t=some (.slice e))(he:P.underlying e=some (.struct #[f0,f1,f2]))(hf0:f0.type=z/\f0.offset=0)(hf1:f1.type=z/\f1.offset=1)
 (hf2:f2.type=u/\f2.offset=2) (hz:P.underlying z=some (.int .i64)) (hcz:P.cellsOf z=1) (hu:P.underlying u=some (.slice z)) (hcu:P.cellsOf u=1) (hce:P.cellsOf e=3)
 (r:jg P h t [v] d):∃l,Ei h v l:=by
 rcases r.oJ ht with⟨e1,_⟩|⟨i,n,c,cells,els,rest,e1,_,hn,hl,hcl,hel⟩
 .injection e1 with e1;exact⟨[],.inl ⟨rfl,none,0,0,e1,rfl⟩⟩
 .injection e1 with e1;subst e1;have each:∀(k:Nat) d,els[k]? =some d->∃g:Clue,∃vv,cells[k*3]? =some (.int .i64 g.aS)/\cells[k*3+1]? =some (.int .i64 g.at_)/\cells[k*3+2]? =some vv/\AL h vv g.values:=λk d hk=>by
   have r1:=hel k d hk;rw[hce]at r1;obtain⟨ds,rfl,hlen,hdl,hf⟩:=r1.Ye he;match ds,hdl with
   |[d0,d1,d2],_=>
    have a0:=hf 0 f0 d0 rfl rfl;have a1:=hf 1 f1 d1 rfl rfl;have a2:=hf 2 f2 d2 rfl rfl;rw[hf0.1,hf0.2,hcz]at a0;rw[hf1.1,hf1.2,hcz]at a1;rw[hf2.1,hf2.2,hcu]at a2;rw[hce]at hlen;match hrow:(cells.drop (k*3)).take 3,hlen with
    |[x,y,w],_=>
     rw[hrow]at a0 a1 a2;obtain⟨m0,b0,_,_⟩:=a0.mP hz;obtain⟨m1,b1,_,_⟩:=a1.mP hz;obtain⟨xs,b2,_⟩:=jg.ints (v:=w) hu hz hcz a2;injection b0 with b0;injection b1 with b1;have hg:∀j,j<3->cells[k*3+j]? =[x,y,w][j]?:=λj hj=>by
      rw[<- hrow,rE,if_pos hj,jU]
     refine⟨⟨m0,m1,xs⟩,w,?_,?_,?_,b2⟩
     .have:=hg 0 s6;rw[<- b0];exact this
     .have:=hg 1 s6;rw[<- b1];exact this
     .exact hg 2 s6
  have build:∀m,m<=els.length->∃l:ae Clue,l.length=m/\∀(k:Nat) g,l[k]? =some g->∃vv,cells[k*3]? =some (.int .i64 g.aS)/\cells[k*3+1]? =some (.int .i64 g.at_)/\cells[k*3+2]? =some vv/\AL h vv g.values:=by
   intro m;induction m with
   |zero=>intro _;exact⟨[],rfl,λk g hk=>by cases hk⟩
   |succ m ih=>
    intro hm;obtain⟨l,q1,q2⟩:=ih s6;obtain⟨g,vv,q3⟩:=each m els[m] (bG s6);refine⟨l++[g],by simp[q1],λk g' hk=>?_⟩;by_cases hkm:k<l.length
    .rw[jL hkm]at hk;exact q2 k g' hk
    .rw[jP s6]at hk;have hk0:k - l.length=0:=by
      have:=(aV.1 hk).1;simp at this;omega
     rw[hk0]at hk;simp only[Dy,aN]at hk;subst hk;have:k=m:=s6
     subst this;exact⟨vv,q3⟩
  obtain⟨l,q1,q2⟩:=build els.length (aZ _);refine⟨l,?_⟩;rcases hcl with h0|hcl
  .left;exact⟨j6.1 s6,_,_,_,rfl,h0⟩
  .right;refine⟨i,0,0,c,cells,by rw[q1,hl],hcl,λk g hk=>?_⟩;simpa using q2 k g hk
def Ra(h:IH)(v:ah)(l:ae Clue):Prop:=∃w,v=.agg ⟨[w]⟩/\Ei h w l
def Ra.agree{h h':IH}{l:ae Clue}(a:Ra h v l)(g:Agree h h'):Ra h' v l:=by
 obtain⟨w,e,k⟩:=a;exact⟨w,e,k.agree g⟩
end
end Go.Ideal
namespace Go.Ideal
variable {P:Program}
structure Wd where
 h:IH
 z:Nat->Prop
 nN:∀i,z i->i<h.next
structure Wd.Le(w w':Wd):Prop where
 next:w.h.next<=w'.h.next
 z:∀i,w.z i->w'.z i
 get:∀i,w.z i->w'.h.get i=w.h.get i
def Wd.Le.refl(w:Wd):w.Le w:=⟨aZ _,λ_ h=>h,λ_ _=>rfl⟩
variable{w w':Wd}
def Wd.Le.trans{w'':Wd}(a:w.Le w')(b:w'.Le w''):w.Le w'':=
 ⟨oH a.next b.next,λi h=>b.z i (a.z i h),λi h=>(b.get i (a.z i h)).trans (a.get i h)⟩
structure aI where
 p:Wd->Prop
 mono:∀{w w':Wd},w.Le w'->p w->p w'
def Fz(w:Wd)(b:Nat)(cs:ae ah):Prop:=w.z b/\(w.h.get b=some (.cells cs)\/w.h.get b=some (.jV cs))
def Fz.mono(a:w.Le w'){b:Nat}{cs:ae ah}(h:Fz w b cs):Fz w' b cs:=⟨a.z b h.1,by rw[a.get b h.1];exact h.2⟩
def Fz.cells{b:Nat}{cs:ae ah}(h:Fz w b cs):Cells w.h b cs:=⟨w.nN b h.1,h.2⟩
def bW(b o:Nat)(cs:ae ah):aI:=
 ⟨λw=>∃cells,Fz w b cells/\∀(j:Nat) u,cs[j]? =some u->cells[o+j]? =some u,λa ⟨cells,h1,h2⟩=>⟨cells,h1.mono a,h2⟩⟩
structure Enc(α:Type) where
 n:Nat
 Y:Type
 pat:α->Y->List Value
 fs:α->Y->List aI
 len:∀a y,(pat a y).length=n
def Rb(n:Nat):ak Addr->Prop
 |none=>True
 |some ⟨_,_,some f⟩=>f=0\/f=n
 |some ⟨_,_,none⟩=>False
def aj{α:Type}(E:Enc α)(v:ah)(xs:ae α):aI:=
 ⟨λw=>(xs=[]/\∃a c,v=.slice a 0 c/\Rb E.n a)\/∃i o f c cells,(v=.slice (some ⟨i,o,some f⟩) xs.length c/\xs.length<=c/\(f=0\/f=E.n))/\Fz w i cells/\
  ∀(k:Nat) x,xs[k]? =some x->∃y,(∀(j:Nat) u,(E.pat x y)[j]? =some u->cells[o+k*E.n+j]? =some u)/\∀f∈E.fs x y,f.p w,
  λa h=>by
   rcases h with h|⟨i,o,f,c,cells,h1,h2,h3⟩
   .exact .inl h
   .refine .inr ⟨i,o,f,c,cells,h1,h2.mono a,λk x hk=>?_⟩;obtain⟨y,q1,q2⟩:=h3 k x hk;exact⟨y,q1,λf hf=>f.mono a (q2 f hf)⟩⟩
def ai:Enc Int:=⟨1,Unit,λx _=>[.int .i64 x],λ_ _=>[],λ_ _=>rfl⟩
def sP:Enc Bool:=⟨1,Unit,λx _=>[.bool x],λ_ _=>[],λ_ _=>rfl⟩
def jR:Enc ByteArray:=⟨1,Unit,λx _=>[.string x],λ_ _=>[],λ_ _=>rfl⟩
def az{α:Type}(E:Enc α):Enc (ae α):=⟨1,ah,λ_ v=>[v],λxs v=>[aj E v xs],λ_ _=>rfl⟩
structure OA where
 p:Wd->List Nat->Prop
 loc:∀{w w':Wd} {S:List Nat},w.Le w'->(∀i∈S,w'.h.get i=w.h.get i)->p w S->p w' S
def pt(b:Nat)(o:dL):OA:=⟨λw S=>S=[b]/\w.h.get b=some o,λa h ⟨h1,h2⟩=>⟨h1,by rw[h b tn];exact h2⟩⟩
def ap{α:Type}(E:Enc α)(v:ah)(xs:ae α):OA:=
 ⟨λw S=>(xs=[]/\v=.slice none 0 0/\S=[])\/∃b o f cells,v=.slice (some ⟨b,o,some f⟩) xs.length xs.length/\(f=0\/f=E.n)/\S=[b]/\w.h.get b=some (.cells cells)/\cells.length=o+xs.length*E.n/\
  ∀(k:Nat) x,xs[k]? =some x->∃y,(∀(j:Nat) u,(E.pat x y)[j]? =some u->cells[o+k*E.n+j]? =some u)/\∀f∈E.fs x y,f.p w,
  λa h hp=>by
   rcases hp with hp|⟨b,o,f,cells,h1,h2,h3,h4,h5,h6⟩
   .exact .inl hp
   .refine .inr ⟨b,o,f,cells,h1,h2,h3,by rw[h b ya];exact h4,h5,λk x hk=>?_⟩;obtain⟨y,q1,q2⟩:=h6 k x hk;exact⟨y,q1,λf hf=>f.mono a (q2 f hf)⟩⟩
def gq(w:Wd):ae OA->ae Nat->Prop
 |[],S=>S=[]
 |A::kl,S=>∃S1 S2,A.p w S1/\gq w kl S2/\S=S1++S2
def gq.loc{w w':Wd}(a:w.Le w'):∀{kl:ae OA} {S:ae Nat},(∀i∈S,w'.h.get i=w.h.get i)->gq w kl S->gq w' kl S
 |[],S,_,h=>h
 |A::kl,S,hs,⟨S1,S2,h1,h2,e⟩=>⟨S1,S2,A.loc a (λi hi=>hs i (by rw[e];exact jl _ hi)) h1,gq.loc a (λi hi=>hs i (by rw[e];exact nD _ hi)) h2,e⟩
def gq.app:∀{k1 k2:ae OA} {S1 S2:ae Nat},gq w k1 S1->gq w k2 S2->gq w (k1++k2) (S1++S2)
 |[],k2,S1,S2,h1,h2=>by
  have h1:S1=[]:=h1;subst h1;exact h2
 |A::k1,k2,_,S2,⟨T1,T2,q1,q2,e⟩,h2=>⟨T1,T2++S2,q1,q2.app h2,by rw[e,List.append_assoc]⟩
inductive aB{α:Type}(A:α):List α->List α->Prop
 |here {l:List α}:aB A (A::l) l
 |there {C:α} {l l':List α} (h:aB A l l'):aB A (C::l) (C::l')
inductive aF{α:Type}:List α->List α->List α->Prop
 |nil {l:List α}:aF [] l l
 |cons {A:α} {k l l' l'':List α} (h:aB A l l') (h2:aF k l' l''):aF (A::k) l l''
def aB.app{α:Type}{A:α}{l l':ae α}(h:aB A l l'):∀k:ae α,aB A (k++l) (k++l')
 |[]=>h
 |_::k=>.there (aB.app h k)
def aF.self{α:Type}:∀k r:ae α,aF k (k++r) r
 |[],_=>.nil
 |_::k,r=>.cons .here (aF.self k r)
variable{α:Type}
def aF.all(k:ae α):aF k k []:=by
 have:=aF.self k []
 rwa [gW]at this
def aF.there{k l l':ae α}(A:α)(h:aF k l l'):aF k (A::l) (A::l'):=by
 exact oR
def gq.fI{w:Wd}{A:OA}:∀{kl kl':ae OA} {S:ae Nat},aB A kl kl'->gq w kl S->∃S',gq w (A::kl') S'/\S.Perm S'
 |_,_,S,.here,h=>⟨S,h,.refl _⟩
 |_,_,_,.there s,⟨S1,S2,h1,h2,e⟩=>by
  obtain⟨S',⟨T1,T2,q1,q2,e'⟩,hp⟩:=gq.fI s h2;subst e e';refine⟨T1++(S1++T2),⟨T1,_,q1,⟨S1,T2,h1,q2,rfl⟩,rfl⟩,?_⟩;have:(S1++S2).Perm (S1++(T1++T2)):=hp.append_left S1;refine this.trans ?_;exact lA
def gq.lF{w:Wd}:∀{k kl kl':ae OA} {S:ae Nat},aF k kl kl'->gq w kl S->∃S1 S2,gq w k S1/\gq w kl' S2/\S.Perm (S1++S2)
 |_,_,_,S,.nil,h=>⟨[],S,rfl,h,.refl _⟩
 |_,_,_,S,.cons s r,h=>by
  obtain⟨S',⟨T1,T2,q1,q2,e⟩,hp⟩:=h.fI s;obtain⟨U1,U2,u1,u2,hu⟩:=gq.lF r q2;subst e;exact⟨T1++U1,U2,⟨T1,U1,q1,u1,rfl⟩,u2,hp.trans (by rw[List.append_assoc];exact hu.append_left T1)⟩
inductive Sub{α:Type}:List α->List α->Prop
 |nil {l:List α}:Sub [] l
 |cons {a:α} {k l:List α} (h:a∈l) (h2:Sub k l):Sub (a::k) l
def Sub.mem:∀{k l:ae α},Sub k l->∀x∈k,x∈l
 |_,_,.nil,x,hx=>by cases hx
 |_,_,.cons h h2,x,hx=>by
  cases hx with
  |head=>exact h
  |tail _ hx=>exact h2.mem x hx
structure ahk(B:List Nat)(h h':IH):Prop where
 next:h.next<=h'.next
 get:∀i,i<h.next->i∉B->h'.get i=h.get i
 low:h.low<=h.next->(∀b∈B,h.low<=b)->h'.low=h.low
structure St(B:List Nat)(w0:Wd)(kl:List OA)(F:List aI)(w:Wd):Prop where
 agree:ahk B w0.h w.h
 le:w0.Le w
 fH:∀i,i<w0.h.next->w.z i->w0.z i\/i∈B
 own:∃S,gq w kl S/\S.Nodup/\∀i∈S,(w0.h.next<=i\/i∈B)/\i<w.h.next/\¬w.z i
 facts:∀f∈F,f.p w
section
variable {B:ae Nat} {w0 w:Wd} {kl:ae OA} {F:ae aI}
variable{kl' k:ae OA}
def St.lF(s:aF k kl kl')(h:St B w0 kl F w):St B w0 (k++kl') F w:=by
 obtain⟨S,h1,h2,h3⟩:=h.own;obtain⟨S1,S2,q1,q2,hp⟩:=h1.lF s;exact⟨h.agree,h.le,h.fH,⟨S1++S2,q1.app q2,hp.nodup h2,λi hi=>h3 i (hp.mem_iff.2 hi)⟩,h.facts⟩
variable{A:OA}
def St.fI(s:aB A kl kl')(h:St B w0 kl F w):St B w0 (A::kl') F w:=h.lF (.cons s .nil)
def St.drop(h:St B w0 (k++kl') F w):St B w0 k F w:=by
 obtain⟨S,h1,h2,h3⟩:=h.own;have:∀{k:ae OA} {S:ae Nat},gq w (k++kl') S->∃S1 S2,gq w k S1/\S=S1++S2:=by
  intro k;induction k with
  |nil=>intro S hS;exact⟨[],S,rfl,rfl⟩
  |cons A k ih=>
   rintro S ⟨T1,T2,q1,q2,e⟩;obtain⟨S1,S2,u1,u2⟩:=ih q2;exact⟨T1++S1,S2,⟨T1,S1,q1,u1,rfl⟩,by rw[e,u2,List.append_assoc]⟩
 obtain⟨S1,S2,q1,e⟩:=this h1;subst e;exact⟨h.agree,h.le,h.fH,⟨S1,q1,(jA.1 h2).1,λi hi=>h3 i (jl _ hi)⟩,h.facts⟩
variable{F':ae aI}
def St.sub(s:Sub F' F)(h:St B w0 kl F w):St B w0 kl F' w:=⟨h.agree,h.le,h.fH,h.own,λf hf=>h.facts f (s.mem f hf)⟩
def St.add(h:St B w0 kl F w)(hf:∀f∈F',f.p w):St B w0 kl (F'++F) w:=
 ⟨h.agree,h.le,h.fH,h.own,λf h1=>(fq.1 h1).elim (hf f) (h.facts f)⟩
variable{b:Nat}{o:dL}
def St.get(h:St B w0 (pt b o::kl) F w):w.h.get b=some o/\b<w.h.next/\(w0.h.next<=b\/b∈B):=by
 obtain⟨S,⟨S1,S2,⟨e1,q1⟩,_,e⟩,h2,h3⟩:=h.own;have hb:b∈S:=by rw[e,e1];simp
 exact⟨q1,(h3 b hb).2.1,(h3 b hb).1⟩
def St.at_(s:aB (pt b o) kl kl')(h:St B w0 kl F w):At w.h b o:=⟨(h.fI s).get.2.1,(h.fI s).get.1⟩
noncomputable def Wd.new(w:Wd)(o:dL):Wd:=⟨w.h.new o,w.z,λi hi=>Po (w.nN i hi)⟩
def St.new(h:St B w0 kl F w)(o:dL):St B w0 (pt w.h.next o::kl) F (w.new o):=by
 have hg:∀i,i<w.h.next->(w.h.new o).get i=w.h.get i:=λi hi=>by rw[IH.jq,if_neg s6]
 have hle:w.Le (w.new o):=⟨Dw _,λ_ h=>h,λi hi=>hg i (w.nN i hi)⟩
 obtain⟨S,h1,h2,h3⟩:=h.own;refine⟨⟨Nat.le_succ_of_le h.agree.next,λi hi hb=>(hg i (pu hi h.agree.next)).trans (h.agree.get i hi hb),λa b=>h.agree.low a b⟩,h.le.trans hle,h.fH,
  ⟨[w.h.next]++S,⟨[w.h.next],S,⟨rfl,by show(w.h.new o).get _=_;rw[IH.jq,if_pos rfl]⟩,gq.loc hle (λi hi=>hg i (h3 i hi).2.1) h1,rfl⟩,?_,?_⟩,λf hf=>f.mono hle (h.facts f hf)⟩
 .exact rh
 .intro i hi;rcases fq.1 hi with hi|hi
  .rw[bA.1 hi];exact⟨.inl h.agree.next,zY _,λhz=>absurd (w.nN _ hz) (Pd _)⟩
  .exact⟨(h3 i hi).1,Po (h3 i hi).2.1,(h3 i hi).2.2⟩
variable{o':dL}
def St.write(h:St B w0 (pt b o::kl) F w):St B w0 (pt b o'::kl) F ⟨w.h.set b o',w.z,λi hi=>w.nN i hi⟩:=by
 obtain⟨S,⟨S1,S2,⟨e1,q1⟩,q2,e⟩,h2,h3⟩:=h.own;subst e e1;have hb:=h3 b s7;have hn:b∉S2:=λhm=>(Ac.1 h2).1 hm;have hg:∀i,i≠b->(w.h.set b o').get i=w.h.get i:=λi hi=>by rw[IH.nJ,if_neg hi]
 have hle:w.Le ⟨w.h.set b o',w.z,λi hi=>w.nN i hi⟩:=⟨aZ _,λ_ h=>h,λi hi=>hg i (λe=>hb.2.2 (e▸hi))⟩
 refine⟨⟨h.agree.next,λi hi hB=>(hg i ?_).trans (h.agree.get i hi hB),λa c=>?_⟩,h.le.trans hle,h.fH,
  ⟨[b]++S2,⟨[b],S2,⟨rfl,by show(w.h.set b o').get b=_;rw[IH.nJ,if_pos rfl]⟩,gq.loc hle (λi hi=>hg i (λe=>hn (e▸hi))) q2,rfl⟩,h2,h3⟩,λf hf=>f.mono hle (h.facts f hf)⟩
 .exact rK
 .have hl:=h.agree.low a c;show(w.h.set b o').low=_;rw[IH.FD,hl];rcases hb.1 with q|q
  .omega
  .have:=c b q;omega
def St.move{h':IH}(h:St B w0 (pt b o::kl) F w)(m:Cr w.h h' b o'):∃w':Wd,w'.h=h'/\St B w0 (pt w.h.next o'::kl) F w'/\w.Le w':=by
 obtain⟨S,⟨S1,S2,⟨e1,q1⟩,q2,e⟩,h2,h3⟩:=h.own;subst e e1;have hb:=h3 b s7;have hn:b∉S2:=λhm=>(Ac.1 h2).1 hm;let w':Wd:=⟨h',w.z,λi hi=>by rw[m.next];exact Po (w.nN i hi)⟩
 have hle:w.Le w':=⟨by show _<=h'.next;rw[m.next];exact Dw _,λ_ h=>h,λi hi=>m.get i (w.nN i hi) (λe=>hb.2.2 (e▸hi))⟩
 refine⟨w',rfl,⟨⟨by show _<=h'.next;rw[m.next];exact Nat.le_succ_of_le h.agree.next,λi hi hB=>(m.get i (pu hi h.agree.next) ?_).trans (h.agree.get i hi hB),λa c=>?_⟩,h.le.trans hle,h.fH,
  ⟨[w.h.next]++S2,⟨[w.h.next],S2,⟨rfl,m.at_.2⟩,gq.loc hle (λi hi=>m.get i (h3 i wq).2.1 (λe=>hn (e▸hi))) q2,rfl⟩,?_,?_⟩,λf hf=>f.mono hle (h.facts f hf)⟩,hle⟩
 .exact rK
 .have hl:=h.agree.low a c;rw[<- hl];refine m.low ?_;rw[hl];rcases hb.1 with q|q
  .omega
  .exact c b q
 .refine Ac.2 ⟨λhm=>?_,(Ac.1 h2).2⟩;have:=(h3 _ (dB _ hm)).2.1;omega
 .intro i hi;have hnx:w'.h.next=w.h.next+1:=m.next
  rcases fq.1 hi with hi|hi
  .rw[bA.1 hi];exact⟨.inl h.agree.next,s6,λhz=>absurd (w.nN _ hz) (Pd _)⟩
  .have:=h3 i wq;exact⟨this.1,s6,this.2.2⟩
variable{A':OA}
def St.Cv(hA:∀w S,A.p w S->A'.p w S)(h:St B w0 (A::kl) F w):St B w0 (A'::kl) F w:=by
 obtain⟨S,⟨S1,S2,q1,q2,e⟩,h2,h3⟩:=h.own;exact⟨h.agree,h.le,h.fH,⟨S,⟨S1,S2,hA w S1 q1,q2,e⟩,h2,h3⟩,h.facts⟩
def St.zo(h:St B w0 (A::kl) F w)(hA:∀S,A.p w S->A'.p w S):St B w0 (A'::kl) F w:=by
 obtain⟨S,⟨S1,S2,q1,q2,e⟩,h2,h3⟩:=h.own;exact⟨h.agree,h.le,h.fH,⟨S,⟨S1,S2,hA S1 q1,q2,e⟩,h2,h3⟩,h.facts⟩
def St.tail(h:St B w0 (A::kl) F w):St B w0 kl F w:=by
 obtain⟨S,⟨S1,S2,q1,q2,e⟩,h2,h3⟩:=h.own;subst e;exact⟨h.agree,h.le,h.fH,⟨S2,q2,(jA.1 h2).2.1,λi hi=>h3 i (nD _ hi)⟩,h.facts⟩
def oK(A:OA)(fs:ae aI):Prop:=∀(w w':Wd) S,A.p w S->w.Le w'->w'.h=w.h->(∀i∈S,w'.z i)->∀f∈fs,f.p w'
def St.freeze{fs:ae aI}(hA:oK A fs)(h:St B w0 (A::kl) F w):∃w',w'.h=w.h/\St B w0 kl (fs++F) w':=by
 obtain⟨S,⟨S1,S2,q1,q2,e⟩,h2,h3⟩:=h.own;subst e;let w':Wd:=⟨w.h,λi=>w.z i\/i∈S1,λi hi=>hi.elim (w.nN i) λhi=>(h3 i (jl _ hi)).2.1⟩
 have hle:w.Le w':=⟨aZ _,λi hi=>.inl hi,λ_ _=>rfl⟩
 have hnd:=jA.1 h2;refine⟨w',rfl,h.agree,h.le.trans hle,λi hi hz=>?_,⟨S2,gq.loc hle (λ_ _=>rfl) q2,hnd.2.1,λi hi=>?_⟩,λf hf=>?_⟩
 .rcases hz with hz|hz
  .exact h.fH i hi hz
  .exact rp
 .exact kj
 .rcases fq.1 hf with hf|hf
  .exact hA w w' S1 q1 hle rfl (λi hi=>.inr hi) f hf
  .exact f.mono hle (h.facts f hf)
def jr{α:Type}{E:Enc α}{v:ah}{xs:ae α}:oK (ap E v xs) [aj E v xs]:=by
 intro w w' S hp hle hh hz f hf;rw[bA.1 hf];rcases hp with⟨h1,h2,_⟩|⟨b,o,f,cells,h1,h2,h3,h4,h5,h6⟩
 .exact .inl ⟨h1,none,0,h2,trivial⟩
 .refine .inr ⟨b,o,f,_,cells,⟨h1,aZ _,h2⟩,⟨hz b ya,.inl (by rw[hh];exact h4)⟩,λk x hk=>?_⟩;obtain⟨y,q1,q2⟩:=h6 k x hk;exact⟨y,q1,λf hf=>f.mono hle (q2 f hf)⟩
def ahl{cs:ae ah}:oK (pt b (.cells cs)) [bW b 0 cs]:=by
 intro w w' S ⟨h1,h2⟩ hle hh hz f hf;rw[bA.1 hf];exact⟨cs,⟨hz b tn,.inl tW⟩,λj u hj=>by rw[eB];exact hj⟩
variable{f c:Nat}
def qP{xs:ae Int}(hc:xs.length<=c:=by first|exact aZ _|omega)(hf:f=0\/f=1:=by first|exact .inl rfl|exact .inr rfl):oK (pt b (.cells (xs.map (.int .i64)))) [aj ai (.slice (some ⟨b,0,some f⟩) xs.length c) xs]:=by
 intro w w' S ⟨h1,h2⟩ hle hh hz g hg;rw[bA.1 hg];refine .inr ⟨b,0,f,c,_,⟨rfl,hc,hf⟩,⟨hz b tn,.inl tW⟩,λk x hk=>⟨(),λj u hj=>?_,λf hf=>by cases hf⟩⟩;match j,hj with
 |0,hj=>
  cases hj;simp[ai,hk]
def Yg{xs:ae Bool}(hc:xs.length<=c:=by first|exact aZ _|omega)(hf:f=0\/f=1:=by first|exact .inl rfl|exact .inr rfl):oK (pt b (.cells (xs.map .bool))) [aj sP (.slice (some ⟨b,0,some f⟩) xs.length c) xs]:=by
 intro w w' S ⟨h1,h2⟩ hle hh hz g hg;rw[bA.1 hg];refine .inr ⟨b,0,f,c,_,⟨rfl,hc,hf⟩,⟨hz b tn,.inl tW⟩,λk x hk=>⟨(),λj u hj=>?_,λf hf=>by cases hf⟩⟩;match j,hj with
 |0,hj=>
  cases hj;simp[sP,hk]
end
end Go.Ideal
namespace Go.Ideal
variable {P:Program}
def R(Q:IH->Prop)(B:ae Nat)(w0:Wd)(kl:ae OA)(F:ae aI):Prop:=∀w,St B w0 kl F w->Q w.h
structure dI(G G':Prop):Prop where
 h:G'->G
def dI.refl(G:Prop):dI G G:=⟨id⟩
variable{A B:Prop}
def dI.trans{C:Prop}(a:dI A B)(b:dI B C):dI A C:=⟨λc=>a.h (b.h c)⟩
def dI.all{X:Type}{A B:X->Prop}(h:∀x,dI (A x) (B x)):dI (∀x,A x) (∀x,B x):=⟨λb x=>(h x).h (b x)⟩
def dI.imp{p:Prop}(h:dI A B):dI (p->A) (p->B):=⟨λb x=>h.h (b x)⟩
def Pu(P:Program)(ρ:ay->ah)(op:aK)(v:ah):Prop:=∀h,op.run P ρ h=some (v,h)
inductive EvL(ρ:Operand->Value):List Operand->List Value->Prop
 |nil:EvL ρ [] []
 |cons {x:Operand} {v:Value} {xs:List Operand} {vs:List Value} (h:ρ x=v) (t:EvL ρ xs vs):EvL ρ (x::xs) (v::vs)
def EvL.map{ρ:ay->ah}:∀{xs:ae ay} {vs:ae ah},EvL ρ xs vs->xs.map ρ=vs
 |_,_,.nil=>rfl
 |_,_,.cons h t=>by rw[fA,h,t.map]
section
variable {ρ:ay->ah}
variable{x:ay}{v:ah}
def Je(hx:ρ x=v):Pu P ρ (.mv x) v:=λh=>by simp only[aK.run,hx]
def LW(hx:ρ x=v):Pu P ρ (.jm x) v:=λh=>by simp only[aK.run,hx]
variable{y:ay}
def LX{c:ay}(hc:ρ c=.bool true)(hx:ρ x=v):Pu P ρ (.pick c x y) v:=λh=>by simp only[aK.run,hc,hx,cond]
def LY{c:ay}(hc:ρ c=.bool false)(hx:ρ y=v):Pu P ρ (.pick c x y) v:=λh=>by simp only[aK.run,hc,hx,cond]
def LZ{b:Bool}(hx:ρ x=.bool b):Pu P ρ (.un .not x) (.bool !b):=λh=>by simp only[aK.run,hx];rfl
variable{m c:Nat}
def L6{a:ak Addr}(hx:ρ x=.slice a m c):Pu P ρ (.pR x) (.int .i64 (m:Int)):=λh=>by simp only[aK.run,hx,XY]
variable{n:Nat}
def L8:Pu P ρ (.K5 n) (.int .i64 (n:Int)):=λh=>rfl
variable{t:aD}{a b:Int}
def L9(hx:ρ x=.int .i64 a)(hy:ρ y=.int .i64 b):Pu P ρ (.bin .lss t x y) (.bool (decide (a<b))):=λh=>by
 simp only[aK.run,hx,hy];rw[AO (v:=.bool (decide (a<b)))];simp[rJ,wL,<- Int.not_le]
def Ma(hx:ρ x=.int .i64 a)(hy:ρ y=.int .i64 b):Pu P ρ (.bin .leq t x y) (.bool (decide (a<=b))):=λh=>by
 simp only[aK.run,hx,hy];rw[AO (v:=.bool (decide (a<=b)))];simp[rJ,wL]
def Mc(hx:ρ x=.int .i64 a)(hy:ρ y=.int .i64 b):Pu P ρ (.bin .gtr t x y) (.bool (decide (b<a))):=λh=>by
 simp only[aK.run,hx,hy];rw[AO (v:=.bool (decide (b<a)))];simp[rJ,wL,<- Int.not_le]
def Md(hx:ρ x=.int .i64 a)(hy:ρ y=.int .i64 b):Pu P ρ (.bin .geq t x y) (.bool (decide (b<=a))):=λh=>by
 simp only[aK.run,hx,hy];rw[AO (v:=.bool (decide (b<=a)))];simp[rJ,wL]
def Me(hx:ρ x=.int .i64 a)(hy:ρ y=.int .i64 b):Pu P ρ (.bin .eql t x y) (.bool (decide (a=b))):=λh=>by
 simp only[aK.run,hx,hy];rw[AO (v:=.bool (decide (a=b)))];simp[rJ,Iz];rfl
def Mf(hx:ρ x=.int .i64 a)(hy:ρ y=.int .i64 b):Pu P ρ (.bin .neq t x y) (.bool (decide (a≠b))):=λh=>by
 simp only[aK.run,hx,hy];rw[AO (v:=.bool (decide (a≠b)))];simp[rJ,Iz];rfl
def F8(hx:ρ x=.int .i64 a)(hy:ρ y=.int .i64 b)(h1: -9223372036854775808<=a+b)(h2:a+b<9223372036854775808):Pu P ρ (.bin .add t x y) (.int .i64 (a+b)):=λh=>by
 simp only[aK.run,hx,hy];rw[AO (v:=.int .i64 (a+b))];simp only[rJ,PZ,Jb h1 h2]
def Mg(hx:ρ x=.int .i64 a)(hy:ρ y=.int .i64 b)(h1: -9223372036854775808<=a - b)(h2:a - b<9223372036854775808):Pu P ρ (.bin .sub t x y) (.int .i64 (a - b)):=λh=>by
 simp only[aK.run,hx,hy];rw[AO (v:=.int .i64 (a - b))];simp only[rJ,WK,Jb h1 h2]
def Mh{i:Nat}{vs:ae ah}(hx:ρ x=.tuple ⟨vs⟩)(hv:lC vs i=some v):Pu P ρ (.extract x i) v:=λh=>by simp only[aK.run,hx,hv]
variable{o off:Nat}
def Mi{b:Nat}(hx:ρ x=.pointer (some ⟨b,o,none⟩)):Pu P ρ (.gU off x) (.pointer (some ⟨b,o+off,none⟩)):=λh=>by simp only[aK.run,hx];rfl
variable{cs:ae ah}
def Mj(hx:ρ x=.agg ⟨cs⟩)(hv:lC cs off=some v):Pu P ρ (.field t off n false x) v:=λh=>by simp only[aK.run,hx,hv]
def Mk{r:ae ah}(hx:ρ x=.agg ⟨cs⟩)(hv:jM (kw cs off) n=some r):Pu P ρ (.field t off n true x) (.agg ⟨r⟩):=λh=>by simp only[aK.run,hx,hv]
def Ml(hx:ρ x=v):Pu P ρ (.iface t x) (.iface t v):=λh=>by simp only[aK.run,hx]
def Mm{zero:ah}(hx:ρ x=.iface t v):Pu P ρ (.K3 t zero false x) v:=λh=>by
 simp only[aK.run,hx];show cond (Nat.beq t t) _ _=_;rw[HV];rfl
def ahm{zero:ae ah}{parts:ae (Nat×Nat×ay)}(hx:vB ρ zero parts=some cs):Pu P ρ (.build zero parts) (.agg ⟨cs⟩):=λh=>by simp only[aK.run,hx]
def Mo{a:Addr}(hx:ρ x=.pointer (some a)):Pu P ρ (.nI x) (.pointer (some a)):=λh=>by simp only[aK.run,hx]
def Mq{f:fO}{a b:Array ah}(hx:ρ x=.func (.func f) a b):Pu P ρ (.nI x) (.func (.func f) a b):=λh=>by simp only[aK.run,hx]
def ahn{fn:Fn}{first captured:ae ay}{a b:ae ah}(h1:EvL ρ first a)(h2:EvL ρ captured b):Pu P ρ (.DJ fn first captured) (.func fn ⟨a⟩ ⟨b⟩):=λh=>by
 simp only[aK.run,zg,h1.map,h2.map]
variable{i:ay}{k:Int}{size:Nat}{kk:IntKind}{f:ak Nat}
def Jf{b:Nat}(hx:ρ x=.slice (some ⟨b,o,f⟩) m c)(hi:ρ i=.int kk k)(h0:0<=k)(h1:k<m):
 Pu P ρ (.jw size x i) (.pointer (some ⟨b,o+k.toNat*size,none⟩)):=λh=>by
 obtain⟨j,rfl⟩:=gV h0;simp only[aK.run,hx,hi];show cond (Nat.blt j m) _ _=_;rw[QZ s6];rfl
def Mr{b k:Nat}(hx:ρ x=.slice (some ⟨b,o,f⟩) m c)(hi:ρ i=.int kk (.ofNat k))(h1:Nat.blt k m=true):
 Pu P ρ (.jw size x i) (.pointer (some ⟨b,o+k*size,none⟩)):=λh=>by
 simp only[aK.run,hx,hi,h1];rfl
def Ms{b:Nat}(hx:ρ x=.pointer (some ⟨b,o,none⟩))(hi:ρ i=.int kk k)(h0:0<=k)(h1:k<m):
 Pu P ρ (.PG m size x i) (.pointer (some ⟨b,o+k.toNat*size,none⟩)):=λh=>by
 obtain⟨j,rfl⟩:=gV h0;simp only[aK.run,hx,hi];show cond (Nat.blt j m) _ _=_;rw[QZ s6];rfl
end
section
variable {B:ae Nat} {w0:Wd} {kl kl':ae OA} {F:ae aI} {a:bi} {K:KO}
def aho{x y:dz}:dI (R (λh=>EV P (.seq x y) a h K) B w0 kl F) (R (λh=>EV P x a h (Cq P y K)) B w0 kl F):=⟨λr w s=>agT (r w s)⟩
variable{id:Nat}{c:dz}
def ahp:dI (R (λh=>EV P (.block id c) a h K) B w0 kl F) (R (λh=>EV P c a h (AJ id K)) B w0 kl F):=⟨λr w s=>agU (r w s)⟩
variable{ds:ae Tmp}
def ahq{l:ae bN}:dI (R (λh=>EV P (.ops ds l) a h K) B w0 kl F) (R (λh=>aM P ds l a h K) B w0 kl F):=⟨λr w s=>.ops (r w s)⟩
def ahr:dI (R (λh=>EV P (.scope c) a h K) B w0 kl F) (R (λh=>EV P c a h K) B w0 kl F):=⟨λr w s=>.scope (r w s)⟩
def ahs:dI (R (λh=>EV P .skip a h K) B w0 kl F) (R (λh=>K .normal a h) B w0 kl F):=⟨λr w s=>.skip (r w s)⟩
def aht:dI (R (λh=>EV P (.exit id) a h K) B w0 kl F) (R (λh=>K (.exit id) a h) B w0 kl F):=⟨λr w s=>.exit (r w s)⟩
def ahu:dI (R (λh=>EV P .ret a h K) B w0 kl F) (R (λh=>K .ret a h) B w0 kl F):=⟨λr w s=>.ret (r w s)⟩
def ahv:dI (R (λh=>aM P ds [] a h K) B w0 kl F) (R (λh=>K .normal a h) B w0 kl F):=⟨λr w s=>.nil (r w s)⟩
variable {y:dz} {i j m0:Nat} {I:Nat->bi->IH->Prop} {ch:ae PanicEntry}
def ahw:dI (R (λh=>Cq P y K .normal a h) B w0 kl F) (R (λh=>EV P y a h K) B w0 kl F):=⟨λr w s=>r w s⟩
def ahx:dI (R (λh=>Cq P y K .ret a h) B w0 kl F) (R (λh=>K .ret a h) B w0 kl F):=⟨λr w s=>r w s⟩
def ahy:dI (R (λh=>Cq P y K (.exit j) a h) B w0 kl F) (R (λh=>K (.exit j) a h) B w0 kl F):=⟨λr w s=>r w s⟩
def ahz:dI (R (λh=>Cq P y K (.panic ch) a h) B w0 kl F) (R (λh=>K (.panic ch) a h) B w0 kl F):=⟨λr w s=>r w s⟩
def ahA:dI (R (λh=>AJ i K .normal a h) B w0 kl F) (R (λh=>K .normal a h) B w0 kl F):=⟨λr w s=>r w s⟩
def ahB:dI (R (λh=>AJ i K .ret a h) B w0 kl F) (R (λh=>K .ret a h) B w0 kl F):=⟨λr w s=>r w s⟩
def ahC:dI (R (λh=>AJ i K (.panic ch) a h) B w0 kl F) (R (λh=>K (.panic ch) a h) B w0 kl F):=⟨λr w s=>r w s⟩
def ahD(e:Nat.beq j i=true):dI (R (λh=>AJ i K (.exit j) a h) B w0 kl F) (R (λh=>K .normal a h) B w0 kl F):=⟨λr w s=>ag3 e (r w s)⟩
def ahE(e:Nat.beq j i=false):dI (R (λh=>AJ i K (.exit j) a h) B w0 kl F) (R (λh=>K (.exit j) a h) B w0 kl F):=⟨λr w s=>ag4 e (r w s)⟩
def ahF:dI (R (λh=>yu I m0 K .ret a h) B w0 kl F) (R (λh=>K .ret a h) B w0 kl F):=⟨λr w s=>r w s⟩
def ahG:dI (R (λh=>yu I m0 K (.exit j) a h) B w0 kl F) (R (λh=>K (.exit j) a h) B w0 kl F):=⟨λr w s=>r w s⟩
def ahH:dI (R (λh=>yu I m0 K (.panic ch) a h) B w0 kl F) (R (λh=>K (.panic ch) a h) B w0 kl F):=⟨λr w s=>r w s⟩
end
section
variable {B:ae Nat} {w0:Wd} {kl kl':ae OA} {F:ae aI} {K:KO} {ds:ae Tmp} {rest:ae bN} {n:Nat} {l:qr} {D:ae Deferred} {pm:ak FrameMode} {ro:ak Nat} {d:Nat} {g:ak (Tmp×Bool)}
variable{c:ay}{y:dz}
def ahI{x:dz}(hc:ev l c=.bool true):dI (R (λh=>EV P (.cond c x y) (act n l D pm ro) h K) B w0 kl F) (R (λh=>EV P x (act n l D pm ro) h K) B w0 kl F):=
 ⟨λr w s=>I9 true hc (λ_=>r w s) (λe=>by cases e)⟩
def ahJ{x:dz}(hc:ev l c=.bool false):dI (R (λh=>EV P (.cond c x y) (act n l D pm ro) h K) B w0 kl F) (R (λh=>EV P y (act n l D pm ro) h K) B w0 kl F):=
 ⟨λr w s=>I9 false hc (λe=>by cases e) (λ_=>r w s)⟩
variable{p:Prop}
def p9{x:dz}[Decidable p](hc:ev l c=.bool (decide p))(h1:p->R (λh=>EV P x (act n l D pm ro) h K) B w0 kl F)(h2:¬p->R (λh=>EV P y (act n l D pm ro) h K) B w0 kl F):
 R (λh=>EV P (.cond c x y) (act n l D pm ro) h K) B w0 kl F:=
 λw s=>I9 _ hc (λe=>h1 (ko e) w s) (λe=>h2 (uZ e) w s)
def sQ{x:dz}[Decidable p](hc:ev l c=.bool (!decide p))(h1:¬p->R (λh=>EV P x (act n l D pm ro) h K) B w0 kl F)(h2:p->R (λh=>EV P y (act n l D pm ro) h K) B w0 kl F):
 R (λh=>EV P (.cond c x y) (act n l D pm ro) h K) B w0 kl F:=
 λw s=>I9 _ hc (λe=>h1 tt w s) (λe=>h2 tt w s)
def Cw{x:dz}{b:Bool}(hc:ev l c=.bool b)(h1:b=true->R (λh=>EV P x (act n l D pm ro) h K) B w0 kl F)(h2:b=false->R (λh=>EV P y (act n l D pm ro) h K) B w0 kl F):
 R (λh=>EV P (.cond c x y) (act n l D pm ro) h K) B w0 kl F:=
 λw s=>I9 _ hc (λe=>h1 e w s) (λe=>h2 e w s)
variable{op:aK}
def ahK{re:ae jc}(hn:Nat.blt d n=true)(hg:F4 l g=true):dI (R (λh=>aM P ds (⟨⟨some d,g,op⟩,re⟩::rest) (act n l D pm ro) h K) B w0 kl F) (R (λh=>aM P ds rest (act n ((d,wF)::l) D pm ro) h K) B w0 kl F):=
 ⟨λr w s=>ag1 hn hg (r w s)⟩
variable{v:ah}
def cZ(hn:Nat.blt d n=true)(hg:bO l g=true)(hp:Pu P (ev l) op v):dI (R (λh=>aM P ds (⟨⟨some d,g,op⟩,[]⟩::rest) (act n l D pm ro) h K) B w0 kl F) (R (λh=>aM P ds rest (act n ((d,v)::l) D pm ro) h K) B w0 kl F):=
 ⟨λr w s=>mV hn hg (hp w.h) (r w s)⟩
def ahL(hn:Nat.blt d n=true)(hg:bO l g=true)(hp:∀w,St B w0 kl F w->op.run P (ev l) w.h=some (v,w.h)):dI (R (λh=>aM P ds (⟨⟨some d,g,op⟩,[]⟩::rest) (act n l D pm ro) h K) B w0 kl F) (R (λh=>aM P ds rest (act n ((d,v)::l) D pm ro) h K) B w0 kl F):=
 ⟨λr w s=>mV hn hg (hp w s) (r w s)⟩
abbrev ptr'(b:Nat):ah:=.pointer (some ⟨b,0,none⟩)
variable{cs:ae ah}{t:aD}
def ahM(hn:Nat.blt d n=true)(hg:bO l g=true):dI (R (λh=>aM P ds (⟨⟨some d,g,.new cs t⟩,[]⟩::rest) (act n l D pm ro) h K) B w0 kl F)
 (∀b,R (λh=>aM P ds rest (act n ((d,.pointer (some ⟨b,0,none⟩))::l) D pm ro) h K) B w0 (pt b (.cells cs)::kl) F):=
 ⟨λr w s=>mV hn hg (h':=w.h.new (.cells cs)) C7 (r w.h.next (w.new _) (s.new _))⟩
variable{x:ay}
def ahN(hn:Nat.blt d n=true)(hg:bO l g=true)(hx:cellsOf (ev l x)=some cs):dI (R (λh=>aM P ds (⟨⟨some d,g,.box x t⟩,[]⟩::rest) (act n l D pm ro) h K) B w0 kl F)
 (∀b,R (λh=>aM P ds rest (act n ((d,.pointer (some ⟨b,0,none⟩))::l) D pm ro) h K) B w0 (pt b (.cells cs)::kl) F):=
 ⟨λr w s=>mV hn hg (h':=w.h.new (.cells cs)) (by simp only[aK.run,aK.alloc,uj,hx]) (r w.h.next (w.new _) (s.new _))⟩
variable{zero:ae ah}
def ahO{len:Nat}{parts:ae (Nat×Nat×ay)}(hn:Nat.blt d n=true)(hg:bO l g=true)(hx:vB (ev l) zero parts=some cs):
 dI (R (λh=>aM P ds (⟨⟨some d,g,.Aj t len zero parts⟩,[]⟩::rest) (act n l D pm ro) h K) B w0 kl F)
 (∀b,R (λh=>aM P ds rest (act n ((d,.slice (some ⟨b,0,some 0⟩) len len)::l) D pm ro) h K) B w0 (pt b (.cells cs)::kl) F):=
 ⟨λr w s=>mV hn hg (h':=w.h.new (.cells cs)) (by simp only[aK.run,aK.alloc,uj,hx,DN]) (r w.h.next (w.new _) (s.new _))⟩
variable{m size bytes:Nat}{e:aD}
def ahP{y:ay}(hn:Nat.blt d n=true)(hg:bO l g=true)(hx:ev l x=.int .i64 (m:Int))(hy:ev l y=.int .i64 (m:Int))
 (hm:m*bytes<=1073741824/\m*size<=1073741824/\m<=1073741824):dI (R (λh=>aM P ds (⟨⟨some d,g,.xQ e size bytes zero x y⟩,[]⟩::rest) (act n l D pm ro) h K) B w0 kl F)
 (∀b,R (λh=>aM P ds rest (act n ((d,.slice (some ⟨b,0,some 0⟩) m m)::l) D pm ro) h K) B w0 (pt b (.cells (zeros zero m))::kl) F):=by
 refine⟨λr w s=>?_⟩;have hle:∀{a b:Nat},a<=b->Nat.ble a b=true:=λh=>by rw[uY];exact h
 refine mV hn hg (h':=w.h.new (.cells (zeros zero m))) ?_ (r w.h.next (w.new _) (s.new _));simp only[aK.run,aK.alloc,hx,hy];show uj (cond (Nat.ble m m&&Nat.ble (m*bytes) small&&Nat.ble (m*size) small&&Nat.ble m small) _ _) w.h=_;rw[hle (aZ m),hle (show m*bytes<=small from hm.1),hle (show m*size<=small from hm.2.1),hle (show m<=small from hm.2.2)];rfl
variable{b o:Nat}
def ahQ(hn:Nat.blt d n=true)(hg:bO l g=true)(hx:ev l x=.pointer (some ⟨b,o,none⟩))(hk:aB (pt b (.cells cs)) kl kl')(hv:lC cs o=some v):
 dI (R (λh=>aM P ds (⟨⟨some d,g,.fE x⟩,[]⟩::rest) (act n l D pm ro) h K) B w0 kl F) (R (λh=>aM P ds rest (act n ((d,v)::l) D pm ro) h K) B w0 kl F):=
 ⟨λr w s=>Jc hn hg hx (s.at_ hk) (by rw[<- uw];exact hv) (r w s)⟩
def Rc{c:ae ah}(hn:Nat.blt d n=true)(hg:bO l g=true)(hx:ev l x=.pointer (some ⟨b,o,none⟩))(hk:aB (pt b (.cells cs)) kl kl')(hv:jM (kw cs o) m=some c):
 dI (R (λh=>aM P ds (⟨⟨some d,g,.sH m x⟩,[]⟩::rest) (act n l D pm ro) h K) B w0 kl F) (R (λh=>aM P ds rest (act n ((d,.agg ⟨c⟩)::l) D pm ro) h K) B w0 kl F):=
 ⟨λr w s=>ag2 hn hg hx (s.at_ hk) hv (r w s)⟩
variable{j:Nat}{w:Wd}
def Mt(h:(bW b o cs).p w)(hv:lC cs j=some v):w.h.qF b (o+j)=some v:=by
 obtain⟨cells,h1,h2⟩:=h;rw[h1.cells.qF];exact h2 j v (by rw[<- uw];exact hv)
def Mv{c:ae ah}(h:(bW b o cs).p w)(hv:jM (kw cs j) m=some c):w.h.jd b (o+j) m=some c:=by
 obtain⟨cells,h1,h2⟩:=h;rw[h1.cells.jd];rw[qJ,qp]at hv⊢;split at hv
 .rename_i hm;cases hv;rw[lu]at hm;have key:∀i,i<m->cells[o+j+i]? =cs[j+i]?:=λi hi=>by
   have hlt:j+i<cs.length:=s6
   rw[l5,bG hlt];exact h2 (j+i) _ (bG hlt)
  have hlen:m=0\/o+j+m<=cells.length:=by
   rcases KI m with e|e
   .exact .inl e
   .right;have:=key (m - 1) s6;rw[bG (show j+(m - 1)<cs.length by omega)]at this;have:=(aV.1 this).1;omega
  rw[if_pos tj];congr 1;apply iH;intro i;rw[rE,rE];by_cases hi:i<m
  .rw[if_pos hi,if_pos hi,jU,jU];exact key i hi
  .rw[if_neg hi,if_neg hi]
 .cases hv
def ahR(hn:Nat.blt d n=true)(hg:bO l g=true)(hx:ev l x=.pointer (some ⟨b,o,none⟩))(hk:bW b o cs∈F)(hv:lC cs 0=some v):
 dI (R (λh=>aM P ds (⟨⟨some d,g,.fE x⟩,[]⟩::rest) (act n l D pm ro) h K) B w0 kl F) (R (λh=>aM P ds rest (act n ((d,v)::l) D pm ro) h K) B w0 kl F):=
 ⟨λr w s=>mV hn hg (by simp only[aK.run,hx,show w.h.qF b o=some v from Mt (j:=0) (s.facts _ hk) hv]) (r w s)⟩
def Mw(hn:Nat.blt d n=true)(hg:bO l g=true)(hx:ev l x=.pointer (some ⟨b,o+j,none⟩))(hk:bW b o cs∈F)(hv:lC cs j=some v):
 dI (R (λh=>aM P ds (⟨⟨some d,g,.fE x⟩,[]⟩::rest) (act n l D pm ro) h K) B w0 kl F) (R (λh=>aM P ds rest (act n ((d,v)::l) D pm ro) h K) B w0 kl F):=
 ⟨λr w s=>mV hn hg (by simp only[aK.run,hx,Mt (s.facts _ hk) hv]) (r w s)⟩
def ahS{c:ae ah}(hn:Nat.blt d n=true)(hg:bO l g=true)(hx:ev l x=.pointer (some ⟨b,o,none⟩))(hk:bW b o cs∈F)(hv:jM cs m=some c):
 dI (R (λh=>aM P ds (⟨⟨some d,g,.sH m x⟩,[]⟩::rest) (act n l D pm ro) h K) B w0 kl F) (R (λh=>aM P ds rest (act n ((d,.agg ⟨c⟩)::l) D pm ro) h K) B w0 kl F):=
 ⟨λr w s=>mV hn hg (by simp only[aK.run,hx,show w.h.jd b o m=some c from Mv (j:=0) (s.facts _ hk) (by rw[qp];exact hv)]) (r w s)⟩
def Yh{c:ae ah}(hn:Nat.blt d n=true)(hg:bO l g=true)(hx:ev l x=.pointer (some ⟨b,o+j,none⟩))(hk:bW b o cs∈F)(hv:jM (kw cs j) m=some c):
 dI (R (λh=>aM P ds (⟨⟨some d,g,.sH m x⟩,[]⟩::rest) (act n l D pm ro) h K) B w0 kl F) (R (λh=>aM P ds rest (act n ((d,.agg ⟨c⟩)::l) D pm ro) h K) B w0 kl F):=
 ⟨λr w s=>mV hn hg (by simp only[aK.run,hx,Mv (s.facts _ hk) hv]) (r w s)⟩
def Re{y:ay}{vs c:ae ah}(hg:bO l g=true)(hx:ev l x=.pointer (some ⟨b,o,none⟩))(hy:cellsOf (ev l y)=some vs)(hm:Nat.beq (jh vs) m=true)
 (hk:aB (pt b (.cells cs)) kl kl') (hv:jH cs o vs=some c):
 dI (R (λh=>aM P ds (⟨⟨none,g,.store m x y⟩,[]⟩::rest) (act n l D pm ro) h K) B w0 kl F) (R (λh=>aM P ds rest (act n l D pm ro) h K) B w0 (pt b (.cells c)::kl') F):=
 ⟨λr w s=>LH hg (v:=dX) (h':=w.h.set b (.cells c)) (by simp only[aK.run,hx,hy,hm];simp only[IH.storeAt,(s.at_ hk).2,hv];rfl) (r _ ((s.fI hk).write))⟩
def ahT{y:ay}(hg:bO l g=true)(hx:ev l x=.pointer (some ⟨b,o,none⟩))(hy:ev l y=v)(hv:cellsOf v=some [v])
 (hk:aB (pt b (.cells cs)) kl kl') (ho:o<cs.length):
 dI (R (λh=>aM P ds (⟨⟨none,g,.store 1 x y⟩,[]⟩::rest) (act n l D pm ro) h K) B w0 kl F) (R (λh=>aM P ds rest (act n l D pm ro) h K) B w0 (pt b (.cells (cs.set o v))::kl') F):=
 ⟨λr w s=>LH hg (v:=dX) (h':=w.h.set b (.cells (cs.set o v))) (by
  simp only[aK.run,hx,hy,hv];show cond (Nat.beq 1 1) _ _=_;simp only[IH.storeAt,(s.at_ hk).2,LK cs o v ho];rfl) (r _ ((s.fI hk).write))⟩
def ahU(hn:Nat.blt d n=true)(hg:bO l g=true)(hx:ev l x=.pointer (some ⟨b,o,none⟩))(hk:aB (pt b (.cells cs)) kl kl')(hv:cs[o]? =some v):
 dI (R (λh=>aM P ds (⟨⟨some d,g,.fE x⟩,[]⟩::rest) (act n l D pm ro) h K) B w0 kl F) (R (λh=>aM P ds rest (act n ((d,v)::l) D pm ro) h K) B w0 kl F):=
 ⟨λr w s=>Jc hn hg hx (s.at_ hk) hv (r w s)⟩
variable{α:Type}
def Yi{E:Enc α}{xs:ae α}(h:(aj E v xs).p w):∃a c,v=.slice a xs.length c:=by
 rcases h with⟨rfl,a,c,rfl,_⟩|⟨i,o,f,c,cs,⟨h1,_⟩,_⟩
 .exact⟨a,c,rfl⟩
 .exact⟨_,c,h1⟩
def ahV{E:Enc α}{xs:ae α}(h:(aj E v xs).p w){k:Nat}(hk:k<xs.length):
 ∃i o f c x y,v=.slice (some ⟨i,o,f⟩) xs.length c/\xs[k]? =some x/\(bW i (o+k*E.n) (E.pat x y)).p w/\∀f∈E.fs x y,f.p w:=by
 rcases h with⟨rfl,a,c,rfl,_⟩|⟨i,o,f,c,cs,⟨h1,_⟩,h2,h3⟩
 .simp at hk
 .obtain⟨y,q1,q2⟩:=h3 k xs[k] (bG hk);exact⟨i,o,some f,c,xs[k],y,h1,bG hk,⟨cs,h2,q1⟩,q2⟩
def ahW{E:Enc α}{xs:ae α}(hn:Nat.blt d n=true)(hg:bO l g=true)(hx:ev l x=v)(hf:aj E v xs∈F):
 dI (R (λh=>aM P ds (⟨⟨some d,g,.pR x⟩,[]⟩::rest) (act n l D pm ro) h K) B w0 kl F) (R (λh=>aM P ds rest (act n ((d,.int .i64 (xs.length:Int))::l) D pm ro) h K) B w0 kl F):=
 ⟨λr w s=>by
  obtain⟨a,c,e⟩:=Yi (s.facts _ hf);exact XZ hn hg (hx.trans e) (r w s)⟩
def Rf{E:Enc α}{xs:ae α}{S:ae Nat}(h:(ap E v xs).p w S):∃a,v=.slice a xs.length xs.length:=by
 rcases h with⟨rfl,rfl,_⟩|⟨b,o,f,cells,h1,_⟩
 .exact⟨none,rfl⟩
 .exact⟨_,h1⟩
def ahX{E:Enc α}{xs:ae α}(hn:Nat.blt d n=true)(hg:bO l g=true)(hx:ev l x=v)(hk:aB (ap E v xs) kl kl'):
 dI (R (λh=>aM P ds (⟨⟨some d,g,.pR x⟩,[]⟩::rest) (act n l D pm ro) h K) B w0 kl F) (R (λh=>aM P ds rest (act n ((d,.int .i64 (xs.length:Int))::l) D pm ro) h K) B w0 kl F):=
 ⟨λr w s=>by
  obtain⟨S,⟨S1,S2,q,_⟩,_⟩:=(s.fI hk).own;obtain⟨a,e⟩:=Rf q;exact XZ hn hg (hx.trans e) (r w s)⟩
variable{i:ay}{k:Int}{kk:IntKind}
def Rh{E:Enc α}{xs:ae α}(hn:Nat.blt d n=true)(hg:bO l g=true)(hx:ev l x=v)(hi:ev l i=.int kk k)(hf:aj E v xs∈F)
 (hs:E.n=size) (h0:0<=k) (h1:k<xs.length):
 dI (R (λh=>aM P ds (⟨⟨some d,g,.jw size x i⟩,[]⟩::rest) (act n l D pm ro) h K) B w0 kl F)
  (∀b o z y,xs[k.toNat]? =some z->R (λh=>aM P ds rest (act n ((d,.pointer (some ⟨b,o,none⟩))::l) D pm ro) h K) B w0 kl (bW b o (E.pat z y)::(E.fs z y++F))):=by
 refine⟨λr w s=>?_⟩;obtain⟨b,o,f,c,z,y,rfl,h2,h3,h4⟩:=ahV (s.facts _ hf) (k:=k.toNat) s6;refine LJ hn hg hx hi h0 h1 (r b _ z y h2 w ?_);rw[<- hs];exact(s.add (F':=bW b (o+k.toNat*E.n) (E.pat z y)::E.fs z y) (λf hf=>by
  rcases bH.1 hf with rfl|hf
  .exact h3
  .exact h4 f hf))
def Yj{xs:ae Int}(hn:Nat.blt d n=true)(hg:bO l g=true)(hx:ev l x=v)(hi:ev l i=.int kk k)(hf:aj ai v xs∈F)(h0:0<=k)(h1:k<xs.length):
 dI (R (λh=>aM P ds (⟨⟨some d,g,.jw 1 x i⟩,[]⟩::rest) (act n l D pm ro) h K) B w0 kl F)
  (∀b o z,xs[k.toNat]? =some z->R (λh=>aM P ds rest (act n ((d,.pointer (some ⟨b,o,none⟩))::l) D pm ro) h K) B w0 kl (bW b o [.int .i64 z]::F)):=
 ⟨λr=>(Rh hn hg hx hi hf rfl h0 h1).h λb o z y hz=>r b o z hz⟩
def Yk{xs:ae Bool}(hn:Nat.blt d n=true)(hg:bO l g=true)(hx:ev l x=v)(hi:ev l i=.int kk k)(hf:aj sP v xs∈F)(h0:0<=k)(h1:k<xs.length):
 dI (R (λh=>aM P ds (⟨⟨some d,g,.jw 1 x i⟩,[]⟩::rest) (act n l D pm ro) h K) B w0 kl F)
  (∀b o z,xs[k.toNat]? =some z->R (λh=>aM P ds rest (act n ((d,.pointer (some ⟨b,o,none⟩))::l) D pm ro) h K) B w0 kl (bW b o [.bool z]::F)):=
 ⟨λr=>(Rh hn hg hx hi hf rfl h0 h1).h λb o z y hz=>r b o z hz⟩
def lT(E:Enc α){Q:IH->Prop}(h:R Q B w0 (ap E (.slice none 0 0) []::kl) F):R Q B w0 kl F:=λw s=>by
 obtain⟨S,h1,h2,h3⟩:=s.own;exact h w ⟨s.agree,s.le,s.fH,⟨S,⟨[],S,.inl ⟨rfl,rfl,rfl⟩,h1,rfl⟩,h2,h3⟩,s.facts⟩
def Yl(E:Enc α){b:Nat}{Q:IH->Prop}(hk:aB (pt b (.cells [])) kl kl')(h:R Q B w0 (ap E (.slice (some ⟨b,0,some 0⟩) 0 0) []::kl') F):R Q B w0 kl F:=λw s=>
 h w ((s.fI hk).Cv (A:=pt b (.cells [])) (A':=ap E (.slice (some ⟨b,0,some 0⟩) 0 0) []) λw S hp=>.inr ⟨b,0,0,[],rfl,.inl rfl,hp.1,hp.2,s7,λk x hk=>by cases hk⟩)
def ahY{A:OA}{fs:ae aI}{Q:IH->Prop}(hA:oK A fs)(hk:aB A kl kl')(h:R Q B w0 kl' (fs++F)):R Q B w0 kl F:=λw s=>by
 obtain⟨w',e,s'⟩:=(s.fI hk).freeze hA;rw[<- e];exact h w' s'
def _root_.Go.Ideal.St.fresh{o:dL}{h':IH}(s:St B w0 kl F w)(ag:Agree w.h h')(at_:At h' w.h.next o)(hn:h'.next=w.h.next+1):∃w':Wd,w'.h=h'/\St B w0 (pt w.h.next o::kl) F w':=by
 have hg:∀i,i<w.h.next->h'.get i=w.h.get i:=ag.get
 let w':Wd:=⟨h',w.z,λi hi=>by rw[hn];exact Po (w.nN i hi)⟩
 have hle:w.Le w':=⟨by show _<=h'.next;omega,λ_ h=>h,λi hi=>hg i (w.nN i hi)⟩
 obtain⟨S,h1,h2,h3⟩:=s.own;have hnx:w'.h.next=w.h.next+1:=hn
 refine⟨w',rfl,⟨by have:=s.agree.next;omega,λi hi hb=>(hg i (pu hi s.agree.next)).trans (s.agree.get i hi hb),λa b=>?_⟩,s.le.trans hle,s.fH,
  ⟨[w.h.next]++S,⟨[w.h.next],S,⟨rfl,at_.2⟩,gq.loc hle (λi hi=>hg i (h3 i hi).2.1) h1,rfl⟩,?_,?_⟩,λf hf=>f.mono hle (s.facts f hf)⟩
 .have hl:=s.agree.low a b;have:=s.agree.next
  show h'.low=_;rw[ag.low s6,hl]
 .exact rh
 .intro i hi;rcases fq.1 hi with hi|hi
  .rw[bA.1 hi];exact⟨.inl s.agree.next,s6,λhz=>absurd (w.nN _ hz) (Pd _)⟩
  .exact⟨(h3 i hi).1,by have:=(h3 i hi).2.1;omega,(h3 i hi).2.2⟩
def ahZ{E:Enc α}{b':Nat}{s:ay}{xs:ae α}{a:α}{y:E.Y}{k1 k2:ae OA}(hn:Nat.blt d n=true)(hg:bO l g=true)
 (hs:ev l s=v) (hx:ev l x=.slice (some ⟨b',0,some 0⟩) 1 1) (hk:aB (ap E v xs) kl k1) (hc:aB (pt b' (.cells cs)) k1 k2) (hp:cs=E.pat a y) (hF:Sub (E.fs a y) F) (hz:E.n=size)
 (hm:(xs.length+1)*bytes<=1073741824/\(xs.length+1)*size<=1073741824/\xs.length+1<=1073741824):
 dI (R (λh=>aM P ds (⟨⟨some d,g,.append e size bytes s x⟩,[]⟩::rest) (act n l D pm ro) h K) B w0 kl F)
  (∀v',R (λh=>aM P ds rest (act n ((d,v')::l) D pm ro) h K) B w0 (ap E v' (xs++[a])::k2) F):=by
 refine⟨λr w st=>?_⟩;subst hp hz;have hlen:=E.len a y;have st2:St B w0 (ap E v xs::pt b' (.cells (E.pat a y))::k2) F w:=st.lF (.cons hk (.cons hc .nil));have hat:At w.h b' (.cells (E.pat a y)):=st2.at_ (.there .here);have pG:St B w0 (ap E v xs::k2) F w:=(st2.fI (.there .here)).tail;have hfs:∀f∈E.fs a y,f.p w:=λf hf=>st.facts f (hF.mem f hf);have hread:w.h.jd b' 0 (1*E.n)=some (E.pat a y):=by
  exact lP
 have hx1:ql (ev l x)=some (0+1):=by rw[hx];rfl
 have hx2:pE E.n (0+1) (ev l x) w.h=some (E.pat a y):=AT
 have put:∀(w':Wd) (c:Nat) (f:Nat) (cells:ae ah),cells.length=xs.length*E.n->(∀(k:Nat) z,xs[k]? =some z->∃y,(∀(j:Nat) u,(E.pat z y)[j]? =some u->cells[k*E.n+j]? =some u)/\∀f∈E.fs z y,f.p w')->(∀f∈E.fs a y,f.p w')->
  (f=0\/f=E.n)->∀S,(pt c (.cells (cells++E.pat a y))).p w' S->(ap E (.slice (some ⟨c,0,some f⟩) (xs.length+1) (xs.length+1)) (xs++[a])).p w' S:=by
  intro w' c f cells h1 h2 h3 h4 S hp;refine .inr ⟨c,0,f,_,by rw[eF];rfl,h4,hp.1,hp.2,by rw[eF,eF,h1,hlen,u7,rD,Ad,eB],λk z hk=>?_⟩;by_cases hlt:k<xs.length
  .exact ew
  .exact cU
 obtain⟨S,⟨S1,S2,q,q2,e1⟩,hnd,hown⟩:=pG.own;rcases q with⟨rfl,rfl,rfl⟩|⟨b,o,f,cells,rfl,hf,rfl,hb,hcl,hel⟩
 .exact da
 .exact cD
end
end Go.Ideal
namespace Go.Ideal
variable {P:Program} {ρ:ay->ah}
variable{t:aD}
def qy{d:TypeDesc}(ht:P.underlying t=some d):dK P (underlying t)=some d:=by
 unfold underlying;rw[fP];show(some P).bind _=_;simp only[Option.bind,ht];rfl
variable{x y:ay}{op:BinOp}
def F9{a b:ah}(ha:∀c,a≠.agg c)(hn:a≠.nilIface):dK P (eqGuard op t x y a b)=some ():=by
 cases a with
 |nilIface=>exact absurd rfl hn
 |agg c=>exact absurd rfl (ha c)
 |_=>cases op<;>rfl
def Ym{a b:Bool}(ht:P.underlying t=some .bool):l7 P .eql t x y (.bool a) (.bool b)=some (.bool (a==b))/\l7 P .neq t x y (.bool a) (.bool b)=some (.bool (a !=b)):=by
 have he:dK P (Op.equal t (.bool a) (.bool b))=some (a==b):=by
  show dK P (Op.equalIn (9999+1) t (.bool a) (.bool b))=_;unfold Op.equalIn;rw[fP,qy ht];rfl
 have h1:lN P (do eqGuard .eql t x y (.bool a) (.bool b);binOp .eql t (.bool a) (.bool b))=some (.bool (a==b)):=by
  exact ff
 have h2:lN P (do eqGuard .neq t x y (.bool a) (.bool b);binOp .neq t (.bool a) (.bool b))=some (.bool (a !=b)):=by
  exact ff
 exact⟨h1,h2⟩
def Mx{a b:Bool}(hx:ρ x=.bool a)(hy:ρ y=.bool b)(ht:P.underlying t=some .bool):Pu P ρ (.bin .eql t x y) (.bool (a==b)):=λh=>by
 simp only[aK.run,hx,hy,(Ym ht).1]
def MB{a b:Bool}(hx:ρ x=.bool a)(hy:ρ y=.bool b)(ht:P.underlying t=some .bool):Pu P ρ (.bin .neq t x y) (.bool (a !=b)):=λh=>by
 simp only[aK.run,hx,hy,(Ym ht).2]
variable{v:ah}
def Yn{a b:ByteArray}(hv:dK P (Op.stringOp op a b)=some v)(hf:dG v=true):l7 P op t x y (.string a) (.string b)=some v:=by
 have h1:lN P (do eqGuard op t x y (.string a) (.string b);binOp op t (.string a) (.string b))=some v:=by
  unfold lN;rw[fP,F9 AW wA];have hb:binOp op t (.string a) (.string b)=Op.stringOp op a b:=by cases op<;>rfl
  simp only[iL,hb,hv,hf,cond]
 exact h1
def MC{a b:ByteArray}(hx:ρ x=.string a)(hy:ρ y=.string b):Pu P ρ (.bin .eql t x y) (.bool (a.toList==b.toList)):=λh=>by
 simp only[aK.run,hx,hy,Yn (op:=.eql) (v:=.bool (a.toList==b.toList)) rfl rfl]
def ME{a b:ByteArray}(hx:ρ x=.string a)(hy:ρ y=.string b):Pu P ρ (.bin .neq t x y) (.bool (!(a.toList==b.toList))):=λh=>by
 simp only[aK.run,hx,hy,Yn (op:=.neq) (v:=.bool (!(a.toList==b.toList))) rfl rfl]
variable{a b:Int}
def Ej(hq:rJ op .i64 a b=none)(hv:dK P (binOp op t (.int .i64 a) (.int .i64 b))=some v)(hf:dG v=true):l7 P op t x y (.int .i64 a) (.int .i64 b)=some v:=by
 have h1:lN P (do eqGuard op t x y (.int .i64 a) (.int .i64 b);binOp op t (.int .i64 a) (.int .i64 b))=some v:=by
  unfold lN;rw[fP,F9 AW wA];simp only[iL,hv,hf,cond]
 unfold l7;simp only[xR,cond,hq,dG,Pk];exact h1
def wrap64{m:Int}(h1: -9223372036854775808<=m)(h2:m<9223372036854775808):IntKind.i64.wrap m=m:=IntWalk.i64_in m ⟨h1,s6⟩
def MF(hx:ρ x=.int .i64 a)(hy:ρ y=.int .i64 b)(h1: -9223372036854775808<=a*b)(h2:a*b<9223372036854775808):Pu P ρ (.bin .mul t x y) (.int .i64 (a*b)):=λh=>by
 simp only[aK.run,hx,hy];rw[Ej (op:=.mul) (v:=.int .i64 (a*b)) rfl (by
  show dK P (Op.intArith .mul .i64 a b)=_;show some (Value.int .i64 (IntKind.i64.wrap (a*b)))=_;rw[wrap64 h1 h2]) rfl]
def Jh(hx:ρ x=.int .i64 a)(hy:ρ y=.int .i64 b)(hb:b≠0)(h1: -9223372036854775808<=a.tdiv b)(h2:a.tdiv b<9223372036854775808):Pu P ρ (.bin .quo t x y) (.int .i64 (a.tdiv b)):=λh=>by
 simp only[aK.run,hx,hy];rw[Ej (op:=.quo) (v:=.int .i64 (a.tdiv b)) rfl (by
  show dK P (Op.intDiv .quo .i64 a b)=_;unfold Op.intDiv;rw[if_neg hb];show some (Value.int .i64 (IntKind.i64.wrap (a.tdiv b)))=_;rw[wrap64 h1 h2]) rfl]
def Cx(hx:ρ x=.int .i64 a)(hy:ρ y=.int .i64 b)(hb:b≠0):Pu P ρ (.bin .rem t x y) (.int .i64 (a.tmod b)):=λh=>by
 simp only[aK.run,hx,hy];rw[Ej (op:=.rem) (v:=.int .i64 (a.tmod b)) rfl (by
  show dK P (Op.intDiv .rem .i64 a b)=_;unfold Op.intDiv;rw[if_neg hb];rfl) rfl]
def MG{i:ay}{size b o m c k:Nat}{f:ak Nat}{kk:IntKind}(hx:ρ x=.slice (some ⟨b,o,f⟩) m c)(hi:ρ i=.int kk (k:Int))(h1:k<m):
 Pu P ρ (.jw size x i) (.pointer (some ⟨b,o+k*size,none⟩)):=Jf (k:=(k:Int)) hx hi s6 s6
end Go.Ideal
namespace Go.Ideal
variable {P:Program}
def Left{Y:Type}(B:ae Nat)(w0:Wd)(val:Y->ah)(kl':Y->ae OA)(fs:Y->ae aI)(pr:Y->Prop):KR:=λr pm h'=>
 pm=none/\∃(w':Wd) (y:Y),w'.h=h'/\St B w0 (kl' y) (fs y) w'/\r=.ok (val y)/\pr y
def aX{Y:Type}(P:Program)(fn:Fn)(args cap:ae ah)(kl:ae OA)(F:ae aI)(val:Y->ah)(kl':Y->ae OA)(fs:Y->ae aI)(pr:Y->Prop):Prop:=
 ∀(B:ae Nat) (w:Wd),St B w kl F w->CALL P ⟨fn,args,cap,none⟩ w.h (Left B w val kl' fs pr)
def uB:Nat->ae ah->qr->qr
 |_,[],l=>l
 |i,v::vs,l=>uB (i+1) vs ((i,v)::l)
def Yo:∀(args:ae ah) (i:Nat) (l:qr),Am args i (iD l)=iD (uB i args l)
 |[],i,l=>rfl
 |v::vs,i,l=>by
  show Am vs (i+1) (iD ((i,v)::l))=_;rw[Yo vs];rfl
def Ri(n:Nat)(args:ae ah)(pm:ak FrameMode):DW n args pm=act (um n (jh args)) (uB 0 args []) [] pm none:=by
 show bi.mk _ (Am args 0 (iD [])) _ _ _=_;rw[Yo];rfl
def ah0{Y:Type}{f:fO}{args cap:ae ah}{kl:ae OA}{F:ae aI}{val:Y->ah}{kl':Y->ae OA}{fs:Y->ae aI}{pr:Y->Prop}(cf:iG)(hF:(sI P uq sJ).F f=some cf)
 (hb:∀B w0,R (λh=>EV P cf.body (act (um cf.ntmps (jh (args++cap))) (uB 0 (args++cap) []) [] none none) h (zm cf (Left B w0 val kl' fs pr))) B w0 kl F):aX P (.func f) args cap kl F val kl' fs pr:=by
 intro B w s;obtain⟨fn,h1,h2⟩:=(F3 P uq sJ (λf q h v h' hm=>by cases hm)).fn f cf hF;refine agW fn h1 cf h2 ?_;rw[Ri];exact hb B w w s
section
variable {B:ae Nat} {w0:Wd} {kl kl' bz:ae OA} {F:ae aI} {K:KO} {ds:ae Tmp} {rest:ae bN} {n:Nat} {l:qr} {D:ae Deferred} {pm:ak FrameMode} {ro:ak Nat} {d:Nat} {g:ak (Tmp×Bool)}
def St.call{w w':Wd}{k1 k1' bz:ae OA}{F1 F':ae aI}{S1 S2:ae Nat}(s:St B w0 kl F w)(hp:∃S:ae Nat,S.Perm (S1++S2)/\S.Nodup/\∀i∈S,(w0.h.next<=i\/i∈B)/\i<w.h.next/\¬w.z i)
 (h2:gq w bz S2) (c:St S1 w k1' F' w'):St B w0 (k1'++bz) (F'++F) w':=by
 obtain⟨S,hperm,ah1,hall⟩:=hp;have hnd:=hperm.nodup ah1;have hall:∀i∈S1++S2,(w0.h.next<=i\/i∈B)/\i<w.h.next/\¬w.z i:=λi hi=>hall i (hperm.mem_iff.2 hi)
 have hd:=jA.1 hnd;obtain⟨S',c1,c2,c3⟩:=c.own;have hsame:∀i∈S2,w'.h.get i=w.h.get i:=λi hi=>c.agree.get i (hall i (nD _ hi)).2.1 (λhm=>hd.2.2 i hm i hi rfl);refine⟨⟨oH s.agree.next c.agree.next,λi hi hB=>?_,λa b=>?_⟩,s.le.trans c.le,λi hi hz=>?_,⟨S'++S2,c1.app (gq.loc c.le hsame h2),?_,?_⟩,λf hf=>?_⟩
 .rw[<- s.agree.get i hi hB];refine c.agree.get i (pu hi s.agree.next) (λhm=>?_);rcases(hall i (jl _ hm)).1 with q|q
  .omega
  .exact hB q
 .have hl:=s.agree.low a b;rw[c.agree.low (by rw[hl];exact oH a s.agree.next) (λi hi=>?_),hl];rw[hl];rcases(hall i (jl _ hi)).1 with q|q
  .omega
  .exact b i q
 .rcases c.fH i (pu hi s.agree.next) hz with q|q
  .exact s.fH i hi q
  .rcases(hall i (jl _ q)).1 with u|u
   .omega
   .exact .inr u
 .refine jA.2 ⟨c2,hd.2.1,λa ha b hb e=>?_⟩;subst e;rcases(c3 a ha).1 with q|q
  .have:=(hall a (nD _ hb)).2.1;omega
  .exact hd.2.2 a q a hb rfl
 .intro i hi;rcases fq.1 hi with hi|hi
  .refine⟨?_,(c3 i hi).2⟩;rcases(c3 i hi).1 with q|q
   .exact .inl (oH s.agree.next q)
   .exact(hall i (jl _ q)).1
  .have q:=hall i (nD _ hi);refine⟨q.1,pu q.2.1 c.agree.next,λhz=>?_⟩;rcases c.fH i q.2.1 hz with u|u
   .exact q.2.2 u
   .exact hd.2.2 i u i hi rfl
 .rcases fq.1 hf with hf|hf
  .exact c.facts f hf
  .exact f.mono c.le (s.facts f hf)
def Same(P:Program)(re:ae jc)(ρ:ay->ah)(l:qr)(B:ae Nat)(w0:Wd)(kl:ae OA)(F:ae aI):Prop:=
 ∀w,St B w0 kl F w->∀r∈re,∃u h2,r.op.run P ρ w.h=some (u,h2)/\∀d',r.dst=some d'->lk l d'=u
def Cy{ρ:ay->ah}:Same P [] ρ l B w0 kl F:=λw s r hr=>by cases hr
variable{re:ae jc}{x:ay}{b o:Nat}{cs:ae ah}{v:ah}
def Em(hx:ev l x=.pointer (some ⟨b,o,none⟩))(hk:aB (pt b (.cells cs)) kl kl')(hv:lC cs o=some v)(hd:lk l d=v)
 (t:Same P re (ev l) l B w0 kl F):Same P (⟨some d,g,.fE x⟩::re) (ev l) l B w0 kl F:=λw s r hr=>by
 rcases bH.1 hr with rfl|hr
 .have hc:w.h.qF b o=some v:=by rw[(s.at_ hk).cX.qF,<- uw];exact hv
  exact⟨v,w.h,by simp only[aK.run,hx,hc],λd' e=>by cases e;exact hd⟩
 .exact t w s r hr
def Ga(hx:ev l x=.pointer (some ⟨b,o,none⟩))(hk:bW b o cs∈F)(hv:lC cs 0=some v)(hd:lk l d=v)
 (t:Same P re (ev l) l B w0 kl F):Same P (⟨some d,g,.fE x⟩::re) (ev l) l B w0 kl F:=λw s r hr=>by
 rcases bH.1 hr with rfl|hr
 .exact⟨v,w.h,by simp only[aK.run,hx,show w.h.qF b o=some v from Mt (j:=0) (s.facts _ hk) hv],λd' e=>by cases e;exact hd⟩
 .exact t w s r hr
variable{j:Nat}
def Ji(hx:ev l x=.pointer (some ⟨b,o+j,none⟩))(hk:bW b o cs∈F)(hv:lC cs j=some v)(hd:lk l d=v)
 (t:Same P re (ev l) l B w0 kl F):Same P (⟨some d,g,.fE x⟩::re) (ev l) l B w0 kl F:=λw s r hr=>by
 rcases bH.1 hr with rfl|hr
 .exact⟨v,w.h,by simp only[aK.run,hx,Mt (s.facts _ hk) hv],λd' e=>by cases e;exact hd⟩
 .exact t w s r hr
variable{m:Nat}{c:ae ah}
def Jj(hx:ev l x=.pointer (some ⟨b,o,none⟩))(hk:aB (pt b (.cells cs)) kl kl')(hv:jM (kw cs o) m=some c)(hd:lk l d=.agg ⟨c⟩)
 (t:Same P re (ev l) l B w0 kl F):Same P (⟨some d,g,.sH m x⟩::re) (ev l) l B w0 kl F:=λw s r hr=>by
 rcases bH.1 hr with rfl|hr
 .have hc:w.h.jd b o m=some c:=by rw[(s.at_ hk).cX.jd];exact hv
  exact⟨.agg ⟨c⟩,w.h,by simp only[aK.run,hx,hc],λd' e=>by cases e;exact hd⟩
 .exact t w s r hr
def Jk(hx:ev l x=.pointer (some ⟨b,o,none⟩))(hk:bW b o cs∈F)(hv:jM cs m=some c)(hd:lk l d=.agg ⟨c⟩)
 (t:Same P re (ev l) l B w0 kl F):Same P (⟨some d,g,.sH m x⟩::re) (ev l) l B w0 kl F:=λw s r hr=>by
 rcases bH.1 hr with rfl|hr
 .exact⟨.agg ⟨c⟩,w.h,by simp only[aK.run,hx,show w.h.jd b o m=some c from Mv (j:=0) (s.facts _ hk) (by rw[qp];exact hv)],λd' e=>by cases e;exact hd⟩
 .exact t w s r hr
def Jl(hx:ev l x=.pointer (some ⟨b,o+j,none⟩))(hk:bW b o cs∈F)(hv:jM (kw cs j) m=some c)(hd:lk l d=.agg ⟨c⟩)
 (t:Same P re (ev l) l B w0 kl F):Same P (⟨some d,g,.sH m x⟩::re) (ev l) l B w0 kl F:=λw s r hr=>by
 rcases bH.1 hr with rfl|hr
 .exact⟨.agg ⟨c⟩,w.h,by simp only[aK.run,hx,Mv (s.facts _ hk) hv],λd' e=>by cases e;exact hd⟩
 .exact t w s r hr
variable{op:aK}
def Rj(hp:Pu P (ev l) op v)(hd:lk l d=v)(t:Same P re (ev l) l B w0 kl F):Same P (⟨some d,g,op⟩::re) (ev l) l B w0 kl F:=λw s r hr=>by
 rcases bH.1 hr with rfl|hr
 .exact⟨v,w.h,hp w.h,λd' e=>by cases e;exact hd⟩
 .exact t w s r hr
variable{vs:ae ah}
def Rk{y:ay}(hg:bO l g=true)(hx:ev l x=.pointer (some ⟨b,o,none⟩))(hw:ev l y=v)(hy:cellsOf v=some vs)(hm:Nat.beq (jh vs) m=true)
 (hk:aB (pt b (.cells cs)) kl kl') (hv:jH cs o vs=some c) (hs:Same P re (ev l) l B w0 (pt b (.cells c)::kl') F):
 dI (R (λh=>aM P ds (⟨⟨none,g,.store m x y⟩,re⟩::rest) (act n l D pm ro) h K) B w0 kl F) (R (λh=>aM P ds rest (act n l D pm ro) h K) B w0 (pt b (.cells c)::kl') F):=
 ⟨λr w s=>by
  subst hw;have s':=(s.fI hk).write (o':=.cells c);refine .mg (zn hg) dX (w.h.set b (.cells c)) (by rw[pY];simp only[aK.run,hx,hy,hm];simp only[IH.storeAt,(s.at_ hk).2,hv];rfl) (λq hq _=>?_) (r _ s');obtain⟨u,h2,e1,e2⟩:=hs _ s' q hq;exact⟨u,h2,by show q.op.run P (act n l D pm ro).eval _=_;rw[pY];exact e1,λd' hd=>by rw[<- e2 d' hd];exact yo _ _⟩⟩
def ah2(hn:Nat.blt d n=true)(hg:bO l g=true)(hp:Pu P (ev l) op v)(hs:Same P re (ev ((d,v)::l)) ((d,v)::l) B w0 kl F):
 dI (R (λh=>aM P ds (⟨⟨some d,g,op⟩,re⟩::rest) (act n l D pm ro) h K) B w0 kl F) (R (λh=>aM P ds rest (act n ((d,v)::l) D pm ro) h K) B w0 kl F):=
 ⟨λr w s=>by
  refine .mg (zn hg) v w.h (by rw[pY];exact hp w.h) (λq hq _=>?_) (by rw[sO hn];exact r w s);obtain⟨u,h2,e1,e2⟩:=hs w s q hq;exact fW⟩
variable{Y:Type}
def ah3{f:ay}{xs:ae ay}{fn:Fn}{first captured as:ae ah}{k1:ae OA}{F1:ae aI}{val:Y->ah}{k1':Y->ae OA}{fs:Y->ae aI}{pr:Y->Prop}
 (hc:aX P fn as captured k1 F1 val k1' fs pr) (hn:Nat.blt d n=true) (hg:bO l g=true) (hf:ev l f=.func fn ⟨first⟩ ⟨captured⟩) (hx:EvL (ev l) xs vs) (ha:first++vs=as)
 (hk:aF k1 kl bz) (hF:Sub F1 F)
 (hs:∀y,pr y->Same P re (ev ((d,val y)::l)) ((d,val y)::l) B w0 (k1' y++bz) (fs y++F))
 (next:∀y,pr y->R (λh=>aM P ds rest (act n ((d,val y)::l) D pm ro) h K) B w0 (k1' y++bz) (fs y++F)):
 R (λh=>aM P ds (⟨⟨some d,g,.call f xs⟩,re⟩::rest) (act n l D pm ro) h K) B w0 kl F:=by
 intro w s;obtain⟨S,h1,h2,h3⟩:=s.own;obtain⟨S1,S2,q1,q2,hp⟩:=h1.lF hk;have hsub:∀i∈S1,i∈S:=λi hi=>hp.mem_iff.2 (jl _ hi);have s1:St S1 w k1 F1 w:=⟨⟨aZ _,λ_ _ _=>rfl,λ_ _=>rfl⟩,Wd.Le.refl w,λi _ hz=>.inl hz,⟨S1,q1,(jA.1 (hp.nodup h2)).1,λi hi=>⟨.inr hi,(h3 i (hsub i hi)).2⟩⟩,λf hf=>s.facts f (hF.mem f hf)⟩
 have hcall:=hc S1 w s1;subst ha;rw[<- hx.map]at hcall;have back:∀(w':Wd) (y:Y),St S1 w (k1' y) (fs y) w'->St B w0 (k1' y++bz) (fs y++F) w':=λw' y c=>s.call (k1:=k1) (F1:=F1) ⟨S,hp,h2,h3⟩ q2 c;refine s_call hn hg fn hf _ hcall ?_ ?_ ?_ ?_
 .rintro v h' ⟨_,w',y,rfl,c,hv,hpr⟩;injection hv with hv;subst hv;exact hs y hpr w' (back w' y c)
 .rintro v h' ⟨_,w',y,rfl,c,hv,hpr⟩;injection hv with hv;subst hv;exact next y hpr w' (back w' y c)
 .rintro ch h' ⟨_,w',y,rfl,c,hv,hpr⟩;cases hv
 .rintro r p h' ⟨e,_⟩;exact e
inductive RS(l:List (Nat×Value))(kl:List OA):List ul->List Value->Prop
 |nil:RS l kl [] []
 |tmp {t:Tmp} {rs:List ul} {v:Value} {vs:List Value} (h:lk l t=v) (r:RS l kl rs vs):RS l kl (.tmp t::rs) (v::vs)
 |cell1 {t:Tmp} {rs:List ul} {v:Value} {vs cs:List Value} {b o:Nat} {kl':List OA} (h:lk l t=.pointer (some ⟨b,o,none⟩)) (hk:aB (pt b (.cells cs)) kl kl') (hv:lC cs o=some v) (r:RS l kl rs vs):RS l kl (.cell1 t::rs) (v::vs)
 |pV {n:Nat} {t:Tmp} {rs:List ul} {vs cs c:List Value} {b o:Nat} {kl':List OA} (h:lk l t=.pointer (some ⟨b,o,none⟩)) (hk:aB (pt b (.cells cs)) kl kl') (hv:jM (kw cs o) n=some c) (r:RS l kl rs vs):
   RS l kl (.pV n t::rs) (.agg ⟨c⟩::vs)
def RS.all{w:Wd}(s:St B w0 kl F w):∀{rs:ae ul} {vs:ae ah},RS l kl rs vs->Ao (iD l) w.h rs=some vs
 |_,_,.nil=>rfl
 |_,_,.tmp (t:=t) (rs:=rs) (v:=v) (vs:=vs) h r=>by
  have ih:=RS.all s r;show(match wI (iD l) w.h (.tmp t),Ao (iD l) w.h rs with|some v,some vs=>some (v::vs)|_,_=>none)=_;rw[ih];simp only[wI,yo,h]
 |_,_,.cell1 (t:=t) (rs:=rs) (v:=v) (vs:=vs) h hk hv r=>by
  have ih:=RS.all s r;show(match wI (iD l) w.h (.cell1 t),Ao (iD l) w.h rs with|some v,some vs=>some (v::vs)|_,_=>none)=_;rw[ih];simp only[wI,yo,h,(s.at_ hk).2,hv]
 |_,_,.pV (n:=n) (t:=t) (rs:=rs) (vs:=vs) (c:=c) h hk hv r=>by
  have ih:=RS.all s r;show(match wI (iD l) w.h (.pV n t),Ao (iD l) w.h rs with|some v,some vs=>some (v::vs)|_,_=>none)=_;rw[ih];simp only[wI,yo,h,IH.qj,(s.at_ hk).2,hv]
def rQ(vs:ae ah):ah:=
 match vs with
 |[v]=>v
 |vs=>.tuple ⟨vs⟩
def Yp{o:Out}{cf:iG}{val:Y->ah}{k1:Y->ae OA}{fs:Y->ae aI}{pr:Y->Prop}(y:Y)(hr:RS l kl cf.results vs)(hv:rQ vs=val y)(hp:pr y)(hk:aF (k1 y) kl bz)(hF:Sub (fs y) F)
 (ho:o=.normal\/o=.ret):R (λh=>zm cf (Left B w0 val k1 fs pr) o (act n l [] none ro) h) B w0 kl F:=by
 intro w s;have h1:uo cf.results (iD l) w.h=some (val y):=by
  unfold uo;rw[hr.all s];rw[<- hv];exact oa
 have h2:Left B w0 val k1 fs pr (.ok (val y)) none w.h:=⟨rfl,w,y,rfl,((s.lF hk).drop).sub hF,rfl,hp⟩
 rcases ho with rfl|rfl
 .exact⟨val y,h1,rfl,h2⟩
 .exact⟨val y,h1,rfl,h2⟩
inductive qa{α:Type}(F0:List α):List α->Prop
 |here:qa F0 F0
 |cons {a:α} {F:List α} (h:qa F0 F):qa F0 (a::F)
 |app {G F:List α} (h:qa F0 F):qa F0 (G++F)
def qa.mem{α:Type}{F0:ae α}:∀{F:ae α},qa F0 F->∀f∈F0,f∈F
 |_,.here,f,hf=>hf
 |_,.cons h,f,hf=>dB _ (h.mem f hf)
 |_,.app h,f,hf=>nD _ (h.mem f hf)
inductive wS:List (Nat×Value)->List (Nat×Value)->List (Nat×Value)->Prop
 |nil {ks:List (Nat×Value)}:wS [] ks []
 |drop {k:Nat} {v:Value} {l ks r:List (Nat×Value)} (h:(ks.any λp=>Nat.beq p.1 k)=true) (t:wS l ks r):wS ((k,v)::l) ks r
 |keep {k:Nat} {v:Value} {l ks r:List (Nat×Value)} (h:(ks.any λp=>Nat.beq p.1 k)=false) (t:wS l ((k,v)::ks) r):wS ((k,v)::l) ks ((k,v)::r)
def LI{X:Type}(n:Nat)(D:ae Deferred)(pm:ak FrameMode)(ro:ak Nat)(B:ae Nat)(w0:Wd)(m:X->Nat)(L:X->qr)(KL:X->ae OA)(FF:X->ae aI)(inv:X->Prop)
 (l0:qr) (bz:ae OA) (F0:ae aI):Nat->bi->IH->Prop:=λr a h=>
 ∃(x:X) (w:Wd),r=m x/\a=act n (L x++l0) D pm ro/\w.h=h/\St B w0 (KL x++bz) (FF x++F0) w/\inv x
variable{X:Type}
def ah4{c:dz}(m:X->Nat)(L:X->qr)(KL:X->ae OA)(FF:X->ae aI)(inv:X->Prop)(x0:X)(hi:inv x0)(l0:qr)(hl:sub (L x0++l0) l)(hk:aF (KL x0) kl bz)(hF:Sub (FF x0) F)
 (body:∀x,inv x->R (λh=>EV P c (act n (L x++l0) D pm ro) h (yu (LI n D pm ro B w0 m L KL FF inv l0 bz F) (m x) K)) B w0 (KL x++bz) (FF x++F)):
 R (λh=>EV P (.loop c) (act n l D pm ro) h K) B w0 kl F:=by
 intro w s;refine XT (QT hl) ?_;refine agV (LI n D pm ro B w0 m L KL FF inv l0 bz F) ?_ (m x0) _ _ ⟨x0,w,rfl,rfl,rfl,(s.lF hk).add (λf hf=>s.facts f (hF.mem f hf)),hi⟩;rintro r a h ⟨x,w',rfl,rfl,rfl,s',hx⟩;exact body x hx w' s'
def ah5{m:X->Nat}{L:X->qr}{KL:X->ae OA}{FF:X->ae aI}{inv:X->Prop}{l0:qr}{eX:ae OA}{F0:ae aI}{m0:Nat}(x:X)(hm:m x<m0)(hi:inv x)(hl:sub (L x++l0) l)
 (hk:aF (KL x++bz) kl eX) (hF:Sub (FF x) F) (AP:qa F0 F):R (λh=>yu (LI n D pm ro B w0 m L KL FF inv l0 bz F0) m0 K .normal (act n l D pm ro) h) B w0 kl F:=by
 intro w s;refine ag5 (m x) hm hl ⟨x,w,rfl,rfl,rfl,?_,hi⟩;have s':=(s.lF hk).drop;exact⟨s'.agree,s'.le,s'.fH,s'.own,λf hf=>(fq.1 hf).elim (λhf=>s.facts f (hF.mem f hf)) (λhf=>s.facts f (AP.mem f hf))⟩
end

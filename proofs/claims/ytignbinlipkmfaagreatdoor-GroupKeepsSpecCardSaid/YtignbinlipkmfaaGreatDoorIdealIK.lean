/- Part. -/
import Derived.Test.YtignbinlipkmfaaGreatDoorIdealHK
import Derived.OpenShut
set_option linter.all false
namespace Go.Ideal
open Go.ChangeShapes Go.WideShapes Go.ChangeAt Go.RowKit
def cuts{α:Type}:ae Nat->ae α->ae (ae α)
 |[],_=>[]
 |s::ss,l=>l.take s::cuts ss (l.drop s)
def sums:Nat->ae Nat->ae Nat
 |_,[]=>[]
 |o,s::ss=>o::sums (o+s) ss
def zT{α:Type}:∀(ss:ae Nat) (l:ae α) (o0 j:Nat) (o s:Nat),(sums o0 ss)[j]? =some o->ss[j]? =some s->(cuts ss l)[j]? =some ((l.drop (o - o0)).take s)/\o0<=o
 |[],l,o0,j,o,s,h,_=>by simp[sums]at h
 |s0::ss,l,o0,0,o,s,h,hs=>by
  simp[sums]at h hs;subst h hs;simp[cuts]
 |s0::ss,l,o0,j+1,o,s,h,hs=>by
  simp only[sums,sI]at h hs;obtain⟨h1,h2⟩:=zT ss (l.drop s0) (o0+s0) j o s h hs;refine⟨?_,tr⟩;simp only[cuts,sI];rw[h1,List.drop_drop];congr 3;omega
def Ug{α:Type}:∀(ss:ae Nat) (l:ae α),l.length=ss.sum->(cuts ss l).flatten=l
 |[],l,h=>by
  have:l=[]:=jX.1 tE;subst this;rfl
 |s::ss,l,h=>by
  simp only[List.sum_cons]at h;simp only[cuts,RA];rw[Ug ss (l.drop s) vf,xX]
def Om{α:Type}:∀(ss:ae Nat) (ps:ae (ae α)),ps.map List.length=ss->cuts ss ps.flatten=ps
 |[],[],_=>rfl
 |[],_::_,h=>by cases h
 |s::ss,[],h=>by cases h
 |s::ss,p::ps,h=>by
  simp only[iQ,CG]at h;obtain⟨h1,h2⟩:=h;simp only[cuts,RA];rw[List.take_left' h1,List.drop_left' h1,Om ss ps h2]
def aZ.flatten{β:aI}:∀{ps qs:ae (ae ah)},ps.length=qs.length->(∀(j:Nat) p q,ps[j]? =some p->qs[j]? =some q->aZ β p q)->aZ β ps.flatten qs.flatten
 |[],[],_,_=>.nil
 |[],_::_,h,_=>by cases h
 |_::_,[],h,_=>by cases h
 |p::ps,q::qs,h,hv=>by
  simp only[RA];exact(hv 0 p q rfl rfl).append (aZ.flatten tE λj a b ha hb=>hv (j+1) a b ha hb)
inductive iZ(P:Program)(h:IH){H:Type}:TypeId->List Value->DataW H->Prop
 |bool {t:TypeId} {b:Bool} (ht:P.underlying t=some .bool):iZ P h t [.bool b] (.lit (.bool b))
 |int {t:TypeId} {k:IntKind} {n:Int} (ht:P.underlying t=some (.int k)) (hw:(Lit.int k n).wf=true):iZ P h t [.int k n] (.lit (.int k n))
 |string {t:TypeId} {s:ByteArray} (ht:P.underlying t=some .string) (hs:s.size<=maxLen):iZ P h t [.string s] (.lit (.string s.data.toList))
 |nil {t e:TypeId} (ht:P.underlying t=some (.slice e)):iZ P h t [.slice none 0 0] .nil
 |slice {t e:TypeId} {i n c:Nat} {cells:List Value} {els rest:List (DataW H)} (ht:P.underlying t=some (.slice e)) (hn:n<=c/\c<=maxLen) (hl:els.length=n) (hc:n=0\/Cells h i cells)
   (hel:∀(k:Nat) d,els[k]? =some d->iZ P h e ((cells.drop (k*P.cellsOf e)).take (P.cellsOf e)) d):iZ P h t [.slice (some ⟨i,0,some 0⟩) n c] (.slice els rest)
 |struct {t:TypeId} {fs:Array Field} {cs:List Value} {ds:List (DataW H)} (ht:P.underlying t=some (.struct fs)) (hl:cs.length=P.cellsOf t) (hd:ds.length=fs.size)
   (hf:∀(j:Nat) f d,fs[j]? =some f->ds[j]? =some d->iZ P h f.type ((cs.drop f.offset).take (P.cellsOf f.type)) d):iZ P h t cs (.agg ds)
 |array {t e:TypeId} {n:Nat} {cs:List Value} {ds:List (DataW H)} (ht:P.underlying t=some (.array n e)) (hl:cs.length=P.cellsOf t) (hd:ds.length=n)
   (hf:∀(j:Nat) d,ds[j]? =some d->iZ P h e ((cs.drop (j*P.cellsOf e)).take (P.cellsOf e)) d):iZ P h t cs (.agg ds)
def iZ.mono{P:Program}{h h':IH}{H:Type}(hh:∀i cs,Cells h i cs->Cells h' i cs){t:aC}{cs:ae ah}{d:DataW H}(r:iZ P h t cs d):iZ P h' t cs d:=by
 induction r with
 |bool ht=>exact .bool ht
 |int ht hw=>exact .int ht hw
 |string ht hs=>exact .string ht hs
 |nil ht=>exact .nil ht
 |slice ht hn hl hc _ ih=>exact .slice ht hn hl (hc.imp id (hh _ _)) ih
 |struct ht hl hd _ ih=>exact .struct ht hl hd ih
 |array ht hl hd _ ih=>exact .array ht hl hd ih
inductive PlainT(P:Program)(K:TypeId->Prop)(t:TypeId):Prop
 |bool (ht:P.underlying t=some .bool)
 |int (k:IntKind) (ht:P.underlying t=some (.int k))
 |string (ht:P.underlying t=some .string)
 |slice (e:TypeId) (ht:P.underlying t=some (.slice e)) (he:K e) (hs:0<P.cellsOf e)
 |struct (fs:Array Field) (ht:P.underlying t=some (.struct fs)) (hf:∀f∈fs.toList,K f.type) (ho:fs.toList.map (·.offset)=sums 0 (fs.toList.map λf=>P.cellsOf f.type))
   (hs:P.cellsOf t=(fs.toList.map λf=>P.cellsOf f.type).sum)
 |array (n:Nat) (e:TypeId) (ht:P.underlying t=some (.array n e)) (he:K e) (hs:P.cellsOf t=n*P.cellsOf e)
def I7(L M:Lay):(kw L).le (kw (L++M)):=λi g h=>by
 unfold kw at h⊢;cases e:L[i]? with
 |none=>rw[e]at h;cases h
 |some p=>rw[pG (bC.1 e).1,e];rw[e]at h;exact h
variable{M L:Lay}{cs:ae ah}
def Oo{i:Nat}(h:Cells (lG L) i cs):Cells (lG (L++M)) i cs:=by
 obtain⟨h1,h2⟩:=h;have h1:i<L.length:=h1;refine⟨by show i<(L++M).length;rw[ik];omega,?_⟩;rw[Oj]at h2⊢;rw[pG h1];exact h2
def Dp.app{w:World}{g:jf}(k:Dp L w g cs):Dp (L++M) w g cs:=
 ⟨k.block,k.sz,k.all,λj v hj=>let⟨v',a,b⟩:=k.cell j v hj;⟨v',a,b.mono (I7 _ _)⟩⟩
def pX(W:World)(L0 M:Lay):Prop:=∀(i:Nat) g cs,L0.length<=i->(L0++M)[i]? =some (some g,some cs)->Dp (L0++M) W g cs
variable{L0:Lay}{W:World}
def pX.nil:pX W L0 []:=λi g cs hi h=>by
 rw[jd,iq hi]at h;cases h
def pX.app{N:Lay}(h1:pX W L0 M)(h2:pX W (L0++M) N):pX W L0 (M++N):=λi g cs hi h=>by
 rw[<- gz]at h⊢;by_cases hm:(L0++M).length<=i
 .exact h2 i g cs hm h
 .rw[pG tr]at h;exact(h1 i g cs hi h).app
section
variable {H:Type} {enc:aC×ah->H} {P:Program} {W:World} {K:aC->Prop}
def uM(P:Program)(W:World)(L0 M:Lay)(t:aC)(cs cs':ae ah)(d:DataW H):Prop:=
 aZ (kw (L0++M)) cs' cs/\cs'.all cellV=true/\iZ P (lG (L0++M)) t cs' d
variable{cs:ae ah}{L0 M:Lay}
def uM.app{N:Lay}{t:aC}{cs':ae ah}{d:DataW H}(k:uM P W L0 M t cs cs' d):uM P W L0 (M++N) t cs cs' d:=by
 obtain⟨h1,h2,h3⟩:=k;unfold uM;rw[<- gz];exact⟨h1.mono (I7 _ _),h2,h3.mono λi cs hc=>Oo hc⟩
def Oq{n:Nat}(ih:∀t cs x,K t->DataW.trod enc P W 0 (λ_=>true) true n t cs=some x->∀L0:Lay,∃M cs',uM P W L0 M t cs cs' x.1/\pX W L0 M):
 ∀(ps:ae (aC×ae ah×(DataW H×ae MemPlace))),(∀p∈ps,K p.1/\DataW.trod enc P W 0 (λ_=>true) true n p.1 p.2.1=some p.2.2)->∀L0:Lay,
  ∃(M:Lay) (css:ae (ae ah)),css.length=ps.length/\(∀(j:Nat) p cs',ps[j]? =some p->css[j]? =some cs'->uM P W L0 M p.1 p.2.1 cs' p.2.2.1)/\pX W L0 M
 |[],_,L0=>⟨[],[],rfl,(λj p cs' h=>by cases h),.nil⟩
 |p::ps,hp,L0=>by
  obtain⟨h1,h2⟩:=hp p (fT ..);obtain⟨M1,cs1,k1,k2⟩:=ih _ _ _ h1 h2 L0;obtain⟨M2,css,q1,q2,q3⟩:=Oq ih ps (λq hq=>hp q (fO _ hq)) (L0++M1);refine⟨M1++M2,cs1::css,by simp[q1],λj p' cs' hj hc=>?_,k2.app q3⟩;cases j with
  |zero=>
   simp only[AV,aF]at hj hc;subst hj hc;exact k1.app
  |succ j=>
   simp only[sI]at hj hc;have:=q2 j p' cs' hj hc;unfold uM at this⊢;rw[<- gz];exact this
def all_flatten:∀{css:ae (ae ah)},(∀cs∈css,cs.all cellV=true)->css.flatten.all cellV=true
 |[],_=>rfl
 |cs::css,h=>by
  simp only[RA,List.all_append,dI];exact⟨h cs (fT ..),all_flatten λc hc=>h c (fO _ hc)⟩
def Uh{ss:ae Nat}{ps:ae (aC×ae ah×(DataW H×ae MemPlace))}{css:ae (ae ah)}(hlen:cs.length=ss.sum)(hps:ps.map (·.2.1)=cuts ss cs)
 (hcl:css.length=ps.length) (hk:∀(j:Nat) p cs',ps[j]? =some p->css[j]? =some cs'->uM P W L0 M p.1 p.2.1 cs' p.2.2.1) (hsz:(cuts ss cs).map List.length=ss):
 aZ (kw (L0++M)) css.flatten cs/\css.flatten.all cellV=true/\cuts ss css.flatten=css:=by
 have hv:∀(j:Nat) a b,css[j]? =some a->(cuts ss cs)[j]? =some b->aZ (kw (L0++M)) a b:=λj a b ha hb=>by
  rw[<- hps,dN]at hb;cases e:ps[j]? with
  |none=>rw[e]at hb;cases hb
  |some p=>rw[e]at hb;cases hb;exact(hk j p a e ha).1
 have hl2:css.length=(cuts ss cs).length:=by rw[hcl,<- hps,bZ]
 refine⟨?_,?_,?_⟩
 .have:=aZ.flatten hl2 hv;rw[Ug ss cs hlen]at this;exact this
 .refine all_flatten λc hc=>?_;obtain⟨j,hj⟩:=jM hc;have hjl:j<ps.length:=by rw[<- hcl];exact(bC.1 hj).1
  exact(hk j ps[j] c (bX hjl) hj).2.1
 .apply Om;rw[<- hsz];apply jW;intro j;rw[dN,dN];cases e1:css[j]? with
  |none=>
   rw[iq (by rw[<- hl2];exact aaT.1 e1)]
  |some a=>
   have hj:j<(cuts ss cs).length:=by rw[<- hl2];exact(bC.1 e1).1
   rw[bX hj];have:=(hv j a _ e1 (bX hj)).length;simp only[lg];rw[this]
def FJ:∀(ss:ae Nat) (cs:ae ah),cs.length=ss.sum->(cuts ss cs).map List.length=ss
 |[],_,_=>rfl
 |s::ss,cs,h=>by
  simp only[List.sum_cons]at h;simp only[cuts,iQ];rw[FJ ss (cs.drop s) vf];congr 1;rw[iY];omega
variable{a:Addr}{n:Nat}
def Ot{base:Nat}(h:W.cells? base a n=some cs):cs.length=n/\∀(j:Nat) v,cs[j]? =some v->W.cell? (a.add j)=some v:=by
 obtain⟨_,h2,h3⟩:=World.cells?_some h;refine⟨h2,λj v hj=>?_⟩;have hjn:j<n:=by rw[<- h2];exact(bC.1 hj).1
 rw[<- hj];exact(h3 j hjn)
def aeB(ih:∀t cs x,K t->DataW.trod enc P W 0 (λ_=>true) true n t cs=some x->∀L0:Lay,∃M cs',uM P W L0 M t cs cs' x.1/\pX W L0 M)
 {t:aC} {fs:Array Field} {cs:ae ah} {xs:ae (DataW H×ae MemPlace)} (ht:P.underlying t=some (.struct fs)) (hf:∀f∈fs.toList,K f.type)
 (ho:fs.toList.map (·.offset)=sums 0 (fs.toList.map λf=>P.cellsOf f.type)) (hs:P.cellsOf t=(fs.toList.map λf=>P.cellsOf f.type).sum)
 (hlen:cs.length=P.cellsOf t) (hxl:xs.length=fs.size)
 (hx:∀(i:Nat) (f:Field),fs[i]? =some f->DataW.trod enc P W 0 (λ_=>true) true n f.type ((cs.drop f.offset).take (P.cellsOf f.type))=xs[i]?) (L0:Lay):
 ∃M cs',uM P W L0 M t cs cs' (.agg (xs.map (·.1)))/\pX W L0 M:=by
 let ss:=fs.toList.map λf=>P.cellsOf f.type
 let ps:ae (aC×ae ah×(DataW H×ae MemPlace)):=(fs.toList.zip xs).map λq=>(q.1.type,(cs.drop q.1.offset).take (P.cellsOf q.1.type),q.2)
 have hps:∀(j:Nat) p,ps[j]? =some p->∃f x,fs[j]? =some f/\xs[j]? =some x/\p=(f.type,(cs.drop f.offset).take (P.cellsOf f.type),x):=λj p hj=>by
  simp only[ps,dN,RB,lm]at hj;obtain⟨⟨f,x⟩,⟨h1,h2⟩,rfl⟩:=hj;exact⟨f,x,by rw[<- AU];exact h1,h2,rfl⟩
 have hoff:∀(j:Nat) f,fs[j]? =some f->(sums 0 ss)[j]? =some f.offset/\ss[j]? =some (P.cellsOf f.type):=λj f hj=>by
  have hj':fs.toList[j]? =some f:=by rw[AU];exact hj
  refine⟨?_,?_⟩
  .show(sums 0 (fs.toList.map λf=>P.cellsOf f.type))[j]? =_;rw[<- ho,dN,hj'];rfl
  .show(fs.toList.map λf=>P.cellsOf f.type)[j]? =_;rw[dN,hj'];rfl
 have hsum:cs.length=ss.sum:=hlen.trans hs;have hpl:ps.length=fs.size:=by
  simp only[ps,bZ,List.length_zip,hxl,Ry,Nat.min_self]
 have hcut:ps.map (·.2.1)=cuts ss cs:=by
  apply jW;intro j;rw[dN];have hcl:(cuts ss cs).length=fs.size:=by
   exact px
  cases e:ps[j]? with
  |none=>
   have:=aaT.1 e;rw[iq tr];rfl
  |some p=>
   obtain⟨f,x,h1,h2,rfl⟩:=hps j p e;obtain⟨q1,q2⟩:=hoff j f h1;rw[(zT ss cs 0 j f.offset _ q1 q2).1];rfl
 obtain⟨M,css,k1,k2,k3⟩:=Oq ih ps (λp hp=>by
  obtain⟨j,hj⟩:=jM hp;obtain⟨f,x,h1,h2,rfl⟩:=hps j p hj;have hm:f∈fs.toList:=aS (by rw[AU];exact h1:fs.toList[j]? =some f);exact⟨hf f hm,by rw[hx j f h1,h2]⟩) L0
 obtain⟨v1,v2,v3⟩:=Uh hsum hcut k1 k2 (FJ ss cs hsum);refine⟨M,css.flatten,⟨v1,v2,?_⟩,k3⟩;refine .struct ht (by rw[<- v1.length,hlen]) (by rw[bZ,hxl]) ?_;intro j f d hj hd;rw[dN]at hd;cases ex:xs[j]? with
 |none=>rw[ex]at hd;cases hd
 |some x=>
  rw[ex]at hd;cases hd;obtain⟨q1,q2⟩:=hoff j f hj;have hg:=(zT ss css.flatten 0 j f.offset _ q1 q2).1;rw[v3,ED]at hg;have fZ:ps[j]? =some (f.type,(cs.drop f.offset).take (P.cellsOf f.type),x):=by
   have hj':fs.toList[j]? =some f:=by rw[AU];exact hj
   simp only[ps,dN,RB,lm];exact⟨(f,x),⟨hj',ex⟩,rfl⟩
  exact(k2 j _ _ fZ hg).2.2
def I8(s:Nat):∀(n o0 j:Nat),j<n->(sums o0 (List.replicate n s))[j]? =some (o0+j*s)/\(List.replicate n s)[j]? =some s
 |0,o0,j,h=>by omega
 |n+1,o0,0,h=>by simp[Hz,sums]
 |n+1,o0,j+1,h=>by
  obtain⟨h1,h2⟩:=I8 s n (o0+s) j tr;simp only[Hz,sums,sI];refine⟨?_,h2⟩;rw[h1,Nat.succ_mul];congr 1;omega
def Ui(ih:∀t cs x,K t->DataW.trod enc P W 0 (λ_=>true) true n t cs=some x->∀L0:Lay,∃M cs',uM P W L0 M t cs cs' x.1/\pX W L0 M)
 {e:aC} {m:Nat} {cs:ae ah} {xs:ae (DataW H×ae MemPlace)} (he:K e) (hlen:cs.length=m*P.cellsOf e) (hxl:xs.length=m)
 (hx:∀(i:Nat),i<m->DataW.trod enc P W 0 (λ_=>true) true n e ((cs.drop (i*P.cellsOf e)).take (P.cellsOf e))=xs[i]?) (L0:Lay):
 ∃(M:Lay) (cs':ae ah),aZ (kw (L0++M)) cs' cs/\cs'.all cellV=true/\(∀(j:Nat) d,(xs.map (·.1))[j]? =some d->iZ P (lG (L0++M)) e ((cs'.drop (j*P.cellsOf e)).take (P.cellsOf e)) d)/\pX W L0 M:=by
 let ss:=List.replicate m (P.cellsOf e)
 let ps:ae (aC×ae ah×(DataW H×ae MemPlace)):=(List.range m).zip xs|>.map λq=>(e,(cs.drop (q.1*P.cellsOf e)).take (P.cellsOf e),q.2)
 have hps:∀(j:Nat) p,ps[j]? =some p->∃x,j<m/\xs[j]? =some x/\p=(e,(cs.drop (j*P.cellsOf e)).take (P.cellsOf e),x):=λj p hj=>by
  simp only[ps,dN,RB,lm]at hj;obtain⟨⟨i,x⟩,⟨h1,h2⟩,rfl⟩:=hj;have hjm:j<m:=by rw[<- hxl];exact(bC.1 h2).1
  rw[ru hjm]at h1;cases h1;exact⟨x,hjm,h2,rfl⟩
 have hsum:cs.length=ss.sum:=by rw[hlen];simp[ss,List.sum_replicate_nat]
 have hcut:ps.map (·.2.1)=cuts ss cs:=by
  apply jW;intro j;rw[dN];have hcl:(cuts ss cs).length=m:=by
   exact px
  cases ep:ps[j]? with
  |none=>
   have h1:=aaT.1 ep;have h2:ps.length=m:=by simp only[ps,bZ,List.length_zip,hxl,qm,Nat.min_self]
   rw[iq tr];rfl
  |some p=>
   obtain⟨x,h1,h2,rfl⟩:=hps j p ep;obtain⟨q1,q2⟩:=I8 (P.cellsOf e) m 0 j h1;rw[(zT ss cs 0 j _ _ q1 q2).1];simp
 obtain⟨M,css,k1,k2,k3⟩:=Oq ih ps (λp hp=>by
  obtain⟨j,hj⟩:=jM hp;obtain⟨x,h1,h2,rfl⟩:=hps j p hj;exact⟨he,by rw[hx j h1,h2]⟩) L0
 obtain⟨v1,v2,v3⟩:=Uh hsum hcut k1 k2 (FJ ss cs hsum);refine⟨M,css.flatten,v1,v2,?_,k3⟩;intro j d hd;rw[dN]at hd;cases ex:xs[j]? with
 |none=>rw[ex]at hd;cases hd
 |some x=>
  rw[ex]at hd;cases hd;have hjm:j<m:=by rw[<- hxl];exact(bC.1 ex).1
  obtain⟨q1,q2⟩:=I8 (P.cellsOf e) m 0 j hjm;have hg:=(zT ss css.flatten 0 j _ _ q1 q2).1;rw[v3,fq,ED]at hg;have fZ:ps[j]? =some (e,(cs.drop (j*P.cellsOf e)).take (P.cellsOf e),x):=by
   simp only[ps,dN,RB,lm];exact⟨(j,x),⟨ru hjm,ex⟩,rfl⟩
  exact(k2 j _ _ fZ hg).2.2
def Uj(hs:a.spot=none)(j:Nat):a.add j=⟨a.block,a.off+j,none⟩:=by
 obtain⟨ab,ao,sp⟩:=a;simp only at hs;subst hs;by_cases h:j=0
 .subst h;simp[Addr.add]
 .simp[Addr.add,h]
def cell_spot{v:ah}(h:W.cell? a=some v):a.spot=none/\∃c t fz,W.heap[a.block]? =some (.cells c t fz):=by
 unfold World.cell? at h;split at h
 .rename_i c t fz hb;split at h
  .cases h
  .rename_i hsp;refine⟨?_,c,t,fz,hb⟩;cases e:a.spot with
   |none=>rfl
   |some x=>rw[e]at hsp;exact absurd rfl hsp
 .cases h
def aeC{s m:Nat}(hs:0<s)(h:∀i,i<m->∃c,W.cells? 0 (a.add (i*s)) s=some c):
 ∃cs:ae ah,cs.length=m*s/\(∀i,i<m->W.cells? 0 (a.add (i*s)) s=some ((cs.drop (i*s)).take s)):=by
 let css:=(List.range m).map λi=>(W.cells? 0 (a.add (i*s)) s).getD []
 have hget:∀i,i<m->∃c,W.cells? 0 (a.add (i*s)) s=some c/\css[i]? =some c/\c.length=s:=λi hi=>by
  obtain⟨c,hc⟩:=h i hi;refine⟨c,hc,?_,(Ot hc).1⟩;simp only[css,dN,ru hi,lg,hc,wX]
 have hcl:css.length=m:=by simp[css]
 have hlen:css.map List.length=List.replicate m s:=by
  apply jW;intro j;by_cases hj:j<m
  .obtain⟨c,_,h2,h3⟩:=hget j hj;rw[dN,h2,HV,if_pos hj];simp[h3]
  .rw[iq (by rw[bZ];omega),iq tG]
 refine⟨css.flatten,?_,λi hi=>?_⟩
 .rw[List.length_flatten,hlen,List.sum_replicate_nat]
 .obtain⟨c,h1,h2,_⟩:=hget i hi;obtain⟨q1,q2⟩:=I8 s m 0 i hi;have:=(zT _ css.flatten 0 i _ _ q1 q2).1;rw[Om _ css hlen,h2,fq,ED]at this;rw[h1,Option.some.inj this]
def Uk(hK:∀t,K t->PlainT P K t):∀(n:Nat) (t:aC) (cs:ae ah) (x:DataW H×ae MemPlace),K t->DataW.trod enc P W 0 (λ_=>true) true n t cs=some x->
 ∀L0:Lay,∃M cs',uM P W L0 M t cs cs' x.1/\pX W L0 M
 |0,t,cs,x,_,h,_=>by simp[DataW.trod]at h
 |n+1,t,cs,x,hT,h,L0=>by
  have ih:=Uk hK n;cases hK t hT with
  |bool ht=>
   obtain⟨b,rfl,rfl⟩:=DataW.trod_bool ht h;exact⟨[],[.bool b],⟨.cons (.bool b) .nil,rfl,.bool ht⟩,.nil⟩
  |int k ht=>
   obtain⟨m,rfl,rfl,hw⟩:=DataW.trod_int ht h;exact⟨[],[.int k m],⟨.cons (.int k m) .nil,rfl,.int ht hw⟩,.nil⟩
  |string ht=>
   obtain⟨s,rfl,rfl,hs⟩:=DataW.trod_string ht h;exact⟨[],[.string s],⟨.cons (.string s) .nil,rfl,.string ht hs⟩,.nil⟩
  |struct fs ht hf ho hs=>
   obtain⟨xs,m,hm,rfl,hl,hxl,hx⟩:=DataW.trod_struct ht h;cases hm;exact aeB ih ht hf ho hs hl hxl hx L0
  |array m e ht he hs=>
   obtain⟨xs,k,hk,rfl,hl,hxl,hx⟩:=Go.DataW.trod_array ht h;cases hk;obtain⟨M,cs',v1,v2,v3,v4⟩:=Ui ih he (hl.trans hs) hxl hx L0;exact⟨M,cs',⟨v1,v2,.array ht (by rw[<- v1.length,hl]) (by rw[bZ,hxl]) v3⟩,v4⟩
  |slice e ht he hs=>
   rcases DataW.trod_slice ht h with⟨rfl,rfl⟩|⟨a,len,cap,elems,rest,k,hk,rfl,rfl,_,hlc,hcm,hel,hes,hsp,_⟩
   .exact⟨[],[.slice none 0 0],⟨.cons (.sl0 0 0) .nil,rfl,.nil ht⟩,.nil⟩
   cases hk;obtain⟨hrl,hrs⟩:=hsp rfl;have hcells:∀i,i<len->∃c y,W.cells? 0 (a.add (i*P.cellsOf e)) (P.cellsOf e)=some c/\elems[i]? =some y/\DataW.trod enc P W 0 (λ_=>true) true n e c=some y:=λi hi=>by
    have h1:=hes i hi;have hi':i<elems.length:=tr
    rw[bX hi',Option.bind_eq_some_iff]at h1;obtain⟨c,h2,h3⟩:=h1;exact⟨c,_,h2,bX hi',h3⟩
   obtain⟨wcs,hwl,hwc⟩:=aeC (W:=W) (a:=a) (m:=len) hs (λi hi=>let⟨c,_,h1,_⟩:=hcells i hi;⟨c,h1⟩);obtain⟨M,cs',v1,v2,v3,v4⟩:=Ui ih (cs:=wcs) (xs:=elems) he hwl hel (λi hi=>by
    obtain⟨c,y,h1,h2,h3⟩:=hcells i hi;rw[hwc i hi]at h1;rw[Option.some.inj h1,h3,h2]) L0
   have yM:0<cap->∃v,W.cell? a=some v:=λhc=>by
    have key:∀c,W.cells? 0 (a.add (0*P.cellsOf e)) (P.cellsOf e)=some c->∃v,W.cell? a=some v:=λc h1=>by
     rw[HY]at h1;have h0:a.add 0=a:=by simp[Addr.add]
     rw[h0]at h1;obtain⟨q1,q2⟩:=Ot h1;have hc0:0<c.length:=tr
     have:=q2 0 c[0] (bX hc0);rw[h0]at this;exact⟨_,this⟩
    by_cases hl0:0<len
    .obtain⟨c,_,h1,_⟩:=hcells 0 hl0;exact key c h1
    .have h1:=hrs 0 tr;have hr0:0<rest.length:=by omega
     rw[bX hr0,Option.bind_eq_some_iff]at h1;obtain⟨c,h2,_⟩:=h1;have hz:len+0=0:=tr
     rw[hz]at h2;exact key c h2
   let g:jf:=⟨a.block,a.off,len*P.cellsOf e,0,0⟩
   let en:ak jf×ak (ae ah):=(some g,if len=0 then none else some cs')
   have hidx:(L0++(M++[en]))[(L0++M).length]? =some en:=by
    rw[<- gz,rq (bQ _)];simp
   have sV:VR (kw (L0++(M++[en]))) (.slice (some ⟨(L0++M).length,0,some 0⟩) len cap) (.slice (some a) len cap):=by
    refine .aA (g:=g) ?_ rfl hlc ?_
    .unfold kw;rw[hidx];rfl
    .by_cases hc:cap=0
     .exact .inl hc
     .obtain⟨v,hv⟩:=yM tr;exact .inr ⟨rfl,(cell_spot hv).1⟩
   refine⟨M++[en],[.slice (some ⟨(L0++M).length,0,some 0⟩) len cap],⟨.cons sV .nil,rfl,?_⟩,?_⟩
   .refine .slice ht ⟨hlc,hcm⟩ (by rw[bZ,hel]) (cells:=cs') ?_ ?_
    .by_cases hl0:len=0
     .exact .inl hl0
     .right;refine aew (g:=some g) ?_;rw[hidx];simp only[en,if_neg hl0]
    .intro j d hj;have:=v3 j d hj;rw[<- gz];exact this.mono λi cs hc=>Oo hc
   .refine v4.app ?_;intro i g' c hi hget;have hi2:i=(L0++M).length:=by
     have:=(bC.1 hget).1;rw[ik]at this;simp at this hi⊢;omega
    subst hi2;rw[gz,hidx]at hget;simp only[en,aF,dx]at hget;obtain⟨rfl,hc⟩:=hget;split at hc
    .cases hc
    .rename_i hl0;cases hc;obtain⟨v0,hv0⟩:=yM tr;obtain⟨hspot,hblk⟩:=cell_spot hv0;refine⟨let⟨c,t,fz,e⟩:=hblk;⟨c,t,fz,e,.inl rfl⟩,rfl,v2,λj v hj=>?_⟩;obtain⟨v',hj',hv⟩:=v1.get hj;refine⟨v',?_,hv.mono (I7 _ _)⟩;show W.cell? ⟨a.block,a.off+j,none⟩=some v';have hjl:j<len*P.cellsOf e:=by rw[<- hwl];exact(bC.1 hj').1
     have hq:j/P.cellsOf e<len:=(Nat.div_lt_iff_lt_mul hs).2 hjl;have hm:=Nat.mod_lt j hs;have FK:=Nat.div_add_mod j (P.cellsOf e);have hcell:=(Ot (hwc _ hq)).2 (j%P.cellsOf e) v' (by
      rw[vF,if_pos hm,sK,<- hj'];congr 1;rw[Nat.mul_comm];exact FK)
     rw[Uj hspot]at hcell;rw[Uj rfl]at hcell;simp only at hcell;rw[<- hcell];congr 2;rw[oM,Nat.mul_comm,FK]
end
end Go.Ideal
namespace Go.Ideal
open Go.ChangeShapes Go.WideShapes Go.ChangeAt Go.RowKit
def Ul(P:Program)(ts:ae aC):Bool:=ts.all λt=>match P.underlying t with
 |some .bool=>true
 |some (.int _)=>true
 |some .string=>true
 |some (.slice e)=>ts.contains e&&Nat.blt 0 (P.cellsOf e)
 |some (.struct fs)=>fs.toList.all (λf=>ts.contains f.type)&&(fs.toList.map (·.offset)==sums 0 (fs.toList.map λf=>P.cellsOf f.type))&&P.cellsOf t==(fs.toList.map λf=>P.cellsOf f.type).sum
 |some (.array n e)=>ts.contains e&&P.cellsOf t==n*P.cellsOf e
 |_=>false
def aeE{P:Program}{ts:ae aC}(h:Ul P ts=true):∀t,t∈ts->PlainT P (·∈ts) t:=λt ht=>by
 unfold Ul at h;rw[jL]at h;have h:=h t ht;split at h
 .rename_i hu;exact .bool hu
 .rename_i k hu;exact .int k hu
 .rename_i hu;exact .string hu
 .rename_i e hu;simp only[dI]at h;exact .slice e hu (Hy.1 h.1) (Dk h.2)
 .rename_i fs hu;simp only[dI,jL,beq_iff_eq]at h;exact .struct fs hu (λf hf=>Hy.1 (h.1.1 f hf)) h.1.2 h.2
 .rename_i n e hu;simp only[dI,beq_iff_eq]at h;exact .array n e hu (Hy.1 h.1) h.2
 .cases h
section
variable {H:Type} {enc:aC×ah->H} {P:Program} {W:World} {K:aC->Prop}
def zU(P:Program)(h:IH)(t:aC)(v:ah)(d:DataW H):Prop:=
 ∃cs,iZ P h t cs d/\cs.all cellV=true/\(cs=[v]\/v=.agg ⟨cs⟩)
def zU.app{L M:Lay}{t:aC}{v:ah}{d:DataW H}(r:zU P (lG L) t v d):zU P (lG (L++M)) t v d:=by
 obtain⟨cs,h1,h2,h3⟩:=r;exact⟨cs,h1.mono λi cs hc=>Oo hc,h2,h3⟩
def aeF(hK:∀t,K t->PlainT P K t){t:aC}{v:ah}{d:DataW H}{p:ae MemPlace}(hT:K t)(hok:Value.okWide P W .any 0 t v)(h:DataW.Trod enc P W 0 (λ_=>true) true t v d p)(L0:Lay):
 ∃M v',VR (kw (L0++M)) v' v/\zU P (lG (L0++M)) t v' d/\pX W L0 M:=by
 obtain⟨n,hn⟩:=h;obtain⟨M,cs',⟨h1,h2,h3⟩,h4⟩:=Uk hK n t _ _ hT hn L0;have agg:∀cs,v=.agg cs->∃M v',VR (kw (L0++M)) v' v/\zU P (lG (L0++M)) t v' d/\pX W L0 M:=λcs e=>by
  subst e;obtain⟨l⟩:=cs;exact⟨M,.agg ⟨cs'⟩,.agg h2 h1,⟨cs',h3,h2,.inr rfl⟩,h4⟩
 have one:v.cells= #[v]->∃M v',VR (kw (L0++M)) v' v/\zU P (lG (L0++M)) t v' d/\pX W L0 M:=λe=>by
  rw[e]at h1;match cs',h1,h2,h3 with
  |[v'],.cons h1 .nil,h2,h3=>exact⟨M,v',h1,⟨[v'],h3,h2,.inl rfl⟩,h4⟩
 cases hv:v with
 |agg cs=>rw[<- hv];exact agg cs hv
 |_=>rw[<- hv];exact one (by rw[hv];rfl)
def Um(hK:∀t,K t->PlainT P K t):∀{ts:ae aC} {vs:ae ah} {ds:ae (DataW H)} {ps:ae MemPlace},(∀t∈ts,K t)->(∀(j:Nat) t v,ts[j]? =some t->vs[j]? =some v->Value.okWide P W .any 0 t v)->
 DataW.TrodAll enc P W 0 (λ_=>true) true ts vs ds ps->∀L0:Lay,∃(M:Lay) (vs':ae ah),aZ (kw (L0++M)) vs' vs/\
  (∀(j:Nat) t v d,ts[j]? =some t->vs'[j]? =some v->ds[j]? =some d->zU P (lG (L0++M)) t v d)/\pX W L0 M
 |[],[],[],_,_,_,_,L0=>⟨[],[],.nil,(λj t v d h=>by cases h),.nil⟩
 |t::ts,v::vs,d::ds,_,hT,hok,⟨p,q,h1,h2,_⟩,L0=>by
  obtain⟨M1,v',a1,a2,a3⟩:=aeF hK (hT t (fT ..)) (hok 0 t v rfl rfl) h1 L0;obtain⟨M2,vs',b1,b2,b3⟩:=Um hK (λt ht=>hT t (fO _ ht)) (λj t v hj hv=>hok (j+1) t v hj hv) h2 (L0++M1);rw[gz]at b1 b2;refine⟨M1++M2,v'::vs',.cons ?_ b1,?_,a3.app b3⟩
  .rw[<- gz];exact a1.mono (I7 _ _)
  .intro j t' w d' hj hw hd;cases j with
   |zero=>
    simp only[AV,aF]at hj hw hd;subst hj hw hd;rw[<- gz];exact a2.app
   |succ j=>exact b2 j t' w d' hj hw hd
end
section
variable {H:Type} {P:Program} {h:IH} {t e:aC} {cs:ae ah} {d:DataW H}
def iZ.nO{k:IntKind}(ht:P.underlying t=some (.int k))(r:iZ P h t cs d):∃n,cs=[.int k n]/\d=.lit (.int k n)/\(Lit.int k n).wf=true:=by
 cases r with
 |int ht' hw=>rw[ht]at ht';cases ht';exact⟨_,rfl,rfl,hw⟩
 |bool ht'=>rw[ht]at ht';cases ht'
 |string ht'=>rw[ht]at ht';cases ht'
 |nil ht'=>rw[ht]at ht';cases ht'
 |slice ht'=>rw[ht]at ht';cases ht'
 |struct ht'=>rw[ht]at ht';cases ht'
 |array ht'=>rw[ht]at ht';cases ht'
def iZ.Iz(ht:P.underlying t=some .bool)(r:iZ P h t cs d):∃b,cs=[.bool b]/\d=.lit (.bool b):=by
 cases r with
 |bool ht'=>exact⟨_,rfl,rfl⟩
 |int ht' hw=>rw[ht]at ht';cases ht'
 |string ht'=>rw[ht]at ht';cases ht'
 |nil ht'=>rw[ht]at ht';cases ht'
 |slice ht'=>rw[ht]at ht';cases ht'
 |struct ht'=>rw[ht]at ht';cases ht'
 |array ht'=>rw[ht]at ht';cases ht'
def iZ.zK(ht:P.underlying t=some .string)(r:iZ P h t cs d):∃s:ByteArray,cs=[.string s]/\d=.lit (.string s.data.toList)/\s.size<=maxLen:=by
 cases r with
 |string ht' hs=>exact⟨_,rfl,rfl,hs⟩
 |bool ht'=>rw[ht]at ht';cases ht'
 |int ht' hw=>rw[ht]at ht';cases ht'
 |nil ht'=>rw[ht]at ht';cases ht'
 |slice ht'=>rw[ht]at ht';cases ht'
 |struct ht'=>rw[ht]at ht';cases ht'
 |array ht'=>rw[ht]at ht';cases ht'
def iZ.ow(ht:P.underlying t=some (.slice e))(r:iZ P h t cs d):
 (cs=[.slice none 0 0]/\d=.nil)\/∃i n c cells els rest,cs=[.slice (some ⟨i,0,some 0⟩) n c]/\d=.slice els rest/\(n<=c/\c<=maxLen)/\els.length=n/\(n=0\/Cells h i cells)/\
   ∀(k:Nat) d,els[k]? =some d->iZ P h e ((cells.drop (k*P.cellsOf e)).take (P.cellsOf e)) d:=by
 cases r with
 |nil ht'=>exact .inl ⟨rfl,rfl⟩
 |slice ht' hn hl hc hel=>rw[ht]at ht';cases ht';exact .inr ⟨_,_,_,_,_,_,rfl,rfl,hn,hl,hc,hel⟩
 |string ht'=>rw[ht]at ht';cases ht'
 |bool ht'=>rw[ht]at ht';cases ht'
 |int ht' hw=>rw[ht]at ht';cases ht'
 |struct ht'=>rw[ht]at ht';cases ht'
 |array ht'=>rw[ht]at ht';cases ht'
def iZ.Un{fs:Array Field}(ht:P.underlying t=some (.struct fs))(r:iZ P h t cs d):
 ∃ds,d=.agg ds/\cs.length=P.cellsOf t/\ds.length=fs.size/\∀(j:Nat) f d,fs[j]? =some f->ds[j]? =some d->iZ P h f.type ((cs.drop f.offset).take (P.cellsOf f.type)) d:=by
 cases r with
 |struct ht' hl hd hf=>rw[ht]at ht';cases ht';exact⟨_,rfl,hl,hd,hf⟩
 |array ht'=>rw[ht]at ht';cases ht'
 |nil ht'=>rw[ht]at ht';cases ht'
 |slice ht'=>rw[ht]at ht';cases ht'
 |string ht'=>rw[ht]at ht';cases ht'
 |bool ht'=>rw[ht]at ht';cases ht'
 |int ht' hw=>rw[ht]at ht';cases ht'
def Ou:DataW H->Int
 | .lit (.int _ n)=>n
 |_=>0
def iZ.ints{v:ah}(ht:P.underlying t=some (.slice e))(he:P.underlying e=some (.int .i64))(hc:P.cellsOf e=1)(r:iZ P h t [v] d):∃xs,yK h v xs/\∀x∈xs, -9223372036854775808<=x/\x<9223372036854775808:=by
 rcases r.ow ht with⟨e1,_⟩|⟨i,n,c,cells,els,rest,e1,_,hn,hl,hcl,hel⟩
 .injection e1 with e1;exact⟨[],.inl ⟨rfl,none,0,0,e1,rfl⟩,tt⟩
 .injection e1 with e1;subst e1;have each:∀(k:Nat) d,els[k]? =some d->cells[k]? =some (.int .i64 (Ou d))/\(Lit.int .i64 (Ou d)).wf=true:=λk d hk=>by
   have:=hel k d hk;rw[hc,uu]at this;obtain⟨m,h1,h2,h3⟩:=this.nO he;subst h2;refine⟨?_,h3⟩;have h4:((cells.drop k).take 1)[0]? =some (.int .i64 m):=by rw[h1];rfl
   rw[vF,if_pos tr,sK]at h4;exact h4
  refine⟨els.map Ou,?_,?_⟩
  .rcases hcl with h0|hcl
   .left;refine⟨?_,_,_,_,rfl,h0⟩;have:els=[]:=jX.1 tr;rw[this];rfl
   .right;refine⟨i,0,0,c,cells,by rw[bZ,hl],hcl,λk x hk=>?_⟩;rw[dN]at hk;cases ek:els[k]? with
    |none=>rw[ek]at hk;cases hk
    |some d=>
     rw[ek]at hk;cases hk;rw[fq];exact(each k d ek).1
  .intro x hx;obtain⟨d,hd,rfl⟩:=eF.1 hx;obtain⟨k,hk⟩:=jM hd;have:=(each k d hk).2;simp only[Lit.wf,IntKind.min,IntKind.max,IntKind.signed,IntKind.bits,dI,zu]at this;simp at this;omega
end
end Go.Ideal
namespace Canon
structure Ov{α:Type}(c:α->α->Int):Prop where
 zero:∀a b,c a b=0↔a=b
 neg:∀a b,c a b<0↔0<c b a
 trans:∀a b d,c a b<0->c b d<0->c a d<0
def lH(a b:Int):Int:=if a<b then -1 else if b<a then 1 else 0
def Uo:Ov lH where
 zero a b:=by unfold lH;split<;>(try split)<;>omega
 neg a b:=by unfold lH;split<;>(try split)<;>(try split)<;>(try split)<;>omega
 trans a b d h1 h2:=by
  unfold lH at h1 h2⊢;split at h1<;>(try split at h1)<;>split at h2<;>(try split at h2)<;>first|omega|(rw[if_pos tr];omega)
def kU{α:Type}(c:α->α->Int):ae α->ae α->Int
 |[],[]=>0
 |[],_::_=> -1
 |_::_,[]=>1
 |a::l,b::m=>if c a b≠0 then c a b else kU c l m
def Uq{α:Type}{c:α->α->Int}(h:Ov c):Ov (kU c) where
 zero:=by
  intro a;induction a with
  |nil=>intro b;cases b<;>simp[kU]
  |cons x l ih=>
   intro b;cases b with
   |nil=>simp[kU]
   |cons y m=>
    simp only[kU];by_cases e:c x y=0
    .rw[if_neg tW,ih m];have:=(h.zero x y).1 e;subst this;simp
    .rw[if_pos e];constructor
     .intro q;exact absurd q e
     .intro q;injection q with q1 q2;exact absurd ((h.zero x y).2 q1) e
 neg:=by
  intro a;induction a with
  |nil=>intro b;cases b<;>simp[kU]
  |cons x l ih=>
   intro b;cases b with
   |nil=>simp[kU]
   |cons y m=>
    simp only[kU];by_cases e:c x y=0
    .have e2:=(h.zero x y).1 e;subst e2;rw[if_neg tW,if_neg tW];exact ih m
    .have e2:c y x≠0:=λq=>e ((h.zero x y).2 ((h.zero y x).1 q).symm);rw[if_pos e,if_pos e2];exact h.neg x y
 trans:=by
  intro a;induction a with
  |nil=>
   intro b d h1 h2;cases b with
   |nil=>simp[kU]at h1
   |cons y m=>cases d with
    |nil=>simp[kU]at h2
    |cons z n=>simp[kU]
  |cons x l ih=>
   intro b d h1 h2;cases b with
   |nil=>simp[kU]at h1
   |cons y m=>cases d with
    |nil=>simp[kU]at h2
    |cons z n=>
     simp only[kU]at h1 h2⊢;by_cases e1:c x y=0
     .have:=(h.zero x y).1 e1;subst this;rw[if_neg (by simpa using e1)]at h1;by_cases e2:c x z=0
      .rw[if_neg (by simpa using e2)]at h2⊢;exact ih m n h1 h2
      .rw[if_pos e2]at h2⊢;exact h2
     .rw[if_pos e1]at h1;by_cases e2:c y z=0
      .have:=(h.zero y z).1 e2;subst this;rw[if_pos e1];exact h1
      .rw[if_pos e2]at h2;have:=h.trans x y z h1 h2;rw[if_pos tr];exact this
structure Clue where
 aX:Int
 at_:Int
 values:List Int
instance:DecidableEq Clue:=λa b=>decidable_of_iff (a.aX=b.aX/\a.at_=b.at_/\a.values=b.values) (by cases a;cases b;simp)
def FL(a b:Clue):Int:=if lH a.aX b.aX≠0 then lH a.aX b.aX else if lH a.at_ b.at_≠0 then lH a.at_ b.at_ else kU lH a.values b.values
def aeG(a b:Clue):FL a b=if kU lH [a.aX,a.at_] [b.aX,b.at_]≠0 then kU lH [a.aX,a.at_] [b.aX,b.at_]else kU lH a.values b.values:=by
 simp only[FL,kU];by_cases h1:lH a.aX b.aX=0
 .by_cases h2:lH a.at_ b.at_=0
  .simp[h1,h2]
  .simp[h1,h2]
 .simp[h1]
end Canon
namespace Go.Ideal
open Canon (Clue)
def Bz(h:IH)(v:ah)(l:ae Clue):Prop:=
 (l=[]/\∃a m c,v=.slice a m c/\m=0)\/
 ∃i o f c cells,v=.slice (some ⟨i,o,some f⟩) l.length c/\Cells h i cells/\∀(k:Nat) g,l[k]? =some g->
  ∃vv,cells[o+k*3]? =some (.int .i64 g.aX)/\cells[o+k*3+1]? =some (.int .i64 g.at_)/\cells[o+k*3+2]? =some vv/\yK h vv g.values
variable{h:IH}{v:ah}{l:ae Clue}
def Bz.agree{h':IH}(a:Bz h v l)(g:Agree h h'):Bz h' v l:=by
 rcases a with h1|⟨i,o,f,c,cs,h1,h2,h3⟩
 .exact .inl h1
 .refine .inr ⟨i,o,f,c,cs,h1,h2.agree g,λk x hk=>?_⟩;obtain⟨vv,q1,q2,q3,q4⟩:=h3 k x hk;exact⟨vv,q1,q2,q3,q4.agree g⟩
def Bz.form(a:Bz h v l):∃b c,v=.slice b l.length c:=by
 exact mB
section
variable {H:Type} {P:Program} {h:IH} {t e u z:aC} {d:DataW H}
variable{v:ah}
def iZ.aR{f0 f1 f2:Field}(ht:P.underlying t=some (.slice e))(he:P.underlying e=some (.struct #[f0,f1,f2]))(hf0:f0.type=z/\f0.offset=0)(hf1:f1.type=z/\f1.offset=1)
 (hf2:f2.type=u/\f2.offset=2) (hz:P.underlying z=some (.int .i64)) (hcz:P.cellsOf z=1) (hu:P.underlying u=some (.slice z)) (hcu:P.cellsOf u=1) (hce:P.cellsOf e=3)
 (r:iZ P h t [v] d):∃l,Bz h v l:=by
 rcases r.ow ht with⟨e1,_⟩|⟨i,n,c,cells,els,rest,e1,_,hn,hl,hcl,hel⟩
 .injection e1 with e1;exact⟨[],.inl ⟨rfl,none,0,0,e1,rfl⟩⟩
 .injection e1 with e1;subst e1;have each:∀(k:Nat) d,els[k]? =some d->∃g:Clue,∃vv,cells[k*3]? =some (.int .i64 g.aX)/\cells[k*3+1]? =some (.int .i64 g.at_)/\cells[k*3+2]? =some vv/\yK h vv g.values:=λk d hk=>by
   have r1:=hel k d hk;rw[hce]at r1;obtain⟨ds,rfl,hlen,hdl,hf⟩:=r1.Un he;match ds,hdl with
   |[d0,d1,d2],_=>
    have a0:=hf 0 f0 d0 rfl rfl;have a1:=hf 1 f1 d1 rfl rfl;have a2:=hf 2 f2 d2 rfl rfl;rw[hf0.1,hf0.2,hcz]at a0;rw[hf1.1,hf1.2,hcz]at a1;rw[hf2.1,hf2.2,hcu]at a2;rw[hce]at hlen;match hrow:(cells.drop (k*3)).take 3,hlen with
    |[x,y,w],_=>
     rw[hrow]at a0 a1 a2;obtain⟨m0,b0,_,_⟩:=a0.nO hz;obtain⟨m1,b1,_,_⟩:=a1.nO hz;obtain⟨xs,b2,_⟩:=iZ.ints (v:=w) hu hz hcz a2;injection b0 with b0;injection b1 with b1;have hg:∀j,j<3->cells[k*3+j]? =[x,y,w][j]?:=λj hj=>by
      rw[<- hrow,vF,if_pos hj,sK]
     refine⟨⟨m0,m1,xs⟩,w,?_,?_,?_,b2⟩
     .have:=hg 0 tr;rw[<- b0];exact this
     .have:=hg 1 tr;rw[<- b1];exact this
     .exact hg 2 tr
  have build:∀m,m<=els.length->∃l:ae Clue,l.length=m/\∀(k:Nat) g,l[k]? =some g->∃vv,cells[k*3]? =some (.int .i64 g.aX)/\cells[k*3+1]? =some (.int .i64 g.at_)/\cells[k*3+2]? =some vv/\yK h vv g.values:=by
   intro m;induction m with
   |zero=>intro _;exact⟨[],rfl,λk g hk=>by cases hk⟩
   |succ m ih=>
    intro hm;obtain⟨l,q1,q2⟩:=ih tr;obtain⟨g,vv,q3⟩:=each m els[m] (bX tr);refine⟨l++[g],by simp[q1],λk g' hk=>?_⟩;by_cases hkm:k<l.length
    .rw[pG hkm]at hk;exact q2 k g' hk
    .rw[rq tr]at hk;have hk0:k - l.length=0:=by
      have:=(bC.1 hk).1;simp at this;omega
     rw[hk0]at hk;simp only[AV,aF]at hk;subst hk;have:k=m:=tr
     subst this;exact⟨vv,q3⟩
  obtain⟨l,q1,q2⟩:=build els.length (bQ _);refine⟨l,?_⟩;rcases hcl with h0|hcl
  .left;exact⟨jX.1 tr,_,_,_,rfl,h0⟩
  .right;refine⟨i,0,0,c,cells,by rw[q1,hl],hcl,λk g hk=>?_⟩;simpa using q2 k g hk
def Ow(h:IH)(v:ah)(l:ae Clue):Prop:=∃w,v=.agg ⟨[w]⟩/\Bz h w l
def Ow.agree{h h':IH}{l:ae Clue}(a:Ow h v l)(g:Agree h h'):Ow h' v l:=by
 obtain⟨w,e,k⟩:=a;exact⟨w,e,k.agree g⟩
end
end Go.Ideal
namespace Go.Ideal
variable {P:Program}
structure Wd where
 h:IH
 z:Nat->Prop
 nP:∀i,z i->i<h.next
structure Wd.Le(w w':Wd):Prop where
 next:w.h.next<=w'.h.next
 z:∀i,w.z i->w'.z i
 get:∀i,w.z i->w'.h.get i=w.h.get i
def Wd.Le.refl(w:Wd):w.Le w:=⟨bQ _,λ_ h=>h,λ_ _=>rfl⟩
variable{w w':Wd}
def Wd.Le.trans{w'':Wd}(a:w.Le w')(b:w'.Le w''):w.Le w'':=
 ⟨ql a.next b.next,λi h=>b.z i (a.z i h),λi h=>(b.get i (a.z i h)).trans (a.get i h)⟩
structure aP where
 p:Wd->Prop
 mono:∀{w w':Wd},w.Le w'->p w->p w'
def Fz(w:Wd)(b:Nat)(cs:ae ah):Prop:=w.z b/\(w.h.get b=some (.cells cs)\/w.h.get b=some (.jO cs))
def Fz.mono(a:w.Le w'){b:Nat}{cs:ae ah}(h:Fz w b cs):Fz w' b cs:=⟨a.z b h.1,by rw[a.get b h.1];exact h.2⟩
def Fz.cells{b:Nat}{cs:ae ah}(h:Fz w b cs):Cells w.h b cs:=⟨w.nP b h.1,h.2⟩
def eZ(b o:Nat)(cs:ae ah):aP:=
 ⟨λw=>∃cells,Fz w b cells/\∀(j:Nat) u,cs[j]? =some u->cells[o+j]? =some u,λa ⟨cells,h1,h2⟩=>⟨cells,h1.mono a,h2⟩⟩
structure Enc(α:Type) where
 n:Nat
 Y:Type
 pat:α->Y->List Value
 fs:α->Y->List aP
 len:∀a y,(pat a y).length=n
def Ox(n:Nat):ak Addr->Prop
 |none=>True
 |some ⟨_,_,some f⟩=>f=0\/f=n
 |some ⟨_,_,none⟩=>False
def aj{α:Type}(E:Enc α)(v:ah)(xs:ae α):aP:=
 ⟨λw=>(xs=[]/\∃a c,v=.slice a 0 c/\Ox E.n a)\/∃i o f c cells,(v=.slice (some ⟨i,o,some f⟩) xs.length c/\xs.length<=c/\(f=0\/f=E.n))/\Fz w i cells/\
  ∀(k:Nat) x,xs[k]? =some x->∃y,(∀(j:Nat) u,(E.pat x y)[j]? =some u->cells[o+k*E.n+j]? =some u)/\∀f∈E.fs x y,f.p w,
  λa h=>by
   rcases h with h|⟨i,o,f,c,cells,h1,h2,h3⟩
   .exact .inl h
   .refine .inr ⟨i,o,f,c,cells,h1,h2.mono a,λk x hk=>?_⟩;obtain⟨y,q1,q2⟩:=h3 k x hk;exact⟨y,q1,λf hf=>f.mono a (q2 f hf)⟩⟩
def ai:Enc Int:=⟨1,Unit,λx _=>[.int .i64 x],λ_ _=>[],λ_ _=>rfl⟩
def Ur:Enc Bool:=⟨1,Unit,λx _=>[.bool x],λ_ _=>[],λ_ _=>rfl⟩
def aV:Enc ByteArray:=⟨1,Unit,λx _=>[.string x],λ_ _=>[],λ_ _=>rfl⟩
def aA{α:Type}(E:Enc α):Enc (ae α):=⟨1,ah,λ_ v=>[v],λxs v=>[aj E v xs],λ_ _=>rfl⟩
structure OA where
 p:Wd->List Nat->Prop
 loc:∀{w w':Wd} {S:List Nat},w.Le w'->(∀i∈S,w'.h.get i=w.h.get i)->p w S->p w' S
def pt(b:Nat)(o:bO):OA:=⟨λw S=>S=[b]/\w.h.get b=some o,λa h ⟨h1,h2⟩=>⟨h1,by rw[h b wg];exact h2⟩⟩
def ap{α:Type}(E:Enc α)(v:ah)(xs:ae α):OA:=
 ⟨λw S=>(xs=[]/\v=.slice none 0 0/\S=[])\/∃b o f cells,v=.slice (some ⟨b,o,some f⟩) xs.length xs.length/\(f=0\/f=E.n)/\S=[b]/\w.h.get b=some (.cells cells)/\cells.length=o+xs.length*E.n/\
  ∀(k:Nat) x,xs[k]? =some x->∃y,(∀(j:Nat) u,(E.pat x y)[j]? =some u->cells[o+k*E.n+j]? =some u)/\∀f∈E.fs x y,f.p w,
  λa h hp=>by
   rcases hp with hp|⟨b,o,f,cells,h1,h2,h3,h4,h5,h6⟩
   .exact .inl hp
   .refine .inr ⟨b,o,f,cells,h1,h2,h3,by rw[h b y6];exact h4,h5,λk x hk=>?_⟩;obtain⟨y,q1,q2⟩:=h6 k x hk;exact⟨y,q1,λf hf=>f.mono a (q2 f hf)⟩⟩
def fP(w:Wd):ae OA->ae Nat->Prop
 |[],S=>S=[]
 |A::kl,S=>∃S1 S2,A.p w S1/\fP w kl S2/\S=S1++S2
def fP.loc{w w':Wd}(a:w.Le w'):∀{kl:ae OA} {S:ae Nat},(∀i∈S,w'.h.get i=w.h.get i)->fP w kl S->fP w' kl S
 |[],S,_,h=>h
 |A::kl,S,hs,⟨S1,S2,h1,h2,e⟩=>⟨S1,S2,A.loc a (λi hi=>hs i (by rw[e];exact lq _ hi)) h1,fP.loc a (λi hi=>hs i (by rw[e];exact pI _ hi)) h2,e⟩
def fP.app:∀{k1 k2:ae OA} {S1 S2:ae Nat},fP w k1 S1->fP w k2 S2->fP w (k1++k2) (S1++S2)
 |[],k2,S1,S2,h1,h2=>by
  have h1:S1=[]:=h1;subst h1;exact h2
 |A::k1,k2,_,S2,⟨T1,T2,q1,q2,e⟩,h2=>⟨T1,T2++S2,q1,q2.app h2,by rw[e,gz]⟩
inductive aD{α:Type}(A:α):List α->List α->Prop
 |here {l:List α}:aD A (A::l) l
 |there {C:α} {l l':List α} (h:aD A l l'):aD A (C::l) (C::l')
inductive aO{α:Type}:List α->List α->List α->Prop
 |nil {l:List α}:aO [] l l
 |cons {A:α} {k l l' l'':List α} (h:aD A l l') (h2:aO k l' l''):aO (A::k) l l''
def aD.app{α:Type}{A:α}{l l':ae α}(h:aD A l l'):∀k:ae α,aD A (k++l) (k++l')
 |[]=>h
 |_::k=>.there (aD.app h k)
def aO.self{α:Type}:∀k r:ae α,aO k (k++r) r
 |[],_=>.nil
 |_::k,r=>.cons .here (aO.self k r)
variable{α:Type}
def aO.all(k:ae α):aO k k []:=by
 have:=aO.self k []
 rwa [jd]at this
def aO.there{k l l':ae α}(A:α)(h:aO k l l'):aO k (A::l) (A::l'):=by
 exact pA
def fP.iw{w:Wd}{A:OA}:∀{kl kl':ae OA} {S:ae Nat},aD A kl kl'->fP w kl S->∃S',fP w (A::kl') S'/\S.Perm S'
 |_,_,S,.here,h=>⟨S,h,.refl _⟩
 |_,_,_,.there s,⟨S1,S2,h1,h2,e⟩=>by
  obtain⟨S',⟨T1,T2,q1,q2,e'⟩,hp⟩:=fP.iw s h2;subst e e';refine⟨T1++(S1++T2),⟨T1,_,q1,⟨S1,T2,h1,q2,rfl⟩,rfl⟩,?_⟩;have:(S1++S2).Perm (S1++(T1++T2)):=hp.append_left S1;refine this.trans ?_;exact pL
def fP.kV{w:Wd}:∀{k kl kl':ae OA} {S:ae Nat},aO k kl kl'->fP w kl S->∃S1 S2,fP w k S1/\fP w kl' S2/\S.Perm (S1++S2)
 |_,_,_,S,.nil,h=>⟨[],S,rfl,h,.refl _⟩
 |_,_,_,S,.cons s r,h=>by
  obtain⟨S',⟨T1,T2,q1,q2,e⟩,hp⟩:=h.iw s;obtain⟨U1,U2,u1,u2,hu⟩:=fP.kV r q2;subst e;exact⟨T1++U1,U2,⟨T1,U1,q1,u1,rfl⟩,u2,hp.trans (by rw[gz];exact hu.append_left T1)⟩
inductive Sub{α:Type}:List α->List α->Prop
 |nil {l:List α}:Sub [] l
 |cons {a:α} {k l:List α} (h:a∈l) (h2:Sub k l):Sub (a::k) l
def Sub.mem:∀{k l:ae α},Sub k l->∀x∈k,x∈l
 |_,_,.nil,x,hx=>by cases hx
 |_,_,.cons h h2,x,hx=>by
  cases hx with
  |head=>exact h
  |tail _ hx=>exact h2.mem x hx
structure aeI(B:List Nat)(h h':IH):Prop where
 next:h.next<=h'.next
 get:∀i,i<h.next->i∉B->h'.get i=h.get i
 low:h.low<=h.next->(∀b∈B,h.low<=b)->h'.low=h.low
structure St(B:List Nat)(w0:Wd)(kl:List OA)(F:List aP)(w:Wd):Prop where
 agree:aeI B w0.h w.h
 le:w0.Le w
 ig:∀i,i<w0.h.next->w.z i->w0.z i\/i∈B
 own:∃S,fP w kl S/\S.Nodup/\∀i∈S,(w0.h.next<=i\/i∈B)/\i<w.h.next/\¬w.z i
 facts:∀f∈F,f.p w
section
variable {B:ae Nat} {w0 w:Wd} {kl:ae OA} {F:ae aP}
variable{kl' k:ae OA}
def St.kV(s:aO k kl kl')(h:St B w0 kl F w):St B w0 (k++kl') F w:=by
 obtain⟨S,h1,h2,h3⟩:=h.own;obtain⟨S1,S2,q1,q2,hp⟩:=h1.kV s;exact⟨h.agree,h.le,h.ig,⟨S1++S2,q1.app q2,hp.nodup h2,λi hi=>h3 i (hp.mem_iff.2 hi)⟩,h.facts⟩
variable{A:OA}
def St.iw(s:aD A kl kl')(h:St B w0 kl F w):St B w0 (A::kl') F w:=h.kV (.cons s .nil)
def St.drop(h:St B w0 (k++kl') F w):St B w0 k F w:=by
 obtain⟨S,h1,h2,h3⟩:=h.own;have:∀{k:ae OA} {S:ae Nat},fP w (k++kl') S->∃S1 S2,fP w k S1/\S=S1++S2:=by
  intro k;induction k with
  |nil=>intro S hS;exact⟨[],S,rfl,rfl⟩
  |cons A k ih=>
   rintro S ⟨T1,T2,q1,q2,e⟩;obtain⟨S1,S2,u1,u2⟩:=ih q2;exact⟨T1++S1,S2,⟨T1,S1,q1,u1,rfl⟩,by rw[e,u2,gz]⟩
 obtain⟨S1,S2,q1,e⟩:=this h1;subst e;exact⟨h.agree,h.le,h.ig,⟨S1,q1,(iT.1 h2).1,λi hi=>h3 i (lq _ hi)⟩,h.facts⟩
variable{F':ae aP}
def St.sub(s:Sub F' F)(h:St B w0 kl F w):St B w0 kl F' w:=⟨h.agree,h.le,h.ig,h.own,λf hf=>h.facts f (s.mem f hf)⟩
def St.add(h:St B w0 kl F w)(hf:∀f∈F',f.p w):St B w0 kl (F'++F) w:=
 ⟨h.agree,h.le,h.ig,h.own,λf h1=>(dY.1 h1).elim (hf f) (h.facts f)⟩
variable{b:Nat}{o:bO}
def St.get(h:St B w0 (pt b o::kl) F w):w.h.get b=some o/\b<w.h.next/\(w0.h.next<=b\/b∈B):=by
 obtain⟨S,⟨S1,S2,⟨e1,q1⟩,_,e⟩,h2,h3⟩:=h.own;have hb:b∈S:=by rw[e,e1];simp
 exact⟨q1,(h3 b hb).2.1,(h3 b hb).1⟩
def St.at_(s:aD (pt b o) kl kl')(h:St B w0 kl F w):At w.h b o:=⟨(h.iw s).get.2.1,(h.iw s).get.1⟩
noncomputable def Wd.new(w:Wd)(o:bO):Wd:=⟨w.h.new o,w.z,λi hi=>Mr (w.nP i hi)⟩
def St.new(h:St B w0 kl F w)(o:bO):St B w0 (pt w.h.next o::kl) F (w.new o):=by
 have hg:∀i,i<w.h.next->(w.h.new o).get i=w.h.get i:=λi hi=>by rw[IH.jF,if_neg tr]
 have hle:w.Le (w.new o):=⟨AP _,λ_ h=>h,λi hi=>hg i (w.nP i hi)⟩
 obtain⟨S,h1,h2,h3⟩:=h.own;refine⟨⟨Nat.le_succ_of_le h.agree.next,λi hi hb=>(hg i (mY hi h.agree.next)).trans (h.agree.get i hi hb),λa b=>h.agree.low a b⟩,h.le.trans hle,h.ig,
  ⟨[w.h.next]++S,⟨[w.h.next],S,⟨rfl,by show(w.h.new o).get _=_;rw[IH.jF,if_pos rfl]⟩,fP.loc hle (λi hi=>hg i (h3 i hi).2.1) h1,rfl⟩,?_,?_⟩,λf hf=>f.mono hle (h.facts f hf)⟩
 .exact r5
 .intro i hi;rcases dY.1 hi with hi|hi
  .rw[bK.1 hi];exact⟨.inl h.agree.next,xW _,λhz=>absurd (w.nP _ hz) (Nat.lt_irrefl _)⟩
  .exact⟨(h3 i hi).1,Mr (h3 i hi).2.1,(h3 i hi).2.2⟩
variable{o':bO}
def St.write(h:St B w0 (pt b o::kl) F w):St B w0 (pt b o'::kl) F ⟨w.h.set b o',w.z,λi hi=>w.nP i hi⟩:=by
 obtain⟨S,⟨S1,S2,⟨e1,q1⟩,q2,e⟩,h2,h3⟩:=h.own;subst e e1;have hb:=h3 b tt;have hn:b∉S2:=λhm=>(xY.1 h2).1 hm;have hg:∀i,i≠b->(w.h.set b o').get i=w.h.get i:=λi hi=>by rw[IH.nM,if_neg hi]
 have hle:w.Le ⟨w.h.set b o',w.z,λi hi=>w.nP i hi⟩:=⟨bQ _,λ_ h=>h,λi hi=>hg i (λe=>hb.2.2 (e▸hi))⟩
 refine⟨⟨h.agree.next,λi hi hB=>(hg i ?_).trans (h.agree.get i hi hB),λa c=>?_⟩,h.le.trans hle,h.ig,
  ⟨[b]++S2,⟨[b],S2,⟨rfl,by show(w.h.set b o').get b=_;rw[IH.nM,if_pos rfl]⟩,fP.loc hle (λi hi=>hg i (λe=>hn (e▸hi))) q2,rfl⟩,h2,h3⟩,λf hf=>f.mono hle (h.facts f hf)⟩
 .exact sk
 .have hl:=h.agree.low a c;show(w.h.set b o').low=_;rw[IH.Iq,hl];rcases hb.1 with q|q
  .omega
  .have:=c b q;omega
def St.move{h':IH}(h:St B w0 (pt b o::kl) F w)(m:Bu w.h h' b o'):∃w':Wd,w'.h=h'/\St B w0 (pt w.h.next o'::kl) F w'/\w.Le w':=by
 obtain⟨S,⟨S1,S2,⟨e1,q1⟩,q2,e⟩,h2,h3⟩:=h.own;subst e e1;have hb:=h3 b tt;have hn:b∉S2:=λhm=>(xY.1 h2).1 hm;let w':Wd:=⟨h',w.z,λi hi=>by rw[m.next];exact Mr (w.nP i hi)⟩
 have hle:w.Le w':=⟨by show _<=h'.next;rw[m.next];exact AP _,λ_ h=>h,λi hi=>m.get i (w.nP i hi) (λe=>hb.2.2 (e▸hi))⟩
 refine⟨w',rfl,⟨⟨by show _<=h'.next;rw[m.next];exact Nat.le_succ_of_le h.agree.next,λi hi hB=>(m.get i (mY hi h.agree.next) ?_).trans (h.agree.get i hi hB),λa c=>?_⟩,h.le.trans hle,h.ig,
  ⟨[w.h.next]++S2,⟨[w.h.next],S2,⟨rfl,m.at_.2⟩,fP.loc hle (λi hi=>m.get i (h3 i xb).2.1 (λe=>hn (e▸hi))) q2,rfl⟩,?_,?_⟩,λf hf=>f.mono hle (h.facts f hf)⟩,hle⟩
 .exact sk
 .have hl:=h.agree.low a c;rw[<- hl];refine m.low ?_;rw[hl];rcases hb.1 with q|q
  .omega
  .exact c b q
 .refine xY.2 ⟨λhm=>?_,(xY.1 h2).2⟩;have:=(h3 _ (fO _ hm)).2.1;omega
 .intro i hi;have hnx:w'.h.next=w.h.next+1:=m.next
  rcases dY.1 hi with hi|hi
  .rw[bK.1 hi];exact⟨.inl h.agree.next,tr,λhz=>absurd (w.nP _ hz) (Nat.lt_irrefl _)⟩
  .have:=h3 i xb;exact⟨this.1,tr,this.2.2⟩
variable{A':OA}
def St.BA(hA:∀w S,A.p w S->A'.p w S)(h:St B w0 (A::kl) F w):St B w0 (A'::kl) F w:=by
 obtain⟨S,⟨S1,S2,q1,q2,e⟩,h2,h3⟩:=h.own;exact⟨h.agree,h.le,h.ig,⟨S,⟨S1,S2,hA w S1 q1,q2,e⟩,h2,h3⟩,h.facts⟩
def St.zV(h:St B w0 (A::kl) F w)(hA:∀S,A.p w S->A'.p w S):St B w0 (A'::kl) F w:=by
 obtain⟨S,⟨S1,S2,q1,q2,e⟩,h2,h3⟩:=h.own;exact⟨h.agree,h.le,h.ig,⟨S,⟨S1,S2,hA S1 q1,q2,e⟩,h2,h3⟩,h.facts⟩
def St.tail(h:St B w0 (A::kl) F w):St B w0 kl F w:=by
 obtain⟨S,⟨S1,S2,q1,q2,e⟩,h2,h3⟩:=h.own;subst e;exact⟨h.agree,h.le,h.ig,⟨S2,q2,(iT.1 h2).2.1,λi hi=>h3 i (pI _ hi)⟩,h.facts⟩
def sZ(A:OA)(fs:ae aP):Prop:=∀(w w':Wd) S,A.p w S->w.Le w'->w'.h=w.h->(∀i∈S,w'.z i)->∀f∈fs,f.p w'
def St.freeze{fs:ae aP}(hA:sZ A fs)(h:St B w0 (A::kl) F w):∃w',w'.h=w.h/\St B w0 kl (fs++F) w':=by
 obtain⟨S,⟨S1,S2,q1,q2,e⟩,h2,h3⟩:=h.own;subst e;let w':Wd:=⟨w.h,λi=>w.z i\/i∈S1,λi hi=>hi.elim (w.nP i) λhi=>(h3 i (lq _ hi)).2.1⟩
 have hle:w.Le w':=⟨bQ _,λi hi=>.inl hi,λ_ _=>rfl⟩
 have hnd:=iT.1 h2;refine⟨w',rfl,h.agree,h.le.trans hle,λi hi hz=>?_,⟨S2,fP.loc hle (λ_ _=>rfl) q2,hnd.2.1,λi hi=>?_⟩,λf hf=>?_⟩
 .rcases hz with hz|hz
  .exact h.ig i hi hz
  .exact r8
 .exact lE
 .rcases dY.1 hf with hf|hf
  .exact hA w w' S1 q1 hle rfl (λi hi=>.inr hi) f hf
  .exact f.mono hle (h.facts f hf)
def gI{α:Type}{E:Enc α}{v:ah}{xs:ae α}:sZ (ap E v xs) [aj E v xs]:=by
 intro w w' S hp hle hh hz f hf;rw[bK.1 hf];rcases hp with⟨h1,h2,_⟩|⟨b,o,f,cells,h1,h2,h3,h4,h5,h6⟩
 .exact .inl ⟨h1,none,0,h2,trivial⟩
 .refine .inr ⟨b,o,f,_,cells,⟨h1,bQ _,h2⟩,⟨hz b y6,.inl (by rw[hh];exact h4)⟩,λk x hk=>?_⟩;obtain⟨y,q1,q2⟩:=h6 k x hk;exact⟨y,q1,λf hf=>f.mono hle (q2 f hf)⟩
def aeJ{cs:ae ah}:sZ (pt b (.cells cs)) [eZ b 0 cs]:=by
 intro w w' S ⟨h1,h2⟩ hle hh hz f hf;rw[bK.1 hf];exact⟨cs,⟨hz b wg,.inl AS⟩,λj u hj=>by rw[fq];exact hj⟩
def BB{f c:Nat}{xs:ae Int}(hc:xs.length<=c:=by first|exact bQ _|omega)(hf:f=0\/f=1:=by first|exact .inl rfl|exact .inr rfl):sZ (pt b (.cells (xs.map (.int .i64)))) [aj ai (.slice (some ⟨b,0,some f⟩) xs.length c) xs]:=by
 intro w w' S ⟨h1,h2⟩ hle hh hz g hg;rw[bK.1 hg];refine .inr ⟨b,0,f,c,_,⟨rfl,hc,hf⟩,⟨hz b wg,.inl AS⟩,λk x hk=>⟨(),λj u hj=>?_,λf hf=>by cases hf⟩⟩;match j,hj with
 |0,hj=>
  cases hj;simp[ai,hk]
end
end Go.Ideal
namespace Go.Ideal
variable {P:Program}
def R(Q:IH->Prop)(B:ae Nat)(w0:Wd)(kl:ae OA)(F:ae aP):Prop:=∀w,St B w0 kl F w->Q w.h
structure dz(G G':Prop):Prop where
 h:G'->G
def dz.refl(G:Prop):dz G G:=⟨id⟩
variable{A B:Prop}
def dz.trans{C:Prop}(a:dz A B)(b:dz B C):dz A C:=⟨λc=>a.h (b.h c)⟩
def dz.all{X:Type}{A B:X->Prop}(h:∀x,dz (A x) (B x)):dz (∀x,A x) (∀x,B x):=⟨λb x=>(h x).h (b x)⟩
def dz.imp{p:Prop}(h:dz A B):dz (p->A) (p->B):=⟨λb x=>h.h (b x)⟩
def Pu(P:Program)(ρ:ay->ah)(op:aH)(v:ah):Prop:=∀h,op.run P ρ h=some (v,h)
inductive EvL(ρ:Operand->Value):List Operand->List Value->Prop
 |nil:EvL ρ [] []
 |cons {x:Operand} {v:Value} {xs:List Operand} {vs:List Value} (h:ρ x=v) (t:EvL ρ xs vs):EvL ρ (x::xs) (v::vs)
def EvL.map{ρ:ay->ah}:∀{xs:ae ay} {vs:ae ah},EvL ρ xs vs->xs.map ρ=vs
 |_,_,.nil=>rfl
 |_,_,.cons h t=>by rw[iQ,h,t.map]
section
variable {ρ:ay->ah}
variable{x:ay}{v:ah}
def I9(hx:ρ x=v):Pu P ρ (.mv x) v:=λh=>by simp only[aH.run,hx]
def Ja(hx:ρ x=v):Pu P ρ (.om x) v:=λh=>by simp only[aH.run,hx]
variable{y:ay}
def Jb{c:ay}(hc:ρ c=.bool true)(hx:ρ x=v):Pu P ρ (.pick c x y) v:=λh=>by simp only[aH.run,hc,hx,cond]
def Jc{c:ay}(hc:ρ c=.bool false)(hx:ρ y=v):Pu P ρ (.pick c x y) v:=λh=>by simp only[aH.run,hc,hx,cond]
def Jd{b:Bool}(hx:ρ x=.bool b):Pu P ρ (.un .not x) (.bool !b):=λh=>by simp only[aH.run,hx];rfl
variable{m c:Nat}
def Je{a:ak Addr}(hx:ρ x=.slice a m c):Pu P ρ (.yj x) (.int .i64 (m:Int)):=λh=>by simp only[aH.run,hx,TY]
variable{n:Nat}
def Jf:Pu P ρ (.Ih n) (.int .i64 (n:Int)):=λh=>rfl
variable{t:aC}{a b:Int}
def Jg(hx:ρ x=.int .i64 a)(hy:ρ y=.int .i64 b):Pu P ρ (.bin .lss t x y) (.bool (decide (a<b))):=λh=>by
 simp only[aH.run,hx,hy];rw[yL (v:=.bool (decide (a<b)))];simp[qp,uG,<- Int.not_le]
def Jh(hx:ρ x=.int .i64 a)(hy:ρ y=.int .i64 b):Pu P ρ (.bin .leq t x y) (.bool (decide (a<=b))):=λh=>by
 simp only[aH.run,hx,hy];rw[yL (v:=.bool (decide (a<=b)))];simp[qp,uG]
def Ji(hx:ρ x=.int .i64 a)(hy:ρ y=.int .i64 b):Pu P ρ (.bin .gtr t x y) (.bool (decide (b<a))):=λh=>by
 simp only[aH.run,hx,hy];rw[yL (v:=.bool (decide (b<a)))];simp[qp,uG,<- Int.not_le]
def Jj(hx:ρ x=.int .i64 a)(hy:ρ y=.int .i64 b):Pu P ρ (.bin .geq t x y) (.bool (decide (b<=a))):=λh=>by
 simp only[aH.run,hx,hy];rw[yL (v:=.bool (decide (b<=a)))];simp[qp,uG]
def Jk(hx:ρ x=.int .i64 a)(hy:ρ y=.int .i64 b):Pu P ρ (.bin .eql t x y) (.bool (decide (a=b))):=λh=>by
 simp only[aH.run,hx,hy];rw[yL (v:=.bool (decide (a=b)))];simp[qp,EY];rfl
def Jl(hx:ρ x=.int .i64 a)(hy:ρ y=.int .i64 b):Pu P ρ (.bin .neq t x y) (.bool (decide (a≠b))):=λh=>by
 simp only[aH.run,hx,hy];rw[yL (v:=.bool (decide (a≠b)))];simp[qp,EY];rfl
def Dq(hx:ρ x=.int .i64 a)(hy:ρ y=.int .i64 b)(h1: -9223372036854775808<=a+b)(h2:a+b<9223372036854775808):Pu P ρ (.bin .add t x y) (.int .i64 (a+b)):=λh=>by
 simp only[aH.run,hx,hy];rw[yL (v:=.int .i64 (a+b))];simp only[qp,M8,T9 h1 h2]
def Jm(hx:ρ x=.int .i64 a)(hy:ρ y=.int .i64 b)(h1: -9223372036854775808<=a - b)(h2:a - b<9223372036854775808):Pu P ρ (.bin .sub t x y) (.int .i64 (a - b)):=λh=>by
 simp only[aH.run,hx,hy];rw[yL (v:=.int .i64 (a - b))];simp only[qp,Sy,T9 h1 h2]
def Jn{i:Nat}{vs:ae ah}(hx:ρ x=.tuple ⟨vs⟩)(hv:kE vs i=some v):Pu P ρ (.extract x i) v:=λh=>by simp only[aH.run,hx,hv]
variable{o off:Nat}
def Jo{b:Nat}(hx:ρ x=.pointer (some ⟨b,o,none⟩)):Pu P ρ (.gD off x) (.pointer (some ⟨b,o+off,none⟩)):=λh=>by simp only[aH.run,hx];rfl
variable{cs:ae ah}
def Jp(hx:ρ x=.agg ⟨cs⟩)(hv:kE cs off=some v):Pu P ρ (.field t off n false x) v:=λh=>by simp only[aH.run,hx,hv]
def Jq{r:ae ah}(hx:ρ x=.agg ⟨cs⟩)(hv:jN (kF cs off) n=some r):Pu P ρ (.field t off n true x) (.agg ⟨r⟩):=λh=>by simp only[aH.run,hx,hv]
def Jr(hx:ρ x=v):Pu P ρ (.iface t x) (.iface t v):=λh=>by simp only[aH.run,hx]
def Js{zero:ah}(hx:ρ x=.iface t v):Pu P ρ (.Ie t zero false x) v:=λh=>by
 simp only[aH.run,hx];show cond (Nat.beq t t) _ _=_;rw[Nat.beq_refl];rfl
def aeK{zero:ae ah}{parts:ae (Nat×Nat×ay)}(hx:sP ρ zero parts=some cs):Pu P ρ (.build zero parts) (.agg ⟨cs⟩):=λh=>by simp only[aH.run,hx]
def Jt{a:Addr}(hx:ρ x=.pointer (some a)):Pu P ρ (.l9 x) (.pointer (some a)):=λh=>by simp only[aH.run,hx]
def Ju{f:iI}{a b:Array ah}(hx:ρ x=.func (.func f) a b):Pu P ρ (.l9 x) (.func (.func f) a b):=λh=>by simp only[aH.run,hx]
def aeL{fn:Fn}{first captured:ae ay}{a b:ae ah}(h1:EvL ρ first a)(h2:EvL ρ captured b):Pu P ρ (.CO fn first captured) (.func fn ⟨a⟩ ⟨b⟩):=λh=>by
 simp only[aH.run,vU,h1.map,h2.map]
variable{i:ay}{k:Int}{size:Nat}{kk:IntKind}{f:ak Nat}
def FM{b:Nat}(hx:ρ x=.slice (some ⟨b,o,f⟩) m c)(hi:ρ i=.int kk k)(h0:0<=k)(h1:k<m):
 Pu P ρ (.oq size x i) (.pointer (some ⟨b,o+k.toNat*size,none⟩)):=λh=>by
 obtain⟨j,rfl⟩:=iO h0;simp only[aH.run,hx,hi];show cond (Nat.blt j m) _ _=_;rw[Og tr];rfl
def Jv{b k:Nat}(hx:ρ x=.slice (some ⟨b,o,f⟩) m c)(hi:ρ i=.int kk (.ofNat k))(h1:Nat.blt k m=true):
 Pu P ρ (.oq size x i) (.pointer (some ⟨b,o+k*size,none⟩)):=λh=>by
 simp only[aH.run,hx,hi,h1];rfl
def Jw{b:Nat}(hx:ρ x=.pointer (some ⟨b,o,none⟩))(hi:ρ i=.int kk k)(h0:0<=k)(h1:k<m):
 Pu P ρ (.MJ m size x i) (.pointer (some ⟨b,o+k.toNat*size,none⟩)):=λh=>by
 obtain⟨j,rfl⟩:=iO h0;simp only[aH.run,hx,hi];show cond (Nat.blt j m) _ _=_;rw[Og tr];rfl
end
section
variable {B:ae Nat} {w0:Wd} {kl kl':ae OA} {F:ae aP} {a:bi} {K:KO}
def aeM{x y:dA}:dz (R (λh=>EV P (.seq x y) a h K) B w0 kl F) (R (λh=>EV P x a h (zS P y K)) B w0 kl F):=⟨λr w s=>aei (r w s)⟩
variable{id:Nat}{c:dA}
def aeN:dz (R (λh=>EV P (.block id c) a h K) B w0 kl F) (R (λh=>EV P c a h (yJ id K)) B w0 kl F):=⟨λr w s=>aej (r w s)⟩
variable{ds:ae Tmp}
def aeO{l:ae bY}:dz (R (λh=>EV P (.ops ds l) a h K) B w0 kl F) (R (λh=>aJ P ds l a h K) B w0 kl F):=⟨λr w s=>.ops (r w s)⟩
def aeP:dz (R (λh=>EV P (.scope c) a h K) B w0 kl F) (R (λh=>EV P c a h K) B w0 kl F):=⟨λr w s=>.scope (r w s)⟩
def aeQ:dz (R (λh=>EV P .skip a h K) B w0 kl F) (R (λh=>K .normal a h) B w0 kl F):=⟨λr w s=>.skip (r w s)⟩
def aeR:dz (R (λh=>EV P (.exit id) a h K) B w0 kl F) (R (λh=>K (.exit id) a h) B w0 kl F):=⟨λr w s=>.exit (r w s)⟩
def aeS:dz (R (λh=>EV P .ret a h K) B w0 kl F) (R (λh=>K .ret a h) B w0 kl F):=⟨λr w s=>.ret (r w s)⟩
def aeT:dz (R (λh=>aJ P ds [] a h K) B w0 kl F) (R (λh=>K .normal a h) B w0 kl F):=⟨λr w s=>.nil (r w s)⟩
variable {y:dA} {i j m0:Nat} {I:Nat->bi->IH->Prop} {ch:ae PanicEntry}
def aeU:dz (R (λh=>zS P y K .normal a h) B w0 kl F) (R (λh=>EV P y a h K) B w0 kl F):=⟨λr w s=>r w s⟩
def aeV:dz (R (λh=>zS P y K .ret a h) B w0 kl F) (R (λh=>K .ret a h) B w0 kl F):=⟨λr w s=>r w s⟩
def aeW:dz (R (λh=>zS P y K (.exit j) a h) B w0 kl F) (R (λh=>K (.exit j) a h) B w0 kl F):=⟨λr w s=>r w s⟩
def aeX:dz (R (λh=>zS P y K (.panic ch) a h) B w0 kl F) (R (λh=>K (.panic ch) a h) B w0 kl F):=⟨λr w s=>r w s⟩
def aeY:dz (R (λh=>yJ i K .normal a h) B w0 kl F) (R (λh=>K .normal a h) B w0 kl F):=⟨λr w s=>r w s⟩
def aeZ:dz (R (λh=>yJ i K .ret a h) B w0 kl F) (R (λh=>K .ret a h) B w0 kl F):=⟨λr w s=>r w s⟩
def ae0:dz (R (λh=>yJ i K (.panic ch) a h) B w0 kl F) (R (λh=>K (.panic ch) a h) B w0 kl F):=⟨λr w s=>r w s⟩
def ae1(e:Nat.beq j i=true):dz (R (λh=>yJ i K (.exit j) a h) B w0 kl F) (R (λh=>K .normal a h) B w0 kl F):=⟨λr w s=>aeq e (r w s)⟩
def ae2(e:Nat.beq j i=false):dz (R (λh=>yJ i K (.exit j) a h) B w0 kl F) (R (λh=>K (.exit j) a h) B w0 kl F):=⟨λr w s=>aer e (r w s)⟩
def ae3:dz (R (λh=>wz I m0 K .ret a h) B w0 kl F) (R (λh=>K .ret a h) B w0 kl F):=⟨λr w s=>r w s⟩
def ae4:dz (R (λh=>wz I m0 K (.exit j) a h) B w0 kl F) (R (λh=>K (.exit j) a h) B w0 kl F):=⟨λr w s=>r w s⟩
def ae5:dz (R (λh=>wz I m0 K (.panic ch) a h) B w0 kl F) (R (λh=>K (.panic ch) a h) B w0 kl F):=⟨λr w s=>r w s⟩
end
section
variable {B:ae Nat} {w0:Wd} {kl kl':ae OA} {F:ae aP} {K:KO} {ds:ae Tmp} {rest:ae bY} {n:Nat} {l:qr} {D:ae Deferred} {pm:ak FrameMode} {ro:ak Nat} {d:Nat} {g:ak (Tmp×Bool)}
variable{c:ay}{y:dA}
def ae6{x:dA}(hc:ev l c=.bool true):dz (R (λh=>EV P (.cond c x y) (act n l D pm ro) h K) B w0 kl F) (R (λh=>EV P x (act n l D pm ro) h K) B w0 kl F):=
 ⟨λr w s=>FI true hc (λ_=>r w s) (λe=>by cases e)⟩
def ae7{x:dA}(hc:ev l c=.bool false):dz (R (λh=>EV P (.cond c x y) (act n l D pm ro) h K) B w0 kl F) (R (λh=>EV P y (act n l D pm ro) h K) B w0 kl F):=
 ⟨λr w s=>FI false hc (λe=>by cases e) (λ_=>r w s)⟩
variable{p:Prop}
def jC{x:dA}[Decidable p](hc:ev l c=.bool (decide p))(h1:p->R (λh=>EV P x (act n l D pm ro) h K) B w0 kl F)(h2:¬p->R (λh=>EV P y (act n l D pm ro) h K) B w0 kl F):
 R (λh=>EV P (.cond c x y) (act n l D pm ro) h K) B w0 kl F:=
 λw s=>FI _ hc (λe=>h1 (gT e) w s) (λe=>h2 (ol e) w s)
def fu{x:dA}[Decidable p](hc:ev l c=.bool (!decide p))(h1:¬p->R (λh=>EV P x (act n l D pm ro) h K) B w0 kl F)(h2:p->R (λh=>EV P y (act n l D pm ro) h K) B w0 kl F):
 R (λh=>EV P (.cond c x y) (act n l D pm ro) h K) B w0 kl F:=
 λw s=>FI _ hc (λe=>h1 tW w s) (λe=>h2 tW w s)
def jS{x:dA}{b:Bool}(hc:ev l c=.bool b)(h1:b=true->R (λh=>EV P x (act n l D pm ro) h K) B w0 kl F)(h2:b=false->R (λh=>EV P y (act n l D pm ro) h K) B w0 kl F):
 R (λh=>EV P (.cond c x y) (act n l D pm ro) h K) B w0 kl F:=
 λw s=>FI _ hc (λe=>h1 e w s) (λe=>h2 e w s)
variable{op:aH}
def ae8{re:ae iU}(hn:Nat.blt d n=true)(hg:Od l g=true):dz (R (λh=>aJ P ds (⟨⟨some d,g,op⟩,re⟩::rest) (act n l D pm ro) h K) B w0 kl F) (R (λh=>aJ P ds rest (act n ((d,uA)::l) D pm ro) h K) B w0 kl F):=
 ⟨λr w s=>aeo hn hg (r w s)⟩
variable{v:ah}
def fo(hn:Nat.blt d n=true)(hg:cO l g=true)(hp:Pu P (ev l) op v):dz (R (λh=>aJ P ds (⟨⟨some d,g,op⟩,[]⟩::rest) (act n l D pm ro) h K) B w0 kl F) (R (λh=>aJ P ds rest (act n ((d,v)::l) D pm ro) h K) B w0 kl F):=
 ⟨λr w s=>ni hn hg (hp w.h) (r w s)⟩
abbrev ptr'(b:Nat):ah:=.pointer (some ⟨b,0,none⟩)
variable{cs:ae ah}{t:aC}
def ae9(hn:Nat.blt d n=true)(hg:cO l g=true):dz (R (λh=>aJ P ds (⟨⟨some d,g,.new cs t⟩,[]⟩::rest) (act n l D pm ro) h K) B w0 kl F)
 (∀b,R (λh=>aJ P ds rest (act n ((d,.pointer (some ⟨b,0,none⟩))::l) D pm ro) h K) B w0 (pt b (.cells cs)::kl) F):=
 ⟨λr w s=>ni hn hg (h':=w.h.new (.cells cs)) B0 (r w.h.next (w.new _) (s.new _))⟩
variable{x:ay}
def afa(hn:Nat.blt d n=true)(hg:cO l g=true)(hx:cellsOf (ev l x)=some cs):dz (R (λh=>aJ P ds (⟨⟨some d,g,.box x t⟩,[]⟩::rest) (act n l D pm ro) h K) B w0 kl F)
 (∀b,R (λh=>aJ P ds rest (act n ((d,.pointer (some ⟨b,0,none⟩))::l) D pm ro) h K) B w0 (pt b (.cells cs)::kl) F):=
 ⟨λr w s=>ni hn hg (h':=w.h.new (.cells cs)) (by simp only[aH.run,aH.alloc,sQ,hx]) (r w.h.next (w.new _) (s.new _))⟩
variable{zero:ae ah}
def afb{len:Nat}{parts:ae (Nat×Nat×ay)}(hn:Nat.blt d n=true)(hg:cO l g=true)(hx:sP (ev l) zero parts=some cs):
 dz (R (λh=>aJ P ds (⟨⟨some d,g,.yc t len zero parts⟩,[]⟩::rest) (act n l D pm ro) h K) B w0 kl F)
 (∀b,R (λh=>aJ P ds rest (act n ((d,.slice (some ⟨b,0,some 0⟩) len len)::l) D pm ro) h K) B w0 (pt b (.cells cs)::kl) F):=
 ⟨λr w s=>ni hn hg (h':=w.h.new (.cells cs)) (by simp only[aH.run,aH.alloc,sQ,hx,Ba]) (r w.h.next (w.new _) (s.new _))⟩
variable{m size bytes:Nat}{e:aC}
def afc{y:ay}(hn:Nat.blt d n=true)(hg:cO l g=true)(hx:ev l x=.int .i64 (m:Int))(hy:ev l y=.int .i64 (m:Int))
 (hm:m*bytes<=1073741824/\m*size<=1073741824/\m<=1073741824):dz (R (λh=>aJ P ds (⟨⟨some d,g,.A7 e size bytes zero x y⟩,[]⟩::rest) (act n l D pm ro) h K) B w0 kl F)
 (∀b,R (λh=>aJ P ds rest (act n ((d,.slice (some ⟨b,0,some 0⟩) m m)::l) D pm ro) h K) B w0 (pt b (.cells (zeros zero m))::kl) F):=by
 refine⟨λr w s=>?_⟩;have hle:∀{a b:Nat},a<=b->Nat.ble a b=true:=λh=>by rw[wV];exact h
 refine ni hn hg (h':=w.h.new (.cells (zeros zero m))) ?_ (r w.h.next (w.new _) (s.new _));simp only[aH.run,aH.alloc,hx,hy];show sQ (cond (Nat.ble m m&&Nat.ble (m*bytes) small&&Nat.ble (m*size) small&&Nat.ble m small) _ _) w.h=_;rw[hle (bQ m),hle (show m*bytes<=small from hm.1),hle (show m*size<=small from hm.2.1),hle (show m<=small from hm.2.2)];rfl
variable{b o:Nat}
def afd(hn:Nat.blt d n=true)(hg:cO l g=true)(hx:ev l x=.pointer (some ⟨b,o,none⟩))(hk:aD (pt b (.cells cs)) kl kl')(hv:kE cs o=some v):
 dz (R (λh=>aJ P ds (⟨⟨some d,g,.iE x⟩,[]⟩::rest) (act n l D pm ro) h K) B w0 kl F) (R (λh=>aJ P ds rest (act n ((d,v)::l) D pm ro) h K) B w0 kl F):=
 ⟨λr w s=>I5 hn hg hx (s.at_ hk) (by rw[<- rJ];exact hv) (r w s)⟩
def afe{c:ae ah}(hn:Nat.blt d n=true)(hg:cO l g=true)(hx:ev l x=.pointer (some ⟨b,o,none⟩))(hk:aD (pt b (.cells cs)) kl kl')(hv:jN (kF cs o) m=some c):
 dz (R (λh=>aJ P ds (⟨⟨some d,g,.rz m x⟩,[]⟩::rest) (act n l D pm ro) h K) B w0 kl F) (R (λh=>aJ P ds rest (act n ((d,.agg ⟨c⟩)::l) D pm ro) h K) B w0 kl F):=
 ⟨λr w s=>aep hn hg hx (s.at_ hk) hv (r w s)⟩
variable{j:Nat}{w:Wd}
def Jy(h:(eZ b o cs).p w)(hv:kE cs j=some v):w.h.pK b (o+j)=some v:=by
 obtain⟨cells,h1,h2⟩:=h;rw[h1.cells.pK];exact h2 j v (by rw[<- rJ];exact hv)
def Jz{c:ae ah}(h:(eZ b o cs).p w)(hv:jN (kF cs j) m=some c):w.h.jh b (o+j) m=some c:=by
 obtain⟨cells,h1,h2⟩:=h;rw[h1.cells.jh];rw[qD,qw]at hv⊢;split at hv
 .rename_i hm;cases hv;rw[vH]at hm;have key:∀i,i<m->cells[o+j+i]? =cs[j+i]?:=λi hi=>by
   have hlt:j+i<cs.length:=tr
   rw[oM,bX hlt];exact h2 (j+i) _ (bX hlt)
  have hlen:m=0\/o+j+m<=cells.length:=by
   rcases Mm m with e|e
   .exact .inl e
   .right;have:=key (m - 1) tr;rw[bX (show j+(m - 1)<cs.length by omega)]at this;have:=(bC.1 this).1;omega
  rw[if_pos vf];congr 1;apply jW;intro i;rw[vF,vF];by_cases hi:i<m
  .rw[if_pos hi,if_pos hi,sK,sK];exact key i hi
  .rw[if_neg hi,if_neg hi]
 .cases hv
def aff(hn:Nat.blt d n=true)(hg:cO l g=true)(hx:ev l x=.pointer (some ⟨b,o,none⟩))(hk:eZ b o cs∈F)(hv:kE cs 0=some v):
 dz (R (λh=>aJ P ds (⟨⟨some d,g,.iE x⟩,[]⟩::rest) (act n l D pm ro) h K) B w0 kl F) (R (λh=>aJ P ds rest (act n ((d,v)::l) D pm ro) h K) B w0 kl F):=
 ⟨λr w s=>ni hn hg (by simp only[aH.run,hx,show w.h.pK b o=some v from Jy (j:=0) (s.facts _ hk) hv]) (r w s)⟩
def JA(hn:Nat.blt d n=true)(hg:cO l g=true)(hx:ev l x=.pointer (some ⟨b,o+j,none⟩))(hk:eZ b o cs∈F)(hv:kE cs j=some v):
 dz (R (λh=>aJ P ds (⟨⟨some d,g,.iE x⟩,[]⟩::rest) (act n l D pm ro) h K) B w0 kl F) (R (λh=>aJ P ds rest (act n ((d,v)::l) D pm ro) h K) B w0 kl F):=
 ⟨λr w s=>ni hn hg (by simp only[aH.run,hx,Jy (s.facts _ hk) hv]) (r w s)⟩
def afg{c:ae ah}(hn:Nat.blt d n=true)(hg:cO l g=true)(hx:ev l x=.pointer (some ⟨b,o,none⟩))(hk:eZ b o cs∈F)(hv:jN cs m=some c):
 dz (R (λh=>aJ P ds (⟨⟨some d,g,.rz m x⟩,[]⟩::rest) (act n l D pm ro) h K) B w0 kl F) (R (λh=>aJ P ds rest (act n ((d,.agg ⟨c⟩)::l) D pm ro) h K) B w0 kl F):=
 ⟨λr w s=>ni hn hg (by simp only[aH.run,hx,show w.h.jh b o m=some c from Jz (j:=0) (s.facts _ hk) (by rw[qw];exact hv)]) (r w s)⟩
def Us{c:ae ah}(hn:Nat.blt d n=true)(hg:cO l g=true)(hx:ev l x=.pointer (some ⟨b,o+j,none⟩))(hk:eZ b o cs∈F)(hv:jN (kF cs j) m=some c):
 dz (R (λh=>aJ P ds (⟨⟨some d,g,.rz m x⟩,[]⟩::rest) (act n l D pm ro) h K) B w0 kl F) (R (λh=>aJ P ds rest (act n ((d,.agg ⟨c⟩)::l) D pm ro) h K) B w0 kl F):=
 ⟨λr w s=>ni hn hg (by simp only[aH.run,hx,Jz (s.facts _ hk) hv]) (r w s)⟩
def afh{y:ay}{vs c:ae ah}(hg:cO l g=true)(hx:ev l x=.pointer (some ⟨b,o,none⟩))(hy:cellsOf (ev l y)=some vs)(hm:Nat.beq (je vs) m=true)
 (hk:aD (pt b (.cells cs)) kl kl') (hv:kG cs o vs=some c):
 dz (R (λh=>aJ P ds (⟨⟨none,g,.store m x y⟩,[]⟩::rest) (act n l D pm ro) h K) B w0 kl F) (R (λh=>aJ P ds rest (act n l D pm ro) h K) B w0 (pt b (.cells c)::kl') F):=
 ⟨λr w s=>Oe hg (v:=dR) (h':=w.h.set b (.cells c)) (by simp only[aH.run,hx,hy,hm];simp only[IH.storeAt,(s.at_ hk).2,hv];rfl) (r _ ((s.iw hk).write))⟩
def afi{y:ay}(hg:cO l g=true)(hx:ev l x=.pointer (some ⟨b,o,none⟩))(hy:ev l y=v)(hv:cellsOf v=some [v])
 (hk:aD (pt b (.cells cs)) kl kl') (ho:o<cs.length):
 dz (R (λh=>aJ P ds (⟨⟨none,g,.store 1 x y⟩,[]⟩::rest) (act n l D pm ro) h K) B w0 kl F) (R (λh=>aJ P ds rest (act n l D pm ro) h K) B w0 (pt b (.cells (cs.set o v))::kl') F):=
 ⟨λr w s=>Oe hg (v:=dR) (h':=w.h.set b (.cells (cs.set o v))) (by
  simp only[aH.run,hx,hy,hv];show cond (Nat.beq 1 1) _ _=_;simp only[IH.storeAt,(s.at_ hk).2,Ua cs o v ho];rfl) (r _ ((s.iw hk).write))⟩
def afj(hn:Nat.blt d n=true)(hg:cO l g=true)(hx:ev l x=.pointer (some ⟨b,o,none⟩))(hk:aD (pt b (.cells cs)) kl kl')(hv:cs[o]? =some v):
 dz (R (λh=>aJ P ds (⟨⟨some d,g,.iE x⟩,[]⟩::rest) (act n l D pm ro) h K) B w0 kl F) (R (λh=>aJ P ds rest (act n ((d,v)::l) D pm ro) h K) B w0 kl F):=
 ⟨λr w s=>I5 hn hg hx (s.at_ hk) hv (r w s)⟩
variable{α:Type}
def Ut{E:Enc α}{xs:ae α}(h:(aj E v xs).p w):∃a c,v=.slice a xs.length c:=by
 rcases h with⟨rfl,a,c,rfl,_⟩|⟨i,o,f,c,cs,⟨h1,_⟩,_⟩
 .exact⟨a,c,rfl⟩
 .exact⟨_,c,h1⟩
def afk{E:Enc α}{xs:ae α}(h:(aj E v xs).p w){k:Nat}(hk:k<xs.length):
 ∃i o f c x y,v=.slice (some ⟨i,o,f⟩) xs.length c/\xs[k]? =some x/\(eZ i (o+k*E.n) (E.pat x y)).p w/\∀f∈E.fs x y,f.p w:=by
 rcases h with⟨rfl,a,c,rfl,_⟩|⟨i,o,f,c,cs,⟨h1,_⟩,h2,h3⟩
 .simp at hk
 .obtain⟨y,q1,q2⟩:=h3 k xs[k] (bX hk);exact⟨i,o,some f,c,xs[k],y,h1,bX hk,⟨cs,h2,q1⟩,q2⟩
def afl{E:Enc α}{xs:ae α}(hn:Nat.blt d n=true)(hg:cO l g=true)(hx:ev l x=v)(hf:aj E v xs∈F):
 dz (R (λh=>aJ P ds (⟨⟨some d,g,.yj x⟩,[]⟩::rest) (act n l D pm ro) h K) B w0 kl F) (R (λh=>aJ P ds rest (act n ((d,.int .i64 (xs.length:Int))::l) D pm ro) h K) B w0 kl F):=
 ⟨λr w s=>by
  obtain⟨a,c,e⟩:=Ut (s.facts _ hf);exact TZ hn hg (hx.trans e) (r w s)⟩
def Oy{E:Enc α}{xs:ae α}{S:ae Nat}(h:(ap E v xs).p w S):∃a,v=.slice a xs.length xs.length:=by
 rcases h with⟨rfl,rfl,_⟩|⟨b,o,f,cells,h1,_⟩
 .exact⟨none,rfl⟩
 .exact⟨_,h1⟩
def afm{E:Enc α}{xs:ae α}(hn:Nat.blt d n=true)(hg:cO l g=true)(hx:ev l x=v)(hk:aD (ap E v xs) kl kl'):
 dz (R (λh=>aJ P ds (⟨⟨some d,g,.yj x⟩,[]⟩::rest) (act n l D pm ro) h K) B w0 kl F) (R (λh=>aJ P ds rest (act n ((d,.int .i64 (xs.length:Int))::l) D pm ro) h K) B w0 kl F):=
 ⟨λr w s=>by
  obtain⟨S,⟨S1,S2,q,_⟩,_⟩:=(s.iw hk).own;obtain⟨a,e⟩:=Oy q;exact TZ hn hg (hx.trans e) (r w s)⟩
variable{i:ay}{kk:IntKind}{k:Int}
def Oz{E:Enc α}{xs:ae α}(hn:Nat.blt d n=true)(hg:cO l g=true)(hx:ev l x=v)(hi:ev l i=.int kk k)(hf:aj E v xs∈F)
 (hs:E.n=size) (h0:0<=k) (h1:k<xs.length):
 dz (R (λh=>aJ P ds (⟨⟨some d,g,.oq size x i⟩,[]⟩::rest) (act n l D pm ro) h K) B w0 kl F)
  (∀b o z y,xs[k.toNat]? =some z->R (λh=>aJ P ds rest (act n ((d,.pointer (some ⟨b,o,none⟩))::l) D pm ro) h K) B w0 kl (eZ b o (E.pat z y)::(E.fs z y++F))):=by
 refine⟨λr w s=>?_⟩;obtain⟨b,o,f,c,z,y,rfl,h2,h3,h4⟩:=afk (s.facts _ hf) (k:=k.toNat) tr;refine Oh hn hg hx hi h0 h1 (r b _ z y h2 w ?_);rw[<- hs];exact(s.add (F':=eZ b (o+k.toNat*E.n) (E.pat z y)::E.fs z y) (λf hf=>by
  rcases bT.1 hf with rfl|hf
  .exact h3
  .exact h4 f hf))
variable{xs:ae Int}
def Uu(hn:Nat.blt d n=true)(hg:cO l g=true)(hx:ev l x=v)(hi:ev l i=.int kk k)(hf:aj ai v xs∈F)(h0:0<=k)(h1:k<xs.length):
 dz (R (λh=>aJ P ds (⟨⟨some d,g,.oq 1 x i⟩,[]⟩::rest) (act n l D pm ro) h K) B w0 kl F)
  (∀b o z,xs[k.toNat]? =some z->R (λh=>aJ P ds rest (act n ((d,.pointer (some ⟨b,o,none⟩))::l) D pm ro) h K) B w0 kl (eZ b o [.int .i64 z]::F)):=
 ⟨λr=>(Oz hn hg hx hi hf rfl h0 h1).h λb o z y hz=>r b o z hz⟩
def Uv{xs:ae Bool}(hn:Nat.blt d n=true)(hg:cO l g=true)(hx:ev l x=v)(hi:ev l i=.int kk k)(hf:aj Ur v xs∈F)(h0:0<=k)(h1:k<xs.length):
 dz (R (λh=>aJ P ds (⟨⟨some d,g,.oq 1 x i⟩,[]⟩::rest) (act n l D pm ro) h K) B w0 kl F)
  (∀b o z,xs[k.toNat]? =some z->R (λh=>aJ P ds rest (act n ((d,.pointer (some ⟨b,o,none⟩))::l) D pm ro) h K) B w0 kl (eZ b o [.bool z]::F)):=
 ⟨λr=>(Oz hn hg hx hi hf rfl h0 h1).h λb o z y hz=>r b o z hz⟩
def iy(E:Enc α){Q:IH->Prop}(h:R Q B w0 (ap E (.slice none 0 0) []::kl) F):R Q B w0 kl F:=λw s=>by
 obtain⟨S,h1,h2,h3⟩:=s.own;exact h w ⟨s.agree,s.le,s.ig,⟨S,⟨[],S,.inl ⟨rfl,rfl,rfl⟩,h1,rfl⟩,h2,h3⟩,s.facts⟩
def JB(E:Enc α){b:Nat}{Q:IH->Prop}(hk:aD (pt b (.cells [])) kl kl')(h:R Q B w0 (ap E (.slice (some ⟨b,0,some 0⟩) 0 0) []::kl') F):R Q B w0 kl F:=λw s=>
 h w ((s.iw hk).BA (A:=pt b (.cells [])) (A':=ap E (.slice (some ⟨b,0,some 0⟩) 0 0) []) λw S hp=>.inr ⟨b,0,0,[],rfl,.inl rfl,hp.1,hp.2,tt,λk x hk=>by cases hk⟩)
def afn{A:OA}{fs:ae aP}{Q:IH->Prop}(hA:sZ A fs)(hk:aD A kl kl')(h:R Q B w0 kl' (fs++F)):R Q B w0 kl F:=λw s=>by
 obtain⟨w',e,s'⟩:=(s.iw hk).freeze hA;rw[<- e];exact h w' s'
def _root_.Go.Ideal.St.fresh{o:bO}{h':IH}(s:St B w0 kl F w)(ag:Agree w.h h')(at_:At h' w.h.next o)(hn:h'.next=w.h.next+1):∃w':Wd,w'.h=h'/\St B w0 (pt w.h.next o::kl) F w':=by
 have hg:∀i,i<w.h.next->h'.get i=w.h.get i:=ag.get
 let w':Wd:=⟨h',w.z,λi hi=>by rw[hn];exact Mr (w.nP i hi)⟩
 have hle:w.Le w':=⟨by show _<=h'.next;omega,λ_ h=>h,λi hi=>hg i (w.nP i hi)⟩
 obtain⟨S,h1,h2,h3⟩:=s.own;have hnx:w'.h.next=w.h.next+1:=hn
 refine⟨w',rfl,⟨by have:=s.agree.next;omega,λi hi hb=>(hg i (mY hi s.agree.next)).trans (s.agree.get i hi hb),λa b=>?_⟩,s.le.trans hle,s.ig,
  ⟨[w.h.next]++S,⟨[w.h.next],S,⟨rfl,at_.2⟩,fP.loc hle (λi hi=>hg i (h3 i hi).2.1) h1,rfl⟩,?_,?_⟩,λf hf=>f.mono hle (s.facts f hf)⟩
 .have hl:=s.agree.low a b;have:=s.agree.next
  show h'.low=_;rw[ag.low tr,hl]
 .exact r5
 .intro i hi;rcases dY.1 hi with hi|hi
  .rw[bK.1 hi];exact⟨.inl s.agree.next,tr,λhz=>absurd (w.nP _ hz) (Nat.lt_irrefl _)⟩
  .exact⟨(h3 i hi).1,by have:=(h3 i hi).2.1;omega,(h3 i hi).2.2⟩
def afo{E:Enc α}{b':Nat}{s:ay}{xs:ae α}{a:α}{y:E.Y}{k1 k2:ae OA}(hn:Nat.blt d n=true)(hg:cO l g=true)
 (hs:ev l s=v) (hx:ev l x=.slice (some ⟨b',0,some 0⟩) 1 1) (hk:aD (ap E v xs) kl k1) (hc:aD (pt b' (.cells cs)) k1 k2) (hp:cs=E.pat a y) (hF:Sub (E.fs a y) F) (hz:E.n=size)
 (hm:(xs.length+1)*bytes<=1073741824/\(xs.length+1)*size<=1073741824/\xs.length+1<=1073741824):
 dz (R (λh=>aJ P ds (⟨⟨some d,g,.append e size bytes s x⟩,[]⟩::rest) (act n l D pm ro) h K) B w0 kl F)
  (∀v',R (λh=>aJ P ds rest (act n ((d,v')::l) D pm ro) h K) B w0 (ap E v' (xs++[a])::k2) F):=by
 refine⟨λr w st=>?_⟩;subst hp hz;have hlen:=E.len a y;have st2:St B w0 (ap E v xs::pt b' (.cells (E.pat a y))::k2) F w:=st.kV (.cons hk (.cons hc .nil));have hat:At w.h b' (.cells (E.pat a y)):=st2.at_ (.there .here);have nQ:St B w0 (ap E v xs::k2) F w:=(st2.iw (.there .here)).tail;have hfs:∀f∈E.fs a y,f.p w:=λf hf=>st.facts f (hF.mem f hf);have hread:w.h.jh b' 0 (1*E.n)=some (E.pat a y):=by
  exact mA
 have hx1:pM (ev l x)=some (0+1):=by rw[hx];rfl
 have hx2:nJ E.n (0+1) (ev l x) w.h=some (E.pat a y):=AT
 have put:∀(w':Wd) (c:Nat) (f:Nat) (cells:ae ah),cells.length=xs.length*E.n->(∀(k:Nat) z,xs[k]? =some z->∃y,(∀(j:Nat) u,(E.pat z y)[j]? =some u->cells[k*E.n+j]? =some u)/\∀f∈E.fs z y,f.p w')->(∀f∈E.fs a y,f.p w')->
  (f=0\/f=E.n)->∀S,(pt c (.cells (cells++E.pat a y))).p w' S->(ap E (.slice (some ⟨c,0,some f⟩) (xs.length+1) (xs.length+1)) (xs++[a])).p w' S:=by
  intro w' c f cells h1 h2 h3 h4 S hp;refine .inr ⟨c,0,f,_,by rw[ik];rfl,h4,hp.1,hp.2,by rw[ik,ik,h1,hlen,vI,sM,zy,fq],λk z hk=>?_⟩;by_cases hlt:k<xs.length
  .exact de
  .exact cS
 obtain⟨S,⟨S1,S2,q,q2,e1⟩,hnd,hown⟩:=nQ.own;rcases q with⟨rfl,rfl,rfl⟩|⟨b,o,f,cells,rfl,hf,rfl,hb,hcl,hel⟩
 .exact cV
 .exact cw
def afp{z:Int}{k:Nat}{d2:Nat}{g2:ak (Tmp×Bool)}(hn:Nat.blt d n=true)(hg:cO l g=true)(hn2:Nat.blt d2 n=true)(hg2:∀u,cO ((d,u)::l) g2=true)(hx:ev l x=v)(hi:ev l i=.int kk (k:Int))
 (hk:aD (ap ai v xs) kl kl') (hz:xs[k]? =some z):
 dz (R (λh=>aJ P ds (⟨⟨some d,g,.oq 1 x i⟩,[]⟩::⟨⟨some d2,g2,.iE (.tmp d)⟩,[]⟩::rest) (act n l D pm ro) h K) B w0 kl F)
  (∀b o,R (λh=>aJ P ds rest (act n ((d2,.int .i64 z)::(d,.pointer (some ⟨b,o,none⟩))::l) D pm ro) h K) B w0 kl F):=by
 refine⟨λr w s=>?_⟩;have s1:=s.iw hk;obtain⟨S,⟨S1,S2,p,p2,e⟩,h2,h3⟩:=s1.own;have hlt:=(bC.1 hz).1;rcases p with⟨h,_⟩|⟨b,o,f,cells,e1,hf,e2,hb,hcl,hel⟩
 .rw[h]at hz;cases hz
 .subst e1;obtain⟨y,u1,_⟩:=hel k z hz;have hc:cells[o+(k:Int).toNat*1]? =some (.int .i64 z):=by
   have:=u1 0 (.int .i64 z) rfl;simpa[ai]using this
  refine Oh hn hg hx hi tr tr ?_;have hbS:b∈S:=by rw[e,e2];simp
  exact I5 hn2 (hg2 _) (by show lk _ d=_;simp[lk]) ⟨(h3 b hbS).2.1,hb⟩ hc (r _ _ w s)
end
end Go.Ideal
namespace Go.Ideal
variable {P:Program} {ρ:ay->ah}
variable{t:aC}
def tq{d:TypeDesc}(ht:P.underlying t=some d):dZ P (underlying t)=some d:=by
 unfold underlying;rw[iW];show(some P).bind _=_;simp only[Option.bind,ht];rfl
variable{x y:ay}{op:BinOp}
def Dt{a b:ah}(ha:∀c,a≠.agg c)(hn:a≠.nilIface):dZ P (eqGuard op t x y a b)=some ():=by
 cases a with
 |nilIface=>exact absurd rfl hn
 |agg c=>exact absurd rfl (ha c)
 |_=>cases op<;>rfl
def Uw{a b:Bool}(ht:P.underlying t=some .bool):mZ P .eql t x y (.bool a) (.bool b)=some (.bool (a==b))/\mZ P .neq t x y (.bool a) (.bool b)=some (.bool (a !=b)):=by
 have he:dZ P (Op.equal t (.bool a) (.bool b))=some (a==b):=by
  show dZ P (Op.equalIn (9999+1) t (.bool a) (.bool b))=_;unfold Op.equalIn;rw[iW,tq ht];rfl
 have h1:lT P (do eqGuard .eql t x y (.bool a) (.bool b);binOp .eql t (.bool a) (.bool b))=some (.bool (a==b)):=by
  exact fb
 have h2:lT P (do eqGuard .neq t x y (.bool a) (.bool b);binOp .neq t (.bool a) (.bool b))=some (.bool (a !=b)):=by
  exact fb
 exact⟨h1,h2⟩
def JC{a b:Bool}(hx:ρ x=.bool a)(hy:ρ y=.bool b)(ht:P.underlying t=some .bool):Pu P ρ (.bin .eql t x y) (.bool (a==b)):=λh=>by
 simp only[aH.run,hx,hy,(Uw ht).1]
def JD{a b:Bool}(hx:ρ x=.bool a)(hy:ρ y=.bool b)(ht:P.underlying t=some .bool):Pu P ρ (.bin .neq t x y) (.bool (a !=b)):=λh=>by
 simp only[aH.run,hx,hy,(Uw ht).2]
variable{v:ah}
def Ux{a b:ByteArray}(hv:dZ P (Op.stringOp op a b)=some v)(hf:cz v=true):mZ P op t x y (.string a) (.string b)=some v:=by
 have h1:lT P (do eqGuard op t x y (.string a) (.string b);binOp op t (.string a) (.string b))=some v:=by
  unfold lT;rw[iW,Dt AW xj];have hb:binOp op t (.string a) (.string b)=Op.stringOp op a b:=by cases op<;>rfl
  simp only[jB,hb,hv,hf,cond]
 exact h1
def JE{a b:ByteArray}(hx:ρ x=.string a)(hy:ρ y=.string b):Pu P ρ (.bin .eql t x y) (.bool (a.toList==b.toList)):=λh=>by
 simp only[aH.run,hx,hy,Ux (op:=.eql) (v:=.bool (a.toList==b.toList)) rfl rfl]
def JF{a b:ByteArray}(hx:ρ x=.string a)(hy:ρ y=.string b):Pu P ρ (.bin .neq t x y) (.bool (!(a.toList==b.toList))):=λh=>by
 simp only[aH.run,hx,hy,Ux (op:=.neq) (v:=.bool (!(a.toList==b.toList))) rfl rfl]
variable{a b:Int}
def BC(hq:qp op .i64 a b=none)(hv:dZ P (binOp op t (.int .i64 a) (.int .i64 b))=some v)(hf:cz v=true):mZ P op t x y (.int .i64 a) (.int .i64 b)=some v:=by
 have h1:lT P (do eqGuard op t x y (.int .i64 a) (.int .i64 b);binOp op t (.int .i64 a) (.int .i64 b))=some v:=by
  unfold lT;rw[iW,Dt AW xj];simp only[jB,hv,hf,cond]
 unfold mZ;simp only[vN,cond,hq,cz,Mq];exact h1
def wrap64{m:Int}(h1: -9223372036854775808<=m)(h2:m<9223372036854775808):IntKind.i64.wrap m=m:=IntWalk.i64_in m ⟨h1,tr⟩
def JG(hx:ρ x=.int .i64 a)(hy:ρ y=.int .i64 b)(h1: -9223372036854775808<=a*b)(h2:a*b<9223372036854775808):Pu P ρ (.bin .mul t x y) (.int .i64 (a*b)):=λh=>by
 simp only[aH.run,hx,hy];rw[BC (op:=.mul) (v:=.int .i64 (a*b)) rfl (by
  show dZ P (Op.intArith .mul .i64 a b)=_;show some (Value.int .i64 (IntKind.i64.wrap (a*b)))=_;rw[wrap64 h1 h2]) rfl]
def JH(hx:ρ x=.int .i64 a)(hy:ρ y=.int .i64 b)(hb:b≠0)(h1: -9223372036854775808<=a.tdiv b)(h2:a.tdiv b<9223372036854775808):Pu P ρ (.bin .quo t x y) (.int .i64 (a.tdiv b)):=λh=>by
 simp only[aH.run,hx,hy];rw[BC (op:=.quo) (v:=.int .i64 (a.tdiv b)) rfl (by
  show dZ P (Op.intDiv .quo .i64 a b)=_;unfold Op.intDiv;rw[if_neg hb];show some (Value.int .i64 (IntKind.i64.wrap (a.tdiv b)))=_;rw[wrap64 h1 h2]) rfl]
def OB(hx:ρ x=.int .i64 a)(hy:ρ y=.int .i64 b)(hb:b≠0):Pu P ρ (.bin .rem t x y) (.int .i64 (a.tmod b)):=λh=>by
 simp only[aH.run,hx,hy];rw[BC (op:=.rem) (v:=.int .i64 (a.tmod b)) rfl (by
  show dZ P (Op.intDiv .rem .i64 a b)=_;unfold Op.intDiv;rw[if_neg hb];rfl) rfl]
def JI{i:ay}{size b o m c k:Nat}{f:ak Nat}{kk:IntKind}(hx:ρ x=.slice (some ⟨b,o,f⟩) m c)(hi:ρ i=.int kk (k:Int))(h1:k<m):
 Pu P ρ (.oq size x i) (.pointer (some ⟨b,o+k*size,none⟩)):=FM (k:=(k:Int)) hx hi tr tr
end Go.Ideal
namespace Go.Ideal
variable {P:Program}
def Left{Y:Type}(B:ae Nat)(w0:Wd)(val:Y->ah)(kl':Y->ae OA)(fs:Y->ae aP)(pr:Y->Prop):KR:=λr pm h'=>
 pm=none/\∃(w':Wd) (y:Y),w'.h=h'/\St B w0 (kl' y) (fs y) w'/\r=.ok (val y)/\pr y
def cK{Y:Type}(P:Program)(fn:Fn)(args cap:ae ah)(kl:ae OA)(F:ae aP)(val:Y->ah)(kl':Y->ae OA)(fs:Y->ae aP)(pr:Y->Prop):Prop:=
 ∀(B:ae Nat) (w:Wd),St B w kl F w->CALL P ⟨fn,args,cap,none⟩ w.h (Left B w val kl' fs pr)
def rQ:Nat->ae ah->qr->qr
 |_,[],l=>l
 |i,v::vs,l=>rQ (i+1) vs ((i,v)::l)
def Uy:∀(args:ae ah) (i:Nat) (l:qr),yo args i (jy l)=jy (rQ i args l)
 |[],i,l=>rfl
 |v::vs,i,l=>by
  show yo vs (i+1) (jy ((i,v)::l))=_;rw[Uy vs];rfl
def OC(n:Nat)(args:ae ah)(pm:ak FrameMode):Be n args pm=act (rE n (je args)) (rQ 0 args []) [] pm none:=by
 show bi.mk _ (yo args 0 (jy [])) _ _ _=_;rw[Uy];rfl
def afq{Y:Type}{f:iI}{args cap:ae ah}{kl:ae OA}{F:ae aP}{val:Y->ah}{kl':Y->ae OA}{fs:Y->ae aP}{pr:Y->Prop}(cf:iF)(hF:(mg P rG rH).F f=some cf)
 (hb:∀B w0,R (λh=>EV P cf.body (act (rE cf.ntmps (je (args++cap))) (rQ 0 (args++cap) []) [] none none) h (xA cf (Left B w0 val kl' fs pr))) B w0 kl F):cK P (.func f) args cap kl F val kl' fs pr:=by
 intro B w s;obtain⟨fn,h1,h2⟩:=(rP P rG rH (λf q h v h' hm=>by cases hm)).fn f cf hF;refine ael fn h1 cf h2 ?_;rw[OC];exact hb B w w s
section
variable {B:ae Nat} {w0:Wd} {kl kl' bD:ae OA} {F:ae aP} {K:KO} {ds:ae Tmp} {rest:ae bY} {n:Nat} {l:qr} {D:ae Deferred} {pm:ak FrameMode} {ro:ak Nat} {d:Nat} {g:ak (Tmp×Bool)}
def St.call{w w':Wd}{k1 k1' bD:ae OA}{F1 F':ae aP}{S1 S2:ae Nat}(s:St B w0 kl F w)(hp:∃S:ae Nat,S.Perm (S1++S2)/\S.Nodup/\∀i∈S,(w0.h.next<=i\/i∈B)/\i<w.h.next/\¬w.z i)
 (h2:fP w bD S2) (c:St S1 w k1' F' w'):St B w0 (k1'++bD) (F'++F) w':=by
 obtain⟨S,hperm,afr,hall⟩:=hp;have hnd:=hperm.nodup afr;have hall:∀i∈S1++S2,(w0.h.next<=i\/i∈B)/\i<w.h.next/\¬w.z i:=λi hi=>hall i (hperm.mem_iff.2 hi)
 have hd:=iT.1 hnd;obtain⟨S',c1,c2,c3⟩:=c.own;have hsame:∀i∈S2,w'.h.get i=w.h.get i:=λi hi=>c.agree.get i (hall i (pI _ hi)).2.1 (λhm=>hd.2.2 i hm i hi rfl);refine⟨⟨ql s.agree.next c.agree.next,λi hi hB=>?_,λa b=>?_⟩,s.le.trans c.le,λi hi hz=>?_,⟨S'++S2,c1.app (fP.loc c.le hsame h2),?_,?_⟩,λf hf=>?_⟩
 .rw[<- s.agree.get i hi hB];refine c.agree.get i (mY hi s.agree.next) (λhm=>?_);rcases(hall i (lq _ hm)).1 with q|q
  .omega
  .exact hB q
 .have hl:=s.agree.low a b;rw[c.agree.low (by rw[hl];exact ql a s.agree.next) (λi hi=>?_),hl];rw[hl];rcases(hall i (lq _ hi)).1 with q|q
  .omega
  .exact b i q
 .rcases c.ig i (mY hi s.agree.next) hz with q|q
  .exact s.ig i hi q
  .rcases(hall i (lq _ q)).1 with u|u
   .omega
   .exact .inr u
 .refine iT.2 ⟨c2,hd.2.1,λa ha b hb e=>?_⟩;subst e;rcases(c3 a ha).1 with q|q
  .have:=(hall a (pI _ hb)).2.1;omega
  .exact hd.2.2 a q a hb rfl
 .intro i hi;rcases dY.1 hi with hi|hi
  .refine⟨?_,(c3 i hi).2⟩;rcases(c3 i hi).1 with q|q
   .exact .inl (ql s.agree.next q)
   .exact(hall i (lq _ q)).1
  .have q:=hall i (pI _ hi);refine⟨q.1,mY q.2.1 c.agree.next,λhz=>?_⟩;rcases c.ig i q.2.1 hz with u|u
   .exact q.2.2 u
   .exact hd.2.2 i u i hi rfl
 .rcases dY.1 hf with hf|hf
  .exact c.facts f hf
  .exact f.mono c.le (s.facts f hf)
def Same(P:Program)(re:ae iU)(ρ:ay->ah)(l:qr)(B:ae Nat)(w0:Wd)(kl:ae OA)(F:ae aP):Prop:=
 ∀w,St B w0 kl F w->∀r∈re,∃u h2,r.op.run P ρ w.h=some (u,h2)/\∀d',r.dst=some d'->lk l d'=u
def Du{ρ:ay->ah}:Same P [] ρ l B w0 kl F:=λw s r hr=>by cases hr
variable{re:ae iU}{x:ay}{b o:Nat}{cs:ae ah}{v:ah}
def Dv(hx:ev l x=.pointer (some ⟨b,o,none⟩))(hk:aD (pt b (.cells cs)) kl kl')(hv:kE cs o=some v)(hd:lk l d=v)
 (t:Same P re (ev l) l B w0 kl F):Same P (⟨some d,g,.iE x⟩::re) (ev l) l B w0 kl F:=λw s r hr=>by
 rcases bT.1 hr with rfl|hr
 .have hc:w.h.pK b o=some v:=by rw[(s.at_ hk).c.pK,<- rJ];exact hv
  exact⟨v,w.h,by simp only[aH.run,hx,hc],λd' e=>by cases e;exact hd⟩
 .exact t w s r hr
def FO(hx:ev l x=.pointer (some ⟨b,o,none⟩))(hk:eZ b o cs∈F)(hv:kE cs 0=some v)(hd:lk l d=v)
 (t:Same P re (ev l) l B w0 kl F):Same P (⟨some d,g,.iE x⟩::re) (ev l) l B w0 kl F:=λw s r hr=>by
 rcases bT.1 hr with rfl|hr
 .exact⟨v,w.h,by simp only[aH.run,hx,show w.h.pK b o=some v from Jy (j:=0) (s.facts _ hk) hv],λd' e=>by cases e;exact hd⟩
 .exact t w s r hr
variable{j:Nat}
def FP(hx:ev l x=.pointer (some ⟨b,o+j,none⟩))(hk:eZ b o cs∈F)(hv:kE cs j=some v)(hd:lk l d=v)
 (t:Same P re (ev l) l B w0 kl F):Same P (⟨some d,g,.iE x⟩::re) (ev l) l B w0 kl F:=λw s r hr=>by
 rcases bT.1 hr with rfl|hr
 .exact⟨v,w.h,by simp only[aH.run,hx,Jy (s.facts _ hk) hv],λd' e=>by cases e;exact hd⟩
 .exact t w s r hr
variable{m:Nat}{c:ae ah}
def FQ(hx:ev l x=.pointer (some ⟨b,o,none⟩))(hk:aD (pt b (.cells cs)) kl kl')(hv:jN (kF cs o) m=some c)(hd:lk l d=.agg ⟨c⟩)
 (t:Same P re (ev l) l B w0 kl F):Same P (⟨some d,g,.rz m x⟩::re) (ev l) l B w0 kl F:=λw s r hr=>by
 rcases bT.1 hr with rfl|hr
 .have hc:w.h.jh b o m=some c:=by rw[(s.at_ hk).c.jh];exact hv
  exact⟨.agg ⟨c⟩,w.h,by simp only[aH.run,hx,hc],λd' e=>by cases e;exact hd⟩
 .exact t w s r hr
def FT(hx:ev l x=.pointer (some ⟨b,o,none⟩))(hk:eZ b o cs∈F)(hv:jN cs m=some c)(hd:lk l d=.agg ⟨c⟩)
 (t:Same P re (ev l) l B w0 kl F):Same P (⟨some d,g,.rz m x⟩::re) (ev l) l B w0 kl F:=λw s r hr=>by
 rcases bT.1 hr with rfl|hr
 .exact⟨.agg ⟨c⟩,w.h,by simp only[aH.run,hx,show w.h.jh b o m=some c from Jz (j:=0) (s.facts _ hk) (by rw[qw];exact hv)],λd' e=>by cases e;exact hd⟩
 .exact t w s r hr
def FU(hx:ev l x=.pointer (some ⟨b,o+j,none⟩))(hk:eZ b o cs∈F)(hv:jN (kF cs j) m=some c)(hd:lk l d=.agg ⟨c⟩)
 (t:Same P re (ev l) l B w0 kl F):Same P (⟨some d,g,.rz m x⟩::re) (ev l) l B w0 kl F:=λw s r hr=>by
 rcases bT.1 hr with rfl|hr
 .exact⟨.agg ⟨c⟩,w.h,by simp only[aH.run,hx,Jz (s.facts _ hk) hv],λd' e=>by cases e;exact hd⟩
 .exact t w s r hr
variable{op:aH}
def Uz(hp:Pu P (ev l) op v)(hd:lk l d=v)(t:Same P re (ev l) l B w0 kl F):Same P (⟨some d,g,op⟩::re) (ev l) l B w0 kl F:=λw s r hr=>by
 rcases bT.1 hr with rfl|hr
 .exact⟨v,w.h,hp w.h,λd' e=>by cases e;exact hd⟩
 .exact t w s r hr
variable{vs:ae ah}
def afs{y:ay}(hg:cO l g=true)(hx:ev l x=.pointer (some ⟨b,o,none⟩))(hw:ev l y=v)(hy:cellsOf v=some vs)(hm:Nat.beq (je vs) m=true)
 (hk:aD (pt b (.cells cs)) kl kl') (hv:kG cs o vs=some c) (hs:Same P re (ev l) l B w0 (pt b (.cells c)::kl') F):
 dz (R (λh=>aJ P ds (⟨⟨none,g,.store m x y⟩,re⟩::rest) (act n l D pm ro) h K) B w0 kl F) (R (λh=>aJ P ds rest (act n l D pm ro) h K) B w0 (pt b (.cells c)::kl') F):=
 ⟨λr w s=>by
  subst hw;have s':=(s.iw hk).write (o':=.cells c);refine .mo (xC hg) dR (w.h.set b (.cells c)) (by rw[oz];simp only[aH.run,hx,hy,hm];simp only[IH.storeAt,(s.at_ hk).2,hv];rfl) (λq hq _=>?_) (r _ s');obtain⟨u,h2,e1,e2⟩:=hs _ s' q hq;exact⟨u,h2,by show q.op.run P (act n l D pm ro).eval _=_;rw[oz];exact e1,λd' hd=>by rw[<- e2 d' hd];exact wy _ _⟩⟩
def aft(hn:Nat.blt d n=true)(hg:cO l g=true)(hp:Pu P (ev l) op v)(hs:Same P re (ev ((d,v)::l)) ((d,v)::l) B w0 kl F):
 dz (R (λh=>aJ P ds (⟨⟨some d,g,op⟩,re⟩::rest) (act n l D pm ro) h K) B w0 kl F) (R (λh=>aJ P ds rest (act n ((d,v)::l) D pm ro) h K) B w0 kl F):=
 ⟨λr w s=>by
  refine .mo (xC hg) v w.h (by rw[oz];exact hp w.h) (λq hq _=>?_) (by rw[qH hn];exact r w s);obtain⟨u,h2,e1,e2⟩:=hs w s q hq;exact gk⟩
variable{Y:Type}
def afu{f:ay}{xs:ae ay}{fn:Fn}{first captured as:ae ah}{k1:ae OA}{F1:ae aP}{val:Y->ah}{k1':Y->ae OA}{fs:Y->ae aP}{pr:Y->Prop}
 (hc:cK P fn as captured k1 F1 val k1' fs pr) (hn:Nat.blt d n=true) (hg:cO l g=true) (hf:ev l f=.func fn ⟨first⟩ ⟨captured⟩) (hx:EvL (ev l) xs vs) (ha:first++vs=as)
 (hk:aO k1 kl bD) (hF:Sub F1 F)
 (hs:∀y,pr y->Same P re (ev ((d,val y)::l)) ((d,val y)::l) B w0 (k1' y++bD) (fs y++F))
 (next:∀y,pr y->R (λh=>aJ P ds rest (act n ((d,val y)::l) D pm ro) h K) B w0 (k1' y++bD) (fs y++F)):
 R (λh=>aJ P ds (⟨⟨some d,g,.call f xs⟩,re⟩::rest) (act n l D pm ro) h K) B w0 kl F:=by
 intro w s;obtain⟨S,h1,h2,h3⟩:=s.own;obtain⟨S1,S2,q1,q2,hp⟩:=h1.kV hk;have hsub:∀i∈S1,i∈S:=λi hi=>hp.mem_iff.2 (lq _ hi);have s1:St S1 w k1 F1 w:=⟨⟨bQ _,λ_ _ _=>rfl,λ_ _=>rfl⟩,Wd.Le.refl w,λi _ hz=>.inl hz,⟨S1,q1,(iT.1 (hp.nodup h2)).1,λi hi=>⟨.inr hi,(h3 i (hsub i hi)).2⟩⟩,λf hf=>s.facts f (hF.mem f hf)⟩
 have hcall:=hc S1 w s1;subst ha;rw[<- hx.map]at hcall;have back:∀(w':Wd) (y:Y),St S1 w (k1' y) (fs y) w'->St B w0 (k1' y++bD) (fs y++F) w':=λw' y c=>s.call (k1:=k1) (F1:=F1) ⟨S,hp,h2,h3⟩ q2 c;refine s_call hn hg fn hf _ hcall ?_ ?_ ?_ ?_
 .rintro v h' ⟨_,w',y,rfl,c,hv,hpr⟩;injection hv with hv;subst hv;exact hs y hpr w' (back w' y c)
 .rintro v h' ⟨_,w',y,rfl,c,hv,hpr⟩;injection hv with hv;subst hv;exact next y hpr w' (back w' y c)
 .rintro ch h' ⟨_,w',y,rfl,c,hv,hpr⟩;cases hv
 .rintro r p h' ⟨e,_⟩;exact e
inductive RS(l:List (Nat×Value))(kl:List OA):List rC->List Value->Prop
 |nil:RS l kl [] []
 |tmp {t:Tmp} {rs:List rC} {v:Value} {vs:List Value} (h:lk l t=v) (r:RS l kl rs vs):RS l kl (.tmp t::rs) (v::vs)
 |cell1 {t:Tmp} {rs:List rC} {v:Value} {vs cs:List Value} {b o:Nat} {kl':List OA} (h:lk l t=.pointer (some ⟨b,o,none⟩)) (hk:aD (pt b (.cells cs)) kl kl') (hv:kE cs o=some v) (r:RS l kl rs vs):RS l kl (.cell1 t::rs) (v::vs)
 |rD {n:Nat} {t:Tmp} {rs:List rC} {vs cs c:List Value} {b o:Nat} {kl':List OA} (h:lk l t=.pointer (some ⟨b,o,none⟩)) (hk:aD (pt b (.cells cs)) kl kl') (hv:jN (kF cs o) n=some c) (r:RS l kl rs vs):
   RS l kl (.rD n t::rs) (.agg ⟨c⟩::vs)
def RS.all{w:Wd}(s:St B w0 kl F w):∀{rs:ae rC} {vs:ae ah},RS l kl rs vs->yu (jy l) w.h rs=some vs
 |_,_,.nil=>rfl
 |_,_,.tmp (t:=t) (rs:=rs) (v:=v) (vs:=vs) h r=>by
  have ih:=RS.all s r;show(match uD (jy l) w.h (.tmp t),yu (jy l) w.h rs with|some v,some vs=>some (v::vs)|_,_=>none)=_;rw[ih];simp only[uD,wy,h]
 |_,_,.cell1 (t:=t) (rs:=rs) (v:=v) (vs:=vs) h hk hv r=>by
  have ih:=RS.all s r;show(match uD (jy l) w.h (.cell1 t),yu (jy l) w.h rs with|some v,some vs=>some (v::vs)|_,_=>none)=_;rw[ih];simp only[uD,wy,h,(s.at_ hk).2,hv]
 |_,_,.rD (n:=n) (t:=t) (rs:=rs) (vs:=vs) (c:=c) h hk hv r=>by
  have ih:=RS.all s r;show(match uD (jy l) w.h (.rD n t),yu (jy l) w.h rs with|some v,some vs=>some (v::vs)|_,_=>none)=_;rw[ih];simp only[uD,wy,h,IH.oO,(s.at_ hk).2,hv]
def rR(vs:ae ah):ah:=
 match vs with
 |[v]=>v
 |vs=>.tuple ⟨vs⟩
def UA{o:Out}{cf:iF}{val:Y->ah}{k1:Y->ae OA}{fs:Y->ae aP}{pr:Y->Prop}(y:Y)(hr:RS l kl cf.results vs)(hv:rR vs=val y)(hp:pr y)(hk:aO (k1 y) kl bD)(hF:Sub (fs y) F)
 (ho:o=.normal\/o=.ret):R (λh=>xA cf (Left B w0 val k1 fs pr) o (act n l [] none ro) h) B w0 kl F:=by
 intro w s;have h1:rF cf.results (jy l) w.h=some (val y):=by
  unfold rF;rw[hr.all s];rw[<- hv];exact pb
 have h2:Left B w0 val k1 fs pr (.ok (val y)) none w.h:=⟨rfl,w,y,rfl,((s.kV hk).drop).sub hF,rfl,hp⟩
 rcases ho with rfl|rfl
 .exact⟨val y,h1,rfl,h2⟩
 .exact⟨val y,h1,rfl,h2⟩
inductive oC{α:Type}(F0:List α):List α->Prop
 |here:oC F0 F0
 |cons {a:α} {F:List α} (h:oC F0 F):oC F0 (a::F)
 |app {G F:List α} (h:oC F0 F):oC F0 (G++F)
def oC.mem{α:Type}{F0:ae α}:∀{F:ae α},oC F0 F->∀f∈F0,f∈F
 |_,.here,f,hf=>hf
 |_,.cons h,f,hf=>fO _ (h.mem f hf)
 |_,.app h,f,hf=>pI _ (h.mem f hf)
inductive uN:List (Nat×Value)->List (Nat×Value)->List (Nat×Value)->Prop
 |nil {ks:List (Nat×Value)}:uN [] ks []
 |drop {k:Nat} {v:Value} {l ks r:List (Nat×Value)} (h:(ks.any λp=>Nat.beq p.1 k)=true) (t:uN l ks r):uN ((k,v)::l) ks r
 |keep {k:Nat} {v:Value} {l ks r:List (Nat×Value)} (h:(ks.any λp=>Nat.beq p.1 k)=false) (t:uN l ((k,v)::ks) r):uN ((k,v)::l) ks ((k,v)::r)
def LI{X:Type}(n:Nat)(D:ae Deferred)(pm:ak FrameMode)(ro:ak Nat)(B:ae Nat)(w0:Wd)(m:X->Nat)(L:X->qr)(KL:X->ae OA)(FF:X->ae aP)(inv:X->Prop)
 (l0:qr) (bD:ae OA) (F0:ae aP):Nat->bi->IH->Prop:=λr a h=>
 ∃(x:X) (w:Wd),r=m x/\a=act n (L x++l0) D pm ro/\w.h=h/\St B w0 (KL x++bD) (FF x++F0) w/\inv x
variable{X:Type}
def afv{c:dA}(m:X->Nat)(L:X->qr)(KL:X->ae OA)(FF:X->ae aP)(inv:X->Prop)(x0:X)(hi:inv x0)(l0:qr)(hl:sub (L x0++l0) l)(hk:aO (KL x0) kl bD)(hF:Sub (FF x0) F)
 (body:∀x,inv x->R (λh=>EV P c (act n (L x++l0) D pm ro) h (wz (LI n D pm ro B w0 m L KL FF inv l0 bD F) (m x) K)) B w0 (KL x++bD) (FF x++F)):
 R (λh=>EV P (.loop c) (act n l D pm ro) h K) B w0 kl F:=by
 intro w s;refine TT (N8 hl) ?_;refine aek (LI n D pm ro B w0 m L KL FF inv l0 bD F) ?_ (m x0) _ _ ⟨x0,w,rfl,rfl,rfl,(s.kV hk).add (λf hf=>s.facts f (hF.mem f hf)),hi⟩;rintro r a h ⟨x,w',rfl,rfl,rfl,s',hx⟩;exact body x hx w' s'
def afw{m:X->Nat}{L:X->qr}{KL:X->ae OA}{FF:X->ae aP}{inv:X->Prop}{l0:qr}{eH:ae OA}{F0:ae aP}{m0:Nat}(x:X)(hm:m x<m0)(hi:inv x)(hl:sub (L x++l0) l)
 (hk:aO (KL x++bD) kl eH) (hF:Sub (FF x) F) (BD:oC F0 F):R (λh=>wz (LI n D pm ro B w0 m L KL FF inv l0 bD F0) m0 K .normal (act n l D pm ro) h) B w0 kl F:=by
 intro w s;refine aes (m x) hm hl ⟨x,w,rfl,rfl,rfl,?_,hi⟩;have s':=(s.kV hk).drop;exact⟨s'.agree,s'.le,s'.ig,s'.own,λf hf=>(dY.1 hf).elim (λhf=>s.facts f (hF.mem f hf)) (λhf=>s.facts f (BD.mem f hf))⟩
end

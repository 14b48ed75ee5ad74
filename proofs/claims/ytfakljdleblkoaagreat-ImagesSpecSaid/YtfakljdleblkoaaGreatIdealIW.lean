/-
  Part IdealIW.
-/
import Derived.Test.YtfakljdleblkoaaGreatIdealHW
import Derived.OpenShut
set_option linter.all false
namespace Go.Ideal
open Go.ChangeShapes Go.WideShapes Go.ChangeAt Go.RowKit
def cuts{α:Type}:List Nat->List α->List (List α)
 |[],_=>[]
 |s::ss,l=>l.take s::cuts ss (l.drop s)
def sums:Nat->List Nat->List Nat
 |_,[]=>[]
 |o,s::ss=>o::sums (o+s) ss
theorem yA{α:Type}:∀(ss:List Nat) (l:List α) (o0 j:Nat) (o s:Nat),(sums o0 ss)[j]? =some o->ss[j]? =some s->(cuts ss l)[j]? =some ((l.drop (o - o0)).take s)/\o0<=o
 |[],l,o0,j,o,s,h,_=>by simp[sums]at h
 |s0::ss,l,o0,0,o,s,h,hs=>by
  simp[sums]at h hs;subst h hs;simp[cuts]
 |s0::ss,l,o0,j+1,o,s,h,hs=>by
  simp only[sums,qI]at h hs;obtain⟨h1,h2⟩:=yA ss (l.drop s0) (o0+s0) j o s h hs;refine⟨?_,vj⟩;simp only[cuts,qI];rw[h1,List.drop_drop];congr 3;omega
theorem Q0{α:Type}:∀(ss:List Nat) (l:List α),l.length=ss.sum->(cuts ss l).flatten=l
 |[],l,h=>by
  have:l=[]:=jw.1 wq;subst this;rfl
 |s::ss,l,h=>by
  simp only[List.sum_cons]at h;simp only[cuts,OP];rw[Q0 ss (l.drop s) xp,uU]
theorem LJ{α:Type}:∀(ss:List Nat) (ps:List (List α)),ps.map List.length=ss->cuts ss ps.flatten=ps
 |[],[],_=>rfl
 |[],_::_,h=>by cases h
 |s::ss,[],h=>by cases h
 |s::ss,p::ps,h=>by
  simp only[ic,AZ]at h;obtain⟨h1,h2⟩:=h;simp only[cuts,OP];rw[List.take_left' h1,List.drop_left' h1,LJ ss ps h2]
theorem aZ.flatten{β:aC}:∀{ps qs:List (List Value)},ps.length=qs.length->(∀(j:Nat) p q,ps[j]? =some p->qs[j]? =some q->aZ β p q)->aZ β ps.flatten qs.flatten
 |[],[],_,_=>.nil
 |[],_::_,h,_=>by cases h
 |_::_,[],h,_=>by cases h
 |p::ps,q::qs,h,hv=>by
  simp only[OP];exact(hv 0 p q rfl rfl).append (aZ.flatten wq λj a b ha hb=>hv (j+1) a b ha hb)
inductive iq(P:Program)(h:IH){H:Type}:TypeId->List Value->DataW H->Prop
 |bool {t:TypeId} {b:Bool} (ht:P.underlying t=some .bool):iq P h t [.bool b] (.lit (.bool b))
 |int {t:TypeId} {k:IntKind} {n:Int} (ht:P.underlying t=some (.int k)) (hw:(Lit.int k n).wf=true):iq P h t [.int k n] (.lit (.int k n))
 |string {t:TypeId} {s:ByteArray} (ht:P.underlying t=some .string) (hs:s.size<=maxLen):iq P h t [.string s] (.lit (.string s.data.toList))
 |nil {t e:TypeId} (ht:P.underlying t=some (.slice e)):iq P h t [.slice none 0 0] .nil
 |slice {t e:TypeId} {i n c:Nat} {cells:List Value} {els rest:List (DataW H)} (ht:P.underlying t=some (.slice e)) (hn:n<=c/\c<=maxLen) (hl:els.length=n) (hc:n=0\/Cells h i cells)
   (hel:∀(k:Nat) d,els[k]? =some d->iq P h e ((cells.drop (k*P.cellsOf e)).take (P.cellsOf e)) d):iq P h t [.slice (some ⟨i,0,some 0⟩) n c] (.slice els rest)
 |struct {t:TypeId} {fs:Array Field} {cs:List Value} {ds:List (DataW H)} (ht:P.underlying t=some (.struct fs)) (hl:cs.length=P.cellsOf t) (hd:ds.length=fs.size)
   (hf:∀(j:Nat) f d,fs[j]? =some f->ds[j]? =some d->iq P h f.type ((cs.drop f.offset).take (P.cellsOf f.type)) d):iq P h t cs (.agg ds)
 |array {t e:TypeId} {n:Nat} {cs:List Value} {ds:List (DataW H)} (ht:P.underlying t=some (.array n e)) (hl:cs.length=P.cellsOf t) (hd:ds.length=n)
   (hf:∀(j:Nat) d,ds[j]? =some d->iq P h e ((cs.drop (j*P.cellsOf e)).take (P.cellsOf e)) d):iq P h t cs (.agg ds)
theorem iq.mono{P:Program}{h h':IH}{H:Type}(hh:∀i cs,Cells h i cs->Cells h' i cs){t:TypeId}{cs:List Value}{d:DataW H}(r:iq P h t cs d):iq P h' t cs d:=by
 induction r with
 |bool ht=>exact .bool ht
 |int ht hw=>exact .int ht hw
 |string ht hs=>exact .string ht hs
 |nil ht=>exact .nil ht
 |slice ht hn hl hc _ ih=>exact .slice ht hn hl (hc.imp id (hh _ _)) ih
 |struct ht hl hd _ ih=>exact .struct ht hl hd ih
 |array ht hl hd _ ih=>exact .array ht hl hd ih
end Go.Ideal
namespace Go.Ideal
open Go.ChangeShapes Go.WideShapes Go.ChangeAt Go.RowKit
inductive PlainT(P:Program)(K:TypeId->Prop)(t:TypeId):Prop
 |bool (ht:P.underlying t=some .bool)
 |int (k:IntKind) (ht:P.underlying t=some (.int k))
 |string (ht:P.underlying t=some .string)
 |slice (e:TypeId) (ht:P.underlying t=some (.slice e)) (he:K e) (hs:0<P.cellsOf e)
 |struct (fs:Array Field) (ht:P.underlying t=some (.struct fs)) (hf:∀f∈fs.toList,K f.type) (ho:fs.toList.map (·.offset)=sums 0 (fs.toList.map λf=>P.cellsOf f.type))
   (hs:P.cellsOf t=(fs.toList.map λf=>P.cellsOf f.type).sum)
 |array (n:Nat) (e:TypeId) (ht:P.underlying t=some (.array n e)) (he:K e) (hs:P.cellsOf t=n*P.cellsOf e)
theorem Gx(L M:Lay):(jO L).le (jO (L++M)):=λi g h=>by
 unfold jO at h⊢;cases e:L[i]? with
 |none=>rw[e]at h;cases h
 |some p=>rw[qL (bC.1 e).1,e];rw[e]at h;exact h
variable{M L:Lay}{cs:List Value}
theorem LK{i:Nat}(h:Cells (jZ L) i cs):Cells (jZ (L++M)) i cs:=by
 obtain⟨h1,h2⟩:=h;have h1:i<L.length:=h1;refine⟨by show i<(L++M).length;rw[iE];omega,?_⟩;rw[LH]at h2⊢;rw[qL h1];exact h2
theorem BH.app{w:World}{g:iD}(k:BH L w g cs):BH (L++M) w g cs:=
 ⟨k.block,k.sz,k.all,λj v hj=>let⟨v',a,b⟩:=k.cell j v hj;⟨v',a,b.mono (Gx _ _)⟩⟩
def nZ(W:World)(L0 M:Lay):Prop:=∀(i:Nat) g cs,L0.length<=i->(L0++M)[i]? =some (some g,some cs)->BH (L0++M) W g cs
variable{L0:Lay}{W:World}
theorem nZ.nil:nZ W L0 []:=λi g cs hi h=>by
 rw[iI,gJ hi]at h;cases h
theorem nZ.app{N:Lay}(h1:nZ W L0 M)(h2:nZ W (L0++M) N):nZ W L0 (M++N):=λi g cs hi h=>by
 rw[<- fU]at h⊢;by_cases hm:(L0++M).length<=i
 ·exact h2 i g cs hm h
 ·rw[qL vj]at h;exact(h1 i g cs hi h).app
section
variable {H:Type} {enc:TypeId×Value->H} {P:Program} {W:World} {K:TypeId->Prop}
def sN(P:Program)(W:World)(L0 M:Lay)(t:TypeId)(cs cs':List Value)(d:DataW H):Prop:=
 aZ (jO (L0++M)) cs' cs/\cs'.all cellV=true/\iq P (jZ (L0++M)) t cs' d
variable{cs:List Value}{L0 M:Lay}
theorem sN.app{N:Lay}{t:TypeId}{cs':List Value}{d:DataW H}(k:sN P W L0 M t cs cs' d):sN P W L0 (M++N) t cs cs' d:=by
 obtain⟨h1,h2,h3⟩:=k;unfold sN;rw[<- fU];exact⟨h1.mono (Gx _ _),h2,h3.mono λi cs hc=>LK hc⟩
theorem LM{n:Nat}(ih:∀t cs x,K t->DataW.trod enc P W 0 (λ_=>true) true n t cs=some x->∀L0:Lay,∃M cs',sN P W L0 M t cs cs' x.1/\nZ W L0 M):
 ∀(ps:List (TypeId×List Value×(DataW H×List MemPlace))),(∀p∈ps,K p.1/\DataW.trod enc P W 0 (λ_=>true) true n p.1 p.2.1=some p.2.2)->∀L0:Lay,
  ∃(M:Lay) (css:List (List Value)),css.length=ps.length/\(∀(j:Nat) p cs',ps[j]? =some p->css[j]? =some cs'->sN P W L0 M p.1 p.2.1 cs' p.2.2.1)/\nZ W L0 M
 |[],_,L0=>⟨[],[],rfl,(λj p cs' h=>by cases h),.nil⟩
 |p::ps,hp,L0=>by
  obtain⟨h1,h2⟩:=hp p (cZ ..);obtain⟨M1,cs1,k1,k2⟩:=ih _ _ _ h1 h2 L0;obtain⟨M2,css,q1,q2,q3⟩:=LM ih ps (λq hq=>hp q (dA _ hq)) (L0++M1);refine⟨M1++M2,cs1::css,by simp[q1],λj p' cs' hj hc=>?_,k2.app q3⟩;cases j with
  |zero=>
   simp only[zi,aA]at hj hc;subst hj hc;exact k1.app
  |succ j=>
   simp only[qI]at hj hc;have:=q2 j p' cs' hj hc;unfold sN at this⊢;rw[<- fU];exact this
theorem all_flatten:∀{css:List (List Value)},(∀cs∈css,cs.all cellV=true)->css.flatten.all cellV=true
 |[],_=>rfl
 |cs::css,h=>by
  simp only[OP,List.all_append,eB];exact⟨h cs (cZ ..),all_flatten λc hc=>h c (dA _ hc)⟩
theorem Q3{ss:List Nat}{ps:List (TypeId×List Value×(DataW H×List MemPlace))}{css:List (List Value)}(hlen:cs.length=ss.sum)(hps:ps.map (·.2.1)=cuts ss cs)
 (hcl:css.length=ps.length) (hk:∀(j:Nat) p cs',ps[j]? =some p->css[j]? =some cs'->sN P W L0 M p.1 p.2.1 cs' p.2.2.1) (hsz:(cuts ss cs).map List.length=ss):
 aZ (jO (L0++M)) css.flatten cs/\css.flatten.all cellV=true/\cuts ss css.flatten=css:=by
 have hv:∀(j:Nat) a b,css[j]? =some a->(cuts ss cs)[j]? =some b->aZ (jO (L0++M)) a b:=λj a b ha hb=>by
  rw[<- hps,dK]at hb;cases e:ps[j]? with
  |none=>rw[e]at hb;cases hb
  |some p=>rw[e]at hb;cases hb;exact(hk j p a e ha).1
 have hl2:css.length=(cuts ss cs).length:=by rw[hcl,<- hps,cz]
 refine⟨?_,?_,?_⟩
 ·have:=aZ.flatten hl2 hv;rw[Q0 ss cs hlen]at this;exact this
 ·refine all_flatten λc hc=>?_;obtain⟨j,hj⟩:=jT hc;have hjl:j<ps.length:=by rw[<- hcl];exact(bC.1 hj).1
  exact(hk j ps[j] c (bW hjl) hj).2.1
 ·apply LJ;rw[<- hsz];apply jv;intro j;rw[dK,dK];cases e1:css[j]? with
  |none=>
   rw[gJ (by rw[<- hl2];exact WH.1 e1)]
  |some a=>
   have hj:j<(cuts ss cs).length:=by rw[<- hl2];exact(bC.1 e1).1
   rw[bW hj];have:=(hv j a _ e1 (bW hj)).length;simp only[jU];rw[this]
theorem DZ:∀(ss:List Nat) (cs:List Value),cs.length=ss.sum->(cuts ss cs).map List.length=ss
 |[],_,_=>rfl
 |s::ss,cs,h=>by
  simp only[List.sum_cons]at h;simp only[cuts,ic];rw[DZ ss (cs.drop s) xp];congr 1;rw[ig];omega
variable{a:Addr}{n:Nat}
theorem LP{base:Nat}(h:W.cells? base a n=some cs):cs.length=n/\∀(j:Nat) v,cs[j]? =some v->W.cell? (a.add j)=some v:=by
 obtain⟨_,h2,h3⟩:=World.cells?_some h;refine⟨h2,λj v hj=>?_⟩;have hjn:j<n:=by rw[<- h2];exact(bC.1 hj).1
 rw[<- hj];exact(h3 j hjn)
theorem aaF(ih:∀t cs x,K t->DataW.trod enc P W 0 (λ_=>true) true n t cs=some x->∀L0:Lay,∃M cs',sN P W L0 M t cs cs' x.1/\nZ W L0 M)
 {t:TypeId} {fs:Array Field} {cs:List Value} {xs:List (DataW H×List MemPlace)} (ht:P.underlying t=some (.struct fs)) (hf:∀f∈fs.toList,K f.type)
 (ho:fs.toList.map (·.offset)=sums 0 (fs.toList.map λf=>P.cellsOf f.type)) (hs:P.cellsOf t=(fs.toList.map λf=>P.cellsOf f.type).sum)
 (hlen:cs.length=P.cellsOf t) (hxl:xs.length=fs.size)
 (hx:∀(i:Nat) (f:Field),fs[i]? =some f->DataW.trod enc P W 0 (λ_=>true) true n f.type ((cs.drop f.offset).take (P.cellsOf f.type))=xs[i]?) (L0:Lay):
 ∃M cs',sN P W L0 M t cs cs' (.agg (xs.map (·.1)))/\nZ W L0 M:=by
 let ss:=fs.toList.map λf=>P.cellsOf f.type
 let ps:List (TypeId×List Value×(DataW H×List MemPlace)):=(fs.toList.zip xs).map λq=>(q.1.type,(cs.drop q.1.offset).take (P.cellsOf q.1.type),q.2)
 have hps:∀(j:Nat) p,ps[j]? =some p->∃f x,fs[j]? =some f/\xs[j]? =some x/\p=(f.type,(cs.drop f.offset).take (P.cellsOf f.type),x):=λj p hj=>by
  simp only[ps,dK,OQ,jV]at hj;obtain⟨⟨f,x⟩,⟨h1,h2⟩,rfl⟩:=hj;exact⟨f,x,by rw[<- zg];exact h1,h2,rfl⟩
 have hoff:∀(j:Nat) f,fs[j]? =some f->(sums 0 ss)[j]? =some f.offset/\ss[j]? =some (P.cellsOf f.type):=λj f hj=>by
  have hj':fs.toList[j]? =some f:=by rw[zg];exact hj
  refine⟨?_,?_⟩
  ·show(sums 0 (fs.toList.map λf=>P.cellsOf f.type))[j]? =_;rw[<- ho,dK,hj'];rfl
  ·show(fs.toList.map λf=>P.cellsOf f.type)[j]? =_;rw[dK,hj'];rfl
 have hsum:cs.length=ss.sum:=hlen.trans hs;have hpl:ps.length=fs.size:=by
  simp only[ps,cz,List.length_zip,hxl,Array.length_toList,Nat.min_self]
 have hcut:ps.map (·.2.1)=cuts ss cs:=by
  apply jv;intro j;rw[dK];have hcl:(cuts ss cs).length=fs.size:=by
   exact ta
  cases e:ps[j]? with
  |none=>
   have:=WH.1 e;rw[gJ vj];rfl
  |some p=>
   obtain⟨f,x,h1,h2,rfl⟩:=hps j p e;obtain⟨q1,q2⟩:=hoff j f h1;rw[(yA ss cs 0 j f.offset _ q1 q2).1];rfl
 obtain⟨M,css,k1,k2,k3⟩:=LM ih ps (λp hp=>by
  obtain⟨j,hj⟩:=jT hp;obtain⟨f,x,h1,h2,rfl⟩:=hps j p hj;have hm:f∈fs.toList:=aP (by rw[zg];exact h1:fs.toList[j]? =some f);exact⟨hf f hm,by rw[hx j f h1,h2]⟩) L0
 obtain⟨v1,v2,v3⟩:=Q3 hsum hcut k1 k2 (DZ ss cs hsum);refine⟨M,css.flatten,⟨v1,v2,?_⟩,k3⟩;refine .struct ht (by rw[<- v1.length,hlen]) (by rw[cz,hxl]) ?_;intro j f d hj hd;rw[dK]at hd;cases ex:xs[j]? with
 |none=>rw[ex]at hd;cases hd
 |some x=>
  rw[ex]at hd;cases hd;obtain⟨q1,q2⟩:=hoff j f hj;have hg:=(yA ss css.flatten 0 j f.offset _ q1 q2).1;rw[v3,CR]at hg;have fF:ps[j]? =some (f.type,(cs.drop f.offset).take (P.cellsOf f.type),x):=by
   have hj':fs.toList[j]? =some f:=by rw[zg];exact hj
   simp only[ps,dK,OQ,jV];exact⟨(f,x),⟨hj',ex⟩,rfl⟩
  exact(k2 j _ _ fF hg).2.2
theorem Gy(s:Nat):∀(n o0 j:Nat),j<n->(sums o0 (List.replicate n s))[j]? =some (o0+j*s)/\(List.replicate n s)[j]? =some s
 |0,o0,j,h=>by omega
 |n+1,o0,0,h=>by simp[FH,sums]
 |n+1,o0,j+1,h=>by
  obtain⟨h1,h2⟩:=Gy s n (o0+s) j vj;simp only[FH,sums,qI];refine⟨?_,h2⟩;rw[h1,Nat.succ_mul];congr 1;omega
theorem Q4(ih:∀t cs x,K t->DataW.trod enc P W 0 (λ_=>true) true n t cs=some x->∀L0:Lay,∃M cs',sN P W L0 M t cs cs' x.1/\nZ W L0 M)
 {e:TypeId} {m:Nat} {cs:List Value} {xs:List (DataW H×List MemPlace)} (he:K e) (hlen:cs.length=m*P.cellsOf e) (hxl:xs.length=m)
 (hx:∀(i:Nat),i<m->DataW.trod enc P W 0 (λ_=>true) true n e ((cs.drop (i*P.cellsOf e)).take (P.cellsOf e))=xs[i]?) (L0:Lay):
 ∃(M:Lay) (cs':List Value),aZ (jO (L0++M)) cs' cs/\cs'.all cellV=true/\(∀(j:Nat) d,(xs.map (·.1))[j]? =some d->iq P (jZ (L0++M)) e ((cs'.drop (j*P.cellsOf e)).take (P.cellsOf e)) d)/\nZ W L0 M:=by
 let ss:=List.replicate m (P.cellsOf e)
 let ps:List (TypeId×List Value×(DataW H×List MemPlace)):=(List.range m).zip xs|>.map λq=>(e,(cs.drop (q.1*P.cellsOf e)).take (P.cellsOf e),q.2)
 have hps:∀(j:Nat) p,ps[j]? =some p->∃x,j<m/\xs[j]? =some x/\p=(e,(cs.drop (j*P.cellsOf e)).take (P.cellsOf e),x):=λj p hj=>by
  simp only[ps,dK,OQ,jV]at hj;obtain⟨⟨i,x⟩,⟨h1,h2⟩,rfl⟩:=hj;have hjm:j<m:=by rw[<- hxl];exact(bC.1 h2).1
  rw[qN hjm]at h1;cases h1;exact⟨x,hjm,h2,rfl⟩
 have hsum:cs.length=ss.sum:=by rw[hlen];simp[ss,List.sum_replicate_nat]
 have hcut:ps.map (·.2.1)=cuts ss cs:=by
  apply jv;intro j;rw[dK];have hcl:(cuts ss cs).length=m:=by
   exact ta
  cases ep:ps[j]? with
  |none=>
   have h1:=WH.1 ep;have h2:ps.length=m:=by simp only[ps,cz,List.length_zip,hxl,o8,Nat.min_self]
   rw[gJ vj];rfl
  |some p=>
   obtain⟨x,h1,h2,rfl⟩:=hps j p ep;obtain⟨q1,q2⟩:=Gy (P.cellsOf e) m 0 j h1;rw[(yA ss cs 0 j _ _ q1 q2).1];simp
 obtain⟨M,css,k1,k2,k3⟩:=LM ih ps (λp hp=>by
  obtain⟨j,hj⟩:=jT hp;obtain⟨x,h1,h2,rfl⟩:=hps j p hj;exact⟨he,by rw[hx j h1,h2]⟩) L0
 obtain⟨v1,v2,v3⟩:=Q3 hsum hcut k1 k2 (DZ ss cs hsum);refine⟨M,css.flatten,v1,v2,?_,k3⟩;intro j d hd;rw[dK]at hd;cases ex:xs[j]? with
 |none=>rw[ex]at hd;cases hd
 |some x=>
  rw[ex]at hd;cases hd;have hjm:j<m:=by rw[<- hxl];exact(bC.1 ex).1
  obtain⟨q1,q2⟩:=Gy (P.cellsOf e) m 0 j hjm;have hg:=(yA ss css.flatten 0 j _ _ q1 q2).1;rw[v3,fC,CR]at hg;have fF:ps[j]? =some (e,(cs.drop (j*P.cellsOf e)).take (P.cellsOf e),x):=by
   simp only[ps,dK,OQ,jV];exact⟨(j,x),⟨qN hjm,ex⟩,rfl⟩
  exact(k2 j _ _ fF hg).2.2
theorem Q5(hs:a.spot=none)(j:Nat):a.add j=⟨a.block,a.off+j,none⟩:=by
 obtain⟨ab,ao,sp⟩:=a;simp only at hs;subst hs;by_cases h:j=0
 ·subst h;simp[Addr.add]
 ·simp[Addr.add,h]
theorem cell_spot{v:Value}(h:W.cell? a=some v):a.spot=none/\∃c t fz,W.heap[a.block]? =some (.cells c t fz):=by
 unfold World.cell? at h;split at h
 ·rename_i c t fz hb;split at h
  ·cases h
  ·rename_i hsp;refine⟨?_,c,t,fz,hb⟩;cases e:a.spot with
   |none=>rfl
   |some x=>rw[e]at hsp;exact absurd rfl hsp
 ·cases h
theorem aaG{s m:Nat}(hs:0<s)(h:∀i,i<m->∃c,W.cells? 0 (a.add (i*s)) s=some c):
 ∃cs:List Value,cs.length=m*s/\(∀i,i<m->W.cells? 0 (a.add (i*s)) s=some ((cs.drop (i*s)).take s)):=by
 let css:=(List.range m).map λi=>(W.cells? 0 (a.add (i*s)) s).getD []
 have hget:∀i,i<m->∃c,W.cells? 0 (a.add (i*s)) s=some c/\css[i]? =some c/\c.length=s:=λi hi=>by
  obtain⟨c,hc⟩:=h i hi;refine⟨c,hc,?_,(LP hc).1⟩;simp only[css,dK,qN hi,jU,hc,uT]
 have hcl:css.length=m:=by simp[css]
 have hlen:css.map List.length=List.replicate m s:=by
  apply jv;intro j;by_cases hj:j<m
  ·obtain⟨c,_,h2,h3⟩:=hget j hj;rw[dK,h2,OT,if_pos hj];simp[h3]
  ·rw[gJ (by rw[cz];omega),gJ wx]
 refine⟨css.flatten,?_,λi hi=>?_⟩
 ·rw[List.length_flatten,hlen,List.sum_replicate_nat]
 ·obtain⟨c,h1,h2,_⟩:=hget i hi;obtain⟨q1,q2⟩:=Gy s m 0 i hi;have:=(yA _ css.flatten 0 i _ _ q1 q2).1;rw[LJ _ css hlen,h2,fC,CR]at this;rw[h1,Option.some.inj this]
theorem Q6(hK:∀t,K t->PlainT P K t):∀(n:Nat) (t:TypeId) (cs:List Value) (x:DataW H×List MemPlace),K t->DataW.trod enc P W 0 (λ_=>true) true n t cs=some x->
 ∀L0:Lay,∃M cs',sN P W L0 M t cs cs' x.1/\nZ W L0 M
 |0,t,cs,x,_,h,_=>by simp[DataW.trod]at h
 |n+1,t,cs,x,hT,h,L0=>by
  have ih:=Q6 hK n;cases hK t hT with
  |bool ht=>
   obtain⟨b,rfl,rfl⟩:=DataW.trod_bool ht h;exact⟨[],[.bool b],⟨.cons (.bool b) .nil,rfl,.bool ht⟩,.nil⟩
  |int k ht=>
   obtain⟨m,rfl,rfl,hw⟩:=DataW.trod_int ht h;exact⟨[],[.int k m],⟨.cons (.int k m) .nil,rfl,.int ht hw⟩,.nil⟩
  |string ht=>
   obtain⟨s,rfl,rfl,hs⟩:=DataW.trod_string ht h;exact⟨[],[.string s],⟨.cons (.string s) .nil,rfl,.string ht hs⟩,.nil⟩
  |struct fs ht hf ho hs=>
   obtain⟨xs,m,hm,rfl,hl,hxl,hx⟩:=DataW.trod_struct ht h;cases hm;exact aaF ih ht hf ho hs hl hxl hx L0
  |array m e ht he hs=>
   obtain⟨xs,k,hk,rfl,hl,hxl,hx⟩:=Go.DataW.trod_array ht h;cases hk;obtain⟨M,cs',v1,v2,v3,v4⟩:=Q4 ih he (hl.trans hs) hxl hx L0;exact⟨M,cs',⟨v1,v2,.array ht (by rw[<- v1.length,hl]) (by rw[cz,hxl]) v3⟩,v4⟩
  |slice e ht he hs=>
   rcases DataW.trod_slice ht h with⟨rfl,rfl⟩|⟨a,len,cap,elems,rest,k,hk,rfl,rfl,_,hlc,hcm,hel,hes,hsp,_⟩
   ·exact⟨[],[.slice none 0 0],⟨.cons (.sl0 0 0) .nil,rfl,.nil ht⟩,.nil⟩
   cases hk;obtain⟨hrl,hrs⟩:=hsp rfl;have hcells:∀i,i<len->∃c y,W.cells? 0 (a.add (i*P.cellsOf e)) (P.cellsOf e)=some c/\elems[i]? =some y/\DataW.trod enc P W 0 (λ_=>true) true n e c=some y:=λi hi=>by
    have h1:=hes i hi;have hi':i<elems.length:=vj
    rw[bW hi',Option.bind_eq_some_iff]at h1;obtain⟨c,h2,h3⟩:=h1;exact⟨c,_,h2,bW hi',h3⟩
   obtain⟨wcs,hwl,hwc⟩:=aaG (W:=W) (a:=a) (m:=len) hs (λi hi=>let⟨c,_,h1,_⟩:=hcells i hi;⟨c,h1⟩);obtain⟨M,cs',v1,v2,v3,v4⟩:=Q4 ih (cs:=wcs) (xs:=elems) he hwl hel (λi hi=>by
    obtain⟨c,y,h1,h2,h3⟩:=hcells i hi;rw[hwc i hi]at h1;rw[Option.some.inj h1,h3,h2]) L0
   have wW:0<cap->∃v,W.cell? a=some v:=λhc=>by
    have key:∀c,W.cells? 0 (a.add (0*P.cellsOf e)) (P.cellsOf e)=some c->∃v,W.cell? a=some v:=λc h1=>by
     rw[FI]at h1;have h0:a.add 0=a:=by simp[Addr.add]
     rw[h0]at h1;obtain⟨q1,q2⟩:=LP h1;have hc0:0<c.length:=vj
     have:=q2 0 c[0] (bW hc0);rw[h0]at this;exact⟨_,this⟩
    by_cases hl0:0<len
    ·obtain⟨c,_,h1,_⟩:=hcells 0 hl0;exact key c h1
    ·have h1:=hrs 0 vj;have hr0:0<rest.length:=by omega
     rw[bW hr0,Option.bind_eq_some_iff]at h1;obtain⟨c,h2,_⟩:=h1;have hz:len+0=0:=vj
     rw[hz]at h2;exact key c h2
   let g:iD:=⟨a.block,a.off,len*P.cellsOf e,0,0⟩
   let en:Option iD×Option (List Value):=(some g,if len=0 then none else some cs')
   have hidx:(L0++(M++[en]))[(L0++M).length]? =some en:=by
    rw[<- fU,qa (bV _)];simp
   have qW:VR (jO (L0++(M++[en]))) (.slice (some ⟨(L0++M).length,0,some 0⟩) len cap) (.slice (some a) len cap):=by
    refine .ak (g:=g) ?_ rfl hlc ?_
    ·unfold jO;rw[hidx];rfl
    ·by_cases hc:cap=0
     ·exact .inl hc
     ·obtain⟨v,hv⟩:=wW vj;exact .inr ⟨rfl,(cell_spot hv).1⟩
   refine⟨M++[en],[.slice (some ⟨(L0++M).length,0,some 0⟩) len cap],⟨.cons qW .nil,rfl,?_⟩,?_⟩
   ·refine .slice ht ⟨hlc,hcm⟩ (by rw[cz,hel]) (cells:=cs') ?_ ?_
    ·by_cases hl0:len=0
     ·exact .inl hl0
     ·right;refine aay (g:=some g) ?_;rw[hidx];simp only[en,if_neg hl0]
    ·intro j d hj;have:=v3 j d hj;rw[<- fU];exact this.mono λi cs hc=>LK hc
   ·refine v4.app ?_;intro i g' c hi hget;have hi2:i=(L0++M).length:=by
     have:=(bC.1 hget).1;rw[iE]at this;simp at this hi⊢;omega
    subst hi2;rw[fU,hidx]at hget;simp only[en,aA,cO]at hget;obtain⟨rfl,hc⟩:=hget;split at hc
    ·cases hc
    ·rename_i hl0;cases hc;obtain⟨v0,hv0⟩:=wW vj;obtain⟨hspot,hblk⟩:=cell_spot hv0;refine⟨let⟨c,t,fz,e⟩:=hblk;⟨c,t,fz,e,.inl rfl⟩,rfl,v2,λj v hj=>?_⟩;obtain⟨v',hj',hv⟩:=v1.get hj;refine⟨v',?_,hv.mono (Gx _ _)⟩;show W.cell? ⟨a.block,a.off+j,none⟩=some v';have hjl:j<len*P.cellsOf e:=by rw[<- hwl];exact(bC.1 hj').1
     have hq:j/P.cellsOf e<len:=(ake hs).2 hjl;have hm:=aht j hs;have D5:=Nat.div_add_mod j (P.cellsOf e);have hcell:=(LP (hwc _ hq)).2 (j%P.cellsOf e) v' (by
      rw[tO,if_pos hm,qK,<- hj'];congr 1;rw[ahy];exact D5)
     rw[Q5 hspot]at hcell;rw[Q5 rfl]at hcell;simp only at hcell;rw[<- hcell];congr 2;rw[qb,ahy,D5]
end
end Go.Ideal
namespace Go.Ideal
open Go.ChangeShapes Go.WideShapes Go.ChangeAt Go.RowKit
def Q7(P:Program)(ts:List TypeId):Bool:=ts.all λt=>match P.underlying t with
 |some .bool=>true
 |some (.int _)=>true
 |some .string=>true
 |some (.slice e)=>ts.contains e&&Nat.blt 0 (P.cellsOf e)
 |some (.struct fs)=>fs.toList.all (λf=>ts.contains f.type)&&(fs.toList.map (·.offset)==sums 0 (fs.toList.map λf=>P.cellsOf f.type))&&P.cellsOf t==(fs.toList.map λf=>P.cellsOf f.type).sum
 |some (.array n e)=>ts.contains e&&P.cellsOf t==n*P.cellsOf e
 |_=>false
theorem aaI{P:Program}{ts:List TypeId}(h:Q7 P ts=true):∀t,t∈ts->PlainT P (·∈ts) t:=λt ht=>by
 unfold Q7 at h;rw[kR]at h;have h:=h t ht;split at h
 ·rename_i hu;exact .bool hu
 ·rename_i k hu;exact .int k hu
 ·rename_i hu;exact .string hu
 ·rename_i e hu;simp only[eB]at h;exact .slice e hu (FE.1 h.1) (BB h.2)
 ·rename_i fs hu;simp only[eB,kR,beq_iff_eq]at h;exact .struct fs hu (λf hf=>FE.1 (h.1.1 f hf)) h.1.2 h.2
 ·rename_i n e hu;simp only[eB,beq_iff_eq]at h;exact .array n e hu (FE.1 h.1) h.2
 ·cases h
section
variable {H:Type} {enc:TypeId×Value->H} {P:Program} {W:World} {K:TypeId->Prop}
def yB(P:Program)(h:IH)(t:TypeId)(v:Value)(d:DataW H):Prop:=
 ∃cs,iq P h t cs d/\cs.all cellV=true/\(cs=[v]\/v=.agg ⟨cs⟩)
theorem yB.app{L M:Lay}{t:TypeId}{v:Value}{d:DataW H}(r:yB P (jZ L) t v d):yB P (jZ (L++M)) t v d:=by
 obtain⟨cs,h1,h2,h3⟩:=r;exact⟨cs,h1.mono λi cs hc=>LK hc,h2,h3⟩
theorem aaJ(hK:∀t,K t->PlainT P K t){t:TypeId}{v:Value}{d:DataW H}{p:List MemPlace}(hT:K t)(hok:Value.okWide P W .any 0 t v)(h:DataW.Trod enc P W 0 (λ_=>true) true t v d p)(L0:Lay):
 ∃M v',VR (jO (L0++M)) v' v/\yB P (jZ (L0++M)) t v' d/\nZ W L0 M:=by
 obtain⟨n,hn⟩:=h;obtain⟨M,cs',⟨h1,h2,h3⟩,h4⟩:=Q6 hK n t _ _ hT hn L0;have agg:∀cs,v=.agg cs->∃M v',VR (jO (L0++M)) v' v/\yB P (jZ (L0++M)) t v' d/\nZ W L0 M:=λcs e=>by
  subst e;obtain⟨l⟩:=cs;exact⟨M,.agg ⟨cs'⟩,.agg h2 h1,⟨cs',h3,h2,.inr rfl⟩,h4⟩
 have one:v.cells= #[v]->∃M v',VR (jO (L0++M)) v' v/\yB P (jZ (L0++M)) t v' d/\nZ W L0 M:=λe=>by
  rw[e]at h1;match cs',h1,h2,h3 with
  |[v'],.cons h1 .nil,h2,h3=>exact⟨M,v',h1,⟨[v'],h3,h2,.inl rfl⟩,h4⟩
 cases hv:v with
 |agg cs=>rw[<- hv];exact agg cs hv
 |_=>rw[<- hv];exact one (by rw[hv];rfl)
theorem Q8(hK:∀t,K t->PlainT P K t):∀{ts:List TypeId} {vs:List Value} {ds:List (DataW H)} {ps:List MemPlace},(∀t∈ts,K t)->(∀(j:Nat) t v,ts[j]? =some t->vs[j]? =some v->Value.okWide P W .any 0 t v)->
 DataW.TrodAll enc P W 0 (λ_=>true) true ts vs ds ps->∀L0:Lay,∃(M:Lay) (vs':List Value),aZ (jO (L0++M)) vs' vs/\
  (∀(j:Nat) t v d,ts[j]? =some t->vs'[j]? =some v->ds[j]? =some d->yB P (jZ (L0++M)) t v d)/\nZ W L0 M
 |[],[],[],_,_,_,_,L0=>⟨[],[],.nil,(λj t v d h=>by cases h),.nil⟩
 |t::ts,v::vs,d::ds,_,hT,hok,⟨p,q,h1,h2,_⟩,L0=>by
  obtain⟨M1,v',a1,a2,a3⟩:=aaJ hK (hT t (cZ ..)) (hok 0 t v rfl rfl) h1 L0;obtain⟨M2,vs',b1,b2,b3⟩:=Q8 hK (λt ht=>hT t (dA _ ht)) (λj t v hj hv=>hok (j+1) t v hj hv) h2 (L0++M1);rw[fU]at b1 b2;refine⟨M1++M2,v'::vs',.cons ?_ b1,?_,a3.app b3⟩
  ·rw[<- fU];exact a1.mono (Gx _ _)
  ·intro j t' w d' hj hw hd;cases j with
   |zero=>
    simp only[zi,aA]at hj hw hd;subst hj hw hd;rw[<- fU];exact a2.app
   |succ j=>exact b2 j t' w d' hj hw hd
end
end Go.Ideal
namespace Go.Ideal
section
variable {H:Type} {P:Program} {h:IH} {t e:TypeId} {cs:List Value} {d:DataW H}
theorem iq.mF{k:IntKind}(ht:P.underlying t=some (.int k))(r:iq P h t cs d):∃n,cs=[.int k n]/\d=.lit (.int k n)/\(Lit.int k n).wf=true:=by
 cases r with
 |int ht' hw=>rw[ht]at ht';cases ht';exact⟨_,rfl,rfl,hw⟩
 |bool ht'=>rw[ht]at ht';cases ht'
 |string ht'=>rw[ht]at ht';cases ht'
 |nil ht'=>rw[ht]at ht';cases ht'
 |slice ht'=>rw[ht]at ht';cases ht'
 |struct ht'=>rw[ht]at ht';cases ht'
 |array ht'=>rw[ht]at ht';cases ht'
theorem iq.F9(ht:P.underlying t=some .bool)(r:iq P h t cs d):∃b,cs=[.bool b]/\d=.lit (.bool b):=by
 cases r with
 |bool ht'=>exact⟨_,rfl,rfl⟩
 |int ht' hw=>rw[ht]at ht';cases ht'
 |string ht'=>rw[ht]at ht';cases ht'
 |nil ht'=>rw[ht]at ht';cases ht'
 |slice ht'=>rw[ht]at ht';cases ht'
 |struct ht'=>rw[ht]at ht';cases ht'
 |array ht'=>rw[ht]at ht';cases ht'
theorem iq.zG(ht:P.underlying t=some .string)(r:iq P h t cs d):∃s:ByteArray,cs=[.string s]/\d=.lit (.string s.data.toList)/\s.size<=maxLen:=by
 cases r with
 |string ht' hs=>exact⟨_,rfl,rfl,hs⟩
 |bool ht'=>rw[ht]at ht';cases ht'
 |int ht' hw=>rw[ht]at ht';cases ht'
 |nil ht'=>rw[ht]at ht';cases ht'
 |slice ht'=>rw[ht]at ht';cases ht'
 |struct ht'=>rw[ht]at ht';cases ht'
 |array ht'=>rw[ht]at ht';cases ht'
theorem iq.nI(ht:P.underlying t=some (.slice e))(r:iq P h t cs d):
 (cs=[.slice none 0 0]/\d=.nil)\/∃i n c cells els rest,cs=[.slice (some ⟨i,0,some 0⟩) n c]/\d=.slice els rest/\(n<=c/\c<=maxLen)/\els.length=n/\(n=0\/Cells h i cells)/\
   ∀(k:Nat) d,els[k]? =some d->iq P h e ((cells.drop (k*P.cellsOf e)).take (P.cellsOf e)) d:=by
 cases r with
 |nil ht'=>exact .inl ⟨rfl,rfl⟩
 |slice ht' hn hl hc hel=>rw[ht]at ht';cases ht';exact .inr ⟨_,_,_,_,_,_,rfl,rfl,hn,hl,hc,hel⟩
 |string ht'=>rw[ht]at ht';cases ht'
 |bool ht'=>rw[ht]at ht';cases ht'
 |int ht' hw=>rw[ht]at ht';cases ht'
 |struct ht'=>rw[ht]at ht';cases ht'
 |array ht'=>rw[ht]at ht';cases ht'
theorem iq.Q9{fs:Array Field}(ht:P.underlying t=some (.struct fs))(r:iq P h t cs d):
 ∃ds,d=.agg ds/\cs.length=P.cellsOf t/\ds.length=fs.size/\∀(j:Nat) f d,fs[j]? =some f->ds[j]? =some d->iq P h f.type ((cs.drop f.offset).take (P.cellsOf f.type)) d:=by
 cases r with
 |struct ht' hl hd hf=>rw[ht]at ht';cases ht';exact⟨_,rfl,hl,hd,hf⟩
 |array ht'=>rw[ht]at ht';cases ht'
 |nil ht'=>rw[ht]at ht';cases ht'
 |slice ht'=>rw[ht]at ht';cases ht'
 |string ht'=>rw[ht]at ht';cases ht'
 |bool ht'=>rw[ht]at ht';cases ht'
 |int ht' hw=>rw[ht]at ht';cases ht'
def LQ:DataW H->Int
 | .lit (.int _ n)=>n
 |_=>0
theorem iq.ints{v:Value}(ht:P.underlying t=some (.slice e))(he:P.underlying e=some (.int .i64))(hc:P.cellsOf e=1)(r:iq P h t [v] d):∃xs,wV h v xs/\∀x∈xs, -9223372036854775808<=x/\x<9223372036854775808:=by
 rcases r.nI ht with⟨e1,_⟩|⟨i,n,c,cells,els,rest,e1,_,hn,hl,hcl,hel⟩
 ·injection e1 with e1;exact⟨[],.inl ⟨rfl,none,0,0,e1,rfl⟩,vm⟩
 ·injection e1 with e1;subst e1;have each:∀(k:Nat) d,els[k]? =some d->cells[k]? =some (.int .i64 (LQ d))/\(Lit.int .i64 (LQ d)).wf=true:=λk d hk=>by
   have:=hel k d hk;rw[hc,uV]at this;obtain⟨m,h1,h2,h3⟩:=this.mF he;subst h2;refine⟨?_,h3⟩;have h4:((cells.drop k).take 1)[0]? =some (.int .i64 m):=by rw[h1];rfl
   rw[tO,if_pos vj,qK]at h4;exact h4
  refine⟨els.map LQ,?_,?_⟩
  ·rcases hcl with h0|hcl
   ·left;refine⟨?_,_,_,_,rfl,h0⟩;have:els=[]:=jw.1 vj;rw[this];rfl
   ·right;refine⟨i,0,0,c,cells,by rw[cz,hl],hcl,λk x hk=>?_⟩;rw[dK]at hk;cases ek:els[k]? with
    |none=>rw[ek]at hk;cases hk
    |some d=>
     rw[ek]at hk;cases hk;rw[fC];exact(each k d ek).1
  ·intro x hx;obtain⟨d,hd,rfl⟩:=eG.1 hx;obtain⟨k,hk⟩:=jT hd;have:=(each k d hk).2;simp only[Lit.wf,IntKind.min,IntKind.max,IntKind.signed,IntKind.bits,eB,zh]at this;simp at this;omega
end
end Go.Ideal
namespace Canon
structure LU{α:Type}(c:α->α->Int):Prop where
 zero:∀a b,c a b=0↔a=b
 neg:∀a b,c a b<0↔0<c b a
 trans:∀a b d,c a b<0->c b d<0->c a d<0
def j3(a b:Int):Int:=if a<b then -1 else if b<a then 1 else 0
theorem Ra:LU j3 where
 zero a b:=by unfold j3;split<;>(try split)<;>omega
 neg a b:=by unfold j3;split<;>(try split)<;>(try split)<;>(try split)<;>omega
 trans a b d h1 h2:=by
  unfold j3 at h1 h2⊢;split at h1<;>(try split at h1)<;>split at h2<;>(try split at h2)<;>first|omega|(rw[if_pos vj];omega)
def jP{α:Type}(c:α->α->Int):List α->List α->Int
 |[],[]=>0
 |[],_::_=> -1
 |_::_,[]=>1
 |a::l,b::m=>if c a b≠0 then c a b else jP c l m
theorem Rb{α:Type}{c:α->α->Int}(h:LU c):LU (jP c) where
 zero:=by
  intro a;induction a with
  |nil=>intro b;cases b<;>simp[jP]
  |cons x l ih=>
   intro b;cases b with
   |nil=>simp[jP]
   |cons y m=>
    simp only[jP];by_cases e:c x y=0
    ·rw[if_neg xF,ih m];have:=(h.zero x y).1 e;subst this;simp
    ·rw[if_pos e];constructor
     ·intro q;exact absurd q e
     ·intro q;injection q with q1 q2;exact absurd ((h.zero x y).2 q1) e
 neg:=by
  intro a;induction a with
  |nil=>intro b;cases b<;>simp[jP]
  |cons x l ih=>
   intro b;cases b with
   |nil=>simp[jP]
   |cons y m=>
    simp only[jP];by_cases e:c x y=0
    ·have e2:=(h.zero x y).1 e;subst e2;rw[if_neg xF,if_neg xF];exact ih m
    ·have e2:c y x≠0:=λq=>e ((h.zero x y).2 ((h.zero y x).1 q).symm);rw[if_pos e,if_pos e2];exact h.neg x y
 trans:=by
  intro a;induction a with
  |nil=>
   intro b d h1 h2;cases b with
   |nil=>simp[jP]at h1
   |cons y m=>cases d with
    |nil=>simp[jP]at h2
    |cons z n=>simp[jP]
  |cons x l ih=>
   intro b d h1 h2;cases b with
   |nil=>simp[jP]at h1
   |cons y m=>cases d with
    |nil=>simp[jP]at h2
    |cons z n=>
     simp only[jP]at h1 h2⊢;by_cases e1:c x y=0
     ·have:=(h.zero x y).1 e1;subst this;rw[if_neg (by simpa using e1)]at h1;by_cases e2:c x z=0
      ·rw[if_neg (by simpa using e2)]at h2⊢;exact ih m n h1 h2
      ·rw[if_pos e2]at h2⊢;exact h2
     ·rw[if_pos e1]at h1;by_cases e2:c y z=0
      ·have:=(h.zero y z).1 e2;subst this;rw[if_pos e1];exact h1
      ·rw[if_pos e2]at h2;have:=h.trans x y z h1 h2;rw[if_pos vj];exact this
structure Clue where
 aQ:Int
 at_:Int
 values:List Int
instance:DecidableEq Clue:=λa b=>decidable_of_iff (a.aQ=b.aQ/\a.at_=b.at_/\a.values=b.values) (by cases a;cases b;simp)
def D6(a b:Clue):Int:=if j3 a.aQ b.aQ≠0 then j3 a.aQ b.aQ else if j3 a.at_ b.at_≠0 then j3 a.at_ b.at_ else jP j3 a.values b.values
theorem aaK(a b:Clue):D6 a b=if jP j3 [a.aQ,a.at_] [b.aQ,b.at_]≠0 then jP j3 [a.aQ,a.at_] [b.aQ,b.at_]else jP j3 a.values b.values:=by
 simp only[D6,jP];by_cases h1:j3 a.aQ b.aQ=0
 ·by_cases h2:j3 a.at_ b.at_=0
  ·simp[h1,h2]
  ·simp[h1,h2]
 ·simp[h1]
theorem ajt(a b:Clue):D6 a b=jP j3 (a.aQ::a.at_::a.values) (b.aQ::b.at_::b.values):=by
 simp only[D6,jP]
theorem akh:LU D6 where
 zero a b:=by
  rw[ajt,(Rb Ra).zero];obtain⟨c,p,v⟩:=a;obtain⟨d,q,w⟩:=b;simp
 neg a b:=by rw[ajt,ajt];exact(Rb Ra).neg _ _
 trans a b d h1 h2:=by rw[ajt]at h1 h2⊢;exact(Rb Ra).trans _ _ _ h1 h2
end Canon
namespace Go.Ideal
open Canon (Clue)
def zV(h:IH)(v:Value)(l:List Clue):Prop:=
 (l=[]/\∃a m c,v=.slice a m c/\m=0)\/
 ∃i o f c cells,v=.slice (some ⟨i,o,some f⟩) l.length c/\Cells h i cells/\∀(k:Nat) g,l[k]? =some g->
  ∃vv,cells[o+k*3]? =some (.int .i64 g.aQ)/\cells[o+k*3+1]? =some (.int .i64 g.at_)/\cells[o+k*3+2]? =some vv/\wV h vv g.values
variable{h:IH}{v:Value}{l:List Clue}
theorem zV.agree{h':IH}(a:zV h v l)(g:Agree h h'):zV h' v l:=by
 rcases a with h1|⟨i,o,f,c,cs,h1,h2,h3⟩
 ·exact .inl h1
 ·refine .inr ⟨i,o,f,c,cs,h1,h2.agree g,λk x hk=>?_⟩;obtain⟨vv,q1,q2,q3,q4⟩:=h3 k x hk;exact⟨vv,q1,q2,q3,q4.agree g⟩
theorem zV.form(a:zV h v l):∃b c,v=.slice b l.length c:=by
 exact pN
section
variable {H:Type} {P:Program} {h:IH} {t e u z:TypeId} {d:DataW H}
variable{v:Value}
theorem iq.aJ{f0 f1 f2:Field}(ht:P.underlying t=some (.slice e))(he:P.underlying e=some (.struct #[f0,f1,f2]))(hf0:f0.type=z/\f0.offset=0)(hf1:f1.type=z/\f1.offset=1)
 (hf2:f2.type=u/\f2.offset=2) (hz:P.underlying z=some (.int .i64)) (hcz:P.cellsOf z=1) (hu:P.underlying u=some (.slice z)) (hcu:P.cellsOf u=1) (hce:P.cellsOf e=3)
 (r:iq P h t [v] d):∃l,zV h v l:=by
 rcases r.nI ht with⟨e1,_⟩|⟨i,n,c,cells,els,rest,e1,_,hn,hl,hcl,hel⟩
 ·injection e1 with e1;exact⟨[],.inl ⟨rfl,none,0,0,e1,rfl⟩⟩
 ·injection e1 with e1;subst e1;have each:∀(k:Nat) d,els[k]? =some d->∃g:Clue,∃vv,cells[k*3]? =some (.int .i64 g.aQ)/\cells[k*3+1]? =some (.int .i64 g.at_)/\cells[k*3+2]? =some vv/\wV h vv g.values:=λk d hk=>by
   have r1:=hel k d hk;rw[hce]at r1;obtain⟨ds,rfl,hlen,hdl,hf⟩:=r1.Q9 he;match ds,hdl with
   |[d0,d1,d2],_=>
    have a0:=hf 0 f0 d0 rfl rfl;have a1:=hf 1 f1 d1 rfl rfl;have a2:=hf 2 f2 d2 rfl rfl;rw[hf0.1,hf0.2,hcz]at a0;rw[hf1.1,hf1.2,hcz]at a1;rw[hf2.1,hf2.2,hcu]at a2;rw[hce]at hlen;match hrow:(cells.drop (k*3)).take 3,hlen with
    |[x,y,w],_=>
     rw[hrow]at a0 a1 a2;obtain⟨m0,b0,_,_⟩:=a0.mF hz;obtain⟨m1,b1,_,_⟩:=a1.mF hz;obtain⟨xs,b2,_⟩:=iq.ints (v:=w) hu hz hcz a2;injection b0 with b0;injection b1 with b1;have hg:∀j,j<3->cells[k*3+j]? =[x,y,w][j]?:=λj hj=>by
      rw[<- hrow,tO,if_pos hj,qK]
     refine⟨⟨m0,m1,xs⟩,w,?_,?_,?_,b2⟩
     ·have:=hg 0 vj;rw[<- b0];exact this
     ·have:=hg 1 vj;rw[<- b1];exact this
     ·exact hg 2 vj
  -- the clues, one by one
  have build:∀m,m<=els.length->∃l:List Clue,l.length=m/\∀(k:Nat) g,l[k]? =some g->∃vv,cells[k*3]? =some (.int .i64 g.aQ)/\cells[k*3+1]? =some (.int .i64 g.at_)/\cells[k*3+2]? =some vv/\wV h vv g.values:=by
   intro m;induction m with
   |zero=>intro _;exact⟨[],rfl,λk g hk=>by cases hk⟩
   |succ m ih=>
    intro hm;obtain⟨l,q1,q2⟩:=ih vj;obtain⟨g,vv,q3⟩:=each m els[m] (bW vj);refine⟨l++[g],by simp[q1],λk g' hk=>?_⟩;by_cases hkm:k<l.length
    ·rw[qL hkm]at hk;exact q2 k g' hk
    ·rw[qa vj]at hk;have hk0:k - l.length=0:=by
      have:=(bC.1 hk).1;simp at this;omega
     rw[hk0]at hk;simp only[zi,aA]at hk;subst hk;have:k=m:=vj
     subst this;exact⟨vv,q3⟩
  obtain⟨l,q1,q2⟩:=build els.length (bV _);refine⟨l,?_⟩;rcases hcl with h0|hcl
  ·left;exact⟨jw.1 vj,_,_,_,rfl,h0⟩
  ·right;refine⟨i,0,0,c,cells,by rw[q1,hl],hcl,λk g hk=>?_⟩;simpa using q2 k g hk
def LV(h:IH)(v:Value)(l:List Clue):Prop:=∃w,v=.agg ⟨[w]⟩/\zV h w l
theorem LV.agree{h h':IH}{l:List Clue}(a:LV h v l)(g:Agree h h'):LV h' v l:=by
 obtain⟨w,e,k⟩:=a;exact⟨w,e,k.agree g⟩
end

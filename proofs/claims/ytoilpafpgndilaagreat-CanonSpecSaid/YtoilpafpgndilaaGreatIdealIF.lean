/- Part. -/
import Derived.Test.YtoilpafpgndilaaGreatIdealHF
import Derived.OpenShut
set_option linter.all false
namespace Go.Ideal
open Go.ChangeShapes Go.WideShapes Go.ChangeAt Go.RowKit
def cuts{α:Type}:kI Nat->kI α->kI (kI α)
 |[],_=>[]
 |s::ss,l=>l.take s::cuts ss (l.drop s)
def sums:Nat->kI Nat->kI Nat
 |_,[]=>[]
 |o,s::ss=>o::sums (o+s) ss
def yV{α:Type}:∀(ss:kI Nat) (l:kI α) (o0 j:Nat) (o s:Nat),(sums o0 ss)[j]? =some o->ss[j]? =some s->(cuts ss l)[j]? =some ((l.drop (o - o0)).take s)/\o0<=o
 |[],l,o0,j,o,s,h,_=>by simp[sums]at h
 |s0::ss,l,o0,0,o,s,h,hs=>by
  simp[sums]at h hs;subst h hs;simp[cuts]
 |s0::ss,l,o0,j+1,o,s,h,hs=>by
  simp only[sums,qZ]at h hs;obtain⟨h1,h2⟩:=yV ss (l.drop s0) (o0+s0) j o s h hs;refine⟨?_,z7⟩;simp only[cuts,qZ];rw[h1,List.drop_drop];congr 3;omega
def RU{α:Type}:∀(ss:kI Nat) (l:kI α),l.length=ss.sum->(cuts ss l).flatten=l
 |[],l,h=>by
  have:l=[]:=jy.1 AH;subst this;rfl
 |s::ss,l,h=>by
  simp only[List.sum_cons]at h;simp only[cuts,PM];rw[RU ss (l.drop s) A0,uq]
def Mo{α:Type}:∀(ss:kI Nat) (ps:kI (kI α)),ps.map List.length=ss->cuts ss ps.flatten=ps
 |[],[],_=>rfl
 |[],_::_,h=>by cases h
 |s::ss,[],h=>by cases h
 |s::ss,p::ps,h=>by
  simp only[agO,zR]at h;obtain⟨h1,h2⟩:=h;simp only[cuts,PM];rw[List.take_left' h1,List.drop_left' h1,Mo ss ps h2]
def aW.flatten{β:aG}:∀{ps qs:kI (kI vI)},ps.length=qs.length->(∀(j:Nat) p q,ps[j]? =some p->qs[j]? =some q->aW β p q)->aW β ps.flatten qs.flatten
 |[],[],_,_=>.nil
 |[],_::_,h,_=>by cases h
 |_::_,[],h,_=>by cases h
 |p::ps,q::qs,h,hv=>by
  simp only[PM];exact(hv 0 p q rfl rfl).append (aW.flatten AH λj a b ha hb=>hv (j+1) a b ha hb)
inductive iw(P:Program)(h:IH){H:Type}:TypeId->List Value->DataW H->Prop
 |bool {t:TypeId} {b:Bool} (ht:P.underlying t=some .bool):iw P h t [.bool b] (.lit (.bool b))
 |int {t:TypeId} {k:IntKind} {n:Int} (ht:P.underlying t=some (.int k)) (hw:(Lit.int k n).wf=true):iw P h t [.int k n] (.lit (.int k n))
 |string {t:TypeId} {s:ByteArray} (ht:P.underlying t=some .string) (hs:s.size<=maxLen):iw P h t [.string s] (.lit (.string s.data.toList))
 |nil {t e:TypeId} (ht:P.underlying t=some (.slice e)):iw P h t [.slice none 0 0] .nil
 |slice {t e:TypeId} {i n c:Nat} {cells:List Value} {els rest:List (DataW H)} (ht:P.underlying t=some (.slice e)) (hn:n<=c/\c<=maxLen) (hl:els.length=n) (hc:n=0\/Cells h i cells)
   (hel:∀(k:Nat) d,els[k]? =some d->iw P h e ((cells.drop (k*P.cellsOf e)).take (P.cellsOf e)) d):iw P h t [.slice (some ⟨i,0,some 0⟩) n c] (.slice els rest)
 |struct {t:TypeId} {fs:Array Field} {cs:List Value} {ds:List (DataW H)} (ht:P.underlying t=some (.struct fs)) (hl:cs.length=P.cellsOf t) (hd:ds.length=fs.size)
   (hf:∀(j:Nat) f d,fs[j]? =some f->ds[j]? =some d->iw P h f.type ((cs.drop f.offset).take (P.cellsOf f.type)) d):iw P h t cs (.agg ds)
 |array {t e:TypeId} {n:Nat} {cs:List Value} {ds:List (DataW H)} (ht:P.underlying t=some (.array n e)) (hl:cs.length=P.cellsOf t) (hd:ds.length=n)
   (hf:∀(j:Nat) d,ds[j]? =some d->iw P h e ((cs.drop (j*P.cellsOf e)).take (P.cellsOf e)) d):iw P h t cs (.agg ds)
def iw.mono{P:Program}{h h':IH}{H:Type}(hh:∀i cs,Cells h i cs->Cells h' i cs){t:adH}{cs:kI vI}{d:DataW H}(r:iw P h t cs d):iw P h' t cs d:=by
 induction r with
 |bool ht=>exact .bool ht
 |int ht hw=>exact .int ht hw
 |string ht hs=>exact .string ht hs
 |nil ht=>exact .nil ht
 |slice ht hn hl hc _ ih=>exact .slice ht hn hl (hc.imp id (hh _ _)) ih
 |struct ht hl hd _ ih=>exact .struct ht hl hd ih
 |array ht hl hd _ ih=>exact .array ht hl hd ih
inductive PlainT(P:Program)(K:TypeId->Prop)(t:TypeId):Prop
 |bool (ht:P.underlying t=some .bool)
 |int (k:IntKind) (ht:P.underlying t=some (.int k))
 |string (ht:P.underlying t=some .string)
 |slice (e:TypeId) (ht:P.underlying t=some (.slice e)) (he:K e) (hs:0<P.cellsOf e)
 |struct (fs:Array Field) (ht:P.underlying t=some (.struct fs)) (hf:∀f∈fs.toList,K f.type) (ho:fs.toList.map (·.offset)=sums 0 (fs.toList.map λf=>P.cellsOf f.type))
   (hs:P.cellsOf t=(fs.toList.map λf=>P.cellsOf f.type).sum)
 |array (n:Nat) (e:TypeId) (ht:P.underlying t=some (.array n e)) (he:K e) (hs:P.cellsOf t=n*P.cellsOf e)
def Hq(L M:Lay):(jY L).le (jY (L++M)):=λi g h=>by
 unfold jY at h⊢;cases e:L[i]? with
 |none=>rw[e]at h;cases h
 |some p=>rw[qp (bq.1 e).1,e];rw[e]at h;exact h
variable{M L:Lay}{cs:kI vI}
def Mq{i:Nat}(h:Cells (ku L) i cs):Cells (ku (L++M)) i cs:=by
 obtain⟨h1,h2⟩:=h;have h1:i<L.length:=h1;refine⟨by show i<(L++M).length;rw[iH];omega,?_⟩;rw[Ml]at h2⊢;rw[qp h1];exact h2
def Cu.app{w:World}{g:iJ}(k:Cu L w g cs):Cu (L++M) w g cs:=
 ⟨k.block,k.sz,k.all,λj v hj=>let⟨v',a,b⟩:=k.cell j v hj;⟨v',a,b.mono (Hq _ _)⟩⟩
def oD(W:World)(L0 M:Lay):Prop:=∀(i:Nat) g cs,L0.length<=i->(L0++M)[i]? =some (some g,some cs)->Cu (L0++M) W g cs
variable{L0:Lay}{W:World}
def oD.nil:oD W L0 []:=λi g cs hi h=>by
 rw[gU,fO hi]at h;cases h
def oD.app{N:Lay}(h1:oD W L0 M)(h2:oD W (L0++M) N):oD W L0 (M++N):=λi g cs hi h=>by
 rw[<- List.append_assoc]at h⊢;by_cases hm:(L0++M).length<=i
 .exact h2 i g cs hm h
 .rw[qp z7]at h;exact(h1 i g cs hi h).app
section
variable {H:Type} {enc:adH×vI->H} {P:Program} {W:World} {K:adH->Prop}
def tO(P:Program)(W:World)(L0 M:Lay)(t:adH)(cs cs':kI vI)(d:DataW H):Prop:=
 aW (jY (L0++M)) cs' cs/\cs'.all cellV=true/\iw P (ku (L0++M)) t cs' d
variable{cs:kI vI}{L0 M:Lay}
def tO.app{N:Lay}{t:adH}{cs':kI vI}{d:DataW H}(k:tO P W L0 M t cs cs' d):tO P W L0 (M++N) t cs cs' d:=by
 obtain⟨h1,h2,h3⟩:=k;unfold tO;rw[<- List.append_assoc];exact⟨h1.mono (Hq _ _),h2,h3.mono λi cs hc=>Mq hc⟩
def Mr{n:Nat}(ih:∀t cs x,K t->DataW.trod enc P W 0 (λ_=>true) true n t cs=some x->∀L0:Lay,∃M cs',tO P W L0 M t cs cs' x.1/\oD W L0 M):
 ∀(ps:kI (adH×kI vI×(DataW H×kI MemPlace))),(∀p∈ps,K p.1/\DataW.trod enc P W 0 (λ_=>true) true n p.1 p.2.1=some p.2.2)->∀L0:Lay,
  ∃(M:Lay) (css:kI (kI vI)),css.length=ps.length/\(∀(j:Nat) p cs',ps[j]? =some p->css[j]? =some cs'->tO P W L0 M p.1 p.2.1 cs' p.2.2.1)/\oD W L0 M
 |[],_,L0=>⟨[],[],rfl,(λj p cs' h=>by cases h),.nil⟩
 |p::ps,hp,L0=>by
  obtain⟨h1,h2⟩:=hp p (cB ..);obtain⟨M1,cs1,k1,k2⟩:=ih _ _ _ h1 h2 L0;obtain⟨M2,css,q1,q2,q3⟩:=Mr ih ps (λq hq=>hp q (cO _ hq)) (L0++M1);refine⟨M1++M2,cs1::css,by simp[q1],λj p' cs' hj hc=>?_,k2.app q3⟩;cases j with
  |zero=>
   simp only[zQ,aD]at hj hc;subst hj hc;exact k1.app
  |succ j=>
   simp only[qZ]at hj hc;have:=q2 j p' cs' hj hc;unfold tO at this⊢;rw[<- List.append_assoc];exact this
def all_flatten:∀{css:kI (kI vI)},(∀cs∈css,cs.all cellV=true)->css.flatten.all cellV=true
 |[],_=>rfl
 |cs::css,h=>by
  simp only[PM,List.all_append,afD];exact⟨h cs (cB ..),all_flatten λc hc=>h c (cO _ hc)⟩
def RV{ss:kI Nat}{ps:kI (adH×kI vI×(DataW H×kI MemPlace))}{css:kI (kI vI)}(hlen:cs.length=ss.sum)(hps:ps.map (·.2.1)=cuts ss cs)
 (hcl:css.length=ps.length) (hk:∀(j:Nat) p cs',ps[j]? =some p->css[j]? =some cs'->tO P W L0 M p.1 p.2.1 cs' p.2.2.1) (hsz:(cuts ss cs).map List.length=ss):
 aW (jY (L0++M)) css.flatten cs/\css.flatten.all cellV=true/\cuts ss css.flatten=css:=by
 have hv:∀(j:Nat) a b,css[j]? =some a->(cuts ss cs)[j]? =some b->aW (jY (L0++M)) a b:=λj a b ha hb=>by
  rw[<- hps,dm]at hb;cases e:ps[j]? with
  |none=>rw[e]at hb;cases hb
  |some p=>rw[e]at hb;cases hb;exact(hk j p a e ha).1
 have hl2:css.length=(cuts ss cs).length:=by rw[hcl,<- hps,bY]
 refine⟨?_,?_,?_⟩
 .have:=aW.flatten hl2 hv;rw[RU ss cs hlen]at this;exact this
 .refine all_flatten λc hc=>?_;obtain⟨j,hj⟩:=jS hc;have hjl:j<ps.length:=by rw[<- hcl];exact(bq.1 hj).1
  exact(hk j ps[j] c (bP hjl) hj).2.1
 .apply Mo;rw[<- hsz];apply iY;intro j;rw[dm,dm];cases e1:css[j]? with
  |none=>
   rw[fO (by rw[<- hl2];exact XI.1 e1)]
  |some a=>
   have hj:j<(cuts ss cs).length:=by rw[<- hl2];exact(bq.1 e1).1
   rw[bP hj];have:=(hv j a _ e1 (bP hj)).length;simp only[jT];rw[this]
def EG:∀(ss:kI Nat) (cs:kI vI),cs.length=ss.sum->(cuts ss cs).map List.length=ss
 |[],_,_=>rfl
 |s::ss,cs,h=>by
  simp only[List.sum_cons]at h;simp only[cuts,agO];rw[EG ss (cs.drop s) A0];congr 1;rw[gT];omega
variable{a:Addr}{n:Nat}
def Ms{base:Nat}(h:W.cells? base a n=some cs):cs.length=n/\∀(j:Nat) v,cs[j]? =some v->W.cell? (a.add j)=some v:=by
 obtain⟨_,h2,h3⟩:=World.cells?_some h;refine⟨h2,λj v hj=>?_⟩;have hjn:j<n:=by rw[<- h2];exact(bq.1 hj).1
 rw[<- hj];exact(h3 j hjn)
def abq(ih:∀t cs x,K t->DataW.trod enc P W 0 (λ_=>true) true n t cs=some x->∀L0:Lay,∃M cs',tO P W L0 M t cs cs' x.1/\oD W L0 M)
 {t:adH} {fs:Array Field} {cs:kI vI} {xs:kI (DataW H×kI MemPlace)} (ht:P.underlying t=some (.struct fs)) (hf:∀f∈fs.toList,K f.type)
 (ho:fs.toList.map (·.offset)=sums 0 (fs.toList.map λf=>P.cellsOf f.type)) (hs:P.cellsOf t=(fs.toList.map λf=>P.cellsOf f.type).sum)
 (hlen:cs.length=P.cellsOf t) (hxl:xs.length=fs.size)
 (hx:∀(i:Nat) (f:Field),fs[i]? =some f->DataW.trod enc P W 0 (λ_=>true) true n f.type ((cs.drop f.offset).take (P.cellsOf f.type))=xs[i]?) (L0:Lay):
 ∃M cs',tO P W L0 M t cs cs' (.agg (xs.map (·.1)))/\oD W L0 M:=by
 let ss:=fs.toList.map λf=>P.cellsOf f.type
 let ps:kI (adH×kI vI×(DataW H×kI MemPlace)):=(fs.toList.zip xs).map λq=>(q.1.type,(cs.drop q.1.offset).take (P.cellsOf q.1.type),q.2)
 have hps:∀(j:Nat) p,ps[j]? =some p->∃f x,fs[j]? =some f/\xs[j]? =some x/\p=(f.type,(cs.drop f.offset).take (P.cellsOf f.type),x):=λj p hj=>by
  simp only[ps,dm,PN,kg]at hj;obtain⟨⟨f,x⟩,⟨h1,h2⟩,rfl⟩:=hj;exact⟨f,x,by rw[<- zN];exact h1,h2,rfl⟩
 have hoff:∀(j:Nat) f,fs[j]? =some f->(sums 0 ss)[j]? =some f.offset/\ss[j]? =some (P.cellsOf f.type):=λj f hj=>by
  have hj':fs.toList[j]? =some f:=by rw[zN];exact hj
  refine⟨?_,?_⟩
  .show(sums 0 (fs.toList.map λf=>P.cellsOf f.type))[j]? =_;rw[<- ho,dm,hj'];rfl
  .show(fs.toList.map λf=>P.cellsOf f.type)[j]? =_;rw[dm,hj'];rfl
 have hsum:cs.length=ss.sum:=hlen.trans hs;have hpl:ps.length=fs.size:=by
  simp only[ps,bY,List.length_zip,hxl,Array.length_toList,Nat.min_self]
 have hcut:ps.map (·.2.1)=cuts ss cs:=by
  apply iY;intro j;rw[dm];have hcl:(cuts ss cs).length=fs.size:=by
   exact tc
  cases e:ps[j]? with
  |none=>
   have:=XI.1 e;rw[fO z7];rfl
  |some p=>
   obtain⟨f,x,h1,h2,rfl⟩:=hps j p e;obtain⟨q1,q2⟩:=hoff j f h1;rw[(yV ss cs 0 j f.offset _ q1 q2).1];rfl
 obtain⟨M,css,k1,k2,k3⟩:=Mr ih ps (λp hp=>by
  obtain⟨j,hj⟩:=jS hp;obtain⟨f,x,h1,h2,rfl⟩:=hps j p hj;have hm:f∈fs.toList:=aZ (by rw[zN];exact h1:fs.toList[j]? =some f);exact⟨hf f hm,by rw[hx j f h1,h2]⟩) L0
 obtain⟨v1,v2,v3⟩:=RV hsum hcut k1 k2 (EG ss cs hsum);refine⟨M,css.flatten,⟨v1,v2,?_⟩,k3⟩;refine .struct ht (by rw[<- v1.length,hlen]) (by rw[bY,hxl]) ?_;intro j f d hj hd;rw[dm]at hd;cases ex:xs[j]? with
 |none=>rw[ex]at hd;cases hd
 |some x=>
  rw[ex]at hd;cases hd;obtain⟨q1,q2⟩:=hoff j f hj;have hg:=(yV ss css.flatten 0 j f.offset _ q1 q2).1;rw[v3,Dz]at hg;have fU:ps[j]? =some (f.type,(cs.drop f.offset).take (P.cellsOf f.type),x):=by
   have hj':fs.toList[j]? =some f:=by rw[zN];exact hj
   simp only[ps,dm,PN,kg];exact⟨(f,x),⟨hj',ex⟩,rfl⟩
  exact(k2 j _ _ fU hg).2.2
def Hr(s:Nat):∀(n o0 j:Nat),j<n->(sums o0 (List.replicate n s))[j]? =some (o0+j*s)/\(List.replicate n s)[j]? =some s
 |0,o0,j,h=>by omega
 |n+1,o0,0,h=>by simp[Gg,sums]
 |n+1,o0,j+1,h=>by
  obtain⟨h1,h2⟩:=Hr s n (o0+s) j z7;simp only[Gg,sums,qZ];refine⟨?_,h2⟩;rw[h1,Nat.succ_mul];congr 1;omega
def RX(ih:∀t cs x,K t->DataW.trod enc P W 0 (λ_=>true) true n t cs=some x->∀L0:Lay,∃M cs',tO P W L0 M t cs cs' x.1/\oD W L0 M)
 {e:adH} {m:Nat} {cs:kI vI} {xs:kI (DataW H×kI MemPlace)} (he:K e) (hlen:cs.length=m*P.cellsOf e) (hxl:xs.length=m)
 (hx:∀(i:Nat),i<m->DataW.trod enc P W 0 (λ_=>true) true n e ((cs.drop (i*P.cellsOf e)).take (P.cellsOf e))=xs[i]?) (L0:Lay):
 ∃(M:Lay) (cs':kI vI),aW (jY (L0++M)) cs' cs/\cs'.all cellV=true/\(∀(j:Nat) d,(xs.map (·.1))[j]? =some d->iw P (ku (L0++M)) e ((cs'.drop (j*P.cellsOf e)).take (P.cellsOf e)) d)/\oD W L0 M:=by
 let ss:=List.replicate m (P.cellsOf e)
 let ps:kI (adH×kI vI×(DataW H×kI MemPlace)):=(List.range m).zip xs|>.map λq=>(e,(cs.drop (q.1*P.cellsOf e)).take (P.cellsOf e),q.2)
 have hps:∀(j:Nat) p,ps[j]? =some p->∃x,j<m/\xs[j]? =some x/\p=(e,(cs.drop (j*P.cellsOf e)).take (P.cellsOf e),x):=λj p hj=>by
  simp only[ps,dm,PN,kg]at hj;obtain⟨⟨i,x⟩,⟨h1,h2⟩,rfl⟩:=hj;have hjm:j<m:=by rw[<- hxl];exact(bq.1 h2).1
  rw[pU hjm]at h1;cases h1;exact⟨x,hjm,h2,rfl⟩
 have hsum:cs.length=ss.sum:=by rw[hlen];simp[ss,List.sum_replicate_nat]
 have hcut:ps.map (·.2.1)=cuts ss cs:=by
  apply iY;intro j;rw[dm];have hcl:(cuts ss cs).length=m:=by
   exact tc
  cases ep:ps[j]? with
  |none=>
   have h1:=XI.1 ep;have h2:ps.length=m:=by simp only[ps,bY,List.length_zip,hxl,uu,Nat.min_self]
   rw[fO z7];rfl
  |some p=>
   obtain⟨x,h1,h2,rfl⟩:=hps j p ep;obtain⟨q1,q2⟩:=Hr (P.cellsOf e) m 0 j h1;rw[(yV ss cs 0 j _ _ q1 q2).1];simp
 obtain⟨M,css,k1,k2,k3⟩:=Mr ih ps (λp hp=>by
  obtain⟨j,hj⟩:=jS hp;obtain⟨x,h1,h2,rfl⟩:=hps j p hj;exact⟨he,by rw[hx j h1,h2]⟩) L0
 obtain⟨v1,v2,v3⟩:=RV hsum hcut k1 k2 (EG ss cs hsum);refine⟨M,css.flatten,v1,v2,?_,k3⟩;intro j d hd;rw[dm]at hd;cases ex:xs[j]? with
 |none=>rw[ex]at hd;cases hd
 |some x=>
  rw[ex]at hd;cases hd;have hjm:j<m:=by rw[<- hxl];exact(bq.1 ex).1
  obtain⟨q1,q2⟩:=Hr (P.cellsOf e) m 0 j hjm;have hg:=(yV ss css.flatten 0 j _ _ q1 q2).1;rw[v3,fo,Dz]at hg;have fU:ps[j]? =some (e,(cs.drop (j*P.cellsOf e)).take (P.cellsOf e),x):=by
   simp only[ps,dm,PN,kg];exact⟨(j,x),⟨pU hjm,ex⟩,rfl⟩
  exact(k2 j _ _ fU hg).2.2
def RY(hs:a.spot=none)(j:Nat):a.add j=⟨a.block,a.off+j,none⟩:=by
 obtain⟨ab,ao,sp⟩:=a;simp only at hs;subst hs;by_cases h:j=0
 .subst h;simp[Addr.add]
 .simp[Addr.add,h]
def cell_spot{v:vI}(h:W.cell? a=some v):a.spot=none/\∃c t fz,W.heap[a.block]? =some (.cells c t fz):=by
 unfold World.cell? at h;split at h
 .rename_i c t fz hb;split at h
  .cases h
  .rename_i hsp;refine⟨?_,c,t,fz,hb⟩;cases e:a.spot with
   |none=>rfl
   |some x=>rw[e]at hsp;exact absurd rfl hsp
 .cases h
def abr{s m:Nat}(hs:0<s)(h:∀i,i<m->∃c,W.cells? 0 (a.add (i*s)) s=some c):
 ∃cs:kI vI,cs.length=m*s/\(∀i,i<m->W.cells? 0 (a.add (i*s)) s=some ((cs.drop (i*s)).take s)):=by
 let css:=(List.range m).map λi=>(W.cells? 0 (a.add (i*s)) s).getD []
 have hget:∀i,i<m->∃c,W.cells? 0 (a.add (i*s)) s=some c/\css[i]? =some c/\c.length=s:=λi hi=>by
  obtain⟨c,hc⟩:=h i hi;refine⟨c,hc,?_,(Ms hc).1⟩;simp only[css,dm,pU hi,jT,hc,wQ]
 have hcl:css.length=m:=by simp[css]
 have hlen:css.map List.length=List.replicate m s:=by
  apply iY;intro j;by_cases hj:j<m
  .obtain⟨c,_,h2,h3⟩:=hget j hj;rw[dm,h2,PO,if_pos hj];simp[h3]
  .rw[fO CA,fO AI]
 refine⟨css.flatten,?_,λi hi=>?_⟩
 .rw[List.length_flatten,hlen,List.sum_replicate_nat]
 .obtain⟨c,h1,h2,_⟩:=hget i hi;obtain⟨q1,q2⟩:=Hr s m 0 i hi;have:=(yV _ css.flatten 0 i _ _ q1 q2).1;rw[Mo _ css hlen,h2,fo,Dz]at this;rw[h1,Option.some.inj this]
def RZ(hK:∀t,K t->PlainT P K t):∀(n:Nat) (t:adH) (cs:kI vI) (x:DataW H×kI MemPlace),K t->DataW.trod enc P W 0 (λ_=>true) true n t cs=some x->
 ∀L0:Lay,∃M cs',tO P W L0 M t cs cs' x.1/\oD W L0 M
 |0,t,cs,x,_,h,_=>by simp[DataW.trod]at h
 |n+1,t,cs,x,hT,h,L0=>by
  have ih:=RZ hK n;cases hK t hT with
  |bool ht=>
   obtain⟨b,rfl,rfl⟩:=DataW.trod_bool ht h;exact⟨[],[.bool b],⟨.cons (.bool b) .nil,rfl,.bool ht⟩,.nil⟩
  |int k ht=>
   obtain⟨m,rfl,rfl,hw⟩:=DataW.trod_int ht h;exact⟨[],[.int k m],⟨.cons (.int k m) .nil,rfl,.int ht hw⟩,.nil⟩
  |string ht=>
   obtain⟨s,rfl,rfl,hs⟩:=DataW.trod_string ht h;exact⟨[],[.string s],⟨.cons (.string s) .nil,rfl,.string ht hs⟩,.nil⟩
  |struct fs ht hf ho hs=>
   obtain⟨xs,m,hm,rfl,hl,hxl,hx⟩:=DataW.trod_struct ht h;cases hm;exact abq ih ht hf ho hs hl hxl hx L0
  |array m e ht he hs=>
   obtain⟨xs,k,hk,rfl,hl,hxl,hx⟩:=Go.DataW.trod_array ht h;cases hk;obtain⟨M,cs',v1,v2,v3,v4⟩:=RX ih he (hl.trans hs) hxl hx L0;exact⟨M,cs',⟨v1,v2,.array ht (by rw[<- v1.length,hl]) (by rw[bY,hxl]) v3⟩,v4⟩
  |slice e ht he hs=>
   rcases DataW.trod_slice ht h with⟨rfl,rfl⟩|⟨a,len,cap,elems,rest,k,hk,rfl,rfl,_,hlc,hcm,hel,hes,hsp,_⟩
   .exact⟨[],[.slice none 0 0],⟨.cons (.sl0 0 0) .nil,rfl,.nil ht⟩,.nil⟩
   cases hk;obtain⟨hrl,hrs⟩:=hsp rfl;have hcells:∀i,i<len->∃c y,W.cells? 0 (a.add (i*P.cellsOf e)) (P.cellsOf e)=some c/\elems[i]? =some y/\DataW.trod enc P W 0 (λ_=>true) true n e c=some y:=λi hi=>by
    have h1:=hes i hi;have hi':i<elems.length:=z7
    rw[bP hi',Option.bind_eq_some_iff]at h1;obtain⟨c,h2,h3⟩:=h1;exact⟨c,_,h2,bP hi',h3⟩
   obtain⟨wcs,hwl,hwc⟩:=abr (W:=W) (a:=a) (m:=len) hs (λi hi=>let⟨c,_,h1,_⟩:=hcells i hi;⟨c,h1⟩);obtain⟨M,cs',v1,v2,v3,v4⟩:=RX ih (cs:=wcs) (xs:=elems) he hwl hel (λi hi=>by
    obtain⟨c,y,h1,h2,h3⟩:=hcells i hi;rw[hwc i hi]at h1;rw[Option.some.inj h1,h3,h2]) L0
   have xI:0<cap->∃v,W.cell? a=some v:=λhc=>by
    have key:∀c,W.cells? 0 (a.add (0*P.cellsOf e)) (P.cellsOf e)=some c->∃v,W.cell? a=some v:=λc h1=>by
     rw[Gh]at h1;have h0:a.add 0=a:=by simp[Addr.add]
     rw[h0]at h1;obtain⟨q1,q2⟩:=Ms h1;have hc0:0<c.length:=z7
     have:=q2 0 c[0] (bP hc0);rw[h0]at this;exact⟨_,this⟩
    by_cases hl0:0<len
    .obtain⟨c,_,h1,_⟩:=hcells 0 hl0;exact key c h1
    .have h1:=hrs 0 z7;have hr0:0<rest.length:=by omega
     rw[bP hr0,Option.bind_eq_some_iff]at h1;obtain⟨c,h2,_⟩:=h1;have hz:len+0=0:=z7
     rw[hz]at h2;exact key c h2
   let g:iJ:=⟨a.block,a.off,len*P.cellsOf e,0,0⟩
   let en:x8 iJ×x8 (kI vI):=(some g,if len=0 then none else some cs')
   have hidx:(L0++(M++[en]))[(L0++M).length]? =some en:=by
    rw[<- List.append_assoc,pR (bT _)];simp
   have rF:VR (jY (L0++(M++[en]))) (.slice (some ⟨(L0++M).length,0,some 0⟩) len cap) (.slice (some a) len cap):=by
    refine .ak (g:=g) ?_ rfl hlc ?_
    .unfold jY;rw[hidx];rfl
    .by_cases hc:cap=0
     .exact .inl hc
     .obtain⟨v,hv⟩:=xI z7;exact .inr ⟨rfl,(cell_spot hv).1⟩
   refine⟨M++[en],[.slice (some ⟨(L0++M).length,0,some 0⟩) len cap],⟨.cons rF .nil,rfl,?_⟩,?_⟩
   .refine .slice ht ⟨hlc,hcm⟩ (by rw[bY,hel]) (cells:=cs') ?_ ?_
    .by_cases hl0:len=0
     .exact .inl hl0
     .right;refine abk (g:=some g) ?_;rw[hidx];simp only[en,if_neg hl0]
    .intro j d hj;have:=v3 j d hj;rw[<- List.append_assoc];exact this.mono λi cs hc=>Mq hc
   .refine v4.app ?_;intro i g' c hi hget;have hi2:i=(L0++M).length:=by
     have:=(bq.1 hget).1;rw[iH]at this;simp at this hi⊢;omega
    subst hi2;rw[List.append_assoc,hidx]at hget;simp only[en,aD,di]at hget;obtain⟨rfl,hc⟩:=hget;split at hc
    .cases hc
    .rename_i hl0;cases hc;obtain⟨v0,hv0⟩:=xI z7;obtain⟨hspot,hblk⟩:=cell_spot hv0;refine⟨let⟨c,t,fz,e⟩:=hblk;⟨c,t,fz,e,.inl rfl⟩,rfl,v2,λj v hj=>?_⟩;obtain⟨v',hj',hv⟩:=v1.get hj;refine⟨v',?_,hv.mono (Hq _ _)⟩;show W.cell? ⟨a.block,a.off+j,none⟩=some v';have hjl:j<len*P.cellsOf e:=by rw[<- hwl];exact(bq.1 hj').1
     have hq:j/P.cellsOf e<len:=(anE hs).2 hjl;have hm:=zO j hs;have yX:=Nat.div_add_mod j (P.cellsOf e);have hcell:=(Ms (hwc _ hq)).2 (j%P.cellsOf e) v' (by
      rw[sK,if_pos hm,oO,<- hj'];congr 1;rw[alG];exact yX)
     rw[RY hspot]at hcell;rw[RY rfl]at hcell;simp only at hcell;rw[<- hcell];congr 2;rw[qw,alG,yX]
end
end Go.Ideal
namespace Go.Ideal
open Go.ChangeShapes Go.WideShapes Go.ChangeAt Go.RowKit
def R3(P:Program)(ts:kI adH):Bool:=ts.all λt=>match P.underlying t with
 |some .bool=>true
 |some (.int _)=>true
 |some .string=>true
 |some (.slice e)=>ts.contains e&&Nat.blt 0 (P.cellsOf e)
 |some (.struct fs)=>fs.toList.all (λf=>ts.contains f.type)&&(fs.toList.map (·.offset)==sums 0 (fs.toList.map λf=>P.cellsOf f.type))&&P.cellsOf t==(fs.toList.map λf=>P.cellsOf f.type).sum
 |some (.array n e)=>ts.contains e&&P.cellsOf t==n*P.cellsOf e
 |_=>false
def R4{P:Program}{ts:kI adH}(h:R3 P ts=true):∀t,t∈ts->PlainT P (·∈ts) t:=λt ht=>by
 unfold R3 at h;rw[lK]at h;have h:=h t ht;split at h
 .rename_i hu;exact .bool hu
 .rename_i k hu;exact .int k hu
 .rename_i hu;exact .string hu
 .rename_i e hu;simp only[afD]at h;exact .slice e hu (Gf.1 h.1) (Co h.2)
 .rename_i fs hu;simp only[afD,lK,beq_iff_eq]at h;exact .struct fs hu (λf hf=>Gf.1 (h.1.1 f hf)) h.1.2 h.2
 .rename_i n e hu;simp only[afD,beq_iff_eq]at h;exact .array n e hu (Gf.1 h.1) h.2
 .cases h
section
variable {H:Type} {enc:adH×vI->H} {P:Program} {W:World} {K:adH->Prop}
def yY(P:Program)(h:IH)(t:adH)(v:vI)(d:DataW H):Prop:=
 ∃cs,iw P h t cs d/\cs.all cellV=true/\(cs=[v]\/v=.agg ⟨cs⟩)
def yY.app{L M:Lay}{t:adH}{v:vI}{d:DataW H}(r:yY P (ku L) t v d):yY P (ku (L++M)) t v d:=by
 obtain⟨cs,h1,h2,h3⟩:=r;exact⟨cs,h1.mono λi cs hc=>Mq hc,h2,h3⟩
def abu(hK:∀t,K t->PlainT P K t){t:adH}{v:vI}{d:DataW H}{p:kI MemPlace}(hT:K t)(hok:Value.okWide P W .any 0 t v)(h:DataW.Trod enc P W 0 (λ_=>true) true t v d p)(L0:Lay):
 ∃M v',VR (jY (L0++M)) v' v/\yY P (ku (L0++M)) t v' d/\oD W L0 M:=by
 obtain⟨n,hn⟩:=h;obtain⟨M,cs',⟨h1,h2,h3⟩,h4⟩:=RZ hK n t _ _ hT hn L0;have agg:∀cs,v=.agg cs->∃M v',VR (jY (L0++M)) v' v/\yY P (ku (L0++M)) t v' d/\oD W L0 M:=λcs e=>by
  subst e;obtain⟨l⟩:=cs;exact⟨M,.agg ⟨cs'⟩,.agg h2 h1,⟨cs',h3,h2,.inr rfl⟩,h4⟩
 have one:v.cells= #[v]->∃M v',VR (jY (L0++M)) v' v/\yY P (ku (L0++M)) t v' d/\oD W L0 M:=λe=>by
  rw[e]at h1;match cs',h1,h2,h3 with
  |[v'],.cons h1 .nil,h2,h3=>exact⟨M,v',h1,⟨[v'],h3,h2,.inl rfl⟩,h4⟩
 cases hv:v with
 |agg cs=>rw[<- hv];exact agg cs hv
 |_=>rw[<- hv];exact one (by rw[hv];rfl)
def R5(hK:∀t,K t->PlainT P K t):∀{ts:kI adH} {vs:kI vI} {ds:kI (DataW H)} {ps:kI MemPlace},(∀t∈ts,K t)->(∀(j:Nat) t v,ts[j]? =some t->vs[j]? =some v->Value.okWide P W .any 0 t v)->
 DataW.TrodAll enc P W 0 (λ_=>true) true ts vs ds ps->∀L0:Lay,∃(M:Lay) (vs':kI vI),aW (jY (L0++M)) vs' vs/\
  (∀(j:Nat) t v d,ts[j]? =some t->vs'[j]? =some v->ds[j]? =some d->yY P (ku (L0++M)) t v d)/\oD W L0 M
 |[],[],[],_,_,_,_,L0=>⟨[],[],.nil,(λj t v d h=>by cases h),.nil⟩
 |t::ts,v::vs,d::ds,_,hT,hok,⟨p,q,h1,h2,_⟩,L0=>by
  obtain⟨M1,v',a1,a2,a3⟩:=abu hK (hT t (cB ..)) (hok 0 t v rfl rfl) h1 L0;obtain⟨M2,vs',b1,b2,b3⟩:=R5 hK (λt ht=>hT t (cO _ ht)) (λj t v hj hv=>hok (j+1) t v hj hv) h2 (L0++M1);rw[List.append_assoc]at b1 b2;refine⟨M1++M2,v'::vs',.cons ?_ b1,?_,a3.app b3⟩
  .rw[<- List.append_assoc];exact a1.mono (Hq _ _)
  .intro j t' w d' hj hw hd;cases j with
   |zero=>
    simp only[zQ,aD]at hj hw hd;subst hj hw hd;rw[<- List.append_assoc];exact a2.app
   |succ j=>exact b2 j t' w d' hj hw hd
end
section
variable {H:Type} {P:Program} {h:IH} {t e:adH} {cs:kI vI} {d:DataW H}
def iw.mo{k:IntKind}(ht:P.underlying t=some (.int k))(r:iw P h t cs d):∃n,cs=[.int k n]/\d=.lit (.int k n)/\(Lit.int k n).wf=true:=by
 cases r with
 |int ht' hw=>rw[ht]at ht';cases ht';exact⟨_,rfl,rfl,hw⟩
 |bool ht'=>rw[ht]at ht';cases ht'
 |string ht'=>rw[ht]at ht';cases ht'
 |nil ht'=>rw[ht]at ht';cases ht'
 |slice ht'=>rw[ht]at ht';cases ht'
 |struct ht'=>rw[ht]at ht';cases ht'
 |array ht'=>rw[ht]at ht';cases ht'
def iw.GJ(ht:P.underlying t=some .bool)(r:iw P h t cs d):∃b,cs=[.bool b]/\d=.lit (.bool b):=by
 cases r with
 |bool ht'=>exact⟨_,rfl,rfl⟩
 |int ht' hw=>rw[ht]at ht';cases ht'
 |string ht'=>rw[ht]at ht';cases ht'
 |nil ht'=>rw[ht]at ht';cases ht'
 |slice ht'=>rw[ht]at ht';cases ht'
 |struct ht'=>rw[ht]at ht';cases ht'
 |array ht'=>rw[ht]at ht';cases ht'
def iw.Ai(ht:P.underlying t=some .string)(r:iw P h t cs d):∃s:ByteArray,cs=[.string s]/\d=.lit (.string s.data.toList)/\s.size<=maxLen:=by
 cases r with
 |string ht' hs=>exact⟨_,rfl,rfl,hs⟩
 |bool ht'=>rw[ht]at ht';cases ht'
 |int ht' hw=>rw[ht]at ht';cases ht'
 |nil ht'=>rw[ht]at ht';cases ht'
 |slice ht'=>rw[ht]at ht';cases ht'
 |struct ht'=>rw[ht]at ht';cases ht'
 |array ht'=>rw[ht]at ht';cases ht'
def iw.nT(ht:P.underlying t=some (.slice e))(r:iw P h t cs d):
 (cs=[.slice none 0 0]/\d=.nil)\/∃i n c cells els rest,cs=[.slice (some ⟨i,0,some 0⟩) n c]/\d=.slice els rest/\(n<=c/\c<=maxLen)/\els.length=n/\(n=0\/Cells h i cells)/\
   ∀(k:Nat) d,els[k]? =some d->iw P h e ((cells.drop (k*P.cellsOf e)).take (P.cellsOf e)) d:=by
 cases r with
 |nil ht'=>exact .inl ⟨rfl,rfl⟩
 |slice ht' hn hl hc hel=>rw[ht]at ht';cases ht';exact .inr ⟨_,_,_,_,_,_,rfl,rfl,hn,hl,hc,hel⟩
 |string ht'=>rw[ht]at ht';cases ht'
 |bool ht'=>rw[ht]at ht';cases ht'
 |int ht' hw=>rw[ht]at ht';cases ht'
 |struct ht'=>rw[ht]at ht';cases ht'
 |array ht'=>rw[ht]at ht';cases ht'
def iw.R6{fs:Array Field}(ht:P.underlying t=some (.struct fs))(r:iw P h t cs d):
 ∃ds,d=.agg ds/\cs.length=P.cellsOf t/\ds.length=fs.size/\∀(j:Nat) f d,fs[j]? =some f->ds[j]? =some d->iw P h f.type ((cs.drop f.offset).take (P.cellsOf f.type)) d:=by
 cases r with
 |struct ht' hl hd hf=>rw[ht]at ht';cases ht';exact⟨_,rfl,hl,hd,hf⟩
 |array ht'=>rw[ht]at ht';cases ht'
 |nil ht'=>rw[ht]at ht';cases ht'
 |slice ht'=>rw[ht]at ht';cases ht'
 |string ht'=>rw[ht]at ht';cases ht'
 |bool ht'=>rw[ht]at ht';cases ht'
 |int ht' hw=>rw[ht]at ht';cases ht'
def Mt:DataW H->Int
 | .lit (.int _ n)=>n
 |_=>0
def iw.ints{v:vI}(ht:P.underlying t=some (.slice e))(he:P.underlying e=some (.int .i64))(hc:P.cellsOf e=1)(r:iw P h t [v] d):∃xs,xG h v xs/\∀x∈xs, -9223372036854775808<=x/\x<9223372036854775808:=by
 rcases r.nT ht with⟨e1,_⟩|⟨i,n,c,cells,els,rest,e1,_,hn,hl,hcl,hel⟩
 .injection e1 with e1;exact⟨[],.inl ⟨rfl,none,0,0,e1,rfl⟩,An⟩
 .injection e1 with e1;subst e1;have each:∀(k:Nat) d,els[k]? =some d->cells[k]? =some (.int .i64 (Mt d))/\(Lit.int .i64 (Mt d)).wf=true:=λk d hk=>by
   have:=hel k d hk;rw[hc,uw]at this;obtain⟨m,h1,h2,h3⟩:=this.mo he;subst h2;refine⟨?_,h3⟩;have h4:((cells.drop k).take 1)[0]? =some (.int .i64 m):=by rw[h1];rfl
   rw[sK,if_pos z7,oO]at h4;exact h4
  refine⟨els.map Mt,?_,?_⟩
  .rcases hcl with h0|hcl
   .left;refine⟨?_,_,_,_,rfl,h0⟩;have:els=[]:=jy.1 z7;rw[this];rfl
   .right;refine⟨i,0,0,c,cells,by rw[bY,hl],hcl,λk x hk=>?_⟩;rw[dm]at hk;cases ek:els[k]? with
    |none=>rw[ek]at hk;cases hk
    |some d=>
     rw[ek]at hk;cases hk;rw[fo];exact(each k d ek).1
  .intro x hx;obtain⟨d,hd,rfl⟩:=eT.1 hx;obtain⟨k,hk⟩:=jS hd;have:=(each k d hk).2;simp only[Lit.wf,IntKind.min,IntKind.max,IntKind.signed,IntKind.bits,afD,wP]at this;simp at this;omega
end
end Go.Ideal
namespace Canon
structure EH{α:Type}(c:α->α->Int):Prop where
 zero:∀a b,c a b=0↔a=b
 neg:∀a b,c a b<0↔0<c b a
 trans:∀a b d,c a b<0->c b d<0->c a d<0
def eU(a b:Int):Int:=if a<b then -1 else if b<a then 1 else 0
def xJ:EH eU where
 zero a b:=by unfold eU;split<;>(try split)<;>omega
 neg a b:=by unfold eU;split<;>(try split)<;>(try split)<;>(try split)<;>omega
 trans a b d h1 h2:=by
  unfold eU at h1 h2⊢;split at h1<;>(try split at h1)<;>split at h2<;>(try split at h2)<;>first|omega|(rw[if_pos z7];omega)
def fK{α:Type}(c:α->α->Int):kI α->kI α->Int
 |[],[]=>0
 |[],_::_=> -1
 |_::_,[]=>1
 |a::l,b::m=>if c a b≠0 then c a b else fK c l m
def xK{α:Type}{c:α->α->Int}(h:EH c):EH (fK c) where
 zero:=by
  intro a;induction a with
  |nil=>intro b;cases b<;>simp[fK]
  |cons x l ih=>
   intro b;cases b with
   |nil=>simp[fK]
   |cons y m=>
    simp only[fK];by_cases e:c x y=0
    .rw[if_neg A3,ih m];have:=(h.zero x y).1 e;subst this;simp
    .rw[if_pos e];constructor
     .intro q;exact absurd q e
     .intro q;injection q with q1 q2;exact absurd ((h.zero x y).2 q1) e
 neg:=by
  intro a;induction a with
  |nil=>intro b;cases b<;>simp[fK]
  |cons x l ih=>
   intro b;cases b with
   |nil=>simp[fK]
   |cons y m=>
    simp only[fK];by_cases e:c x y=0
    .have e2:=(h.zero x y).1 e;subst e2;rw[if_neg A3,if_neg A3];exact ih m
    .have e2:c y x≠0:=λq=>e ((h.zero x y).2 ((h.zero y x).1 q).symm);rw[if_pos e,if_pos e2];exact h.neg x y
 trans:=by
  intro a;induction a with
  |nil=>
   intro b d h1 h2;cases b with
   |nil=>simp[fK]at h1
   |cons y m=>cases d with
    |nil=>simp[fK]at h2
    |cons z n=>simp[fK]
  |cons x l ih=>
   intro b d h1 h2;cases b with
   |nil=>simp[fK]at h1
   |cons y m=>cases d with
    |nil=>simp[fK]at h2
    |cons z n=>
     simp only[fK]at h1 h2⊢;by_cases e1:c x y=0
     .have:=(h.zero x y).1 e1;subst this;rw[if_neg (by simpa using e1)]at h1;by_cases e2:c x z=0
      .rw[if_neg (by simpa using e2)]at h2⊢;exact ih m n h1 h2
      .rw[if_pos e2]at h2⊢;exact h2
     .rw[if_pos e1]at h1;by_cases e2:c y z=0
      .have:=(h.zero y z).1 e2;subst this;rw[if_pos e1];exact h1
      .rw[if_pos e2]at h2;have:=h.trans x y z h1 h2;rw[if_pos z7];exact this
structure Clue where
 adJ:Int
 at_:Int
 values:List Int
instance:DecidableEq Clue:=λa b=>decidable_of_iff (a.adJ=b.adJ/\a.at_=b.at_/\a.values=b.values) (by cases a;cases b;simp)
def nW(a b:Clue):Int:=if eU a.adJ b.adJ≠0 then eU a.adJ b.adJ else if eU a.at_ b.at_≠0 then eU a.at_ b.at_ else fK eU a.values b.values
def abv(a b:Clue):nW a b=if fK eU [a.adJ,a.at_] [b.adJ,b.at_]≠0 then fK eU [a.adJ,a.at_] [b.adJ,b.at_]else fK eU a.values b.values:=by
 simp only[nW,fK];by_cases h1:eU a.adJ b.adJ=0
 .by_cases h2:eU a.at_ b.at_=0
  .simp[h1,h2]
  .simp[h1,h2]
 .simp[h1]
def Ht(a b:Clue):nW a b=fK eU (a.adJ::a.at_::a.values) (b.adJ::b.at_::b.values):=by
 simp only[nW,fK]
def R7:EH nW where
 zero a b:=by
  rw[Ht,(xK xJ).zero];obtain⟨c,p,v⟩:=a;obtain⟨d,q,w⟩:=b;simp
 neg a b:=by rw[Ht,Ht];exact(xK xJ).neg _ _
 trans a b d h1 h2:=by rw[Ht]at h1 h2⊢;exact(xK xJ).trans _ _ _ h1 h2
abbrev qG:=fK nW
def Hu:EH qG:=xK R7
end Canon
namespace Go.Ideal
open Canon (Clue)
def AA(h:IH)(v:vI)(l:kI Clue):Prop:=
 (l=[]/\∃a m c,v=.slice a m c/\m=0)\/
 ∃i o f c cells,v=.slice (some ⟨i,o,some f⟩) l.length c/\Cells h i cells/\∀(k:Nat) g,l[k]? =some g->
  ∃vv,cells[o+k*3]? =some (.int .i64 g.adJ)/\cells[o+k*3+1]? =some (.int .i64 g.at_)/\cells[o+k*3+2]? =some vv/\xG h vv g.values
variable{h:IH}{v:vI}{l:kI Clue}
def AA.agree{h':IH}(a:AA h v l)(g:Agree h h'):AA h' v l:=by
 rcases a with h1|⟨i,o,f,c,cs,h1,h2,h3⟩
 .exact .inl h1
 .refine .inr ⟨i,o,f,c,cs,h1,h2.agree g,λk x hk=>?_⟩;obtain⟨vv,q1,q2,q3,q4⟩:=h3 k x hk;exact⟨vv,q1,q2,q3,q4.agree g⟩
def AA.form(a:AA h v l):∃b c,v=.slice b l.length c:=by
 exact pP
section
variable {H:Type} {P:Program} {h:IH} {t e u z:adH} {d:DataW H}
variable{v:vI}
def iw.aJ{f0 f1 f2:Field}(ht:P.underlying t=some (.slice e))(he:P.underlying e=some (.struct #[f0,f1,f2]))(hf0:f0.type=z/\f0.offset=0)(hf1:f1.type=z/\f1.offset=1)
 (hf2:f2.type=u/\f2.offset=2) (hz:P.underlying z=some (.int .i64)) (hcz:P.cellsOf z=1) (hu:P.underlying u=some (.slice z)) (hcu:P.cellsOf u=1) (hce:P.cellsOf e=3)
 (r:iw P h t [v] d):∃l,AA h v l:=by
 rcases r.nT ht with⟨e1,_⟩|⟨i,n,c,cells,els,rest,e1,_,hn,hl,hcl,hel⟩
 .injection e1 with e1;exact⟨[],.inl ⟨rfl,none,0,0,e1,rfl⟩⟩
 .injection e1 with e1;subst e1;have each:∀(k:Nat) d,els[k]? =some d->∃g:Clue,∃vv,cells[k*3]? =some (.int .i64 g.adJ)/\cells[k*3+1]? =some (.int .i64 g.at_)/\cells[k*3+2]? =some vv/\xG h vv g.values:=λk d hk=>by
   have r1:=hel k d hk;rw[hce]at r1;obtain⟨ds,rfl,hlen,hdl,hf⟩:=r1.R6 he;match ds,hdl with
   |[d0,d1,d2],_=>
    have a0:=hf 0 f0 d0 rfl rfl;have a1:=hf 1 f1 d1 rfl rfl;have a2:=hf 2 f2 d2 rfl rfl;rw[hf0.1,hf0.2,hcz]at a0;rw[hf1.1,hf1.2,hcz]at a1;rw[hf2.1,hf2.2,hcu]at a2;rw[hce]at hlen;match hrow:(cells.drop (k*3)).take 3,hlen with
    |[x,y,w],_=>
     rw[hrow]at a0 a1 a2;obtain⟨m0,b0,_,_⟩:=a0.mo hz;obtain⟨m1,b1,_,_⟩:=a1.mo hz;obtain⟨xs,b2,_⟩:=iw.ints (v:=w) hu hz hcz a2;injection b0 with b0;injection b1 with b1;have hg:∀j,j<3->cells[k*3+j]? =[x,y,w][j]?:=λj hj=>by
      rw[<- hrow,sK,if_pos hj,oO]
     refine⟨⟨m0,m1,xs⟩,w,?_,?_,?_,b2⟩
     .have:=hg 0 z7;rw[<- b0];exact this
     .have:=hg 1 z7;rw[<- b1];exact this
     .exact hg 2 z7
  have build:∀m,m<=els.length->∃l:kI Clue,l.length=m/\∀(k:Nat) g,l[k]? =some g->∃vv,cells[k*3]? =some (.int .i64 g.adJ)/\cells[k*3+1]? =some (.int .i64 g.at_)/\cells[k*3+2]? =some vv/\xG h vv g.values:=by
   intro m;induction m with
   |zero=>intro _;exact⟨[],rfl,λk g hk=>by cases hk⟩
   |succ m ih=>
    intro hm;obtain⟨l,q1,q2⟩:=ih z7;obtain⟨g,vv,q3⟩:=each m els[m] (bP z7);refine⟨l++[g],by simp[q1],λk g' hk=>?_⟩;by_cases hkm:k<l.length
    .rw[qp hkm]at hk;exact q2 k g' hk
    .rw[pR z7]at hk;have hk0:k - l.length=0:=by
      have:=(bq.1 hk).1;simp at this;omega
     rw[hk0]at hk;simp only[zQ,aD]at hk;subst hk;have:k=m:=z7
     subst this;exact⟨vv,q3⟩
  obtain⟨l,q1,q2⟩:=build els.length (bT _);refine⟨l,?_⟩;rcases hcl with h0|hcl
  .left;exact⟨jy.1 z7,_,_,_,rfl,h0⟩
  .right;refine⟨i,0,0,c,cells,by rw[q1,hl],hcl,λk g hk=>?_⟩;simpa using q2 k g hk
def Mv(h:IH)(v:vI)(l:kI Clue):Prop:=∃w,v=.agg ⟨[w]⟩/\AA h w l
def Mv.agree{h h':IH}{l:kI Clue}(a:Mv h v l)(g:Agree h h'):Mv h' v l:=by
 obtain⟨w,e,k⟩:=a;exact⟨w,e,k.agree g⟩
end
end Go.Ideal
namespace Go.Ideal
variable {P:Program}
structure Wd where
 h:IH
 z:Nat->Prop
 nJ:∀i,z i->i<h.next
structure Wd.Le(w w':Wd):Prop where
 next:w.h.next<=w'.h.next
 z:∀i,w.z i->w'.z i
 get:∀i,w.z i->w'.h.get i=w.h.get i
def Wd.Le.refl(w:Wd):w.Le w:=⟨bT _,λ_ h=>h,λ_ _=>rfl⟩
variable{w w':Wd}
def Wd.Le.trans{w'':Wd}(a:w.Le w')(b:w'.Le w''):w.Le w'':=
 ⟨pQ a.next b.next,λi h=>b.z i (a.z i h),λi h=>(b.get i (a.z i h)).trans (a.get i h)⟩
structure aO where
 p:Wd->Prop
 mono:∀{w w':Wd},w.Le w'->p w->p w'
def Fz(w:Wd)(b:Nat)(cs:kI vI):Prop:=w.z b/\(w.h.get b=some (.cells cs)\/w.h.get b=some (.jl cs))
def Fz.mono(a:w.Le w'){b:Nat}{cs:kI vI}(h:Fz w b cs):Fz w' b cs:=⟨a.z b h.1,by rw[a.get b h.1];exact h.2⟩
def Fz.cells{b:Nat}{cs:kI vI}(h:Fz w b cs):Cells w.h b cs:=⟨w.nJ b h.1,h.2⟩
def gY(b o:Nat)(cs:kI vI):aO:=
 ⟨λw=>∃cells,Fz w b cells/\∀(j:Nat) u,cs[j]? =some u->cells[o+j]? =some u,λa ⟨cells,h1,h2⟩=>⟨cells,h1.mono a,h2⟩⟩
structure Enc(α:Type) where
 n:Nat
 Y:Type
 pat:α->Y->List Value
 fs:α->Y->List aO
 len:∀a y,(pat a y).length=n
def Mw(n:Nat):x8 Addr->Prop
 |none=>True
 |some ⟨_,_,some f⟩=>f=0\/f=n
 |some ⟨_,_,none⟩=>False
def ai{α:Type}(E:Enc α)(v:vI)(xs:kI α):aO:=
 ⟨λw=>(xs=[]/\∃a c,v=.slice a 0 c/\Mw E.n a)\/∃i o f c cells,(v=.slice (some ⟨i,o,some f⟩) xs.length c/\xs.length<=c/\(f=0\/f=E.n))/\Fz w i cells/\
  ∀(k:Nat) x,xs[k]? =some x->∃y,(∀(j:Nat) u,(E.pat x y)[j]? =some u->cells[o+k*E.n+j]? =some u)/\∀f∈E.fs x y,f.p w,
  λa h=>by
   rcases h with h|⟨i,o,f,c,cells,h1,h2,h3⟩
   .exact .inl h
   .refine .inr ⟨i,o,f,c,cells,h1,h2.mono a,λk x hk=>?_⟩;obtain⟨y,q1,q2⟩:=h3 k x hk;exact⟨y,q1,λf hf=>f.mono a (q2 f hf)⟩⟩
def ae:Enc Int:=⟨1,Unit,λx _=>[.int .i64 x],λ_ _=>[],λ_ _=>rfl⟩
def R8:Enc Bool:=⟨1,Unit,λx _=>[.bool x],λ_ _=>[],λ_ _=>rfl⟩
def bC:Enc ByteArray:=⟨1,Unit,λx _=>[.string x],λ_ _=>[],λ_ _=>rfl⟩
def ak{α:Type}(E:Enc α):Enc (kI α):=⟨1,vI,λ_ v=>[v],λxs v=>[ai E v xs],λ_ _=>rfl⟩
structure OA where
 p:Wd->List Nat->Prop
 loc:∀{w w':Wd} {S:List Nat},w.Le w'->(∀i∈S,w'.h.get i=w.h.get i)->p w S->p w' S
def pt(b:Nat)(o:dN):OA:=⟨λw S=>S=[b]/\w.h.get b=some o,λa h ⟨h1,h2⟩=>⟨h1,by rw[h b BT];exact h2⟩⟩
def ap{α:Type}(E:Enc α)(v:vI)(xs:kI α):OA:=
 ⟨λw S=>(xs=[]/\v=.slice none 0 0/\S=[])\/∃b o f cells,v=.slice (some ⟨b,o,some f⟩) xs.length xs.length/\(f=0\/f=E.n)/\S=[b]/\w.h.get b=some (.cells cells)/\cells.length=o+xs.length*E.n/\
  ∀(k:Nat) x,xs[k]? =some x->∃y,(∀(j:Nat) u,(E.pat x y)[j]? =some u->cells[o+k*E.n+j]? =some u)/\∀f∈E.fs x y,f.p w,
  λa h hp=>by
   rcases hp with hp|⟨b,o,f,cells,h1,h2,h3,h4,h5,h6⟩
   .exact .inl hp
   .refine .inr ⟨b,o,f,cells,h1,h2,h3,by rw[h b DE];exact h4,h5,λk x hk=>?_⟩;obtain⟨y,q1,q2⟩:=h6 k x hk;exact⟨y,q1,λf hf=>f.mono a (q2 f hf)⟩⟩
def fI(w:Wd):kI OA->kI Nat->Prop
 |[],S=>S=[]
 |A::kl,S=>∃S1 S2,A.p w S1/\fI w kl S2/\S=S1++S2
def fI.loc{w w':Wd}(a:w.Le w'):∀{kl:kI OA} {S:kI Nat},(∀i∈S,w'.h.get i=w.h.get i)->fI w kl S->fI w' kl S
 |[],S,_,h=>h
 |A::kl,S,hs,⟨S1,S2,h1,h2,e⟩=>⟨S1,S2,A.loc a (λi hi=>hs i (by rw[e];exact je _ hi)) h1,fI.loc a (λi hi=>hs i (by rw[e];exact nA _ hi)) h2,e⟩
def fI.app:∀{k1 k2:kI OA} {S1 S2:kI Nat},fI w k1 S1->fI w k2 S2->fI w (k1++k2) (S1++S2)
 |[],k2,S1,S2,h1,h2=>by
  have h1:S1=[]:=h1;subst h1;exact h2
 |A::k1,k2,_,S2,⟨T1,T2,q1,q2,e⟩,h2=>⟨T1,T2++S2,q1,q2.app h2,by rw[e,List.append_assoc]⟩
inductive az{α:Type}(A:α):List α->List α->Prop
 |here {l:List α}:az A (A::l) l
 |there {C:α} {l l':List α} (h:az A l l'):az A (C::l) (C::l')
inductive aI{α:Type}:List α->List α->List α->Prop
 |nil {l:List α}:aI [] l l
 |cons {A:α} {k l l' l'':List α} (h:az A l l') (h2:aI k l' l''):aI (A::k) l l''
def az.app{α:Type}{A:α}{l l':kI α}(h:az A l l'):∀k:kI α,az A (k++l) (k++l')
 |[]=>h
 |_::k=>.there (az.app h k)
def aI.self{α:Type}:∀k r:kI α,aI k (k++r) r
 |[],_=>.nil
 |_::k,r=>.cons .here (aI.self k r)
variable{α:Type}
def aI.all(k:kI α):aI k k []:=by
 have:=aI.self k []
 rwa [gU]at this
def aI.there{k l l':kI α}(A:α)(h:aI k l l'):aI k (A::l) (A::l'):=by
 exact tg
def fI.gq{w:Wd}{A:OA}:∀{kl kl':kI OA} {S:kI Nat},az A kl kl'->fI w kl S->∃S',fI w (A::kl') S'/\S.Perm S'
 |_,_,S,.here,h=>⟨S,h,.refl _⟩
 |_,_,_,.there s,⟨S1,S2,h1,h2,e⟩=>by
  obtain⟨S',⟨T1,T2,q1,q2,e'⟩,hp⟩:=fI.gq s h2;subst e e';refine⟨T1++(S1++T2),⟨T1,_,q1,⟨S1,T2,h1,q2,rfl⟩,rfl⟩,?_⟩;have:(S1++S2).Perm (S1++(T1++T2)):=hp.append_left S1;refine this.trans ?_;exact pB
def fI.kv{w:Wd}:∀{k kl kl':kI OA} {S:kI Nat},aI k kl kl'->fI w kl S->∃S1 S2,fI w k S1/\fI w kl' S2/\S.Perm (S1++S2)
 |_,_,_,S,.nil,h=>⟨[],S,rfl,h,.refl _⟩
 |_,_,_,S,.cons s r,h=>by
  obtain⟨S',⟨T1,T2,q1,q2,e⟩,hp⟩:=h.gq s;obtain⟨U1,U2,u1,u2,hu⟩:=fI.kv r q2;subst e;exact⟨T1++U1,U2,⟨T1,U1,q1,u1,rfl⟩,u2,hp.trans (by rw[List.append_assoc];exact hu.append_left T1)⟩
inductive Sub{α:Type}:List α->List α->Prop
 |nil {l:List α}:Sub [] l
 |cons {a:α} {k l:List α} (h:a∈l) (h2:Sub k l):Sub (a::k) l
def Sub.mem:∀{k l:kI α},Sub k l->∀x∈k,x∈l
 |_,_,.nil,x,hx=>by cases hx
 |_,_,.cons h h2,x,hx=>by
  cases hx with
  |head=>exact h
  |tail _ hx=>exact h2.mem x hx
structure abx(B:List Nat)(h h':IH):Prop where
 next:h.next<=h'.next
 get:∀i,i<h.next->i∉B->h'.get i=h.get i
 low:h.low<=h.next->(∀b∈B,h.low<=b)->h'.low=h.low
structure St(B:List Nat)(w0:Wd)(kl:List OA)(F:List aO)(w:Wd):Prop where
 agree:abx B w0.h w.h
 le:w0.Le w
 af9:∀i,i<w0.h.next->w.z i->w0.z i\/i∈B
 own:∃S,fI w kl S/\S.Nodup/\∀i∈S,(w0.h.next<=i\/i∈B)/\i<w.h.next/\¬w.z i
 facts:∀f∈F,f.p w
section
variable {B:kI Nat} {w0 w:Wd} {kl:kI OA} {F:kI aO}
variable{kl' k:kI OA}
def St.kv(s:aI k kl kl')(h:St B w0 kl F w):St B w0 (k++kl') F w:=by
 obtain⟨S,h1,h2,h3⟩:=h.own;obtain⟨S1,S2,q1,q2,hp⟩:=h1.kv s;exact⟨h.agree,h.le,h.af9,⟨S1++S2,q1.app q2,hp.nodup h2,λi hi=>h3 i (hp.mem_iff.2 hi)⟩,h.facts⟩
variable{A:OA}
def St.gq(s:az A kl kl')(h:St B w0 kl F w):St B w0 (A::kl') F w:=h.kv (.cons s .nil)
def St.drop(h:St B w0 (k++kl') F w):St B w0 k F w:=by
 obtain⟨S,h1,h2,h3⟩:=h.own;have:∀{k:kI OA} {S:kI Nat},fI w (k++kl') S->∃S1 S2,fI w k S1/\S=S1++S2:=by
  intro k;induction k with
  |nil=>intro S hS;exact⟨[],S,rfl,rfl⟩
  |cons A k ih=>
   rintro S ⟨T1,T2,q1,q2,e⟩;obtain⟨S1,S2,u1,u2⟩:=ih q2;exact⟨T1++S1,S2,⟨T1,S1,q1,u1,rfl⟩,by rw[e,u2,List.append_assoc]⟩
 obtain⟨S1,S2,q1,e⟩:=this h1;subst e;exact⟨h.agree,h.le,h.af9,⟨S1,q1,(iT.1 h2).1,λi hi=>h3 i (je _ hi)⟩,h.facts⟩
variable{F':kI aO}
def St.sub(s:Sub F' F)(h:St B w0 kl F w):St B w0 kl F' w:=⟨h.agree,h.le,h.af9,h.own,λf hf=>h.facts f (s.mem f hf)⟩
def St.add(h:St B w0 kl F w)(hf:∀f∈F',f.p w):St B w0 kl (F'++F) w:=
 ⟨h.agree,h.le,h.af9,h.own,λf h1=>(dX.1 h1).elim (hf f) (h.facts f)⟩
variable{b:Nat}{o:dN}
def St.get(h:St B w0 (pt b o::kl) F w):w.h.get b=some o/\b<w.h.next/\(w0.h.next<=b\/b∈B):=by
 obtain⟨S,⟨S1,S2,⟨e1,q1⟩,_,e⟩,h2,h3⟩:=h.own;have hb:b∈S:=by rw[e,e1];simp
 exact⟨q1,(h3 b hb).2.1,(h3 b hb).1⟩
def St.at_(s:az (pt b o) kl kl')(h:St B w0 kl F w):At w.h b o:=⟨(h.gq s).get.2.1,(h.gq s).get.1⟩
noncomputable def Wd.new(w:Wd)(o:dN):Wd:=⟨w.h.new o,w.z,λi hi=>Km (w.nJ i hi)⟩
def St.new(h:St B w0 kl F w)(o:dN):St B w0 (pt w.h.next o::kl) F (w.new o):=by
 have hg:∀i,i<w.h.next->(w.h.new o).get i=w.h.get i:=λi hi=>by rw[IH.jc,if_neg z7]
 have hle:w.Le (w.new o):=⟨BI _,λ_ h=>h,λi hi=>hg i (w.nJ i hi)⟩
 obtain⟨S,h1,h2,h3⟩:=h.own;refine⟨⟨Nat.le_succ_of_le h.agree.next,λi hi hb=>(hg i (mM hi h.agree.next)).trans (h.agree.get i hi hb),λa b=>h.agree.low a b⟩,h.le.trans hle,h.af9,
  ⟨[w.h.next]++S,⟨[w.h.next],S,⟨rfl,by show(w.h.new o).get _=_;rw[IH.jc,if_pos rfl]⟩,fI.loc hle (λi hi=>hg i (h3 i hi).2.1) h1,rfl⟩,?_,?_⟩,λf hf=>f.mono hle (h.facts f hf)⟩
 .exact we
 .intro i hi;rcases dX.1 hi with hi|hi
  .rw[bM.1 hi];exact⟨.inl h.agree.next,wN _,λhz=>absurd (w.nJ _ hz) (Nat.lt_irrefl _)⟩
  .exact⟨(h3 i hi).1,Km (h3 i hi).2.1,(h3 i hi).2.2⟩
variable{o':dN}
def St.write(h:St B w0 (pt b o::kl) F w):St B w0 (pt b o'::kl) F ⟨w.h.set b o',w.z,λi hi=>w.nJ i hi⟩:=by
 obtain⟨S,⟨S1,S2,⟨e1,q1⟩,q2,e⟩,h2,h3⟩:=h.own;subst e e1;have hb:=h3 b An;have hn:b∉S2:=λhm=>(yD.1 h2).1 hm;have hg:∀i,i≠b->(w.h.set b o').get i=w.h.get i:=λi hi=>by rw[IH.nH,if_neg hi]
 have hle:w.Le ⟨w.h.set b o',w.z,λi hi=>w.nJ i hi⟩:=⟨bT _,λ_ h=>h,λi hi=>hg i (λe=>hb.2.2 (e▸hi))⟩
 refine⟨⟨h.agree.next,λi hi hB=>(hg i ?_).trans (h.agree.get i hi hB),λa c=>?_⟩,h.le.trans hle,h.af9,
  ⟨[b]++S2,⟨[b],S2,⟨rfl,by show(w.h.set b o').get b=_;rw[IH.nH,if_pos rfl]⟩,fI.loc hle (λi hi=>hg i (λe=>hn (e▸hi))) q2,rfl⟩,h2,h3⟩,λf hf=>f.mono hle (h.facts f hf)⟩
 .exact wx
 .have hl:=h.agree.low a c;show(w.h.set b o').low=_;rw[IH.GG,hl];rcases hb.1 with q|q
  .omega
  .have:=c b q;omega
def St.move{h':IH}(h:St B w0 (pt b o::kl) F w)(m:Av w.h h' b o'):∃w':Wd,w'.h=h'/\St B w0 (pt w.h.next o'::kl) F w'/\w.Le w':=by
 obtain⟨S,⟨S1,S2,⟨e1,q1⟩,q2,e⟩,h2,h3⟩:=h.own;subst e e1;have hb:=h3 b An;have hn:b∉S2:=λhm=>(yD.1 h2).1 hm;let w':Wd:=⟨h',w.z,λi hi=>by rw[m.next];exact Km (w.nJ i hi)⟩
 have hle:w.Le w':=⟨by show _<=h'.next;rw[m.next];exact BI _,λ_ h=>h,λi hi=>m.get i (w.nJ i hi) (λe=>hb.2.2 (e▸hi))⟩
 refine⟨w',rfl,⟨⟨by show _<=h'.next;rw[m.next];exact Nat.le_succ_of_le h.agree.next,λi hi hB=>(m.get i (mM hi h.agree.next) ?_).trans (h.agree.get i hi hB),λa c=>?_⟩,h.le.trans hle,h.af9,
  ⟨[w.h.next]++S2,⟨[w.h.next],S2,⟨rfl,m.at_.2⟩,fI.loc hle (λi hi=>m.get i (h3 i Cl).2.1 (λe=>hn (e▸hi))) q2,rfl⟩,?_,?_⟩,λf hf=>f.mono hle (h.facts f hf)⟩,hle⟩
 .exact wx
 .have hl:=h.agree.low a c;rw[<- hl];refine m.low ?_;rw[hl];rcases hb.1 with q|q
  .omega
  .exact c b q
 .refine yD.2 ⟨λhm=>?_,(yD.1 h2).2⟩;have:=(h3 _ (cO _ hm)).2.1;omega
 .intro i hi;have hnx:w'.h.next=w.h.next+1:=m.next
  rcases dX.1 hi with hi|hi
  .rw[bM.1 hi];exact⟨.inl h.agree.next,z7,λhz=>absurd (w.nJ _ hz) (Nat.lt_irrefl _)⟩
  .have:=h3 i Cl;exact⟨this.1,z7,this.2.2⟩
variable{A':OA}
def St.AB(hA:∀w S,A.p w S->A'.p w S)(h:St B w0 (A::kl) F w):St B w0 (A'::kl) F w:=by
 obtain⟨S,⟨S1,S2,q1,q2,e⟩,h2,h3⟩:=h.own;exact⟨h.agree,h.le,h.af9,⟨S,⟨S1,S2,hA w S1 q1,q2,e⟩,h2,h3⟩,h.facts⟩
def St.Cv(h:St B w0 (A::kl) F w)(hA:∀S,A.p w S->A'.p w S):St B w0 (A'::kl) F w:=by
 obtain⟨S,⟨S1,S2,q1,q2,e⟩,h2,h3⟩:=h.own;exact⟨h.agree,h.le,h.af9,⟨S,⟨S1,S2,hA S1 q1,q2,e⟩,h2,h3⟩,h.facts⟩
def St.tail(h:St B w0 (A::kl) F w):St B w0 kl F w:=by
 obtain⟨S,⟨S1,S2,q1,q2,e⟩,h2,h3⟩:=h.own;subst e;exact⟨h.agree,h.le,h.af9,⟨S2,q2,(iT.1 h2).2.1,λi hi=>h3 i (nA _ hi)⟩,h.facts⟩
def rH(A:OA)(fs:kI aO):Prop:=∀(w w':Wd) S,A.p w S->w.Le w'->w'.h=w.h->(∀i∈S,w'.z i)->∀f∈fs,f.p w'
def St.freeze{fs:kI aO}(hA:rH A fs)(h:St B w0 (A::kl) F w):∃w',w'.h=w.h/\St B w0 kl (fs++F) w':=by
 obtain⟨S,⟨S1,S2,q1,q2,e⟩,h2,h3⟩:=h.own;subst e;let w':Wd:=⟨w.h,λi=>w.z i\/i∈S1,λi hi=>hi.elim (w.nJ i) λhi=>(h3 i (je _ hi)).2.1⟩
 have hle:w.Le w':=⟨bT _,λi hi=>.inl hi,λ_ _=>rfl⟩
 have hnd:=iT.1 h2;refine⟨w',rfl,h.agree,h.le.trans hle,λi hi hz=>?_,⟨S2,fI.loc hle (λ_ _=>rfl) q2,hnd.2.1,λi hi=>?_⟩,λf hf=>?_⟩
 .rcases hz with hz|hz
  .exact h.af9 i hi hz
  .exact wk
 .exact pe
 .rcases dX.1 hf with hf|hf
  .exact hA w w' S1 q1 hle rfl (λi hi=>.inr hi) f hf
  .exact f.mono hle (h.facts f hf)
def gz{α:Type}{E:Enc α}{v:vI}{xs:kI α}:rH (ap E v xs) [ai E v xs]:=by
 intro w w' S hp hle hh hz f hf;rw[bM.1 hf];rcases hp with⟨h1,h2,_⟩|⟨b,o,f,cells,h1,h2,h3,h4,h5,h6⟩
 .exact .inl ⟨h1,none,0,h2,trivial⟩
 .refine .inr ⟨b,o,f,_,cells,⟨h1,bT _,h2⟩,⟨hz b DE,.inl (by rw[hh];exact h4)⟩,λk x hk=>?_⟩;obtain⟨y,q1,q2⟩:=h6 k x hk;exact⟨y,q1,λf hf=>f.mono hle (q2 f hf)⟩
def eX{cs:kI vI}:rH (pt b (.cells cs)) [gY b 0 cs]:=by
 intro w w' S ⟨h1,h2⟩ hle hh hz f hf;rw[bM.1 hf];exact⟨cs,⟨hz b BT,.inl Ft⟩,λj u hj=>by rw[fo];exact hj⟩
def uR{f c:Nat}{xs:kI Int}(hc:xs.length<=c:=by first|exact bT _|omega)(hf:f=0\/f=1:=by first|exact .inl rfl|exact .inr rfl):rH (pt b (.cells (xs.map (.int .i64)))) [ai ae (.slice (some ⟨b,0,some f⟩) xs.length c) xs]:=by
 intro w w' S ⟨h1,h2⟩ hle hh hz g hg;rw[bM.1 hg];refine .inr ⟨b,0,f,c,_,⟨rfl,hc,hf⟩,⟨hz b BT,.inl Ft⟩,λk x hk=>⟨(),λj u hj=>?_,λf hf=>by cases hf⟩⟩;match j,hj with
 |0,hj=>
  cases hj;simp[ae,hk]
end
end Go.Ideal
namespace Go.Ideal
variable {P:Program}
def R(Q:IH->Prop)(B:kI Nat)(w0:Wd)(kl:kI OA)(F:kI aO):Prop:=∀w,St B w0 kl F w->Q w.h
structure dQ(G G':Prop):Prop where
 h:G'->G
def dQ.refl(G:Prop):dQ G G:=⟨id⟩
variable{A B:Prop}
def dQ.trans{C:Prop}(a:dQ A B)(b:dQ B C):dQ A C:=⟨λc=>a.h (b.h c)⟩
def dQ.all{X:Type}{A B:X->Prop}(h:∀x,dQ (A x) (B x)):dQ (∀x,A x) (∀x,B x):=⟨λb x=>(h x).h (b x)⟩
def dQ.imp{p:Prop}(h:dQ A B):dQ (p->A) (p->B):=⟨λb x=>h.h (b x)⟩
def Pu(P:Program)(ρ:aaB->vI)(op:aF)(v:vI):Prop:=∀h,op.run P ρ h=some (v,h)
inductive EvL(ρ:Operand->Value):List Operand->List Value->Prop
 |nil:EvL ρ [] []
 |cons {x:Operand} {v:Value} {xs:List Operand} {vs:List Value} (h:ρ x=v) (t:EvL ρ xs vs):EvL ρ (x::xs) (v::vs)
def EvL.map{ρ:aaB->vI}:∀{xs:kI aaB} {vs:kI vI},EvL ρ xs vs->xs.map ρ=vs
 |_,_,.nil=>rfl
 |_,_,.cons h t=>by rw[agO,h,t.map]
section
variable {ρ:aaB->vI}
variable{x:aaB}{v:vI}
def EI(hx:ρ x=v):Pu P ρ (.mv x) v:=λh=>by simp only[aF.run,hx]
def Hw(hx:ρ x=v):Pu P ρ (.nD x) v:=λh=>by simp only[aF.run,hx]
variable{y:aaB}
def Hy{c:aaB}(hc:ρ c=.bool true)(hx:ρ x=v):Pu P ρ (.pick c x y) v:=λh=>by simp only[aF.run,hc,hx,cond]
def Hz{c:aaB}(hc:ρ c=.bool false)(hx:ρ y=v):Pu P ρ (.pick c x y) v:=λh=>by simp only[aF.run,hc,hx,cond]
def HV{b:Bool}(hx:ρ x=.bool b):Pu P ρ (.un .not x) (.bool !b):=λh=>by simp only[aF.run,hx];rfl
variable{m c:Nat}
def HY{a:x8 Addr}(hx:ρ x=.slice a m c):Pu P ρ (.wW x) (.int .i64 (m:Int)):=λh=>by simp only[aF.run,hx,RI]
variable{n:Nat}
def HZ:Pu P ρ (.Gu n) (.int .i64 (n:Int)):=λh=>rfl
variable{t:adH}{a b:Int}
def H6(hx:ρ x=.int .i64 a)(hy:ρ y=.int .i64 b):Pu P ρ (.bin .lss t x y) (.bool (decide (a<b))):=λh=>by
 simp only[aF.run,hx,hy];rw[xH (v:=.bool (decide (a<b)))];simp[oZ,tC,<- Int.not_le]
def H7(hx:ρ x=.int .i64 a)(hy:ρ y=.int .i64 b):Pu P ρ (.bin .leq t x y) (.bool (decide (a<=b))):=λh=>by
 simp only[aF.run,hx,hy];rw[xH (v:=.bool (decide (a<=b)))];simp[oZ,tC]
def H8(hx:ρ x=.int .i64 a)(hy:ρ y=.int .i64 b):Pu P ρ (.bin .gtr t x y) (.bool (decide (b<a))):=λh=>by
 simp only[aF.run,hx,hy];rw[xH (v:=.bool (decide (b<a)))];simp[oZ,tC,<- Int.not_le]
def H9(hx:ρ x=.int .i64 a)(hy:ρ y=.int .i64 b):Pu P ρ (.bin .geq t x y) (.bool (decide (b<=a))):=λh=>by
 simp only[aF.run,hx,hy];rw[xH (v:=.bool (decide (b<=a)))];simp[oZ,tC]
def Ia(hx:ρ x=.int .i64 a)(hy:ρ y=.int .i64 b):Pu P ρ (.bin .eql t x y) (.bool (decide (a=b))):=λh=>by
 simp only[aF.run,hx,hy];rw[xH (v:=.bool (decide (a=b)))];simp[oZ,Eb];rfl
def Ib(hx:ρ x=.int .i64 a)(hy:ρ y=.int .i64 b):Pu P ρ (.bin .neq t x y) (.bool (decide (a≠b))):=λh=>by
 simp only[aF.run,hx,hy];rw[xH (v:=.bool (decide (a≠b)))];simp[oZ,Eb];rfl
def Cw(hx:ρ x=.int .i64 a)(hy:ρ y=.int .i64 b)(h1: -9223372036854775808<=a+b)(h2:a+b<9223372036854775808):Pu P ρ (.bin .add t x y) (.int .i64 (a+b)):=λh=>by
 simp only[aF.run,hx,hy];rw[xH (v:=.int .i64 (a+b))];simp only[oZ,KW,EF h1 h2]
def Ic(hx:ρ x=.int .i64 a)(hy:ρ y=.int .i64 b)(h1: -9223372036854775808<=a - b)(h2:a - b<9223372036854775808):Pu P ρ (.bin .sub t x y) (.int .i64 (a - b)):=λh=>by
 simp only[aF.run,hx,hy];rw[xH (v:=.int .i64 (a - b))];simp only[oZ,Qy,EF h1 h2]
def Ie{i:Nat}{vs:kI vI}(hx:ρ x=.tuple ⟨vs⟩)(hv:jU vs i=some v):Pu P ρ (.extract x i) v:=λh=>by simp only[aF.run,hx,hv]
variable{o off:Nat}
def Ig{b:Nat}(hx:ρ x=.pointer (some ⟨b,o,none⟩)):Pu P ρ (.fQ off x) (.pointer (some ⟨b,o+off,none⟩)):=λh=>by simp only[aF.run,hx];rfl
variable{cs:kI vI}
def Ih(hx:ρ x=.agg ⟨cs⟩)(hv:jU cs off=some v):Pu P ρ (.field t off n false x) v:=λh=>by simp only[aF.run,hx,hv]
def Ii{r:kI vI}(hx:ρ x=.agg ⟨cs⟩)(hv:jf (jH cs off) n=some r):Pu P ρ (.field t off n true x) (.agg ⟨r⟩):=λh=>by simp only[aF.run,hx,hv]
def Ij(hx:ρ x=v):Pu P ρ (.iface t x) (.iface t v):=λh=>by simp only[aF.run,hx]
def Ik{zero:vI}(hx:ρ x=.iface t v):Pu P ρ (.Gs t zero false x) v:=λh=>by
 simp only[aF.run,hx];show cond (Nat.beq t t) _ _=_;rw[alT];rfl
def aby{zero:kI vI}{parts:kI (Nat×Nat×aaB)}(hx:rA ρ zero parts=some cs):Pu P ρ (.build zero parts) (.agg ⟨cs⟩):=λh=>by simp only[aF.run,hx]
def Il{a:Addr}(hx:ρ x=.pointer (some a)):Pu P ρ (.lm x) (.pointer (some a)):=λh=>by simp only[aF.run,hx]
def Im{f:agR}{a b:Array vI}(hx:ρ x=.func (.func f) a b):Pu P ρ (.lm x) (.func (.func f) a b):=λh=>by simp only[aF.run,hx]
def abz{fn:Fn}{first captured:kI aaB}{a b:kI vI}(h1:EvL ρ first a)(h2:EvL ρ captured b):Pu P ρ (.BM fn first captured) (.func fn ⟨a⟩ ⟨b⟩):=λh=>by
 simp only[aF.run,vQ,h1.map,h2.map]
variable{i:aaB}{k:Int}{size:Nat}{kk:IntKind}{f:x8 Nat}
def EJ{b:Nat}(hx:ρ x=.slice (some ⟨b,o,f⟩) m c)(hi:ρ i=.int kk k)(h0:0<=k)(h1:k<m):
 Pu P ρ (.nQ size x i) (.pointer (some ⟨b,o+k.toNat*size,none⟩)):=λh=>by
 obtain⟨j,rfl⟩:=jA h0;simp only[aF.run,hx,hi];show cond (Nat.blt j m) _ _=_;rw[Mi z7];rfl
def Io{b k:Nat}(hx:ρ x=.slice (some ⟨b,o,f⟩) m c)(hi:ρ i=.int kk (.ofNat k))(h1:Nat.blt k m=true):
 Pu P ρ (.nQ size x i) (.pointer (some ⟨b,o+k*size,none⟩)):=λh=>by
 simp only[aF.run,hx,hi,h1];rfl
def Ip{b:Nat}(hx:ρ x=.pointer (some ⟨b,o,none⟩))(hi:ρ i=.int kk k)(h0:0<=k)(h1:k<m):
 Pu P ρ (.Ku m size x i) (.pointer (some ⟨b,o+k.toNat*size,none⟩)):=λh=>by
 obtain⟨j,rfl⟩:=jA h0;simp only[aF.run,hx,hi];show cond (Nat.blt j m) _ _=_;rw[Mi z7];rfl
end
section
variable {B:kI Nat} {w0:Wd} {kl kl':kI OA} {F:kI aO} {a:aV} {K:KO}
def abA{x y:dI}:dQ (R (λh=>EV P (.seq x y) a h K) B w0 kl F) (R (λh=>EV P x a h (yU P y K)) B w0 kl F):=⟨λr w s=>aa1 (r w s)⟩
variable{id:Nat}{c:dI}
def abB:dQ (R (λh=>EV P (.block id c) a h K) B w0 kl F) (R (λh=>EV P c a h (xD id K)) B w0 kl F):=⟨λr w s=>aa2 (r w s)⟩
variable{ds:kI Tmp}
def abC{l:kI bV}:dQ (R (λh=>EV P (.ops ds l) a h K) B w0 kl F) (R (λh=>aH P ds l a h K) B w0 kl F):=⟨λr w s=>.ops (r w s)⟩
def abD:dQ (R (λh=>EV P (.scope c) a h K) B w0 kl F) (R (λh=>EV P c a h K) B w0 kl F):=⟨λr w s=>.scope (r w s)⟩
def abE:dQ (R (λh=>EV P .skip a h K) B w0 kl F) (R (λh=>K .normal a h) B w0 kl F):=⟨λr w s=>.skip (r w s)⟩
def abF:dQ (R (λh=>EV P (.exit id) a h K) B w0 kl F) (R (λh=>K (.exit id) a h) B w0 kl F):=⟨λr w s=>.exit (r w s)⟩
def abG:dQ (R (λh=>EV P .ret a h K) B w0 kl F) (R (λh=>K .ret a h) B w0 kl F):=⟨λr w s=>.ret (r w s)⟩
def abH:dQ (R (λh=>aH P ds [] a h K) B w0 kl F) (R (λh=>K .normal a h) B w0 kl F):=⟨λr w s=>.nil (r w s)⟩
variable {y:dI} {i j m0:Nat} {I:Nat->aV->IH->Prop} {ch:kI PanicEntry}
def abI:dQ (R (λh=>yU P y K .normal a h) B w0 kl F) (R (λh=>EV P y a h K) B w0 kl F):=⟨λr w s=>r w s⟩
def abJ:dQ (R (λh=>yU P y K .ret a h) B w0 kl F) (R (λh=>K .ret a h) B w0 kl F):=⟨λr w s=>r w s⟩
def abK:dQ (R (λh=>yU P y K (.exit j) a h) B w0 kl F) (R (λh=>K (.exit j) a h) B w0 kl F):=⟨λr w s=>r w s⟩
def abL:dQ (R (λh=>yU P y K (.panic ch) a h) B w0 kl F) (R (λh=>K (.panic ch) a h) B w0 kl F):=⟨λr w s=>r w s⟩
def abM:dQ (R (λh=>xD i K .normal a h) B w0 kl F) (R (λh=>K .normal a h) B w0 kl F):=⟨λr w s=>r w s⟩
def abN:dQ (R (λh=>xD i K .ret a h) B w0 kl F) (R (λh=>K .ret a h) B w0 kl F):=⟨λr w s=>r w s⟩
def abO:dQ (R (λh=>xD i K (.panic ch) a h) B w0 kl F) (R (λh=>K (.panic ch) a h) B w0 kl F):=⟨λr w s=>r w s⟩
def abP(e:Nat.beq j i=true):dQ (R (λh=>xD i K (.exit j) a h) B w0 kl F) (R (λh=>K .normal a h) B w0 kl F):=⟨λr w s=>abb e (r w s)⟩
def abQ(e:Nat.beq j i=false):dQ (R (λh=>xD i K (.exit j) a h) B w0 kl F) (R (λh=>K (.exit j) a h) B w0 kl F):=⟨λr w s=>abd e (r w s)⟩
def abR:dQ (R (λh=>xE I m0 K .ret a h) B w0 kl F) (R (λh=>K .ret a h) B w0 kl F):=⟨λr w s=>r w s⟩
def abS:dQ (R (λh=>xE I m0 K (.exit j) a h) B w0 kl F) (R (λh=>K (.exit j) a h) B w0 kl F):=⟨λr w s=>r w s⟩
def abT:dQ (R (λh=>xE I m0 K (.panic ch) a h) B w0 kl F) (R (λh=>K (.panic ch) a h) B w0 kl F):=⟨λr w s=>r w s⟩
end
section
variable {B:kI Nat} {w0:Wd} {kl kl':kI OA} {F:kI aO} {K:KO} {ds:kI Tmp} {rest:kI bV} {n:Nat} {l:qr} {D:kI Deferred} {pm:x8 FrameMode} {ro:x8 Nat} {d:Nat} {g:x8 (Tmp×Bool)}
variable{c:aaB}{y:dI}
def abU{x:dI}(hc:ev l c=.bool true):dQ (R (λh=>EV P (.cond c x y) (act n l D pm ro) h K) B w0 kl F) (R (λh=>EV P x (act n l D pm ro) h K) B w0 kl F):=
 ⟨λr w s=>ED true hc (λ_=>r w s) (λe=>by cases e)⟩
def abV{x:dI}(hc:ev l c=.bool false):dQ (R (λh=>EV P (.cond c x y) (act n l D pm ro) h K) B w0 kl F) (R (λh=>EV P y (act n l D pm ro) h K) B w0 kl F):=
 ⟨λr w s=>ED false hc (λe=>by cases e) (λ_=>r w s)⟩
variable{p:Prop}
def aA{x:dI}[Decidable p](hc:ev l c=.bool (decide p))(h1:p->R (λh=>EV P x (act n l D pm ro) h K) B w0 kl F)(h2:¬p->R (λh=>EV P y (act n l D pm ro) h K) B w0 kl F):
 R (λh=>EV P (.cond c x y) (act n l D pm ro) h K) B w0 kl F:=
 λw s=>ED _ hc (λe=>h1 (iI e) w s) (λe=>h2 (nC e) w s)
def fq{x:dI}[Decidable p](hc:ev l c=.bool (!decide p))(h1:¬p->R (λh=>EV P x (act n l D pm ro) h K) B w0 kl F)(h2:p->R (λh=>EV P y (act n l D pm ro) h K) B w0 kl F):
 R (λh=>EV P (.cond c x y) (act n l D pm ro) h K) B w0 kl F:=
 λw s=>ED _ hc (λe=>h1 A3 w s) (λe=>h2 A3 w s)
def kw{x:dI}{b:Bool}(hc:ev l c=.bool b)(h1:b=true->R (λh=>EV P x (act n l D pm ro) h K) B w0 kl F)(h2:b=false->R (λh=>EV P y (act n l D pm ro) h K) B w0 kl F):
 R (λh=>EV P (.cond c x y) (act n l D pm ro) h K) B w0 kl F:=
 λw s=>ED _ hc (λe=>h1 e w s) (λe=>h2 e w s)
variable{op:aF}
def abW{re:kI iq}(hn:Nat.blt d n=true)(hg:Mg l g=true):dQ (R (λh=>aH P ds (⟨⟨some d,g,op⟩,re⟩::rest) (act n l D pm ro) h K) B w0 kl F) (R (λh=>aH P ds rest (act n ((d,sS)::l) D pm ro) h K) B w0 kl F):=
 ⟨λr w s=>aa9 hn hg (r w s)⟩
variable{v:vI}
def fA(hn:Nat.blt d n=true)(hg:cZ l g=true)(hp:Pu P (ev l) op v):dQ (R (λh=>aH P ds (⟨⟨some d,g,op⟩,[]⟩::rest) (act n l D pm ro) h K) B w0 kl F) (R (λh=>aH P ds rest (act n ((d,v)::l) D pm ro) h K) B w0 kl F):=
 ⟨λr w s=>mq hn hg (hp w.h) (r w s)⟩
abbrev ptr'(b:Nat):vI:=.pointer (some ⟨b,0,none⟩)
variable{cs:kI vI}{t:adH}
def abX(hn:Nat.blt d n=true)(hg:cZ l g=true):dQ (R (λh=>aH P ds (⟨⟨some d,g,.new cs t⟩,[]⟩::rest) (act n l D pm ro) h K) B w0 kl F)
 (∀b,R (λh=>aH P ds rest (act n ((d,.pointer (some ⟨b,0,none⟩))::l) D pm ro) h K) B w0 (pt b (.cells cs)::kl) F):=
 ⟨λr w s=>mq hn hg (h':=w.h.new (.cells cs)) HN (r w.h.next (w.new _) (s.new _))⟩
variable{x:aaB}
def abY(hn:Nat.blt d n=true)(hg:cZ l g=true)(hx:cellsOf (ev l x)=some cs):dQ (R (λh=>aH P ds (⟨⟨some d,g,.box x t⟩,[]⟩::rest) (act n l D pm ro) h K) B w0 kl F)
 (∀b,R (λh=>aH P ds rest (act n ((d,.pointer (some ⟨b,0,none⟩))::l) D pm ro) h K) B w0 (pt b (.cells cs)::kl) F):=
 ⟨λr w s=>mq hn hg (h':=w.h.new (.cells cs)) (by simp only[aF.run,aF.alloc,rC,hx]) (r w.h.next (w.new _) (s.new _))⟩
variable{zero:kI vI}
def abZ{len:Nat}{parts:kI (Nat×Nat×aaB)}(hn:Nat.blt d n=true)(hg:cZ l g=true)(hx:rA (ev l) zero parts=some cs):
 dQ (R (λh=>aH P ds (⟨⟨some d,g,.wU t len zero parts⟩,[]⟩::rest) (act n l D pm ro) h K) B w0 kl F)
 (∀b,R (λh=>aH P ds rest (act n ((d,.slice (some ⟨b,0,some 0⟩) len len)::l) D pm ro) h K) B w0 (pt b (.cells cs)::kl) F):=
 ⟨λr w s=>mq hn hg (h':=w.h.new (.cells cs)) (by simp only[aF.run,aF.alloc,rC,hx,zY]) (r w.h.next (w.new _) (s.new _))⟩
variable{m size bytes:Nat}{e:adH}
def ab0{y:aaB}(hn:Nat.blt d n=true)(hg:cZ l g=true)(hx:ev l x=.int .i64 (m:Int))(hy:ev l y=.int .i64 (m:Int))
 (hm:m*bytes<=1073741824/\m*size<=1073741824/\m<=1073741824):dQ (R (λh=>aH P ds (⟨⟨some d,g,.zV e size bytes zero x y⟩,[]⟩::rest) (act n l D pm ro) h K) B w0 kl F)
 (∀b,R (λh=>aH P ds rest (act n ((d,.slice (some ⟨b,0,some 0⟩) m m)::l) D pm ro) h K) B w0 (pt b (.cells (zeros zero m))::kl) F):=by
 refine⟨λr w s=>?_⟩;have hle:∀{a b:Nat},a<=b->Nat.ble a b=true:=λh=>by rw[vH];exact h
 refine mq hn hg (h':=w.h.new (.cells (zeros zero m))) ?_ (r w.h.next (w.new _) (s.new _));simp only[aF.run,aF.alloc,hx,hy];show rC (cond (Nat.ble m m&&Nat.ble (m*bytes) small&&Nat.ble (m*size) small&&Nat.ble m small) _ _) w.h=_;rw[hle (bT m),hle (show m*bytes<=small from hm.1),hle (show m*size<=small from hm.2.1),hle (show m<=small from hm.2.2)];rfl
variable{b o:Nat}
def ab1(hn:Nat.blt d n=true)(hg:cZ l g=true)(hx:ev l x=.pointer (some ⟨b,o,none⟩))(hk:az (pt b (.cells cs)) kl kl')(hv:jU cs o=some v):
 dQ (R (λh=>aH P ds (⟨⟨some d,g,.ah2 x⟩,[]⟩::rest) (act n l D pm ro) h K) B w0 kl F) (R (λh=>aH P ds rest (act n ((d,v)::l) D pm ro) h K) B w0 kl F):=
 ⟨λr w s=>Hg hn hg hx (s.at_ hk) (by rw[<- sZ];exact hv) (r w s)⟩
def R9{c:kI vI}(hn:Nat.blt d n=true)(hg:cZ l g=true)(hx:ev l x=.pointer (some ⟨b,o,none⟩))(hk:az (pt b (.cells cs)) kl kl')(hv:jf (jH cs o) m=some c):
 dQ (R (λh=>aH P ds (⟨⟨some d,g,.pW m x⟩,[]⟩::rest) (act n l D pm ro) h K) B w0 kl F) (R (λh=>aH P ds rest (act n ((d,.agg ⟨c⟩)::l) D pm ro) h K) B w0 kl F):=
 ⟨λr w s=>aba hn hg hx (s.at_ hk) hv (r w s)⟩
variable{j:Nat}{w:Wd}
def Iq(h:(gY b o cs).p w)(hv:jU cs j=some v):w.h.om b (o+j)=some v:=by
 obtain⟨cells,h1,h2⟩:=h;rw[h1.cells.om];exact h2 j v (by rw[<- sZ];exact hv)
def Ir{c:kI vI}(h:(gY b o cs).p w)(hv:jf (jH cs j) m=some c):w.h.iM b (o+j) m=some c:=by
 obtain⟨cells,h1,h2⟩:=h;rw[h1.cells.iM];rw[qD,p9]at hv⊢;split at hv
 .rename_i hm;cases hv;rw[sO]at hm;have key:∀i,i<m->cells[o+j+i]? =cs[j+i]?:=λi hi=>by
   have hlt:j+i<cs.length:=z7
   rw[qw,bP hlt];exact h2 (j+i) _ (bP hlt)
  have hlen:m=0\/o+j+m<=cells.length:=by
   rcases Gc m with e|e
   .exact .inl e
   .right;have:=key (m - 1) z7;rw[bP (show j+(m - 1)<cs.length by omega)]at this;have:=(bq.1 this).1;omega
  rw[if_pos A0];congr 1;apply iY;intro i;rw[sK,sK];by_cases hi:i<m
  .rw[if_pos hi,if_pos hi,oO,oO];exact key i hi
  .rw[if_neg hi,if_neg hi]
 .cases hv
def ab2(hn:Nat.blt d n=true)(hg:cZ l g=true)(hx:ev l x=.pointer (some ⟨b,o,none⟩))(hk:gY b o cs∈F)(hv:jU cs 0=some v):
 dQ (R (λh=>aH P ds (⟨⟨some d,g,.ah2 x⟩,[]⟩::rest) (act n l D pm ro) h K) B w0 kl F) (R (λh=>aH P ds rest (act n ((d,v)::l) D pm ro) h K) B w0 kl F):=
 ⟨λr w s=>mq hn hg (by simp only[aF.run,hx,show w.h.om b o=some v from Iq (j:=0) (s.facts _ hk) hv]) (r w s)⟩
def ab3(hn:Nat.blt d n=true)(hg:cZ l g=true)(hx:ev l x=.pointer (some ⟨b,o+j,none⟩))(hk:gY b o cs∈F)(hv:jU cs j=some v):
 dQ (R (λh=>aH P ds (⟨⟨some d,g,.ah2 x⟩,[]⟩::rest) (act n l D pm ro) h K) B w0 kl F) (R (λh=>aH P ds rest (act n ((d,v)::l) D pm ro) h K) B w0 kl F):=
 ⟨λr w s=>mq hn hg (by simp only[aF.run,hx,Iq (s.facts _ hk) hv]) (r w s)⟩
def ab4{c:kI vI}(hn:Nat.blt d n=true)(hg:cZ l g=true)(hx:ev l x=.pointer (some ⟨b,o,none⟩))(hk:gY b o cs∈F)(hv:jf cs m=some c):
 dQ (R (λh=>aH P ds (⟨⟨some d,g,.pW m x⟩,[]⟩::rest) (act n l D pm ro) h K) B w0 kl F) (R (λh=>aH P ds rest (act n ((d,.agg ⟨c⟩)::l) D pm ro) h K) B w0 kl F):=
 ⟨λr w s=>mq hn hg (by simp only[aF.run,hx,show w.h.iM b o m=some c from Ir (j:=0) (s.facts _ hk) (by rw[p9];exact hv)]) (r w s)⟩
def Sa{c:kI vI}(hn:Nat.blt d n=true)(hg:cZ l g=true)(hx:ev l x=.pointer (some ⟨b,o+j,none⟩))(hk:gY b o cs∈F)(hv:jf (jH cs j) m=some c):
 dQ (R (λh=>aH P ds (⟨⟨some d,g,.pW m x⟩,[]⟩::rest) (act n l D pm ro) h K) B w0 kl F) (R (λh=>aH P ds rest (act n ((d,.agg ⟨c⟩)::l) D pm ro) h K) B w0 kl F):=
 ⟨λr w s=>mq hn hg (by simp only[aF.run,hx,Ir (s.facts _ hk) hv]) (r w s)⟩
def ab5{y:aaB}{vs c:kI vI}(hg:cZ l g=true)(hx:ev l x=.pointer (some ⟨b,o,none⟩))(hy:cellsOf (ev l y)=some vs)(hm:Nat.beq (iL vs) m=true)
 (hk:az (pt b (.cells cs)) kl kl') (hv:jV cs o vs=some c):
 dQ (R (λh=>aH P ds (⟨⟨none,g,.store m x y⟩,[]⟩::rest) (act n l D pm ro) h K) B w0 kl F) (R (λh=>aH P ds rest (act n l D pm ro) h K) B w0 (pt b (.cells c)::kl') F):=
 ⟨λr w s=>Mh hg (v:=dU) (h':=w.h.set b (.cells c)) (by simp only[aF.run,hx,hy,hm];simp only[IH.storeAt,(s.at_ hk).2,hv];rfl) (r _ ((s.gq hk).write))⟩
def ab6{y:aaB}(hg:cZ l g=true)(hx:ev l x=.pointer (some ⟨b,o,none⟩))(hy:ev l y=v)(hv:cellsOf v=some [v])
 (hk:az (pt b (.cells cs)) kl kl') (ho:o<cs.length):
 dQ (R (λh=>aH P ds (⟨⟨none,g,.store 1 x y⟩,[]⟩::rest) (act n l D pm ro) h K) B w0 kl F) (R (λh=>aH P ds rest (act n l D pm ro) h K) B w0 (pt b (.cells (cs.set o v))::kl') F):=
 ⟨λr w s=>Mh hg (v:=dU) (h':=w.h.set b (.cells (cs.set o v))) (by
  simp only[aF.run,hx,hy,hv];show cond (Nat.beq 1 1) _ _=_;simp only[IH.storeAt,(s.at_ hk).2,Hl cs o v ho];rfl) (r _ ((s.gq hk).write))⟩
def ab7(hn:Nat.blt d n=true)(hg:cZ l g=true)(hx:ev l x=.pointer (some ⟨b,o,none⟩))(hk:az (pt b (.cells cs)) kl kl')(hv:cs[o]? =some v):
 dQ (R (λh=>aH P ds (⟨⟨some d,g,.ah2 x⟩,[]⟩::rest) (act n l D pm ro) h K) B w0 kl F) (R (λh=>aH P ds rest (act n ((d,v)::l) D pm ro) h K) B w0 kl F):=
 ⟨λr w s=>Hg hn hg hx (s.at_ hk) hv (r w s)⟩
variable{α:Type}
def Sb{E:Enc α}{xs:kI α}(h:(ai E v xs).p w):∃a c,v=.slice a xs.length c:=by
 rcases h with⟨rfl,a,c,rfl,_⟩|⟨i,o,f,c,cs,⟨h1,_⟩,_⟩
 .exact⟨a,c,rfl⟩
 .exact⟨_,c,h1⟩
def ab8{E:Enc α}{xs:kI α}(h:(ai E v xs).p w){k:Nat}(hk:k<xs.length):
 ∃i o f c x y,v=.slice (some ⟨i,o,f⟩) xs.length c/\xs[k]? =some x/\(gY i (o+k*E.n) (E.pat x y)).p w/\∀f∈E.fs x y,f.p w:=by
 rcases h with⟨rfl,a,c,rfl,_⟩|⟨i,o,f,c,cs,⟨h1,_⟩,h2,h3⟩
 .simp at hk
 .obtain⟨y,q1,q2⟩:=h3 k xs[k] (bP hk);exact⟨i,o,some f,c,xs[k],y,h1,bP hk,⟨cs,h2,q1⟩,q2⟩
def ab9{E:Enc α}{xs:kI α}(hn:Nat.blt d n=true)(hg:cZ l g=true)(hx:ev l x=v)(hf:ai E v xs∈F):
 dQ (R (λh=>aH P ds (⟨⟨some d,g,.wW x⟩,[]⟩::rest) (act n l D pm ro) h K) B w0 kl F) (R (λh=>aH P ds rest (act n ((d,.int .i64 (xs.length:Int))::l) D pm ro) h K) B w0 kl F):=
 ⟨λr w s=>by
  obtain⟨a,c,e⟩:=Sb (s.facts _ hf);exact RJ hn hg (hx.trans e) (r w s)⟩
def Mx{E:Enc α}{xs:kI α}{S:kI Nat}(h:(ap E v xs).p w S):∃a,v=.slice a xs.length xs.length:=by
 rcases h with⟨rfl,rfl,_⟩|⟨b,o,f,cells,h1,_⟩
 .exact⟨none,rfl⟩
 .exact⟨_,h1⟩
def acd{E:Enc α}{xs:kI α}(hn:Nat.blt d n=true)(hg:cZ l g=true)(hx:ev l x=v)(hk:az (ap E v xs) kl kl'):
 dQ (R (λh=>aH P ds (⟨⟨some d,g,.wW x⟩,[]⟩::rest) (act n l D pm ro) h K) B w0 kl F) (R (λh=>aH P ds rest (act n ((d,.int .i64 (xs.length:Int))::l) D pm ro) h K) B w0 kl F):=
 ⟨λr w s=>by
  obtain⟨S,⟨S1,S2,q,_⟩,_⟩:=(s.gq hk).own;obtain⟨a,e⟩:=Mx q;exact RJ hn hg (hx.trans e) (r w s)⟩
variable{i:aaB}{kk:IntKind}{k:Int}
def MB{E:Enc α}{xs:kI α}(hn:Nat.blt d n=true)(hg:cZ l g=true)(hx:ev l x=v)(hi:ev l i=.int kk k)(hf:ai E v xs∈F)
 (hs:E.n=size) (h0:0<=k) (h1:k<xs.length):
 dQ (R (λh=>aH P ds (⟨⟨some d,g,.nQ size x i⟩,[]⟩::rest) (act n l D pm ro) h K) B w0 kl F)
  (∀b o z y,xs[k.toNat]? =some z->R (λh=>aH P ds rest (act n ((d,.pointer (some ⟨b,o,none⟩))::l) D pm ro) h K) B w0 kl (gY b o (E.pat z y)::(E.fs z y++F))):=by
 refine⟨λr w s=>?_⟩;obtain⟨b,o,f,c,z,y,rfl,h2,h3,h4⟩:=ab8 (s.facts _ hf) (k:=k.toNat) z7;refine Mj hn hg hx hi h0 h1 (r b _ z y h2 w ?_);rw[<- hs];exact(s.add (F':=gY b (o+k.toNat*E.n) (E.pat z y)::E.fs z y) (λf hf=>by
  rcases dx.1 hf with rfl|hf
  .exact h3
  .exact h4 f hf))
variable{xs:kI Int}
def Sc(hn:Nat.blt d n=true)(hg:cZ l g=true)(hx:ev l x=v)(hi:ev l i=.int kk k)(hf:ai ae v xs∈F)(h0:0<=k)(h1:k<xs.length):
 dQ (R (λh=>aH P ds (⟨⟨some d,g,.nQ 1 x i⟩,[]⟩::rest) (act n l D pm ro) h K) B w0 kl F)
  (∀b o z,xs[k.toNat]? =some z->R (λh=>aH P ds rest (act n ((d,.pointer (some ⟨b,o,none⟩))::l) D pm ro) h K) B w0 kl (gY b o [.int .i64 z]::F)):=
 ⟨λr=>(MB hn hg hx hi hf rfl h0 h1).h λb o z y hz=>r b o z hz⟩
def Sd{xs:kI Bool}(hn:Nat.blt d n=true)(hg:cZ l g=true)(hx:ev l x=v)(hi:ev l i=.int kk k)(hf:ai R8 v xs∈F)(h0:0<=k)(h1:k<xs.length):
 dQ (R (λh=>aH P ds (⟨⟨some d,g,.nQ 1 x i⟩,[]⟩::rest) (act n l D pm ro) h K) B w0 kl F)
  (∀b o z,xs[k.toNat]? =some z->R (λh=>aH P ds rest (act n ((d,.pointer (some ⟨b,o,none⟩))::l) D pm ro) h K) B w0 kl (gY b o [.bool z]::F)):=
 ⟨λr=>(MB hn hg hx hi hf rfl h0 h1).h λb o z y hz=>r b o z hz⟩
def af5(E:Enc α){Q:IH->Prop}(h:R Q B w0 (ap E (.slice none 0 0) []::kl) F):R Q B w0 kl F:=λw s=>by
 obtain⟨S,h1,h2,h3⟩:=s.own;exact h w ⟨s.agree,s.le,s.af9,⟨S,⟨[],S,.inl ⟨rfl,rfl,rfl⟩,h1,rfl⟩,h2,h3⟩,s.facts⟩
def Sg(E:Enc α){b:Nat}{Q:IH->Prop}(hk:az (pt b (.cells [])) kl kl')(h:R Q B w0 (ap E (.slice (some ⟨b,0,some 0⟩) 0 0) []::kl') F):R Q B w0 kl F:=λw s=>
 h w ((s.gq hk).AB (A:=pt b (.cells [])) (A':=ap E (.slice (some ⟨b,0,some 0⟩) 0 0) []) λw S hp=>.inr ⟨b,0,0,[],rfl,.inl rfl,hp.1,hp.2,An,λk x hk=>by cases hk⟩)
def ace{A:OA}{fs:kI aO}{Q:IH->Prop}(hA:rH A fs)(hk:az A kl kl')(h:R Q B w0 kl' (fs++F)):R Q B w0 kl F:=λw s=>by
 obtain⟨w',e,s'⟩:=(s.gq hk).freeze hA;rw[<- e];exact h w' s'
def _root_.Go.Ideal.St.fresh{o:dN}{h':IH}(s:St B w0 kl F w)(ag:Agree w.h h')(at_:At h' w.h.next o)(hn:h'.next=w.h.next+1):∃w':Wd,w'.h=h'/\St B w0 (pt w.h.next o::kl) F w':=by
 have hg:∀i,i<w.h.next->h'.get i=w.h.get i:=ag.get
 let w':Wd:=⟨h',w.z,λi hi=>by rw[hn];exact Km (w.nJ i hi)⟩
 have hle:w.Le w':=⟨by show _<=h'.next;omega,λ_ h=>h,λi hi=>hg i (w.nJ i hi)⟩
 obtain⟨S,h1,h2,h3⟩:=s.own;have hnx:w'.h.next=w.h.next+1:=hn
 refine⟨w',rfl,⟨by have:=s.agree.next;omega,λi hi hb=>(hg i (mM hi s.agree.next)).trans (s.agree.get i hi hb),λa b=>?_⟩,s.le.trans hle,s.af9,
  ⟨[w.h.next]++S,⟨[w.h.next],S,⟨rfl,at_.2⟩,fI.loc hle (λi hi=>hg i (h3 i hi).2.1) h1,rfl⟩,?_,?_⟩,λf hf=>f.mono hle (s.facts f hf)⟩
 .have hl:=s.agree.low a b;have:=s.agree.next
  show h'.low=_;rw[ag.low z7,hl]
 .exact we
 .intro i hi;rcases dX.1 hi with hi|hi
  .rw[bM.1 hi];exact⟨.inl s.agree.next,z7,λhz=>absurd (w.nJ _ hz) (Nat.lt_irrefl _)⟩
  .exact⟨(h3 i hi).1,by have:=(h3 i hi).2.1;omega,(h3 i hi).2.2⟩
def acf{E:Enc α}{b':Nat}{s:aaB}{xs:kI α}{a:α}{y:E.Y}{k1 k2:kI OA}(hn:Nat.blt d n=true)(hg:cZ l g=true)
 (hs:ev l s=v) (hx:ev l x=.slice (some ⟨b',0,some 0⟩) 1 1) (hk:az (ap E v xs) kl k1) (hc:az (pt b' (.cells cs)) k1 k2) (hp:cs=E.pat a y) (hF:Sub (E.fs a y) F) (hz:E.n=size)
 (hm:(xs.length+1)*bytes<=1073741824/\(xs.length+1)*size<=1073741824/\xs.length+1<=1073741824):
 dQ (R (λh=>aH P ds (⟨⟨some d,g,.append e size bytes s x⟩,[]⟩::rest) (act n l D pm ro) h K) B w0 kl F)
  (∀v',R (λh=>aH P ds rest (act n ((d,v')::l) D pm ro) h K) B w0 (ap E v' (xs++[a])::k2) F):=by
 refine⟨λr w st=>?_⟩;subst hp hz;have hlen:=E.len a y;have st2:St B w0 (ap E v xs::pt b' (.cells (E.pat a y))::k2) F w:=st.kv (.cons hk (.cons hc .nil));have hat:At w.h b' (.cells (E.pat a y)):=st2.at_ (.there .here);have rJ:St B w0 (ap E v xs::k2) F w:=(st2.gq (.there .here)).tail;have hfs:∀f∈E.fs a y,f.p w:=λf hf=>st.facts f (hF.mem f hf);have hread:w.h.iM b' 0 (1*E.n)=some (E.pat a y):=by
  exact wq
 have hx1:oW (ev l x)=some (0+1):=by rw[hx];rfl
 have hx2:nE E.n (0+1) (ev l x) w.h=some (E.pat a y):=by rw[hx];exact hread
 have put:∀(w':Wd) (c:Nat) (f:Nat) (cells:kI vI),cells.length=xs.length*E.n->(∀(k:Nat) z,xs[k]? =some z->∃y,(∀(j:Nat) u,(E.pat z y)[j]? =some u->cells[k*E.n+j]? =some u)/\∀f∈E.fs z y,f.p w')->(∀f∈E.fs a y,f.p w')->
  (f=0\/f=E.n)->∀S,(pt c (.cells (cells++E.pat a y))).p w' S->(ap E (.slice (some ⟨c,0,some f⟩) (xs.length+1) (xs.length+1)) (xs++[a])).p w' S:=by
  intro w' c f cells h1 h2 h3 h4 S hp;refine .inr ⟨c,0,f,_,by rw[iH];rfl,h4,hp.1,hp.2,by rw[iH,iH,h1,hlen,zS,ru,BL,fo],λk z hk=>?_⟩;by_cases hlt:k<xs.length
  .exact nj
  .exact jn
 obtain⟨S,⟨S1,S2,q,q2,e1⟩,hnd,hown⟩:=rJ.own;rcases q with⟨rfl,rfl,rfl⟩|⟨b,o,f,cells,rfl,hf,rfl,hb,hcl,hel⟩
 .refine abf (c:=0) hn hg hs hx1 hx2 FA λh' ag uS hnx=>?_;obtain⟨w',rfl,kz⟩:=rJ.tail.fresh ag uS hnx;refine r _ w' (kz.Cv λS hp=>?_);have hle:∀f∈E.fs a y,f.p w':=λf hf=>kz.facts f (hF.mem f hf);exact put w' _ E.n [] An (λk z hk=>by cases hk) hle (.inr rfl) S hp
 .have EK:St B w0 (pt b (.cells cells)::k2) F w:=⟨rJ.agree,rJ.le,rJ.af9,⟨S,⟨_,S2,⟨rfl,hb⟩,q2,e1⟩,hnd,hown⟩,rJ.facts⟩
  have MC:At w.h b (.cells cells):=EK.at_ .here;refine Mk (old:=cells.drop o) (xs:=E.pat a y) hn hg hs hx1 hx2 ?_ (hf.elim (λe=>.inl A1) λe=>.inr A1) hm λh' mv=>?_
  .exact ph
  obtain⟨w',rfl,kz,EL⟩:=EK.move mv;refine r _ w' (kz.Cv λS hp=>?_);exact eM
def acg{z:Int}{k:Nat}{d2:Nat}{g2:x8 (Tmp×Bool)}(hn:Nat.blt d n=true)(hg:cZ l g=true)(hn2:Nat.blt d2 n=true)(hg2:∀u,cZ ((d,u)::l) g2=true)(hx:ev l x=v)(hi:ev l i=.int kk (k:Int))
 (hk:az (ap ae v xs) kl kl') (hz:xs[k]? =some z):
 dQ (R (λh=>aH P ds (⟨⟨some d,g,.nQ 1 x i⟩,[]⟩::⟨⟨some d2,g2,.ah2 (.tmp d)⟩,[]⟩::rest) (act n l D pm ro) h K) B w0 kl F)
  (∀b o,R (λh=>aH P ds rest (act n ((d2,.int .i64 z)::(d,.pointer (some ⟨b,o,none⟩))::l) D pm ro) h K) B w0 kl F):=by
 refine⟨λr w s=>?_⟩;have s1:=s.gq hk;obtain⟨S,⟨S1,S2,p,p2,e⟩,h2,h3⟩:=s1.own;have hlt:=(bq.1 hz).1;rcases p with⟨h,_⟩|⟨b,o,f,cells,e1,hf,e2,hb,hcl,hel⟩
 .rw[h]at hz;cases hz
 .subst e1;obtain⟨y,u1,_⟩:=hel k z hz;have hc:cells[o+(k:Int).toNat*1]? =some (.int .i64 z):=by
   exact sv
  refine Mj hn hg hx hi z7 z7 ?_;have hbS:b∈S:=DG
  exact Hg hn2 (hg2 _) DH ⟨(h3 b hbS).2.1,hb⟩ hc (r _ _ w s)
end
end Go.Ideal
namespace Go.Ideal
variable {P:Program} {ρ:aaB->vI}
variable{t:adH}
def rM{d:TypeDesc}(ht:P.underlying t=some d):eD P (underlying t)=some d:=by
 unfold underlying;rw[ig];show(some P).bind _=_;simp only[Option.bind,ht];rfl
variable{x y:aaB}{op:BinOp}
def Cx{a b:vI}(ha:∀c,a≠.agg c)(hn:a≠.nilIface):eD P (eqGuard op t x y a b)=some ():=by
 cases a with
 |nilIface=>exact absurd rfl hn
 |agg c=>exact absurd rfl (ha c)
 |_=>cases op<;>rfl
def Si{a b:Bool}(ht:P.underlying t=some .bool):mg P .eql t x y (.bool a) (.bool b)=some (.bool (a==b))/\mg P .neq t x y (.bool a) (.bool b)=some (.bool (a !=b)):=by
 have he:eD P (Op.equal t (.bool a) (.bool b))=some (a==b):=by
  show eD P (Op.equalIn (9999+1) t (.bool a) (.bool b))=_;unfold Op.equalIn;rw[ig,rM ht];rfl
 have h1:kK P (do eqGuard .eql t x y (.bool a) (.bool b);binOp .eql t (.bool a) (.bool b))=some (.bool (a==b)):=by
  exact ir
 have h2:kK P (do eqGuard .neq t x y (.bool a) (.bool b);binOp .neq t (.bool a) (.bool b))=some (.bool (a !=b)):=by
  exact ir
 exact⟨h1,h2⟩
def Iu{a b:Bool}(hx:ρ x=.bool a)(hy:ρ y=.bool b)(ht:P.underlying t=some .bool):Pu P ρ (.bin .eql t x y) (.bool (a==b)):=λh=>by
 simp only[aF.run,hx,hy,(Si ht).1]
def Iw{a b:Bool}(hx:ρ x=.bool a)(hy:ρ y=.bool b)(ht:P.underlying t=some .bool):Pu P ρ (.bin .neq t x y) (.bool (a !=b)):=λh=>by
 simp only[aF.run,hx,hy,(Si ht).2]
variable{v:vI}
def Sj{a b:ByteArray}(hv:eD P (Op.stringOp op a b)=some v)(hf:cK v=true):mg P op t x y (.string a) (.string b)=some v:=by
 have h1:kK P (do eqGuard op t x y (.string a) (.string b);binOp op t (.string a) (.string b))=some v:=by
  unfold kK;rw[ig,Cx FG CC];have hb:binOp op t (.string a) (.string b)=Op.stringOp op a b:=by cases op<;>rfl
  simp only[iX,hb,hv,hf,cond]
 exact h1
def Iy{a b:ByteArray}(hx:ρ x=.string a)(hy:ρ y=.string b):Pu P ρ (.bin .eql t x y) (.bool (a.toList==b.toList)):=λh=>by
 simp only[aF.run,hx,hy,Sj (op:=.eql) (v:=.bool (a.toList==b.toList)) rfl rfl]
def Iz{a b:ByteArray}(hx:ρ x=.string a)(hy:ρ y=.string b):Pu P ρ (.bin .neq t x y) (.bool (!(a.toList==b.toList))):=λh=>by
 simp only[aF.run,hx,hy,Sj (op:=.neq) (v:=.bool (!(a.toList==b.toList))) rfl rfl]
variable{a b:Int}
def EM(hq:oZ op .i64 a b=none)(hv:eD P (binOp op t (.int .i64 a) (.int .i64 b))=some v)(hf:cK v=true):mg P op t x y (.int .i64 a) (.int .i64 b)=some v:=by
 have h1:kK P (do eqGuard op t x y (.int .i64 a) (.int .i64 b);binOp op t (.int .i64 a) (.int .i64 b))=some v:=by
  unfold kK;rw[ig,Cx FG CC];simp only[iX,hv,hf,cond]
 unfold mg;simp only[uA,cond,hq,cK,Kl];exact h1
def wrap64{m:Int}(h1: -9223372036854775808<=m)(h2:m<9223372036854775808):IntKind.i64.wrap m=m:=IntWalk.i64_in m ⟨h1,z7⟩
def IA(hx:ρ x=.int .i64 a)(hy:ρ y=.int .i64 b)(h1: -9223372036854775808<=a*b)(h2:a*b<9223372036854775808):Pu P ρ (.bin .mul t x y) (.int .i64 (a*b)):=λh=>by
 simp only[aF.run,hx,hy];rw[EM (op:=.mul) (v:=.int .i64 (a*b)) rfl (by
  show eD P (Op.intArith .mul .i64 a b)=_;show some (Value.int .i64 (IntKind.i64.wrap (a*b)))=_;rw[wrap64 h1 h2]) rfl]
def EN(hx:ρ x=.int .i64 a)(hy:ρ y=.int .i64 b)(hb:b≠0)(h1: -9223372036854775808<=a.tdiv b)(h2:a.tdiv b<9223372036854775808):Pu P ρ (.bin .quo t x y) (.int .i64 (a.tdiv b)):=λh=>by
 simp only[aF.run,hx,hy];rw[EM (op:=.quo) (v:=.int .i64 (a.tdiv b)) rfl (by
  show eD P (Op.intDiv .quo .i64 a b)=_;unfold Op.intDiv;rw[if_neg hb];show some (Value.int .i64 (IntKind.i64.wrap (a.tdiv b)))=_;rw[wrap64 h1 h2]) rfl]
def AC(hx:ρ x=.int .i64 a)(hy:ρ y=.int .i64 b)(hb:b≠0):Pu P ρ (.bin .rem t x y) (.int .i64 (a.tmod b)):=λh=>by
 simp only[aF.run,hx,hy];rw[EM (op:=.rem) (v:=.int .i64 (a.tmod b)) rfl (by
  show eD P (Op.intDiv .rem .i64 a b)=_;unfold Op.intDiv;rw[if_neg hb];rfl) rfl]
def IB{i:aaB}{size b o m c k:Nat}{f:x8 Nat}{kk:IntKind}(hx:ρ x=.slice (some ⟨b,o,f⟩) m c)(hi:ρ i=.int kk (k:Int))(h1:k<m):
 Pu P ρ (.nQ size x i) (.pointer (some ⟨b,o+k*size,none⟩)):=EJ (k:=(k:Int)) hx hi z7 z7
end Go.Ideal
namespace Go.Ideal
variable {P:Program}
def Left{Y:Type}(B:kI Nat)(w0:Wd)(val:Y->vI)(kl':Y->kI OA)(fs:Y->kI aO)(pr:Y->Prop):KR:=λr pm h'=>
 pm=none/\∃(w':Wd) (y:Y),w'.h=h'/\St B w0 (kl' y) (fs y) w'/\r=.ok (val y)/\pr y
def bA{Y:Type}(P:Program)(fn:Fn)(args cap:kI vI)(kl:kI OA)(F:kI aO)(val:Y->vI)(kl':Y->kI OA)(fs:Y->kI aO)(pr:Y->Prop):Prop:=
 ∀(B:kI Nat) (w:Wd),St B w kl F w->CALL P ⟨fn,args,cap,none⟩ w.h (Left B w val kl' fs pr)
def qg:Nat->kI vI->qr->qr
 |_,[],l=>l
 |i,v::vs,l=>qg (i+1) vs ((i,v)::l)
def Sk:∀(args:kI vI) (i:Nat) (l:qr),wY args i (ahI l)=ahI (qg i args l)
 |[],i,l=>rfl
 |v::vs,i,l=>by
  show wY vs (i+1) (ahI ((i,v)::l))=_;rw[Sk vs];rfl
def ME(n:Nat)(args:kI vI)(pm:x8 FrameMode):Ab n args pm=act (rD n (iL args)) (qg 0 args []) [] pm none:=by
 show aV.mk _ (wY args 0 (ahI [])) _ _ _=_;rw[Sk];rfl
def ach{Y:Type}{f:agR}{args cap:kI vI}{kl:kI OA}{F:kI aO}{val:Y->vI}{kl':Y->kI OA}{fs:Y->kI aO}{pr:Y->Prop}(cf:gV)(hF:(pX P qC pY).F f=some cf)
 (hb:∀B w0,R (λh=>EV P cf.body (act (rD cf.ntmps (iL (args++cap))) (qg 0 (args++cap) []) [] none none) h (Cs cf (Left B w0 val kl' fs pr))) B w0 kl F):bA P (.func f) args cap kl F val kl' fs pr:=by
 intro B w s;obtain⟨fn,h1,h2⟩:=(Cr P qC pY (λf q h v h' hm=>by cases hm)).fn f cf hF;refine aa4 fn h1 cf h2 ?_;rw[ME];exact hb B w w s
section
variable {B:kI Nat} {w0:Wd} {kl kl' bH:kI OA} {F:kI aO} {K:KO} {ds:kI Tmp} {rest:kI bV} {n:Nat} {l:qr} {D:kI Deferred} {pm:x8 FrameMode} {ro:x8 Nat} {d:Nat} {g:x8 (Tmp×Bool)}
def St.call{w w':Wd}{k1 k1' bH:kI OA}{F1 F':kI aO}{S1 S2:kI Nat}(s:St B w0 kl F w)(hp:∃S:kI Nat,S.Perm (S1++S2)/\S.Nodup/\∀i∈S,(w0.h.next<=i\/i∈B)/\i<w.h.next/\¬w.z i)
 (h2:fI w bH S2) (c:St S1 w k1' F' w'):St B w0 (k1'++bH) (F'++F) w':=by
 obtain⟨S,hperm,aci,hall⟩:=hp;have hnd:=hperm.nodup aci;have hall:∀i∈S1++S2,(w0.h.next<=i\/i∈B)/\i<w.h.next/\¬w.z i:=λi hi=>hall i (hperm.mem_iff.2 hi)
 have hd:=iT.1 hnd;obtain⟨S',c1,c2,c3⟩:=c.own;have hsame:∀i∈S2,w'.h.get i=w.h.get i:=λi hi=>c.agree.get i (hall i (nA _ hi)).2.1 (λhm=>hd.2.2 i hm i hi rfl);refine⟨⟨pQ s.agree.next c.agree.next,λi hi hB=>?_,λa b=>?_⟩,s.le.trans c.le,λi hi hz=>?_,⟨S'++S2,c1.app (fI.loc c.le hsame h2),?_,?_⟩,λf hf=>?_⟩
 .rw[<- s.agree.get i hi hB];refine c.agree.get i (mM hi s.agree.next) (λhm=>?_);rcases(hall i (je _ hm)).1 with q|q
  .omega
  .exact hB q
 .have hl:=s.agree.low a b;rw[c.agree.low (by rw[hl];exact pQ a s.agree.next) (λi hi=>?_),hl];rw[hl];rcases(hall i (je _ hi)).1 with q|q
  .omega
  .exact b i q
 .rcases c.af9 i (mM hi s.agree.next) hz with q|q
  .exact s.af9 i hi q
  .rcases(hall i (je _ q)).1 with u|u
   .omega
   .exact .inr u
 .refine iT.2 ⟨c2,hd.2.1,λa ha b hb e=>?_⟩;subst e;rcases(c3 a ha).1 with q|q
  .have:=(hall a (nA _ hb)).2.1;omega
  .exact hd.2.2 a q a hb rfl
 .intro i hi;rcases dX.1 hi with hi|hi
  .refine⟨?_,(c3 i hi).2⟩;rcases(c3 i hi).1 with q|q
   .exact .inl (pQ s.agree.next q)
   .exact(hall i (je _ q)).1
  .have q:=hall i (nA _ hi);refine⟨q.1,mM q.2.1 c.agree.next,λhz=>?_⟩;rcases c.af9 i q.2.1 hz with u|u
   .exact q.2.2 u
   .exact hd.2.2 i u i hi rfl
 .rcases dX.1 hf with hf|hf
  .exact c.facts f hf
  .exact f.mono c.le (s.facts f hf)
def Same(P:Program)(re:kI iq)(ρ:aaB->vI)(l:qr)(B:kI Nat)(w0:Wd)(kl:kI OA)(F:kI aO):Prop:=
 ∀w,St B w0 kl F w->∀r∈re,∃u h2,r.op.run P ρ w.h=some (u,h2)/\∀d',r.dst=some d'->lk l d'=u
def yZ{ρ:aaB->vI}:Same P [] ρ l B w0 kl F:=λw s r hr=>by cases hr
variable{re:kI iq}{x:aaB}{b o:Nat}{cs:kI vI}{v:vI}
def AJ(hx:ev l x=.pointer (some ⟨b,o,none⟩))(hk:az (pt b (.cells cs)) kl kl')(hv:jU cs o=some v)(hd:lk l d=v)
 (t:Same P re (ev l) l B w0 kl F):Same P (⟨some d,g,.ah2 x⟩::re) (ev l) l B w0 kl F:=λw s r hr=>by
 rcases dx.1 hr with rfl|hr
 .have hc:w.h.om b o=some v:=by rw[(s.at_ hk).c.om,<- sZ];exact hv
  exact⟨v,w.h,by simp only[aF.run,hx,hc],λd' e=>by cases e;exact hd⟩
 .exact t w s r hr
def Cy(hx:ev l x=.pointer (some ⟨b,o,none⟩))(hk:gY b o cs∈F)(hv:jU cs 0=some v)(hd:lk l d=v)
 (t:Same P re (ev l) l B w0 kl F):Same P (⟨some d,g,.ah2 x⟩::re) (ev l) l B w0 kl F:=λw s r hr=>by
 rcases dx.1 hr with rfl|hr
 .exact⟨v,w.h,by simp only[aF.run,hx,show w.h.om b o=some v from Iq (j:=0) (s.facts _ hk) hv],λd' e=>by cases e;exact hd⟩
 .exact t w s r hr
variable{j:Nat}
def EO(hx:ev l x=.pointer (some ⟨b,o+j,none⟩))(hk:gY b o cs∈F)(hv:jU cs j=some v)(hd:lk l d=v)
 (t:Same P re (ev l) l B w0 kl F):Same P (⟨some d,g,.ah2 x⟩::re) (ev l) l B w0 kl F:=λw s r hr=>by
 rcases dx.1 hr with rfl|hr
 .exact⟨v,w.h,by simp only[aF.run,hx,Iq (s.facts _ hk) hv],λd' e=>by cases e;exact hd⟩
 .exact t w s r hr
variable{m:Nat}{c:kI vI}
def EP(hx:ev l x=.pointer (some ⟨b,o,none⟩))(hk:az (pt b (.cells cs)) kl kl')(hv:jf (jH cs o) m=some c)(hd:lk l d=.agg ⟨c⟩)
 (t:Same P re (ev l) l B w0 kl F):Same P (⟨some d,g,.pW m x⟩::re) (ev l) l B w0 kl F:=λw s r hr=>by
 rcases dx.1 hr with rfl|hr
 .have hc:w.h.iM b o m=some c:=by rw[(s.at_ hk).c.iM];exact hv
  exact⟨.agg ⟨c⟩,w.h,by simp only[aF.run,hx,hc],λd' e=>by cases e;exact hd⟩
 .exact t w s r hr
def EQ(hx:ev l x=.pointer (some ⟨b,o,none⟩))(hk:gY b o cs∈F)(hv:jf cs m=some c)(hd:lk l d=.agg ⟨c⟩)
 (t:Same P re (ev l) l B w0 kl F):Same P (⟨some d,g,.pW m x⟩::re) (ev l) l B w0 kl F:=λw s r hr=>by
 rcases dx.1 hr with rfl|hr
 .exact⟨.agg ⟨c⟩,w.h,by simp only[aF.run,hx,show w.h.iM b o m=some c from Ir (j:=0) (s.facts _ hk) (by rw[p9];exact hv)],λd' e=>by cases e;exact hd⟩
 .exact t w s r hr
def ER(hx:ev l x=.pointer (some ⟨b,o+j,none⟩))(hk:gY b o cs∈F)(hv:jf (jH cs j) m=some c)(hd:lk l d=.agg ⟨c⟩)
 (t:Same P re (ev l) l B w0 kl F):Same P (⟨some d,g,.pW m x⟩::re) (ev l) l B w0 kl F:=λw s r hr=>by
 rcases dx.1 hr with rfl|hr
 .exact⟨.agg ⟨c⟩,w.h,by simp only[aF.run,hx,Ir (s.facts _ hk) hv],λd' e=>by cases e;exact hd⟩
 .exact t w s r hr
variable{op:aF}
def MF(hp:Pu P (ev l) op v)(hd:lk l d=v)(t:Same P re (ev l) l B w0 kl F):Same P (⟨some d,g,op⟩::re) (ev l) l B w0 kl F:=λw s r hr=>by
 rcases dx.1 hr with rfl|hr
 .exact⟨v,w.h,hp w.h,λd' e=>by cases e;exact hd⟩
 .exact t w s r hr
variable{vs:kI vI}
def MG{y:aaB}(hg:cZ l g=true)(hx:ev l x=.pointer (some ⟨b,o,none⟩))(hw:ev l y=v)(hy:cellsOf v=some vs)(hm:Nat.beq (iL vs) m=true)
 (hk:az (pt b (.cells cs)) kl kl') (hv:jV cs o vs=some c) (hs:Same P re (ev l) l B w0 (pt b (.cells c)::kl') F):
 dQ (R (λh=>aH P ds (⟨⟨none,g,.store m x y⟩,re⟩::rest) (act n l D pm ro) h K) B w0 kl F) (R (λh=>aH P ds rest (act n l D pm ro) h K) B w0 (pt b (.cells c)::kl') F):=
 ⟨λr w s=>by
  subst hw;have s':=(s.gq hk).write (o':=.cells c);refine .lu (vV hg) dU (w.h.set b (.cells c)) (by rw[nI];simp only[aF.run,hx,hy,hm];simp only[IH.storeAt,(s.at_ hk).2,hv];rfl) (λq hq _=>?_) (r _ s');obtain⟨u,h2,e1,e2⟩:=hs _ s' q hq;exact⟨u,h2,by show q.op.run P (act n l D pm ro).eval _=_;rw[nI];exact e1,λd' hd=>by rw[<- e2 d' hd];exact uQ _ _⟩⟩
def acj(hn:Nat.blt d n=true)(hg:cZ l g=true)(hp:Pu P (ev l) op v)(hs:Same P re (ev ((d,v)::l)) ((d,v)::l) B w0 kl F):
 dQ (R (λh=>aH P ds (⟨⟨some d,g,op⟩,re⟩::rest) (act n l D pm ro) h K) B w0 kl F) (R (λh=>aH P ds rest (act n ((d,v)::l) D pm ro) h K) B w0 kl F):=
 ⟨λr w s=>by
  refine .lu (vV hg) v w.h (by rw[nI];exact hp w.h) (λq hq _=>?_) (by rw[qf hn];exact r w s);obtain⟨u,h2,e1,e2⟩:=hs w s q hq;exact kx⟩
variable{Y:Type}
def ack{f:aaB}{xs:kI aaB}{fn:Fn}{first captured as:kI vI}{k1:kI OA}{F1:kI aO}{val:Y->vI}{k1':Y->kI OA}{fs:Y->kI aO}{pr:Y->Prop}
 (hc:bA P fn as captured k1 F1 val k1' fs pr) (hn:Nat.blt d n=true) (hg:cZ l g=true) (hf:ev l f=.func fn ⟨first⟩ ⟨captured⟩) (hx:EvL (ev l) xs vs) (ha:first++vs=as)
 (hk:aI k1 kl bH) (hF:Sub F1 F)
 (hs:∀y,pr y->Same P re (ev ((d,val y)::l)) ((d,val y)::l) B w0 (k1' y++bH) (fs y++F))
 (next:∀y,pr y->R (λh=>aH P ds rest (act n ((d,val y)::l) D pm ro) h K) B w0 (k1' y++bH) (fs y++F)):
 R (λh=>aH P ds (⟨⟨some d,g,.call f xs⟩,re⟩::rest) (act n l D pm ro) h K) B w0 kl F:=by
 intro w s;obtain⟨S,h1,h2,h3⟩:=s.own;obtain⟨S1,S2,q1,q2,hp⟩:=h1.kv hk;have hsub:∀i∈S1,i∈S:=λi hi=>hp.mem_iff.2 (je _ hi);have s1:St S1 w k1 F1 w:=⟨⟨bT _,λ_ _ _=>rfl,λ_ _=>rfl⟩,Wd.Le.refl w,λi _ hz=>.inl hz,⟨S1,q1,(iT.1 (hp.nodup h2)).1,λi hi=>⟨.inr hi,(h3 i (hsub i hi)).2⟩⟩,λf hf=>s.facts f (hF.mem f hf)⟩
 have hcall:=hc S1 w s1;subst ha;rw[<- hx.map]at hcall;have back:∀(w':Wd) (y:Y),St S1 w (k1' y) (fs y) w'->St B w0 (k1' y++bH) (fs y++F) w':=λw' y c=>s.call (k1:=k1) (F1:=F1) ⟨S,hp,h2,h3⟩ q2 c;refine s_call hn hg fn hf _ hcall ?_ ?_ ?_ ?_
 .rintro v h' ⟨_,w',y,rfl,c,hv,hpr⟩;injection hv with hv;subst hv;exact hs y hpr w' (back w' y c)
 .rintro v h' ⟨_,w',y,rfl,c,hv,hpr⟩;injection hv with hv;subst hv;exact next y hpr w' (back w' y c)
 .rintro ch h' ⟨_,w',y,rfl,c,hv,hpr⟩;cases hv
 .rintro r p h' ⟨e,_⟩;exact e
inductive RS(l:List (Nat×Value))(kl:List OA):List qz->List Value->Prop
 |nil:RS l kl [] []
 |tmp {t:Tmp} {rs:List qz} {v:Value} {vs:List Value} (h:lk l t=v) (r:RS l kl rs vs):RS l kl (.tmp t::rs) (v::vs)
 |cell1 {t:Tmp} {rs:List qz} {v:Value} {vs cs:List Value} {b o:Nat} {kl':List OA} (h:lk l t=.pointer (some ⟨b,o,none⟩)) (hk:az (pt b (.cells cs)) kl kl') (hv:jU cs o=some v) (r:RS l kl rs vs):RS l kl (.cell1 t::rs) (v::vs)
 |qA {n:Nat} {t:Tmp} {rs:List qz} {vs cs c:List Value} {b o:Nat} {kl':List OA} (h:lk l t=.pointer (some ⟨b,o,none⟩)) (hk:az (pt b (.cells cs)) kl kl') (hv:jf (jH cs o) n=some c) (r:RS l kl rs vs):
   RS l kl (.qA n t::rs) (.agg ⟨c⟩::vs)
def RS.all{w:Wd}(s:St B w0 kl F w):∀{rs:kI qz} {vs:kI vI},RS l kl rs vs->wZ (ahI l) w.h rs=some vs
 |_,_,.nil=>rfl
 |_,_,.tmp (t:=t) (rs:=rs) (v:=v) (vs:=vs) h r=>by
  have ih:=RS.all s r;show(match sW (ahI l) w.h (.tmp t),wZ (ahI l) w.h rs with|some v,some vs=>some (v::vs)|_,_=>none)=_;rw[ih];simp only[sW,uQ,h]
 |_,_,.cell1 (t:=t) (rs:=rs) (v:=v) (vs:=vs) h hk hv r=>by
  have ih:=RS.all s r;show(match sW (ahI l) w.h (.cell1 t),wZ (ahI l) w.h rs with|some v,some vs=>some (v::vs)|_,_=>none)=_;rw[ih];simp only[sW,uQ,h,(s.at_ hk).2,hv]
 |_,_,.qA (n:=n) (t:=t) (rs:=rs) (vs:=vs) (c:=c) h hk hv r=>by
  have ih:=RS.all s r;show(match sW (ahI l) w.h (.qA n t),wZ (ahI l) w.h rs with|some v,some vs=>some (v::vs)|_,_=>none)=_;rw[ih];simp only[sW,uQ,h,IH.nR,(s.at_ hk).2,hv]
def rO(vs:kI vI):vI:=
 match vs with
 |[v]=>v
 |vs=>.tuple ⟨vs⟩
def Sl{o:Out}{cf:gV}{val:Y->vI}{k1:Y->kI OA}{fs:Y->kI aO}{pr:Y->Prop}(y:Y)(hr:RS l kl cf.results vs)(hv:rO vs=val y)(hp:pr y)(hk:aI (k1 y) kl bH)(hF:Sub (fs y) F)
 (ho:o=.normal\/o=.ret):R (λh=>Cs cf (Left B w0 val k1 fs pr) o (act n l [] none ro) h) B w0 kl F:=by
 intro w s;have h1:qB cf.results (ahI l) w.h=some (val y):=by
  unfold qB;rw[hr.all s];rw[<- hv];exact sY
 have h2:Left B w0 val k1 fs pr (.ok (val y)) none w.h:=⟨rfl,w,y,rfl,((s.kv hk).drop).sub hF,rfl,hp⟩
 rcases ho with rfl|rfl
 .exact⟨val y,h1,rfl,h2⟩
 .exact⟨val y,h1,rfl,h2⟩
inductive lT{α:Type}(F0:List α):List α->Prop
 |here:lT F0 F0
 |cons {a:α} {F:List α} (h:lT F0 F):lT F0 (a::F)
 |app {G F:List α} (h:lT F0 F):lT F0 (G++F)
def lT.mem{α:Type}{F0:kI α}:∀{F:kI α},lT F0 F->∀f∈F0,f∈F
 |_,.here,f,hf=>hf
 |_,.cons h,f,hf=>cO _ (h.mem f hf)
 |_,.app h,f,hf=>nA _ (h.mem f hf)
inductive rP:List (Nat×Value)->List (Nat×Value)->List (Nat×Value)->Prop
 |nil {ks:List (Nat×Value)}:rP [] ks []
 |drop {k:Nat} {v:Value} {l ks r:List (Nat×Value)} (h:(ks.any λp=>Nat.beq p.1 k)=true) (t:rP l ks r):rP ((k,v)::l) ks r
 |keep {k:Nat} {v:Value} {l ks r:List (Nat×Value)} (h:(ks.any λp=>Nat.beq p.1 k)=false) (t:rP l ((k,v)::ks) r):rP ((k,v)::l) ks ((k,v)::r)
def LI{X:Type}(n:Nat)(D:kI Deferred)(pm:x8 FrameMode)(ro:x8 Nat)(B:kI Nat)(w0:Wd)(m:X->Nat)(L:X->qr)(KL:X->kI OA)(FF:X->kI aO)(inv:X->Prop)
 (l0:qr) (bH:kI OA) (F0:kI aO):Nat->aV->IH->Prop:=λr a h=>
 ∃(x:X) (w:Wd),r=m x/\a=act n (L x++l0) D pm ro/\w.h=h/\St B w0 (KL x++bH) (FF x++F0) w/\inv x
variable{X:Type}
def acm{c:dI}(m:X->Nat)(L:X->qr)(KL:X->kI OA)(FF:X->kI aO)(inv:X->Prop)(x0:X)(hi:inv x0)(l0:qr)(hl:sub (L x0++l0) l)(hk:aI (KL x0) kl bH)(hF:Sub (FF x0) F)
 (body:∀x,inv x->R (λh=>EV P c (act n (L x++l0) D pm ro) h (xE (LI n D pm ro B w0 m L KL FF inv l0 bH F) (m x) K)) B w0 (KL x++bH) (FF x++F)):
 R (λh=>EV P (.loop c) (act n l D pm ro) h K) B w0 kl F:=by
 intro w s;refine RB (L9 hl) ?_;refine aa3 (LI n D pm ro B w0 m L KL FF inv l0 bH F) ?_ (m x0) _ _ ⟨x0,w,rfl,rfl,rfl,(s.kv hk).add (λf hf=>s.facts f (hF.mem f hf)),hi⟩;rintro r a h ⟨x,w',rfl,rfl,rfl,s',hx⟩;exact body x hx w' s'
def acn{m:X->Nat}{L:X->qr}{KL:X->kI OA}{FF:X->kI aO}{inv:X->Prop}{l0:qr}{fu:kI OA}{F0:kI aO}{m0:Nat}(x:X)(hm:m x<m0)(hi:inv x)(hl:sub (L x++l0) l)
 (hk:aI (KL x++bH) kl fu) (hF:Sub (FF x) F) (Az:lT F0 F):R (λh=>xE (LI n D pm ro B w0 m L KL FF inv l0 bH F0) m0 K .normal (act n l D pm ro) h) B w0 kl F:=by
 intro w s;refine abe (m x) hm hl ⟨x,w,rfl,rfl,rfl,?_,hi⟩;have s':=(s.kv hk).drop;exact⟨s'.agree,s'.le,s'.af9,s'.own,λf hf=>(dX.1 hf).elim (λhf=>s.facts f (hF.mem f hf)) (λhf=>s.facts f (Az.mem f hf))⟩
end

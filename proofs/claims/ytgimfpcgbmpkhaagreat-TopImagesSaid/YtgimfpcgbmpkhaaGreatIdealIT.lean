/- Part. -/
import Derived.Test.YtgimfpcgbmpkhaaGreatIdealHT
import Derived.OpenShut
set_option linter.all false
namespace Go.Ideal
open Go.ChangeShapes Go.WideShapes Go.ChangeAt Go.RowKit
def cuts{α:Type}:ae Nat->ae α->ae (ae α)
 |[],_=>[]
 |s::ss,l=>l.take s::cuts ss (l.drop s)
def sums:Nat->ae Nat->ae Nat
 |_,[]=>[]
 |o,s::ss=>o::sums (o+s) ss
def Cw{α:Type}:∀(ss:ae Nat) (l:ae α) (o0 j:Nat) (o s:Nat),(sums o0 ss)[j]? =some o->ss[j]? =some s->(cuts ss l)[j]? =some ((l.drop (o - o0)).take s)/\o0<=o
 |[],l,o0,j,o,s,h,_=>by simp[sums]at h
 |s0::ss,l,o0,0,o,s,h,hs=>by
  simp[sums]at h hs;subst h hs;simp[cuts]
 |s0::ss,l,o0,j+1,o,s,h,hs=>by
  obtain⟨h1,h2⟩:=Cw ss (l.drop s0) (o0+s0) j o s h hs;refine⟨?_,s6⟩;simp only[cuts,IP];rw[h1,List.drop_drop];congr 3;omega
def YQ{α:Type}:∀(ss:ae Nat) (l:ae α),l.length=ss.sum->(cuts ss l).flatten=l
 |[],l,h=>by
  have:l=[]:=(by grind)
  subst this;rfl
 |s::ss,l,h=>by
  simp only[cuts,List.flatten_cons];rw[YQ ss (l.drop s) (by grind),l5]
def Sr{α:Type}:∀(ss:ae Nat) (ps:ae (ae α)),ps.map List.length=ss->cuts ss ps.flatten=ps
 |[],[],_=>rfl
 |[],_::_,h=>by cases h
 |s::ss,[],h=>by cases h
 |s::ss,p::ps,h=>by
  simp only[iX,List.cons.injEq]at h;obtain⟨h1,h2⟩:=h;simp only[cuts,List.flatten_cons];rw[List.take_left' h1,List.drop_left' h1,Sr ss ps h2]
def bB.flatten{β:aQ}:∀{ps qs:ae (ae ah)},ps.length=qs.length->(∀(j:Nat) p q,ps[j]? =some p->qs[j]? =some q->bB β p q)->bB β ps.flatten qs.flatten
 |[],[],_,_=>.nil
 |[],_::_,h,_=>by cases h
 |_::_,[],h,_=>by cases h
 |p::ps,q::qs,h,hv=>by
  exact(hv 0 p q rfl rfl).append (bB.flatten tj λj a b ha hb=>hv (j+1) a b ha hb)
inductive jq(P:Program)(h:IH){H:Type}:TypeId->List Value->DataW H->Prop
 |bool {t:TypeId} {b:Bool} (ht:P.underlying t=some .bool):jq P h t [.bool b] (.lit (.bool b))
 |int {t:TypeId} {k:IntKind} {n:Int} (ht:P.underlying t=some (.int k)) (hw:(Lit.int k n).wf=true):jq P h t [.int k n] (.lit (.int k n))
 |string {t:TypeId} {s:ByteArray} (ht:P.underlying t=some .string) (hs:s.size<=maxLen):jq P h t [.string s] (.lit (.string s.data.toList))
 |nil {t e:TypeId} (ht:P.underlying t=some (.slice e)):jq P h t [.slice none 0 0] .nil
 |slice {t e:TypeId} {i n c:Nat} {cells:List Value} {els rest:List (DataW H)} (ht:P.underlying t=some (.slice e)) (hn:n<=c/\c<=maxLen) (hl:els.length=n) (hc:n=0\/Cells h i cells)
   (hel:∀(k:Nat) d,els[k]? =some d->jq P h e ((cells.drop (k*P.cellsOf e)).take (P.cellsOf e)) d):jq P h t [.slice (some ⟨i,0,some 0⟩) n c] (.slice els rest)
 |struct {t:TypeId} {fs:Array Field} {cs:List Value} {ds:List (DataW H)} (ht:P.underlying t=some (.struct fs)) (hl:cs.length=P.cellsOf t) (hd:ds.length=fs.size)
   (hf:∀(j:Nat) f d,fs[j]? =some f->ds[j]? =some d->jq P h f.type ((cs.drop f.offset).take (P.cellsOf f.type)) d):jq P h t cs (.agg ds)
 |array {t e:TypeId} {n:Nat} {cs:List Value} {ds:List (DataW H)} (ht:P.underlying t=some (.array n e)) (hl:cs.length=P.cellsOf t) (hd:ds.length=n)
   (hf:∀(j:Nat) d,ds[j]? =some d->jq P h e ((cs.drop (j*P.cellsOf e)).take (P.cellsOf e)) d):jq P h t cs (.agg ds)
def jq.mono{P:Program}{h h':IH}{H:Type}(hh:∀i cs,Cells h i cs->Cells h' i cs){t:aM}{cs:ae ah}{d:DataW H}(r:jq P h t cs d):jq P h' t cs d:=by
 induction r with
 |bool ht=>exact .bool ht
 |int ht hw=>exact .int ht hw
 |string ht hs=>exact .string ht hs
 |nil ht=>exact .nil ht
 |slice ht hn hl hc _ ih=>exact .slice ht hn hl (hc.imp id (hh _ _)) ih
 |struct ht hl hd _ ih=>exact .struct ht hl hd ih
 |array ht hl hd _ ih=>exact .array ht hl hd ih
inductive PlainT(P:Program)(K:TypeId->Prop)(t:TypeId):Prop
 |bool (ht:P.underlying t=some .bool)
 |int (k:IntKind) (ht:P.underlying t=some (.int k))
 |string (ht:P.underlying t=some .string)
 |slice (e:TypeId) (ht:P.underlying t=some (.slice e)) (he:K e) (hs:0<P.cellsOf e)
 |struct (fs:Array Field) (ht:P.underlying t=some (.struct fs)) (hf:∀f∈fs.toList,K f.type) (ho:fs.toList.map (·.offset)=sums 0 (fs.toList.map λf=>P.cellsOf f.type))
   (hs:P.cellsOf t=(fs.toList.map λf=>P.cellsOf f.type).sum)
 |array (n:Nat) (e:TypeId) (ht:P.underlying t=some (.array n e)) (he:K e) (hs:P.cellsOf t=n*P.cellsOf e)
def Nh(L M:Lay):(l6 L).le (l6 (L++M)):=λi g h=>by
 unfold l6 at h⊢
 grind
variable{M L:Lay}{cs:ae ah}
def Su{i:Nat}(h:Cells (mH L) i cs):Cells (mH (L++M)) i cs:=by
 obtain⟨h1,h2⟩:=h;have h1:i<L.length:=h1;refine⟨by show i<(L++M).length;grind,?_⟩;rw[Sq]at h2⊢
 grind
def Gs.app{w:World}{g:jk}(k:Gs L w g cs):Gs (L++M) w g cs:=
 ⟨k.block,k.sz,k.all,λj v hj=>let⟨v',a,b⟩:=k.cell j v hj;⟨v',a,b.mono (Nh _ _)⟩⟩
def qU(W:World)(L0 M:Lay):Prop:=∀(i:Nat) g cs,L0.length<=i->(L0++M)[i]? =some (some g,some cs)->Gs (L0++M) W g cs
variable{L0:Lay}{W:World}
def qU.nil:qU W L0 []:=λi g cs hi h=>by
 grind
def qU.app{N:Lay}(h1:qU W L0 M)(h2:qU W (L0++M) N):qU W L0 (M++N):=λi g cs hi h=>by
 rw[<- fo]at h⊢;by_cases hm:(L0++M).length<=i
 .exact h2 i g cs hm h
 .rw[ql s6]at h;exact(h1 i g cs hi h).app
section
variable {H:Type} {enc:aM×ah->H} {P:Program} {W:World} {K:aM->Prop}
def xm(P:Program)(W:World)(L0 M:Lay)(t:aM)(cs cs':ae ah)(d:DataW H):Prop:=
 bB (l6 (L0++M)) cs' cs/\cs'.all cellV=true/\jq P (mH (L0++M)) t cs' d
variable{cs:ae ah}{L0 M:Lay}
def xm.app{N:Lay}{t:aM}{cs':ae ah}{d:DataW H}(k:xm P W L0 M t cs cs' d):xm P W L0 (M++N) t cs cs' d:=by
 obtain⟨h1,h2,h3⟩:=k;unfold xm;rw[<- fo];exact⟨h1.mono (Nh _ _),h2,h3.mono λi cs hc=>Su hc⟩
def Sv{n:Nat}(ih:∀t cs x,K t->DataW.trod enc P W 0 (λ_=>true) true n t cs=some x->∀L0:Lay,∃M cs',xm P W L0 M t cs cs' x.1/\qU W L0 M):
 ∀(ps:ae (aM×ae ah×(DataW H×ae MemPlace))),(∀p∈ps,K p.1/\DataW.trod enc P W 0 (λ_=>true) true n p.1 p.2.1=some p.2.2)->∀L0:Lay,
  ∃(M:Lay) (css:ae (ae ah)),css.length=ps.length/\(∀(j:Nat) p cs',ps[j]? =some p->css[j]? =some cs'->xm P W L0 M p.1 p.2.1 cs' p.2.2.1)/\qU W L0 M
 |[],_,L0=>⟨[],[],rfl,(by grind),.nil⟩
 |p::ps,hp,L0=>by
  obtain⟨h1,h2⟩:=hp p (eX ..);obtain⟨M1,cs1,k1,k2⟩:=ih _ _ _ h1 h2 L0;obtain⟨M2,css,q1,q2,q3⟩:=Sv ih ps (by grind) (L0++M1);refine⟨M1++M2,cs1::css,by simp[q1],λj p' cs' hj hc=>?_,k2.app q3⟩;cases j with
  |zero=>
   simp only[FE,bC]at hj hc;subst hj hc;exact k1.app
  |succ j=>
   have:=q2 j p' cs' hj hc;unfold xm at this⊢
   grind
def all_flatten:∀{css:ae (ae ah)},(∀cs∈css,cs.all cellV=true)->css.flatten.all cellV=true
 |[],_=>rfl
 |cs::css,h=>by
  grind
def YR{ss:ae Nat}{ps:ae (aM×ae ah×(DataW H×ae MemPlace))}{css:ae (ae ah)}(hlen:cs.length=ss.sum)(hps:ps.map (·.2.1)=cuts ss cs)
 (hcl:css.length=ps.length) (hk:∀(j:Nat) p cs',ps[j]? =some p->css[j]? =some cs'->xm P W L0 M p.1 p.2.1 cs' p.2.2.1) (hsz:(cuts ss cs).map List.length=ss):
 bB (l6 (L0++M)) css.flatten cs/\css.flatten.all cellV=true/\cuts ss css.flatten=css:=by
 have hv:∀(j:Nat) a b,css[j]? =some a->(cuts ss cs)[j]? =some b->bB (l6 (L0++M)) a b:=λj a b ha hb=>by
  rw[<- hps,eF]at hb;cases e:ps[j]? with
  |none=>rw[e]at hb;cases hb
  |some p=>rw[e]at hb;cases hb;exact(hk j p a e ha).1
 have hl2:css.length=(cuts ss cs).length:=by rw[hcl,<- hps,bi]
 refine⟨?_,?_,?_⟩
 .have:=bB.flatten hl2 hv;rw[YQ ss cs hlen]at this;exact this
 .refine all_flatten λc hc=>?_;obtain⟨j,hj⟩:=gT hc;have hjl:j<ps.length:=by rw[<- hcl];exact(bz.1 hj).1
  exact(hk j ps[j] c (bN hjl) hj).2.1
 .apply Sr;rw[<- hsz];apply iQ;intro j;rw[eF,eF];cases e1:css[j]? with
  |none=>
   rw[fT (by rw[<- hl2];exact List.getElem?_eq_none_iff.1 e1)]
  |some a=>
   have hj:j<(cuts ss cs).length:=by rw[<- hl2];exact(bz.1 e1).1
   rw[bN hj];have:=(hv j a _ e1 (bN hj)).length;simp only[oJ];rw[this]
def JO:∀(ss:ae Nat) (cs:ae ah),cs.length=ss.sum->(cuts ss cs).map List.length=ss
 |[],_,_=>rfl
 |s::ss,cs,h=>by
  simp only[cuts,iX];rw[JO ss (cs.drop s) (by grind)]
  grind
variable{a:Addr}{n:Nat}
def Sw{base:Nat}(h:W.cells? base a n=some cs):cs.length=n/\∀(j:Nat) v,cs[j]? =some v->W.cell? (a.add j)=some v:=by
 obtain⟨_,h2,h3⟩:=World.cells?_some h
 grind
def aid(ih:∀t cs x,K t->DataW.trod enc P W 0 (λ_=>true) true n t cs=some x->∀L0:Lay,∃M cs',xm P W L0 M t cs cs' x.1/\qU W L0 M)
 {t:aM} {fs:Array Field} {cs:ae ah} {xs:ae (DataW H×ae MemPlace)} (ht:P.underlying t=some (.struct fs)) (hf:∀f∈fs.toList,K f.type)
 (ho:fs.toList.map (·.offset)=sums 0 (fs.toList.map λf=>P.cellsOf f.type)) (hs:P.cellsOf t=(fs.toList.map λf=>P.cellsOf f.type).sum)
 (hlen:cs.length=P.cellsOf t) (hxl:xs.length=fs.size)
 (hx:∀(i:Nat) (f:Field),fs[i]? =some f->DataW.trod enc P W 0 (λ_=>true) true n f.type ((cs.drop f.offset).take (P.cellsOf f.type))=xs[i]?) (L0:Lay):
 ∃M cs',xm P W L0 M t cs cs' (.agg (xs.map (·.1)))/\qU W L0 M:=by
 let ss:=fs.toList.map λf=>P.cellsOf f.type
 let ps:ae (aM×ae ah×(DataW H×ae MemPlace)):=(fs.toList.zip xs).map λq=>(q.1.type,(cs.drop q.1.offset).take (P.cellsOf q.1.type),q.2)
 have hps:∀(j:Nat) p,ps[j]? =some p->∃f x,fs[j]? =some f/\xs[j]? =some x/\p=(f.type,(cs.drop f.offset).take (P.cellsOf f.type),x):=(by grind)
 have hoff:∀(j:Nat) f,fs[j]? =some f->(sums 0 ss)[j]? =some f.offset/\ss[j]? =some (P.cellsOf f.type):=(by grind)
 have hsum:cs.length=ss.sum:=hlen.trans hs;have hpl:ps.length=fs.size:=by
  grind
 have hcut:ps.map (·.2.1)=cuts ss cs:=by
  apply iQ;intro j;rw[eF];have hcl:(cuts ss cs).length=fs.size:=by
   have:=congrArg List.length (JO ss cs hsum)
   grind
  cases e:ps[j]? with
  |none=>
   grind
  |some p=>
   obtain⟨f,x,h1,h2,rfl⟩:=hps j p e;obtain⟨q1,q2⟩:=hoff j f h1;rw[(Cw ss cs 0 j f.offset _ q1 q2).1];rfl
 obtain⟨M,css,k1,k2,k3⟩:=Sv ih ps (λp hp=>by
  obtain⟨j,hj⟩:=gT hp
  grind) L0
 obtain⟨v1,v2,v3⟩:=YR hsum hcut k1 k2 (JO ss cs hsum);refine⟨M,css.flatten,⟨v1,v2,?_⟩,k3⟩;refine .struct ht (by rw[<- v1.length,hlen]) (by grind) ?_;intro j f d hj hd;rw[eF]at hd;cases ex:xs[j]? with
 |none=>rw[ex]at hd;cases hd
 |some x=>
  rw[ex]at hd;cases hd;obtain⟨q1,q2⟩:=hoff j f hj;have hg:=(Cw ss css.flatten 0 j f.offset _ q1 q2).1;rw[v3,BQ]at hg;have iD:ps[j]? =some (f.type,(cs.drop f.offset).take (P.cellsOf f.type),x):=by
   grind
  exact(k2 j _ _ iD hg).2.2
def Ni(s:Nat):∀(n o0 j:Nat),j<n->(sums o0 (List.replicate n s))[j]? =some (o0+j*s)/\(List.replicate n s)[j]? =some s
 |0,o0,j,h=>by omega
 |n+1,o0,0,h=>by simp[wR,sums]
 |n+1,o0,j+1,h=>by
  obtain⟨h1,h2⟩:=Ni s n (o0+s) j s6;simp only[wR,sums]
  grind
def YS(ih:∀t cs x,K t->DataW.trod enc P W 0 (λ_=>true) true n t cs=some x->∀L0:Lay,∃M cs',xm P W L0 M t cs cs' x.1/\qU W L0 M)
 {e:aM} {m:Nat} {cs:ae ah} {xs:ae (DataW H×ae MemPlace)} (he:K e) (hlen:cs.length=m*P.cellsOf e) (hxl:xs.length=m)
 (hx:∀(i:Nat),i<m->DataW.trod enc P W 0 (λ_=>true) true n e ((cs.drop (i*P.cellsOf e)).take (P.cellsOf e))=xs[i]?) (L0:Lay):
 ∃(M:Lay) (cs':ae ah),bB (l6 (L0++M)) cs' cs/\cs'.all cellV=true/\(∀(j:Nat) d,(xs.map (·.1))[j]? =some d->jq P (mH (L0++M)) e ((cs'.drop (j*P.cellsOf e)).take (P.cellsOf e)) d)/\qU W L0 M:=by
 let ss:=List.replicate m (P.cellsOf e)
 let ps:ae (aM×ae ah×(DataW H×ae MemPlace)):=(List.range m).zip xs|>.map λq=>(e,(cs.drop (q.1*P.cellsOf e)).take (P.cellsOf e),q.2)
 have hps:∀(j:Nat) p,ps[j]? =some p->∃x,j<m/\xs[j]? =some x/\p=(e,(cs.drop (j*P.cellsOf e)).take (P.cellsOf e),x):=(by grind)
 have hsum:cs.length=ss.sum:=by rw[hlen];simp[ss,List.sum_replicate_nat]
 have hcut:ps.map (·.2.1)=cuts ss cs:=by
  apply iQ;intro j;rw[eF];have hcl:(cuts ss cs).length=m:=by
   have:=congrArg List.length (JO ss cs hsum)
   grind
  cases ep:ps[j]? with
  |none=>
   grind
  |some p=>
   obtain⟨x,h1,h2,rfl⟩:=hps j p ep;obtain⟨q1,q2⟩:=Ni (P.cellsOf e) m 0 j h1;rw[(Cw ss cs 0 j _ _ q1 q2).1];simp
 obtain⟨M,css,k1,k2,k3⟩:=Sv ih ps (λp hp=>by
  obtain⟨j,hj⟩:=gT hp
  grind) L0
 obtain⟨v1,v2,v3⟩:=YR hsum hcut k1 k2 (JO ss cs hsum);refine⟨M,css.flatten,v1,v2,?_,k3⟩;intro j d hd;rw[eF]at hd;cases ex:xs[j]? with
 |none=>rw[ex]at hd;cases hd
 |some x=>
  rw[ex]at hd;cases hd;have hjm:j<m:=by grind
  obtain⟨q1,q2⟩:=Ni (P.cellsOf e) m 0 j hjm;have hg:=(Cw ss css.flatten 0 j _ _ q1 q2).1;rw[v3,gq,BQ]at hg;have iD:ps[j]? =some (e,(cs.drop (j*P.cellsOf e)).take (P.cellsOf e),x):=by
   grind
  exact(k2 j _ _ iD hg).2.2
def YT(hs:a.spot=none)(j:Nat):a.add j=⟨a.block,a.off+j,none⟩:=by
 obtain⟨ab,ao,sp⟩:=a;subst hs;by_cases h:j=0
 .simp[Addr.add]
 .simp[Addr.add,h]
def cell_spot{v:ah}(h:W.cell? a=some v):a.spot=none/\∃c t fz,W.heap[a.block]? =some (.cells c t fz):=by
 unfold World.cell? at h;split at h
 .rename_i c t fz hb;split at h
  .cases h
  .refine⟨?_,c,t,fz,hb⟩;cases e:a.spot with
   |none=>rfl
   |some x=>grind
 .cases h
def aie{s m:Nat}(hs:0<s)(h:∀i,i<m->∃c,W.cells? 0 (a.add (i*s)) s=some c):
 ∃cs:ae ah,cs.length=m*s/\(∀i,i<m->W.cells? 0 (a.add (i*s)) s=some ((cs.drop (i*s)).take s)):=by
 let css:=(List.range m).map λi=>(W.cells? 0 (a.add (i*s)) s).getD []
 have hget:∀i,i<m->∃c,W.cells? 0 (a.add (i*s)) s=some c/\css[i]? =some c/\c.length=s:=λi hi=>by
  obtain⟨c,hc⟩:=h i hi;refine⟨c,hc,?_,(Sw hc).1⟩
  grind
 have hlen:css.map List.length=List.replicate m s:=by
  apply iQ
  grind
 refine⟨css.flatten,?_,λi hi=>?_⟩
 .rw[List.length_flatten,hlen,List.sum_replicate_nat]
 .obtain⟨c,h1,h2,_⟩:=hget i hi;obtain⟨q1,q2⟩:=Ni s m 0 i hi;have:=(Cw _ css.flatten 0 i _ _ q1 q2).1;rw[Sr _ css hlen,BQ]at this
  grind
def YU(hK:∀t,K t->PlainT P K t):∀(n:Nat) (t:aM) (cs:ae ah) (x:DataW H×ae MemPlace),K t->DataW.trod enc P W 0 (λ_=>true) true n t cs=some x->
 ∀L0:Lay,∃M cs',xm P W L0 M t cs cs' x.1/\qU W L0 M
 |0,t,cs,x,_,h,_=>by simp[DataW.trod]at h
 |n+1,t,cs,x,hT,h,L0=>by
  have ih:=YU hK n;cases hK t hT with
  |bool ht=>
   obtain⟨b,rfl,rfl⟩:=DataW.trod_bool ht h;exact⟨[],[.bool b],⟨.cons (.bool b) .nil,rfl,.bool ht⟩,.nil⟩
  |int k ht=>
   obtain⟨m,rfl,rfl,hw⟩:=DataW.trod_int ht h;exact⟨[],[.int k m],⟨.cons (.int k m) .nil,rfl,.int ht hw⟩,.nil⟩
  |string ht=>
   obtain⟨s,rfl,rfl,hs⟩:=DataW.trod_string ht h;exact⟨[],[.string s],⟨.cons (.string s) .nil,rfl,.string ht hs⟩,.nil⟩
  |struct fs ht hf ho hs=>
   obtain⟨xs,m,hm,rfl,hl,hxl,hx⟩:=DataW.trod_struct ht h;cases hm;exact aid ih ht hf ho hs hl hxl hx L0
  |array m e ht he hs=>
   obtain⟨xs,k,hk,rfl,hl,hxl,hx⟩:=Go.DataW.trod_array ht h;cases hk;obtain⟨M,cs',v1,v2,v3,v4⟩:=YS ih he (hl.trans hs) hxl hx L0;exact⟨M,cs',⟨v1,v2,.array ht (by rw[<- v1.length,hl]) (by rw[bi,hxl]) v3⟩,v4⟩
  |slice e ht he hs=>
   rcases DataW.trod_slice ht h with⟨rfl,rfl⟩|⟨a,len,cap,elems,rest,k,hk,rfl,rfl,_,hlc,hcm,hel,hes,hsp,_⟩
   .exact⟨[],[.slice none 0 0],⟨.cons (.sl0 0 0) .nil,rfl,.nil ht⟩,.nil⟩
   cases hk;obtain⟨hrl,hrs⟩:=hsp rfl;have hcells:∀i,i<len->∃c y,W.cells? 0 (a.add (i*P.cellsOf e)) (P.cellsOf e)=some c/\elems[i]? =some y/\DataW.trod enc P W 0 (λ_=>true) true n e c=some y:=λi hi=>by
    have h1:=hes i hi;have hi':i<elems.length:=s6
    rw[bN hi',Option.bind_eq_some_iff]at h1;obtain⟨c,h2,h3⟩:=h1;exact⟨c,_,h2,bN hi',h3⟩
   obtain⟨wcs,hwl,hwc⟩:=aie (W:=W) (a:=a) (m:=len) hs (λi hi=>let⟨c,_,h1,_⟩:=hcells i hi;⟨c,h1⟩);obtain⟨M,cs',v1,v2,v3,v4⟩:=YS ih (cs:=wcs) (xs:=elems) he hwl hel (λi hi=>by
    obtain⟨c,y,h1,h2,h3⟩:=hcells i hi;rw[hwc i hi]at h1;rw[Option.some.inj h1,h3,h2]) L0
   have Cx:0<cap->∃v,W.cell? a=some v:=λhc=>by
    have key:∀c,W.cells? 0 (a.add (0*P.cellsOf e)) (P.cellsOf e)=some c->∃v,W.cell? a=some v:=λc h1=>by
     rw[IW]at h1;have h0:a.add 0=a:=by simp[Addr.add]
     rw[h0]at h1;obtain⟨q1,q2⟩:=Sw h1;have hc0:0<c.length:=s6
     have:=q2 0 c[0] (bN hc0);rw[h0]at this;exact⟨_,this⟩
    by_cases hl0:0<len
    .obtain⟨c,_,h1,_⟩:=hcells 0 hl0;exact key c h1
    .have h1:=hrs 0 s6;have hr0:0<rest.length:=by omega
     rw[bN hr0,Option.bind_eq_some_iff]at h1;obtain⟨c,h2,_⟩:=h1;have hz:len+0=0:=s6
     rw[hz]at h2;exact key c h2
   let g:jk:=⟨a.block,a.off,len*P.cellsOf e,0,0⟩
   let en:az jk×az (ae ah):=(some g,if len=0 then none else some cs')
   have hidx:(L0++(M++[en]))[(L0++M).length]? =some en:=by
    rw[<- fo,sN (bG _)];simp
   have oL:VR (l6 (L0++(M++[en]))) (.slice (some ⟨(L0++M).length,0,some 0⟩) len cap) (.slice (some a) len cap):=by
    refine .aA (g:=g) ?_ rfl hlc ?_
    .unfold l6;rw[hidx];rfl
    .by_cases hc:cap=0
     .exact .inl hc
     .obtain⟨v,hv⟩:=Cx s6;exact .inr ⟨rfl,(cell_spot hv).1⟩
   refine⟨M++[en],[.slice (some ⟨(L0++M).length,0,some 0⟩) len cap],⟨.cons oL .nil,rfl,?_⟩,?_⟩
   .refine .slice ht ⟨hlc,hcm⟩ (by rw[bi,hel]) (cells:=cs') ?_ ?_
    .by_cases hl0:len=0
     .exact .inl hl0
     .right;refine ah6 (g:=some g) ?_;rw[hidx];simp only[en,if_neg hl0]
    .intro j d hj;have:=v3 j d hj;rw[<- fo];exact this.mono λi cs hc=>Su hc
   .refine v4.app ?_;intro i g' c hi hget;have hi2:i=(L0++M).length:=by
     have:=(bz.1 hget).1;rw[fu]at this;simp at this hi⊢;omega
    subst hi2;rw[fo,hidx]at hget;simp only[en,bC,lQ]at hget;obtain⟨rfl,hc⟩:=hget;split at hc
    .cases hc
    .rename_i hl0;cases hc;obtain⟨v0,hv0⟩:=Cx s6;obtain⟨hspot,hblk⟩:=cell_spot hv0;refine⟨let⟨c,t,fz,e⟩:=hblk;⟨c,t,fz,e,.inl rfl⟩,rfl,v2,λj v hj=>?_⟩;obtain⟨v',hj',hv⟩:=v1.get hj;refine⟨v',?_,hv.mono (Nh _ _)⟩;show W.cell? ⟨a.block,a.off+j,none⟩=some v';have hjl:j<len*P.cellsOf e:=by rw[<- hwl];exact(bz.1 hj').1
     have hq:j/P.cellsOf e<len:=(WY hs).2 hjl;have hm:=BN j hs;have Cy:=Nat.div_add_mod j (P.cellsOf e);have hcell:=(Sw (hwc _ hq)).2 (j%P.cellsOf e) v' (by
      rw[wP,if_pos hm,rH,<- hj'];congr 1;rw[IX];exact Cy)
     rw[YT hspot]at hcell;rw[YT rfl]at hcell;simp only at hcell;rw[<- hcell];congr 2;rw[pR,IX,Cy]
end
end Go.Ideal
namespace Go.Ideal
open Go.ChangeShapes Go.WideShapes Go.ChangeAt Go.RowKit
def YV(P:Program)(ts:ae aM):Bool:=ts.all λt=>match P.underlying t with
 |some .bool=>true
 |some (.int _)=>true
 |some .string=>true
 |some (.slice e)=>ts.contains e&&Nat.blt 0 (P.cellsOf e)
 |some (.struct fs)=>fs.toList.all (λf=>ts.contains f.type)&&(fs.toList.map (·.offset)==sums 0 (fs.toList.map λf=>P.cellsOf f.type))&&P.cellsOf t==(fs.toList.map λf=>P.cellsOf f.type).sum
 |some (.array n e)=>ts.contains e&&P.cellsOf t==n*P.cellsOf e
 |_=>false
def aih{P:Program}{ts:ae aM}(h:YV P ts=true):∀t,t∈ts->PlainT P (·∈ts) t:=λt ht=>by
 unfold YV at h;rw[jU]at h;have h:=h t ht;split at h
 .rename_i hu;exact .bool hu
 .rename_i k hu;exact .int k hu
 .rename_i hu;exact .string hu
 .rename_i e hu;simp only[gV]at h;exact .slice e hu (by grind) (JJ h.2)
 .rename_i fs hu;simp only[gV,beq_iff_eq]at h;exact .struct fs hu (by grind) h.1.2 h.2
 .rename_i n e hu;simp only[gV,beq_iff_eq]at h;exact .array n e hu (by grind) h.2
 .cases h
section
variable {H:Type} {enc:aM×ah->H} {P:Program} {W:World} {K:aM->Prop}
def Cz(P:Program)(h:IH)(t:aM)(v:ah)(d:DataW H):Prop:=
 ∃cs,jq P h t cs d/\cs.all cellV=true/\(cs=[v]\/v=.agg ⟨cs⟩)
def Cz.app{L M:Lay}{t:aM}{v:ah}{d:DataW H}(r:Cz P (mH L) t v d):Cz P (mH (L++M)) t v d:=by
 obtain⟨cs,h1,h2,h3⟩:=r;exact⟨cs,h1.mono λi cs hc=>Su hc,h2,h3⟩
def aii(hK:∀t,K t->PlainT P K t){t:aM}{v:ah}{d:DataW H}{p:ae MemPlace}(hT:K t)(hok:Value.okWide P W .any 0 t v)(h:DataW.Trod enc P W 0 (λ_=>true) true t v d p)(L0:Lay):
 ∃M v',VR (l6 (L0++M)) v' v/\Cz P (mH (L0++M)) t v' d/\qU W L0 M:=by
 obtain⟨n,hn⟩:=h;obtain⟨M,cs',⟨h1,h2,h3⟩,h4⟩:=YU hK n t _ _ hT hn L0;have agg:∀cs,v=.agg cs->∃M v',VR (l6 (L0++M)) v' v/\Cz P (mH (L0++M)) t v' d/\qU W L0 M:=λcs e=>by
  subst e;exact⟨M,.agg ⟨cs'⟩,.agg h2 h1,⟨cs',h3,h2,.inr rfl⟩,h4⟩
 have one:v.cells= #[v]->∃M v',VR (l6 (L0++M)) v' v/\Cz P (mH (L0++M)) t v' d/\qU W L0 M:=λe=>by
  rw[e]at h1;match cs',h1,h2,h3 with
  |[v'],.cons h1 .nil,h2,h3=>exact⟨M,v',h1,⟨[v'],h3,h2,.inl rfl⟩,h4⟩
 cases hv:v with
 |agg cs=>grind
 |_=>rw[<- hv];exact one (by rw[hv];rfl)
def YW(hK:∀t,K t->PlainT P K t):∀{ts:ae aM} {vs:ae ah} {ds:ae (DataW H)} {ps:ae MemPlace},(∀t∈ts,K t)->(∀(j:Nat) t v,ts[j]? =some t->vs[j]? =some v->Value.okWide P W .any 0 t v)->
 DataW.TrodAll enc P W 0 (λ_=>true) true ts vs ds ps->∀L0:Lay,∃(M:Lay) (vs':ae ah),bB (l6 (L0++M)) vs' vs/\
  (∀(j:Nat) t v d,ts[j]? =some t->vs'[j]? =some v->ds[j]? =some d->Cz P (mH (L0++M)) t v d)/\qU W L0 M
 |[],[],[],_,_,_,_,L0=>⟨[],[],.nil,(by grind),.nil⟩
 |t::ts,v::vs,d::ds,_,hT,hok,⟨p,q,h1,h2,_⟩,L0=>by
  obtain⟨M1,v',a1,a2,a3⟩:=aii hK (by grind) (hok 0 t v rfl rfl) h1 L0;obtain⟨M2,vs',b1,b2,b3⟩:=YW hK (by grind) (λj t v hj hv=>hok (j+1) t v hj hv) h2 (L0++M1);rw[fo]at b1 b2;refine⟨M1++M2,v'::vs',.cons ?_ b1,?_,a3.app b3⟩
  .rw[<- fo];exact a1.mono (Nh _ _)
  .intro j t' w d' hj hw hd;cases j with
   |zero=>
    simp only[FE,bC]at hj hw hd;subst hj hw hd;rw[<- fo];exact a2.app
   |succ j=>grind
end
section
variable {H:Type} {P:Program} {h:IH} {t e:aM} {cs:ae ah} {d:DataW H}
def jq.oh{k:IntKind}(ht:P.underlying t=some (.int k))(r:jq P h t cs d):∃n,cs=[.int k n]/\d=.lit (.int k n)/\(Lit.int k n).wf=true:=by
 cases r with
 |int ht' hw=>grind
 |bool ht'=>grind
 |string ht'=>grind
 |nil ht'=>grind
 |slice ht'=>grind
 |struct ht'=>grind
 |array ht'=>grind
def jq.MK(ht:P.underlying t=some .bool)(r:jq P h t cs d):∃b,cs=[.bool b]/\d=.lit (.bool b):=by
 cases r with
 |bool ht'=>exact⟨_,rfl,rfl⟩
 |int ht' hw=>grind
 |string ht'=>grind
 |nil ht'=>grind
 |slice ht'=>grind
 |struct ht'=>grind
 |array ht'=>grind
def jq.Eh(ht:P.underlying t=some .string)(r:jq P h t cs d):∃s:ByteArray,cs=[.string s]/\d=.lit (.string s.data.toList)/\s.size<=maxLen:=by
 cases r with
 |string ht' hs=>grind
 |bool ht'=>grind
 |int ht' hw=>grind
 |nil ht'=>grind
 |slice ht'=>grind
 |struct ht'=>grind
 |array ht'=>grind
def jq.oK(ht:P.underlying t=some (.slice e))(r:jq P h t cs d):
 (cs=[.slice none 0 0]/\d=.nil)\/∃i n c cells els rest,cs=[.slice (some ⟨i,0,some 0⟩) n c]/\d=.slice els rest/\(n<=c/\c<=maxLen)/\els.length=n/\(n=0\/Cells h i cells)/\
   ∀(k:Nat) d,els[k]? =some d->jq P h e ((cells.drop (k*P.cellsOf e)).take (P.cellsOf e)) d:=by
 cases r with
 |nil ht'=>grind
 |slice ht' hn hl hc hel=>grind
 |string ht'=>grind
 |bool ht'=>grind
 |int ht' hw=>grind
 |struct ht'=>grind
 |array ht'=>grind
def jq.YX{fs:Array Field}(ht:P.underlying t=some (.struct fs))(r:jq P h t cs d):
 ∃ds,d=.agg ds/\cs.length=P.cellsOf t/\ds.length=fs.size/\∀(j:Nat) f d,fs[j]? =some f->ds[j]? =some d->jq P h f.type ((cs.drop f.offset).take (P.cellsOf f.type)) d:=by
 cases r with
 |struct ht' hl hd hf=>grind
 |array ht'=>grind
 |nil ht'=>grind
 |slice ht'=>grind
 |string ht'=>grind
 |bool ht'=>grind
 |int ht' hw=>grind
def Sy:DataW H->Int
 | .lit (.int _ n)=>n
 |_=>0
def jq.ints{v:ah}(ht:P.underlying t=some (.slice e))(he:P.underlying e=some (.int .i64))(hc:P.cellsOf e=1)(r:jq P h t [v] d):∃xs,AJ h v xs/\∀x∈xs, -9223372036854775808<=x/\x<9223372036854775808:=by
 rcases r.oK ht with⟨e1,_⟩|⟨i,n,c,cells,els,rest,e1,_,hn,hl,hcl,hel⟩
 .exact⟨[],.inl (by grind),s7⟩
 .injection e1 with e1;subst e1;have each:∀(k:Nat) d,els[k]? =some d->cells[k]? =some (.int .i64 (Sy d))/\(Lit.int .i64 (Sy d)).wf=true:=λk d hk=>by
   have:=hel k d hk;rw[hc,lU]at this;obtain⟨m,h1,h2,h3⟩:=this.oh he;subst h2;refine⟨?_,h3⟩;have h4:((cells.drop k).take 1)[0]? =some (.int .i64 m):=by rw[h1];rfl
   rw[wP,rH]at h4;exact h4
  refine⟨els.map Sy,?_,?_⟩
  .rcases hcl with h0|hcl
   .left
    grind
   .right
    grind
  .intro x hx;obtain⟨d,hd,rfl⟩:=cO.1 hx;obtain⟨k,hk⟩:=gT hd;have:=(each k d hk).2;simp only[Lit.wf,IntKind.min,IntKind.max,IntKind.signed,IntKind.bits,gV]at this
   grind
end
end Go.Ideal
namespace Canon
structure Gt{α:Type}(c:α->α->Int):Prop where
 zero:∀a b,c a b=0↔a=b
 neg:∀a b,c a b<0↔0<c b a
 trans:∀a b d,c a b<0->c b d<0->c a d<0
def dB(a b:Int):Int:=if a<b then -1 else if b<a then 1 else 0
def uH:Gt dB where
 zero a b:=by unfold dB;grind
 neg a b:=by unfold dB;grind
 trans a b d h1 h2:=by
  unfold dB at h1 h2⊢
  grind
def eD{α:Type}(c:α->α->Int):ae α->ae α->Int
 |[],[]=>0
 |[],_::_=> -1
 |_::_,[]=>1
 |a::l,b::m=>if c a b≠0 then c a b else eD c l m
def vU{α:Type}{c:α->α->Int}(h:Gt c):Gt (eD c) where
 zero:=by
  intro a;induction a with
  |nil=>intro b;cases b<;>simp[eD]
  |cons x l ih=>
   intro b;cases b with
   |nil=>simp[eD]
   |cons y m=>
    simp only[eD];by_cases e:c x y=0
    .rw[if_neg wg,ih m];have:=(h.zero x y).1 e
     grind
    .rw[if_pos e];constructor
     .grind
     .intro q;injection q with q1 q2;exact absurd ((h.zero x y).2 q1) e
 neg:=by
  intro a;induction a with
  |nil=>intro b;cases b<;>simp[eD]
  |cons x l ih=>
   intro b;cases b with
   |nil=>simp[eD]
   |cons y m=>
    simp only[eD];by_cases e:c x y=0
    .have e2:=(h.zero x y).1 e
     grind
    .have e2:c y x≠0:=λq=>e ((h.zero x y).2 ((h.zero y x).1 q).symm);rw[if_pos e,if_pos e2];exact h.neg x y
 trans:=by
  intro a;induction a with
  |nil=>
   intro b d h1 h2;cases b with
   |nil=>simp[eD]at h1
   |cons y m=>cases d with
    |nil=>simp[eD]at h2
    |cons z n=>simp[eD]
  |cons x l ih=>
   intro b d h1 h2;cases b with
   |nil=>simp[eD]at h1
   |cons y m=>cases d with
    |nil=>simp[eD]at h2
    |cons z n=>
     simp only[eD]at h1 h2⊢;by_cases e1:c x y=0
     .have:=(h.zero x y).1 e1
      grind
     .rw[if_pos e1]at h1;by_cases e2:c y z=0
      .have:=(h.zero y z).1 e2
       grind
      .rw[if_pos e2]at h2;have:=h.trans x y z h1 h2
       grind
structure Clue where
 aN:Int
 at_:Int
 values:List Int
instance:DecidableEq Clue:=λa b=>decidable_of_iff (a.aN=b.aN/\a.at_=b.at_/\a.values=b.values) (by cases a;cases b;simp)
def uI(a b:Clue):Int:=if dB a.aN b.aN≠0 then dB a.aN b.aN else if dB a.at_ b.at_≠0 then dB a.at_ b.at_ else eD dB a.values b.values
def YY(a b:Clue):uI a b=if eD dB [a.aN,a.at_] [b.aN,b.at_]≠0 then eD dB [a.aN,a.at_] [b.aN,b.at_]else eD dB a.values b.values:=by
 simp only[uI,eD]
 grind
def Nj(a b:Clue):uI a b=eD dB (a.aN::a.at_::a.values) (b.aN::b.at_::b.values):=by
 simp only[uI,eD]
def Sz:Gt uI where
 zero a b:=by
  rw[Nj,(vU uH).zero];obtain⟨c,p,v⟩:=a;obtain⟨d,q,w⟩:=b;simp
 neg a b:=by rw[Nj,Nj];exact(vU uH).neg _ _
 trans a b d h1 h2:=by rw[Nj]at h1 h2⊢;exact(vU uH).trans _ _ _ h1 h2
abbrev Nk:=eD uI
def YZ:Gt Nk:=vU Sz
end Canon
namespace Go.Ideal
open Canon (Clue)
def Et(h:IH)(v:ah)(l:ae Clue):Prop:=
 (l=[]/\∃a m c,v=.slice a m c/\m=0)\/
 ∃i o f c cells,v=.slice (some ⟨i,o,some f⟩) l.length c/\Cells h i cells/\∀(k:Nat) g,l[k]? =some g->
  ∃vv,cells[o+k*3]? =some (.int .i64 g.aN)/\cells[o+k*3+1]? =some (.int .i64 g.at_)/\cells[o+k*3+2]? =some vv/\AJ h vv g.values
variable{h:IH}{v:ah}{l:ae Clue}
def Et.agree{h':IH}(a:Et h v l)(g:Agree h h'):Et h' v l:=by
 rcases a with h1|⟨i,o,f,c,cs,h1,h2,h3⟩
 .exact .inl h1
 .refine .inr ⟨i,o,f,c,cs,h1,h2.agree g,λk x hk=>?_⟩;obtain⟨vv,q1,q2,q3,q4⟩:=h3 k x hk;exact⟨vv,q1,q2,q3,q4.agree g⟩
def Et.form(a:Et h v l):∃b c,v=.slice b l.length c:=by
 exact mL
section
variable {H:Type} {P:Program} {h:IH} {t e u z:aM} {d:DataW H}
variable{v:ah}
def jq.bT{f0 f1 f2:Field}(ht:P.underlying t=some (.slice e))(he:P.underlying e=some (.struct #[f0,f1,f2]))(hf0:f0.type=z/\f0.offset=0)(hf1:f1.type=z/\f1.offset=1)
 (hf2:f2.type=u/\f2.offset=2) (hz:P.underlying z=some (.int .i64)) (hcz:P.cellsOf z=1) (hu:P.underlying u=some (.slice z)) (hcu:P.cellsOf u=1) (hce:P.cellsOf e=3)
 (r:jq P h t [v] d):∃l,Et h v l:=by
 rcases r.oK ht with⟨e1,_⟩|⟨i,n,c,cells,els,rest,e1,_,hn,hl,hcl,hel⟩
 .injection e1 with e1;exact⟨[],.inl (by grind)⟩
 .injection e1 with e1;subst e1;have each:∀(k:Nat) d,els[k]? =some d->∃g:Clue,∃vv,cells[k*3]? =some (.int .i64 g.aN)/\cells[k*3+1]? =some (.int .i64 g.at_)/\cells[k*3+2]? =some vv/\AJ h vv g.values:=λk d hk=>by
   have r1:=hel k d hk;rw[hce]at r1;obtain⟨ds,rfl,hlen,hdl,hf⟩:=r1.YX he;match ds,hdl with
   |[d0,d1,d2],_=>
    have a0:=hf 0 f0 d0 rfl rfl;have a1:=hf 1 f1 d1 rfl rfl;have a2:=hf 2 f2 d2 rfl rfl;rw[hf0.1,hf0.2,hcz]at a0;rw[hf1.1,hf1.2,hcz]at a1;rw[hf2.1,hf2.2,hcu]at a2;rw[hce]at hlen;match hrow:(cells.drop (k*3)).take 3,hlen with
    |[x,y,w],_=>
     rw[hrow]at a0 a1 a2;obtain⟨m0,b0,_,_⟩:=a0.oh hz;obtain⟨m1,b1,_,_⟩:=a1.oh hz;obtain⟨xs,b2,_⟩:=jq.ints (v:=w) hu hz hcz a2;injection b0 with b0;injection b1 with b1;have hg:∀j,j<3->cells[k*3+j]? =[x,y,w][j]?:=(by grind)
     refine⟨⟨m0,m1,xs⟩,w,?_,?_,?_,b2⟩
     .have:=hg 0 s6;rw[<- b0];exact this
     .grind
     grind
  have build:∀m,m<=els.length->∃l:ae Clue,l.length=m/\∀(k:Nat) g,l[k]? =some g->∃vv,cells[k*3]? =some (.int .i64 g.aN)/\cells[k*3+1]? =some (.int .i64 g.at_)/\cells[k*3+2]? =some vv/\AJ h vv g.values:=by
   intro m;induction m with
   |zero=>intro _;exact⟨[],rfl,(by grind)⟩
   |succ m ih=>
    intro hm;obtain⟨l,q1,q2⟩:=ih s6;obtain⟨g,vv,q3⟩:=each m els[m] (by grind);refine⟨l++[g],by simp[q1],λk g' hk=>?_⟩
    grind
  obtain⟨l,q1,q2⟩:=build els.length (bG _);refine⟨l,?_⟩;rcases hcl with h0|hcl
  .left
   grind
  .right
   grind
def SA(h:IH)(v:ah)(l:ae Clue):Prop:=∃w,v=.agg ⟨[w]⟩/\Et h w l
def SA.agree{h h':IH}{l:ae Clue}(a:SA h v l)(g:Agree h h'):SA h' v l:=by
 obtain⟨w,e,k⟩:=a;exact⟨w,e,k.agree g⟩
end
end Go.Ideal
namespace Go.Ideal
variable {P:Program}
structure Wd where
 h:IH
 z:Nat->Prop
 oq:∀i,z i->i<h.next
structure Wd.Le(w w':Wd):Prop where
 next:w.h.next<=w'.h.next
 z:∀i,w.z i->w'.z i
 get:∀i,w.z i->w'.h.get i=w.h.get i
def Wd.Le.refl(w:Wd):w.Le w:=⟨bG _,λ_ h=>h,λ_ _=>rfl⟩
variable{w w':Wd}
def Wd.Le.trans{w'':Wd}(a:w.Le w')(b:w'.Le w''):w.Le w'':=
 ⟨lZ a.next b.next,λi h=>b.z i (a.z i h),λi h=>(b.get i (a.z i h)).trans (a.get i h)⟩
structure aI where
 p:Wd->Prop
 mono:∀{w w':Wd},w.Le w'->p w->p w'
def Fz(w:Wd)(b:Nat)(cs:ae ah):Prop:=w.z b/\(w.h.get b=some (.cells cs)\/w.h.get b=some (.lD cs))
def Fz.mono(a:w.Le w'){b:Nat}{cs:ae ah}(h:Fz w b cs):Fz w' b cs:=⟨a.z b h.1,by rw[a.get b h.1];exact h.2⟩
def Fz.cells{b:Nat}{cs:ae ah}(h:Fz w b cs):Cells w.h b cs:=⟨w.oq b h.1,h.2⟩
def aX(b o:Nat)(cs:ae ah):aI:=
 ⟨λw=>∃cells,Fz w b cells/\∀(j:Nat) u,cs[j]? =some u->cells[o+j]? =some u,λa ⟨cells,h1,h2⟩=>⟨cells,h1.mono a,h2⟩⟩
structure Enc(α:Type) where
 n:Nat
 Y:Type
 pat:α->Y->List Value
 fs:α->Y->List aI
 len:∀a y,(pat a y).length=n
def SB(n:Nat):az Addr->Prop
 |none=>True
 |some ⟨_,_,some f⟩=>f=0\/f=n
 |some ⟨_,_,none⟩=>False
def ay{α:Type}(E:Enc α)(v:ah)(xs:ae α):aI:=
 ⟨λw=>(xs=[]/\∃a c,v=.slice a 0 c/\SB E.n a)\/∃i o f c cells,(v=.slice (some ⟨i,o,some f⟩) xs.length c/\xs.length<=c/\(f=0\/f=E.n))/\Fz w i cells/\
  ∀(k:Nat) x,xs[k]? =some x->∃y,(∀(j:Nat) u,(E.pat x y)[j]? =some u->cells[o+k*E.n+j]? =some u)/\∀f∈E.fs x y,f.p w,
  λa h=>by
   rcases h with h|⟨i,o,f,c,cells,h1,h2,h3⟩
   .exact .inl h
   .refine .inr ⟨i,o,f,c,cells,h1,h2.mono a,λk x hk=>?_⟩;obtain⟨y,q1,q2⟩:=h3 k x hk;exact⟨y,q1,λf hf=>f.mono a (q2 f hf)⟩⟩
def aj:Enc Int:=⟨1,Unit,λx _=>[.int .i64 x],λ_ _=>[],λ_ _=>rfl⟩
def lG:Enc Bool:=⟨1,Unit,λx _=>[.bool x],λ_ _=>[],λ_ _=>rfl⟩
def ko:Enc ByteArray:=⟨1,Unit,λx _=>[.string x],λ_ _=>[],λ_ _=>rfl⟩
def aA{α:Type}(E:Enc α):Enc (ae α):=⟨1,ah,λ_ v=>[v],λxs v=>[ay E v xs],λ_ _=>rfl⟩
structure OA where
 p:Wd->List Nat->Prop
 loc:∀{w w':Wd} {S:List Nat},w.Le w'->(∀i∈S,w'.h.get i=w.h.get i)->p w S->p w' S
def pt(b:Nat)(o:fw):OA:=⟨λw S=>S=[b]/\w.h.get b=some o,(by grind)⟩
def ap{α:Type}(E:Enc α)(v:ah)(xs:ae α):OA:=
 ⟨λw S=>(xs=[]/\v=.slice none 0 0/\S=[])\/∃b o f cells,v=.slice (some ⟨b,o,some f⟩) xs.length xs.length/\(f=0\/f=E.n)/\S=[b]/\w.h.get b=some (.cells cells)/\cells.length=o+xs.length*E.n/\
  ∀(k:Nat) x,xs[k]? =some x->∃y,(∀(j:Nat) u,(E.pat x y)[j]? =some u->cells[o+k*E.n+j]? =some u)/\∀f∈E.fs x y,f.p w,
  λa h hp=>by
   rcases hp with hp|⟨b,o,f,cells,h1,h2,h3,h4,h5,h6⟩
   .exact .inl hp
   .refine .inr ⟨b,o,f,cells,h1,h2,h3,by grind,h5,λk x hk=>?_⟩;obtain⟨y,q1,q2⟩:=h6 k x hk;exact⟨y,q1,λf hf=>f.mono a (q2 f hf)⟩⟩
def fJ(w:Wd):ae OA->ae Nat->Prop
 |[],S=>S=[]
 |A::kl,S=>∃S1 S2,A.p w S1/\fJ w kl S2/\S=S1++S2
def fJ.loc{w w':Wd}(a:w.Le w'):∀{kl:ae OA} {S:ae Nat},(∀i∈S,w'.h.get i=w.h.get i)->fJ w kl S->fJ w' kl S
 |[],S,_,h=>h
 |A::kl,S,hs,⟨S1,S2,h1,h2,e⟩=>⟨S1,S2,A.loc a (by grind) h1,fJ.loc a (by grind) h2,e⟩
def fJ.app:∀{k1 k2:ae OA} {S1 S2:ae Nat},fJ w k1 S1->fJ w k2 S2->fJ w (k1++k2) (S1++S2)
 |[],k2,S1,S2,h1,h2=>by
  subst h1;exact h2
 |A::k1,k2,_,S2,⟨T1,T2,q1,q2,e⟩,h2=>⟨T1,T2++S2,q1,q2.app h2,by grind⟩
inductive aD{α:Type}(A:α):List α->List α->Prop
 |here {l:List α}:aD A (A::l) l
 |there {C:α} {l l':List α} (h:aD A l l'):aD A (C::l) (C::l')
inductive aJ{α:Type}:List α->List α->List α->Prop
 |nil {l:List α}:aJ [] l l
 |cons {A:α} {k l l' l'':List α} (h:aD A l l') (h2:aJ k l' l''):aJ (A::k) l l''
def aD.app{α:Type}{A:α}{l l':ae α}(h:aD A l l'):∀k:ae α,aD A (k++l) (k++l')
 |[]=>h
 |_::k=>.there (aD.app h k)
def aJ.self{α:Type}:∀k r:ae α,aJ k (k++r) r
 |[],_=>.nil
 |_::k,r=>.cons .here (aJ.self k r)
variable{α:Type}
def aJ.all(k:ae α):aJ k k []:=by
 have:=aJ.self k []
 grind
def aJ.there{k l l':ae α}(A:α)(h:aJ k l l'):aJ k (A::l) (A::l'):=by
 exact ph
def fJ.fB{w:Wd}{A:OA}:∀{kl kl':ae OA} {S:ae Nat},aD A kl kl'->fJ w kl S->∃S',fJ w (A::kl') S'/\S.Perm S'
 |_,_,S,.here,h=>⟨S,h,.refl _⟩
 |_,_,_,.there s,⟨S1,S2,h1,h2,e⟩=>by
  obtain⟨S',⟨T1,T2,q1,q2,e'⟩,hp⟩:=fJ.fB s h2;refine⟨T1++(S1++T2),⟨T1,_,q1,⟨S1,T2,h1,q2,rfl⟩,rfl⟩,?_⟩
  grind
def fJ.ku{w:Wd}:∀{k kl kl':ae OA} {S:ae Nat},aJ k kl kl'->fJ w kl S->∃S1 S2,fJ w k S1/\fJ w kl' S2/\S.Perm (S1++S2)
 |_,_,_,S,.nil,h=>⟨[],S,rfl,h,.refl _⟩
 |_,_,_,S,.cons s r,h=>by
  obtain⟨S',⟨T1,T2,q1,q2,e⟩,hp⟩:=h.fB s;obtain⟨U1,U2,u1,u2,hu⟩:=fJ.ku r q2;exact⟨T1++U1,U2,⟨T1,U1,q1,u1,rfl⟩,u2,(by grind)⟩
inductive Sub{α:Type}:List α->List α->Prop
 |nil {l:List α}:Sub [] l
 |cons {a:α} {k l:List α} (h:a∈l) (h2:Sub k l):Sub (a::k) l
def Sub.mem:∀{k l:ae α},Sub k l->∀x∈k,x∈l
 |_,_,.nil,x,hx=>by cases hx
 |_,_,.cons h h2,x,hx=>by
  cases hx with
  |head=>exact h
  |tail _ hx=>exact h2.mem x hx
structure aik(B:List Nat)(h h':IH):Prop where
 next:h.next<=h'.next
 get:∀i,i<h.next->i∉B->h'.get i=h.get i
 low:h.low<=h.next->(∀b∈B,h.low<=b)->h'.low=h.low
structure St(B:List Nat)(w0:Wd)(kl:List OA)(F:List aI)(w:Wd):Prop where
 agree:aik B w0.h w.h
 le:w0.Le w
 fF:∀i,i<w0.h.next->w.z i->w0.z i\/i∈B
 own:∃S,fJ w kl S/\S.Nodup/\∀i∈S,(w0.h.next<=i\/i∈B)/\i<w.h.next/\¬w.z i
 facts:∀f∈F,f.p w
section
variable {B:ae Nat} {w0 w:Wd} {kl:ae OA} {F:ae aI}
variable{kl' k:ae OA}
def St.ku(s:aJ k kl kl')(h:St B w0 kl F w):St B w0 (k++kl') F w:=by
 obtain⟨S,h1,h2,h3⟩:=h.own;obtain⟨S1,S2,q1,q2,hp⟩:=h1.ku s;exact⟨h.agree,h.le,h.fF,⟨S1++S2,q1.app q2,hp.nodup h2,(by grind)⟩,h.facts⟩
variable{A:OA}
def St.fB(s:aD A kl kl')(h:St B w0 kl F w):St B w0 (A::kl') F w:=h.ku (.cons s .nil)
def St.drop(h:St B w0 (k++kl') F w):St B w0 k F w:=by
 obtain⟨S,h1,h2,h3⟩:=h.own;have:∀{k:ae OA} {S:ae Nat},fJ w (k++kl') S->∃S1 S2,fJ w k S1/\S=S1++S2:=by
  intro k;induction k with
  |nil=>intro S hS;exact⟨[],S,rfl,rfl⟩
  |cons A k ih=>
   rintro S ⟨T1,T2,q1,q2,e⟩;obtain⟨S1,S2,u1,u2⟩:=ih q2;exact⟨T1++S1,S2,⟨T1,S1,q1,u1,rfl⟩,by grind⟩
 obtain⟨S1,S2,q1,e⟩:=this h1;exact⟨h.agree,h.le,h.fF,(by grind),h.facts⟩
variable{F':ae aI}
def St.sub(s:Sub F' F)(h:St B w0 kl F w):St B w0 kl F' w:=⟨h.agree,h.le,h.fF,h.own,λf hf=>h.facts f (s.mem f hf)⟩
def St.add(h:St B w0 kl F w)(hf:∀f∈F',f.p w):St B w0 kl (F'++F) w:=
 ⟨h.agree,h.le,h.fF,h.own,λf h1=>(fU.1 h1).elim (hf f) (h.facts f)⟩
variable{b:Nat}{o:fw}
def St.get(h:St B w0 (pt b o::kl) F w):w.h.get b=some o/\b<w.h.next/\(w0.h.next<=b\/b∈B):=by
 obtain⟨S,⟨S1,S2,⟨e1,q1⟩,_,e⟩,h2,h3⟩:=h.own
 grind
def St.at_(s:aD (pt b o) kl kl')(h:St B w0 kl F w):At w.h b o:=⟨(h.fB s).get.2.1,(h.fB s).get.1⟩
noncomputable def Wd.new(w:Wd)(o:fw):Wd:=⟨w.h.new o,w.z,λi hi=>QH (w.oq i hi)⟩
def St.new(h:St B w0 kl F w)(o:fw):St B w0 (pt w.h.next o::kl) F (w.new o):=by
 have hg:∀i,i<w.h.next->(w.h.new o).get i=w.h.get i:=λi hi=>by rw[IH.jD,if_neg s6]
 have hle:w.Le (w.new o):=⟨FB _,λ_ h=>h,λi hi=>hg i (w.oq i hi)⟩
 obtain⟨S,h1,h2,h3⟩:=h.own;refine⟨⟨Nat.le_succ_of_le h.agree.next,λi hi hb=>(hg i (oZ hi h.agree.next)).trans (h.agree.get i hi hb),λa b=>h.agree.low a b⟩,h.le.trans hle,h.fF,
  ⟨[w.h.next]++S,⟨[w.h.next],S,⟨rfl,by show(w.h.new o).get _=_;rw[IH.jD,if_pos rfl]⟩,fJ.loc hle (λi hi=>hg i (h3 i hi).2.1) h1,rfl⟩,?_,?_⟩,λf hf=>f.mono hle (h.facts f hf)⟩
 .grind
 .intro i hi;rcases fU.1 hi with hi|hi
  .rw[bR.1 hi];exact⟨.inl h.agree.next,yY _,λhz=>absurd (w.oq _ hz) (QD _)⟩
  .exact⟨(h3 i hi).1,QH (h3 i hi).2.1,(h3 i hi).2.2⟩
variable{o':fw}
def St.write(h:St B w0 (pt b o::kl) F w):St B w0 (pt b o'::kl) F ⟨w.h.set b o',w.z,λi hi=>w.oq i hi⟩:=by
 obtain⟨S,⟨S1,S2,⟨e1,q1⟩,q2,e⟩,h2,h3⟩:=h.own;subst e e1;have hg:∀i,i≠b->(w.h.set b o').get i=w.h.get i:=λi hi=>by rw[IH.og,if_neg hi]
 have hle:w.Le ⟨w.h.set b o',w.z,λi hi=>w.oq i hi⟩:=⟨bG _,λ_ h=>h,(by grind)⟩
 refine⟨⟨h.agree.next,λi hi hB=>(hg i ?_).trans (h.agree.get i hi hB),λa c=>?_⟩,h.le.trans hle,h.fF,
  ⟨[b]++S2,⟨[b],S2,⟨rfl,by rw[IH.og,if_pos rfl]⟩,fJ.loc hle (by grind) q2,rfl⟩,h2,h3⟩,λf hf=>f.mono hle (h.facts f hf)⟩
 .grind
 .have hl:=h.agree.low a c;rw[IH.F5]
  grind
def St.move{h':IH}(h:St B w0 (pt b o::kl) F w)(m:Cv w.h h' b o'):∃w':Wd,w'.h=h'/\St B w0 (pt w.h.next o'::kl) F w'/\w.Le w':=by
 obtain⟨S,⟨S1,S2,⟨e1,q1⟩,q2,e⟩,h2,h3⟩:=h.own;subst e e1;have hb:=h3 b s7;let w':Wd:=⟨h',w.z,λi hi=>by rw[m.next];exact QH (w.oq i hi)⟩
 have hle:w.Le w':=⟨by rw[m.next];exact FB _,λ_ h=>h,λi hi=>m.get i (w.oq i hi) (by grind)⟩
 refine⟨w',rfl,⟨⟨by rw[m.next];exact Nat.le_succ_of_le h.agree.next,λi hi hB=>(m.get i (oZ hi h.agree.next) ?_).trans (h.agree.get i hi hB),λa c=>?_⟩,h.le.trans hle,h.fF,
  ⟨[w.h.next]++S2,⟨[w.h.next],S2,⟨rfl,m.at_.2⟩,fJ.loc hle (λi hi=>m.get i (by grind) (by grind)) q2,rfl⟩,?_,?_⟩,λf hf=>f.mono hle (h.facts f hf)⟩,hle⟩
 .grind
 .have hl:=h.agree.low a c;rw[<- hl];refine m.low ?_
  grind
 .grind
 .intro i hi;have hnx:w'.h.next=w.h.next+1:=m.next
  rcases fU.1 hi with hi|hi
  .rw[bR.1 hi];exact⟨.inl h.agree.next,s6,λhz=>absurd (w.oq _ hz) (QD _)⟩
  grind
variable{A':OA}
def St.CB(hA:∀w S,A.p w S->A'.p w S)(h:St B w0 (A::kl) F w):St B w0 (A'::kl) F w:=by
 obtain⟨S,⟨S1,S2,q1,q2,e⟩,h2,h3⟩:=h.own;exact⟨h.agree,h.le,h.fF,⟨S,⟨S1,S2,hA w S1 q1,q2,e⟩,h2,h3⟩,h.facts⟩
def St.yz(h:St B w0 (A::kl) F w)(hA:∀S,A.p w S->A'.p w S):St B w0 (A'::kl) F w:=by
 obtain⟨S,⟨S1,S2,q1,q2,e⟩,h2,h3⟩:=h.own;exact⟨h.agree,h.le,h.fF,⟨S,⟨S1,S2,hA S1 q1,q2,e⟩,h2,h3⟩,h.facts⟩
def St.tail(h:St B w0 (A::kl) F w):St B w0 kl F w:=by
 obtain⟨S,⟨S1,S2,q1,q2,e⟩,h2,h3⟩:=h.own;exact⟨h.agree,h.le,h.fF,(by grind),h.facts⟩
def qV(A:OA)(fs:ae aI):Prop:=∀(w w':Wd) S,A.p w S->w.Le w'->w'.h=w.h->(∀i∈S,w'.z i)->∀f∈fs,f.p w'
def St.freeze{fs:ae aI}(hA:qV A fs)(h:St B w0 (A::kl) F w):∃w',w'.h=w.h/\St B w0 kl (fs++F) w':=by
 obtain⟨S,⟨S1,S2,q1,q2,e⟩,h2,h3⟩:=h.own;subst e;let w':Wd:=⟨w.h,λi=>w.z i\/i∈S1,λi hi=>hi.elim (w.oq i) (by grind)⟩
 have hle:w.Le w':=⟨bG _,λi hi=>.inl hi,λ_ _=>rfl⟩
 have hnd:=j5.1 h2;refine⟨w',rfl,h.agree,h.le.trans hle,λi hi hz=>?_,⟨S2,fJ.loc hle (λ_ _=>rfl) q2,hnd.2.1,λi hi=>?_⟩,λf hf=>?_⟩
 .rcases hz with hz|hz
  .exact h.fF i hi hz
  grind
 .grind
 .rcases fU.1 hf with hf|hf
  .exact hA w w' S1 q1 hle rfl (λi hi=>.inr hi) f hf
  .exact f.mono hle (h.facts f hf)
def ja{α:Type}{E:Enc α}{v:ah}{xs:ae α}:qV (ap E v xs) [ay E v xs]:=by
 intro w w' S hp hle hh hz f hf;rw[bR.1 hf];rcases hp with⟨h1,h2,_⟩|⟨b,o,f,cells,h1,h2,h3,h4,h5,h6⟩
 .exact .inl ⟨h1,none,0,h2,trivial⟩
 .refine .inr ⟨b,o,f,_,cells,⟨h1,bG _,h2⟩,⟨hz b (by rw[h3];exact bR.2 rfl),.inl (by rw[hh];exact h4)⟩,λk x hk=>?_⟩;obtain⟨y,q1,q2⟩:=h6 k x hk;exact⟨y,q1,λf hf=>f.mono hle (q2 f hf)⟩
def ail{cs:ae ah}:qV (pt b (.cells cs)) [aX b 0 cs]:=by
 intro w w' S ⟨h1,h2⟩ hle hh hz f hf;rw[bR.1 hf];exact⟨cs,⟨(by grind),(by grind)⟩,(by grind)⟩
variable{f c:Nat}
def uJ{xs:ae Int}(hc:xs.length<=c:=by first|exact bG _|omega)(hf:f=0\/f=1:=by first|exact .inl rfl|exact .inr rfl):qV (pt b (.cells (xs.map (.int .i64)))) [ay aj (.slice (some ⟨b,0,some f⟩) xs.length c) xs]:=by
 intro w w' S ⟨h1,h2⟩ hle hh hz g hg;rw[bR.1 hg];refine .inr ⟨b,0,f,c,_,⟨rfl,hc,hf⟩,⟨hz b wj,.inl ud⟩,λk x hk=>⟨(),λj u hj=>?_,λf hf=>by cases hf⟩⟩;match j,hj with
 |0,hj=>
  cases hj;simp[aj,hk]
def SC{xs:ae Bool}(hc:xs.length<=c:=by first|exact bG _|omega)(hf:f=0\/f=1:=by first|exact .inl rfl|exact .inr rfl):qV (pt b (.cells (xs.map .bool))) [ay lG (.slice (some ⟨b,0,some f⟩) xs.length c) xs]:=by
 intro w w' S ⟨h1,h2⟩ hle hh hz g hg;rw[bR.1 hg];refine .inr ⟨b,0,f,c,_,⟨rfl,hc,hf⟩,⟨hz b wj,.inl ud⟩,λk x hk=>⟨(),λj u hj=>?_,λf hf=>by cases hf⟩⟩;match j,hj with
 |0,hj=>
  cases hj;simp[lG,hk]
end
end Go.Ideal
namespace Go.Ideal
variable {P:Program}
def R(Q:IH->Prop)(B:ae Nat)(w0:Wd)(kl:ae OA)(F:ae aI):Prop:=∀w,St B w0 kl F w->Q w.h
structure dI(G G':Prop):Prop where
 h:G'->G
def dI.refl(G:Prop):dI G G:=⟨id⟩
variable{A B:Prop}
def dI.trans{C:Prop}(a:dI A B)(b:dI B C):dI A C:=⟨λc=>a.h (b.h c)⟩
def dI.all{X:Type}{A B:X->Prop}(h:∀x,dI (A x) (B x)):dI (∀x,A x) (∀x,B x):=⟨λb x=>(h x).h (b x)⟩
def dI.imp{p:Prop}(h:dI A B):dI (p->A) (p->B):=⟨λb x=>h.h (b x)⟩
def Pu(P:Program)(ρ:aB->ah)(op:aR)(v:ah):Prop:=∀h,op.run P ρ h=some (v,h)
inductive EvL(ρ:Operand->Value):List Operand->List Value->Prop
 |nil:EvL ρ [] []
 |cons {x:Operand} {v:Value} {xs:List Operand} {vs:List Value} (h:ρ x=v) (t:EvL ρ xs vs):EvL ρ (x::xs) (v::vs)
def EvL.map{ρ:aB->ah}:∀{xs:ae aB} {vs:ae ah},EvL ρ xs vs->xs.map ρ=vs
 |_,_,.nil=>rfl
 |_,_,.cons h t=>by rw[iX,h,t.map]
section
variable {ρ:aB->ah}
variable{x:aB}{v:ah}
def Nl(hx:ρ x=v):Pu P ρ (.mv x) v:=λh=>by simp only[aR.run,hx]
def Nn(hx:ρ x=v):Pu P ρ (.jC x) v:=λh=>by simp only[aR.run,hx]
variable{y:aB}
def Np{c:aB}(hc:ρ c=.bool true)(hx:ρ x=v):Pu P ρ (.pick c x y) v:=λh=>by simp only[aR.run,hc,hx,cond]
def Nq{c:aB}(hc:ρ c=.bool false)(hx:ρ y=v):Pu P ρ (.pick c x y) v:=λh=>by simp only[aR.run,hc,hx,cond]
def Nr{b:Bool}(hx:ρ x=.bool b):Pu P ρ (.un .not x) (.bool !b):=λh=>by simp only[aR.run,hx];rfl
variable{m c:Nat}
def Ns{a:az Addr}(hx:ρ x=.slice a m c):Pu P ρ (.pV x) (.int .i64 (m:Int)):=λh=>by simp only[aR.run,hx,YH]
variable{n:Nat}
def Nt:Pu P ρ (.Mt n) (.int .i64 (n:Int)):=λh=>rfl
variable{t:aM}{a b:Int}
def Nu(hx:ρ x=.int .i64 a)(hy:ρ y=.int .i64 b):Pu P ρ (.bin .lss t x y) (.bool (decide (a<b))):=λh=>by
 exact rK
def Nv(hx:ρ x=.int .i64 a)(hy:ρ y=.int .i64 b):Pu P ρ (.bin .leq t x y) (.bool (decide (a<=b))):=λh=>by
 simp only[aR.run,hx,hy];rw[AL];simp[sP,uF]
def Nw(hx:ρ x=.int .i64 a)(hy:ρ y=.int .i64 b):Pu P ρ (.bin .gtr t x y) (.bool (decide (b<a))):=λh=>by
 exact rK
def Ny(hx:ρ x=.int .i64 a)(hy:ρ y=.int .i64 b):Pu P ρ (.bin .geq t x y) (.bool (decide (b<=a))):=λh=>by
 simp only[aR.run,hx,hy];rw[AL];simp[sP,uF]
def Nz(hx:ρ x=.int .i64 a)(hy:ρ y=.int .i64 b):Pu P ρ (.bin .eql t x y) (.bool (decide (a=b))):=λh=>by
 simp only[aR.run,hx,hy];rw[AL];simp[sP,Jn];rfl
def NA(hx:ρ x=.int .i64 a)(hy:ρ y=.int .i64 b):Pu P ρ (.bin .neq t x y) (.bool (decide (a≠b))):=λh=>by
 simp only[aR.run,hx,hy];rw[AL];simp[sP,Jn];rfl
def Gu(hx:ρ x=.int .i64 a)(hy:ρ y=.int .i64 b)(h1: -9223372036854775808<=a+b)(h2:a+b<9223372036854775808):Pu P ρ (.bin .add t x y) (.int .i64 (a+b)):=λh=>by
 simp only[aR.run,hx,hy];rw[AL];simp only[sP,Rh,YJ h1 h2]
def NB(hx:ρ x=.int .i64 a)(hy:ρ y=.int .i64 b)(h1: -9223372036854775808<=a - b)(h2:a - b<9223372036854775808):Pu P ρ (.bin .sub t x y) (.int .i64 (a - b)):=λh=>by
 simp only[aR.run,hx,hy];rw[AL];simp only[sP,XD,YJ h1 h2]
def NC{i:Nat}{vs:ae ah}(hx:ρ x=.tuple ⟨vs⟩)(hv:lW vs i=some v):Pu P ρ (.extract x i) v:=λh=>by simp only[aR.run,hx,hv]
variable{o off:Nat}
def ND{b:Nat}(hx:ρ x=.pointer (some ⟨b,o,none⟩)):Pu P ρ (.iw off x) (.pointer (some ⟨b,o+off,none⟩)):=λh=>by simp only[aR.run,hx];rfl
variable{cs:ae ah}
def NE(hx:ρ x=.agg ⟨cs⟩)(hv:lW cs off=some v):Pu P ρ (.field t off n false x) v:=λh=>by simp only[aR.run,hx,hv]
def NF{r:ae ah}(hx:ρ x=.agg ⟨cs⟩)(hv:jR (kD cs off) n=some r):Pu P ρ (.field t off n true x) (.agg ⟨r⟩):=λh=>by simp only[aR.run,hx,hv]
def NG(hx:ρ x=v):Pu P ρ (.iface t x) (.iface t v):=λh=>by simp only[aR.run,hx]
def NH{zero:ah}(hx:ρ x=.iface t v):Pu P ρ (.Mr t zero false x) v:=λh=>by
 simp only[aR.run,hx];rw[FI];rfl
def aim{zero:ae ah}{parts:ae (Nat×Nat×aB)}(hx:vK ρ zero parts=some cs):Pu P ρ (.build zero parts) (.agg ⟨cs⟩):=λh=>by simp only[aR.run,hx]
def NI{a:Addr}(hx:ρ x=.pointer (some a)):Pu P ρ (.nI x) (.pointer (some a)):=λh=>by simp only[aR.run,hx]
def NJ{f:gy}{a b:Array ah}(hx:ρ x=.func (.func f) a b):Pu P ρ (.nI x) (.func (.func f) a b):=λh=>by simp only[aR.run,hx]
def ain{fn:Fn}{first captured:ae aB}{a b:ae ah}(h1:EvL ρ first a)(h2:EvL ρ captured b):Pu P ρ (.D5 fn first captured) (.func fn ⟨a⟩ ⟨b⟩):=λh=>by
 simp only[aR.run,xW,h1.map,h2.map]
variable{i:aB}{k:Int}{size:Nat}{kk:IntKind}{f:az Nat}
def JP{b:Nat}(hx:ρ x=.slice (some ⟨b,o,f⟩) m c)(hi:ρ i=.int kk k)(h0:0<=k)(h1:k<m):
 Pu P ρ (.jw size x i) (.pointer (some ⟨b,o+k.toNat*size,none⟩)):=λh=>by
 obtain⟨j,rfl⟩:=dW h0;simp only[aR.run,hx,hi];rw[Sm s6];rfl
def NK{b k:Nat}(hx:ρ x=.slice (some ⟨b,o,f⟩) m c)(hi:ρ i=.int kk (.ofNat k))(h1:Nat.blt k m=true):
 Pu P ρ (.jw size x i) (.pointer (some ⟨b,o+k*size,none⟩)):=λh=>by
 simp only[aR.run,hx,hi,h1];rfl
def NL{b:Nat}(hx:ρ x=.pointer (some ⟨b,o,none⟩))(hi:ρ i=.int kk k)(h0:0<=k)(h1:k<m):
 Pu P ρ (.QU m size x i) (.pointer (some ⟨b,o+k.toNat*size,none⟩)):=λh=>by
 obtain⟨j,rfl⟩:=dW h0;simp only[aR.run,hx,hi];rw[Sm s6];rfl
end
section
variable {B:ae Nat} {w0:Wd} {kl kl':ae OA} {F:ae aI} {a:bE} {K:KO}
def aio{x y:dD}:dI (R (λh=>EV P (.seq x y) a h K) B w0 kl F) (R (λh=>EV P x a h (Cu P y K)) B w0 kl F):=⟨λr w s=>ahT (r w s)⟩
variable{id:Nat}{c:dD}
def aip:dI (R (λh=>EV P (.block id c) a h K) B w0 kl F) (R (λh=>EV P c a h (AC id K)) B w0 kl F):=⟨λr w s=>ahU (r w s)⟩
variable{ds:ae Tmp}
def aiq{l:ae bV}:dI (R (λh=>EV P (.ops ds l) a h K) B w0 kl F) (R (λh=>aO P ds l a h K) B w0 kl F):=⟨λr w s=>.ops (r w s)⟩
def air:dI (R (λh=>EV P (.scope c) a h K) B w0 kl F) (R (λh=>EV P c a h K) B w0 kl F):=⟨λr w s=>.scope (r w s)⟩
def ais:dI (R (λh=>EV P .skip a h K) B w0 kl F) (R (λh=>K .normal a h) B w0 kl F):=⟨λr w s=>.skip (r w s)⟩
def ait:dI (R (λh=>EV P (.exit id) a h K) B w0 kl F) (R (λh=>K (.exit id) a h) B w0 kl F):=⟨λr w s=>.exit (r w s)⟩
def aiu:dI (R (λh=>EV P .ret a h K) B w0 kl F) (R (λh=>K .ret a h) B w0 kl F):=⟨λr w s=>.ret (r w s)⟩
def aiv:dI (R (λh=>aO P ds [] a h K) B w0 kl F) (R (λh=>K .normal a h) B w0 kl F):=⟨λr w s=>.nil (r w s)⟩
variable {y:dD} {i j m0:Nat} {I:Nat->bE->IH->Prop} {ch:ae PanicEntry}
def aiw:dI (R (λh=>Cu P y K .normal a h) B w0 kl F) (R (λh=>EV P y a h K) B w0 kl F):=⟨λr w s=>r w s⟩
def aix:dI (R (λh=>Cu P y K .ret a h) B w0 kl F) (R (λh=>K .ret a h) B w0 kl F):=⟨λr w s=>r w s⟩
def aiy:dI (R (λh=>Cu P y K (.exit j) a h) B w0 kl F) (R (λh=>K (.exit j) a h) B w0 kl F):=⟨λr w s=>r w s⟩
def aiz:dI (R (λh=>Cu P y K (.panic ch) a h) B w0 kl F) (R (λh=>K (.panic ch) a h) B w0 kl F):=⟨λr w s=>r w s⟩
def aiA:dI (R (λh=>AC i K .normal a h) B w0 kl F) (R (λh=>K .normal a h) B w0 kl F):=⟨λr w s=>r w s⟩
def aiB:dI (R (λh=>AC i K .ret a h) B w0 kl F) (R (λh=>K .ret a h) B w0 kl F):=⟨λr w s=>r w s⟩
def aiC:dI (R (λh=>AC i K (.panic ch) a h) B w0 kl F) (R (λh=>K (.panic ch) a h) B w0 kl F):=⟨λr w s=>r w s⟩
def aiD(e:Nat.beq j i=true):dI (R (λh=>AC i K (.exit j) a h) B w0 kl F) (R (λh=>K .normal a h) B w0 kl F):=⟨λr w s=>ah1 e (r w s)⟩
def aiE(e:Nat.beq j i=false):dI (R (λh=>AC i K (.exit j) a h) B w0 kl F) (R (λh=>K (.exit j) a h) B w0 kl F):=⟨λr w s=>ah2 e (r w s)⟩
def aiF:dI (R (λh=>vT I m0 K .ret a h) B w0 kl F) (R (λh=>K .ret a h) B w0 kl F):=⟨λr w s=>r w s⟩
def aiG:dI (R (λh=>vT I m0 K (.exit j) a h) B w0 kl F) (R (λh=>K (.exit j) a h) B w0 kl F):=⟨λr w s=>r w s⟩
def aiH:dI (R (λh=>vT I m0 K (.panic ch) a h) B w0 kl F) (R (λh=>K (.panic ch) a h) B w0 kl F):=⟨λr w s=>r w s⟩
end
section
variable {B:ae Nat} {w0:Wd} {kl kl':ae OA} {F:ae aI} {K:KO} {ds:ae Tmp} {rest:ae bV} {n:Nat} {l:qr} {D:ae Deferred} {pm:az FrameMode} {ro:az Nat} {d:Nat} {g:az (Tmp×Bool)}
variable{c:aB}{y:dD}
def aiI{x:dD}(hc:ev l c=.bool true):dI (R (λh=>EV P (.cond c x y) (act n l D pm ro) h K) B w0 kl F) (R (λh=>EV P x (act n l D pm ro) h K) B w0 kl F):=
 ⟨λr w s=>JL true hc (λ_=>r w s) (λe=>by cases e)⟩
def aiJ{x:dD}(hc:ev l c=.bool false):dI (R (λh=>EV P (.cond c x y) (act n l D pm ro) h K) B w0 kl F) (R (λh=>EV P y (act n l D pm ro) h K) B w0 kl F):=
 ⟨λr w s=>JL false hc (λe=>by cases e) (λ_=>r w s)⟩
variable{p:Prop}
def rU{x:dD}[Decidable p](hc:ev l c=.bool (decide p))(h1:p->R (λh=>EV P x (act n l D pm ro) h K) B w0 kl F)(h2:¬p->R (λh=>EV P y (act n l D pm ro) h K) B w0 kl F):
 R (λh=>EV P (.cond c x y) (act n l D pm ro) h K) B w0 kl F:=
 λw s=>JL _ hc (λe=>h1 (jI e) w s) (λe=>h2 (wS e) w s)
def qW{x:dD}[Decidable p](hc:ev l c=.bool (!decide p))(h1:¬p->R (λh=>EV P x (act n l D pm ro) h K) B w0 kl F)(h2:p->R (λh=>EV P y (act n l D pm ro) h K) B w0 kl F):
 R (λh=>EV P (.cond c x y) (act n l D pm ro) h K) B w0 kl F:=
 λw s=>JL _ hc (λe=>h1 wg w s) (λe=>h2 wg w s)
def yA{x:dD}{b:Bool}(hc:ev l c=.bool b)(h1:b=true->R (λh=>EV P x (act n l D pm ro) h K) B w0 kl F)(h2:b=false->R (λh=>EV P y (act n l D pm ro) h K) B w0 kl F):
 R (λh=>EV P (.cond c x y) (act n l D pm ro) h K) B w0 kl F:=
 λw s=>JL _ hc (λe=>h1 e w s) (λe=>h2 e w s)
variable{op:aR}
def aiK{re:ae jh}(hn:Nat.blt d n=true)(hg:Sl l g=true):dI (R (λh=>aO P ds (⟨⟨some d,g,op⟩,re⟩::rest) (act n l D pm ro) h K) B w0 kl F) (R (λh=>aO P ds rest (act n ((d,xR)::l) D pm ro) h K) B w0 kl F):=
 ⟨λr w s=>ahZ hn hg (r w s)⟩
variable{v:ah}
def dx(hn:Nat.blt d n=true)(hg:bJ l g=true)(hp:Pu P (ev l) op v):dI (R (λh=>aO P ds (⟨⟨some d,g,op⟩,[]⟩::rest) (act n l D pm ro) h K) B w0 kl F) (R (λh=>aO P ds rest (act n ((d,v)::l) D pm ro) h K) B w0 kl F):=
 ⟨λr w s=>mG hn hg (hp w.h) (r w s)⟩
def aiL(hn:Nat.blt d n=true)(hg:bJ l g=true)(hp:∀w,St B w0 kl F w->op.run P (ev l) w.h=some (v,w.h)):dI (R (λh=>aO P ds (⟨⟨some d,g,op⟩,[]⟩::rest) (act n l D pm ro) h K) B w0 kl F) (R (λh=>aO P ds rest (act n ((d,v)::l) D pm ro) h K) B w0 kl F):=
 ⟨λr w s=>mG hn hg (hp w s) (r w s)⟩
abbrev ptr'(b:Nat):ah:=.pointer (some ⟨b,0,none⟩)
variable{cs:ae ah}{t:aM}
def aiM(hn:Nat.blt d n=true)(hg:bJ l g=true):dI (R (λh=>aO P ds (⟨⟨some d,g,.new cs t⟩,[]⟩::rest) (act n l D pm ro) h K) B w0 kl F)
 (∀b,R (λh=>aO P ds rest (act n ((d,.pointer (some ⟨b,0,none⟩))::l) D pm ro) h K) B w0 (pt b (.cells cs)::kl) F):=
 ⟨λr w s=>mG hn hg (h':=w.h.new (.cells cs)) CM (r w.h.next (w.new _) (s.new _))⟩
variable{x:aB}
def aiN(hn:Nat.blt d n=true)(hg:bJ l g=true)(hx:cellsOf (ev l x)=some cs):dI (R (λh=>aO P ds (⟨⟨some d,g,.box x t⟩,[]⟩::rest) (act n l D pm ro) h K) B w0 kl F)
 (∀b,R (λh=>aO P ds rest (act n ((d,.pointer (some ⟨b,0,none⟩))::l) D pm ro) h K) B w0 (pt b (.cells cs)::kl) F):=
 ⟨λr w s=>mG hn hg (h':=w.h.new (.cells cs)) (by simp only[aR.run,aR.alloc,uw,hx]) (r w.h.next (w.new _) (s.new _))⟩
variable{zero:ae ah}
def aiO{len:Nat}{parts:ae (Nat×Nat×aB)}(hn:Nat.blt d n=true)(hg:bJ l g=true)(hx:vK (ev l) zero parts=some cs):
 dI (R (λh=>aO P ds (⟨⟨some d,g,.Ah t len zero parts⟩,[]⟩::rest) (act n l D pm ro) h K) B w0 kl F)
 (∀b,R (λh=>aO P ds rest (act n ((d,.slice (some ⟨b,0,some 0⟩) len len)::l) D pm ro) h K) B w0 (pt b (.cells cs)::kl) F):=
 ⟨λr w s=>mG hn hg (h':=w.h.new (.cells cs)) (by simp only[aR.run,aR.alloc,uw,hx,D7]) (r w.h.next (w.new _) (s.new _))⟩
variable{m size bytes:Nat}{e:aM}
def aiP{y:aB}(hn:Nat.blt d n=true)(hg:bJ l g=true)(hx:ev l x=.int .i64 (m:Int))(hy:ev l y=.int .i64 (m:Int))
 (hm:m*bytes<=1073741824/\m*size<=1073741824/\m<=1073741824):dI (R (λh=>aO P ds (⟨⟨some d,g,.xS e size bytes zero x y⟩,[]⟩::rest) (act n l D pm ro) h K) B w0 kl F)
 (∀b,R (λh=>aO P ds rest (act n ((d,.slice (some ⟨b,0,some 0⟩) m m)::l) D pm ro) h K) B w0 (pt b (.cells (zeros zero m))::kl) F):=by
 refine⟨λr w s=>?_⟩;have hle:∀{a b:Nat},a<=b->Nat.ble a b=true:=λh=>by rw[vH];exact h
 refine mG hn hg ?_ (r w.h.next (w.new _) (s.new _));simp only[aR.run,aR.alloc,hx,hy];show uw (cond (Nat.ble m m&&Nat.ble (m*bytes) small&&Nat.ble (m*size) small&&Nat.ble m small) _ _) w.h=_;rw[hle (bG m),hle (show m*bytes<=small from hm.1),hle (show m*size<=small from hm.2.1),hle (show m<=small from hm.2.2)];rfl
variable{b o:Nat}
def aiQ(hn:Nat.blt d n=true)(hg:bJ l g=true)(hx:ev l x=.pointer (some ⟨b,o,none⟩))(hk:aD (pt b (.cells cs)) kl kl')(hv:lW cs o=some v):
 dI (R (λh=>aO P ds (⟨⟨some d,g,.fG x⟩,[]⟩::rest) (act n l D pm ro) h K) B w0 kl F) (R (λh=>aO P ds rest (act n ((d,v)::l) D pm ro) h K) B w0 kl F):=
 ⟨λr w s=>Gq hn hg hx (s.at_ hk) (by rw[<- uE];exact hv) (r w s)⟩
def SE{c:ae ah}(hn:Nat.blt d n=true)(hg:bJ l g=true)(hx:ev l x=.pointer (some ⟨b,o,none⟩))(hk:aD (pt b (.cells cs)) kl kl')(hv:jR (kD cs o) m=some c):
 dI (R (λh=>aO P ds (⟨⟨some d,g,.sO m x⟩,[]⟩::rest) (act n l D pm ro) h K) B w0 kl F) (R (λh=>aO P ds rest (act n ((d,.agg ⟨c⟩)::l) D pm ro) h K) B w0 kl F):=
 ⟨λr w s=>ah0 hn hg hx (s.at_ hk) hv (r w s)⟩
variable{j:Nat}{w:Wd}
def NM(h:(aX b o cs).p w)(hv:lW cs j=some v):w.h.qK b (o+j)=some v:=by
 obtain⟨cells,h1,h2⟩:=h;rw[h1.cells.qK];exact h2 j v (by rw[<- uE];exact hv)
def NN{c:ae ah}(h:(aX b o cs).p w)(hv:jR (kD cs j) m=some c):w.h.je b (o+j) m=some c:=by
 obtain⟨cells,h1,h2⟩:=h;rw[h1.cells.je];rw[qM,qw]at hv⊢;split at hv
 .have key:∀i,i<m->cells[o+j+i]? =cs[j+i]?:=(by grind)
  rw[if_pos (by grind)];congr 1;apply iQ
  grind
 .cases hv
def aiR(hn:Nat.blt d n=true)(hg:bJ l g=true)(hx:ev l x=.pointer (some ⟨b,o,none⟩))(hk:aX b o cs∈F)(hv:lW cs 0=some v):
 dI (R (λh=>aO P ds (⟨⟨some d,g,.fG x⟩,[]⟩::rest) (act n l D pm ro) h K) B w0 kl F) (R (λh=>aO P ds rest (act n ((d,v)::l) D pm ro) h K) B w0 kl F):=
 ⟨λr w s=>mG hn hg (by simp only[aR.run,hx,show w.h.qK b o=some v from NM (s.facts _ hk) hv]) (r w s)⟩
def JQ(hn:Nat.blt d n=true)(hg:bJ l g=true)(hx:ev l x=.pointer (some ⟨b,o+j,none⟩))(hk:aX b o cs∈F)(hv:lW cs j=some v):
 dI (R (λh=>aO P ds (⟨⟨some d,g,.fG x⟩,[]⟩::rest) (act n l D pm ro) h K) B w0 kl F) (R (λh=>aO P ds rest (act n ((d,v)::l) D pm ro) h K) B w0 kl F):=
 ⟨λr w s=>mG hn hg (by simp only[aR.run,hx,NM (s.facts _ hk) hv]) (r w s)⟩
def aiS{c:ae ah}(hn:Nat.blt d n=true)(hg:bJ l g=true)(hx:ev l x=.pointer (some ⟨b,o,none⟩))(hk:aX b o cs∈F)(hv:jR cs m=some c):
 dI (R (λh=>aO P ds (⟨⟨some d,g,.sO m x⟩,[]⟩::rest) (act n l D pm ro) h K) B w0 kl F) (R (λh=>aO P ds rest (act n ((d,.agg ⟨c⟩)::l) D pm ro) h K) B w0 kl F):=
 ⟨λr w s=>mG hn hg (by simp only[aR.run,hx,show w.h.je b o m=some c from NN (j:=0) (s.facts _ hk) (by rw[qw];exact hv)]) (r w s)⟩
def SF{c:ae ah}(hn:Nat.blt d n=true)(hg:bJ l g=true)(hx:ev l x=.pointer (some ⟨b,o+j,none⟩))(hk:aX b o cs∈F)(hv:jR (kD cs j) m=some c):
 dI (R (λh=>aO P ds (⟨⟨some d,g,.sO m x⟩,[]⟩::rest) (act n l D pm ro) h K) B w0 kl F) (R (λh=>aO P ds rest (act n ((d,.agg ⟨c⟩)::l) D pm ro) h K) B w0 kl F):=
 ⟨λr w s=>mG hn hg (by simp only[aR.run,hx,NN (s.facts _ hk) hv]) (r w s)⟩
def SG{y:aB}{vs c:ae ah}(hg:bJ l g=true)(hx:ev l x=.pointer (some ⟨b,o,none⟩))(hy:cellsOf (ev l y)=some vs)(hm:Nat.beq (jv vs) m=true)
 (hk:aD (pt b (.cells cs)) kl kl') (hv:jV cs o vs=some c):
 dI (R (λh=>aO P ds (⟨⟨none,g,.store m x y⟩,[]⟩::rest) (act n l D pm ro) h K) B w0 kl F) (R (λh=>aO P ds rest (act n l D pm ro) h K) B w0 (pt b (.cells c)::kl') F):=
 ⟨λr w s=>Nf hg (by simp only[aR.run,hx,hy,hm];simp only[IH.storeAt,(s.at_ hk).2,hv];rfl) (r _ ((s.fB hk).write))⟩
def aiT{y:aB}(hg:bJ l g=true)(hx:ev l x=.pointer (some ⟨b,o,none⟩))(hy:ev l y=v)(hv:cellsOf v=some [v])
 (hk:aD (pt b (.cells cs)) kl kl') (ho:o<cs.length):
 dI (R (λh=>aO P ds (⟨⟨none,g,.store 1 x y⟩,[]⟩::rest) (act n l D pm ro) h K) B w0 kl F) (R (λh=>aO P ds rest (act n l D pm ro) h K) B w0 (pt b (.cells (cs.set o v))::kl') F):=
 ⟨λr w s=>Nf hg (by
  simp only[aR.run,hx,hy,hv];simp only[IH.storeAt,(s.at_ hk).2,YK cs o v ho];rfl) (r _ ((s.fB hk).write))⟩
def aiU(hn:Nat.blt d n=true)(hg:bJ l g=true)(hx:ev l x=.pointer (some ⟨b,o,none⟩))(hk:aD (pt b (.cells cs)) kl kl')(hv:cs[o]? =some v):
 dI (R (λh=>aO P ds (⟨⟨some d,g,.fG x⟩,[]⟩::rest) (act n l D pm ro) h K) B w0 kl F) (R (λh=>aO P ds rest (act n ((d,v)::l) D pm ro) h K) B w0 kl F):=
 ⟨λr w s=>Gq hn hg hx (s.at_ hk) hv (r w s)⟩
variable{α:Type}
def Y0{E:Enc α}{xs:ae α}(h:(ay E v xs).p w):∃a c,v=.slice a xs.length c:=by
 rcases h with⟨rfl,a,c,rfl,_⟩|⟨i,o,f,c,cs,⟨h1,_⟩,_⟩
 .exact⟨a,c,rfl⟩
 .exact⟨_,c,h1⟩
def aiV{E:Enc α}{xs:ae α}(h:(ay E v xs).p w){k:Nat}(hk:k<xs.length):
 ∃i o f c x y,v=.slice (some ⟨i,o,f⟩) xs.length c/\xs[k]? =some x/\(aX i (o+k*E.n) (E.pat x y)).p w/\∀f∈E.fs x y,f.p w:=by
 rcases h with⟨rfl,a,c,rfl,_⟩|⟨i,o,f,c,cs,⟨h1,_⟩,h2,h3⟩
 .simp at hk
 .obtain⟨y,q1,q2⟩:=h3 k xs[k] (by grind);exact⟨i,o,some f,c,xs[k],y,h1,(by grind),⟨cs,h2,q1⟩,q2⟩
def aiW{E:Enc α}{xs:ae α}(hn:Nat.blt d n=true)(hg:bJ l g=true)(hx:ev l x=v)(hf:ay E v xs∈F):
 dI (R (λh=>aO P ds (⟨⟨some d,g,.pV x⟩,[]⟩::rest) (act n l D pm ro) h K) B w0 kl F) (R (λh=>aO P ds rest (act n ((d,.int .i64 (xs.length:Int))::l) D pm ro) h K) B w0 kl F):=
 ⟨λr w s=>by
  obtain⟨a,c,e⟩:=Y0 (s.facts _ hf);exact YI hn hg (hx.trans e) (r w s)⟩
def SH{E:Enc α}{xs:ae α}{S:ae Nat}(h:(ap E v xs).p w S):∃a,v=.slice a xs.length xs.length:=by
 rcases h with⟨rfl,rfl,_⟩|⟨b,o,f,cells,h1,_⟩
 .exact⟨none,rfl⟩
 .exact⟨_,h1⟩
def aiX{E:Enc α}{xs:ae α}(hn:Nat.blt d n=true)(hg:bJ l g=true)(hx:ev l x=v)(hk:aD (ap E v xs) kl kl'):
 dI (R (λh=>aO P ds (⟨⟨some d,g,.pV x⟩,[]⟩::rest) (act n l D pm ro) h K) B w0 kl F) (R (λh=>aO P ds rest (act n ((d,.int .i64 (xs.length:Int))::l) D pm ro) h K) B w0 kl F):=
 ⟨λr w s=>by
  obtain⟨S,⟨S1,S2,q,_⟩,_⟩:=(s.fB hk).own;obtain⟨a,e⟩:=SH q;exact YI hn hg (hx.trans e) (r w s)⟩
variable{i:aB}{kk:IntKind}{k:Int}
def SI{E:Enc α}{xs:ae α}(hn:Nat.blt d n=true)(hg:bJ l g=true)(hx:ev l x=v)(hi:ev l i=.int kk k)(hf:ay E v xs∈F)
 (hs:E.n=size) (h0:0<=k) (h1:k<xs.length):
 dI (R (λh=>aO P ds (⟨⟨some d,g,.jw size x i⟩,[]⟩::rest) (act n l D pm ro) h K) B w0 kl F)
  (∀b o z y,xs[k.toNat]? =some z->R (λh=>aO P ds rest (act n ((d,.pointer (some ⟨b,o,none⟩))::l) D pm ro) h K) B w0 kl (aX b o (E.pat z y)::(E.fs z y++F))):=by
 refine⟨λr w s=>?_⟩;obtain⟨b,o,f,c,z,y,rfl,h2,h3,h4⟩:=aiV (s.facts _ hf) (k:=k.toNat) s6;refine JM hn hg hx hi h0 h1 (r b _ z y h2 w ?_);rw[<- hs];exact(s.add (F':=aX b (o+k.toNat*E.n) (E.pat z y)::E.fs z y) (by grind))
variable{xs:ae Int}
def Y1(hn:Nat.blt d n=true)(hg:bJ l g=true)(hx:ev l x=v)(hi:ev l i=.int kk k)(hf:ay aj v xs∈F)(h0:0<=k)(h1:k<xs.length):
 dI (R (λh=>aO P ds (⟨⟨some d,g,.jw 1 x i⟩,[]⟩::rest) (act n l D pm ro) h K) B w0 kl F)
  (∀b o z,xs[k.toNat]? =some z->R (λh=>aO P ds rest (act n ((d,.pointer (some ⟨b,o,none⟩))::l) D pm ro) h K) B w0 kl (aX b o [.int .i64 z]::F)):=
 ⟨λr=>(SI hn hg hx hi hf rfl h0 h1).h λb o z y hz=>r b o z hz⟩
def Y2{xs:ae Bool}(hn:Nat.blt d n=true)(hg:bJ l g=true)(hx:ev l x=v)(hi:ev l i=.int kk k)(hf:ay lG v xs∈F)(h0:0<=k)(h1:k<xs.length):
 dI (R (λh=>aO P ds (⟨⟨some d,g,.jw 1 x i⟩,[]⟩::rest) (act n l D pm ro) h K) B w0 kl F)
  (∀b o z,xs[k.toNat]? =some z->R (λh=>aO P ds rest (act n ((d,.pointer (some ⟨b,o,none⟩))::l) D pm ro) h K) B w0 kl (aX b o [.bool z]::F)):=
 ⟨λr=>(SI hn hg hx hi hf rfl h0 h1).h λb o z y hz=>r b o z hz⟩
def kv(E:Enc α){Q:IH->Prop}(h:R Q B w0 (ap E (.slice none 0 0) []::kl) F):R Q B w0 kl F:=λw s=>by
 obtain⟨S,h1,h2,h3⟩:=s.own;exact h w ⟨s.agree,s.le,s.fF,⟨S,⟨[],S,.inl ⟨rfl,rfl,rfl⟩,h1,rfl⟩,h2,h3⟩,s.facts⟩
def SK(E:Enc α){b:Nat}{Q:IH->Prop}(hk:aD (pt b (.cells [])) kl kl')(h:R Q B w0 (ap E (.slice (some ⟨b,0,some 0⟩) 0 0) []::kl') F):R Q B w0 kl F:=λw s=>
 h w ((s.fB hk).CB (A:=pt b (.cells [])) λw S hp=>.inr ⟨b,0,0,[],rfl,.inl rfl,hp.1,hp.2,s7,(by grind)⟩)
def aiY{A:OA}{fs:ae aI}{Q:IH->Prop}(hA:qV A fs)(hk:aD A kl kl')(h:R Q B w0 kl' (fs++F)):R Q B w0 kl F:=λw s=>by
 obtain⟨w',e,s'⟩:=(s.fB hk).freeze hA;rw[<- e];exact h w' s'
def _root_.Go.Ideal.St.fresh{o:fw}{h':IH}(s:St B w0 kl F w)(ag:Agree w.h h')(at_:At h' w.h.next o)(hn:h'.next=w.h.next+1):∃w':Wd,w'.h=h'/\St B w0 (pt w.h.next o::kl) F w':=by
 have hg:=ag.get;let w':Wd:=⟨h',w.z,λi hi=>by rw[hn];exact QH (w.oq i hi)⟩
 have hle:w.Le w':=⟨by grind,λ_ h=>h,λi hi=>hg i (w.oq i hi)⟩
 obtain⟨S,h1,h2,h3⟩:=s.own;have hnx:w'.h.next=w.h.next+1:=hn
 refine⟨w',rfl,⟨by have:=s.agree.next;omega,λi hi hb=>(hg i (oZ hi s.agree.next)).trans (s.agree.get i hi hb),λa b=>?_⟩,s.le.trans hle,s.fF,
  ⟨[w.h.next]++S,⟨[w.h.next],S,⟨rfl,at_.2⟩,fJ.loc hle (by grind) h1,rfl⟩,?_,?_⟩,λf hf=>f.mono hle (s.facts f hf)⟩
 .have hl:=s.agree.low a b;have:=s.agree.next
  rw[ag.low s6,hl]
 .grind
 .intro i hi;rcases fU.1 hi with hi|hi
  .rw[bR.1 hi];exact⟨.inl s.agree.next,s6,λhz=>absurd (w.oq _ hz) (QD _)⟩
  grind
def aiZ{E:Enc α}{b':Nat}{s:aB}{xs:ae α}{a:α}{y:E.Y}{k1 k2:ae OA}(hn:Nat.blt d n=true)(hg:bJ l g=true)
 (hs:ev l s=v) (hx:ev l x=.slice (some ⟨b',0,some 0⟩) 1 1) (hk:aD (ap E v xs) kl k1) (hc:aD (pt b' (.cells cs)) k1 k2) (hp:cs=E.pat a y) (hF:Sub (E.fs a y) F) (hz:E.n=size)
 (hm:(xs.length+1)*bytes<=1073741824/\(xs.length+1)*size<=1073741824/\xs.length+1<=1073741824):
 dI (R (λh=>aO P ds (⟨⟨some d,g,.append e size bytes s x⟩,[]⟩::rest) (act n l D pm ro) h K) B w0 kl F)
  (∀v',R (λh=>aO P ds rest (act n ((d,v')::l) D pm ro) h K) B w0 (ap E v' (xs++[a])::k2) F):=by
 refine⟨λr w st=>?_⟩;subst hp hz;have hlen:=E.len a y;have st2:St B w0 (ap E v xs::pt b' (.cells (E.pat a y))::k2) F w:=st.ku (.cons hk (.cons hc .nil));have hat:At w.h b' (.cells (E.pat a y)):=st2.at_ (.there .here);have pu:St B w0 (ap E v xs::k2) F w:=(st2.fB (.there .here)).tail;have hfs:∀f∈E.fs a y,f.p w:=λf hf=>st.facts f (hF.mem f hf);have hread:w.h.je b' 0 (1*E.n)=some (E.pat a y):=by
  exact mA
 have hx1:qp (ev l x)=some (0+1):=by rw[hx];rfl
 have hx2:pg E.n (0+1) (ev l x) w.h=some (E.pat a y):=AI
 have put:∀(w':Wd) (c:Nat) (f:Nat) (cells:ae ah),cells.length=xs.length*E.n->(∀(k:Nat) z,xs[k]? =some z->∃y,(∀(j:Nat) u,(E.pat z y)[j]? =some u->cells[k*E.n+j]? =some u)/\∀f∈E.fs z y,f.p w')->(∀f∈E.fs a y,f.p w')->
  (f=0\/f=E.n)->∀S,(pt c (.cells (cells++E.pat a y))).p w' S->(ap E (.slice (some ⟨c,0,some f⟩) (xs.length+1) (xs.length+1)) (xs++[a])).p w' S:=by
  intro w' c f cells h1 h2 h3 h4 S hp;refine .inr ⟨c,0,f,_,by grind,h4,hp.1,hp.2,by grind,λk z hk=>?_⟩;by_cases hlt:k<xs.length
  .exact gR
  .exact fg
 obtain⟨S,⟨S1,S2,q,q2,e1⟩,hnd,hown⟩:=pu.own;rcases q with⟨rfl,rfl,rfl⟩|⟨b,o,f,cells,rfl,hf,rfl,hb,hcl,hel⟩
 .exact eE
 .exact cU
def ai0{E:Enc α}{lo:aB}{q:α}{qs:ae α}(hn:Nat.blt d n=true)(hg:bJ l g=true)(hx:ev l x=v)(hlo:ev l lo=.int .i64 1)(hz:E.n=size)(hk:aD (ap E v (q::qs)) kl kl'):
 dI (R (λh=>aO P ds (⟨⟨some d,g,.FT size x (some lo) none none⟩,[]⟩::rest) (act n l D pm ro) h K) B w0 kl F)
  (∀ad,R (λh=>aO P ds rest (act n ((d,.slice ad qs.length qs.length)::l) D pm ro) h K) B w0 (ap E (.slice ad qs.length qs.length) qs::kl') F):=by
 refine⟨λr w s=>?_⟩;subst hz;have s1:=s.fB hk;obtain⟨S,⟨S1,S2,p,p2,e⟩,h2,h3⟩:=s1.own;rcases p with⟨h,_⟩|⟨b,o,f,cells,e1,hf,e2,hb,hcl,hel⟩
 .cases h
 .have hrun:(aR.FT E.n x (some lo) none none).run P (ev l) w.h=some (.slice (some ⟨b,o+E.n,some f⟩) qs.length qs.length,w.h):=by
   simp only[aR.run,hx,e1,rJ,jK,hlo,hb];rcases hf with rfl|rfl
   .show some (Value.slice (D7 b (Nat.add o (Nat.mul 1 E.n))) (Nat.sub (qs.length+1) 1) (Nat.sub (qs.length+1) 1),w.h)=_;rw[show Nat.mul 1 E.n=E.n from BS _];rfl
   .cases hE:E.n with
    |zero=>
     rfl
    |succ j=>
     show cond (Nat.beq (Nat.succ j) (j+1)) (some (Value.slice (some ⟨b,Nat.add o (Nat.mul 1 (j+1)),some (Nat.succ j)⟩) (Nat.sub (qs.length+1) 1) (Nat.sub (qs.length+1) 1),w.h)) none=_;rw[FI _,show Nat.mul 1 (j+1)=j+1 from BS _];rfl
  refine mG hn hg hrun (r _ w ⟨s1.agree,s1.le,s1.fF,⟨S,⟨S1,S2,.inr ⟨b,o+E.n,f,cells,rfl,hf,e2,hb,?_,λk z hz=>?_⟩,p2,e⟩,h2,h3⟩,s1.facts⟩)
  .grind
  .obtain⟨y,u1,u2⟩:=hel (k+1) z xa;refine⟨y,λj u hj=>?_,u2⟩
   grind
def ai1{z:Int}{k:Nat}{d2:Nat}{g2:az (Tmp×Bool)}(hn:Nat.blt d n=true)(hg:bJ l g=true)(hn2:Nat.blt d2 n=true)(hg2:∀u,bJ ((d,u)::l) g2=true)(hx:ev l x=v)(hi:ev l i=.int kk (k:Int))
 (hk:aD (ap aj v xs) kl kl') (hz:xs[k]? =some z):
 dI (R (λh=>aO P ds (⟨⟨some d,g,.jw 1 x i⟩,[]⟩::⟨⟨some d2,g2,.fG (.tmp d)⟩,[]⟩::rest) (act n l D pm ro) h K) B w0 kl F)
  (∀b o,R (λh=>aO P ds rest (act n ((d2,.int .i64 z)::(d,.pointer (some ⟨b,o,none⟩))::l) D pm ro) h K) B w0 kl F):=by
 refine⟨λr w s=>?_⟩;have s1:=s.fB hk;obtain⟨S,⟨S1,S2,p,p2,e⟩,h2,h3⟩:=s1.own;have hlt:=(bz.1 hz).1;rcases p with⟨h,_⟩|⟨b,o,f,cells,e1,hf,e2,hb,hcl,hel⟩
 .rw[h]at hz;cases hz
 .subst e1;obtain⟨y,u1,_⟩:=hel k z hz;have hc:cells[o+(k:Int).toNat*1]? =some (.int .i64 z):=by
   exact n9
  refine JM hn hg hx hi s6 s6 ?_;have hbS:b∈S:=by rw[e,e2];simp
  exact Gq hn2 (hg2 _) (by show lk _ d=_;simp[lk]) ⟨(h3 b hbS).2.1,hb⟩ hc (r _ _ w s)
end
end Go.Ideal
namespace Go.Ideal
variable {P:Program} {ρ:aB->ah}
variable{t:aM}
def qz{d:TypeDesc}(ht:P.underlying t=some d):dX P (underlying t)=some d:=by
 unfold underlying;rw[gu];show(some P).bind _=_;simp only[Option.bind,ht];rfl
variable{x y:aB}{op:BinOp}
def Y3{a b:ah}(ha:∀c,a≠.agg c)(hn:a≠.nilIface):dX P (eqGuard op t x y a b)=some ():=by
 cases a with
 |nilIface=>exact absurd rfl hn
 |agg c=>exact absurd rfl (ha c)
 |_=>cases op<;>rfl
def Y4{a b:Bool}(ht:P.underlying t=some .bool):mD P .eql t x y (.bool a) (.bool b)=some (.bool (a==b))/\mD P .neq t x y (.bool a) (.bool b)=some (.bool (a !=b)):=by
 have he:dX P (Op.equal t (.bool a) (.bool b))=some (a==b):=by
  show dX P (Op.equalIn (9999+1) t (.bool a) (.bool b))=_;unfold Op.equalIn;rw[gu,qz ht];rfl
 have h1:lC P (do eqGuard .eql t x y (.bool a) (.bool b);binOp .eql t (.bool a) (.bool b))=some (.bool (a==b)):=by
  exact oc
 have h2:lC P (do eqGuard .neq t x y (.bool a) (.bool b);binOp .neq t (.bool a) (.bool b))=some (.bool (a !=b)):=by
  exact oc
 exact⟨h1,h2⟩
def NP{a b:Bool}(hx:ρ x=.bool a)(hy:ρ y=.bool b)(ht:P.underlying t=some .bool):Pu P ρ (.bin .eql t x y) (.bool (a==b)):=λh=>by
 simp only[aR.run,hx,hy,(Y4 ht).1]
def NQ{a b:Bool}(hx:ρ x=.bool a)(hy:ρ y=.bool b)(ht:P.underlying t=some .bool):Pu P ρ (.bin .neq t x y) (.bool (a !=b)):=λh=>by
 simp only[aR.run,hx,hy,(Y4 ht).2]
variable{v:ah}
def Y5{a b:ByteArray}(hv:dX P (Op.stringOp op a b)=some v)(hf:dQ v=true):mD P op t x y (.string a) (.string b)=some v:=by
 have h1:lC P (do eqGuard op t x y (.string a) (.string b);binOp op t (.string a) (.string b))=some v:=by
  unfold lC;rw[gu,Y3 (by intro c e;cases e) xT];have hb:binOp op t (.string a) (.string b)=Op.stringOp op a b:=by cases op<;>rfl
  grind
 exact h1
def NR{a b:ByteArray}(hx:ρ x=.string a)(hy:ρ y=.string b):Pu P ρ (.bin .eql t x y) (.bool (a.toList==b.toList)):=λh=>by
 simp only[aR.run,hx,hy,Y5 (op:=.eql) rfl rfl]
def NS{a b:ByteArray}(hx:ρ x=.string a)(hy:ρ y=.string b):Pu P ρ (.bin .neq t x y) (.bool (!(a.toList==b.toList))):=λh=>by
 simp only[aR.run,hx,hy,Y5 (op:=.neq) rfl rfl]
variable{a b:Int}
def Eu(hq:sP op .i64 a b=none)(hv:dX P (binOp op t (.int .i64 a) (.int .i64 b))=some v)(hf:dQ v=true):mD P op t x y (.int .i64 a) (.int .i64 b)=some v:=by
 have h1:lC P (do eqGuard op t x y (.int .i64 a) (.int .i64 b);binOp op t (.int .i64 a) (.int .i64 b))=some v:=by
  unfold lC;rw[gu,Y3 (by intro c e;cases e) xT]
  grind
 unfold mD;simp only[hq,dQ];exact h1
def wrap64{m:Int}(h1: -9223372036854775808<=m)(h2:m<9223372036854775808):IntKind.i64.wrap m=m:=IntWalk.i64_in m ⟨h1,s6⟩
def NT(hx:ρ x=.int .i64 a)(hy:ρ y=.int .i64 b)(h1: -9223372036854775808<=a*b)(h2:a*b<9223372036854775808):Pu P ρ (.bin .mul t x y) (.int .i64 (a*b)):=λh=>by
 simp only[aR.run,hx,hy];rw[Eu rfl (by
  show some (Value.int .i64 (IntKind.i64.wrap (a*b)))=_;rw[wrap64 h1 h2]) rfl]
def NU(hx:ρ x=.int .i64 a)(hy:ρ y=.int .i64 b)(hb:b≠0)(h1: -9223372036854775808<=a.tdiv b)(h2:a.tdiv b<9223372036854775808):Pu P ρ (.bin .quo t x y) (.int .i64 (a.tdiv b)):=λh=>by
 simp only[aR.run,hx,hy];rw[Eu rfl (by
  show dX P (Op.intDiv .quo .i64 a b)=_;unfold Op.intDiv;rw[if_neg hb];show some (Value.int .i64 (IntKind.i64.wrap (a.tdiv b)))=_;rw[wrap64 h1 h2]) rfl]
def NV(hx:ρ x=.int .i64 a)(hy:ρ y=.int .i64 b)(hb:b≠0):Pu P ρ (.bin .rem t x y) (.int .i64 (a.tmod b)):=λh=>by
 simp only[aR.run,hx,hy];rw[Eu rfl (by
  show dX P (Op.intDiv .rem .i64 a b)=_;unfold Op.intDiv;rw[if_neg hb];rfl) rfl]
def NW{i:aB}{size b o m c k:Nat}{f:az Nat}{kk:IntKind}(hx:ρ x=.slice (some ⟨b,o,f⟩) m c)(hi:ρ i=.int kk (k:Int))(h1:k<m):
 Pu P ρ (.jw size x i) (.pointer (some ⟨b,o+k*size,none⟩)):=JP hx hi s6 s6
end Go.Ideal
namespace Go.Ideal
variable {P:Program}
def Left{Y:Type}(B:ae Nat)(w0:Wd)(val:Y->ah)(kl':Y->ae OA)(fs:Y->ae aI)(pr:Y->Prop):KR:=λr pm h'=>
 pm=none/\∃(w':Wd) (y:Y),w'.h=h'/\St B w0 (kl' y) (fs y) w'/\r=.ok (val y)/\pr y
def aY{Y:Type}(P:Program)(fn:Fn)(args cap:ae ah)(kl:ae OA)(F:ae aI)(val:Y->ah)(kl':Y->ae OA)(fs:Y->ae aI)(pr:Y->Prop):Prop:=
 ∀(B:ae Nat) (w:Wd),St B w kl F w->CALL P ⟨fn,args,cap,none⟩ w.h (Left B w val kl' fs pr)
def uL:Nat->ae ah->qr->qr
 |_,[],l=>l
 |i,v::vs,l=>uL (i+1) vs ((i,v)::l)
def Y6:∀(args:ae ah) (i:Nat) (l:qr),Al args i (iZ l)=iZ (uL i args l)
 |[],i,l=>rfl
 |v::vs,i,l=>by
  show Al vs (i+1) (iZ ((i,v)::l))=_;rw[Y6 vs];rfl
def SL(n:Nat)(args:ae ah)(pm:az FrameMode):Ea n args pm=act (uz n (jv args)) (uL 0 args []) [] pm none:=by
 show bE.mk _ (Al args 0 (iZ [])) _ _ _=_;rw[Y6];rfl
def ai2{Y:Type}{f:gy}{args cap:ae ah}{kl:ae OA}{F:ae aI}{val:Y->ah}{kl':Y->ae OA}{fs:Y->ae aI}{pr:Y->Prop}(cf:iJ)(hF:(vN P uB uC).F f=some cf)
 (hb:∀B w0,R (λh=>EV P cf.body (act (uz cf.ntmps (jv (args++cap))) (uL 0 (args++cap) []) [] none none) h (zy cf (Left B w0 val kl' fs pr))) B w0 kl F):aY P (.func f) args cap kl F val kl' fs pr:=by
 intro B w s;obtain⟨fn,h1,h2⟩:=(M9 P uB uC (λf q h v h' hm=>by cases hm)).fn f cf hF;refine ahV fn h1 cf h2 ?_;rw[SL];exact hb B w w s
section
variable {B:ae Nat} {w0:Wd} {kl kl' bA:ae OA} {F:ae aI} {K:KO} {ds:ae Tmp} {rest:ae bV} {n:Nat} {l:qr} {D:ae Deferred} {pm:az FrameMode} {ro:az Nat} {d:Nat} {g:az (Tmp×Bool)}
def St.call{w w':Wd}{k1 k1' bA:ae OA}{F1 F':ae aI}{S1 S2:ae Nat}(s:St B w0 kl F w)(hp:∃S:ae Nat,S.Perm (S1++S2)/\S.Nodup/\∀i∈S,(w0.h.next<=i\/i∈B)/\i<w.h.next/\¬w.z i)
 (h2:fJ w bA S2) (c:St S1 w k1' F' w'):St B w0 (k1'++bA) (F'++F) w':=by
 obtain⟨S,hperm,ai3,hall⟩:=hp;have hnd:=hperm.nodup ai3;have hall:=λi hi=>hall i (hperm.mem_iff.2 hi);have hd:=j5.1 hnd;obtain⟨S',c1,c2,c3⟩:=c.own;have hsame:=λi hi=>c.agree.get i (hall i (wQ _ hi)).2.1 (λhm=>hd.2.2 i hm i hi rfl);refine⟨⟨lZ s.agree.next c.agree.next,λi hi hB=>?_,λa b=>?_⟩,s.le.trans c.le,λi hi hz=>?_,⟨S'++S2,c1.app (fJ.loc c.le hsame h2),?_,?_⟩,λf hf=>?_⟩
 .rw[<- s.agree.get i hi hB];refine c.agree.get i (oZ hi s.agree.next) (λhm=>?_);rcases(hall i (ul _ hm)).1 with q|q
  .omega
  .exact hB q
 .have hl:=s.agree.low a b;rw[c.agree.low (by rw[hl];exact lZ a s.agree.next) (λi hi=>?_),hl];rw[hl];rcases(hall i (ul _ hi)).1 with q|q
  .omega
  .exact b i q
 .rcases c.fF i (oZ hi s.agree.next) hz with q|q
  .exact s.fF i hi q
  .rcases(hall i (ul _ q)).1 with u|u
   .omega
   .exact .inr u
 .refine j5.2 ⟨c2,hd.2.1,λa ha b hb e=>?_⟩;subst e;rcases(c3 a ha).1 with q|q
  .have:=(hall a (wQ _ hb)).2.1;omega
  .exact hd.2.2 a q a hb rfl
 .intro i hi;rcases fU.1 hi with hi|hi
  .refine⟨?_,(c3 i hi).2⟩;rcases(c3 i hi).1 with q|q
   .exact .inl (lZ s.agree.next q)
   .exact(hall i (ul _ q)).1
  .have q:=hall i (wQ _ hi);refine⟨q.1,oZ q.2.1 c.agree.next,λhz=>?_⟩;rcases c.fF i q.2.1 hz with u|u
   .exact q.2.2 u
   .exact hd.2.2 i u i hi rfl
 .rcases fU.1 hf with hf|hf
  .exact c.facts f hf
  .exact f.mono c.le (s.facts f hf)
def Same(P:Program)(re:ae jh)(ρ:aB->ah)(l:qr)(B:ae Nat)(w0:Wd)(kl:ae OA)(F:ae aI):Prop:=
 ∀w,St B w0 kl F w->∀r∈re,∃u h2,r.op.run P ρ w.h=some (u,h2)/\∀d',r.dst=some d'->lk l d'=u
def Gv{ρ:aB->ah}:Same P [] ρ l B w0 kl F:=λw s r hr=>by cases hr
variable{re:ae jh}{x:aB}{b o:Nat}{cs:ae ah}{v:ah}
def Gw(hx:ev l x=.pointer (some ⟨b,o,none⟩))(hk:aD (pt b (.cells cs)) kl kl')(hv:lW cs o=some v)(hd:lk l d=v)
 (t:Same P re (ev l) l B w0 kl F):Same P (⟨some d,g,.fG x⟩::re) (ev l) l B w0 kl F:=λw s r hr=>by
 rcases dm.1 hr with rfl|hr
 .have hc:w.h.qK b o=some v:=by rw[(s.at_ hk).cX.qK,<- uE];exact hv
  exact⟨v,w.h,by simp only[aR.run,hx,hc],(by grind)⟩
 .exact t w s r hr
def JS(hx:ev l x=.pointer (some ⟨b,o,none⟩))(hk:aX b o cs∈F)(hv:lW cs 0=some v)(hd:lk l d=v)
 (t:Same P re (ev l) l B w0 kl F):Same P (⟨some d,g,.fG x⟩::re) (ev l) l B w0 kl F:=λw s r hr=>by
 rcases dm.1 hr with rfl|hr
 .exact⟨v,w.h,by simp only[aR.run,hx,show w.h.qK b o=some v from NM (s.facts _ hk) hv],(by grind)⟩
 .exact t w s r hr
variable{j:Nat}
def JU(hx:ev l x=.pointer (some ⟨b,o+j,none⟩))(hk:aX b o cs∈F)(hv:lW cs j=some v)(hd:lk l d=v)
 (t:Same P re (ev l) l B w0 kl F):Same P (⟨some d,g,.fG x⟩::re) (ev l) l B w0 kl F:=λw s r hr=>by
 rcases dm.1 hr with rfl|hr
 .exact⟨v,w.h,by simp only[aR.run,hx,NM (s.facts _ hk) hv],(by grind)⟩
 .exact t w s r hr
variable{m:Nat}{c:ae ah}
def JV(hx:ev l x=.pointer (some ⟨b,o,none⟩))(hk:aD (pt b (.cells cs)) kl kl')(hv:jR (kD cs o) m=some c)(hd:lk l d=.agg ⟨c⟩)
 (t:Same P re (ev l) l B w0 kl F):Same P (⟨some d,g,.sO m x⟩::re) (ev l) l B w0 kl F:=λw s r hr=>by
 rcases dm.1 hr with rfl|hr
 .have hc:w.h.je b o m=some c:=by rw[(s.at_ hk).cX.je];exact hv
  exact⟨.agg ⟨c⟩,w.h,by simp only[aR.run,hx,hc],(by grind)⟩
 .exact t w s r hr
def JW(hx:ev l x=.pointer (some ⟨b,o,none⟩))(hk:aX b o cs∈F)(hv:jR cs m=some c)(hd:lk l d=.agg ⟨c⟩)
 (t:Same P re (ev l) l B w0 kl F):Same P (⟨some d,g,.sO m x⟩::re) (ev l) l B w0 kl F:=λw s r hr=>by
 rcases dm.1 hr with rfl|hr
 .exact⟨.agg ⟨c⟩,w.h,by simp only[aR.run,hx,show w.h.je b o m=some c from NN (j:=0) (s.facts _ hk) (by rw[qw];exact hv)],(by grind)⟩
 .exact t w s r hr
def JX(hx:ev l x=.pointer (some ⟨b,o+j,none⟩))(hk:aX b o cs∈F)(hv:jR (kD cs j) m=some c)(hd:lk l d=.agg ⟨c⟩)
 (t:Same P re (ev l) l B w0 kl F):Same P (⟨some d,g,.sO m x⟩::re) (ev l) l B w0 kl F:=λw s r hr=>by
 rcases dm.1 hr with rfl|hr
 .exact⟨.agg ⟨c⟩,w.h,by simp only[aR.run,hx,NN (s.facts _ hk) hv],(by grind)⟩
 .exact t w s r hr
variable{op:aR}
def Y7(hp:Pu P (ev l) op v)(hd:lk l d=v)(t:Same P re (ev l) l B w0 kl F):Same P (⟨some d,g,op⟩::re) (ev l) l B w0 kl F:=λw s r hr=>by
 rcases dm.1 hr with rfl|hr
 .exact⟨v,w.h,hp w.h,(by grind)⟩
 .exact t w s r hr
variable{vs:ae ah}
def ai4{y:aB}(hg:bJ l g=true)(hx:ev l x=.pointer (some ⟨b,o,none⟩))(hw:ev l y=v)(hy:cellsOf v=some vs)(hm:Nat.beq (jv vs) m=true)
 (hk:aD (pt b (.cells cs)) kl kl') (hv:jV cs o vs=some c) (hs:Same P re (ev l) l B w0 (pt b (.cells c)::kl') F):
 dI (R (λh=>aO P ds (⟨⟨none,g,.store m x y⟩,re⟩::rest) (act n l D pm ro) h K) B w0 kl F) (R (λh=>aO P ds rest (act n l D pm ro) h K) B w0 (pt b (.cells c)::kl') F):=
 ⟨λr w s=>by
  subst hw;have s':=(s.fB hk).write (o':=.cells c);refine .nL (zz hg) eY (w.h.set b (.cells c)) (by rw[qa];simp only[aR.run,hx,hy,hm];simp only[IH.storeAt,(s.at_ hk).2,hv];rfl) (λq hq _=>?_) (r _ s');obtain⟨u,h2,e1,e2⟩:=hs _ s' q hq;exact⟨u,h2,by show q.op.run P (act n l D pm ro).eval _=_;rw[qa];exact e1,λd' hd=>by rw[<- e2 d' hd];exact yu _ _⟩⟩
def ai5(hn:Nat.blt d n=true)(hg:bJ l g=true)(hp:Pu P (ev l) op v)(hs:Same P re (ev ((d,v)::l)) ((d,v)::l) B w0 kl F):
 dI (R (λh=>aO P ds (⟨⟨some d,g,op⟩,re⟩::rest) (act n l D pm ro) h K) B w0 kl F) (R (λh=>aO P ds rest (act n ((d,v)::l) D pm ro) h K) B w0 kl F):=
 ⟨λr w s=>by
  refine .nL (zz hg) v w.h (by rw[qa];exact hp w.h) (λq hq _=>?_) (by rw[sZ hn];exact r w s);obtain⟨u,h2,e1,e2⟩:=hs w s q hq;exact gO⟩
variable{Y:Type}
def ai6{f:aB}{xs:ae aB}{fn:Fn}{first captured as:ae ah}{k1:ae OA}{F1:ae aI}{val:Y->ah}{k1':Y->ae OA}{fs:Y->ae aI}{pr:Y->Prop}
 (hc:aY P fn as captured k1 F1 val k1' fs pr) (hn:Nat.blt d n=true) (hg:bJ l g=true) (hf:ev l f=.func fn ⟨first⟩ ⟨captured⟩) (hx:EvL (ev l) xs vs) (ha:first++vs=as)
 (hk:aJ k1 kl bA) (hF:Sub F1 F)
 (hs:∀y,pr y->Same P re (ev ((d,val y)::l)) ((d,val y)::l) B w0 (k1' y++bA) (fs y++F))
 (next:∀y,pr y->R (λh=>aO P ds rest (act n ((d,val y)::l) D pm ro) h K) B w0 (k1' y++bA) (fs y++F)):
 R (λh=>aO P ds (⟨⟨some d,g,.call f xs⟩,re⟩::rest) (act n l D pm ro) h K) B w0 kl F:=by
 intro w s;obtain⟨S,h1,h2,h3⟩:=s.own;obtain⟨S1,S2,q1,q2,hp⟩:=h1.ku hk;have s1:St S1 w k1 F1 w:=⟨⟨bG _,λ_ _ _=>rfl,λ_ _=>rfl⟩,Wd.Le.refl w,λi _ hz=>.inl hz,(by grind),λf hf=>s.facts f (hF.mem f hf)⟩
 have hcall:=hc S1 w s1;subst ha;rw[<- hx.map]at hcall;have back:∀(w':Wd) (y:Y),St S1 w (k1' y) (fs y) w'->St B w0 (k1' y++bA) (fs y++F) w':=λw' y c=>s.call (k1:=k1) (F1:=F1) ⟨S,hp,h2,h3⟩ q2 c;refine s_call hn hg fn hf _ hcall ?_ ?_ ?_ ?_
 .rintro v h' ⟨_,w',y,rfl,c,hv,hpr⟩;injection hv with hv;subst hv;exact hs y hpr w' (back w' y c)
 .rintro v h' ⟨_,w',y,rfl,c,hv,hpr⟩;injection hv with hv;subst hv;exact next y hpr w' (back w' y c)
 .rintro ch h' ⟨_,w',y,rfl,c,hv,hpr⟩;cases hv
 .rintro r p h' ⟨e,_⟩;exact e
inductive RS(l:List (Nat×Value))(kl:List OA):List uy->List Value->Prop
 |nil:RS l kl [] []
 |tmp {t:Tmp} {rs:List uy} {v:Value} {vs:List Value} (h:lk l t=v) (r:RS l kl rs vs):RS l kl (.tmp t::rs) (v::vs)
 |cell1 {t:Tmp} {rs:List uy} {v:Value} {vs cs:List Value} {b o:Nat} {kl':List OA} (h:lk l t=.pointer (some ⟨b,o,none⟩)) (hk:aD (pt b (.cells cs)) kl kl') (hv:lW cs o=some v) (r:RS l kl rs vs):RS l kl (.cell1 t::rs) (v::vs)
 |pX {n:Nat} {t:Tmp} {rs:List uy} {vs cs c:List Value} {b o:Nat} {kl':List OA} (h:lk l t=.pointer (some ⟨b,o,none⟩)) (hk:aD (pt b (.cells cs)) kl kl') (hv:jR (kD cs o) n=some c) (r:RS l kl rs vs):
   RS l kl (.pX n t::rs) (.agg ⟨c⟩::vs)
def RS.all{w:Wd}(s:St B w0 kl F w):∀{rs:ae uy} {vs:ae ah},RS l kl rs vs->Am (iZ l) w.h rs=some vs
 |_,_,.nil=>rfl
 |_,_,.tmp (t:=t) (rs:=rs) h r=>by
  have ih:=RS.all s r;show(match wV (iZ l) w.h (.tmp t),Am (iZ l) w.h rs with|some v,some vs=>some (v::vs)|_,_=>none)=_;rw[ih];simp only[wV,yu,h]
 |_,_,.cell1 (t:=t) (rs:=rs) h hk hv r=>by
  have ih:=RS.all s r;show(match wV (iZ l) w.h (.cell1 t),Am (iZ l) w.h rs with|some v,some vs=>some (v::vs)|_,_=>none)=_;rw[ih];simp only[wV,yu,h,(s.at_ hk).2,hv]
 |_,_,.pX (n:=n) (t:=t) (rs:=rs) h hk hv r=>by
  have ih:=RS.all s r;show(match wV (iZ l) w.h (.pX n t),Am (iZ l) w.h rs with|some v,some vs=>some (v::vs)|_,_=>none)=_;rw[ih];simp only[wV,yu,h,IH.kL,(s.at_ hk).2,hv]
def qX(vs:ae ah):ah:=
 match vs with
 |[v]=>v
 |vs=>.tuple ⟨vs⟩
def Y8{o:Out}{cf:iJ}{val:Y->ah}{k1:Y->ae OA}{fs:Y->ae aI}{pr:Y->Prop}(y:Y)(hr:RS l kl cf.results vs)(hv:qX vs=val y)(hp:pr y)(hk:aJ (k1 y) kl bA)(hF:Sub (fs y) F)
 (ho:o=.normal\/o=.ret):R (λh=>zy cf (Left B w0 val k1 fs pr) o (act n l [] none ro) h) B w0 kl F:=by
 intro w s;have h1:uA cf.results (iZ l) w.h=some (val y):=by
  unfold uA;rw[hr.all s];rw[<- hv];exact oB
 have h2:Left B w0 val k1 fs pr (.ok (val y)) none w.h:=⟨rfl,w,y,rfl,((s.ku hk).drop).sub hF,rfl,hp⟩
 rcases ho with rfl|rfl
 .exact⟨val y,h1,rfl,h2⟩
 .exact⟨val y,h1,rfl,h2⟩
inductive pz{α:Type}(F0:List α):List α->Prop
 |here:pz F0 F0
 |cons {a:α} {F:List α} (h:pz F0 F):pz F0 (a::F)
 |app {G F:List α} (h:pz F0 F):pz F0 (G++F)
def pz.mem{α:Type}{F0:ae α}:∀{F:ae α},pz F0 F->∀f∈F0,f∈F
 |_,.here,f,hf=>hf
 |_,.cons h,f,hf=>fP _ (h.mem f hf)
 |_,.app h,f,hf=>wQ _ (h.mem f hf)
inductive vV:List (Nat×Value)->List (Nat×Value)->List (Nat×Value)->Prop
 |nil {ks:List (Nat×Value)}:vV [] ks []
 |drop {k:Nat} {v:Value} {l ks r:List (Nat×Value)} (h:(ks.any λp=>Nat.beq p.1 k)=true) (t:vV l ks r):vV ((k,v)::l) ks r
 |keep {k:Nat} {v:Value} {l ks r:List (Nat×Value)} (h:(ks.any λp=>Nat.beq p.1 k)=false) (t:vV l ((k,v)::ks) r):vV ((k,v)::l) ks ((k,v)::r)
def LI{X:Type}(n:Nat)(D:ae Deferred)(pm:az FrameMode)(ro:az Nat)(B:ae Nat)(w0:Wd)(m:X->Nat)(L:X->qr)(KL:X->ae OA)(FF:X->ae aI)(inv:X->Prop)
 (l0:qr) (bA:ae OA) (F0:ae aI):Nat->bE->IH->Prop:=λr a h=>
 ∃(x:X) (w:Wd),r=m x/\a=act n (L x++l0) D pm ro/\w.h=h/\St B w0 (KL x++bA) (FF x++F0) w/\inv x
variable{X:Type}
def ai7{c:dD}(m:X->Nat)(L:X->qr)(KL:X->ae OA)(FF:X->ae aI)(inv:X->Prop)(x0:X)(hi:inv x0)(l0:qr)(hl:sub (L x0++l0) l)(hk:aJ (KL x0) kl bA)(hF:Sub (FF x0) F)
 (body:∀x,inv x->R (λh=>EV P c (act n (L x++l0) D pm ro) h (vT (LI n D pm ro B w0 m L KL FF inv l0 bA F) (m x) K)) B w0 (KL x++bA) (FF x++F)):
 R (λh=>EV P (.loop c) (act n l D pm ro) h K) B w0 kl F:=by
 intro w s;refine Si (Nc hl) ?_;refine YF (LI n D pm ro B w0 m L KL FF inv l0 bA F) ?_ (m x0) _ _ ⟨x0,w,rfl,rfl,rfl,(s.ku hk).add (λf hf=>s.facts f (hF.mem f hf)),hi⟩;rintro r a h ⟨x,w',rfl,rfl,rfl,s',hx⟩;exact body x hx w' s'
def ai8{m:X->Nat}{L:X->qr}{KL:X->ae OA}{FF:X->ae aI}{inv:X->Prop}{l0:qr}{dS:ae OA}{F0:ae aI}{m0:Nat}(x:X)(hm:m x<m0)(hi:inv x)(hl:sub (L x++l0) l)
 (hk:aJ (KL x++bA) kl dS) (hF:Sub (FF x) F) (yx:pz F0 F):R (λh=>vT (LI n D pm ro B w0 m L KL FF inv l0 bA F0) m0 K .normal (act n l D pm ro) h) B w0 kl F:=by
 intro w s;refine YL (m x) hm hl ⟨x,w,rfl,rfl,rfl,?_,hi⟩;have s':=(s.ku hk).drop;exact⟨s'.agree,s'.le,s'.fF,s'.own,λf hf=>(fU.1 hf).elim (λhf=>s.facts f (hF.mem f hf)) (λhf=>s.facts f (yx.mem f hf))⟩
end

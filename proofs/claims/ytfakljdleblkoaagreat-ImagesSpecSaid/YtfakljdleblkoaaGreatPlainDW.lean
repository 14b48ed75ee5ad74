/-
  Part PlainDW.
-/
import Derived.Test.YtfakljdleblkoaaGreatPlainCW
set_option linter.all false
namespace Kd
open Go Go.Ideal Canon
structure di(n:Nat)(p:List Int):Prop where
 len:p.length=n
 eH:∀x∈p,0<=x/\x<(n:Int)
 nd:p.Nodup
variable{p:List Int}{c:Int}
theorem Ak(h0:0<=c)(h1:c<p.length):p[c.toNat]? =some (aR p c):=by
 unfold aR;rw[List.getD,bW vj];rfl
theorem Ng(h0:0<=c)(h1:c<p.length):aR p c∈p:=aP (Ak h0 h1)
variable{n:Nat}
theorem di.at_(h:di n p){c:Int}(h0:0<=c)(h1:c<(n:Int)):0<=aR p c/\aR p c<(n:Int):=h.eH _ (Ng h0 (by rw[h.len];exact h1))
variable{α:Type}
theorem Cq{p:List α}(h:p.Nodup){i j:Nat}{x:α}(hi:p[i]? =some x)(hj:p[j]? =some x):i=j:=by
 obtain⟨h1,h2⟩:=bC.1 hi;obtain⟨h3,h4⟩:=bC.1 hj;rcases Nat.lt_trichotomy i j with hl|hl|hl
 ·exact absurd (h2.trans h4.symm) (zm.1 h i j h1 h3 hl)
 ·exact hl
 ·exact absurd (h4.trans h2.symm) (zm.1 h j i h3 h1 hl)
theorem di.inj(h:di n p){a b:Int}(a0:0<=a)(a1:a<(n:Int))(b0:0<=b)(b1:b<(n:Int))(e:aR p a=aR p b):a=b:=by
 have h1:=Ak (p:=p) a0 (by rw[h.len];exact a1);have h2:=Ak (p:=p) b0 (by rw[h.len];exact b1);rw[e]at h1;have:=Cq h.nd h1 h2;omega
theorem di.mem(h:di n p){y:Int}(y0:0<=y)(y1:y<(n:Int)):y∈p:=by
 apply Classical.byContradiction;intro hn;have h1:=EM (l:=p) (m:=(upTo' n).erase y) h.nd (λx hx=>by
  have hne:x≠y:=λe=>hn (e▸hx);refine(akg hne).2 ?_;have:=h.eH x hx;unfold upTo';exact eG.2 ⟨x.toNat,oZ.2 vj,vj⟩)
 have hy:y∈upTo' n:=by
  unfold upTo';exact eG.2 ⟨y.toNat,oZ.2 vj,vj⟩
 have h2:=WL hy;have h3:0<(upTo' n).length:=akf hy;rw[oO]at h2 h3;have h4:=h.len;omega
theorem di.onto(h:di n p){y:Int}(y0:0<=y)(y1:y<(n:Int)):∃c,0<=c/\c<(n:Int)/\aR p c=y:=by
 obtain⟨i,hi⟩:=jT (h.mem y0 y1);have:=(bC.1 hi).1;have h4:=h.len;refine⟨(i:Int),vj,vj,l6 hi⟩
def mJ(a b:List Int):List Int:=b.map (aR a)
def lN(p:List Int):List Int:=(List.range p.length).map λy:Nat=>((p.idxOf (y:Int):Nat):Int)
variable{a b:List Int}
theorem yR(h0:0<=c)(h1:c<b.length):aR (mJ a b) c=aR a (aR b c):=by
 unfold mJ;have h:=Ak h0 h1;have h2:(b.map (aR a))[c.toNat]? =some (aR a (aR b c)):=by rw[dK,h];rfl
 show(b.map (aR a)).getD c.toNat 0=_;exact gz h2
variable{l:List Int}
theorem Nh{f:Int->Int}(h:l.Nodup)(hf:∀a∈l,∀b∈l,f a=f b->a=b):(l.map f).Nodup:=by
 unfold List.Nodup;rw[xU];exact List.Pairwise.imp_of_mem (λha hb hne e=>hne (hf _ ha _ hb e)) h
theorem di.comp(ha:di n a)(hb:di n b):di n (mJ a b):=by
 refine⟨by unfold mJ;rw[cz];exact hb.len,λx hx=>?_,?_⟩
 ·unfold mJ at hx;obtain⟨y,hy,rfl⟩:=eG.1 hx;have:=hb.eH y hy;exact ha.at_ this.1 this.2
 ·unfold mJ;exact Nh hb.nd λx hx y hy e=>ha.inj (hb.eH x hx).1 (hb.eH x hx).2 (hb.eH y hy).1 (hb.eH y hy).2 e
theorem TV(p:List Int):(lN p).length=p.length:=by unfold lN;rw[cz,o8]
theorem adM{y:Int}(h0:0<=y)(h1:y<p.length):aR (lN p) y=((p.idxOf y:Nat):Int):=by
 obtain⟨m,rfl⟩:=iO h0;apply l6;unfold lN;rw[dK,qN vj];rfl
theorem di.idx(h:di n p){c:Int}(h0:0<=c)(h1:c<(n:Int)):((p.idxOf (aR p c):Nat):Int)=c:=by
 have hg:=Ak (p:=p) h0 (by rw[h.len];exact h1);have hm:=aP hg;have hl:=List.idxOf_lt_length_iff.2 hm;have h2:p[p.idxOf (aR p c)]? =some (aR p c):=by
  rw[bW hl,List.getElem_idxOf]
 have:=Cq h.nd hg h2;omega
theorem di.vP(h:di n p){c:Int}(h0:0<=c)(h1:c<(n:Int)):aR (lN p) (aR p c)=c:=by
 have:=h.at_ h0 h1;rw[adM this.1 (by rw[h.len];exact this.2),h.idx h0 h1]
theorem di.Ni(h:di n p){y:Int}(h0:0<=y)(h1:y<(n:Int)):aR p (aR (lN p) y)=y:=by
 obtain⟨c,c0,c1,rfl⟩:=h.onto h0 h1;rw[h.vP c0 c1]
theorem di.inv(h:di n p):di n (lN p):=by
 refine⟨by rw[TV];exact h.len,λx hx=>?_,?_⟩
 ·obtain⟨i,hi⟩:=jT hx;have hl:=(bC.1 hi).1;rw[TV,h.len]at hl;obtain⟨c,c0,c1,hc⟩:=h.onto (y:=(i:Int)) vj vj;have:=h.vP c0 c1;rw[hc,l6 hi]at this;omega
 ·unfold lN;unfold List.Nodup;rw[xU];refine List.Pairwise.imp_of_mem (λ{a b} ha hb hne e=>hne ?_) List.nodup_range;have ha:=oZ.1 ha;have hb:=oZ.1 hb;rw[h.len]at ha hb;obtain⟨c,c0,c1,hc⟩:=h.onto (y:=(a:Int)) vj vj;obtain⟨d,d0,d1,hd⟩:=h.onto (y:=(b:Int)) vj vj;rw[<- hc,<- hd,h.idx c0 c1,h.idx d0 d1]at e;rw[e,hd]at hc;omega
theorem di.ident(n:Nat):di n (upTo' n):=by
 refine⟨oO n,λx hx=>?_,EK n⟩;obtain⟨i,hi⟩:=jT hx;have hl:=(bC.1 hi).1;rw[oO]at hl;rw[ado hi];omega
def uF{α:Type}(f:α->α):Nat->α->α
 |0,x=>x
 |t+1,x=>f (uF f t x)
theorem IY{m:Nat}{f:Nat->Nat}(hf:∀i,i<m->f i<m):∀t x,x<m->uF f t x<m
 |0,_,h=>h
 |t+1,x,h=>hf _ (IY hf t x h)
variable{m:Nat}{f:Nat->Nat}
theorem adN(hf:∀i,i<m->f i<m){j:Nat}(hj:j<m):∃a b,a<b/\uF f a j=uF f b j:=by
 apply Classical.byContradiction;intro hno;have h:=Tz m ((List.range (m+1)).map λt=>((uF f t j:Nat):Int)) (by
  unfold List.Nodup;rw[xU];exact List.pairwise_lt_range.imp (λ{a b} hab e=>hno ⟨a,b,hab,Int.ofNat.inj e⟩)) (λx hx=>by
  obtain⟨t,_,rfl⟩:=eG.1 hx;have:=IY hf t j hj;omega)
 rw[cz,o8]at h;omega
theorem TW{L:Nat->α}{S:α->α}{R:α->α->Prop}{D:α->Prop}(hD:∀i,i<m->D (L i))(hDS:∀x,D x->D (S x))(hr:∀x,R x x)(hs:∀x y,R x y->R y x)(ht:∀x y z,R x y->R y z->R x z)
 (hS:∀x y,D x->D y->(R (S x) (S y)↔R x y)) (hf:∀i,i<m->f i<m/\R (L (f i)) (S (L i))) {j:Nat} (hj:j<m):∃i,i<m/\R (L j) (S (L i)):=by
 have hf1:∀i,i<m->f i<m:=λi hi=>(hf i hi).1;have IZ:∀t,D (uF S t (L j)):=λt=>by
  induction t with
  |zero=>exact hD j hj
  |succ t ih=>exact hDS _ ih
 have key:∀t,R (L (uF f t j)) (uF S t (L j)):=λt=>by
  induction t with
  |zero=>exact hr _
  |succ t ih=>
   have hl:=IY hf1 t j hj;exact ht _ _ _ (hf _ hl).2 ((hS _ _ (hD _ hl) (IZ t)).2 ih)
 have cancel:∀a d,R (uF S a (L j)) (uF S (a+d) (L j))->R (L j) (uF S d (L j)):=λa d=>by
  induction a with
  |zero=>intro h;rw[fC]at h;exact h
  |succ a ih=>
   intro h;rw[Nat.succ_add]at h;exact ih ((hS _ _ (IZ _) (IZ _)).1 h)
 obtain⟨a,b,hab,e⟩:=adN hf1 hj;have h1:=key a;have h2:=key b;rw[e]at h1;obtain⟨d,rfl⟩:∃d,b=a+(d+1):=⟨b - a - 1,vj⟩
 have h3:=cancel a (d+1) (ht _ _ _ (hs _ _ h1) h2);have hl:=IY hf1 d j hj;exact⟨_,hl,ht _ _ _ h3 (hs _ _ ((hS _ _ (hD _ hl) (IZ d)).2 (key d)))⟩
def img(s:List Int)(l:List Int):List Int:=l.map (aR s)
def oq(n:Nat)(l:List Int):Prop:=∀c∈l,0<=c/\c<(n:Int)
theorem EO(s l:List Int):(img s l).length=l.length:=by unfold img;rw[cz]
variable{s:List Int}
theorem oq.img(h:di n s){l:List Int}(hl:oq n l):oq n (img s l):=by
 intro c hc;unfold Kd.img at hc;obtain⟨x,hx,rfl⟩:=eG.1 hc;exact h.at_ (hl x hx).1 (hl x hx).2
theorem I1(h:di n s){l:List Int}(hl:oq n l):img (lN s) (img s l)=l:=by
 unfold img;rw[xS];conv=>rhs;rw[<- List.map_id l]
 exact AY λc hc=>h.vP (hl c hc).1 (hl c hc).2
theorem adP(hl:oq b.length l):img (mJ a b) l=img a (img b l):=by
 unfold img;rw[xS];exact AY λc hc=>yR (hl c hc).1 (hl c hc).2
theorem I4(s:List Int){a b:List Int}(h:a.Perm b):(img s a).Perm (img s b):=h.map _
theorem adQ(h:di n s){a b:List Int}(ha:oq n a)(hb:oq n b)(e:(img s a).Perm (img s b)):a.Perm b:=by
 have:=I4 (lN s) e
 rwa [I1 h ha,I1 h hb]at this
theorem adR(s l:List Int):img s l.reverse=(img s l).reverse:=by unfold img;rw[List.map_reverse]
theorem TY(h:di n s){l:List Int}(hl:oq n l)(hn:l.Nodup):(img s l).Nodup:=by
 unfold img;exact Nh hn λa ha b hb e=>h.inj (hl a ha).1 (hl a ha).2 (hl b hb).1 (hl b hb).2 e
theorem I5(l:List Int):(bM l).Perm l:=zl l _
theorem I6:bM a=bM b↔a.Perm b:=by
 constructor
 ·intro e;exact(I5 a).symm.trans (e▸I5 b)
 ·intro h;exact List.Perm.eq_of_pairwise (λx y _ _ h1 h2=>Int.le_antisymm h1 h2) (M3 a) (M3 b) ((I5 a).trans (h.trans (I5 b).symm))
end Kd
namespace Kd
open Go Go.Ideal Canon
def iR(f:Int):Bool:=decide (f=0)||decide (f=4)||decide (f=5)
def pO(L:List (List Int))(w:List Int):Int:=match L.findIdx? (λx=>decide (bM x=bM w))with
 |some i=>(i:Int)
 |none=> -1
def iM(L:List (List Int))(s:List Int)(f at_:Int):Int:=if iR f then aR s at_ else pO L (img s (L.getD at_.toNat []))
def iT(a b:List Int):Bool:=decide (bM a=bM b)
def rF(a b:List Int):Bool:=decide (a=b)
def qy(a b:List Int):Bool:=decide (a=b)||decide (a=b.reverse)
def mK(L:List (List Int))(s:List Int)(f:Int)(eq:List Int->List Int->Bool)(l:List Int)(j:Nat):Bool:=
 decide (0<=iM L s f (j:Int))&&(iT (L.getD (iM L s f (j:Int)).toNat []) (img s l)&&eq (L.getD (iM L s f (j:Int)).toNat []) (img s l))
def iN(L:List (List Int))(s:List Int)(f:Int)(eq:List Int->List Int->Bool):Bool:=L.zipIdx.all λx=>mK L s f eq x.1 x.2
def jC(aD:List (List Int))(s:List Int):Bool:=aD.zipIdx.all λx=>x.1.all λb=>decide (aR s b∈aD.getD (aR s (x.2:Int)).toNat [])
def kg(vals t:List Int):Bool:=t.zipIdx.all λx=>decide (aR vals (x.2:Int)=aR vals x.1)
def lg(set other:Nat)(t:List Int):Bool:=t.zipIdx.all λx=>decide (set.testBit x.2=set.testBit x.1.toNat)&&decide (other.testBit x.2=other.testBit x.1.toNat)
def yS(L:List (List Int)):Prop:=∀(i j:Nat) (a b:List Int),L[i]? =some a->L[j]? =some b->a.Perm b->i=j
theorem lm{α:Type}{l:List α}{p:α×Nat->Bool}:l.zipIdx.all p=true↔∀(i:Nat) x,l[i]? =some x->p (x,i)=true:=by
 rw[kR];constructor
 ·intro h i x hx;exact h (x,i) (tT.2 hx)
 ·rintro h ⟨x,i⟩ hx;exact h i x (tT.1 hx)
variable{a b:List Int}
theorem Al:iT a b=true↔a.Perm b:=by unfold iT;rw[jX];exact I6
theorem I7:qy a b=true↔a=b\/a=b.reverse:=by
 unfold qy;rw[qM,jX,jX]
variable{L:List (List Int)}{w:List Int}
theorem I8(h:0<=pO L w):∃l,L[(pO L w).toNat]? =some l/\l.Perm w:=by
 unfold pO at h⊢;cases hf:L.findIdx? (λx=>decide (bM x=bM w))with
 |none=>rw[hf]at h;exact absurd h wj
 |some i=>
  obtain⟨h1,h2,_⟩:=WM.1 hf;refine⟨L[i],?_,I6.1 (gQ h2)⟩;show L[((i:Nat):Int).toNat]? =_;rw[gy];exact bW h1
variable{i:Nat}
theorem adS{l:List Int}(hD:yS L)(h:L[i]? =some l)(hp:l.Perm w):pO L w=(i:Int):=by
 have h0:0<=pO L w:=by
  unfold pO;cases hf:L.findIdx? (λx=>decide (bM x=bM w))with
  |none=>
   have:=List.findIdx?_eq_none_iff.1 hf l (aP h);rw[decide_eq_false_iff_not]at this;exact absurd (I6.2 hp) this
  |some j=>show(0:Int)<=(j:Int);omega
 obtain⟨l',h1,h2⟩:=I8 h0;have:=hD _ _ _ _ h h1 (hp.trans h2.symm);omega
structure oP(n:Nat)(L:List (List Int))(f:Int):Prop where
 eH:∀l∈L,oq n l
 len:iR f=true->L.length=n
 TZ:iR f=false->yS L
def Goes(L:List (List Int))(s:List Int)(f:Int)(eq:List Int->List Int->Bool)(j i:Nat):Prop:=
 ∃l l',L[j]? =some l/\L[i]? =some l'/\l'.Perm (img s l)/\eq l' (img s l)=true/\(iR f=true->(i:Int)=aR s (j:Int))
variable{n j:Nat}{s:List Int}{f:Int}{eq:List Int->List Int->Bool}
theorem Goes.iM(hK:oP n L f)(h:Goes L s f eq j i):iM L s f (j:Int)=(i:Int):=by
 obtain⟨l,l',h1,h2,h3,h4,h5⟩:=h;unfold Kd.iM;cases hb:iR f with
 |true=>rw[if_pos rfl];exact(h5 hb).symm
 |false=>
  rw[if_neg vm,gy,gz h1];exact adS (hK.TZ hb) h2 h3
theorem EP(hK:oP n L f)(hs:di n s):iN L s f eq=true↔∀j,j<L.length->∃i,Goes L s f eq j i:=by
 unfold iN;rw[lm];constructor
 ·intro h j hj;have hl:L[j]? =some L[j]:=bW hj;have h1:=h j _ hl;dsimp only at h1;unfold mK at h1;rw[eB,eB,jX,Al]at h1;obtain⟨a1,a2,a3⟩:=h1;have hlt:(iM L s f (j:Int)).toNat<L.length:=by
   cases hb:iR f with
   |true=>
    have hn:=hK.len hb;have:Kd.iM L s f (j:Int)=aR s (j:Int):=by unfold Kd.iM;rw[if_pos hb]
    rw[this];have:=hs.at_ (c:=(j:Int)) vj vj;omega
   |false=>
    have e:Kd.iM L s f (j:Int)=pO L (img s (L.getD (j:Int).toNat [])):=by unfold Kd.iM;rw[if_neg (by rw[hb];simp)]
    rw[e]at a1⊢;obtain⟨l,h2,_⟩:=I8 a1;exact(bC.1 h2).1
  have hl':L[(iM L s f (j:Int)).toNat]? =some L[(iM L s f (j:Int)).toNat]:=bW hlt;rw[gz hl']at a2 a3;refine⟨_,_,_,hl,hl',a2,a3,λhb=>?_⟩;have:Kd.iM L s f (j:Int)=aR s (j:Int):=by unfold Kd.iM;rw[if_pos hb]
  omega
 ·intro h j l hl;obtain⟨i,hg⟩:=h j (bC.1 hl).1;have hw:=hg.iM hK;obtain⟨l0,l',h1,h2,h3,h4,h5⟩:=hg;rw[hl]at h1;cases h1;unfold mK;dsimp only;rw[hw,gy,gz h2,h4,Al.2 h3];simp
theorem Goes.lt(h:Goes L s f eq j i):j<L.length/\i<L.length:=by
 obtain⟨l,l',h1,h2,_⟩:=h;exact⟨(bC.1 h1).1,(bC.1 h2).1⟩
theorem Goes.inj{eq':List Int->List Int->Bool}{j':Nat}(hK:oP n L f)(hs:di n s)(h:Goes L s f eq j i)(h':Goes L s f eq' j' i):j=j':=by
 have hl:=h.lt;have hl':=h'.lt;obtain⟨a,b,h1,h2,h3,h4,h5⟩:=h;obtain⟨a',b',k1,k2,k3,k4,k5⟩:=h';rw[h2]at k2;cases k2;cases hb:iR f with
 |true=>
  have hn:=hK.len hb;have:=hs.inj (a:=(j:Int)) (b:=(j':Int)) vj vj vj vj ((h5 hb).symm.trans (k5 hb));omega
 |false=>exact hK.TZ hb _ _ _ _ h1 k1 (adQ hs (hK.eH _ (aP h1)) (hK.eH _ (aP k1)) (h3.symm.trans k3))
theorem adT(hK:oP n L f)(hs:di n s)(h:∀j,j<L.length->∃i,Goes L s f eq j i){i:Nat}(hi:i<L.length):∃j,Goes L s f eq j i:=by
 have hc:∀j,∃i,j<L.length->Goes L s f eq j i:=λj=>by
  by_cases hj:j<L.length
  ·obtain⟨i,hg⟩:=h j hj;exact⟨i,λ_=>hg⟩
  ·exact⟨0,λh=>absurd h hj⟩
 have hf:∀j,j<L.length->Goes L s f eq j (Classical.choose (hc j)):=λj=>Classical.choose_spec (hc j);obtain⟨j,hj,e⟩:=TW (m:=L.length) (L:=λi:Nat=>i) (S:=λj=>if j<L.length then Classical.choose (hc j)else j) (R:=λa b:Nat=>a=b) (D:=λj=>j<L.length) (f:=λj=>if j<L.length then Classical.choose (hc j)else j)
  (λi hi=>hi) (λx hx=>by rw[if_pos hx];exact(hf x hx).lt.2) (λ_=>rfl) (λ_ _ e=>e.symm) (λ_ _ _ e e'=>e.trans e')
  (λx y hx hy=>by
    rw[if_pos hx,if_pos hy];constructor
    ·intro e;have h2:=hf y hy;rw[<- e]at h2;exact(hf x hx).inj hK hs h2
    ·intro e;rw[e])
  (λi hi=>⟨by rw[if_pos hi];exact(hf i hi).lt.2,rfl⟩) hi
 rw[if_pos hj]at e;refine⟨j,?_⟩;rw[e];exact hf j hj
def tq(n:Nat)(aD:List (List Int)):Prop:=aD.length=n/\∀l∈aD,oq n l
def Nb(aD:List (List Int))(a b:Int):Prop:=∃l,0<=a/\aD[a.toNat]? =some l/\b∈l
variable{aD:List (List Int)}
theorem EQ(hN:tq n aD)(hs:di n s):jC aD s=true↔∀a b,Nb aD a b->Nb aD (aR s a) (aR s b):=by
 unfold jC;rw[lm];constructor
 ·rintro h a b ⟨l,h0,h1,h2⟩;have hl:=(bC.1 h1).1;have h3:=h _ _ h1;rw[kR]at h3;have h4:=gQ (h3 b h2);rw[CY h0]at h4;have hn:=hN.1;have hr:=hs.at_ h0 (by omega:a<(n:Int));have h5:aD[(aR s a).toNat]? =some (aD[(aR s a).toNat]'(vj)):=bW _;rw[gz h5]at h4;exact⟨_,hr.1,h5,h4⟩
 ·intro h i l hl;rw[kR];intro b hb;have h1:=h (i:Int) b ⟨l,vj,by rw[gy];exact hl,hb⟩;obtain⟨l',_,h3,h4⟩:=h1;rw[gz h3];exact eY h4
theorem Nb.eH(hN:tq n aD){a b:Int}(h:Nb aD a b):(0<=a/\a<(n:Int))/\0<=b/\b<(n:Int):=by
 obtain⟨l,h0,h1,h2⟩:=h;have hl:=(bC.1 h1).1;have:=hN.1;exact⟨⟨h0,vj⟩,hN.2 l (aP h1) b h2⟩
def qz(aD:List (List Int)):List (Int×Int):=aD.zipIdx.flatMap λx=>x.1.map λb=>((x.2:Int),b)
theorem Nj{a b:Int}:(a,b)∈qz aD↔Nb aD a b:=by
 unfold qz;rw[List.mem_flatMap];constructor
 ·rintro⟨⟨l,i⟩,hx,h⟩;obtain⟨c,hc,e⟩:=eG.1 h;cases e;have:=tT.1 hx;exact⟨l,vj,by rw[gy];exact this,hc⟩
 ·rintro⟨l,h0,h1,h2⟩;refine⟨(l,a.toNat),tT.2 h1,eG.2 ⟨b,h2,?_⟩⟩;rw[CY h0]
theorem T9(hN:tq n aD)(hs:di n s)(h:∀a b,Nb aD a b->Nb aD (aR s a) (aR s b)){a b:Int}(hab:Nb aD a b):∃c d,Nb aD c d/\aR s c=a/\aR s d=b:=by
 have hmem:=Nj.2 hab;obtain⟨j,hj⟩:=jT hmem;have hjl:=(bC.1 hj).1;have hnb:∀i,i<(qz aD).length->Nb aD ((qz aD).getD i (0,0)).1 ((qz aD).getD i (0,0)).2:=λi hi=>by
  have hx:(qz aD)[i]? =some (qz aD)[i]:=bW hi;rw[gz hx];exact Nj.1 (aP hx)
 have hc:∀i,∃i',i<(qz aD).length->(qz aD)[i']? =some (aR s ((qz aD).getD i (0,0)).1,aR s ((qz aD).getD i (0,0)).2):=λi=>by
  by_cases hi:i<(qz aD).length
  ·obtain⟨i',hi'⟩:=jT (Nj.2 (h _ _ (hnb i hi)));exact⟨i',λ_=>hi'⟩
  ·exact⟨0,λh=>absurd h hi⟩
 obtain⟨i,hi,e⟩:=TW (m:=(qz aD).length) (L:=λi:Nat=>(qz aD).getD i (0,0)) (S:=λp:Int×Int=>(aR s p.1,aR s p.2)) (R:=λa b=>a=b) (D:=λp=>(0<=p.1/\p.1<(n:Int))/\0<=p.2/\p.2<(n:Int)) (f:=λi=>Classical.choose (hc i))
  (λi hi=>(hnb i hi).eH hN) (λp hp=>⟨hs.at_ hp.1.1 hp.1.2,hs.at_ hp.2.1 hp.2.2⟩) (λ_=>rfl) (λ_ _ e=>e.symm) (λ_ _ _ e e'=>e.trans e')
  (λx y hx hy=>by
    constructor
    ·intro e;obtain⟨x1,x2⟩:=x;obtain⟨y1,y2⟩:=y;dsimp only at e hx hy;injection e with e1 e2;rw[hs.inj hx.1.1 hx.1.2 hy.1.1 hy.1.2 e1,hs.inj hx.2.1 hx.2.2 hy.2.1 hy.2.2 e2]
    ·intro e;rw[e])
  (λi hi=>by
    have:=Classical.choose_spec (hc i) hi;exact⟨(bC.1 this).1,gz this⟩) hjl
 rw[gz hj]at e;injection e with e1 e2;exact⟨_,_,hnb i hi,e1.symm,e2.symm⟩
end Kd
namespace Kd
open Go Go.Ideal Canon Gph
def xz:Nat->List Bool->List Int
 |n,[]=>if 0<n then[(n:Int)]else[]
 |n,b::bs=>if b then xz (n+1) bs else if 0<n then(n:Int)::xz 0 bs else xz 0 bs
theorem adU(n:Nat)(l:List Bool):xz n (true::l)=xz (n+1) l:=rfl
theorem adV(n:Nat)(l:List Bool):xz n (false::l)=if 0<n then(n:Int)::xz 0 l else xz 0 l:=rfl
variable{g:List (List Int)}
theorem Nb.rch{bH:List Bool}{s a b:Int}(h:kJ g bH s a)(hab:Nb g a b)(hi:ed bH b=true):kJ g bH s b:=by
 obtain⟨l,h0,h1,h2⟩:=hab;exact .step h h1 h2 hi
variable{mk mk':List Bool}{n:Nat}{s:List Int}
theorem adW(hN:tq n g)(hmk:∀c,0<=c->c<(n:Int)->ed mk' (aR s c)=ed mk c)(hnb:∀a b,Nb g a b->Nb g (aR s a) (aR s b)){a b:Int}(ha:0<=a/\a<(n:Int))(h:kJ g mk a b):(0<=b/\b<(n:Int))/\kJ g mk' (aR s a) (aR s b):=by
 induction h with
 |refl=>exact⟨ha,.refl⟩
 |step h hl hn hi ih=>
  rename_i i m l;have hab:Nb g i m:=⟨l,ih.1.1,hl,hn⟩
  have hr:=hab.eH hN;exact⟨hr.2,(hnb _ _ hab).rch ih.2 (by rw[hmk _ hr.2.1 hr.2.2];exact hi)⟩
def Joined(g:List (List Int))(mk:List Bool):Prop:=∀a b:Nat,a<g.length->b<g.length->ed mk a=true->ed mk b=true->kJ g mk a b
theorem Nk{mk:List Bool}:∀(n a:Nat),a<n->ed mk a=true->∃f,f<n/\ed mk (f:Nat)=true/\∀j,j<f->ed mk (j:Nat)=false
 |0,a,h,_=>by omega
 |n+1,a,h,hm=>by
  by_cases hex:∃a',a'<n/\ed mk (a':Nat)=true
  ·obtain⟨a',h1,h2⟩:=hex;obtain⟨f,h3,h4⟩:=Nk n a' h1 h2;exact⟨f,vj,h4⟩
  ·have hno:∀j,j<n->ed mk (j:Nat)=false:=λj hj=>by
    exact tb
   have:a=n:=by
    apply Classical.byContradiction;intro hne;rw[hno a vj]at hm;cases hm
   subst this;exact⟨a,vj,hm,hno⟩
theorem I9{g:List (List Int)}{mk:List Bool}:∀k,(∀j,j<k->ed mk (j:Nat)=false)->cnt g mk k=0
 |0,_=>rfl
 |k+1,h=>by rw[cnt,I9 k (λj hj=>h j vj),if_neg (λq=>by rw[h k vj]at q;cases q.1)]
theorem cnt_mono{g:List (List Int)}{mk:List Bool}:∀k d,cnt g mk k<=cnt g mk (k+d)
 |k,0=>bV _
 |k,d+1=>by have:=cnt_mono (g:=g) (mk:=mk) k d;rw[<- qb,cnt];omega
theorem Ua{f:Nat}(hf:f<g.length)(hin:ed mk f=true)(wW:∀j,j<f->ed mk (j:Nat)=false):1<=cnt g mk g.length:=by
 have h1:cnt g mk (f+1)=1:=by
  rw[cnt,I9 f wW,if_pos ⟨hin,λ⟨j,h1,h2,_⟩=>by rw[wW j h1]at h2;cases h2⟩]
 have:=cnt_mono (g:=g) (mk:=mk) (f+1) (g.length - (f+1));rw[show f+1+(g.length - (f+1))=g.length by omega]at this;omega
theorem Ub(hS:Gph.lY g):(kZ g mk g.length).2=0↔∀a,a<g.length->ed mk (a:Nat)=false:=by
 rw[MH hS.rg _ (bV _)];constructor
 ·intro h a ha;cases he:ed mk (a:Nat)with
  |false=>rfl
  |true=>
   obtain⟨f,h1,h2,h3⟩:=Nk g.length a ha he;have:=Ua h1 h2 h3;omega
 ·exact I9 _
theorem Uc(hS:Gph.lY g):(kZ g mk g.length).2<=1↔Joined g mk:=by
 rw[MH hS.rg _ (bV _)];by_cases hex:∃a,a<g.length/\ed mk (a:Nat)=true
 ·obtain⟨a,ha,hm⟩:=hex;obtain⟨f,h1,h2,h3⟩:=Nk g.length a ha hm;have hp:=Ua h1 h2 h3;have h4:=acU hS h1 h2 h3;constructor
  ·intro h x y hx hy mx my;have h5:=h4.1 vj;exact((h5 x hx mx).symm hS ⟨vj,vj⟩ h2).trans (h5 y hy my)
  ·intro h;have:=h4.2 λi hi mi=>h f i h1 hi h2 mi;omega
 ·have h0:∀j,j<g.length->ed mk (j:Nat)=false:=λj hj=>by
   exact tb
  rw[I9 _ h0];exact⟨λ_ x y hx _ mx _=>(by rw[h0 x hx]at mx;cases mx),λ_=>bQ _⟩
theorem Ud(hN:tq n g)(hs:di n s)(hmk:∀c,0<=c->c<(n:Int)->ed mk' (aR s c)=ed mk c)(hnb:∀a b,Nb g a b->Nb g (aR s a) (aR s b))(h:Joined g mk):Joined g mk':=by
 intro a b ha hb ma mb;have hn:=hN.1;obtain⟨c,c0,c1,hc⟩:=hs.onto (y:=(a:Int)) vj vj;obtain⟨d,d0,d1,hd⟩:=hs.onto (y:=(b:Int)) vj vj;rw[<- hc,hmk c c0 c1]at ma;rw[<- hd,hmk d d0 d1]at mb;obtain⟨cn,rfl⟩:=iO c0;obtain⟨dn,rfl⟩:=iO d0;have:=(adW hN hmk hnb ⟨c0,c1⟩ (h cn dn vj vj ma mb)).2;rw[hc,hd]at this;exact this
structure uG(n:Nat)(g:List (List Int))(s:List Int)(mk mk':List Bool):Prop where
 vQ:Gph.lY g
 aD:tq n g
 nd:∀l∈g,l.Nodup
 ps:di n s
 marks:∀c,0<=c->c<(n:Int)->ed mk' (aR s c)=ed mk c
 keep:∀a b,Nb g a b->Nb g (aR s a) (aR s b)
theorem uG.back(h:uG n g s mk mk'):uG n g (lN s) mk' mk:=by
 refine⟨h.vQ,h.aD,h.nd,h.ps.inv,λc c0 c1=>?_,λa b hab=>?_⟩
 ·have:=h.ps.inv.at_ c0 c1;rw[<- h.marks _ this.1 this.2,h.ps.Ni c0 c1]
 ·obtain⟨c,d,hcd,rfl,rfl⟩:=T9 h.aD h.ps h.keep hab;have hr:=hcd.eH h.aD;rw[h.ps.vP hr.1.1 hr.1.2,h.ps.vP hr.2.1 hr.2.2];exact hcd
theorem uG.few(h:uG n g s mk mk'):(kZ g mk g.length).2<=1↔(kZ g mk' g.length).2<=1:=by
 rw[Uc h.vQ,Uc h.vQ];exact⟨Ud h.aD h.ps h.marks h.keep,Ud h.back.aD h.back.ps h.back.marks h.back.keep⟩
theorem uG.Ue(h:uG n g s mk mk')(h0:∀a,a<g.length->ed mk' (a:Nat)=false):∀a,a<g.length->ed mk (a:Nat)=false:=by
 intro a ha;have hn:=h.aD.1;have hr:=h.ps.at_ (c:=(a:Int)) vj vj;rw[<- h.marks (a:Int) vj vj];have:=h0 (aR s a).toNat vj
 rwa [CY hr.1]at this
theorem uG.zero(h:uG n g s mk mk'):(kZ g mk g.length).2=0↔(kZ g mk' g.length).2=0:=by
 rw[Ub h.vQ,Ub h.vQ];exact⟨h.back.Ue,h.Ue⟩
theorem adX{a b:List Int}(ha:a.Nodup)(hb:b.Nodup)(h:∀x,x∈a↔x∈b):a.Perm b:=by
 refine List.perm_iff_count.2 λx=>?_;have h1:=List.nodup_iff_count.1 ha x;have h2:=List.nodup_iff_count.1 hb x;have h3:=List.count_pos_iff (a:=x) (l:=a);have h4:=List.count_pos_iff (a:=x) (l:=b);have h5:=h x;by_cases hx:x∈a
 ·have:=h3.2 hx;have:=h4.2 (h5.1 hx);omega
 ·have k1:¬0<List.count x a:=λq=>hx (h3.1 q);have k2:¬0<List.count x b:=λq=>hx (h5.2 (h4.1 q));omega
theorem Nl{n:Nat}{s:List Int}{p q:Int->Bool}:∀{l:List Int},oq n l->(∀c,0<=c->c<(n:Int)->q (aR s c)=p c)->((img s l).filter q).length=(l.filter p).length
 |[],_,_=>rfl
 |c::l,hl,h=>by
  have hc:=hl c (cZ ..);have ih:=Nl (l:=l) (λx hx=>hl x (dA _ hx)) h;unfold img at ih⊢;rw[ic,FC,FC,h c hc.1 hc.2];split
  ·rw[oD,oD,ih]
  ·exact ih
theorem Uf(mk:List Bool)(n:Nat):Iw mk n=((upTo' n).filter (ed mk)).length:=by
 unfold Iw upTo';rw[List.filter_map,cz];rfl
theorem uG.size(h:uG n g s mk mk'):Iw mk g.length=Iw mk' g.length:=by
 have hn:=h.aD.1;rw[hn,Uf,Uf];have hid:=di.ident n;have hin:oq n (upTo' n):=λc hc=>hid.eH c hc;have h1:=Nl (n:=n) (s:=s) (p:=ed mk) (q:=ed mk') hin h.marks;have h2:(img s (upTo' n)).Perm (upTo' n):=adX (TY h.ps hin hid.nd) hid.nd λx=>by
  constructor
  ·intro hx;have:=(oq.img h.ps hin) x hx;exact hid.mem this.1 this.2
  ·intro hx;have:=hid.eH x hx;obtain⟨c,c0,c1,rfl⟩:=h.ps.onto this.1 this.2;exact eG.2 ⟨c,hid.mem c0 c1,rfl⟩
 rw[<- h1,(h2.filter (ed mk')).length_eq]
end Kd
namespace Kd
open Go Go.Ideal Canon
variable{L:List (List Int)}
theorem Ug(hn:L.Nodup)(hs:∀l∈L,l.Pairwise (·<·)):yS L:=by
 intro i j a b ha hb hp;have e:a=b:=List.Perm.eq_of_pairwise (λx y _ _ h1 h2=>by omega) (hs a (aP ha)) (hs b (aP hb)) hp;subst e;exact Cq hn ha hb
theorem adY{α:Type}{K:List α}{F:α->List Int}(hn:K.Nodup)(h:∀a∈K,∀b∈K,(F a).Perm (F b)->a=b):yS (K.map F):=by
 intro i j a b ha hb hp;rw[dK]at ha hb;obtain⟨x,hx,rfl⟩:=jV.1 ha;obtain⟨y,hy,rfl⟩:=jV.1 hb;have:=h x (aP hx) y (aP hy) hp;subst this;exact Cq hn hx hy
variable{g:bz}
theorem Nn(hg:eD g)(kf:Int×Int->Int×Bool):yS (iL g kf):=by
 obtain⟨h1,h2⟩:=TR kf _ (bB g) rfl;unfold iL;refine adY (TK h1) λa ha b hb hp=>?_;rw[uD]at ha hb;rw[(h2 a).2,(h2 b).2]at hp;have hne:=(h2 a).1.1 ha;cases hl:nD kf (bB g) a with
 |nil=>exact absurd hl hne
 |cons c l=>
  have hc:c∈nD kf (bB g) a:=by rw[hl];exact cZ ..
  have hc':=hp.mem_iff.1 hc;unfold nD at hc hc';obtain⟨p,hp1,hp2⟩:=eG.1 hc;obtain⟨q,hq1,hq2⟩:=eG.1 hc';obtain⟨p3,p4⟩:=rY.1 hp1;obtain⟨q3,q4⟩:=rY.1 hq1;have e:=EJ hg p3 q3 (.inl (hp2.trans hq2.symm));subst e;rw[eB,jX]at p4 q4;exact p4.2.symm.trans q4.2
theorem Cr(h:L.length<=1):yS L:=by
 intro i j a b ha hb _;have h1:=(bC.1 ha).1;have h2:=(bC.1 hb).1;omega
theorem adZ(hg:eD g):yS (kK g):=by
 unfold kK;split
 ·exact Nn hg _
 split
 ·rw[IX,IX];generalize hA:dM g.cells.length (λb=>decide ((gW g b).1=(gW g b).2))=A;generalize hB:dM g.cells.length (λb=>decide ((gW g b).1+(gW g b).2=g.w - 1))=B;have iA:A.Pairwise (·<·):=by rw[<- hA];exact IV _ _
  have iB:B.Pairwise (·<·):=by rw[<- hB];exact IV _ _
  by_cases a0:A=[]
  ·rw[if_pos a0];by_cases b0:B=[]
   ·rw[if_pos b0];exact Cr (by simp[jJ])
   ·rw[if_neg b0];exact Cr (by simp[jJ,sZ])
  ·rw[if_neg a0];by_cases b0:B=[]
   ·rw[if_pos b0];exact Cr (by simp[jJ])
   ·rw[if_neg b0];by_cases e:A=B
    ·refine Cr ?_;simp[jJ,sZ,e]
    ·have:jJ [A] [B]=[A,B]:=by simp[jJ,sZ,e]
     rw[this];refine Ug (by simp[e]) λl hl=>?_;simp only[dH,Fy,or_false]at hl;rcases hl with rfl|rfl
     ·exact iA
     ·exact iB
 ·exact Cr vm
theorem ad1(hg:eD g):yS (gZ (bI g)):=by
 refine Ug ?_ λl hl=>?_
 ·unfold gZ;unfold List.Nodup;rw[List.pairwise_flatMap];refine⟨λx hx=>?_,?_⟩
  ·have hx:=aP (tT.1 (show(x.1,x.2)∈_ from hx));unfold jc;rw[xU];obtain⟨p,_,hp⟩:=eG.1 (show x.1∈bI g from hx);have hnd:x.1.Nodup:=by rw[<- hp];exact M7 hg p
   exact(List.Pairwise.filter _ hnd).imp λ{a b} hne e=>hne (by injection e with _ e;injection e)
  ·have hz:∀(l:List (List Int)) (n:Nat),(l.zipIdx n).Pairwise λa b=>a.2<b.2:=by
    intro l;induction l with
    |nil=>intro n;exact List.Pairwise.nil
    |cons a l ih=>
     intro n;rw[List.zipIdx_cons,rZ];refine⟨λx hx=>?_,ih (n+1)⟩;have:=List.le_snd_of_mem_zipIdx hx;show n<x.2;omega
   refine(hz (bI g) 0).imp λ{a b} h x hx y hy e=>?_;unfold jc at hx hy;obtain⟨u,_,rfl⟩:=eG.1 hx;obtain⟨v,_,rfl⟩:=eG.1 hy;injection e with e _;omega
 ·obtain⟨i,x,j,_,_,h,rfl⟩:=TL hl;simp[h]
theorem ad3(hg:eD g)(k:Int):oP g.cells.length (dx g k) k:=by
 refine⟨λl hl=>(TG hg k l hl).2,λhb=>?_,λhb=>?_⟩
 ·unfold iR at hb;simp only[qM,jX]at hb;rcases hb with(rfl|rfl)|rfl
  ·show(lK g.cells.length).length=_;exact MQ _
  ·show(bI g).length=_;exact uC g
  ·show(kL (bI g)).length=_;rw[MS];exact uC g
 ·unfold iR at hb;simp only[Bool.or_eq_false_iff,decide_eq_false_iff_not]at hb;unfold dx;rw[if_neg hb.1.1];split
  ·exact Nn hg _
  split
  ·exact Nn hg _
  split
  ·exact adZ hg
  rw[if_neg hb.1.2,if_neg hb.2];split
  ·exact ad1 hg
  ·exact Cr vm
theorem ad4(hg:eD g){rs:List (List Int)}(hr:vN g rs)(hn:(rs.map bM).Nodup)(k:Int)(hk:iR k=false):oP g.cells.length (dU g rs) k:=by
 refine⟨λl hl=>(TH hg hr l hl).2,(λhb=>by rw[hk]at hb;cases hb),λ_=>?_⟩;intro i j a b ha hb hp;unfold dU at ha hb;rw[dK]at ha hb;obtain⟨x,hx,rfl⟩:=jV.1 ha;obtain⟨y,hy,rfl⟩:=jV.1 hb;have back:∀z∈rs,(eT g z).map (λn=>g.cells.getD n.toNat 0)=z:=λz hz=>by
  unfold eT;rw[xS];conv=>rhs;rw[<- List.map_id z]
  refine AY λc hc=>?_;have hm:=(hr.all z hz).mem c hc;have lM:g.cells.Pairwise (·<·):=Bs
  obtain⟨m,hm2⟩:=jT hm;show g.cells.getD ((vM c g.cells:Nat):Int).toNat 0=c;rw[gy,II lM hm2];exact gz hm2
 have h1:=hp.map (λn=>g.cells.getD n.toNat 0);rw[back x (aP hx),back y (aP hy)]at h1;have h2:=I6.2 h1;have h3:(rs.map bM)[i]? =some (bM x):=by rw[dK,hx];rfl
 have h4:(rs.map bM)[j]? =some (bM x):=by rw[dK,hy,h2];rfl
 exact Cq hn h3 h4
theorem ad5{d:bE}(hg:eD (aO d))(hr:∀r∈d.regions,vN (aO d) r.lists/\(r.lists.map bM).Nodup){f:Nat}{L:List (List Int)}(h:(lc d)[f]? =some L):oP (aO d).cells.length L (f:Int):=by
 unfold lc at h;by_cases hf:f<8
 ·rw[qL (by rw[cz,o8];exact hf),dK,qN hf]at h;cases h;exact ad3 hg _
 ·rw[qa (by rw[cz,o8];omega),dK]at h;obtain⟨r,hr2,rfl⟩:=jV.1 h;have:=hr r (aP hr2);refine ad4 hg this.1 this.2 _ ?_;unfold iR;simp only[Bool.or_eq_false_iff,decide_eq_false_iff_not];omega
end Kd
namespace Kd
open Go Go.Ideal Canon
structure ajh(m:Nat)(cl:List Int):Prop where
 len:cl.length=m
 cls:∀i:Nat,i<m->0<=aR cl (i:Int)/\aR cl (i:Int)<=(i:Int)/\aR cl (aR cl (i:Int))=aR cl (i:Int)
structure ajj(m:Nat)(cl t:List Int):Prop where
 p:di m t
 c:∀v:Int,0<=v->v<(m:Int)->aR cl (aR t v)=aR cl v
def Cs(cl sy:List Int)(s:Int):Option Nat:=(List.range cl.length).find? λt:Nat=>decide (aR cl (t:Int)=aR cl s)&&!decide ((t:Int)∈sy)
def Ja(cl sy:List Int)(s:Int):List Int:=if 0<=aR sy s then sy else match Cs cl sy s with
 |none=>sy
 |some t=>sy.set s.toNat (t:Int)
structure GInv(m:Nat)(cl sy:List Int):Prop where
 len:sy.length=m
 val:∀s:Int,0<=s->s<(m:Int)->aR sy s= -1\/(0<=aR sy s/\aR sy s<(m:Int)/\aR cl (aR sy s)=aR cl s)
 inj:∀s u:Int,0<=s->s<(m:Int)->0<=u->u<(m:Int)->aR sy s=aR sy u->0<=aR sy s->s=u
variable{s:Int}
theorem ad6{l:List Int}{x u:Int}(s0:0<=s)(s1:s<l.length)(u0:0<=u):aR (l.set s.toNat x) u=if u=s then x else aR l u:=by
 unfold aR;by_cases e:u=s
 ·subst e;rw[if_pos rfl];have hl:u.toNat<l.length:=by omega
  simp[List.getD,o9,hl]
 ·rw[if_neg e];simp only[List.getD,o9];rw[if_neg vj]
variable{cl sy:List Int}{m:Nat}
theorem GInv.mem(h:GInv m cl sy){t:Int}(t0:0<=t)(ht:t∈sy):∃u:Int,0<=u/\u<(m:Int)/\aR sy u=t/\aR cl t=aR cl u/\t<(m:Int):=by
 obtain⟨i,hi⟩:=jT ht;have hl:=(bC.1 hi).1;have hlen:=h.len;have e:=l6 hi;refine⟨(i:Int),vj,vj,e,?_⟩;rcases h.val (i:Int) vj (vj)with h1|h1
 ·omega
 ·rw[e]at h1;exact⟨h1.2.2,h1.2.1⟩
theorem GInv.room(hc:cl.length=m)(h:GInv m cl sy){s:Int}(s0:0<=s)(s1:s<(m:Int))(hs:aR sy s= -1):∃t,Cs cl sy s=some t:=by
 cases hf:Cs cl sy s with
 |some t=>exact⟨t,rfl⟩
 |none=>
  exfalso
  unfold Cs at hf;rw[List.find?_eq_none]at hf;have hall:∀t:Int,0<=t->t<(m:Int)->aR cl t=aR cl s->t∈sy:=λt t0 t1 hcl=>by
   have:=hf t.toNat (oZ.2 vj)
   rw[CY t0]at this;simp[hcl]at this;exact this
  have hC:∀t,t∈(upTo' m).filter (λt=>decide (aR cl t=aR cl s))↔(0<=t/\t<(m:Int))/\aR cl t=aR cl s:=λt=>by
   rw[rY,jX];refine and_congr_left λ_=>⟨λq=>(di.ident m).eH t q,λq=>(di.ident m).mem q.1 q.2⟩
  have hnd:((upTo' m).filter (λt=>decide (aR cl t=aR cl s))).Nodup:=(EK m).filter _;generalize(upTo' m).filter (λt=>decide (aR cl t=aR cl s))=C at hC hnd;have hidx:∀t∈C,sy.idxOf t<sy.length/\aR sy (sy.idxOf t:Nat)=t:=λt ht=>by
   have h1:=(hC t).1 ht;have hl:=List.idxOf_lt_length_iff.2 (hall t h1.1.1 h1.1.2 h1.2);refine⟨hl,l6 ?_⟩;rw[bW hl,List.getElem_idxOf]
  have Uh:s∈C:=(hC s).2 ⟨⟨s0,s1⟩,rfl⟩;have h1:=EM (l:=C.map λt=>((sy.idxOf t:Nat):Int)) (m:=C.erase s) (Nh hnd λa ha b hb e=>by
   have e1:=(hidx a ha).2;have e2:=(hidx b hb).2;rw[<- e1,<- e2,e]) (λx hx=>by
   obtain⟨t,ht,rfl⟩:=eG.1 hx;obtain⟨k1,k2⟩:=hidx t ht;have k3:=(hC t).1 ht;have hlen:=h.len;have hne:((sy.idxOf t:Nat):Int)≠s:=λe=>by rw[e,hs]at k2;omega
   refine(akg hne).2 ((hC _).2 ⟨⟨vj,vj⟩,?_⟩);rcases h.val ((sy.idxOf t:Nat):Int) vj (vj)with q|q
   ·omega
   ·rw[<- q.2.2,k2];exact k3.2)
  have h2:=WL Uh;have h3:0<C.length:=akf Uh;rw[cz]at h1;omega
theorem ad7{t:Nat}(h:Cs cl sy s=some t):t<cl.length/\aR cl (t:Int)=aR cl s/\(t:Int)∉sy/\∀u:Nat,u<t->aR cl (u:Int)=aR cl s->(u:Int)∈sy:=by
 unfold Cs at h;have h1:=List.find?_some h;have h2:=OV h;simp at h1;refine⟨oZ.1 h2,h1.1,h1.2,λu hu hcl=>?_⟩;obtain⟨h3,a,b,e,h4⟩:=List.find?_eq_some_iff_append.1 h;have hat:a=List.range t:=by
  have hlt:=oZ.1 h2;have e1:List.range cl.length=List.range t++t::(List.range' (t+1) (cl.length - t - 1)):=by
   rw[List.range_eq_range',List.range_eq_range',show cl.length=t+(1+(cl.length - t - 1))by omega,<- List.range'_append_1,<- List.range'_append_1];simp
  have l1:a.length=t:=by
   have hg:(List.range cl.length)[a.length]? =some t:=by rw[e,qa (bV _),ww];rfl
   have:=(bC.1 hg).2;rw[List.getElem_range]at this;exact this
  have:a=(List.range cl.length).take t:=by rw[e,<- l1,List.take_left'];rfl
  rw[this,List.take_range,ahv vj]
 have:=h4 u (by rw[hat];exact oZ.2 hu);simp[hcl]at this;exact this
theorem GInv.step(hc:cl.length=m)(h:GInv m cl sy){s:Int}(s0:0<=s)(s1:s<(m:Int)):GInv m cl (Ja cl sy s)/\0<=aR (Ja cl sy s) s/\∀u:Int,0<=u->u≠s->aR (Ja cl sy s) u=aR sy u:=by
 unfold Ja;by_cases h0:0<=aR sy s
 ·rw[if_pos h0];exact⟨h,h0,λ_ _ _=>rfl⟩
 rw[if_neg h0];have hs:aR sy s= -1:=by
  rcases h.val s s0 s1 with q|q
  ·exact q
  ·omega
 obtain⟨t,ht⟩:=h.room hc s0 s1 hs;rw[ht];dsimp only;obtain⟨k1,k2,k3,_⟩:=ad7 ht;have hlen:=h.len;have hg:∀u:Int,0<=u->aR (sy.set s.toNat (t:Int)) u=if u=s then(t:Int)else aR sy u:=λu u0=>ad6 s0 vj u0
 have hno:∀u:Int,0<=u->u<(m:Int)->aR sy u≠(t:Int):=λu u0 u1 e=>k3 (e▸Ng u0 vj);refine⟨⟨by rw[uX];exact hlen,λu u0 u1=>?_,λu w u0 u1 w0 w1 e he=>?_⟩,?_,λu u0 hne=>?_⟩
 ·rw[hg u u0];split
  ·rename_i e;refine .inr ⟨vj,vj,by rw[e];exact k2⟩
  ·exact h.val u u0 u1
 ·rw[hg u u0,hg w w0]at e;rw[hg u u0]at he;split at e
  ·rename_i e1;split at e
   ·rename_i e2;omega
   ·exact absurd e.symm (hno w w0 w1)
  ·rename_i e1;rw[if_neg e1]at he;split at e
   ·exact absurd e (hno u u0 u1)
   ·exact h.inj u w u0 u1 w0 w1 e he
 ·rw[hg s s0,if_pos rfl];omega
 ·rw[hg u u0,if_neg hne]

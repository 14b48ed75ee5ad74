/-
  Permutations as lists; what a map of finitely many things does, it does onto.
-/
import Derived.Test.YtfakljdleblkoaaGreatPlainCM
set_option linter.all false
namespace Kd
open Go Go.Ideal Canon
structure dB(n:Nat)(p:List Int):Prop where
 len:p.length=n
 dZ:∀x∈p,0<=x/\x<(n:Int)
 nd:p.Nodup
theorem vD{p:List Int}{c:Int}(h0:0<=c)(h1:c<p.length):p[c.toNat]? =some (aP p c):=by
 unfold aP;rw[List.getD,bC (by omega)];rfl
theorem Pf{p:List Int}{c:Int}(h0:0<=c)(h1:c<p.length):aP p c∈p:=aR (vD h0 h1)
theorem dB.at_{n:Nat}{p:List Int}(h:dB n p){c:Int}(h0:0<=c)(h1:c<(n:Int)):0<=aP p c/\aP p c<(n:Int):=h.dZ _ (Pf h0 (by rw[h.len];exact h1))
theorem Dy{α:Type}{p:List α}(h:p.Nodup){i j:Nat}{x:α}(hi:p[i]? =some x)(hj:p[j]? =some x):i=j:=by
 obtain⟨h1,h2⟩:=aW.1 hi;obtain⟨h3,h4⟩:=aW.1 hj;rcases Nat.lt_trichotomy i j with hl|hl|hl
 ·exact absurd (h2.trans h4.symm) (yV.1 h i j h1 h3 hl)
 ·exact hl
 ·exact absurd (h4.trans h2.symm) (yV.1 h j i h3 h1 hl)
theorem dB.inj{n:Nat}{p:List Int}(h:dB n p){a b:Int}(a0:0<=a)(a1:a<(n:Int))(b0:0<=b)(b1:b<(n:Int))(e:aP p a=aP p b):a=b:=by
 have h1:=vD (p:=p) a0 (by rw[h.len];exact a1);have h2:=vD (p:=p) b0 (by rw[h.len];exact b1);rw[e]at h1;have:=Dy h.nd h1 h2;omega
theorem dB.mem{n:Nat}{p:List Int}(h:dB n p){y:Int}(y0:0<=y)(y1:y<(n:Int)):y∈p:=by
 apply Classical.byContradiction;intro hn;have h1:=Kg (l:=p) (m:=(upTo' n).erase y) h.nd (λx hx=>by
  have hne:x≠y:=λe=>hn (e▸hx);refine(RG hne).2 ?_;have:=h.dZ x hx;unfold upTo';exact cZ.2 ⟨x.toNat,o9.2 (by omega),by omega⟩)
 have hy:y∈upTo' n:=by
  unfold upTo';exact cZ.2 ⟨y.toNat,o9.2 (by omega),by omega⟩
 have h2:=RD hy;have h3:0<(upTo' n).length:=RF hy;rw[wI]at h2 h3;have h4:=h.len;omega
theorem dB.onto{n:Nat}{p:List Int}(h:dB n p){y:Int}(y0:0<=y)(y1:y<(n:Int)):∃c,0<=c/\c<(n:Int)/\aP p c=y:=by
 obtain⟨i,hi⟩:=jm (h.mem y0 y1);have:=(aW.1 hi).1;have h4:=h.len;refine⟨(i:Int),by omega,by omega,jJ hi⟩
def bW(a b:List Int):List Int:=b.map (aP a)
def dz(p:List Int):List Int:=(List.range p.length).map λy:Nat=>((p.idxOf (y:Int):Nat):Int)
theorem wL{a b:List Int}{c:Int}(h0:0<=c)(h1:c<b.length):aP (bW a b) c=aP a (aP b c):=by
 unfold bW;have h:=vD h0 h1;have h2:(b.map (aP a))[c.toNat]? =some (aP a (aP b c)):=by rw[dR,h];rfl
 show(b.map (aP a)).getD c.toNat 0=_;exact fC h2
theorem Pg{f:Int->Int}{l:List Int}(h:l.Nodup)(hf:∀a∈l,∀b∈l,f a=f b->a=b):(l.map f).Nodup:=by
 unfold List.Nodup;rw[yX];exact List.Pairwise.imp_of_mem (λha hb hne e=>hne (hf _ ha _ hb e)) h
theorem dB.comp{n:Nat}{a b:List Int}(ha:dB n a)(hb:dB n b):dB n (bW a b):=by
 refine⟨by unfold bW;rw[bJ];exact hb.len,λx hx=>?_,?_⟩
 ·unfold bW at hx;obtain⟨y,hy,rfl⟩:=cZ.1 hx;have:=hb.dZ y hy;exact ha.at_ this.1 this.2
 ·unfold bW;exact Pg hb.nd λx hx y hy e=>ha.inj (hb.dZ x hx).1 (hb.dZ x hx).2 (hb.dZ y hy).1 (hb.dZ y hy).2 e
theorem wM(p:List Int):(dz p).length=p.length:=by unfold dz;rw[bJ,uH]
theorem agY{p:List Int}{y:Int}(h0:0<=y)(h1:y<p.length):aP (dz p) y=((p.idxOf y:Nat):Int):=by
 obtain⟨m,rfl⟩:=eO h0;apply jJ;unfold dz;rw[dR,uD (by omega)];rfl
theorem dB.idx{n:Nat}{p:List Int}(h:dB n p){c:Int}(h0:0<=c)(h1:c<(n:Int)):((p.idxOf (aP p c):Nat):Int)=c:=by
 have hg:=vD (p:=p) h0 (by rw[h.len];exact h1);have hm:=aR hg;have hl:=List.idxOf_lt_length_iff.2 hm;have h2:p[p.idxOf (aP p c)]? =some (aP p c):=by
  rw[bC hl,List.getElem_idxOf]
 have:=Dy h.nd hg h2;omega
theorem dB.uu{n:Nat}{p:List Int}(h:dB n p){c:Int}(h0:0<=c)(h1:c<(n:Int)):aP (dz p) (aP p c)=c:=by
 have:=h.at_ h0 h1;rw[agY this.1 (by rw[h.len];exact this.2),h.idx h0 h1]
theorem dB.Ki{n:Nat}{p:List Int}(h:dB n p){y:Int}(h0:0<=y)(h1:y<(n:Int)):aP p (aP (dz p) y)=y:=by
 obtain⟨c,c0,c1,rfl⟩:=h.onto h0 h1;rw[h.uu c0 c1]
theorem dB.inv{n:Nat}{p:List Int}(h:dB n p):dB n (dz p):=by
 refine⟨by rw[wM];exact h.len,λx hx=>?_,?_⟩
 ·obtain⟨i,hi⟩:=jm hx;have hl:=(aW.1 hi).1;rw[wM,h.len]at hl;obtain⟨c,c0,c1,hc⟩:=h.onto (y:=(i:Int)) (by omega) (by omega);have:=h.uu c0 c1;rw[hc,jJ hi]at this;omega
 ·unfold dz;unfold List.Nodup;rw[yX];refine List.Pairwise.imp_of_mem (λ{a b} ha hb hne e=>hne ?_) List.nodup_range;have ha:=o9.1 ha;have hb:=o9.1 hb;rw[h.len]at ha hb;obtain⟨c,c0,c1,hc⟩:=h.onto (y:=(a:Int)) (by omega) (by omega);obtain⟨d,d0,d1,hd⟩:=h.onto (y:=(b:Int)) (by omega) (by omega);rw[<- hc,<- hd,h.idx c0 c1,h.idx d0 d1]at e;rw[e,hd]at hc;omega
theorem dB.ident(n:Nat):dB n (upTo' n):=by
 refine⟨wI n,λx hx=>?_,O4 n⟩;obtain⟨i,hi⟩:=jm hx;have hl:=(aW.1 hi).1;rw[wI]at hl;rw[agB hi];omega
def vF{α:Type}(f:α->α):Nat->α->α
 |0,x=>x
 |t+1,x=>f (vF f t x)
theorem Kj{m:Nat}{f:Nat->Nat}(hf:∀i,i<m->f i<m):∀t x,x<m->vF f t x<m
 |0,_,h=>h
 |t+1,x,h=>hf _ (Kj hf t x h)
theorem agZ{m:Nat}{f:Nat->Nat}(hf:∀i,i<m->f i<m){j:Nat}(hj:j<m):∃a b,a<b/\vF f a j=vF f b j:=by
 apply Classical.byContradiction;intro hno;have h:=Wh m ((List.range (m+1)).map λt=>((vF f t j:Nat):Int)) (by
  unfold List.Nodup;rw[yX];exact List.pairwise_lt_range.imp (λ{a b} hab e=>hno ⟨a,b,hab,Int.ofNat.inj e⟩)) (λx hx=>by
  obtain⟨t,_,rfl⟩:=cZ.1 hx;have:=Kj hf t j hj;omega)
 rw[bJ,uH]at h;omega
theorem WK{α:Type}{m:Nat}{L:Nat->α}{S:α->α}{R:α->α->Prop}{D:α->Prop}{f:Nat->Nat}(hD:∀i,i<m->D (L i))(hDS:∀x,D x->D (S x))(hr:∀x,R x x)(hs:∀x y,R x y->R y x)(ht:∀x y z,R x y->R y z->R x z)
 (hS:∀x y,D x->D y->(R (S x) (S y)↔R x y)) (hf:∀i,i<m->f i<m/\R (L (f i)) (S (L i))) {j:Nat} (hj:j<m):∃i,i<m/\R (L j) (S (L i)):=by
 have hf1:∀i,i<m->f i<m:=λi hi=>(hf i hi).1;have Kk:∀t,D (vF S t (L j)):=λt=>by
  induction t with
  |zero=>exact hD j hj
  |succ t ih=>exact hDS _ ih
 have key:∀t,R (L (vF f t j)) (vF S t (L j)):=λt=>by
  induction t with
  |zero=>exact hr _
  |succ t ih=>
   have hl:=Kj hf1 t j hj;exact ht _ _ _ (hf _ hl).2 ((hS _ _ (hD _ hl) (Kk t)).2 ih)
 have cancel:∀a d,R (vF S a (L j)) (vF S (a+d) (L j))->R (L j) (vF S d (L j)):=λa d=>by
  induction a with
  |zero=>intro h;rw[fw]at h;exact h
  |succ a ih=>
   intro h;rw[Nat.succ_add]at h;exact ih ((hS _ _ (Kk _) (Kk _)).1 h)
 obtain⟨a,b,hab,e⟩:=agZ hf1 hj;have h1:=key a;have h2:=key b;rw[e]at h1;obtain⟨d,rfl⟩:∃d,b=a+(d+1):=⟨b - a - 1,by omega⟩
 have h3:=cancel a (d+1) (ht _ _ _ (hs _ _ h1) h2);have hl:=Kj hf1 d j hj;exact⟨_,hl,ht _ _ _ h3 (hs _ _ ((hS _ _ (hD _ hl) (Kk d)).2 (key d)))⟩
def img(s:List Int)(l:List Int):List Int:=l.map (aP s)
def kv(n:Nat)(l:List Int):Prop:=∀c∈l,0<=c/\c<(n:Int)
theorem Dz(s l:List Int):(img s l).length=l.length:=by unfold img;rw[bJ]
theorem kv.img{n:Nat}{s:List Int}(h:dB n s){l:List Int}(hl:kv n l):kv n (img s l):=by
 intro c hc;unfold Kd.img at hc;obtain⟨x,hx,rfl⟩:=cZ.1 hc;exact h.at_ (hl x hx).1 (hl x hx).2
theorem WL{n:Nat}{s:List Int}(h:dB n s):∀{a b:List Int},kv n a->kv n b->img s a=img s b->a=b
 |[],[],_,_,_=>rfl
 |[],_::_,_,_,e=>by cases e
 |_::_,[],_,_,e=>by cases e
 |x::a,y::b,ha,hb,e=>by
  unfold img at e;rw[fI,fI]at e;injection e with e1 e2;have hx:=ha x (bR ..);have hy:=hb y (bR ..);rw[h.inj hx.1 hx.2 hy.1 hy.2 e1,WL h (λc hc=>ha c (bU _ hc)) (λc hc=>hb c (bU _ hc)) e2]
theorem Bv{n:Nat}{s:List Int}(h:dB n s){l:List Int}(hl:kv n l):img (dz s) (img s l)=l:=by
 unfold img;rw[qE];conv=>rhs;rw[<- GM l]
 exact yQ λc hc=>h.uu (hl c hc).1 (hl c hc).2
theorem ag1{n:Nat}{s:List Int}(h:dB n s){l:List Int}(hl:kv n l):img s (img (dz s) l)=l:=by
 unfold img;rw[qE];conv=>rhs;rw[<- GM l]
 exact yQ λc hc=>h.Ki (hl c hc).1 (hl c hc).2
theorem Ph{a b l:List Int}(hl:kv b.length l):img (bW a b) l=img a (img b l):=by
 unfold img;rw[qE];exact yQ λc hc=>wL (hl c hc).1 (hl c hc).2
theorem Kl(s:List Int){a b:List Int}(h:a.Perm b):(img s a).Perm (img s b):=h.map _
theorem ag2{n:Nat}{s:List Int}(h:dB n s){a b:List Int}(ha:kv n a)(hb:kv n b)(e:(img s a).Perm (img s b)):a.Perm b:=by
 have:=Kl (dz s) e
 rwa [Bv h ha,Bv h hb]at this
theorem Km(s l:List Int):img s l.reverse=(img s l).reverse:=by unfold img;rw[List.map_reverse]
theorem WM{n:Nat}{s:List Int}(h:dB n s){l:List Int}(hl:kv n l)(hn:l.Nodup):(img s l).Nodup:=by
 unfold img;exact Pg hn λa ha b hb e=>h.inj (hl a ha).1 (hl a ha).2 (hl b hb).1 (hl b hb).2 e
theorem Kn(l:List Int):(bD l).Perm l:=Ap l _
theorem Ko{a b:List Int}:bD a=bD b↔a.Perm b:=by
 constructor
 ·intro e;exact(Kn a).symm.trans (e▸Kn b)
 ·intro h;exact List.Perm.eq_of_pairwise (λx y _ _ h1 h2=>Int.le_antisymm h1 h2) (O1 a) (O1 b) ((Kn a).trans (h.trans (Kn b).symm))
end Kd
namespace Kd
open Go Go.Ideal Canon
def jQ(f:Int):Bool:=decide (f=0)||decide (f=4)||decide (f=5)
def uw(L:List (List Int))(w:List Int):Int:=match L.findIdx? (λx=>decide (bD x=bD w))with
 |some i=>(i:Int)
 |none=> -1
def gW(L:List (List Int))(s:List Int)(f at_:Int):Int:=if jQ f then aP s at_ else uw L (img s (L.getD at_.toNat []))
def jR(a b:List Int):Bool:=decide (bD a=bD b)
def ym(a b:List Int):Bool:=decide (a=b)
def uy(a b:List Int):Bool:=decide (a=b)||decide (a=b.reverse)
def nV(L:List (List Int))(s:List Int)(f:Int)(eq:List Int->List Int->Bool)(l:List Int)(j:Nat):Bool:=
 decide (0<=gW L s f (j:Int))&&(jR (L.getD (gW L s f (j:Int)).toNat []) (img s l)&&eq (L.getD (gW L s f (j:Int)).toNat []) (img s l))
def jS(L:List (List Int))(s:List Int)(f:Int)(eq:List Int->List Int->Bool):Bool:=L.zipIdx.all λx=>nV L s f eq x.1 x.2
def kZ(aA:List (List Int))(s:List Int):Bool:=aA.zipIdx.all λx=>x.1.all λb=>decide (aP s b∈aA.getD (aP s (x.2:Int)).toNat [])
def nC(vals t:List Int):Bool:=t.zipIdx.all λx=>decide (aP vals (x.2:Int)=aP vals x.1)
def qp(set other:Nat)(t:List Int):Bool:=t.zipIdx.all λx=>decide (set.testBit x.2=set.testBit x.1.toNat)&&decide (other.testBit x.2=other.testBit x.1.toNat)
def zS(L:List (List Int)):Prop:=∀(i j:Nat) (a b:List Int),L[i]? =some a->L[j]? =some b->a.Perm b->i=j
theorem qw{α:Type}{l:List α}{p:α×Nat->Bool}:l.zipIdx.all p=true↔∀(i:Nat) x,l[i]? =some x->p (x,i)=true:=by
 rw[iV];constructor
 ·intro h i x hx;exact h (x,i) (vV.2 hx)
 ·rintro h ⟨x,i⟩ hx;exact h i x (vV.1 hx)
theorem DC{a b:List Int}:jR a b=true↔a.Perm b:=by unfold jR;rw[kL];exact Ko
theorem Ga{a b:List Int}:uy a b=true↔a=b\/a=b.reverse:=by
 unfold uy;rw[wW,kL,kL]
theorem Pj{L:List (List Int)}{w:List Int}(h:0<=uw L w):∃l,L[(uw L w).toNat]? =some l/\l.Perm w:=by
 unfold uw at h⊢;cases hf:L.findIdx? (λx=>decide (bD x=bD w))with
 |none=>rw[hf]at h;exact absurd h (by decide)
 |some i=>
  obtain⟨h1,h2,_⟩:=List.findIdx?_eq_some_iff_getElem.1 hf;refine⟨L[i],?_,Ko.1 (jg h2)⟩;show L[((i:Nat):Int).toNat]? =_;rw[eX];exact bC h1
theorem ag3{L:List (List Int)}{w l:List Int}{i:Nat}(hD:zS L)(h:L[i]? =some l)(hp:l.Perm w):uw L w=(i:Int):=by
 have h0:0<=uw L w:=by
  unfold uw;cases hf:L.findIdx? (λx=>decide (bD x=bD w))with
  |none=>
   have:=List.findIdx?_eq_none_iff.1 hf l (aR h);rw[decide_eq_false_iff_not]at this;exact absurd (Ko.2 hp) this
  |some j=>show(0:Int)<=(j:Int);omega
 obtain⟨l',h1,h2⟩:=Pj h0;have:=hD _ _ _ _ h h1 (hp.trans h2.symm);omega
structure oQ(n:Nat)(L:List (List Int))(f:Int):Prop where
 dZ:∀l∈L,kv n l
 len:jQ f=true->L.length=n
 WN:jQ f=false->zS L
def Goes(L:List (List Int))(s:List Int)(f:Int)(eq:List Int->List Int->Bool)(j i:Nat):Prop:=
 ∃l l',L[j]? =some l/\L[i]? =some l'/\l'.Perm (img s l)/\eq l' (img s l)=true/\(jQ f=true->(i:Int)=aP s (j:Int))
theorem Goes.gW{n:Nat}{L:List (List Int)}{s:List Int}{f:Int}{eq:List Int->List Int->Bool}{j i:Nat}(hK:oQ n L f)(h:Goes L s f eq j i):gW L s f (j:Int)=(i:Int):=by
 obtain⟨l,l',h1,h2,h3,h4,h5⟩:=h;unfold Kd.gW;cases hb:jQ f with
 |true=>rw[if_pos rfl];exact(h5 hb).symm
 |false=>
  rw[if_neg (by simp),eX,fC h1];exact ag3 (hK.WN hb) h2 h3
theorem vG{n:Nat}{L:List (List Int)}{s:List Int}{f:Int}{eq:List Int->List Int->Bool}(hK:oQ n L f)(hs:dB n s):jS L s f eq=true↔∀j,j<L.length->∃i,Goes L s f eq j i:=by
 unfold jS;rw[qw];constructor
 ·intro h j hj;have hl:L[j]? =some L[j]:=bC hj;have h1:=h j _ hl;dsimp only at h1;unfold nV at h1;rw[eU,eU,kL,DC]at h1;obtain⟨a1,a2,a3⟩:=h1;have hlt:(gW L s f (j:Int)).toNat<L.length:=by
   cases hb:jQ f with
   |true=>
    have hn:=hK.len hb;have:Kd.gW L s f (j:Int)=aP s (j:Int):=by unfold Kd.gW;rw[if_pos hb]
    rw[this];have:=hs.at_ (c:=(j:Int)) (by omega) (by omega);omega
   |false=>
    have e:Kd.gW L s f (j:Int)=uw L (img s (L.getD (j:Int).toNat [])):=by unfold Kd.gW;rw[if_neg (by rw[hb];simp)]
    rw[e]at a1⊢;obtain⟨l,h2,_⟩:=Pj a1;exact(aW.1 h2).1
  have hl':L[(gW L s f (j:Int)).toNat]? =some L[(gW L s f (j:Int)).toNat]:=bC hlt;rw[fC hl']at a2 a3;refine⟨_,_,_,hl,hl',a2,a3,λhb=>?_⟩;have:Kd.gW L s f (j:Int)=aP s (j:Int):=by unfold Kd.gW;rw[if_pos hb]
  omega
 ·intro h j l hl;obtain⟨i,hg⟩:=h j (aW.1 hl).1;have hw:=hg.gW hK;obtain⟨l0,l',h1,h2,h3,h4,h5⟩:=hg;rw[hl]at h1;cases h1;unfold nV;dsimp only;rw[hw,eX,fC h2,h4,DC.2 h3];simp
theorem Goes.lt{L:List (List Int)}{s:List Int}{f:Int}{eq:List Int->List Int->Bool}{j i:Nat}(h:Goes L s f eq j i):j<L.length/\i<L.length:=by
 obtain⟨l,l',h1,h2,_⟩:=h;exact⟨(aW.1 h1).1,(aW.1 h2).1⟩
theorem Goes.inj{n:Nat}{L:List (List Int)}{s:List Int}{f:Int}{eq eq':List Int->List Int->Bool}{j j' i:Nat}(hK:oQ n L f)(hs:dB n s)(h:Goes L s f eq j i)(h':Goes L s f eq' j' i):j=j':=by
 have hl:=h.lt;have hl':=h'.lt;obtain⟨a,b,h1,h2,h3,h4,h5⟩:=h;obtain⟨a',b',k1,k2,k3,k4,k5⟩:=h';rw[h2]at k2;cases k2;cases hb:jQ f with
 |true=>
  have hn:=hK.len hb;have:=hs.inj (a:=(j:Int)) (b:=(j':Int)) (by omega) (by omega) (by omega) (by omega) ((h5 hb).symm.trans (k5 hb));omega
 |false=>exact hK.WN hb _ _ _ _ h1 k1 (ag2 hs (hK.dZ _ (aR h1)) (hK.dZ _ (aR k1)) (h3.symm.trans k3))
theorem WO{n:Nat}{L:List (List Int)}{s:List Int}{f:Int}{eq:List Int->List Int->Bool}(hK:oQ n L f)(hs:dB n s)(h:∀j,j<L.length->∃i,Goes L s f eq j i){i:Nat}(hi:i<L.length):∃j,Goes L s f eq j i:=by
 have hc:∀j,∃i,j<L.length->Goes L s f eq j i:=λj=>by
  by_cases hj:j<L.length
  ·obtain⟨i,hg⟩:=h j hj;exact⟨i,λ_=>hg⟩
  ·exact⟨0,λh=>absurd h hj⟩
 have hf:∀j,j<L.length->Goes L s f eq j (Classical.choose (hc j)):=λj=>Classical.choose_spec (hc j);obtain⟨j,hj,e⟩:=WK (m:=L.length) (L:=λi:Nat=>i) (S:=λj=>if j<L.length then Classical.choose (hc j)else j) (R:=λa b:Nat=>a=b) (D:=λj=>j<L.length) (f:=λj=>if j<L.length then Classical.choose (hc j)else j)
  (λi hi=>hi) (λx hx=>by rw[if_pos hx];exact(hf x hx).lt.2) (λ_=>rfl) (λ_ _ e=>e.symm) (λ_ _ _ e e'=>e.trans e')
  (λx y hx hy=>by
    rw[if_pos hx,if_pos hy];constructor
    ·intro e;have h2:=hf y hy;rw[<- e]at h2;exact(hf x hx).inj hK hs h2
    ·intro e;rw[e])
  (λi hi=>⟨by rw[if_pos hi];exact(hf i hi).lt.2,rfl⟩) hi
 rw[if_pos hj]at e;refine⟨j,?_⟩;rw[e];exact hf j hj
def sD(n:Nat)(aA:List (List Int)):Prop:=aA.length=n/\∀l∈aA,kv n l
def Nb(aA:List (List Int))(a b:Int):Prop:=∃l,0<=a/\aA[a.toNat]? =some l/\b∈l
theorem Bw{n:Nat}{aA:List (List Int)}{s:List Int}(hN:sD n aA)(hs:dB n s):kZ aA s=true↔∀a b,Nb aA a b->Nb aA (aP s a) (aP s b):=by
 unfold kZ;rw[qw];constructor
 ·rintro h a b ⟨l,h0,h1,h2⟩;have hl:=(aW.1 h1).1;have h3:=h _ _ h1;rw[iV]at h3;have h4:=jg (h3 b h2);rw[rE h0]at h4;have hn:=hN.1;have hr:=hs.at_ h0 (by omega:a<(n:Int));have h5:aA[(aP s a).toNat]? =some (aA[(aP s a).toNat]'(by omega)):=bC _;rw[fC h5]at h4;exact⟨_,hr.1,h5,h4⟩
 ·intro h i l hl;rw[iV];intro b hb;have h1:=h (i:Int) b ⟨l,by omega,by rw[eX];exact hl,hb⟩;obtain⟨l',_,h3,h4⟩:=h1;rw[fC h3];exact fQ h4
theorem Nb.dZ{n:Nat}{aA:List (List Int)}(hN:sD n aA){a b:Int}(h:Nb aA a b):(0<=a/\a<(n:Int))/\0<=b/\b<(n:Int):=by
 obtain⟨l,h0,h1,h2⟩:=h;have hl:=(aW.1 h1).1;have:=hN.1;exact⟨⟨h0,by omega⟩,hN.2 l (aR h1) b h2⟩
def qZ(aA:List (List Int)):List (Int×Int):=aA.zipIdx.flatMap λx=>x.1.map λb=>((x.2:Int),b)
theorem Pk{aA:List (List Int)}{a b:Int}:(a,b)∈qZ aA↔Nb aA a b:=by
 unfold qZ;rw[List.mem_flatMap];constructor
 ·rintro⟨⟨l,i⟩,hx,h⟩;obtain⟨c,hc,e⟩:=cZ.1 h;cases e;have:=vV.1 hx;exact⟨l,by omega,by rw[eX];exact this,hc⟩
 ·rintro⟨l,h0,h1,h2⟩;refine⟨(l,a.toNat),vV.2 h1,cZ.2 ⟨b,h2,?_⟩⟩;rw[rE h0]
theorem Kq{n:Nat}{aA:List (List Int)}{s:List Int}(hN:sD n aA)(hs:dB n s)(h:∀a b,Nb aA a b->Nb aA (aP s a) (aP s b)){a b:Int}(hab:Nb aA a b):∃c d,Nb aA c d/\aP s c=a/\aP s d=b:=by
 have hmem:=Pk.2 hab;obtain⟨j,hj⟩:=jm hmem;have hjl:=(aW.1 hj).1;have hnb:∀i,i<(qZ aA).length->Nb aA ((qZ aA).getD i (0,0)).1 ((qZ aA).getD i (0,0)).2:=λi hi=>by
  have hx:(qZ aA)[i]? =some (qZ aA)[i]:=bC hi;rw[fC hx];exact Pk.1 (aR hx)
 have hc:∀i,∃i',i<(qZ aA).length->(qZ aA)[i']? =some (aP s ((qZ aA).getD i (0,0)).1,aP s ((qZ aA).getD i (0,0)).2):=λi=>by
  by_cases hi:i<(qZ aA).length
  ·obtain⟨i',hi'⟩:=jm (Pk.2 (h _ _ (hnb i hi)));exact⟨i',λ_=>hi'⟩
  ·exact⟨0,λh=>absurd h hi⟩
 obtain⟨i,hi,e⟩:=WK (m:=(qZ aA).length) (L:=λi:Nat=>(qZ aA).getD i (0,0)) (S:=λp:Int×Int=>(aP s p.1,aP s p.2)) (R:=λa b=>a=b) (D:=λp=>(0<=p.1/\p.1<(n:Int))/\0<=p.2/\p.2<(n:Int)) (f:=λi=>Classical.choose (hc i))
  (λi hi=>(hnb i hi).dZ hN) (λp hp=>⟨hs.at_ hp.1.1 hp.1.2,hs.at_ hp.2.1 hp.2.2⟩) (λ_=>rfl) (λ_ _ e=>e.symm) (λ_ _ _ e e'=>e.trans e')
  (λx y hx hy=>by
    constructor
    ·intro e;obtain⟨x1,x2⟩:=x;obtain⟨y1,y2⟩:=y;dsimp only at e hx hy;injection e with e1 e2;rw[hs.inj hx.1.1 hx.1.2 hy.1.1 hy.1.2 e1,hs.inj hx.2.1 hx.2.2 hy.2.1 hy.2.2 e2]
    ·intro e;rw[e])
  (λi hi=>by
    have:=Classical.choose_spec (hc i) hi;exact⟨(aW.1 this).1,fC this⟩) hjl
 rw[fC hj]at e;injection e with e1 e2;exact⟨_,_,hnb i hi,e1.symm,e2.symm⟩
end Kd
namespace Kd
open Go Go.Ideal Canon Gph
def pM:Nat->List Bool->List Int
 |n,[]=>if 0<n then[(n:Int)]else[]
 |n,b::bs=>if b then pM (n+1) bs else if 0<n then(n:Int)::pM 0 bs else pM 0 bs
theorem WQ(n:Nat):pM n []=if 0<n then[(n:Int)]else[]:=rfl
theorem Kt(n:Nat)(l:List Bool):pM n (true::l)=pM (n+1) l:=rfl
theorem Ku(n:Nat)(l:List Bool):pM n (false::l)=if 0<n then(n:Int)::pM 0 l else pM 0 l:=rfl
theorem Kv:∀(l m:List Bool) (n:Nat),pM n (l++false::m)=pM n l++pM 0 m
 |[],m,n=>by
  rw[bH,Ku,WQ];by_cases h:0<n
  ·rw[if_pos h,if_pos h];rfl
  ·rw[if_neg h,if_neg h];rfl
 |true::l,m,n=>by
  rw[bX,Kt,Kt];exact Kv l m (n+1)
 |false::l,m,n=>by
  rw[bX,Ku,Ku,Kv l m 0];by_cases h:0<n
  ·rw[if_pos h,if_pos h];rfl
  ·rw[if_neg h,if_neg h]
theorem WS:∀(k n:Nat),pM n (List.replicate k true)=if 0<n+k then[((n+k:Nat):Int)]else[]
 |0,n=>by rw[List.replicate_zero,WQ];rfl
 |k+1,n=>by
  rw[Eo,Kt,WS k (n+1),show n+1+k=n+(k+1)by omega]
theorem WT:∀(l:List Bool),l=List.replicate l.length true\/∃a b,l=a++false::b
 |[]=>.inl rfl
 |false::l=>.inr ⟨[],l,rfl⟩
 |true::l=>by
  rcases WT l with h|⟨a,b,h⟩
  ·refine .inl ?_;rw[lN,Eo,<- h]
  ·exact .inr ⟨true::a,b,by rw[h];rfl⟩
theorem Pm:∀(n:Nat) (l:List Bool),l.length<=n->pM 0 l.reverse=(pM 0 l).reverse
 |0,l,h=>by rw[lQ.1 (by omega:l.length=0)];rfl
 |n+1,l,h=>by
  rcases WT l with e|⟨a,b,e⟩
  ·rw[e,List.reverse_replicate,WS];split<;>rfl
  ·have hl:a.length+(b.length+1)=l.length:=by rw[e,gP,lN]
   rw[e,List.reverse_append,RH,ed,List.singleton_append,Kv,Kv,List.reverse_append,Pm n a (by omega),Pm n b (by omega)]
theorem Nb.rch{g:List (List Int)}{aC:List Bool}{s a b:Int}(h:kV g aC s a)(hab:Nb g a b)(hi:cz aC b=true):kV g aC s b:=by
 obtain⟨l,h0,h1,h2⟩:=hab;exact .step h h1 h2 hi
theorem ag4{n:Nat}{g:List (List Int)}{s:List Int}{mk mk':List Bool}(hN:sD n g)(hmk:∀c,0<=c->c<(n:Int)->cz mk' (aP s c)=cz mk c)(hnb:∀a b,Nb g a b->Nb g (aP s a) (aP s b)){a b:Int}(ha:0<=a/\a<(n:Int))(h:kV g mk a b):(0<=b/\b<(n:Int))/\kV g mk' (aP s a) (aP s b):=by
 induction h with
 |refl=>exact⟨ha,.refl⟩
 |step h hl hn hi ih=>
  rename_i i m l;have hab:Nb g i m:=⟨l,ih.1.1,hl,hn⟩
  have hr:=hab.dZ hN;exact⟨hr.2,(hnb _ _ hab).rch ih.2 (by rw[hmk _ hr.2.1 hr.2.2];exact hi)⟩
def Joined(g:List (List Int))(mk:List Bool):Prop:=∀a b:Nat,a<g.length->b<g.length->cz mk a=true->cz mk b=true->kV g mk a b
theorem Pn{mk:List Bool}:∀(n a:Nat),a<n->cz mk a=true->∃f,f<n/\cz mk (f:Nat)=true/\∀j,j<f->cz mk (j:Nat)=false
 |0,a,h,_=>by omega
 |n+1,a,h,hm=>by
  by_cases hex:∃a',a'<n/\cz mk (a':Nat)=true
  ·obtain⟨a',h1,h2⟩:=hex;obtain⟨f,h3,h4⟩:=Pn n a' h1 h2;exact⟨f,by omega,h4⟩
  ·have hno:∀j,j<n->cz mk (j:Nat)=false:=λj hj=>by
    cases he:cz mk (j:Nat)with
    |false=>rfl
    |true=>exact absurd ⟨j,hj,he⟩ hex
   have:a=n:=by
    apply Classical.byContradiction;intro hne;rw[hno a (by omega)]at hm;cases hm
   subst this;exact⟨a,by omega,hm,hno⟩
theorem Kw{g:List (List Int)}{mk:List Bool}:∀k,(∀j,j<k->cz mk (j:Nat)=false)->cnt g mk k=0
 |0,_=>rfl
 |k+1,h=>by rw[cnt,Kw k (λj hj=>h j (by omega)),if_neg (λq=>by rw[h k (by omega)]at q;cases q.1)]
theorem cnt_mono{g:List (List Int)}{mk:List Bool}:∀k d,cnt g mk k<=cnt g mk (k+d)
 |k,0=>bB _
 |k,d+1=>by have:=cnt_mono (g:=g) (mk:=mk) k d;rw[<- pU,cnt];omega
theorem WU{g:List (List Int)}{mk:List Bool}{f:Nat}(hf:f<g.length)(hin:cz mk f=true)(xM:∀j,j<f->cz mk (j:Nat)=false):1<=cnt g mk g.length:=by
 have h1:cnt g mk (f+1)=1:=by
  rw[cnt,Kw f xM,if_pos ⟨hin,λ⟨j,h1,h2,_⟩=>by rw[xM j h1]at h2;cases h2⟩]
 have:=cnt_mono (g:=g) (mk:=mk) (f+1) (g.length - (f+1));rw[show f+1+(g.length - (f+1))=g.length by omega]at this;omega
theorem WV{g:List (List Int)}{mk:List Bool}(hS:Gph.lG g):(eF g mk g.length).2=0↔∀a,a<g.length->cz mk (a:Nat)=false:=by
 rw[OG hS.rg _ (bB _)];constructor
 ·intro h a ha;cases he:cz mk (a:Nat)with
  |false=>rfl
  |true=>
   obtain⟨f,h1,h2,h3⟩:=Pn g.length a ha he;have:=WU h1 h2 h3;omega
 ·exact Kw _
theorem WW{g:List (List Int)}{mk:List Bool}(hS:Gph.lG g):(eF g mk g.length).2<=1↔Joined g mk:=by
 rw[OG hS.rg _ (bB _)];by_cases hex:∃a,a<g.length/\cz mk (a:Nat)=true
 ·obtain⟨a,ha,hm⟩:=hex;obtain⟨f,h1,h2,h3⟩:=Pn g.length a ha hm;have hp:=WU h1 h2 h3;have h4:=af0 hS h1 h2 h3;constructor
  ·intro h x y hx hy mx my;have h5:=h4.1 (by omega);exact((h5 x hx mx).symm hS ⟨by omega,by omega⟩ h2).trans (h5 y hy my)
  ·intro h;have:=h4.2 λi hi mi=>h f i h1 hi h2 mi;omega
 ·have h0:∀j,j<g.length->cz mk (j:Nat)=false:=λj hj=>by
   cases he:cz mk (j:Nat)with
   |false=>rfl
   |true=>exact absurd ⟨j,hj,he⟩ hex
  rw[Kw _ h0];exact⟨λ_ x y hx _ mx _=>(by rw[h0 x hx]at mx;cases mx),λ_=>dK _⟩
theorem WX{n:Nat}{g:List (List Int)}{s:List Int}{mk mk':List Bool}(hN:sD n g)(hs:dB n s)(hmk:∀c,0<=c->c<(n:Int)->cz mk' (aP s c)=cz mk c)(hnb:∀a b,Nb g a b->Nb g (aP s a) (aP s b))(h:Joined g mk):Joined g mk':=by
 intro a b ha hb ma mb;have hn:=hN.1;obtain⟨c,c0,c1,hc⟩:=hs.onto (y:=(a:Int)) (by omega) (by omega);obtain⟨d,d0,d1,hd⟩:=hs.onto (y:=(b:Int)) (by omega) (by omega);rw[<- hc,hmk c c0 c1]at ma;rw[<- hd,hmk d d0 d1]at mb;obtain⟨cn,rfl⟩:=eO c0;obtain⟨dn,rfl⟩:=eO d0;have:=(ag4 hN hmk hnb ⟨c0,c1⟩ (h cn dn (by omega) (by omega) ma mb)).2;rw[hc,hd]at this;exact this
structure l7(n:Nat)(g:List (List Int))(s:List Int)(mk mk':List Bool):Prop where
 iJ:Gph.lG g
 aA:sD n g
 nd:∀l∈g,l.Nodup
 ps:dB n s
 marks:∀c,0<=c->c<(n:Int)->cz mk' (aP s c)=cz mk c
 keep:∀a b,Nb g a b->Nb g (aP s a) (aP s b)
theorem l7.back{n:Nat}{g:List (List Int)}{s:List Int}{mk mk':List Bool}(h:l7 n g s mk mk'):l7 n g (dz s) mk' mk:=by
 refine⟨h.iJ,h.aA,h.nd,h.ps.inv,λc c0 c1=>?_,λa b hab=>?_⟩
 ·have:=h.ps.inv.at_ c0 c1;rw[<- h.marks _ this.1 this.2,h.ps.Ki c0 c1]
 ·obtain⟨c,d,hcd,rfl,rfl⟩:=Kq h.aA h.ps h.keep hab;have hr:=hcd.dZ h.aA;rw[h.ps.uu hr.1.1 hr.1.2,h.ps.uu hr.2.1 hr.2.2];exact hcd
theorem l7.few{n:Nat}{g:List (List Int)}{s:List Int}{mk mk':List Bool}(h:l7 n g s mk mk'):(eF g mk g.length).2<=1↔(eF g mk' g.length).2<=1:=by
 rw[WW h.iJ,WW h.iJ];exact⟨WX h.aA h.ps h.marks h.keep,WX h.back.aA h.back.ps h.back.marks h.back.keep⟩
theorem l7.WY{n:Nat}{g:List (List Int)}{s:List Int}{mk mk':List Bool}(h:l7 n g s mk mk')(h0:∀a,a<g.length->cz mk' (a:Nat)=false):∀a,a<g.length->cz mk (a:Nat)=false:=by
 intro a ha;have hn:=h.aA.1;have hr:=h.ps.at_ (c:=(a:Int)) (by omega) (by omega);rw[<- h.marks (a:Int) (by omega) (by omega)];have:=h0 (aP s a).toNat (by omega)
 rwa [rE hr.1]at this
theorem l7.zero{n:Nat}{g:List (List Int)}{s:List Int}{mk mk':List Bool}(h:l7 n g s mk mk'):(eF g mk g.length).2=0↔(eF g mk' g.length).2=0:=by
 rw[WV h.iJ,WV h.iJ];exact⟨h.back.WY,h.WY⟩
theorem WZ{a b:List Int}(ha:a.Nodup)(hb:b.Nodup)(h:∀x,x∈a↔x∈b):a.Perm b:=by
 refine List.perm_iff_count.2 λx=>?_;have h1:=List.nodup_iff_count.1 ha x;have h2:=List.nodup_iff_count.1 hb x;have h3:=List.count_pos_iff (a:=x) (l:=a);have h4:=List.count_pos_iff (a:=x) (l:=b);have h5:=h x;by_cases hx:x∈a
 ·have:=h3.2 hx;have:=h4.2 (h5.1 hx);omega
 ·have k1:¬0<List.count x a:=λq=>hx (h3.1 q);have k2:¬0<List.count x b:=λq=>hx (h5.2 (h4.1 q));omega
theorem l7.ag5{n:Nat}{g:List (List Int)}{s:List Int}{mk mk':List Bool}(h:l7 n g s mk mk'){i:Nat}(hi:i<g.length):(g.getD (aP s i).toNat []).Perm (img s (g.getD i [])):=by
 have hn:=h.aA.1;have hr:=h.ps.at_ (c:=(i:Int)) (by omega) (by omega);have hl:g[i]? =some g[i]:=bC hi;have hl':g[(aP s i).toNat]? =some (g[(aP s i).toNat]'(by omega)):=bC _;rw[Kd.fC hl,Kd.fC hl'];have hin:=h.aA.2 _ (uC hi);refine WZ (h.nd _ (uC _)) (WM h.ps hin (h.nd _ (uC _))) λx=>?_;constructor
 ·intro hx;obtain⟨c,d,hcd,e1,e2⟩:=Kq h.aA h.ps h.keep (a:=aP s i) (b:=x) ⟨_,hr.1,hl',hx⟩;have hcr:=hcd.dZ h.aA;have:=h.ps.inj hcr.1.1 hcr.1.2 (by omega) (by omega) e1;subst this;obtain⟨l,_,h2,h3⟩:=hcd;rw[eX,hl]at h2;cases h2;exact cZ.2 ⟨d,h3,e2⟩
 ·intro hx;obtain⟨d,hd,rfl⟩:=cZ.1 hx;obtain⟨l,_,h2,h3⟩:=h.keep (i:Int) d ⟨_,by omega,by rw[eX];exact hl,hd⟩;rw[hl']at h2;cases h2;exact h3
theorem Ky{n:Nat}{s:List Int}{p q:Int->Bool}:∀{l:List Int},kv n l->(∀c,0<=c->c<(n:Int)->q (aP s c)=p c)->((img s l).filter q).length=(l.filter p).length
 |[],_,_=>rfl
 |c::l,hl,h=>by
  have hc:=hl c (bR ..);have ih:=Ky (l:=l) (λx hx=>hl x (bU _ hx)) h;unfold img at ih⊢;rw[fI,En,En,h c hc.1 hc.2];split
  ·rw[lN,lN,ih]
  ·exact ih
theorem l7.xX{n:Nat}{g:List (List Int)}{s:List Int}{mk mk':List Bool}(h:l7 n g s mk mk')(hd:xX g mk' g.length):xX g mk g.length:=by
 intro i hi hm;have hn:=h.aA.1;have hr:=h.ps.at_ (c:=(i:Int)) (by omega) (by omega);have h1:=hd (aP s i).toNat (by omega) (by rw[rE hr.1,h.marks _ (by omega) (by omega)];exact hm)
 have h2:=(h.ag5 hi).filter (cz mk');have hl:g[i]? =some g[i]:=bC hi;have h3:=Ky (n:=n) (s:=s) (p:=cz mk) (q:=cz mk') (l:=g.getD i []) (by rw[Kd.fC hl];exact h.aA.2 _ (uC hi)) h.marks;unfold xW at h1⊢;rw[<- h3,<- h2.length_eq];exact h1
theorem W9(mk:List Bool)(n:Nat):si mk n=((upTo' n).filter (cz mk)).length:=by
 unfold si upTo';rw[List.filter_map,bJ];rfl
theorem l7.size{n:Nat}{g:List (List Int)}{s:List Int}{mk mk':List Bool}(h:l7 n g s mk mk'):si mk g.length=si mk' g.length:=by
 have hn:=h.aA.1;rw[hn,W9,W9];have hid:=dB.ident n;have hin:kv n (upTo' n):=λc hc=>hid.dZ c hc;have h1:=Ky (n:=n) (s:=s) (p:=cz mk) (q:=cz mk') hin h.marks;have h2:(img s (upTo' n)).Perm (upTo' n):=WZ (WM h.ps hin hid.nd) hid.nd λx=>by
  constructor
  ·intro hx;have:=(kv.img h.ps hin) x hx;exact hid.mem this.1 this.2
  ·intro hx;have:=hid.dZ x hx;obtain⟨c,c0,c1,rfl⟩:=h.ps.onto this.1 this.2;exact cZ.2 ⟨c,hid.mem c0 c1,rfl⟩
 rw[<- h1,(h2.filter (cz mk')).length_eq]
theorem l7.ring{n:Nat}{g:List (List Int)}{s:List Int}{mk mk':List Bool}(h:l7 n g s mk mk'):Bp g mk=Bp g mk':=by
 rw[sO,JV,JV,h.size];have h1:=h.few;have h2:=h.zero;constructor
 ·rintro⟨a,b,c⟩;exact⟨h.back.xX a,b,by omega⟩
 ·rintro⟨a,b,c⟩;exact⟨h.xX a,b,by omega⟩
end Kd
namespace Kd
open Go Go.Ideal Canon
theorem Xa{L:List (List Int)}(hn:L.Nodup)(hs:∀l∈L,l.Pairwise (·<·)):zS L:=by
 intro i j a b ha hb hp;have e:a=b:=List.Perm.eq_of_pairwise (λx y _ _ h1 h2=>by omega) (hs a (aR ha)) (hs b (aR hb)) hp;subst e;exact Dy hn ha hb
theorem ag6{α:Type}{K:List α}{F:α->List Int}(hn:K.Nodup)(h:∀a∈K,∀b∈K,(F a).Perm (F b)->a=b):zS (K.map F):=by
 intro i j a b ha hb hp;rw[dR]at ha hb;obtain⟨x,hx,rfl⟩:=jU.1 ha;obtain⟨y,hy,rfl⟩:=jU.1 hb;have:=h x (aR hx) y (aR hy) hp;subst this;exact Dy hn hx hy
theorem Po{g:cO}(hg:ik g)(kf:Int×Int->Int×Bool):zS (ku g kf):=by
 obtain⟨h1,h2⟩:=WI kf _ (bA g) rfl;unfold ku;refine ag6 (agC h1) λa ha b hb hp=>?_;rw[Dx]at ha hb;rw[(h2 a).2,(h2 b).2]at hp;have hne:=(h2 a).1.1 ha;cases hl:nA kf (bA g) a with
 |nil=>exact absurd hl hne
 |cons c l=>
  have hc:c∈nA kf (bA g) a:=by rw[hl];exact bR ..
  have hc':=hp.mem_iff.1 hc;unfold nA at hc hc';obtain⟨p,hp1,hp2⟩:=cZ.1 hc;obtain⟨q,hq1,hq2⟩:=cZ.1 hc';obtain⟨p3,p4⟩:=mW.1 hp1;obtain⟨q3,q4⟩:=mW.1 hq1;have e:=F8 hg p3 q3 (.inl (hp2.trans hq2.symm));subst e;rw[eU,kL]at p4 q4;exact p4.2.symm.trans q4.2
theorem DD{L:List (List Int)}(h:L.length<=1):zS L:=by
 intro i j a b ha hb _;have h1:=(aW.1 ha).1;have h2:=(aW.1 hb).1;omega
theorem ag7{g:cO}(hg:ik g):zS (uo g):=by
 unfold uo;split
 ·exact Po hg _
 split
 ·rw[WJ,WJ];generalize hA:wK g.cells.length (λb=>decide ((qY g b).1=(qY g b).2))=A;generalize hB:wK g.cells.length (λb=>decide ((qY g b).1+(qY g b).2=g.w - 1))=B;have iA:A.Pairwise (·<·):=by rw[<- hA];exact Pd _ _
  have iB:B.Pairwise (·<·):=by rw[<- hB];exact Pd _ _
  by_cases a0:A=[]
  ·rw[if_pos a0];by_cases b0:B=[]
   ·rw[if_pos b0];exact DD (by simp[mG])
   ·rw[if_neg b0];exact DD (by simp[mG,yf])
  ·rw[if_neg a0];by_cases b0:B=[]
   ·rw[if_pos b0];exact DD (by simp[mG])
   ·rw[if_neg b0];by_cases e:A=B
    ·refine DD ?_;simp[mG,yf,e]
    ·have:mG [A] [B]=[A,B]:=by simp[mG,yf,e]
     rw[this];refine Xa (by simp[e]) λl hl=>?_;simp only[bN,LK,or_false]at hl;rcases hl with rfl|rfl
     ·exact iA
     ·exact iB
 ·exact DD (by simp)
theorem ag8{g:cO}(hg:ik g):zS (kF (fH g)):=by
 refine Xa ?_ λl hl=>?_
 ·unfold kF;unfold List.Nodup;rw[List.pairwise_flatMap];refine⟨λx hx=>?_,?_⟩
  ·have hx:=aR (vV.1 (show(x.1,x.2)∈_ from hx));unfold mH;rw[yX];obtain⟨p,_,hp⟩:=cZ.1 (show x.1∈fH g from hx);have hnd:x.1.Nodup:=by rw[<- hp];exact Wv hg p
   exact(List.Pairwise.filter _ hnd).imp λ{a b} hne e=>hne (by injection e with _ e;injection e)
  ·have hz:∀(l:List (List Int)) (n:Nat),(l.zipIdx n).Pairwise λa b=>a.2<b.2:=by
    intro l;induction l with
    |nil=>intro n;exact List.Pairwise.nil
    |cons a l ih=>
     intro n;rw[LG,nL];refine⟨λx hx=>?_,ih (n+1)⟩;have:=List.le_snd_of_mem_zipIdx hx;show n<x.2;omega
   refine(hz (fH g) 0).imp λ{a b} h x hx y hy e=>?_;unfold mH at hx hy;obtain⟨u,_,rfl⟩:=cZ.1 hx;obtain⟨v,_,rfl⟩:=cZ.1 hy;injection e with e _;omega
 ·obtain⟨i,x,j,_,_,h,rfl⟩:=agD hl;simp[h]
theorem ag9{g:cO}(hg:ik g)(k:Int):oQ g.cells.length (gN g k) k:=by
 refine⟨λl hl=>(Wo hg k l hl).2,λhb=>?_,λhb=>?_⟩
 ·unfold jQ at hb;simp only[wW,kL]at hb;rcases hb with(rfl|rfl)|rfl
  ·show(lH g.cells.length).length=_;exact OT _
  ·show(fH g).length=_;exact wH g
  ·show(pJ (fH g)).length=_;rw[V7];exact wH g
 ·unfold jQ at hb;simp only[Bool.or_eq_false_iff,decide_eq_false_iff_not]at hb;unfold gN;rw[if_neg hb.1.1];split
  ·exact Po hg _
  split
  ·exact Po hg _
  split
  ·exact ag7 hg
  rw[if_neg hb.1.2,if_neg hb.2];split
  ·exact ag8 hg
  ·exact DD (by simp)
theorem aha{g:cO}(hg:ik g){rs:List (List Int)}(hr:yj g rs)(hn:(rs.map bD).Nodup)(k:Int)(hk:jQ k=false):oQ g.cells.length (iE g rs) k:=by
 refine⟨λl hl=>(Wp hg hr l hl).2,(λhb=>by rw[hk]at hb;cases hb),λ_=>?_⟩;intro i j a b ha hb hp;unfold iE at ha hb;rw[dR]at ha hb;obtain⟨x,hx,rfl⟩:=jU.1 ha;obtain⟨y,hy,rfl⟩:=jU.1 hb;have back:∀z∈rs,(iP g z).map (λn=>g.cells.getD n.toNat 0)=z:=λz hz=>by
  unfold iP;rw[qE];conv=>rhs;rw[<- GM z]
  refine yQ λc hc=>?_;have hm:=(hr.all z hz).mem c hc;have qW:g.cells.Pairwise (·<·):=by rw[hg.cells];exact OL _ _
  obtain⟨m,hm2⟩:=jm hm;show g.cells.getD ((yg c g.cells:Nat):Int).toNat 0=c;rw[eX,OW qW hm2];exact fC hm2
 have h1:=hp.map (λn=>g.cells.getD n.toNat 0);rw[back x (aR hx),back y (aR hy)]at h1;have h2:=Ko.2 h1;have h3:(rs.map bD)[i]? =some (bD x):=by rw[dR,hx];rfl
 have h4:(rs.map bD)[j]? =some (bD x):=by rw[dR,hy,h2];rfl
 exact Dy hn h3 h4
theorem ahb{d:dN}(hg:ik (bE d))(hr:∀r∈d.regions,yj (bE d) r.lists/\(r.lists.map bD).Nodup){f:Nat}{L:List (List Int)}(h:(nT d)[f]? =some L):oQ (bE d).cells.length L (f:Int):=by
 unfold nT at h;by_cases hf:f<8
 ·rw[ol (by rw[bJ,uH];exact hf),dR,uD hf]at h;cases h;exact ag9 hg _
 ·rw[mU (by rw[bJ,uH];omega),dR]at h;obtain⟨r,hr2,rfl⟩:=jU.1 h;have:=hr r (aR hr2);refine aha hg this.1 this.2 _ ?_;unfold jQ;simp only[Bool.or_eq_false_iff,decide_eq_false_iff_not];omega
end Kd
namespace Kd
open Go Go.Ideal Canon
structure am0(m:Nat)(cl:List Int):Prop where
 len:cl.length=m
 cls:∀i:Nat,i<m->0<=aP cl (i:Int)/\aP cl (i:Int)<=(i:Int)/\aP cl (aP cl (i:Int))=aP cl (i:Int)
structure am2(m:Nat)(cl t:List Int):Prop where
 p:dB m t
 c:∀v:Int,0<=v->v<(m:Int)->aP cl (aP t v)=aP cl v
def DF(cl sy:List Int)(s:Int):Option Nat:=(List.range cl.length).find? λt:Nat=>decide (aP cl (t:Int)=aP cl s)&&!decide ((t:Int)∈sy)
def Kz(cl sy:List Int)(s:Int):List Int:=if 0<=aP sy s then sy else match DF cl sy s with
 |none=>sy
 |some t=>sy.set s.toNat (t:Int)
structure GInv(m:Nat)(cl sy:List Int):Prop where
 len:sy.length=m
 val:∀s:Int,0<=s->s<(m:Int)->aP sy s= -1\/(0<=aP sy s/\aP sy s<(m:Int)/\aP cl (aP sy s)=aP cl s)
 inj:∀s u:Int,0<=s->s<(m:Int)->0<=u->u<(m:Int)->aP sy s=aP sy u->0<=aP sy s->s=u
theorem Xb{l:List Int}{s x u:Int}(s0:0<=s)(s1:s<l.length)(u0:0<=u):aP (l.set s.toNat x) u=if u=s then x else aP l u:=by
 unfold aP;by_cases e:u=s
 ·subst e;rw[if_pos rfl];have hl:u.toNat<l.length:=by omega
  simp[List.getD,mV,hl]
 ·rw[if_neg e];simp only[List.getD,mV];rw[if_neg (by omega)]
theorem GInv.mem{m:Nat}{cl sy:List Int}(h:GInv m cl sy){t:Int}(t0:0<=t)(ht:t∈sy):∃u:Int,0<=u/\u<(m:Int)/\aP sy u=t/\aP cl t=aP cl u/\t<(m:Int):=by
 obtain⟨i,hi⟩:=jm ht;have hl:=(aW.1 hi).1;have hlen:=h.len;have e:=jJ hi;refine⟨(i:Int),by omega,by omega,e,?_⟩;rcases h.val (i:Int) (by omega) (by omega)with h1|h1
 ·omega
 ·rw[e]at h1;exact⟨h1.2.2,h1.2.1⟩
theorem GInv.room{m:Nat}{cl sy:List Int}(hc:cl.length=m)(h:GInv m cl sy){s:Int}(s0:0<=s)(s1:s<(m:Int))(hs:aP sy s= -1):∃t,DF cl sy s=some t:=by
 cases hf:DF cl sy s with
 |some t=>exact⟨t,rfl⟩
 |none=>
  exfalso
  unfold DF at hf;rw[List.find?_eq_none]at hf;have hall:∀t:Int,0<=t->t<(m:Int)->aP cl t=aP cl s->t∈sy:=λt t0 t1 hcl=>by
   have:=hf t.toNat (o9.2 (by omega))
   rw[rE t0]at this;simp[hcl]at this;exact this
  have hC:∀t,t∈(upTo' m).filter (λt=>decide (aP cl t=aP cl s))↔(0<=t/\t<(m:Int))/\aP cl t=aP cl s:=λt=>by
   rw[mW,kL];refine and_congr_left λ_=>⟨λq=>(dB.ident m).dZ t q,λq=>(dB.ident m).mem q.1 q.2⟩
  have hnd:((upTo' m).filter (λt=>decide (aP cl t=aP cl s))).Nodup:=(O4 m).filter _;generalize(upTo' m).filter (λt=>decide (aP cl t=aP cl s))=C at hC hnd;have hidx:∀t∈C,sy.idxOf t<sy.length/\aP sy (sy.idxOf t:Nat)=t:=λt ht=>by
   have h1:=(hC t).1 ht;have hl:=List.idxOf_lt_length_iff.2 (hall t h1.1.1 h1.1.2 h1.2);refine⟨hl,jJ ?_⟩;rw[bC hl,List.getElem_idxOf]
  have Xc:s∈C:=(hC s).2 ⟨⟨s0,s1⟩,rfl⟩;have h1:=Kg (l:=C.map λt=>((sy.idxOf t:Nat):Int)) (m:=C.erase s) (Pg hnd λa ha b hb e=>by
   have e1:=(hidx a ha).2;have e2:=(hidx b hb).2;rw[<- e1,<- e2,e]) (λx hx=>by
   obtain⟨t,ht,rfl⟩:=cZ.1 hx;obtain⟨k1,k2⟩:=hidx t ht;have k3:=(hC t).1 ht;have hlen:=h.len;have hne:((sy.idxOf t:Nat):Int)≠s:=λe=>by rw[e,hs]at k2;omega
   refine(RG hne).2 ((hC _).2 ⟨⟨by omega,by omega⟩,?_⟩);rcases h.val ((sy.idxOf t:Nat):Int) (by omega) (by omega)with q|q
   ·omega
   ·rw[<- q.2.2,k2];exact k3.2)
  have h2:=RD Xc;have h3:0<C.length:=RF Xc;rw[bJ]at h1;omega
theorem ahc{cl sy:List Int}{s:Int}{t:Nat}(h:DF cl sy s=some t):t<cl.length/\aP cl (t:Int)=aP cl s/\(t:Int)∉sy/\∀u:Nat,u<t->aP cl (u:Int)=aP cl s->(u:Int)∈sy:=by
 unfold DF at h;have h1:=List.find?_some h;have h2:=List.mem_of_find?_eq_some h;simp at h1;refine⟨o9.1 h2,h1.1,h1.2,λu hu hcl=>?_⟩;obtain⟨h3,a,b,e,h4⟩:=List.find?_eq_some_iff_append.1 h;have hat:a=List.range t:=by
  have hlt:=o9.1 h2;have e1:List.range cl.length=List.range t++t::(List.range' (t+1) (cl.length - t - 1)):=by
   rw[List.range_eq_range',List.range_eq_range',show cl.length=t+(1+(cl.length - t - 1))by omega,<- List.range'_append_1,<- List.range'_append_1];simp
  have l1:a.length=t:=by
   have hg:(List.range cl.length)[a.length]? =some t:=by rw[e,mU (bB _),vU];rfl
   have:=(aW.1 hg).2;rw[Ry]at this;exact this
  have:a=(List.range cl.length).take t:=by rw[e,<- l1,List.take_left'];rfl
  rw[this,List.take_range,w9 (by omega)]
 have:=h4 u (by rw[hat];exact o9.2 hu);simp[hcl]at this;exact this
theorem GInv.step{m:Nat}{cl sy:List Int}(hc:cl.length=m)(h:GInv m cl sy){s:Int}(s0:0<=s)(s1:s<(m:Int)):GInv m cl (Kz cl sy s)/\0<=aP (Kz cl sy s) s/\∀u:Int,0<=u->u≠s->aP (Kz cl sy s) u=aP sy u:=by
 unfold Kz;by_cases h0:0<=aP sy s
 ·rw[if_pos h0];exact⟨h,h0,λ_ _ _=>rfl⟩
 rw[if_neg h0];have hs:aP sy s= -1:=by
  rcases h.val s s0 s1 with q|q
  ·exact q
  ·omega
 obtain⟨t,ht⟩:=h.room hc s0 s1 hs;rw[ht];dsimp only;obtain⟨k1,k2,k3,_⟩:=ahc ht;have hlen:=h.len;have hg:∀u:Int,0<=u->aP (sy.set s.toNat (t:Int)) u=if u=s then(t:Int)else aP sy u:=λu u0=>Xb s0 (by omega) u0
 have hno:∀u:Int,0<=u->u<(m:Int)->aP sy u≠(t:Int):=λu u0 u1 e=>k3 (e▸Pf u0 (by omega));refine⟨⟨by rw[nM];exact hlen,λu u0 u1=>?_,λu w u0 u1 w0 w1 e he=>?_⟩,?_,λu u0 hne=>?_⟩
 ·rw[hg u u0];split
  ·rename_i e;refine .inr ⟨by omega,by omega,by rw[e];exact k2⟩
  ·exact h.val u u0 u1
 ·rw[hg u u0,hg w w0]at e;rw[hg u u0]at he;split at e
  ·rename_i e1;split at e
   ·rename_i e2;omega
   ·exact absurd e.symm (hno w w0 w1)
  ·rename_i e1;rw[if_neg e1]at he;split at e
   ·exact absurd e (hno u u0 u1)
   ·exact h.inj u w u0 u1 w0 w1 e he
 ·rw[hg s s0,if_pos rfl];omega
 ·rw[hg u u0,if_neg hne]

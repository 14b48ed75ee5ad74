/-
  Part PlainDX.
-/
import Derived.Test.YtoilpafpgndilaaGreatPlainCX
set_option linter.all false
namespace Kd
open Go Go.Ideal Canon
structure dF(n:Nat)(p:List Int):Prop where
 len:p.length=n
 fG:∀x∈p,0<=x/\x<(n:Int)
 nd:p.Nodup
theorem rW{p:List Int}{c:Int}(h0:0<=c)(h1:c<p.length):p[c.toNat]? =some (aB p c):=by
 unfold aB;rw[List.getD,bP (by omega)];rfl
theorem NE{p:List Int}{c:Int}(h0:0<=c)(h1:c<p.length):aB p c∈p:=aZ (rW h0 h1)
theorem dF.at_{n:Nat}{p:List Int}(h:dF n p){c:Int}(h0:0<=c)(h1:c<(n:Int)):0<=aB p c/\aB p c<(n:Int):=h.fG _ (NE h0 (by rw[h.len];exact h1))
theorem C9{α:Type}{p:List α}(h:p.Nodup){i j:Nat}{x:α}(hi:p[i]? =some x)(hj:p[j]? =some x):i=j:=by
 obtain⟨h1,h2⟩:=bq.1 hi;obtain⟨h3,h4⟩:=bq.1 hj;rcases PT i j with hl|hl|hl
 ·exact absurd (h2.trans h4.symm) (wT.1 h i j h1 h3 hl)
 ·exact hl
 ·exact absurd (h4.trans h2.symm) (wT.1 h j i h3 h1 hl)
theorem dF.inj{n:Nat}{p:List Int}(h:dF n p){a b:Int}(a0:0<=a)(a1:a<(n:Int))(b0:0<=b)(b1:b<(n:Int))(e:aB p a=aB p b):a=b:=by
 have h1:=rW (p:=p) a0 (by rw[h.len];exact a1);have h2:=rW (p:=p) b0 (by rw[h.len];exact b1);rw[e]at h1;have:=C9 h.nd h1 h2;omega
theorem dF.mem{n:Nat}{p:List Int}(h:dF n p){y:Int}(y0:0<=y)(y1:y<(n:Int)):y∈p:=by
 apply Classical.byContradiction;intro hn;have h1:=Nz (l:=p) (m:=(upTo' n).erase y) h.nd (λx hx=>by
  have hne:x≠y:=λe=>hn (e▸hx);refine(PW hne).2 ?_;have:=h.fG x hx;unfold upTo';exact eT.2 ⟨x.toNat,ol.2 (by omega),by omega⟩)
 have hy:y∈upTo' n:=by
  unfold upTo';exact eT.2 ⟨y.toNat,ol.2 (by omega),by omega⟩
 have h2:=PU hy;have h3:0<(upTo' n).length:=PV hy;rw[lZ]at h2 h3;have h4:=h.len;omega
theorem dF.onto{n:Nat}{p:List Int}(h:dF n p){y:Int}(y0:0<=y)(y1:y<(n:Int)):∃c,0<=c/\c<(n:Int)/\aB p c=y:=by
 obtain⟨i,hi⟩:=jS (h.mem y0 y1);have:=(bq.1 hi).1;have h4:=h.len;refine⟨(i:Int),by omega,by omega,ji hi⟩
def iK(a b:List Int):List Int:=b.map (aB a)
def kG(p:List Int):List Int:=(List.range p.length).map λy:Nat=>((p.idxOf (y:Int):Nat):Int)
theorem wB{a b:List Int}{c:Int}(h0:0<=c)(h1:c<b.length):aB (iK a b) c=aB a (aB b c):=by
 unfold iK;have h:=rW h0 h1;have h2:(b.map (aB a))[c.toNat]? =some (aB a (aB b c)):=by rw[dm,h];rfl
 show(b.map (aB a)).getD c.toNat 0=_;exact j5 h2
theorem NF{f:Int->Int}{l:List Int}(h:l.Nodup)(hf:∀a∈l,∀b∈l,f a=f b->a=b):(l.map f).Nodup:=by
 unfold List.Nodup;rw[wS];exact List.Pairwise.imp_of_mem (λha hb hne e=>hne (hf _ ha _ hb e)) h
theorem dF.comp{n:Nat}{a b:List Int}(ha:dF n a)(hb:dF n b):dF n (iK a b):=by
 refine⟨by unfold iK;rw[bY];exact hb.len,λx hx=>?_,?_⟩
 ·unfold iK at hx;obtain⟨y,hy,rfl⟩:=eT.1 hx;have:=hb.fG y hy;exact ha.at_ this.1 this.2
 ·unfold iK;exact NF hb.nd λx hx y hy e=>ha.inj (hb.fG x hx).1 (hb.fG x hx).2 (hb.fG y hy).1 (hb.fG y hy).2 e
theorem UQ(p:List Int):(kG p).length=p.length:=by unfold kG;rw[bY,uu]
theorem aey{p:List Int}{y:Int}(h0:0<=y)(h1:y<p.length):aB (kG p) y=((p.idxOf y:Nat):Int):=by
 obtain⟨m,rfl⟩:=jA h0;apply ji;unfold kG;rw[dm,pU (by omega)];rfl
theorem dF.idx{n:Nat}{p:List Int}(h:dF n p){c:Int}(h0:0<=c)(h1:c<(n:Int)):((p.idxOf (aB p c):Nat):Int)=c:=by
 have hg:=rW (p:=p) h0 (by rw[h.len];exact h1);have hm:=aZ hg;have hl:=List.idxOf_lt_length_iff.2 hm;have h2:p[p.idxOf (aB p c)]? =some (aB p c):=by
  rw[bP hl,List.getElem_idxOf]
 have:=C9 h.nd hg h2;omega
theorem dF.uY{n:Nat}{p:List Int}(h:dF n p){c:Int}(h0:0<=c)(h1:c<(n:Int)):aB (kG p) (aB p c)=c:=by
 have:=h.at_ h0 h1;rw[aey this.1 (by rw[h.len];exact this.2),h.idx h0 h1]
theorem dF.Ju{n:Nat}{p:List Int}(h:dF n p){y:Int}(h0:0<=y)(h1:y<(n:Int)):aB p (aB (kG p) y)=y:=by
 obtain⟨c,c0,c1,rfl⟩:=h.onto h0 h1;rw[h.uY c0 c1]
theorem dF.inv{n:Nat}{p:List Int}(h:dF n p):dF n (kG p):=by
 refine⟨by rw[UQ];exact h.len,λx hx=>?_,?_⟩
 ·obtain⟨i,hi⟩:=jS hx;have hl:=(bq.1 hi).1;rw[UQ,h.len]at hl;obtain⟨c,c0,c1,hc⟩:=h.onto (y:=(i:Int)) (by omega) (by omega);have:=h.uY c0 c1;rw[hc,ji hi]at this;omega
 ·unfold kG;unfold List.Nodup;rw[wS];refine List.Pairwise.imp_of_mem (λ{a b} ha hb hne e=>hne ?_) List.nodup_range;have ha:=ol.1 ha;have hb:=ol.1 hb;rw[h.len]at ha hb;obtain⟨c,c0,c1,hc⟩:=h.onto (y:=(a:Int)) (by omega) (by omega);obtain⟨d,d0,d1,hd⟩:=h.onto (y:=(b:Int)) (by omega) (by omega);rw[<- hc,<- hd,h.idx c0 c1,h.idx d0 d1]at e;rw[e,hd]at hc;omega
theorem dF.ident(n:Nat):dF n (upTo' n):=by
 refine⟨lZ n,λx hx=>?_,UC n⟩;obtain⟨i,hi⟩:=jS hx;have hl:=(bq.1 hi).1;rw[lZ]at hl;rw[UD hi];omega
theorem zn{n:Nat}{c:Int}(h0:0<=c)(h1:c<(n:Int)):aB (upTo' n) c=c:=by
 have h:=rW (p:=upTo' n) h0 (by rw[lZ];exact h1);have:=UD h;omega
def uZ{α:Type}(f:α->α):Nat->α->α
 |0,x=>x
 |t+1,x=>f (uZ f t x)
theorem Jv{m:Nat}{f:Nat->Nat}(hf:∀i,i<m->f i<m):∀t x,x<m->uZ f t x<m
 |0,_,h=>h
 |t+1,x,h=>hf _ (Jv hf t x h)
theorem aez{m:Nat}{f:Nat->Nat}(hf:∀i,i<m->f i<m){j:Nat}(hj:j<m):∃a b,a<b/\uZ f a j=uZ f b j:=by
 apply Classical.byContradiction;intro hno;have h:=Uu m ((List.range (m+1)).map λt=>((uZ f t j:Nat):Int)) (by
  unfold List.Nodup;rw[wS];exact List.pairwise_lt_range.imp (λ{a b} hab e=>hno ⟨a,b,hab,Int.ofNat.inj e⟩)) (λx hx=>by
  obtain⟨t,_,rfl⟩:=eT.1 hx;have:=Jv hf t j hj;omega)
 rw[bY,uu]at h;omega
theorem UR{α:Type}{m:Nat}{L:Nat->α}{S:α->α}{R:α->α->Prop}{D:α->Prop}{f:Nat->Nat}(hD:∀i,i<m->D (L i))(hDS:∀x,D x->D (S x))(hr:∀x,R x x)(hs:∀x y,R x y->R y x)(ht:∀x y z,R x y->R y z->R x z)
 (hS:∀x y,D x->D y->(R (S x) (S y)↔R x y)) (hf:∀i,i<m->f i<m/\R (L (f i)) (S (L i))) {j:Nat} (hj:j<m):∃i,i<m/\R (L j) (S (L i)):=by
 have hf1:∀i,i<m->f i<m:=λi hi=>(hf i hi).1;have Jw:∀t,D (uZ S t (L j)):=λt=>by
  induction t with
  |zero=>exact hD j hj
  |succ t ih=>exact hDS _ ih
 have key:∀t,R (L (uZ f t j)) (uZ S t (L j)):=λt=>by
  induction t with
  |zero=>exact hr _
  |succ t ih=>
   have hl:=Jv hf1 t j hj;exact ht _ _ _ (hf _ hl).2 ((hS _ _ (hD _ hl) (Jw t)).2 ih)
 have cancel:∀a d,R (uZ S a (L j)) (uZ S (a+d) (L j))->R (L j) (uZ S d (L j)):=λa d=>by
  induction a with
  |zero=>intro h;rw[fo]at h;exact h
  |succ a ih=>
   intro h;rw[Nat.succ_add]at h;exact ih ((hS _ _ (Jw _) (Jw _)).1 h)
 obtain⟨a,b,hab,e⟩:=aez hf1 hj;have h1:=key a;have h2:=key b;rw[e]at h1;obtain⟨d,rfl⟩:∃d,b=a+(d+1):=⟨b - a - 1,by omega⟩
 have h3:=cancel a (d+1) (ht _ _ _ (hs _ _ h1) h2);have hl:=Jv hf1 d j hj;exact⟨_,hl,ht _ _ _ h3 (hs _ _ ((hS _ _ (hD _ hl) (Jw d)).2 (key d)))⟩
def img(s:List Int)(l:List Int):List Int:=l.map (aB s)
def iP(n:Nat)(l:List Int):Prop:=∀c∈l,0<=c/\c<(n:Int)
theorem NG(s l:List Int):(img s l).length=l.length:=by unfold img;rw[bY]
theorem iP.img{n:Nat}{s:List Int}(h:dF n s){l:List Int}(hl:iP n l):iP n (img s l):=by
 intro c hc;unfold Kd.img at hc;obtain⟨x,hx,rfl⟩:=eT.1 hc;exact h.at_ (hl x hx).1 (hl x hx).2
theorem UT{n:Nat}{s:List Int}(h:dF n s):∀{a b:List Int},iP n a->iP n b->img s a=img s b->a=b
 |[],[],_,_,_=>rfl
 |[],_::_,_,_,e=>by cases e
 |_::_,[],_,_,e=>by cases e
 |x::a,y::b,ha,hb,e=>by
  unfold img at e;rw[gL,gL]at e;injection e with e1 e2;have hx:=ha x (cB ..);have hy:=hb y (cB ..);rw[h.inj hx.1 hx.2 hy.1 hy.2 e1,UT h (λc hc=>ha c (cO _ hc)) (λc hc=>hb c (cO _ hc)) e2]
theorem Jy{n:Nat}{s:List Int}(h:dF n s){l:List Int}(hl:iP n l):img (kG s) (img s l)=l:=by
 unfold img;rw[wR];conv=>rhs;rw[<- List.map_id l]
 exact sN λc hc=>h.uY (hl c hc).1 (hl c hc).2
theorem Jz{a b l:List Int}(hl:iP b.length l):img (iK a b) l=img a (img b l):=by
 unfold img;rw[wR];exact sN λc hc=>wB (hl c hc).1 (hl c hc).2
theorem JA(s:List Int){a b:List Int}(h:a.Perm b):(img s a).Perm (img s b):=h.map _
theorem aeB{n:Nat}{s:List Int}(h:dF n s){a b:List Int}(ha:iP n a)(hb:iP n b)(e:(img s a).Perm (img s b)):a.Perm b:=by
 have:=JA (kG s) e
 rwa [Jy h ha,Jy h hb]at this
theorem NH(s l:List Int):img s l.reverse=(img s l).reverse:=by unfold img;rw[List.map_reverse]
theorem aeC{n:Nat}{s:List Int}(h:dF n s){l:List Int}(hl:iP n l)(hn:l.Nodup):(img s l).Nodup:=by
 unfold img;exact NF hn λa ha b hb e=>h.inj (hl a ha).1 (hl a ha).2 (hl b hb).1 (hl b hb).2 e
theorem JB(l:List Int):(bW l).Perm l:=zT l _
theorem JC{a b:List Int}:bW a=bW b↔a.Perm b:=by
 constructor
 ·intro e;exact(JB a).symm.trans (e▸JB b)
 ·intro h;exact List.Perm.eq_of_pairwise (λx y _ _ h1 h2=>Int.le_antisymm h1 h2) (Nv a) (Nv b) ((JB a).trans (h.trans (JB b).symm))
end Kd
namespace Kd
open Go Go.Ideal Canon
def u7(f:Int):Bool:=decide (f=0)||decide (f=4)||decide (f=5)
def zo(L:List (List Int))(w:List Int):Int:=match L.findIdx? (λx=>decide (bW x=bW w))with
 |some i=>(i:Int)
 |none=> -1
def lH(L:List (List Int))(s:List Int)(f at_:Int):Int:=if u7 f then aB s at_ else zo L (img s (L.getD at_.toNat []))
def xV(a b:List Int):Bool:=decide (bW a=bW b)
def Bb(a b:List Int):Bool:=decide (a=b)
def Bc(a b:List Int):Bool:=decide (a=b)||decide (a=b.reverse)
def NI(L:List (List Int))(s:List Int)(f:Int)(eq:List Int->List Int->Bool)(l:List Int)(j:Nat):Bool:=
 decide (0<=lH L s f (j:Int))&&(xV (L.getD (lH L s f (j:Int)).toNat []) (img s l)&&eq (L.getD (lH L s f (j:Int)).toNat []) (img s l))
def mZ(L:List (List Int))(s:List Int)(f:Int)(eq:List Int->List Int->Bool):Bool:=L.zipIdx.all λx=>NI L s f eq x.1 x.2
def pI(aQ:List (List Int))(s:List Int):Bool:=aQ.zipIdx.all λx=>x.1.all λb=>decide (aB s b∈aQ.getD (aB s (x.2:Int)).toNat [])
def qL(vals t:List Int):Bool:=t.zipIdx.all λx=>decide (aB vals (x.2:Int)=aB vals x.1)
def xW(set other:Nat)(t:List Int):Bool:=t.zipIdx.all λx=>decide (set.testBit x.2=set.testBit x.1.toNat)&&decide (other.testBit x.2=other.testBit x.1.toNat)
def zq(L:List (List Int)):Prop:=∀(i j:Nat) (a b:List Int),L[i]? =some a->L[j]? =some b->a.Perm b->i=j
theorem Da{α:Type}{l:List α}{p:α×Nat->Bool}:l.zipIdx.all p=true↔∀(i:Nat) x,l[i]? =some x->p (x,i)=true:=by
 rw[lK];constructor
 ·intro h i x hx;exact h (x,i) (zU.2 hx)
 ·rintro h ⟨x,i⟩ hx;exact h i x (zU.1 hx)
theorem Bd{a b:List Int}:xV a b=true↔a.Perm b:=by unfold xV;rw[lM];exact JC
theorem Fy{a b:List Int}:Bc a b=true↔a=b\/a=b.reverse:=by
 unfold Bc;rw[vG,lM,lM]
theorem UU{L:List (List Int)}{w:List Int}(h:0<=zo L w):∃l,L[(zo L w).toNat]? =some l/\l.Perm w:=by
 unfold zo at h⊢;cases hf:L.findIdx? (λx=>decide (bW x=bW w))with
 |none=>rw[hf]at h;exact absurd h (by decide)
 |some i=>
  obtain⟨h1,h2,_⟩:=List.findIdx?_eq_some_iff_getElem.1 hf;refine⟨L[i],?_,JC.1 (iI h2)⟩;show L[((i:Nat):Int).toNat]? =_;rw[kJ];exact bP h1
theorem aeD{L:List (List Int)}{w l:List Int}{i:Nat}(hD:zq L)(h:L[i]? =some l)(hp:l.Perm w):zo L w=(i:Int):=by
 have h0:0<=zo L w:=by
  unfold zo;cases hf:L.findIdx? (λx=>decide (bW x=bW w))with
  |none=>
   have:=List.findIdx?_eq_none_iff.1 hf l (aZ h);rw[decide_eq_false_iff_not]at this;exact absurd (JC.2 hp) this
  |some j=>show(0:Int)<=(j:Int);omega
 obtain⟨l',h1,h2⟩:=UU h0;have:=hD _ _ _ _ h h1 (hp.trans h2.symm);omega
structure pJ(n:Nat)(L:List (List Int))(f:Int):Prop where
 fG:∀l∈L,iP n l
 len:u7 f=true->L.length=n
 UW:u7 f=false->zq L
def Goes(L:List (List Int))(s:List Int)(f:Int)(eq:List Int->List Int->Bool)(j i:Nat):Prop:=
 ∃l l',L[j]? =some l/\L[i]? =some l'/\l'.Perm (img s l)/\eq l' (img s l)=true/\(u7 f=true->(i:Int)=aB s (j:Int))
theorem Goes.lH{n:Nat}{L:List (List Int)}{s:List Int}{f:Int}{eq:List Int->List Int->Bool}{j i:Nat}(hK:pJ n L f)(h:Goes L s f eq j i):lH L s f (j:Int)=(i:Int):=by
 obtain⟨l,l',h1,h2,h3,h4,h5⟩:=h;unfold Kd.lH;cases hb:u7 f with
 |true=>rw[if_pos rfl];exact(h5 hb).symm
 |false=>
  rw[if_neg (by simp),kJ,j5 h1];exact aeD (hK.UW hb) h2 h3
theorem zu{n:Nat}{L:List (List Int)}{s:List Int}{f:Int}{eq:List Int->List Int->Bool}(hK:pJ n L f)(hs:dF n s):mZ L s f eq=true↔∀j,j<L.length->∃i,Goes L s f eq j i:=by
 unfold mZ;rw[Da];constructor
 ·intro h j hj;have hl:L[j]? =some L[j]:=bP hj;have h1:=h j _ hl;dsimp only at h1;unfold NI at h1;rw[fe,fe,lM,Bd]at h1;obtain⟨a1,a2,a3⟩:=h1;have hlt:(lH L s f (j:Int)).toNat<L.length:=by
   cases hb:u7 f with
   |true=>
    have hn:=hK.len hb;have:Kd.lH L s f (j:Int)=aB s (j:Int):=by unfold Kd.lH;rw[if_pos hb]
    rw[this];have:=hs.at_ (c:=(j:Int)) (by omega) (by omega);omega
   |false=>
    have e:Kd.lH L s f (j:Int)=zo L (img s (L.getD (j:Int).toNat [])):=by unfold Kd.lH;rw[if_neg (by rw[hb];simp)]
    rw[e]at a1⊢;obtain⟨l,h2,_⟩:=UU a1;exact(bq.1 h2).1
  have hl':L[(lH L s f (j:Int)).toNat]? =some L[(lH L s f (j:Int)).toNat]:=bP hlt;rw[j5 hl']at a2 a3;refine⟨_,_,_,hl,hl',a2,a3,λhb=>?_⟩;have:Kd.lH L s f (j:Int)=aB s (j:Int):=by unfold Kd.lH;rw[if_pos hb]
  omega
 ·intro h j l hl;obtain⟨i,hg⟩:=h j (bq.1 hl).1;have hw:=hg.lH hK;obtain⟨l0,l',h1,h2,h3,h4,h5⟩:=hg;rw[hl]at h1;cases h1;unfold NI;dsimp only;rw[hw,kJ,j5 h2,h4,Bd.2 h3];simp
theorem Goes.lt{L:List (List Int)}{s:List Int}{f:Int}{eq:List Int->List Int->Bool}{j i:Nat}(h:Goes L s f eq j i):j<L.length/\i<L.length:=by
 obtain⟨l,l',h1,h2,_⟩:=h;exact⟨(bq.1 h1).1,(bq.1 h2).1⟩
theorem Goes.inj{n:Nat}{L:List (List Int)}{s:List Int}{f:Int}{eq eq':List Int->List Int->Bool}{j j' i:Nat}(hK:pJ n L f)(hs:dF n s)(h:Goes L s f eq j i)(h':Goes L s f eq' j' i):j=j':=by
 have hl:=h.lt;have hl':=h'.lt;obtain⟨a,b,h1,h2,h3,h4,h5⟩:=h;obtain⟨a',b',k1,k2,k3,k4,k5⟩:=h';rw[h2]at k2;cases k2;cases hb:u7 f with
 |true=>
  have hn:=hK.len hb;have:=hs.inj (a:=(j:Int)) (b:=(j':Int)) (by omega) (by omega) (by omega) (by omega) ((h5 hb).symm.trans (k5 hb));omega
 |false=>exact hK.UW hb _ _ _ _ h1 k1 (aeB hs (hK.fG _ (aZ h1)) (hK.fG _ (aZ k1)) (h3.symm.trans k3))
theorem aeE{n:Nat}{L:List (List Int)}{s:List Int}{f:Int}{eq:List Int->List Int->Bool}(hK:pJ n L f)(hs:dF n s)(h:∀j,j<L.length->∃i,Goes L s f eq j i){i:Nat}(hi:i<L.length):∃j,Goes L s f eq j i:=by
 have hc:∀j,∃i,j<L.length->Goes L s f eq j i:=λj=>by
  by_cases hj:j<L.length
  ·obtain⟨i,hg⟩:=h j hj;exact⟨i,λ_=>hg⟩
  ·exact⟨0,λh=>absurd h hj⟩
 have hf:∀j,j<L.length->Goes L s f eq j (Classical.choose (hc j)):=λj=>Classical.choose_spec (hc j);obtain⟨j,hj,e⟩:=UR (m:=L.length) (L:=λi:Nat=>i) (S:=λj=>if j<L.length then Classical.choose (hc j)else j) (R:=λa b:Nat=>a=b) (D:=λj=>j<L.length) (f:=λj=>if j<L.length then Classical.choose (hc j)else j)
  (λi hi=>hi) (λx hx=>by rw[if_pos hx];exact(hf x hx).lt.2) (λ_=>rfl) (λ_ _ e=>e.symm) (λ_ _ _ e e'=>e.trans e')
  (λx y hx hy=>by
    rw[if_pos hx,if_pos hy];constructor
    ·intro e;have h2:=hf y hy;rw[<- e]at h2;exact(hf x hx).inj hK hs h2
    ·intro e;rw[e])
  (λi hi=>⟨by rw[if_pos hi];exact(hf i hi).lt.2,rfl⟩) hi
 rw[if_pos hj]at e;refine⟨j,?_⟩;rw[e];exact hf j hj
def wC(n:Nat)(aQ:List (List Int)):Prop:=aQ.length=n/\∀l∈aQ,iP n l
def Nb(aQ:List (List Int))(a b:Int):Prop:=∃l,0<=a/\aQ[a.toNat]? =some l/\b∈l
theorem Db{n:Nat}{aQ:List (List Int)}{s:List Int}(hN:wC n aQ)(hs:dF n s):pI aQ s=true↔∀a b,Nb aQ a b->Nb aQ (aB s a) (aB s b):=by
 unfold pI;rw[Da];constructor
 ·rintro h a b ⟨l,h0,h1,h2⟩;have hl:=(bq.1 h1).1;have h3:=h _ _ h1;rw[lK]at h3;have h4:=iI (h3 b h2);rw[vM h0]at h4;have hn:=hN.1;have hr:=hs.at_ h0 (by omega:a<(n:Int));have h5:aQ[(aB s a).toNat]? =some (aQ[(aB s a).toNat]'(by omega)):=bP _;rw[j5 h5]at h4;exact⟨_,hr.1,h5,h4⟩
 ·intro h i l hl;rw[lK];intro b hb;have h1:=h (i:Int) b ⟨l,by omega,by rw[kJ];exact hl,hb⟩;obtain⟨l',_,h3,h4⟩:=h1;rw[j5 h3];exact dK h4
theorem Nb.fG{n:Nat}{aQ:List (List Int)}(hN:wC n aQ){a b:Int}(h:Nb aQ a b):(0<=a/\a<(n:Int))/\0<=b/\b<(n:Int):=by
 obtain⟨l,h0,h1,h2⟩:=h;have hl:=(bq.1 h1).1;have:=hN.1;exact⟨⟨h0,by omega⟩,hN.2 l (aZ h1) b h2⟩
def qM(aQ:List (List Int)):List (Int×Int):=aQ.zipIdx.flatMap λx=>x.1.map λb=>((x.2:Int),b)
theorem NJ{aQ:List (List Int)}{a b:Int}:(a,b)∈qM aQ↔Nb aQ a b:=by
 unfold qM;rw[List.mem_flatMap];constructor
 ·rintro⟨⟨l,i⟩,hx,h⟩;obtain⟨c,hc,e⟩:=eT.1 h;cases e;have:=zU.1 hx;exact⟨l,by omega,by rw[kJ];exact this,hc⟩
 ·rintro⟨l,h0,h1,h2⟩;refine⟨(l,a.toNat),zU.2 h1,eT.2 ⟨b,h2,?_⟩⟩;rw[vM h0]
theorem UX{n:Nat}{aQ:List (List Int)}{s:List Int}(hN:wC n aQ)(hs:dF n s)(h:∀a b,Nb aQ a b->Nb aQ (aB s a) (aB s b)){a b:Int}(hab:Nb aQ a b):∃c d,Nb aQ c d/\aB s c=a/\aB s d=b:=by
 have hmem:=NJ.2 hab;obtain⟨j,hj⟩:=jS hmem;have hjl:=(bq.1 hj).1;have hnb:∀i,i<(qM aQ).length->Nb aQ ((qM aQ).getD i (0,0)).1 ((qM aQ).getD i (0,0)).2:=λi hi=>by
  have hx:(qM aQ)[i]? =some (qM aQ)[i]:=bP hi;rw[j5 hx];exact NJ.1 (aZ hx)
 have hc:∀i,∃i',i<(qM aQ).length->(qM aQ)[i']? =some (aB s ((qM aQ).getD i (0,0)).1,aB s ((qM aQ).getD i (0,0)).2):=λi=>by
  by_cases hi:i<(qM aQ).length
  ·obtain⟨i',hi'⟩:=jS (NJ.2 (h _ _ (hnb i hi)));exact⟨i',λ_=>hi'⟩
  ·exact⟨0,λh=>absurd h hi⟩
 obtain⟨i,hi,e⟩:=UR (m:=(qM aQ).length) (L:=λi:Nat=>(qM aQ).getD i (0,0)) (S:=λp:Int×Int=>(aB s p.1,aB s p.2)) (R:=λa b=>a=b) (D:=λp=>(0<=p.1/\p.1<(n:Int))/\0<=p.2/\p.2<(n:Int)) (f:=λi=>Classical.choose (hc i))
  (λi hi=>(hnb i hi).fG hN) (λp hp=>⟨hs.at_ hp.1.1 hp.1.2,hs.at_ hp.2.1 hp.2.2⟩) (λ_=>rfl) (λ_ _ e=>e.symm) (λ_ _ _ e e'=>e.trans e')
  (λx y hx hy=>by
    constructor
    ·intro e;obtain⟨x1,x2⟩:=x;obtain⟨y1,y2⟩:=y;dsimp only at e hx hy;injection e with e1 e2;rw[hs.inj hx.1.1 hx.1.2 hy.1.1 hy.1.2 e1,hs.inj hx.2.1 hx.2.2 hy.2.1 hy.2.2 e2]
    ·intro e;rw[e])
  (λi hi=>by
    have:=Classical.choose_spec (hc i) hi;exact⟨(bq.1 this).1,j5 this⟩) hjl
 rw[j5 hj]at e;injection e with e1 e2;exact⟨_,_,hnb i hi,e1.symm,e2.symm⟩
end Kd
namespace Kd
open Go Go.Ideal Canon Gph
def xX:Nat->List Bool->List Int
 |n,[]=>if 0<n then[(n:Int)]else[]
 |n,b::bs=>if b then xX (n+1) bs else if 0<n then(n:Int)::xX 0 bs else xX 0 bs
theorem aeF(n:Nat)(l:List Bool):xX n (true::l)=xX (n+1) l:=rfl
theorem aeG(n:Nat)(l:List Bool):xX n (false::l)=if 0<n then(n:Int)::xX 0 l else xX 0 l:=rfl
theorem Nb.rch{g:List (List Int)}{bG:List Bool}{s a b:Int}(h:kV g bG s a)(hab:Nb g a b)(hi:eP bG b=true):kV g bG s b:=by
 obtain⟨l,h0,h1,h2⟩:=hab;exact .step h h1 h2 hi
theorem aeH{n:Nat}{g:List (List Int)}{s:List Int}{mk mk':List Bool}(hN:wC n g)(hmk:∀c,0<=c->c<(n:Int)->eP mk' (aB s c)=eP mk c)(hnb:∀a b,Nb g a b->Nb g (aB s a) (aB s b)){a b:Int}(ha:0<=a/\a<(n:Int))(h:kV g mk a b):(0<=b/\b<(n:Int))/\kV g mk' (aB s a) (aB s b):=by
 induction h with
 |refl=>exact⟨ha,.refl⟩
 |step h hl hn hi ih=>
  rename_i i m l;have hab:Nb g i m:=⟨l,ih.1.1,hl,hn⟩
  have hr:=hab.fG hN;exact⟨hr.2,(hnb _ _ hab).rch ih.2 (by rw[hmk _ hr.2.1 hr.2.2];exact hi)⟩
def Joined(g:List (List Int))(mk:List Bool):Prop:=∀a b:Nat,a<g.length->b<g.length->eP mk a=true->eP mk b=true->kV g mk a b
theorem NK{mk:List Bool}:∀(n a:Nat),a<n->eP mk a=true->∃f,f<n/\eP mk (f:Nat)=true/\∀j,j<f->eP mk (j:Nat)=false
 |0,a,h,_=>by omega
 |n+1,a,h,hm=>by
  by_cases hex:∃a',a'<n/\eP mk (a':Nat)=true
  ·obtain⟨a',h1,h2⟩:=hex;obtain⟨f,h3,h4⟩:=NK n a' h1 h2;exact⟨f,by omega,h4⟩
  ·have hno:∀j,j<n->eP mk (j:Nat)=false:=λj hj=>by
    cases he:eP mk (j:Nat)with
    |false=>rfl
    |true=>exact absurd ⟨j,hj,he⟩ hex
   have:a=n:=by
    apply Classical.byContradiction;intro hne;rw[hno a (by omega)]at hm;cases hm
   subst this;exact⟨a,by omega,hm,hno⟩
theorem JD{g:List (List Int)}{mk:List Bool}:∀k,(∀j,j<k->eP mk (j:Nat)=false)->cnt g mk k=0
 |0,_=>rfl
 |k+1,h=>by rw[cnt,JD k (λj hj=>h j (by omega)),if_neg (λq=>by rw[h k (by omega)]at q;cases q.1)]
theorem cnt_mono{g:List (List Int)}{mk:List Bool}:∀k d,cnt g mk k<=cnt g mk (k+d)
 |k,0=>bT _
 |k,d+1=>by have:=cnt_mono (g:=g) (mk:=mk) k d;rw[<- qw,cnt];omega
theorem UY{g:List (List Int)}{mk:List Bool}{f:Nat}(hf:f<g.length)(hin:eP mk f=true)(xI:∀j,j<f->eP mk (j:Nat)=false):1<=cnt g mk g.length:=by
 have h1:cnt g mk (f+1)=1:=by
  rw[cnt,JD f xI,if_pos ⟨hin,λ⟨j,h1,h2,_⟩=>by rw[xI j h1]at h2;cases h2⟩]
 have:=cnt_mono (g:=g) (mk:=mk) (f+1) (g.length - (f+1));rw[show f+1+(g.length - (f+1))=g.length by omega]at this;omega
theorem UZ{g:List (List Int)}{mk:List Bool}(hS:Gph.mU g):(lF g mk g.length).2=0↔∀a,a<g.length->eP mk (a:Nat)=false:=by
 rw[M9 hS.rg _ (bT _)];constructor
 ·intro h a ha;cases he:eP mk (a:Nat)with
  |false=>rfl
  |true=>
   obtain⟨f,h1,h2,h3⟩:=NK g.length a ha he;have:=UY h1 h2 h3;omega
 ·exact JD _
theorem U0{g:List (List Int)}{mk:List Bool}(hS:Gph.mU g):(lF g mk g.length).2<=1↔Joined g mk:=by
 rw[M9 hS.rg _ (bT _)];by_cases hex:∃a,a<g.length/\eP mk (a:Nat)=true
 ·obtain⟨a,ha,hm⟩:=hex;obtain⟨f,h1,h2,h3⟩:=NK g.length a ha hm;have hp:=UY h1 h2 h3;have h4:=adL hS h1 h2 h3;constructor
  ·intro h x y hx hy mx my;have h5:=h4.1 (by omega);exact((h5 x hx mx).symm hS ⟨by omega,by omega⟩ h2).trans (h5 y hy my)
  ·intro h;have:=h4.2 λi hi mi=>h f i h1 hi h2 mi;omega
 ·have h0:∀j,j<g.length->eP mk (j:Nat)=false:=λj hj=>by
   cases he:eP mk (j:Nat)with
   |false=>rfl
   |true=>exact absurd ⟨j,hj,he⟩ hex
  rw[JD _ h0];exact⟨λ_ x y hx _ mx _=>(by rw[h0 x hx]at mx;cases mx),λ_=>bR _⟩
theorem U4{n:Nat}{g:List (List Int)}{s:List Int}{mk mk':List Bool}(hN:wC n g)(hs:dF n s)(hmk:∀c,0<=c->c<(n:Int)->eP mk' (aB s c)=eP mk c)(hnb:∀a b,Nb g a b->Nb g (aB s a) (aB s b))(h:Joined g mk):Joined g mk':=by
 intro a b ha hb ma mb;have hn:=hN.1;obtain⟨c,c0,c1,hc⟩:=hs.onto (y:=(a:Int)) (by omega) (by omega);obtain⟨d,d0,d1,hd⟩:=hs.onto (y:=(b:Int)) (by omega) (by omega);rw[<- hc,hmk c c0 c1]at ma;rw[<- hd,hmk d d0 d1]at mb;obtain⟨cn,rfl⟩:=jA c0;obtain⟨dn,rfl⟩:=jA d0;have:=(aeH hN hmk hnb ⟨c0,c1⟩ (h cn dn (by omega) (by omega) ma mb)).2;rw[hc,hd]at this;exact this
structure vo(n:Nat)(g:List (List Int))(s:List Int)(mk mk':List Bool):Prop where
 oJ:Gph.mU g
 aQ:wC n g
 nd:∀l∈g,l.Nodup
 ps:dF n s
 marks:∀c,0<=c->c<(n:Int)->eP mk' (aB s c)=eP mk c
 keep:∀a b,Nb g a b->Nb g (aB s a) (aB s b)
theorem vo.back{n:Nat}{g:List (List Int)}{s:List Int}{mk mk':List Bool}(h:vo n g s mk mk'):vo n g (kG s) mk' mk:=by
 refine⟨h.oJ,h.aQ,h.nd,h.ps.inv,λc c0 c1=>?_,λa b hab=>?_⟩
 ·have:=h.ps.inv.at_ c0 c1;rw[<- h.marks _ this.1 this.2,h.ps.Ju c0 c1]
 ·obtain⟨c,d,hcd,rfl,rfl⟩:=UX h.aQ h.ps h.keep hab;have hr:=hcd.fG h.aQ;rw[h.ps.uY hr.1.1 hr.1.2,h.ps.uY hr.2.1 hr.2.2];exact hcd
theorem vo.few{n:Nat}{g:List (List Int)}{s:List Int}{mk mk':List Bool}(h:vo n g s mk mk'):(lF g mk g.length).2<=1↔(lF g mk' g.length).2<=1:=by
 rw[U0 h.oJ,U0 h.oJ];exact⟨U4 h.aQ h.ps h.marks h.keep,U4 h.back.aQ h.back.ps h.back.marks h.back.keep⟩
theorem vo.U5{n:Nat}{g:List (List Int)}{s:List Int}{mk mk':List Bool}(h:vo n g s mk mk')(h0:∀a,a<g.length->eP mk' (a:Nat)=false):∀a,a<g.length->eP mk (a:Nat)=false:=by
 intro a ha;have hn:=h.aQ.1;have hr:=h.ps.at_ (c:=(a:Int)) (by omega) (by omega);rw[<- h.marks (a:Int) (by omega) (by omega)];have:=h0 (aB s a).toNat (by omega)
 rwa [vM hr.1]at this
theorem vo.zero{n:Nat}{g:List (List Int)}{s:List Int}{mk mk':List Bool}(h:vo n g s mk mk'):(lF g mk g.length).2=0↔(lF g mk' g.length).2=0:=by
 rw[UZ h.oJ,UZ h.oJ];exact⟨h.back.U5,h.U5⟩
theorem aeI{a b:List Int}(ha:a.Nodup)(hb:b.Nodup)(h:∀x,x∈a↔x∈b):a.Perm b:=by
 refine List.perm_iff_count.2 λx=>?_;have h1:=List.nodup_iff_count.1 ha x;have h2:=List.nodup_iff_count.1 hb x;have h3:=List.count_pos_iff (a:=x) (l:=a);have h4:=List.count_pos_iff (a:=x) (l:=b);have h5:=h x;by_cases hx:x∈a
 ·have:=h3.2 hx;have:=h4.2 (h5.1 hx);omega
 ·have k1:¬0<List.count x a:=λq=>hx (h3.1 q);have k2:¬0<List.count x b:=λq=>hx (h5.2 (h4.1 q));omega
theorem NL{n:Nat}{s:List Int}{p q:Int->Bool}:∀{l:List Int},iP n l->(∀c,0<=c->c<(n:Int)->q (aB s c)=p c)->((img s l).filter q).length=(l.filter p).length
 |[],_,_=>rfl
 |c::l,hl,h=>by
  have hc:=hl c (cB ..);have ih:=NL (l:=l) (λx hx=>hl x (cO _ hx)) h;unfold img at ih⊢;rw[gL,Gd,Gd,h c hc.1 hc.2];split
  ·rw[oP,oP,ih]
  ·exact ih
theorem U6(mk:List Bool)(n:Nat):Jb mk n=((upTo' n).filter (eP mk)).length:=by
 unfold Jb upTo';rw[List.filter_map,bY];rfl
theorem vo.size{n:Nat}{g:List (List Int)}{s:List Int}{mk mk':List Bool}(h:vo n g s mk mk'):Jb mk g.length=Jb mk' g.length:=by
 have hn:=h.aQ.1;rw[hn,U6,U6];have hid:=dF.ident n;have hin:iP n (upTo' n):=λc hc=>hid.fG c hc;have h1:=NL (n:=n) (s:=s) (p:=eP mk) (q:=eP mk') hin h.marks;have h2:(img s (upTo' n)).Perm (upTo' n):=aeI (aeC h.ps hin hid.nd) hid.nd λx=>by
  constructor
  ·intro hx;have:=(iP.img h.ps hin) x hx;exact hid.mem this.1 this.2
  ·intro hx;have:=hid.fG x hx;obtain⟨c,c0,c1,rfl⟩:=h.ps.onto this.1 this.2;exact eT.2 ⟨c,hid.mem c0 c1,rfl⟩
 rw[<- h1,(h2.filter (eP mk')).length_eq]
end Kd
namespace Kd
open Go Go.Ideal Canon
theorem U7{L:List (List Int)}(hn:L.Nodup)(hs:∀l∈L,l.Pairwise (·<·)):zq L:=by
 intro i j a b ha hb hp;have e:a=b:=List.Perm.eq_of_pairwise (λx y _ _ h1 h2=>by omega) (hs a (aZ ha)) (hs b (aZ hb)) hp;subst e;exact C9 hn ha hb
theorem aeJ{α:Type}{K:List α}{F:α->List Int}(hn:K.Nodup)(h:∀a∈K,∀b∈K,(F a).Perm (F b)->a=b):zq (K.map F):=by
 intro i j a b ha hb hp;rw[dm]at ha hb;obtain⟨x,hx,rfl⟩:=kg.1 ha;obtain⟨y,hy,rfl⟩:=kg.1 hb;have:=h x (aZ hx) y (aZ hy) hp;subst this;exact C9 hn hx hy
theorem NM{g:bz}(hg:fE g)(kf:Int×Int->Int×Bool):zq (jd g kf):=by
 obtain⟨h1,h2⟩:=UL kf _ (bB g) rfl;unfold jd;refine aeJ (aed h1) λa ha b hb hp=>?_;rw[uU]at ha hb;rw[(h2 a).2,(h2 b).2]at hp;have hne:=(h2 a).1.1 ha;cases hl:nN kf (bB g) a with
 |nil=>exact absurd hl hne
 |cons c l=>
  have hc:c∈nN kf (bB g) a:=by rw[hl];exact cB ..
  have hc':=hp.mem_iff.1 hc;unfold nN at hc hc';obtain⟨p,hp1,hp2⟩:=eT.1 hc;obtain⟨q,hq1,hq2⟩:=eT.1 hc';obtain⟨p3,p4⟩:=sP.1 hp1;obtain⟨q3,q4⟩:=sP.1 hq1;have e:=Fw hg p3 q3 (.inl (hp2.trans hq2.symm));subst e;rw[fe,lM]at p4 q4;exact p4.2.symm.trans q4.2
theorem Dc{L:List (List Int)}(h:L.length<=1):zq L:=by
 intro i j a b ha hb _;have h1:=(bq.1 ha).1;have h2:=(bq.1 hb).1;omega
theorem aeK{g:bz}(hg:fE g):zq (lY g):=by
 unfold lY;split
 ·exact NM hg _
 split
 ·rw[Jt,Jt];generalize hA:dP g.cells.length (λb=>decide ((gZ g b).1=(gZ g b).2))=A;generalize hB:dP g.cells.length (λb=>decide ((gZ g b).1+(gZ g b).2=g.w - 1))=B;have iA:A.Pairwise (·<·):=by rw[<- hA];exact Jr _ _
  have iB:B.Pairwise (·<·):=by rw[<- hB];exact Jr _ _
  by_cases a0:A=[]
  ·rw[if_pos a0];by_cases b0:B=[]
   ·rw[if_pos b0];exact Dc (by simp[jO])
   ·rw[if_neg b0];exact Dc (by simp[jO,uf])
  ·rw[if_neg a0];by_cases b0:B=[]
   ·rw[if_pos b0];exact Dc (by simp[jO])
   ·rw[if_neg b0];by_cases e:A=B
    ·refine Dc ?_;simp[jO,uf,e]
    ·have:jO [A] [B]=[A,B]:=by simp[jO,uf,e]
     rw[this];refine U7 (by simp[e]) λl hl=>?_;simp only[dx,Kj,or_false]at hl;rcases hl with rfl|rfl
     ·exact iA
     ·exact iB
 ·exact Dc (by simp)
theorem aeL{g:bz}(hg:fE g):zq (ik (bJ g)):=by
 refine U7 ?_ λl hl=>?_
 ·unfold ik;unfold List.Nodup;rw[List.pairwise_flatMap];refine⟨λx hx=>?_,?_⟩
  ·have hx:=aZ (zU.1 (show(x.1,x.2)∈_ from hx));unfold jh;rw[wS];obtain⟨p,_,hp⟩:=eT.1 (show x.1∈bJ g from hx);have hnd:x.1.Nodup:=by rw[<- hp];exact aec hg p
   exact(List.Pairwise.filter _ hnd).imp λ{a b} hne e=>hne (by injection e with _ e;injection e)
  ·have hz:∀(l:List (List Int)) (n:Nat),(l.zipIdx n).Pairwise λa b=>a.2<b.2:=by
    intro l;induction l with
    |nil=>intro n;exact List.Pairwise.nil
    |cons a l ih=>
     intro n;rw[List.zipIdx_cons,qx];refine⟨λx hx=>?_,ih (n+1)⟩;have:=List.le_snd_of_mem_zipIdx hx;show n<x.2;omega
   refine(hz (bJ g) 0).imp λ{a b} h x hx y hy e=>?_;unfold jh at hx hy;obtain⟨u,_,rfl⟩:=eT.1 hx;obtain⟨v,_,rfl⟩:=eT.1 hy;injection e with e _;omega
 ·obtain⟨i,x,j,_,_,h,rfl⟩:=aee hl;simp[h]
theorem aeM{g:bz}(hg:fE g)(k:Int):pJ g.cells.length (dM g k) k:=by
 refine⟨λl hl=>(ad3 hg k l hl).2,λhb=>?_,λhb=>?_⟩
 ·unfold u7 at hb;simp only[vG,lM]at hb;rcases hb with(rfl|rfl)|rfl
  ·show(kW g.cells.length).length=_;exact Jj _
  ·show(bJ g).length=_;exact wm g
  ·show(l5 (bJ g)).length=_;rw[Nk];exact wm g
 ·unfold u7 at hb;simp only[Bool.or_eq_false_iff,decide_eq_false_iff_not]at hb;unfold dM;rw[if_neg hb.1.1];split
  ·exact NM hg _
  split
  ·exact NM hg _
  split
  ·exact aeK hg
  rw[if_neg hb.1.2,if_neg hb.2];split
  ·exact aeL hg
  ·exact Dc (by simp)
theorem aeN{g:bz}(hg:fE g){rs:List (List Int)}(hr:CZ g rs)(hn:(rs.map bW).Nodup)(k:Int)(hk:u7 k=false):pJ g.cells.length (dW g rs) k:=by
 refine⟨λl hl=>(ad4 hg hr l hl).2,(λhb=>by rw[hk]at hb;cases hb),λ_=>?_⟩;intro i j a b ha hb hp;unfold dW at ha hb;rw[dm]at ha hb;obtain⟨x,hx,rfl⟩:=kg.1 ha;obtain⟨y,hy,rfl⟩:=kg.1 hb;have back:∀z∈rs,(eZ g z).map (λn=>g.cells.getD n.toNat 0)=z:=λz hz=>by
  unfold eZ;rw[wR];conv=>rhs;rw[<- List.map_id z]
  refine sN λc hc=>?_;have hm:=(hr.all z hz).mem c hc;have l6:g.cells.Pairwise (·<·):=by rw[hg.cells];exact Je _ _
  obtain⟨m,hm2⟩:=jS hm;show g.cells.getD ((ww c g.cells:Nat):Int).toNat 0=c;rw[kJ,Jk l6 hm2];exact j5 hm2
 have h1:=hp.map (λn=>g.cells.getD n.toNat 0);rw[back x (aZ hx),back y (aZ hy)]at h1;have h2:=JC.2 h1;have h3:(rs.map bW)[i]? =some (bW x):=by rw[dm,hx];rfl
 have h4:(rs.map bW)[j]? =some (bW x):=by rw[dm,hy,h2];rfl
 exact C9 hn h3 h4
theorem aeO{d:bF}(hg:fE (aT d))(hr:∀r∈d.regions,CZ (aT d) r.lists/\(r.lists.map bW).Nodup){f:Nat}{L:List (List Int)}(h:(oI d)[f]? =some L):pJ (aT d).cells.length L (f:Int):=by
 unfold oI at h;by_cases hf:f<8
 ·rw[qp (by rw[bY,uu];exact hf),dm,pU hf]at h;cases h;exact aeM hg _
 ·rw[pR (by rw[bY,uu];omega),dm]at h;obtain⟨r,hr2,rfl⟩:=kg.1 h;have:=hr r (aZ hr2);refine aeN hg this.1 this.2 _ ?_;unfold u7;simp only[Bool.or_eq_false_iff,decide_eq_false_iff_not];omega
end Kd
namespace Kd
open Go Go.Ideal Canon
structure Grp(n:Nat)(G:List (List Int)):Prop where
 perm:∀a∈G,dF n a
 one:upTo' n∈G
 comp:∀a∈G,∀b∈G,iK a b∈G
 inv:∀a∈G,kG a∈G
section
variable {n:Nat} {a b c:List Int}
theorem dF.inr(h:dF n a):iP n a:=h.fG
theorem aaC(hb:dF n b)(hc:dF n c):iK (iK a b) c=iK a (iK b c):=by
 show img (iK a b) c=img a (img b c);exact Jz (by rw[hb.len];exact hc.inr)
theorem akU(h:dF n a):iK a (upTo' n)=a:=by
 apply iY;intro i;show((upTo' n).map (aB a))[i]? =_;rw[dm];by_cases hi:i<n
 ·have h1:=rW (p:=upTo' n) (c:=(i:Int)) (by omega) (by rw[lZ];omega);have h2:=rW (p:=a) (c:=(i:Int)) (by omega) (by rw[h.len];omega);rw[kJ]at h1 h2;rw[h1,h2,zn (by omega) (by omega)];rfl
 ·rw[fO (by rw[lZ];omega),fO (by rw[h.len];omega)];rfl
theorem akT(h:dF n a):iK (upTo' n) a=a:=by
 show a.map (aB (upTo' n))=a;conv=>rhs;rw[<- List.map_id a]
 exact sN λx hx=>zn (h.fG x hx).1 (h.fG x hx).2
theorem af6(h:dF n a):iK a (kG a)=upTo' n:=by
 apply iY;intro i;show((kG a).map (aB a))[i]? =_;rw[dm];have hl:(kG a).length=n:=h.inv.len;by_cases hi:i<n
 ·have h1:=rW (p:=upTo' n) (c:=(i:Int)) (by omega) (by rw[lZ];omega);have h2:=rW (p:=kG a) (c:=(i:Int)) (by omega) (by omega);rw[kJ]at h1 h2;rw[h1,h2,zn (by omega) (by omega)];show some (aB a (aB (kG a) (i:Int)))=_;rw[h.Ju (by omega) (by omega)]
 ·rw[fO (by rw[hl];omega),fO (by rw[lZ];omega)];rfl
theorem af7(h:dF n a):iK (kG a) a=upTo' n:=by
 apply iY;intro i;show(a.map (aB (kG a)))[i]? =_;rw[dm];by_cases hi:i<n
 ·have h1:=rW (p:=upTo' n) (c:=(i:Int)) (by omega) (by rw[lZ];omega);have h2:=rW (p:=a) (c:=(i:Int)) (by omega) (by rw[h.len];omega);rw[kJ]at h1 h2;rw[h1,h2,zn (by omega) (by omega)];show some (aB (kG a) (aB a (i:Int)))=_;rw[h.uY (by omega) (by omega)]
 ·rw[fO (by rw[h.len];omega),fO (by rw[lZ];omega)];rfl
theorem abt(ha:dF n a)(hb:dF n b)(hc:dF n c)(e:iK a b=iK a c):b=c:=by
 have h1:iK (kG a) (iK a b)=iK (kG a) (iK a c):=by rw[e]
 rwa [<- aaC ha hb,<- aaC ha hc,af7 ha,akT hb,akT hc]at h1
end
structure aay(n:Nat)(aas l:List (List Int))(k:Nat):Prop where
 gp:∀g∈aas,dF n g
 nd:l.Nodup
 first:l[0]? =some (upTo' n)
 der:∀(i:Nat) p,l[i]? =some p->i=0\/∃(j:Nat) (g q:List Int),j<i/\g∈aas/\l[j]? =some q/\p=iK g q
 done:∀(i:Nat) q,i<k->l[i]? =some q->∀g∈aas,iK g q∈l
theorem aay.perm{n:Nat}{aas l:List (List Int)}{k:Nat}(h:aay n aas l k):∀(i:Nat) p,l[i]? =some p->dF n p:=by
 intro i;induction i using Nat.strongRecOn with
 |_ i ih=>
  intro p hp;rcases h.der i p hp with e|⟨j,g,q,hj,hg,hq,rfl⟩
  ·subst e;rw[h.first]at hp;cases hp;exact dF.ident n
  ·exact(h.gp g hg).comp (ih j hj q hq)
theorem aay.all{n:Nat}{aas l:List (List Int)}{k:Nat}(h:aay n aas l k){P:List Int->Prop}(h1:P (upTo' n))(h2:∀g∈aas,∀q,dF n q->P q->P (iK g q)):∀p∈l,P p:=by
 have key:∀(i:Nat) p,l[i]? =some p->P p:=by
  intro i;induction i using Nat.strongRecOn with
  |_ i ih=>
   intro p hp;rcases h.der i p hp with e|⟨j,g,q,hj,hg,hq,rfl⟩
   ·subst e;rw[h.first]at hp;cases hp;exact h1
   ·exact h2 g hg q (h.perm j q hq) (ih j hj q hq)
 intro p hp;obtain⟨i,hi⟩:=jS hp;exact key i p hi
theorem aay.mul{n:Nat}{aas l:List (List Int)}(h:aay n aas l l.length){b:List Int}(hb:b∈l):∀(i:Nat) a,l[i]? =some a->iK a b∈l:=by
 obtain⟨jb,hjb⟩:=jS hb;have hbp:=h.perm jb b hjb;intro i;induction i using Nat.strongRecOn with
 |_ i ih=>
  intro a ha;rcases h.der i a ha with e|⟨j,g,q,hj,hg,hq,rfl⟩
  ·subst e;rw[h.first]at ha;cases ha;rw[akT hbp];exact hb
  ·rw[aaC (h.perm j q hq) hbp];obtain⟨m,hm⟩:=jS (ih j hj q hq);exact h.done m _ (bq.1 hm).1 hm g hg
theorem af8{n:Nat}{l:List (List Int)}(hp:∀a∈l,dF n a)(h1:upTo' n∈l)(hm:∀a∈l,∀b∈l,iK a b∈l){a:List Int}(ha:a∈l):kG a∈l:=by
 have hap:=hp a ha
 -- left multiplication by a is one to one, so it reaches the identity
 have hmem:∀i,i<l.length->l.getD i []∈l:=λi hi=>by
  rw[j5 (bP hi)];exact vF _
 have hc:∀i,∃i',i<l.length->l[i']? =some (iK a (l.getD i [])):=λi=>by
  by_cases hi:i<l.length
  ·obtain⟨i',h⟩:=jS (hm a ha _ (hmem i hi));exact⟨i',λ_=>h⟩
  ·exact⟨0,λh=>absurd h hi⟩
 obtain⟨j,hj⟩:=jS h1;obtain⟨i,hi,e⟩:=UR (m:=l.length) (L:=λi:Nat=>l.getD i []) (S:=λb=>iK a b) (R:=λx y=>x=y) (D:=λb=>dF n b) (f:=λi=>Classical.choose (hc i))
  (λi hi=>hp _ (hmem i hi)) (λb hb=>hap.comp hb) (λ_=>rfl) (λ_ _ e=>e.symm) (λ_ _ _ e e'=>e.trans e')
  (λx y hx hy=>⟨λe=>abt hap hx hy e,λe=>by rw[e]⟩)
  (λi hi=>by
    have:=Classical.choose_spec (hc i) hi;exact⟨(bq.1 this).1,j5 this⟩) (bq.1 hj).1
 rw[j5 hj]at e;have hb:=hmem i hi;have:kG a=l.getD i []:=by
  refine abt hap hap.inv (hp _ hb) ?_;rw[af6 hap,e]
 rw[this];exact hb
theorem aay.grp{n:Nat}{aas l:List (List Int)}(h:aay n aas l l.length):Grp n l:=by
 have hp:∀a∈l,dF n a:=λa ha=>by
  obtain⟨i,hi⟩:=jS ha;exact h.perm i a hi
 have h1:upTo' n∈l:=aZ h.first
 have hm:∀a∈l,∀b∈l,iK a b∈l:=λa ha b hb=>by
  obtain⟨i,hi⟩:=jS ha;exact h.mul hb i a hi
 exact⟨hp,h1,hm,λa ha=>af8 hp h1 hm ha⟩
theorem Grp.aej{n:Nat}{G H:List (List Int)}(h:Grp n G)(e:∀a,a∈H↔a∈G):Grp n H:=
 ⟨λa ha=>h.perm a ((e a).1 ha),(e _).2 h.one,λa ha b hb=>(e _).2 (h.comp a ((e a).1 ha) b ((e b).1 hb)),λa ha=>(e _).2 (h.inv a ((e a).1 ha))⟩
end Kd
namespace Kd
open Go Go.Ideal Canon
structure vw(m:Nat)(cl:List Int):Prop where
 len:cl.length=m
 NN:∀i:Nat,i<m->0<=aB cl (i:Int)/\aB cl (i:Int)<=(i:Int)/\aB cl (aB cl (i:Int))=aB cl (i:Int)
structure lI(m:Nat)(cl t:List Int):Prop where
 p:dF m t
 c:∀v:Int,0<=v->v<(m:Int)->aB cl (aB t v)=aB cl v
def ug(cl sy:List Int)(s:Int):Option Nat:=(List.range cl.length).find? λt:Nat=>decide (aB cl (t:Int)=aB cl s)&&!decide ((t:Int)∈sy)
def pK(cl sy:List Int)(s:Int):List Int:=if 0<=aB sy s then sy else match ug cl sy s with
 |none=>sy
 |some t=>sy.set s.toNat (t:Int)
def fH(cl seq:List Int):List Int:=seq.foldl (pK cl) (List.replicate cl.length (-1))
structure GInv(m:Nat)(cl sy:List Int):Prop where
 len:sy.length=m
 val:∀s:Int,0<=s->s<(m:Int)->aB sy s= -1\/(0<=aB sy s/\aB sy s<(m:Int)/\aB cl (aB sy s)=aB cl s)
 inj:∀s u:Int,0<=s->s<(m:Int)->0<=u->u<(m:Int)->aB sy s=aB sy u->0<=aB sy s->s=u
theorem FB{l:List Int}{s x u:Int}(s0:0<=s)(s1:s<l.length)(u0:0<=u):aB (l.set s.toNat x) u=if u=s then x else aB l u:=by
 unfold aB;by_cases e:u=s
 ·subst e;rw[if_pos rfl];have hl:u.toNat<l.length:=by omega
  simp[List.getD,oQ,hl]
 ·rw[if_neg e];simp only[List.getD,oQ];rw[if_neg (by omega)]
theorem GInv.mem{m:Nat}{cl sy:List Int}(h:GInv m cl sy){t:Int}(t0:0<=t)(ht:t∈sy):∃u:Int,0<=u/\u<(m:Int)/\aB sy u=t/\aB cl t=aB cl u/\t<(m:Int):=by
 obtain⟨i,hi⟩:=jS ht;have hl:=(bq.1 hi).1;have hlen:=h.len;have e:=ji hi;refine⟨(i:Int),by omega,by omega,e,?_⟩;rcases h.val (i:Int) (by omega) (by omega)with h1|h1
 ·omega
 ·rw[e]at h1;exact⟨h1.2.2,h1.2.1⟩
theorem GInv.room{m:Nat}{cl sy:List Int}(hc:cl.length=m)(h:GInv m cl sy){s:Int}(s0:0<=s)(s1:s<(m:Int))(hs:aB sy s= -1):∃t,ug cl sy s=some t:=by
 cases hf:ug cl sy s with
 |some t=>exact⟨t,rfl⟩
 |none=>
  exfalso
  unfold ug at hf;rw[List.find?_eq_none]at hf;have hall:∀t:Int,0<=t->t<(m:Int)->aB cl t=aB cl s->t∈sy:=λt t0 t1 hcl=>by
   have:=hf t.toNat (ol.2 (by omega))
   rw[vM t0]at this;simp[hcl]at this;exact this
  have hC:∀t,t∈(upTo' m).filter (λt=>decide (aB cl t=aB cl s))↔(0<=t/\t<(m:Int))/\aB cl t=aB cl s:=λt=>by
   rw[sP,lM];refine and_congr_left λ_=>⟨λq=>(dF.ident m).fG t q,λq=>(dF.ident m).mem q.1 q.2⟩
  have hnd:((upTo' m).filter (λt=>decide (aB cl t=aB cl s))).Nodup:=(UC m).filter _;generalize(upTo' m).filter (λt=>decide (aB cl t=aB cl s))=C at hC hnd;have hidx:∀t∈C,sy.idxOf t<sy.length/\aB sy (sy.idxOf t:Nat)=t:=λt ht=>by
   have h1:=(hC t).1 ht;have hl:=List.idxOf_lt_length_iff.2 (hall t h1.1.1 h1.1.2 h1.2);refine⟨hl,ji ?_⟩;rw[bP hl,List.getElem_idxOf]
  have U8:s∈C:=(hC s).2 ⟨⟨s0,s1⟩,rfl⟩;have h1:=Nz (l:=C.map λt=>((sy.idxOf t:Nat):Int)) (m:=C.erase s) (NF hnd λa ha b hb e=>by
   have e1:=(hidx a ha).2;have e2:=(hidx b hb).2;rw[<- e1,<- e2,e]) (λx hx=>by
   obtain⟨t,ht,rfl⟩:=eT.1 hx;obtain⟨k1,k2⟩:=hidx t ht;have k3:=(hC t).1 ht;have hlen:=h.len;have hne:((sy.idxOf t:Nat):Int)≠s:=λe=>by rw[e,hs]at k2;omega
   refine(PW hne).2 ((hC _).2 ⟨⟨by omega,by omega⟩,?_⟩);rcases h.val ((sy.idxOf t:Nat):Int) (by omega) (by omega)with q|q
   ·omega
   ·rw[<- q.2.2,k2];exact k3.2)
  have h2:=PU U8;have h3:0<C.length:=PV U8;rw[bY]at h1;omega
theorem U9{cl sy:List Int}{s:Int}{t:Nat}(h:ug cl sy s=some t):t<cl.length/\aB cl (t:Int)=aB cl s/\(t:Int)∉sy/\∀u:Nat,u<t->aB cl (u:Int)=aB cl s->(u:Int)∈sy:=by
 unfold ug at h;have h1:=List.find?_some h;have h2:=List.mem_of_find?_eq_some h;simp at h1;refine⟨ol.1 h2,h1.1,h1.2,λu hu hcl=>?_⟩;obtain⟨h3,a,b,e,h4⟩:=List.find?_eq_some_iff_append.1 h;have hat:a=List.range t:=by
  have hlt:=ol.1 h2;have e1:List.range cl.length=List.range t++t::(List.range' (t+1) (cl.length - t - 1)):=by
   rw[List.range_eq_range',List.range_eq_range',show cl.length=t+(1+(cl.length - t - 1))by omega,<- List.range'_append_1,<- List.range'_append_1];simp
  have l1:a.length=t:=by
   have hg:(List.range cl.length)[a.length]? =some t:=by rw[e,pR (bT _),vK];rfl
   have:=(bq.1 hg).2;rw[List.getElem_range]at this;exact this
  have:a=(List.range cl.length).take t:=by rw[e,<- l1,List.take_left'];rfl
  rw[this,List.take_range,DF (by omega)]
 have:=h4 u (by rw[hat];exact ol.2 hu);simp[hcl]at this;exact this
theorem GInv.step{m:Nat}{cl sy:List Int}(hc:cl.length=m)(h:GInv m cl sy){s:Int}(s0:0<=s)(s1:s<(m:Int)):GInv m cl (pK cl sy s)/\0<=aB (pK cl sy s) s/\∀u:Int,0<=u->u≠s->aB (pK cl sy s) u=aB sy u:=by
 unfold pK;by_cases h0:0<=aB sy s
 ·rw[if_pos h0];exact⟨h,h0,λ_ _ _=>rfl⟩
 rw[if_neg h0];have hs:aB sy s= -1:=by
  rcases h.val s s0 s1 with q|q
  ·exact q
  ·omega
 obtain⟨t,ht⟩:=h.room hc s0 s1 hs;rw[ht];dsimp only;obtain⟨k1,k2,k3,_⟩:=U9 ht;have hlen:=h.len;have hg:∀u:Int,0<=u->aB (sy.set s.toNat (t:Int)) u=if u=s then(t:Int)else aB sy u:=λu u0=>FB s0 (by omega) u0
 have hno:∀u:Int,0<=u->u<(m:Int)->aB sy u≠(t:Int):=λu u0 u1 e=>k3 (e▸NE u0 (by omega));refine⟨⟨by rw[pV];exact hlen,λu u0 u1=>?_,λu w u0 u1 w0 w1 e he=>?_⟩,?_,λu u0 hne=>?_⟩
 ·rw[hg u u0];split
  ·rename_i e;refine .inr ⟨by omega,by omega,by rw[e];exact k2⟩
  ·exact h.val u u0 u1
 ·rw[hg u u0,hg w w0]at e;rw[hg u u0]at he;split at e
  ·rename_i e1;split at e
   ·rename_i e2;omega
   ·exact absurd e.symm (hno w w0 w1)
  ·rename_i e1;rw[if_neg e1]at he;split at e
   ·exact absurd e (hno u u0 u1)
   ·exact h.inj u w u0 u1 w0 w1 e he
 ·rw[hg s s0,if_pos rfl];omega
 ·rw[hg u u0,if_neg hne]
theorem NP(cl:List Int):fH cl []=List.replicate cl.length (-1):=rfl
theorem wD(cl seq:List Int)(v:Int):fH cl (seq++[v])=pK cl (fH cl seq) v:=by unfold fH;rw[DI];rfl
theorem NQ(n:Nat)(c:Int)(c0:0<=c)(c1:c<(n:Int)):aB (List.replicate n (-1)) c= -1:=by
 unfold aB;simp only[List.getD,PO];rw[if_pos (by omega)];rfl
theorem vz{m:Nat}{cl:List Int}(hc:cl.length=m):∀(n:Nat) (seq:List Int),seq.length=n->iP m seq->GInv m cl (fH cl seq)/\∀s:Int,0<=s->s<(m:Int)->(0<=aB (fH cl seq) s↔s∈seq):=by
 intro n;induction n with
 |zero=>
  intro seq hl _;rw[jy.1 hl,NP,hc];refine⟨⟨Gn,λs s0 s1=>.inl (NQ m s s0 s1),λs u s0 s1 _ _ _ he=>?_⟩,λs s0 s1=>?_⟩
  ·rw[NQ m s s0 s1]at he;omega
  ·rw[NQ m s s0 s1];simp
 |succ n ih=>
  intro seq hl hr;obtain⟨qs,v,rfl⟩:∃qs v,seq=qs++[v]:=⟨seq.dropLast,seq.getLast (by intro e;rw[e]at hl;cases hl),(yF _).symm⟩
  obtain⟨h1,h2⟩:=ih qs (by simpa using hl) (λx hx=>hr x (je _ hx));have hv:=hr v (by simp);rw[wD];obtain⟨k1,k2,k3⟩:=h1.step hc hv.1 hv.2;refine⟨k1,λs s0 s1=>?_⟩;by_cases e:s=v
  ·subst e;exact⟨λ_=>by simp,λ_=>k2⟩
  ·rw[k3 s s0 e,h2 s s0 s1,dX,bM];exact⟨.inl,λq=>q.resolve_right e⟩
theorem NR{m:Nat}{cl:List Int}(hc:cl.length=m)(pr:List Int)(hp:iP m pr){s:Int}(hs:s∈pr):∀(n:Nat) (rest:List Int),rest.length=n->iP m rest->aB (fH cl (pr++rest)) s=aB (fH cl pr) s:=by
 intro n;induction n with
 |zero=>intro rest hl _;rw[jy.1 hl,gU]
 |succ n ih=>
  intro rest hl hr;obtain⟨qs,v,rfl⟩:∃qs v,rest=qs++[v]:=⟨rest.dropLast,rest.getLast (by intro e;rw[e]at hl;cases hl),(yF _).symm⟩
  have hq:iP m qs:=λx hx=>hr x (je _ hx);have h0:=ih qs (by simpa using hl) hq;have hs':=hp s hs;have hpq:iP m (pr++qs):=λx hx=>(dX.1 hx).elim (hp x) (hq x);obtain⟨h1,h2⟩:=vz hc _ (pr++qs) rfl hpq;have hv:=hr v (by simp);rw[<- List.append_assoc,wD];by_cases e:s=v
  ·subst e;have:=(h2 s hs'.1 hs'.2).2 (je _ hs);unfold pK;rw[if_pos this];exact h0
  ·rw[(h1.step hc hv.1 hv.2).2.2 s hs'.1 e];exact h0
theorem aeP{m:Nat}{cl:List Int}(hc:cl.length=m){seq:List Int}(hr:iP m seq):lI m cl (fH cl (seq++upTo' m)):=by
 have hid:=dF.ident m;have hin:iP m (seq++upTo' m):=λx hx=>(dX.1 hx).elim (hr x) (hid.fG x);obtain⟨h1,h2⟩:=vz hc _ _ rfl hin;have hpos:∀s:Int,0<=s->s<(m:Int)->0<=aB (fH cl (seq++upTo' m)) s:=λs s0 s1=>(h2 s s0 s1).2 (nA _ (hid.mem s0 s1));have hval:∀s:Int,0<=s->s<(m:Int)->(0<=aB (fH cl (seq++upTo' m)) s/\aB (fH cl (seq++upTo' m)) s<(m:Int))/\aB cl (aB (fH cl (seq++upTo' m)) s)=aB cl s:=λs s0 s1=>by
  have:=hpos s s0 s1;rcases h1.val s s0 s1 with q|q
  ·omega
  ·exact⟨⟨q.1,q.2.1⟩,q.2.2⟩
 refine⟨⟨h1.len,λx hx=>?_,?_⟩,λv v0 v1=>(hval v v0 v1).2⟩
 ·obtain⟨i,hi⟩:=jS hx;have hl:=(bq.1 hi).1;have:=(hval (i:Int) (by omega) (by have:=h1.len;omega)).1;rw[ji hi]at this;exact this
 ·unfold List.Nodup;rw[wT];intro i j hi hj hij e;have hlen:=h1.len;have e1:=ji (bP hi);have e2:=ji (bP hj);have:=h1.inj (i:Int) (j:Int) (by omega) (by omega) (by omega) (by omega) (by rw[e1,e2,e]) (hpos _ (by omega) (by omega));omega
theorem aeQ{m:Nat}{cl t:List Int}(hc:cl.length=m)(ht:lI m cl t):∀(n:Nat) (seq:List Int),seq.length=n->iP m seq->
 (∀v∈seq,aB (fH cl seq) v=aB t v)\/∃pr v rest,seq=pr++v::rest/\(∀u∈pr,aB (fH cl seq) u=aB t u)/\aB (fH cl seq) v<aB t v:=by
 intro n;induction n with
 |zero=>intro seq hl _;rw[jy.1 hl];exact .inl (by simp)
 |succ n ih=>
  intro seq hl hr;obtain⟨qs,v,rfl⟩:∃qs v,seq=qs++[v]:=⟨seq.dropLast,seq.getLast (by intro e;rw[e]at hl;cases hl),(yF _).symm⟩
  have hq:iP m qs:=λx hx=>hr x (je _ hx);have hv:=hr v (by simp);have hkeep:∀u∈qs,aB (fH cl (qs++[v])) u=aB (fH cl qs) u:=λu hu=>NR hc qs hq hu 1 [v] rfl (λx hx=>by rw[bM.1 hx];exact hv);rcases ih qs (by simpa using hl) hq with h|⟨pr,u,rest,e,h1,h2⟩
  ·by_cases hm:v∈qs
   ·refine .inl λx hx=>?_;have hx:x∈qs:=(dX.1 hx).elim id (λq=>by rw[bM.1 q];exact hm);rw[hkeep x hx];exact h x hx
   ·obtain⟨g1,g2⟩:=vz hc _ qs rfl hq;have hs:aB (fH cl qs) v= -1:=by
     rcases g1.val v hv.1 hv.2 with q|q
     ·exact q
     ·exact absurd ((g2 v hv.1 hv.2).1 q.1) hm
    obtain⟨w,hw⟩:=g1.room hc hv.1 hv.2 hs;obtain⟨k1,k2,k3,k4⟩:=U9 hw;have hval:aB (fH cl (qs++[v])) v=(w:Int):=by
     rw[wD];unfold pK;rw[if_neg (by omega),hw];dsimp only;rw[FB hv.1 (by have:=g1.len;omega) hv.1,if_pos rfl]
    have JE:=ht.p.at_ hv.1 hv.2;have hle:(w:Int)<=aB t v:=by
     apply Classical.byContradiction;intro hlt;have:=k4 (aB t v).toNat (by omega) (by rw[vM JE.1];exact ht.c v hv.1 hv.2)
     rw[vM JE.1]at this;obtain⟨u,u0,u1,e1,_⟩:=g1.mem JE.1 this;have hu:u∈qs:=(g2 u u0 u1).1 (by rw[e1];exact JE.1);rw[h u hu]at e1;have:=ht.p.inj u0 u1 hv.1 hv.2 e1;subst this;exact hm hu
    by_cases e:(w:Int)=aB t v
    ·refine .inl λx hx=>?_;rcases dX.1 hx with hx|hx
     ·rw[hkeep x hx];exact h x hx
     ·rw[bM.1 hx,hval,e]
    ·exact .inr ⟨qs,v,[],rfl,λx hx=>by rw[hkeep x hx];exact h x hx,by rw[hval];omega⟩
  ·refine .inr ⟨pr,u,rest++[v],by rw[e];simp,λx hx=>?_,?_⟩
   ·rw[hkeep x (by rw[e];exact je _ hx)];exact h1 x hx
   ·rw[hkeep u (by rw[e];simp)];exact h2
end Kd
namespace Kd
open Go Go.Ideal Canon
def iQ(sy:Int->Bool)(t:List Int)(g:Clue):Clue:=⟨g.aL,g.at_,if sy g.aL then img t g.values else g.values⟩
def bK(sy:Int->Bool)(t:List Int)(p:List Clue):List Clue:=p.map (iQ sy t)
def oK(sy:Int->Bool)(m:Nat)(p:List Clue):Prop:=∀g∈p,sy g.aL=true->∃v,g.values=[v]/\0<=v/\v<(m:Int)
def ed(sy:Int->Bool)(p:List Clue):List Int:=p.flatMap λg=>if sy g.aL then g.values else[]
def dz(sy:Int->Bool)(cl:List Int)(p:List Clue):List Int:=fH cl (ed sy p++upTo' cl.length)
theorem Va(sy:Int->Bool)(g:Clue)(p:List Clue):ed sy (g::p)=(if sy g.aL then g.values else[])++ed sy p:=by unfold ed;rw[Gj]
theorem wE{sy:Int->Bool}{m:Nat}{p:List Clue}(h:oK sy m p):iP m (ed sy p):=by
 intro v hv;unfold ed at hv;obtain⟨g,hg,hv⟩:=List.mem_flatMap.1 hv;split at hv
 ·rename_i hs;obtain⟨w,e,h0,h1⟩:=h g hg hs;rw[e]at hv;rw[bM.1 hv];exact⟨h0,h1⟩
 ·cases hv
theorem oK.tail{sy:Int->Bool}{m:Nat}{g:Clue}{p:List Clue}(h:oK sy m (g::p)):oK sy m p:=λx hx=>h x (cO _ hx)
theorem NS{sy:Int->Bool}{s t:List Int}:∀{p:List Clue},(∀v∈ed sy p,aB s v=aB t v)->bK sy s p=bK sy t p
 |[],_=>rfl
 |g::p,h=>by
  rw[Va]at h;have ih:=NS (p:=p) (λv hv=>h v (nA _ hv));unfold bK at ih⊢;rw[gL,gL,ih];congr 1;unfold iQ;split
  ·rename_i hs;rw[if_pos hs]at h;unfold img;rw[sN λv hv=>h v (je _ hv)]
  ·rfl
theorem Vb(g:Clue):nW g g=0:=(R7.zero g g).2 rfl
theorem NT{sy:Int->Bool}{m:Nat}{s t:List Int}:∀{p:List Clue} {pr rest:List Int} {v:Int},oK sy m p->ed sy p=pr++v::rest->(∀u∈pr,aB s u=aB t u)->aB s v<aB t v->qG (bK sy s p) (bK sy t p)<0
 |[],pr,rest,v,_,e,_,_=>by
  have:pr++v::rest=[]:=e.symm;cases pr<;>cases this
 |g::p,pr,rest,v,h,e,hp,hv=>by
  rw[Va]at e;unfold bK;rw[gL,gL];show fK nW _ _<0;by_cases hs:sy g.aL=true
  ·obtain⟨w,hw,w0,w1⟩:=h g (cB ..) hs;rw[if_pos hs,hw,List.singleton_append]at e;have e1:iQ sy s g=⟨g.aL,g.at_,[aB s w]⟩:=by unfold iQ;rw[if_pos hs,hw];rfl
   have e2:iQ sy t g=⟨g.aL,g.at_,[aB t w]⟩:=by unfold iQ;rw[if_pos hs,hw];rfl
   cases pr with
   |nil=>
    rw[dY]at e;injection e with e3 e4;subst e3;have hlt:nW (iQ sy s g) (iQ sy t g)<0:=by
     rw[e1,e2];unfold nW;have hz:∀a,eU a a=0:=λa=>(xJ.zero a a).2 rfl;rw[hz,hz,if_neg (by simp),if_neg (by simp)];have hlt2:eU (aB s w) (aB t w)= -1:=by unfold eU;rw[if_pos hv]
     simp only[fK];rw[hlt2];decide
    simp only[fK];rw[if_pos (by omega)];exact hlt
   |cons u pr=>
    rw[fV]at e;injection e with e3 e4;subst e3;have heq:iQ sy s g=iQ sy t g:=by rw[e1,e2,hp w (cB ..)]
    simp only[fK];rw[heq,Vb,if_neg (by simp)];exact NT (p:=p) h.tail e4 (λx hx=>hp x (cO _ hx)) hv
  ·rw[if_neg hs,dY]at e;have heq:iQ sy s g=iQ sy t g:=by unfold iQ;rw[if_neg hs,if_neg hs]
   simp only[fK];rw[heq,Vb,if_neg (by simp)];exact NT (p:=p) h.tail e hp hv
section
variable {sy:Int->Bool} {m:Nat} {cl t t2:List Int} {p:List Clue}
theorem FC(hc:cl.length=m)(hp:oK sy m p):lI m cl (dz sy cl p):=by
 unfold dz;rw[hc];exact aeP hc (wE hp)
theorem NU(hc:cl.length=m)(ht:lI m cl t)(hp:oK sy m p):¬qG (bK sy t p) (bK sy (dz sy cl p) p)<0:=by
 have hin:=wE hp;have hid:=dF.ident m;have hmore:∀u∈ed sy p,aB (dz sy cl p) u=aB (fH cl (ed sy p)) u:=λu hu=>by
  unfold dz;rw[hc];exact NR hc _ hin hu _ _ rfl (λx hx=>hid.fG x hx)
 rcases aeQ hc ht _ (ed sy p) rfl hin with h|⟨pr,v,rest,e,h1,h2⟩
 ·have:=NS (sy:=sy) (s:=dz sy cl p) (t:=t) (p:=p) λv hv=>by rw[hmore v hv];exact h v hv
  rw[this,(Hu.zero _ _).2 rfl];omega
 ·have:=NT (s:=dz sy cl p) (t:=t) hp e (λu hu=>by rw[hmore u (by rw[e];exact je _ hu)];exact h1 u hu) (by rw[hmore v (by rw[e];simp)];exact h2);have:=(Hu.neg _ _).1 this;omega
theorem lI.comp(h:lI m cl t)(h2:lI m cl t2):lI m cl (iK t2 t):=by
 refine⟨h2.p.comp h.p,λv v0 v1=>?_⟩;have r:=h.p.at_ v0 v1;rw[wB v0 (by rw[h.p.len];exact v1),h2.c _ r.1 r.2,h.c v v0 v1]
theorem lI.inv(h:lI m cl t):lI m cl (kG t):=by
 refine⟨h.p.inv,λv v0 v1=>?_⟩;have r:=h.p.inv.at_ v0 v1;rw[<- h.c _ r.1 r.2,h.p.Ju v0 v1]
theorem lI.ident(cl:List Int)(m:Nat):lI m cl (upTo' m):=⟨dF.ident m,λv v0 v1=>by rw[zn v0 v1]⟩
theorem oK.ren(hp:oK sy m p)(h:dF m t):oK sy m (bK sy t p):=by
 intro g' hg' hs;obtain⟨g,hg,rfl⟩:=eT.1 hg';obtain⟨v,e,v0,v1⟩:=hp g hg hs;have r:=h.at_ v0 v1;refine⟨aB t v,?_,r⟩;have hs:sy g.aL=true:=hs;unfold iQ;dsimp only;rw[if_pos hs,e];rfl
theorem NV(hp:oK sy m p)(h:dF m t):bK sy t2 (bK sy t p)=bK sy (iK t2 t) p:=by
 unfold bK;rw[wR];refine sN λg hg=>?_;show iQ sy t2 (iQ sy t g)=_;unfold iQ;dsimp only;by_cases hs:sy g.aL=true
 ·obtain⟨v,e,v0,v1⟩:=hp g hg hs;rw[if_pos hs,if_pos hs,if_pos hs,Jz];rw[e,h.len];intro x hx;rw[bM.1 hx];exact⟨v0,v1⟩
 ·rw[if_neg hs,if_neg hs,if_neg hs]
theorem aeR(hp:oK sy m p):bK sy (upTo' m) p=p:=by
 unfold bK;conv=>rhs;rw[<- List.map_id p]
 refine sN λg hg=>?_;unfold iQ;by_cases hs:sy g.aL=true
 ·obtain⟨v,e,v0,v1⟩:=hp g hg hs;rw[if_pos hs,e];obtain⟨c,a,w⟩:=g;dsimp only at e;subst e;show(⟨c,a,[aB (upTo' m) v]⟩:Clue)=_;rw[zn v0 v1];rfl
 ·rw[if_neg hs];rfl
theorem Vd{a b:List Clue}(h1:¬qG a b<0)(h2:¬qG b a<0):a=b:=by
 have h3:=Hu.neg b a;refine(Hu.zero a b).1 ?_;have h4:¬0<qG a b:=λq=>h2 (h3.2 q);omega
theorem Ve(hc:cl.length=m)(ht:lI m cl t)(hp:oK sy m p):bK sy (dz sy cl (bK sy t p)) (bK sy t p)=bK sy (dz sy cl p) p:=by
 have hq:=hp.ren ht.p;have g1:=FC hc hp;have g2:=FC hc hq;refine Vd ?_ ?_
 ·have:=NU (p:=p) hc (lI.comp ht g2) hp;rw[NV hp ht.p];exact this
 ·have hb:bK sy (kG t) (bK sy t p)=p:=by
   rw[NV hp ht.p];have:bK sy (iK (kG t) t) p=bK sy (upTo' m) p:=by
    refine NS λv hv=>?_;have r:=wE hp v hv;rw[wB r.1 (by rw[ht.p.len];exact r.2),ht.p.uY r.1 r.2,zn r.1 r.2]
   rw[this,aeR hp]
  have h3:=NU (p:=bK sy t p) hc (lI.comp ht.inv g1) hq;rw[<- NV hq ht.p.inv,hb]at h3;exact h3
end

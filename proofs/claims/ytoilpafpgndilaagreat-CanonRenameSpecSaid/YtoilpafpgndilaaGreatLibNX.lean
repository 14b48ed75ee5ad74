/-
  Part LibNX.
-/
import Derived.Test.YtoilpafpgndilaaGreatLibKX
import Derived.Test.YtoilpafpgndilaaGreatPlainDX
set_option linter.all false
set_option maxRecDepth 10000
set_option maxHeartbeats 4000000
namespace Go.Proofs.YtoilpafpgndilaaGreat
open Go.Ideal Kd Canon Gph
def Dq(k:bD)(s t:List Int)(r:bN):Bool:=
 if r.kind=1\/r.kind=2 then mZ (k.lists.getD r.family.toNat []) s r.family xV
 else if r.kind=3 then mZ (k.lists.getD r.family.toNat []) s r.family xV&&qL (su k) t
 else if r.kind=4 then mZ (k.lists.getD r.family.toNat []) s r.family Bb&&qL (su k) t
 else if r.kind=5 then mZ (k.lists.getD r.family.toNat []) s r.family Bc
 else if r.kind=7 then pI k.aQ s&&qL (su k) t
 else if r.kind=6\/r.kind=8\/r.kind=9\/r.kind=10 then pI k.aQ s
 else true
def keepR(k:bD)(s t:List Int)(r:bN):Bool:=xW r.set.toNat r.other.toNat t&&Dq k s t r
structure lc(k:bD)(s t:List Int):Prop where
 pc:dF k.grid.cells.length s
 ps:dF k.decl.symbols.length t
 rV:∀r∈k.decl.rules,keepR k s t r=true
theorem dH.We{k:bD}(h:dH k){f:Nat}{L:List (List Int)}(hL:k.lists[f]? =some L):pJ k.grid.cells.length L (f:Int):=by
 rw[h.lists]at hL;rw[h.grid];exact aeO h.cZ (λr hr=>⟨(h.typ.Dl r hr).1.2,(h.typ.Dl r hr).2⟩) hL
theorem dH.OQ{k:bD}(h:dH k):wC k.grid.cells.length k.aQ:=by
 rw[h.aQ,h.grid];exact⟨wm _,λl hl=>(Fv l hl).2⟩
theorem dH.kinds{k:bD}(h:dH k){r:bN}(hr:r∈k.decl.rules):1<=r.kind/\r.kind<=11:=by
 refine ag4 ?_;have:=h.typ.read;unfold jk at this;rw[List.filterMap_eq_nil_iff]at this;obtain⟨j,hj⟩:=jS hr;have:=this (r,j) (zU.2 hj);cases h:(fM r.kind).read with
 |true=>rfl
 |false=>simp[h]at this
def Wh(c:gW)(r:bN):Prop:=((r.kind=2\/r.kind=3)/\c.type=2/\c.family=r.family)\/(r.kind=5/\c.type=3/\c.family=r.family)\/(r.kind=11/\c.type=1/\c.family=0)
theorem dH.ahc{k:bD}(h:dH k){r:bN}(hr:r∈k.decl.rules):(r.aL= -1/\r.kind≠5/\r.kind≠11)\/∃c,0<=r.aL/\k.decl.aJ[r.aL.toNat]? =some c/\Wh c r:=by
 have hkd:=h.kinds hr;have hx:=(h.typ.form.kX r hr).clu _ rfl;have hcp:=λc (hc:k.decl.aJ[r.aL.toNat]? =some c)=>(h.typ.form.jg _ c hc).2;have ahd:r.kind=1\/r.kind=2\/r.kind=3\/r.kind=4\/r.kind=5\/r.kind=6\/r.kind=7\/r.kind=8\/r.kind=9\/r.kind=10\/r.kind=11:=by omega
 have key:∀need:Int,need=(if(fM r.kind).op=true/\r.dS≠qU then 2 else(fM r.kind).aL)->(need=0->r.kind≠5/\r.kind≠11)/\(need=2->r.kind=2\/r.kind=3)/\(need=3->r.kind=5)/\(need=1->r.kind=11)/\(need=0\/need=1\/need=2\/need=3):=by
  intro need hn;rcases ahd with e|e|e|e|e|e|e|e|e|e|e;all_goals (rw[e]at hn⊢;simp[fM]at hn;(try split at hn)<;>(refine⟨λh=>?_,λh=>?_,λh=>?_,λh=>?_,?_⟩<;>omega))
 obtain⟨k0,k2,k3,k1,kk⟩:=key _ rfl;generalize(if(fM r.kind).op=true/\r.dS≠qU then 2 else(fM r.kind).aL:Int)=need at hx k0 k1 k2 k3 kk;rcases hx with⟨a,_,b⟩|⟨a,b,_,c,c1,c2,c3⟩
 ·exact .inl ⟨b,k0 a⟩
 ·refine .inr ⟨c,b,c1,?_⟩;rcases kk with e|e|e|e
  ·exact absurd e a
  ·have:=hcp c c1;unfold qR at this;exact .inr (.inr ⟨k1 e,by omega,by omega⟩)
  ·exact .inl ⟨k2 e,by omega,by omega⟩
  ·exact .inr (.inl ⟨k3 e,by omega,by omega⟩)
theorem dH.ahe{k:bD}(h:dH k){i:Nat}{c:gW}(hc:k.decl.aJ[i]? =some c):∃r∈k.decl.rules,r.aL=(i:Int)/\Wh c r:=by
 have h1:=(h.typ.form.jg i c hc).1;have hm:(i:Int)∈k.decl.rules.map (·.aL):=List.count_pos_iff.1 (by omega);obtain⟨r,hr,e⟩:=eT.1 hm;rcases h.ahc hr with⟨a,_⟩|⟨c',b1,b2,b3⟩
 ·omega
 ·rw[e,kJ,hc]at b2;cases b2;exact⟨r,hr,e,b3⟩
def vD(c:gW):List Int->List Int->Bool:=if c.type=3 then Bc else xV
theorem lc.rule{k:bD}{s t:List Int}(h:lc k s t){r:bN}(hr:r∈k.decl.rules):xW r.set.toNat r.other.toNat t=true/\
 ((r.kind=1\/r.kind=2\/r.kind=3)->mZ (k.lists.getD r.family.toNat []) s r.family xV=true)/\((r.kind=3\/r.kind=4\/r.kind=7)->qL (su k) t=true)/\
 (r.kind=4->mZ (k.lists.getD r.family.toNat []) s r.family Bb=true)/\(r.kind=5->mZ (k.lists.getD r.family.toNat []) s r.family Bc=true)/\((6<=r.kind/\r.kind<=10)->pI k.aQ s=true):=by
 have h1:=h.rV r hr;unfold keepR Dq at h1;rw[fe]at h1;refine⟨h1.1,?_⟩;have h2:=h1.2;refine⟨λe=>?_,λe=>?_,λe=>?_,λe=>?_,λe=>?_⟩
 ·rcases e with e|e|e
  ·rw[if_pos (.inl e)]at h2;exact h2
  ·rw[if_pos (.inr e)]at h2;exact h2
  ·rw[if_neg (by omega),if_pos e,fe]at h2;exact h2.1
 ·rcases e with e|e|e
  ·rw[if_neg (by omega),if_pos e,fe]at h2;exact h2.2
  ·rw[if_neg (by omega),if_neg (by omega),if_pos e,fe]at h2;exact h2.2
  ·rw[if_neg (by omega),if_neg (by omega),if_neg (by omega),if_neg (by omega),if_pos e,fe]at h2;exact h2.2
 ·rw[if_neg (by omega),if_neg (by omega),if_pos e,fe]at h2;exact h2.1
 ·rw[if_neg (by omega),if_neg (by omega),if_neg (by omega),if_pos e]at h2;exact h2
 ·rw[if_neg (by omega),if_neg (by omega),if_neg (by omega),if_neg (by omega)]at h2;by_cases e7:r.kind=7
  ·rw[if_pos e7,fe]at h2;exact h2.1
  ·rw[if_neg e7,if_pos (by omega)]at h2;exact h2
theorem ahf{k:bD}{s t:List Int}(hK:dH k)(hk:lc k s t){i:Nat}{c:gW}(hc:k.decl.aJ[i]? =some c):∃L,k.lists[c.family.toNat]? =some L/\pJ k.grid.cells.length L c.family/\∀j,j<L.length->∃i,Goes L s c.family (vD c) j i:=by
 have hf:=hK.kE c (aZ hc);have hL:k.lists[c.family.toNat]? =some (k.lists[c.family.toNat]'(by omega)):=bP _;have mI:=hK.We hL;rw[vM hf.1]at mI;refine⟨_,hL,mI,?_⟩;obtain⟨r,hr,e,hcr⟩:=hK.ahe hc;obtain⟨_,k1,_,_,k5,_⟩:=hk.rule hr;unfold vD;rcases hcr with⟨a,b,d⟩|⟨a,b,d⟩|⟨a,b,d⟩
 ·rw[if_neg (by omega)];have:=k1 (by omega);rw[<- d,j5 hL]at this;exact(zu mI hk.pc).1 this
 ·rw[if_pos b];have:=k5 a;rw[<- d,j5 hL]at this;exact(zu mI hk.pc).1 this
 ·rw[if_neg (by omega)];intro j hj;have hl0:k.lists[c.family.toNat]? =some (kW k.grid.cells.length):=by
   rw[d,hK.lists,hK.grid];rfl
  rw[hL]at hl0;have hl0:=Option.some.inj hl0;have hn:(kW k.grid.cells.length).length=k.grid.cells.length:=Jj _;rw[hl0]at hj⊢;have hr2:=hk.pc.at_ (c:=(j:Int)) (by omega) (by omega);have hget:∀m,m<k.grid.cells.length->(kW k.grid.cells.length)[m]? =some [(m:Int)]:=λm hm=>by
   unfold kW;rw[dm,pU hm];rfl
  refine⟨(aB s (j:Int)).toNat,_,_,hget j (by omega),hget _ (by omega),?_,?_,λ_=>vM hr2.1⟩
  ·rw[vM hr2.1];exact List.Perm.refl _
  ·rw[vM hr2.1];exact Bd.2 (List.Perm.refl _)
def oM(s l l':List Int):Bool:=!decide (img s l=l')&&decide ((img s l).reverse=l')
def yo(c:gW)(s t l l' v:List Int):List Int:=if c.type=1 then img t v else if c.type=3/\oM s l l'=true then v.reverse else v
def l8(k:bD)(s t:List Int)(g:Clue):Clue:=
 match k.decl.aJ[g.aL.toNat]? with
 |none=>g
 |some c=>⟨g.aL,lH (k.lists.getD c.family.toNat []) s c.family g.at_,yo c s t ((k.lists.getD c.family.toNat []).getD g.at_.toNat []) ((k.lists.getD c.family.toNat []).getD (lH (k.lists.getD c.family.toNat []) s c.family g.at_).toNat []) g.values⟩
structure OT(k:bD)(s t:List Int)(g:Clue)(c:gW)(L:List (List Int))(j i:Nat)(l l':List Int):Prop where
 aL:0<=g.aL
 hc:k.decl.aJ[g.aL.toNat]? =some c
 hL:k.lists[c.family.toNat]? =some L
 kE:pJ k.grid.cells.length L c.family
 at_:g.at_=(j:Int)
 hl:L[j]? =some l
 hl':L[i]? =some l'
 goes:Goes L s c.family (vD c) j i
 perm:l'.Perm (img s l)
 eq:vD c l' (img s l)=true
 img:l8 k s t g=⟨g.aL,(i:Int),yo c s t l l' g.values⟩
 cells:nR k g=l
 cells':nR k (l8 k s t g)=l'
theorem Bw{k:bD}{s t:List Int}(hK:dH k)(hk:lc k s t){g:Clue}(hg:mY k g):∃c L j i l l',OT k s t g c L j i l l':=by
 obtain⟨c,L,l,h1,h2,h3,h4,h5,h6,h7⟩:=hg.cells;obtain⟨L',hL',mI,hgo⟩:=ahf hK hk h1;rw[h2]at hL';cases hL';obtain⟨j,hj⟩:=jA h5;rw[hj,kJ]at h3;obtain⟨i,hgi⟩:=hgo j (by omega);have hw:=hgi.lH mI;have ahg:=hgi;obtain⟨l0,l',a1,a2,a3,a4,a5⟩:=hgi;rw[h3]at a1;cases a1;have him:l8 k s t g=⟨g.aL,(i:Int),yo c s t l l' g.values⟩:=by
  unfold l8;rw[h1];dsimp only;rw[j5 h2,hj,hw,kJ,kJ,j5 h3,j5 a2]
 refine⟨c,L,j,i,l,l',h4,h1,h2,mI,hj,h3,a2,ahg,a3,a4,him,h7,?_⟩;rw[him];unfold nR Nt;dsimp only;rw[h1];dsimp only;rw[j5 h2,kJ,j5 a2]
theorem Wi{k:bD}{s t:List Int}(hK:dH k)(hk:lc k s t){g:Clue}(hg:mY k g):mY k (l8 k s t g):=by
 obtain⟨c,L,j,i,l,l',G⟩:=Bw hK hk hg;obtain⟨c',L',h1,h2,h3,h4,h5,h6⟩:=hg;rw[G.hc]at h2;cases h2;rw[G.img];have hi:=(bq.1 G.hl').1;refine⟨c,L,h1,G.hc,G.hL,by show(0:Int)<=(i:Int);omega,by show(i:Int)<_;omega,?_⟩;unfold yo;dsimp only;rcases h6 with⟨a,b,d⟩|⟨a,b,d⟩|⟨a,a2,b,d⟩
 ·refine .inl ⟨a,?_⟩;rw[if_pos a,NG];refine⟨b,λx hx=>?_⟩;obtain⟨v,hv,rfl⟩:=eT.1 hx;have:=d v hv;have:=hk.ps.at_ (c:=v) (by omega) (by omega);omega
 ·refine .inr (.inl ⟨a,?_⟩);rw[if_neg (by omega),if_neg (by omega)];exact⟨b,d⟩
 ·refine .inr (.inr ⟨a,a2,?_⟩);rw[if_neg a];split
  ·rw[List.length_reverse];exact⟨b,λx hx=>d x (List.mem_reverse.1 hx)⟩
  ·exact⟨b,d⟩
theorem ahh{k:bD}{s t:List Int}(hK:dH k)(hk:lc k s t){a b:Clue}(ha:mY k a)(hb:mY k b)(e:gJ (l8 k s t a) (l8 k s t b)=0):gJ a b=0:=by
 obtain⟨c,L,j,i,l,l',G⟩:=Bw hK hk ha;obtain⟨c2,L2,j2,i2,l2,l2',G2⟩:=Bw hK hk hb;rw[zl,G.img,G2.img]at e;obtain⟨e1,e2⟩:=e;dsimp only at e1 e2;have h1:=G.hc;rw[e1,G2.hc]at h1;cases h1;have h2:=G.hL;rw[G2.hL]at h2;cases h2;have hii:i=i2:=by omega
 subst hii;have:=G.goes.inj G.kE hk.pc G2.goes;rw[zl,G.at_,G2.at_];exact⟨e1,by omega⟩
theorem ahi{k:bD}{s t:List Int}{p x:List Clue}(hK:dH k)(hk:lc k s t)(hQ:gX k p)(hx:l7 (p.map (l8 k s t)) x):∀g,g∈x↔g∈p.map (l8 k s t):=by
 intro g;refine⟨hx.sub g,λhg=>?_⟩;obtain⟨a,ha,rfl⟩:=eT.1 hg;obtain⟨r,hr,hp,_⟩:=hx.all _ hg;obtain⟨b,hb,rfl⟩:=eT.1 (hx.sub r hr);have h0:=zl.1 (ahh hK hk (hQ.right a ha) (hQ.right b hb) hp);have:=aef hQ ha hb h0.1 h0.2;subst this;exact hr
theorem ahj{x:List Clue}(h:x.Pairwise λa b=>gJ a b<0):∀(i:Nat) a b,x[i]? =some a->x[i+1]? =some b->gJ a b<0:=by
 intro i a b ha hb;obtain⟨h1,h2⟩:=bq.1 ha;obtain⟨h3,h4⟩:=bq.1 hb;rw[<- h2,<- h4];exact wT.1 h i (i+1) h1 h3 (by omega)
theorem ahk{k:bD}{s t:List Int}{p x:List Clue}(hK:dH k)(hk:lc k s t)(hQ:gX k p)(hx:l7 (p.map (l8 k s t)) x):gX k x:=by
 refine⟨?_,λg hg=>?_,ahj hx.inc⟩
 ·have:=ael hx;rw[bY]at this;have:=hQ.len;omega
 ·obtain⟨a,ha,rfl⟩:=eT.1 (hx.sub g hg);exact Wi hK hk (hQ.right a ha)
end Go.Proofs.YtoilpafpgndilaaGreat
namespace Go.Proofs.YtoilpafpgndilaaGreat
open Go.Ideal Kd Canon Gph
structure lg(n m:Nat)(s t grid y:List Int):Prop where
 ps:dF n s
 pt:dF m t
 len:grid.length=n
 FW:y.length=n
 oJ:∀x∈grid,0<=x/\x<(m:Int)
 at_:∀c,0<=c->c<(n:Int)->aB y (aB s c)=aB t (aB grid c)
section
variable {n m:Nat} {s t grid y:List Int}
theorem lg.fG(h:lg n m s t grid y){c:Int}(c0:0<=c)(c1:c<(n:Int)):0<=aB grid c/\aB grid c<(m:Int):=h.oJ _ (NE c0 (by rw[h.len];exact c1))
theorem lg.mem(h:lg n m s t grid y){d:Int}(hd:d∈y):0<=d/\d<(m:Int):=by
 obtain⟨i,hi⟩:=jS hd;have hl:=(bq.1 hi).1;obtain⟨c,c0,c1,hc⟩:=h.ps.onto (y:=(i:Int)) (by omega) (by have:=h.FW;omega);have h1:=h.at_ c c0 c1;rw[hc,ji hi]at h1;rw[h1];have:=h.fG c0 c1;exact h.pt.at_ this.1 this.2
theorem OU(grid:List Int)(c:Int):sy grid c=(aB grid c).toNat:=rfl
theorem lg.sy(h:lg n m s t grid y){c:Int}(c0:0<=c)(c1:c<(n:Int)):sy y (aB s c)=(aB t (aB grid c)).toNat:=by rw[OU,h.at_ c c0 c1]
theorem ahl{α:Type}{f g:Int->α}:∀{l:List Int},iP n l->(∀c,0<=c->c<(n:Int)->f (aB s c)=g c)->(img s l).map f=l.map g:=by
 intro l hl h;unfold img;rw[wR];exact sN λc hc=>h c (hl c hc).1 (hl c hc).2
def og(m:Nat)(t:List Int)(set:Nat):Prop:=∀v:Int,0<=v->v<(m:Int)->set.testBit (aB t v).toNat=set.testBit v.toNat
theorem JV{set other:Nat}(ht:dF m t)(h:xW set other t=true):og m t set/\og m t other:=by
 unfold xW at h;rw[Da]at h;constructor;all_goals (
  intro v v0 v1;have h1:=h v.toNat _ (rW v0 (by rw[ht.len];exact v1));dsimp only at h1;rw[fe,lM,lM]at h1)
 ·exact h1.1.symm
 ·exact h1.2.symm
def uk(m:Nat)(t vals:List Int):Prop:=∀v:Int,0<=v->v<(m:Int)->aB vals (aB t v)=aB vals v
theorem JW{vals:List Int}(ht:dF m t)(h:qL vals t=true):uk m t vals:=by
 unfold qL at h;rw[Da]at h;intro v v0 v1;have h1:=iI (h v.toNat _ (rW v0 (by rw[ht.len];exact v1)));dsimp only at h1;rw[vM v0]at h1;exact h1.symm
theorem lg.bit(h:lg n m s t grid y){set:Nat}(hS:og m t set){c:Int}(c0:0<=c)(c1:c<(n:Int)):set.testBit (Go.Proofs.YtoilpafpgndilaaGreat.sy y (aB s c))=set.testBit (Go.Proofs.YtoilpafpgndilaaGreat.sy grid c):=by
 have r:=h.fG c0 c1;rw[h.sy c0 c1,hS _ r.1 r.2,OU]
theorem lg.cnt(h:lg n m s t grid y){set:Nat}(hS:og m t set){l l':List Int}(hl:iP n l)(hp:l'.Perm (img s l)):Go.Proofs.YtoilpafpgndilaaGreat.cnt y set l'=Go.Proofs.YtoilpafpgndilaaGreat.cnt grid set l:=by
 unfold Go.Proofs.YtoilpafpgndilaaGreat.cnt;rw[(hp.filter _).length_eq];exact NL hl λc c0 c1=>h.bit hS c0 c1
theorem lg.va(h:lg n m s t grid y){vals:List Int}(hV:uk m t vals){c:Int}(c0:0<=c)(c1:c<(n:Int)):va vals y (aB s c)=va vals grid c:=by
 have r:=h.fG c0 c1;have:=hV _ r.1 r.2;unfold Go.Proofs.YtoilpafpgndilaaGreat.va;rw[h.sy c0 c1,OU];exact this
theorem JX(grid:List Int)(set:Nat):∀(l:List Int) (k:Nat),rn grid set k l=xX k (l.map λc=>set.testBit (sy grid c))
 |[],k=>rfl
 |c::l,k=>by
  rw[rn,gL];cases hb:set.testBit (sy grid c)with
  |true=>rw[if_pos rfl,aeF,JX grid set l (k+1)]
  |false=>rw[if_neg (by simp),aeG,JX grid set l 0]
theorem lg.rn(h:lg n m s t grid y){set:Nat}(hS:og m t set){l:List Int}(hl:iP n l):rn y set 0 (img s l)=rn grid set 0 l:=by
 rw[JX,JX,ahl (g:=λc=>set.testBit (Go.Proofs.YtoilpafpgndilaaGreat.sy grid c)) hl (λc c0 c1=>h.bit hS c0 c1)]
end
end Go.Proofs.YtoilpafpgndilaaGreat
namespace Go.Proofs.YtoilpafpgndilaaGreat
open Go.Ideal Kd Canon Gph
end Go.Proofs.YtoilpafpgndilaaGreat
namespace Go.Proofs.YtoilpafpgndilaaGreat
open Go.Ideal Kd Canon Gph
structure wL(eq:List Int->List Int->Bool):Prop where
 symm:∀a b,eq a b=true->eq b a=true
 trans:∀a b c,eq a b=true->eq b c=true->eq a c=true
 img:∀s a b,eq a b=true->eq (img s a) (img s b)=true
theorem FX:wL xV:=by
 refine⟨λa b h=>?_,λa b c h1 h2=>?_,λs a b h=>?_⟩
 ·rw[Bd]at h⊢;exact h.symm
 ·rw[Bd]at h1 h2⊢;exact h1.trans h2
 ·rw[Bd]at h⊢;exact JA s h
theorem Wj:wL Bb:=by
 refine⟨λa b h=>?_,λa b c h1 h2=>?_,λs a b h=>?_⟩
 ·unfold Bb at h⊢;rw[lM]at h⊢;exact h.symm
 ·unfold Bb at h1 h2⊢;rw[lM]at h1 h2⊢;exact h1.trans h2
 ·unfold Bb at h⊢;rw[lM]at h⊢;rw[h]
theorem OV:wL Bc:=by
 refine⟨λa b h=>?_,λa b c h1 h2=>?_,λs a b h=>?_⟩
 ·rw[Fy]at h⊢;rcases h with rfl|rfl
  ·exact .inl rfl
  ·exact .inr (by rw[PY])
 ·rw[Fy]at h1 h2⊢;rcases h1 with rfl|rfl
  ·exact h2
  ·rcases h2 with rfl|rfl
   ·exact .inr rfl
   ·exact .inl (by rw[PY])
 ·rw[Fy]at h⊢;rcases h with rfl|rfl
  ·exact .inl rfl
  ·exact .inr (NH s b)
theorem ahm(c:gW):wL (vD c):=by
 unfold vD;split
 ·exact OV
 ·exact FX
section
variable {n m:Nat} {s t s2 t2:List Int} {L:List (List Int)} {f:Int} {eq:List Int->List Int->Bool}
theorem ahn(hR:wL eq)(hK:pJ n L f)(hs:dF n s){j i:Nat}(h:Goes L s f eq j i):Goes L (kG s) f eq i j:=by
 obtain⟨l,l',h1,h2,h3,h4,h5⟩:=h;have hl:=hK.fG l (aZ h1);refine⟨l',l,h2,h1,?_,?_,λhb=>?_⟩
 ·have:=JA (kG s) h3;rw[Jy hs hl]at this;exact this.symm
 ·have:=hR.img (kG s) _ _ h4;rw[Jy hs hl]at this;exact hR.symm _ _ this
 ·have hn:=hK.len hb;have:=(bq.1 h1).1;rw[h5 hb,hs.uY (by omega) (by omega)]
theorem aho(hR:wL eq)(hK:pJ n L f)(hs:dF n s)(h:mZ L s f eq=true):mZ L (kG s) f eq=true:=by
 have h:=(zu hK hs).1 h;refine(zu hK hs.inv).2 λi hi=>?_;obtain⟨j,hj⟩:=aeE hK hs h hi;exact⟨j,ahn hR hK hs hj⟩
theorem Wl(hR:wL eq)(hK:pJ n L f)(hs:dF n s)(hs2:dF n s2){j i i2:Nat}(h:Goes L s f eq j i)(h2:Goes L s2 f eq i i2):Goes L (iK s2 s) f eq j i2:=by
 obtain⟨l,l',a1,a2,a3,a4,a5⟩:=h;obtain⟨l0,l2,b1,b2,b3,b4,b5⟩:=h2;rw[a2]at b1;cases b1;have hl:=hK.fG l (aZ a1);have hc:img (iK s2 s) l=img s2 (img s l):=Jz (by rw[hs.len];exact hl);refine⟨l,l2,a1,b2,?_,?_,λhb=>?_⟩
 ·rw[hc];exact b3.trans (JA s2 a3)
 ·rw[hc];exact hR.trans _ _ _ b4 (hR.img s2 _ _ a4)
 ·have hn:=hK.len hb;have:=(bq.1 a1).1;rw[b5 hb,a5 hb,wB (by omega) (by rw[hs.len];omega)]
theorem ahp(hR:wL eq)(hK:pJ n L f)(hs:dF n s)(hs2:dF n s2)(h:mZ L s f eq=true)(h2:mZ L s2 f eq=true):mZ L (iK s2 s) f eq=true:=by
 have h:=(zu hK hs).1 h;have h2:=(zu hK hs2).1 h2;refine(zu hK (hs2.comp hs)).2 λj hj=>?_;obtain⟨i,hi⟩:=h j hj;obtain⟨i2,hi2⟩:=h2 i hi.lt.2;exact⟨i2,Wl hR hK hs hs2 hi hi2⟩
theorem OW{set other:Nat}(ht:dF m t)(h1:og m t set)(h2:og m t other):xW set other t=true:=by
 unfold xW;rw[Da];intro i x hx;have hl:=(bq.1 hx).1;have hlen:=ht.len;have e:=ji hx;have a:=h1 (i:Int) (by omega) (by omega);have b:=h2 (i:Int) (by omega) (by omega);rw[e,kJ]at a b;dsimp only;rw[fe,lM,lM];exact⟨a.symm,b.symm⟩
theorem OX{vals:List Int}(ht:dF m t)(h:uk m t vals):qL vals t=true:=by
 unfold qL;rw[Da];intro i x hx;have hl:=(bq.1 hx).1;have hlen:=ht.len;have a:=h (i:Int) (by omega) (by omega);rw[ji hx]at a;exact dK a.symm
theorem og.inv{set:Nat}(ht:dF m t)(h:og m t set):og m (kG t) set:=by
 intro v v0 v1;have r:=ht.inv.at_ v0 v1;have:=h _ r.1 r.2;rw[ht.Ju v0 v1]at this;exact this.symm
theorem uk.inv{vals:List Int}(ht:dF m t)(h:uk m t vals):uk m (kG t) vals:=by
 intro v v0 v1;have r:=ht.inv.at_ v0 v1;have:=h _ r.1 r.2;rw[ht.Ju v0 v1]at this;exact this.symm
theorem og.comp{set:Nat}(ht:dF m t)(h:og m t set)(h2:og m t2 set):og m (iK t2 t) set:=by
 intro v v0 v1;have r:=ht.at_ v0 v1;rw[wB v0 (by rw[ht.len];exact v1),h2 _ r.1 r.2,h _ v0 v1]
theorem uk.comp{vals:List Int}(ht:dF m t)(h:uk m t vals)(h2:uk m t2 vals):uk m (iK t2 t) vals:=by
 intro v v0 v1;have r:=ht.at_ v0 v1;rw[wB v0 (by rw[ht.len];exact v1),h2 _ r.1 r.2,h _ v0 v1]
theorem ahq{aQ:List (List Int)}(hN:wC n aQ)(hs:dF n s)(h:pI aQ s=true):pI aQ (kG s)=true:=by
 have h:=(Db hN hs).1 h;refine(Db hN hs.inv).2 λa b hab=>?_;obtain⟨c,d,hcd,rfl,rfl⟩:=UX hN hs h hab;have hr:=hcd.fG hN;rw[hs.uY hr.1.1 hr.1.2,hs.uY hr.2.1 hr.2.2];exact hcd
theorem ahr{aQ:List (List Int)}(hN:wC n aQ)(hs:dF n s)(hs2:dF n s2)(h:pI aQ s=true)(h2:pI aQ s2=true):pI aQ (iK s2 s)=true:=by
 have h:=(Db hN hs).1 h;have h2:=(Db hN hs2).1 h2;refine(Db hN (hs2.comp hs)).2 λa b hab=>?_;have hr:=hab.fG hN;have hl:=hs.len;rw[wB hr.1.1 (by omega),wB hr.2.1 (by omega)];exact h2 _ _ (h _ _ hab)
end
theorem ahs{k:bD}{s t s' t':List Int}{r:bN}(hS:xW r.set.toNat r.other.toNat t=true->xW r.set.toNat r.other.toNat t'=true)
 (hL:∀eq,wL eq->mZ (k.lists.getD r.family.toNat []) s r.family eq=true->mZ (k.lists.getD r.family.toNat []) s' r.family eq=true)
 (hV:qL (su k) t=true->qL (su k) t'=true) (hN:pI k.aQ s=true->pI k.aQ s'=true) (h:keepR k s t r=true):keepR k s' t' r=true:=by
 unfold keepR Dq at h⊢;rw[fe]at h⊢;refine⟨hS h.1,?_⟩;have h2:=h.2;split at h2
 ·rename_i e;rw[if_pos e];exact hL _ FX h2
 rename_i e;rw[if_neg e];split at h2
 ·rename_i e;rw[if_pos e];rw[fe]at h2⊢;exact⟨hL _ FX h2.1,hV h2.2⟩
 rename_i e;rw[if_neg e];split at h2
 ·rename_i e;rw[if_pos e];rw[fe]at h2⊢;exact⟨hL _ Wj h2.1,hV h2.2⟩
 rename_i e;rw[if_neg e];split at h2
 ·rename_i e;rw[if_pos e];exact hL _ OV h2
 rename_i e;rw[if_neg e];split at h2
 ·rename_i e;rw[if_pos e];rw[fe]at h2⊢;exact⟨hN h2.1,hV h2.2⟩
 rename_i e;rw[if_neg e];split at h2
 ·rename_i e;rw[if_pos e];exact hN h2
 rename_i e;rw[if_neg e]
theorem dH.OY{k:bD}(hK:dH k){r:bN}(hr:r∈k.decl.rules):pJ k.grid.cells.length (k.lists.getD r.family.toNat []) r.family:=by
 have hin:=(hK.inr hr).kE;have hL:k.lists[r.family.toNat]? =some (k.lists[r.family.toNat]'(by omega)):=bP _;have mI:=hK.We hL;rw[vM hin.1]at mI;rw[j5 hL];exact mI
theorem lc.inv{k:bD}{s t:List Int}(hK:dH k)(h:lc k s t):lc k (kG s) (kG t):=by
 refine⟨h.pc.inv,h.ps.inv,λr hr=>?_⟩;refine ahs (λa=>?_) (λeq hR a=>aho hR (hK.OY hr) h.pc a) (λa=>OX h.ps.inv (uk.inv h.ps (JW h.ps a))) (λa=>ahq hK.OQ h.pc a) (h.rV r hr);obtain⟨b,c⟩:=JV h.ps a;exact OW h.ps.inv (og.inv h.ps b) (og.inv h.ps c)
theorem lc.comp{k:bD}{s t s2 t2:List Int}(hK:dH k)(h:lc k s t)(h2:lc k s2 t2):lc k (iK s2 s) (iK t2 t):=by
 refine⟨h2.pc.comp h.pc,h2.ps.comp h.ps,λr hr=>?_⟩;have g2:=h2.rV r hr;have k2:=h2.rule hr;unfold keepR Dq at g2⊢;have g1:=h.rV r hr;unfold keepR Dq at g1;rw[fe]at g1 g2⊢;have mI:=hK.OY hr;have L1:∀eq,wL eq->mZ (k.lists.getD r.family.toNat []) s r.family eq=true->mZ (k.lists.getD r.family.toNat []) s2 r.family eq=true->mZ (k.lists.getD r.family.toNat []) (iK s2 s) r.family eq=true:=λeq hR a b=>ahp hR mI h.pc h2.pc a b;have V1:qL (su k) t=true->qL (su k) t2=true->qL (su k) (iK t2 t)=true:=λa b=>OX (h2.ps.comp h.ps) (uk.comp h.ps (JW h.ps a) (JW h2.ps b));have N1:pI k.aQ s=true->pI k.aQ s2=true->pI k.aQ (iK s2 s)=true:=λa b=>ahr hK.OQ h.pc h2.pc a b;obtain⟨b,c⟩:=JV h.ps g1.1;obtain⟨b2,c2⟩:=JV h2.ps g2.1;refine⟨OW (h2.ps.comp h.ps) (og.comp h.ps b b2) (og.comp h.ps c c2),?_⟩;have g1:=g1.2;have g2:=g2.2;split at g1
 ·rename_i e;rw[if_pos e]at g2⊢;exact L1 _ FX g1 g2
 rename_i e;rw[if_neg e]at g2⊢;split at g1
 ·rename_i e;rw[if_pos e]at g2⊢;rw[fe]at g1 g2⊢;exact⟨L1 _ FX g1.1 g2.1,V1 g1.2 g2.2⟩
 rename_i e;rw[if_neg e]at g2⊢;split at g1
 ·rename_i e;rw[if_pos e]at g2⊢;rw[fe]at g1 g2⊢;exact⟨L1 _ Wj g1.1 g2.1,V1 g1.2 g2.2⟩
 rename_i e;rw[if_neg e]at g2⊢;split at g1
 ·rename_i e;rw[if_pos e]at g2⊢;exact L1 _ OV g1 g2
 rename_i e;rw[if_neg e]at g2⊢;split at g1
 ·rename_i e;rw[if_pos e]at g2⊢;rw[fe]at g1 g2⊢;exact⟨N1 g1.1 g2.1,V1 g1.2 g2.2⟩
 rename_i e;rw[if_neg e]at g2⊢;split at g1
 ·rename_i e;rw[if_pos e]at g2⊢;exact N1 g1 g2
 rename_i e;rw[if_neg e]
theorem Wm{c:gW}{s l l':List Int}(h3:c.type=3)(he:vD c l' (img s l)=true)(h:oM s l l'=false):l'=img s l:=by
 unfold vD at he;rw[if_pos h3,Fy]at he;rcases he with e|e
 ·exact e
 ·unfold oM at h;rw[e]at h;simp at h;rw[e];exact h.symm
theorem Wn{s l l':List Int}(h:oM s l l'=true):img s l≠l'/\(img s l).reverse=l':=by
 unfold oM at h;simp at h;exact h
theorem aht{s l l':List Int}(h1:img s l≠l')(h2:(img s l).reverse=l'):oM s l l'=true:=by
 unfold oM;simp[h1,h2]
theorem Wo{s l:List Int}:oM s l (img s l)=false:=by
 unfold oM;simp
theorem OT.vals{k:bD}{s t:List Int}{g:Clue}{c:gW}{L:List (List Int)}{j i:Nat}{l l':List Int}(G:OT k s t g c L j i l l')(hR:mY k g):c.type=1->∀x∈g.values,0<=x/\x<(k.decl.symbols.length:Int):=by
 intro h1 x hx;obtain⟨c',L',a1,a2,a3,a4,a5,a6⟩:=hR;rw[G.hc]at a2;cases a2;rcases a6 with⟨_,_,b⟩|⟨b,_⟩|⟨b,_⟩
 ·have:=b x hx;omega
 ·omega
 ·omega
theorem Wp{k:bD}{s t s2 t2:List Int}(hK:dH k)(hk:lc k s t)(hk2:lc k s2 t2){g:Clue}(hg:mY k g):l8 k s2 t2 (l8 k s t g)=l8 k (iK s2 s) (iK t2 t) g:=by
 obtain⟨c,L,j,i,l,l',G⟩:=Bw hK hk hg;have hg2:=Wi hK hk hg;obtain⟨c2,L2,i2,j2,m',m,G2⟩:=Bw hK hk2 hg2;obtain⟨c3,L3,j3,j4,m3,m4,G3⟩:=Bw hK (hk.comp hK hk2) hg;have h1:=G2.hc;rw[G.img]at h1;dsimp only at h1;rw[G.hc]at h1;cases h1;have h1:=G3.hc;rw[G.hc]at h1;cases h1;have h2:=G2.hL;rw[G.hL]at h2;cases h2;have h2:=G3.hL;rw[G.hL]at h2;cases h2;have h3:=G2.at_;rw[G.img]at h3;dsimp only at h3;have hii:i2=i:=by omega
 subst hii;have h3:=G3.at_;rw[G.at_]at h3;have hjj:j3=j:=by omega
 subst hjj;have hgc:=Wl (ahm c) G.kE hk.pc hk2.pc G.goes G2.goes;have h4:=hgc.lH G.kE;have h5:=G3.goes.lH G.kE;have hjj:j4=j2:=by omega
 subst hjj;have h6:=G2.hl;rw[G.hl']at h6;cases h6;have h6:=G3.hl;rw[G.hl]at h6;cases h6;have h7:=G3.hl';rw[G2.hl']at h7;cases h7;have hl:=G.kE.fG l (aZ G.hl);have hl':=G.kE.fG l' (aZ G.hl');have hcc:img (iK s2 s) l=img s2 (img s l):=Jz (by rw[hk.pc.len];exact hl);rw[G2.img,G3.img,G.img];dsimp only;have hval:yo c s2 t2 l' m (yo c s t l l' g.values)=yo c (iK s2 s) (iK t2 t) l m g.values:=by
  unfold yo;by_cases t1:c.type=1
  ·rw[if_pos t1,if_pos t1,if_pos t1,Jz (by rw[hk.ps.len];exact G.vals hg t1)]
  ·rw[if_neg t1,if_neg t1,if_neg t1];by_cases t3:c.type=3
   ·cases hT:oM s l l' with
    |false=>
     have e:=Wm t3 G.eq hT;have:oM (iK s2 s) l m=oM s2 l' m:=by
      unfold oM;rw[hcc,<- e]
     rw[this,if_neg (by simp:¬(c.type=3/\false=true))]
    |true=>
     obtain⟨a,b⟩:=Wn hT;rw[if_pos (⟨t3,rfl⟩:c.type=3/\true=true)];have e2:img s2 l'=(img (iK s2 s) l).reverse:=by rw[<- b,NH,hcc]
     have hsl:=iP.img hk.pc hl;have hne:img (iK s2 s) l≠(img (iK s2 s) l).reverse:=λq=>a (by
      rw[hcc,<- NH]at q;rw[<- b];exact UT hk2.pc hsl (λx hx=>hsl x (List.mem_reverse.1 hx)) q)
     cases qV:oM s2 l' m with
     |false=>
      have e:=Wm t3 G2.eq qV;have:oM (iK s2 s) l m=true:=by
       refine aht ?_ ?_
       ·rw[e,e2];exact hne
       ·rw[e,e2]
      rw[this,if_neg (by simp),if_pos ⟨t3,rfl⟩]
     |true=>
      obtain⟨a2,b2⟩:=Wn qV;have e3:m=img (iK s2 s) l:=by rw[<- b2,e2,PY]
      have:oM (iK s2 s) l m=false:=by rw[e3];exact Wo
      rw[this,if_pos ⟨t3,rfl⟩,if_neg (by simp),PY]
   ·rw[if_neg (λq=>t3 q.1),if_neg (λq=>t3 q.1),if_neg (λq=>t3 q.1)]
 rw[hval]
theorem ahu{n:Nat}{a b:List Int}(ha:a.length=n)(hb:b.length=n)(h:∀c:Int,0<=c->c<(n:Int)->aB a c=aB b c):a=b:=by
 apply iY;intro i;by_cases hi:i<n
 ·have h1:=rW (p:=a) (c:=(i:Int)) (by omega) (by omega);have h2:=rW (p:=b) (c:=(i:Int)) (by omega) (by omega);rw[kJ]at h1 h2;rw[h1,h2,h _ (by omega) (by omega)]
 ·rw[fO (by omega),fO (by omega)]
section
variable {n m:Nat} {s t s2 t2 grid y z:List Int}
theorem lg.uniq(h:lg n m s t grid y)(h2:lg n m s t grid z):y=z:=by
 refine ahu h.FW h2.FW λd d0 d1=>?_;obtain⟨c,c0,c1,rfl⟩:=h.ps.onto d0 d1;rw[h.at_ c c0 c1,h2.at_ c c0 c1]
theorem lg.back(h:lg n m s t grid y):lg n m (kG s) (kG t) y grid:=by
 refine⟨h.ps.inv,h.pt.inv,h.FW,h.len,λx hx=>h.mem hx,λd d0 d1=>?_⟩;obtain⟨c,c0,c1,rfl⟩:=h.ps.onto d0 d1;have r:=h.fG c0 c1;rw[h.ps.uY c0 c1,h.at_ c c0 c1,h.pt.uY r.1 r.2]
theorem lg.comp(h:lg n m s t grid y)(h2:lg n m s2 t2 y z):lg n m (iK s2 s) (iK t2 t) grid z:=by
 refine⟨h2.ps.comp h.ps,h2.pt.comp h.pt,h.len,h2.FW,h.oJ,λc c0 c1=>?_⟩;have r:=h.ps.at_ c0 c1;have g:=h.fG c0 c1;rw[wB c0 (by rw[h.ps.len];exact c1),h2.at_ _ r.1 r.2,h.at_ c c0 c1,wB g.1 (by rw[h.pt.len];exact g.2)]
end
end Go.Proofs.YtoilpafpgndilaaGreat
namespace Go.Proofs.YtoilpafpgndilaaGreat
open Go.Ideal Kd Canon Gph
def sD(k:bD)(a b:Int):Prop:=∀r∈k.decl.rules,r.set.toNat.testBit a.toNat=r.set.toNat.testBit b.toNat/\r.other.toNat.testBit a.toNat=r.other.toNat.testBit b.toNat/\((r.kind=3\/r.kind=4\/r.kind=7)->aB (su k) a=aB (su k) b)
theorem sD.refl(k:bD)(a:Int):sD k a a:=λ_ _=>⟨rfl,rfl,λ_=>rfl⟩
theorem sD.symm{k:bD}{a b:Int}(h:sD k a b):sD k b a:=λr hr=>⟨(h r hr).1.symm,(h r hr).2.1.symm,λe=>((h r hr).2.2 e).symm⟩
theorem sD.trans{k:bD}{a b c:Int}(h:sD k a b)(h2:sD k b c):sD k a c:=λr hr=>⟨(h r hr).1.trans (h2 r hr).1,(h r hr).2.1.trans (h2 r hr).2.1,λe=>((h r hr).2.2 e).trans ((h2 r hr).2.2 e)⟩
theorem OZ{n:Nat}{l:List Int}(h:iP n l):img (upTo' n) l=l:=by
 unfold img;conv=>rhs;rw[<- List.map_id l]
 exact sN λc hc=>zn (h c hc).1 (h c hc).2
theorem JY{n:Nat}{L:List (List Int)}{f:Int}{eq:List Int->List Int->Bool}(hr:∀l,eq l l=true)(hK:pJ n L f):mZ L (upTo' n) f eq=true:=by
 refine(zu hK (dF.ident n)).2 λj hj=>⟨j,L[j],L[j],bP hj,bP hj,?_,?_,λhb=>?_⟩
 ·rw[OZ (hK.fG _ (vF hj))]
 ·rw[OZ (hK.fG _ (vF hj))];exact hr _
 ·have:=hK.len hb;rw[zn (by omega) (by omega)]
theorem ahv{n:Nat}{aQ:List (List Int)}(hN:wC n aQ):pI aQ (upTo' n)=true:=by
 refine(Db hN (dF.ident n)).2 λa b hab=>?_;have hr:=hab.fG hN;rw[zn hr.1.1 hr.1.2,zn hr.2.1 hr.2.2];exact hab
theorem O0(l:List Int):xV l l=true:=Bd.2 (List.Perm.refl _)
theorem ahw(l:List Int):Bb l l=true:=dK rfl
theorem Wq(l:List Int):Bc l l=true:=Fy.2 (.inl rfl)
theorem ahx{k:bD}(hK:dH k){t:List Int}:lc k (upTo' k.grid.cells.length) t↔dF k.decl.symbols.length t/\∀v:Int,0<=v->v<(k.decl.symbols.length:Int)->sD k v (aB t v):=by
 constructor
 ·intro h;refine⟨h.ps,λv v0 v1 r hr=>?_⟩;obtain⟨k0,_,k3,_⟩:=h.rule hr;obtain⟨s1,s2⟩:=JV h.ps k0;exact⟨(s1 v v0 v1).symm,(s2 v v0 v1).symm,λe=>(JW h.ps (k3 e) v v0 v1).symm⟩
 ·rintro⟨ht,h⟩;refine⟨dF.ident _,ht,λr hr=>?_⟩;have mI:=hK.OY hr;have hset:xW r.set.toNat r.other.toNat t=true:=OW ht (λv v0 v1=>(h v v0 v1 r hr).1.symm) (λv v0 v1=>(h v v0 v1 r hr).2.1.symm);have hval:(r.kind=3\/r.kind=4\/r.kind=7)->qL (su k) t=true:=λe=>OX ht λv v0 v1=>((h v v0 v1 r hr).2.2 e).symm;have hn:=ahv hK.OQ;unfold keepR Dq;rw[hset,Bool.true_and];split
  ·exact JY O0 mI
  split
  ·rename_i e;rw[JY O0 mI,hval (.inl e)];rfl
  split
  ·rename_i e;rw[JY ahw mI,hval (.inr (.inl e))];rfl
  split
  ·exact JY Wq mI
  split
  ·rename_i e;rw[hn,hval (.inr (.inr e))];rfl
  split
  ·exact hn
  ·rfl
structure Bz(k:bD)(cl:List Int):Prop where
 len:cl.length=k.decl.symbols.length
 at_:∀j:Nat,j<k.decl.symbols.length->∃i:Nat,aB cl (j:Int)=(i:Int)/\i<=j/\sD k (i:Int) (j:Int)/\∀u:Nat,u<i->¬sD k (u:Int) (j:Int)
theorem Bz.same{k:bD}{cl:List Int}(h:Bz k cl){a b:Nat}(ha:a<k.decl.symbols.length)(hb:b<k.decl.symbols.length):aB cl (a:Int)=aB cl (b:Int)↔sD k (a:Int) (b:Int):=by
 obtain⟨i,h1,h2,h3,h4⟩:=h.at_ a ha;obtain⟨j,k1,k2,k3,k4⟩:=h.at_ b hb;rw[h1,k1];constructor
 ·intro e;have:i=j:=by omega
  subst this;exact h3.symm.trans k3
 ·intro e;rcases PT i j with hl|hl|hl
  ·exact absurd (h3.trans e) (k4 i hl)
  ·rw[hl]
  ·exact absurd (k3.trans e.symm) (h4 j hl)
theorem Bz.ok{k:bD}{cl:List Int}(h:Bz k cl):vw k.decl.symbols.length cl:=by
 refine⟨h.len,λa ha=>?_⟩;obtain⟨i,h1,h2,h3,h4⟩:=h.at_ a ha;refine⟨by omega,by omega,?_⟩;have e:=(h.same (by omega:i<k.decl.symbols.length) ha).2 h3;rw[h1]at e⊢;exact e
theorem Bz.keeps{k:bD}{cl:List Int}(hK:dH k)(h:Bz k cl){t:List Int}:lI k.decl.symbols.length cl t↔lc k (upTo' k.grid.cells.length) t:=by
 rw[ahx hK];constructor
 ·intro ht;refine⟨ht.p,λv v0 v1=>?_⟩;have r:=ht.p.at_ v0 v1;have:=ht.c v v0 v1;obtain⟨a,rfl⟩:=jA v0;obtain⟨b,hb⟩:=jA r.1;rw[hb]at this r⊢;exact((h.same (by omega) (by omega)).1 this).symm
 ·rintro⟨ht,hc⟩;refine⟨ht,λv v0 v1=>?_⟩;have r:=ht.at_ v0 v1;have:=hc v v0 v1;obtain⟨a,rfl⟩:=jA v0;obtain⟨b,hb⟩:=jA r.1;rw[hb]at this r⊢;exact((h.same (by omega) (by omega)).2 this).symm
end Go.Proofs.YtoilpafpgndilaaGreat
namespace Go.Proofs.YtoilpafpgndilaaGreat
open Go.Ideal Kd Canon Gph
def aK(k:bD)(c:Int):Bool:=match k.decl.aJ[c.toNat]? with
 |some x=>decide (x.type=1)
 |none=>false
theorem Dr{k:bD}{g:Clue}{c:gW}(h:k.decl.aJ[g.aL.toNat]? =some c):aK k g.aL=decide (c.type=1):=by unfold aK;rw[h]
theorem gX.oJ{k:bD}{p:List Clue}(h:gX k p):oK (aK k) k.decl.symbols.length p:=by
 intro g hg hs;obtain⟨c,L,h1,h2,h3,h4,h5,h6⟩:=h.right g hg;rw[Dr h2,lM]at hs;rcases h6 with⟨_,a,b⟩|⟨a,_⟩|⟨a,_⟩
 ·match hgv:g.values,a with
  |[v],_=>
   have:=b v (by rw[hgv];exact bM.2 rfl);exact⟨v,rfl,by omega,by omega⟩
 ·omega
 ·omega
theorem ahy{k:bD}(hK:dH k){t:List Int}(hk:lc k (upTo' k.grid.cells.length) t){g:Clue}(hg:mY k g):l8 k (upTo' k.grid.cells.length) t g=iQ (aK k) t g:=by
 obtain⟨c,L,j,i,l,l',G⟩:=Bw hK hk hg;have hl:=G.kE.fG l (aZ G.hl);have e1:=OZ hl;have hr:∀a,vD c a a=true:=λa=>by
  unfold vD;split
  ·exact Wq a
  ·exact O0 a
 have hjl:=(bq.1 G.hl).1;have hgo:Goes L (upTo' k.grid.cells.length) c.family (vD c) j j:=by
  refine⟨l,l,G.hl,G.hl,by rw[e1],by rw[e1];exact hr l,λhb=>?_⟩;have:=G.kE.len hb;rw[zn (by omega) (by omega)]
 have hij:i=j:=by
  have h1:=hgo.lH G.kE;have h2:=G.goes.lH G.kE;omega
 subst hij;have hll:l'=l:=by
  have h1:=G.hl';rw[G.hl]at h1;exact(Option.some.inj h1).symm
 subst hll;rw[G.img];unfold iQ yo;rw[Dr G.hc,<- G.at_];by_cases h1:c.type=1
 ·rw[if_pos h1,if_pos (by simp[h1])]
 ·have:oM (upTo' k.grid.cells.length) l' l'=false:=by
   have h2:=Wo (s:=upTo' k.grid.cells.length) (l:=l');rw[e1]at h2;exact h2
  rw[if_neg h1,this,if_neg (show¬(c.type=3/\false=true)from λq=>by cases q.2),if_neg (show¬(decide (c.type=1)=true)by simp[h1])]
theorem ahz{sy:Int->Bool}{t:List Int}{p:List Clue}(h:p.Pairwise λa b=>gJ a b<0):(bK sy t p).Pairwise λa b=>gJ a b<0:=by
 unfold bK;rw[wS];exact h.imp λ{a b} hab=>by rw[uX]at hab⊢;exact hab
theorem ahA{p:List Clue}(h:p.Pairwise λa b=>gJ a b<0):l7 p p:=⟨h,λ_ h=>h,λx hx=>⟨x,hx,by rw[zl];exact⟨rfl,rfl⟩,by have:=((xK xJ).zero x.values x.values).2 rfl;omega⟩⟩
theorem ahB{k:bD}(hK:dH k){t:List Int}{p:List Clue}(hk:lc k (upTo' k.grid.cells.length) t)(hQ:gX k p):p.map (l8 k (upTo' k.grid.cells.length) t)=bK (aK k) t p:=sN λg hg=>ahy hK hk (hQ.right g hg)
theorem ahC{k:bD}(hK:dH k){s t:List Int}{p x:List Clue}(hs:lc k s (upTo' k.decl.symbols.length))(ht:lc k (upTo' k.grid.cells.length) t)(hQ:gX k p)(hx:l7 (p.map (l8 k s (upTo' k.decl.symbols.length))) x):l7 (p.map (l8 k s t)) (bK (aK k) t x):=by
 have O1:=ahk hK hs hQ hx;have h1:l7 (x.map (l8 k (upTo' k.grid.cells.length) t)) (bK (aK k) t x):=by
  rw[ahB hK ht O1];exact ahA (ahz hx.inc)
 have hxm:=ahi hK hs hQ hx;have e1:iK (upTo' k.grid.cells.length) s=s:=akT hs.pc;have e2:iK t (upTo' k.decl.symbols.length)=t:=akU ht.ps;refine h1.aej λg=>?_;rw[eT,eT];constructor
 ·rintro⟨a,ha,rfl⟩;refine⟨l8 k s (upTo' k.decl.symbols.length) a,(hxm _).2 (eT.2 ⟨a,ha,rfl⟩),?_⟩;rw[Wp hK hs ht (hQ.right a ha),e1,e2]
 ·rintro⟨y,hy,rfl⟩;obtain⟨a,ha,rfl⟩:=eT.1 ((hxm _).1 hy);refine⟨a,ha,?_⟩;rw[Wp hK hs ht (hQ.right a ha),e1,e2]
def Ws(k:bD)(cl s:List Int)(p y:List Clue):Prop:=∃x,l7 (p.map (l8 k s (upTo' k.decl.symbols.length))) x/\y=bK (aK k) (dz (aK k) cl x) x
structure O3(k:bD)(G:List (List Int))(cl:List Int)(p y:List Clue):Prop where
 mem:∃s∈G,Ws k cl s p y
 least:∀s∈G,∀z,Ws k cl s p z->¬qG z y<0
theorem O3.uniq{k:bD}{G:List (List Int)}{cl:List Int}{p y z:List Clue}(h:O3 k G cl p y)(h2:O3 k G cl p z):y=z:=by
 obtain⟨s,hs,hy⟩:=h.mem;obtain⟨s2,hs2,hz⟩:=h2.mem;exact Vd (h2.least s hs y hy) (h.least s2 hs2 z hz)
structure Wt(k:bD)(G:List (List Int))(cl:List Int):Prop where
 grp:Grp k.grid.cells.length G
 keep:∀s∈G,lc k s (upTo' k.decl.symbols.length)
 NN:Bz k cl
section
variable {k:bD} {G:List (List Int)} {cl:List Int} {p x y:List Clue} {s t:List Int}
theorem Wt.img(h:Wt k G cl)(hK:dH k)(hQ:gX k p)(hs:s∈G)(ht:lI k.decl.symbols.length cl t)(hx:l7 (p.map (l8 k s (upTo' k.decl.symbols.length))) x)(hy:l7 (p.map (l8 k s t)) y):y=bK (aK k) t x:=
 hy.uniq (ahC hK (h.keep s hs) ((h.NN.keeps hK).1 ht) hQ hx)
end

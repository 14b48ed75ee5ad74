/-
  Symmetries: what a symmetry keeps; images of clues and grids; the same rules hold of images.
-/
import Derived.Test.YtfakljdleblkoaaGreatLibKM
import Derived.Test.YtfakljdleblkoaaGreatPlainDM
set_option linter.all false
set_option maxRecDepth 10000
set_option maxHeartbeats 4000000
namespace Go.Proofs.YtfakljdleblkoaaGreat
open Go.Ideal Kd Canon Gph
def lc(k:aU)(s t:List Int)(r:bV):Bool:=
 if r.kind=1\/r.kind=2 then jS (k.lists.getD r.family.toNat []) s r.family jR
 else if r.kind=3 then jS (k.lists.getD r.family.toNat []) s r.family jR&&nC (gu k) t
 else if r.kind=4 then jS (k.lists.getD r.family.toNat []) s r.family ym&&nC (gu k) t
 else if r.kind=5 then jS (k.lists.getD r.family.toNat []) s r.family uy
 else if r.kind=7 then kZ k.aA s&&nC (gu k) t
 else if r.kind=6\/r.kind=8\/r.kind=9\/r.kind=10 then kZ k.aA s
 else true
def keepR(k:aU)(s t:List Int)(r:bV):Bool:=qp r.set.toNat r.other.toNat t&&lc k s t r
structure gB(k:aU)(s t:List Int):Prop where
 pc:dB k.grid.cells.length s
 ps:dB k.decl.symbols.length t
 oO:∀r∈k.decl.rules,keepR k s t r=true
theorem bF.Lf{k:aU}(h:bF k){f:Nat}{L:List (List Int)}(hL:k.lists[f]? =some L):oQ k.grid.cells.length L (f:Int):=by
 rw[h.lists]at hL;rw[h.grid];exact ahb h.bM (λr hr=>⟨(h.typ.BH r hr).1.2,(h.typ.BH r hr).2⟩) hL
theorem bF.Ac{k:aU}(h:bF k):sD k.grid.cells.length k.aA:=by
 rw[h.aA,h.grid];exact⟨wH _,λl hl=>(Kb l hl).2⟩
theorem bF.YO{k:aU}(h:bF k):lG k.aA:=by
 rw[h.aA];intro i l hl n hn;obtain⟨j,hj⟩:=jm hn;obtain⟨a,b,_,_,c⟩:=Wu h.bM i l hl j n hj;exact⟨⟨a,b⟩,c⟩
theorem bF.YP{k:aU}(h:bF k):∀l∈k.aA,l.Nodup:=by
 rw[h.aA];intro l hl;unfold fH at hl;obtain⟨p,_,rfl⟩:=cZ.1 hl;exact Wv h.bM p
theorem bF.kinds{k:aU}(h:bF k){r:bV}(hr:r∈k.decl.rules):1<=r.kind/\r.kind<=11:=by
 refine Yx ?_;have:=h.typ.read;unfold l8 at this;rw[List.filterMap_eq_nil_iff]at this;obtain⟨j,hj⟩:=jm hr;have:=this (r,j) (vV.2 hj);cases h:(ic r.kind).read with
 |true=>rfl
 |false=>simp[h]at this
def yH(c:iI)(r:bV):Prop:=((r.kind=2\/r.kind=3)/\c.type=2/\c.family=r.family)\/(r.kind=5/\c.type=3/\c.family=r.family)\/(r.kind=11/\c.type=1/\c.family=0)
theorem bF.YQ{k:aU}(h:bF k){r:bV}(hr:r∈k.decl.rules):(r.aN= -1/\r.kind≠5/\r.kind≠11)\/∃c,0<=r.aN/\k.decl.bI[r.aN.toNat]? =some c/\yH c r:=by
 have hkd:=h.kinds hr;have hx:=(h.typ.form.nX r hr).Qc _ rfl;have hcp:=λc (hc:k.decl.bI[r.aN.toNat]? =some c)=>(h.typ.form.mE _ c hc).2;have QG:r.kind=1\/r.kind=2\/r.kind=3\/r.kind=4\/r.kind=5\/r.kind=6\/r.kind=7\/r.kind=8\/r.kind=9\/r.kind=10\/r.kind=11:=by omega
 have key:∀need:Int,need=(if(ic r.kind).op=true/\r.iZ≠BG then 2 else(ic r.kind).aN)->(need=0->r.kind≠5/\r.kind≠11)/\(need=2->r.kind=2\/r.kind=3)/\(need=3->r.kind=5)/\(need=1->r.kind=11)/\(need=0\/need=1\/need=2\/need=3):=by
  intro need hn;rcases QG with e|e|e|e|e|e|e|e|e|e|e;all_goals (rw[e]at hn⊢;simp[ic]at hn;(try split at hn)<;>(refine⟨λh=>?_,λh=>?_,λh=>?_,λh=>?_,?_⟩<;>omega))
 obtain⟨k0,k2,k3,k1,kk⟩:=key _ rfl;generalize(if(ic r.kind).op=true/\r.iZ≠BG then 2 else(ic r.kind).aN:Int)=need at hx k0 k1 k2 k3 kk;rcases hx with⟨a,_,b⟩|⟨a,b,_,c,c1,c2,c3⟩
 ·exact .inl ⟨b,k0 a⟩
 ·refine .inr ⟨c,b,c1,?_⟩;rcases kk with e|e|e|e
  ·exact absurd e a
  ·have:=hcp c c1;unfold wP at this;exact .inr (.inr ⟨k1 e,by omega,by omega⟩)
  ·exact .inl ⟨k2 e,by omega,by omega⟩
  ·exact .inr (.inl ⟨k3 e,by omega,by omega⟩)
theorem bF.akN{k:aU}(h:bF k){i:Nat}{c:iI}(hc:k.decl.bI[i]? =some c):∃r∈k.decl.rules,r.aN=(i:Int)/\yH c r:=by
 have h1:=(h.typ.form.mE i c hc).1;have hm:(i:Int)∈k.decl.rules.map (·.aN):=List.count_pos_iff.1 (by omega);obtain⟨r,hr,e⟩:=cZ.1 hm;rcases h.YQ hr with⟨a,_⟩|⟨c',b1,b2,b3⟩
 ·omega
 ·rw[e,eX,hc]at b2;cases b2;exact⟨r,hr,e,b3⟩
def yI(c:iI):List Int->List Int->Bool:=if c.type=3 then uy else jR
theorem gB.rule{k:aU}{s t:List Int}(h:gB k s t){r:bV}(hr:r∈k.decl.rules):qp r.set.toNat r.other.toNat t=true/\
 ((r.kind=1\/r.kind=2\/r.kind=3)->jS (k.lists.getD r.family.toNat []) s r.family jR=true)/\((r.kind=3\/r.kind=4\/r.kind=7)->nC (gu k) t=true)/\
 (r.kind=4->jS (k.lists.getD r.family.toNat []) s r.family ym=true)/\(r.kind=5->jS (k.lists.getD r.family.toNat []) s r.family uy=true)/\((6<=r.kind/\r.kind<=10)->kZ k.aA s=true):=by
 have h1:=h.oO r hr;unfold keepR lc at h1;rw[eU]at h1;refine⟨h1.1,?_⟩;have h2:=h1.2;refine⟨λe=>?_,λe=>?_,λe=>?_,λe=>?_,λe=>?_⟩
 ·rcases e with e|e|e
  ·rw[if_pos (.inl e)]at h2;exact h2
  ·rw[if_pos (.inr e)]at h2;exact h2
  ·rw[if_neg (by omega),if_pos e,eU]at h2;exact h2.1
 ·rcases e with e|e|e
  ·rw[if_neg (by omega),if_pos e,eU]at h2;exact h2.2
  ·rw[if_neg (by omega),if_neg (by omega),if_pos e,eU]at h2;exact h2.2
  ·rw[if_neg (by omega),if_neg (by omega),if_neg (by omega),if_neg (by omega),if_pos e,eU]at h2;exact h2.2
 ·rw[if_neg (by omega),if_neg (by omega),if_pos e,eU]at h2;exact h2.1
 ·rw[if_neg (by omega),if_neg (by omega),if_neg (by omega),if_pos e]at h2;exact h2
 ·rw[if_neg (by omega),if_neg (by omega),if_neg (by omega),if_neg (by omega)]at h2;by_cases e7:r.kind=7
  ·rw[if_pos e7,eU]at h2;exact h2.1
  ·rw[if_neg e7,if_pos (by omega)]at h2;exact h2
theorem akO{k:aU}{s t:List Int}(hK:bF k)(hk:gB k s t){i:Nat}{c:iI}(hc:k.decl.bI[i]? =some c):∃L,k.lists[c.family.toNat]? =some L/\oQ k.grid.cells.length L c.family/\∀j,j<L.length->∃i,Goes L s c.family (yI c) j i:=by
 have hf:=hK.fP c (aR hc);have hL:k.lists[c.family.toNat]? =some (k.lists[c.family.toNat]'(by omega)):=bC _;have jb:=hK.Lf hL;rw[rE hf.1]at jb;refine⟨_,hL,jb,?_⟩;obtain⟨r,hr,e,hcr⟩:=hK.akN hc;obtain⟨_,k1,_,_,k5,_⟩:=hk.rule hr;unfold yI;rcases hcr with⟨a,b,d⟩|⟨a,b,d⟩|⟨a,b,d⟩
 ·rw[if_neg (by omega)];have:=k1 (by omega);rw[<- d,fC hL]at this;exact(vG jb hk.pc).1 this
 ·rw[if_pos b];have:=k5 a;rw[<- d,fC hL]at this;exact(vG jb hk.pc).1 this
 ·rw[if_neg (by omega)];intro j hj;have hl0:k.lists[c.family.toNat]? =some (lH k.grid.cells.length):=by
   rw[d,hK.lists,hK.grid];rfl
  rw[hL]at hl0;have hl0:=Option.some.inj hl0;have hn:(lH k.grid.cells.length).length=k.grid.cells.length:=OT _;rw[hl0]at hj⊢;have hr2:=hk.pc.at_ (c:=(j:Int)) (by omega) (by omega);have hget:∀m,m<k.grid.cells.length->(lH k.grid.cells.length)[m]? =some [(m:Int)]:=λm hm=>by
   unfold lH;rw[dR,uD hm];rfl
  refine⟨(aP s (j:Int)).toNat,_,_,hget j (by omega),hget _ (by omega),?_,?_,λ_=>rE hr2.1⟩
  ·rw[rE hr2.1];exact List.Perm.refl _
  ·rw[rE hr2.1];exact DC.2 (List.Perm.refl _)
def gD(s l l':List Int):Bool:=!decide (img s l=l')&&decide ((img s l).reverse=l')
def qA(c:iI)(s t l l' v:List Int):List Int:=if c.type=1 then img t v else if c.type=3/\gD s l l'=true then v.reverse else v
def gV(k:aU)(s t:List Int)(g:Clue):Clue:=
 match k.decl.bI[g.aN.toNat]? with
 |none=>g
 |some c=>⟨g.aN,gW (k.lists.getD c.family.toNat []) s c.family g.at_,qA c s t ((k.lists.getD c.family.toNat []).getD g.at_.toNat []) ((k.lists.getD c.family.toNat []).getD (gW (k.lists.getD c.family.toNat []) s c.family g.at_).toNat []) g.values⟩
structure Ea(k:aU)(s t:List Int)(g:Clue)(c:iI)(L:List (List Int))(j i:Nat)(l l':List Int):Prop where
 aN:0<=g.aN
 hc:k.decl.bI[g.aN.toNat]? =some c
 hL:k.lists[c.family.toNat]? =some L
 fP:oQ k.grid.cells.length L c.family
 at_:g.at_=(j:Int)
 hl:L[j]? =some l
 hl':L[i]? =some l'
 goes:Goes L s c.family (yI c) j i
 perm:l'.Perm (img s l)
 eq:yI c l' (img s l)=true
 img:gV k s t g=⟨g.aN,(i:Int),qA c s t l l' g.values⟩
 cells:jv k g=l
 cells':jv k (gV k s t g)=l'
theorem vN{k:aU}{s t:List Int}(hK:bF k)(hk:gB k s t){g:Clue}(hg:kY k g):∃c L j i l l',Ea k s t g c L j i l l':=by
 obtain⟨c,L,l,h1,h2,h3,h4,h5,h6,h7⟩:=hg.cells;obtain⟨L',hL',jb,hgo⟩:=akO hK hk h1;rw[h2]at hL';cases hL';obtain⟨j,hj⟩:=eO h5;rw[hj,eX]at h3;obtain⟨i,hgi⟩:=hgo j (by omega);have hw:=hgi.gW jb;have akP:=hgi;obtain⟨l0,l',a1,a2,a3,a4,a5⟩:=hgi;rw[h3]at a1;cases a1;have him:gV k s t g=⟨g.aN,(i:Int),qA c s t l l' g.values⟩:=by
  unfold gV;rw[h1];dsimp only;rw[fC h2,hj,hw,eX,eX,fC h3,fC a2]
 refine⟨c,L,j,i,l,l',h4,h1,h2,jb,hj,h3,a2,akP,a3,a4,him,h7,?_⟩;rw[him];unfold jv OZ;dsimp only;rw[h1];dsimp only;rw[fC h2,eX,fC a2]
theorem Lg{k:aU}{s t:List Int}(hK:bF k)(hk:gB k s t){g:Clue}(hg:kY k g):kY k (gV k s t g):=by
 obtain⟨c,L,j,i,l,l',G⟩:=vN hK hk hg;obtain⟨c',L',h1,h2,h3,h4,h5,h6⟩:=hg;rw[G.hc]at h2;cases h2;rw[G.img];have hi:=(aW.1 G.hl').1;refine⟨c,L,h1,G.hc,G.hL,by show(0:Int)<=(i:Int);omega,by show(i:Int)<_;omega,?_⟩;unfold qA;dsimp only;rcases h6 with⟨a,b,d⟩|⟨a,b,d⟩|⟨a,a2,b,d⟩
 ·refine .inl ⟨a,?_⟩;rw[if_pos a,Dz];refine⟨b,λx hx=>?_⟩;obtain⟨v,hv,rfl⟩:=cZ.1 hx;have:=d v hv;have:=hk.ps.at_ (c:=v) (by omega) (by omega);omega
 ·refine .inr (.inl ⟨a,?_⟩);rw[if_neg (by omega),if_neg (by omega)];exact⟨b,d⟩
 ·refine .inr (.inr ⟨a,a2,?_⟩);rw[if_neg a];split
  ·rw[Ch];exact⟨b,λx hx=>d x (List.mem_reverse.1 hx)⟩
  ·exact⟨b,d⟩
theorem akQ{k:aU}{s t:List Int}(hK:bF k)(hk:gB k s t){a b:Clue}(ha:kY k a)(hb:kY k b)(e:eZ (gV k s t a) (gV k s t b)=0):eZ a b=0:=by
 obtain⟨c,L,j,i,l,l',G⟩:=vN hK hk ha;obtain⟨c2,L2,j2,i2,l2,l2',G2⟩:=vN hK hk hb;rw[qX,G.img,G2.img]at e;obtain⟨e1,e2⟩:=e;dsimp only at e1 e2;have h1:=G.hc;rw[e1,G2.hc]at h1;cases h1;have h2:=G.hL;rw[G2.hL]at h2;cases h2;have hii:i=i2:=by omega
 subst hii;have:=G.goes.inj G.fP hk.pc G2.goes;rw[qX,G.at_,G2.at_];exact⟨e1,by omega⟩
theorem QH{k:aU}{s t:List Int}{p x:List Clue}(hK:bF k)(hk:gB k s t)(hQ:iQ k p)(hx:jP (p.map (gV k s t)) x):∀g,g∈x↔g∈p.map (gV k s t):=by
 intro g;refine⟨hx.sub g,λhg=>?_⟩;obtain⟨a,ha,rfl⟩:=cZ.1 hg;obtain⟨r,hr,hp,_⟩:=hx.all _ hg;obtain⟨b,hb,rfl⟩:=cZ.1 (hx.sub r hr);have h0:=qX.1 (akQ hK hk (hQ.right a ha) (hQ.right b hb) hp);have:=agE hQ ha hb h0.1 h0.2;subst this;exact hr
theorem akR{x:List Clue}(h:x.Pairwise λa b=>eZ a b<0):∀(i:Nat) a b,x[i]? =some a->x[i+1]? =some b->eZ a b<0:=by
 intro i a b ha hb;obtain⟨h1,h2⟩:=aW.1 ha;obtain⟨h3,h4⟩:=aW.1 hb;rw[<- h2,<- h4];exact yV.1 h i (i+1) h1 h3 (by omega)
theorem Gt{k:aU}{s t:List Int}{p x:List Clue}(hK:bF k)(hk:gB k s t)(hQ:iQ k p)(hx:jP (p.map (gV k s t)) x):iQ k x:=by
 refine⟨?_,λg hg=>?_,akR hx.inc⟩
 ·have:=agN hx;rw[bJ]at this;have:=hQ.len;omega
 ·obtain⟨a,ha,rfl⟩:=cZ.1 (hx.sub g hg);exact Lg hK hk (hQ.right a ha)
theorem akS{k:aU}{p:List Clue}(h:iQ k p):p.Pairwise λa b=>eZ a b<0:=by
 rw[yV];intro i j hi hj hij;have:=Ke h (j - (i+1)) i p[i] p[j] (bC hi) (by rw[show i+1+(j - (i+1))=j by omega];exact bC hj);exact this
end Go.Proofs.YtfakljdleblkoaaGreat
namespace Go.Proofs.YtfakljdleblkoaaGreat
open Go.Ideal Kd Canon Gph
def gQ(s t grid:List Int):List Int:=img t (bW grid (dz s))
structure iq(n m:Nat)(s t grid y:List Int):Prop where
 ps:dB n s
 pt:dB m t
 len:grid.length=n
 vO:y.length=n
 iJ:∀x∈grid,0<=x/\x<(m:Int)
 at_:∀c,0<=c->c<(n:Int)->aP y (aP s c)=aP t (aP grid c)
theorem akT{s t grid:List Int}:(gQ s t grid).length=s.length:=by unfold gQ bW;rw[Dz,bJ,wM]
theorem akU{n m:Nat}{s t grid:List Int}(hs:dB n s)(ht:dB m t)(hl:grid.length=n)(hg:∀x∈grid,0<=x/\x<(m:Int)):iq n m s t grid (gQ s t grid):=by
 refine⟨hs,ht,hl,by rw[akT];exact hs.len,hg,λc c0 c1=>?_⟩;have hr:=hs.at_ c0 c1;unfold gQ;have h1:(dz s).length=n:=by rw[wM];exact hs.len
 have h2:=wL (a:=grid) (b:=dz s) (c:=aP s c) hr.1 (by rw[h1];exact hr.2);rw[hs.uu c0 c1]at h2;have h3:(bW grid (dz s)).length=n:=by unfold bW;rw[bJ];exact h1
 have h4:bW t (bW grid (dz s))=img t (bW grid (dz s)):=rfl;rw[<- h4,wL hr.1 (by rw[h3];exact hr.2),h2]
section
variable {n m:Nat} {s t grid y:List Int}
theorem iq.dZ(h:iq n m s t grid y){c:Int}(c0:0<=c)(c1:c<(n:Int)):0<=aP grid c/\aP grid c<(m:Int):=h.iJ _ (Pf c0 (by rw[h.len];exact c1))
theorem iq.mem(h:iq n m s t grid y){d:Int}(hd:d∈y):0<=d/\d<(m:Int):=by
 obtain⟨i,hi⟩:=jm hd;have hl:=(aW.1 hi).1;obtain⟨c,c0,c1,hc⟩:=h.ps.onto (y:=(i:Int)) (by omega) (by have:=h.vO;omega);have h1:=h.at_ c c0 c1;rw[hc,jJ hi]at h1;rw[h1];have:=h.dZ c0 c1;exact h.pt.at_ this.1 this.2
theorem Gu(grid:List Int)(c:Int):sy grid c=(aP grid c).toNat:=rfl
theorem iq.sy(h:iq n m s t grid y){c:Int}(c0:0<=c)(c1:c<(n:Int)):sy y (aP s c)=(aP t (aP grid c)).toNat:=by rw[Gu,h.at_ c c0 c1]
theorem Lh{α:Type}{f g:Int->α}:∀{l:List Int},kv n l->(∀c,0<=c->c<(n:Int)->f (aP s c)=g c)->(img s l).map f=l.map g:=by
 intro l hl h;unfold img;rw[qE];exact yQ λc hc=>h c (hl c hc).1 (hl c hc).2
theorem iq.yu(h:iq n m s t grid y){l l':List Int}(hl:kv n l)(hp:l'.Perm (img s l)):yu y l'=yu grid l:=by
 unfold Go.Proofs.YtfakljdleblkoaaGreat.yu;refine nK.2 ?_;rw[(hp.map (Go.Proofs.YtfakljdleblkoaaGreat.sy y)).nodup_iff,Lh (g:=λc=>(aP t (aP grid c)).toNat) hl (λc c0 c1=>h.sy c0 c1)];unfold List.Nodup;rw[yX,yX];have key:∀a,a∈l->∀b,b∈l->((aP t (aP grid a)).toNat=(aP t (aP grid b)).toNat↔Go.Proofs.YtfakljdleblkoaaGreat.sy grid a=Go.Proofs.YtfakljdleblkoaaGreat.sy grid b):=λa ha b hb=>by
  have ra:=h.dZ (hl a ha).1 (hl a ha).2;have rb:=h.dZ (hl b hb).1 (hl b hb).2;have ta:=h.pt.at_ ra.1 ra.2;have tb:=h.pt.at_ rb.1 rb.2;rw[Gu,Gu];constructor
  ·intro e;rw[h.pt.inj ra.1 ra.2 rb.1 rb.2 (by omega)]
  ·intro e;rw[show aP grid a=aP grid b by omega]
 exact⟨λq=>List.Pairwise.imp_of_mem (λ{a b} ha hb hne e=>hne ((key a ha b hb).2 e)) q,λq=>List.Pairwise.imp_of_mem (λ{a b} ha hb hne e=>hne ((key a ha b hb).1 e)) q⟩
def nI(m:Nat)(t:List Int)(set:Nat):Prop:=∀v:Int,0<=v->v<(m:Int)->set.testBit (aP t v).toNat=set.testBit v.toNat
theorem Li{set other:Nat}(ht:dB m t)(h:qp set other t=true):nI m t set/\nI m t other:=by
 unfold qp at h;rw[qw]at h;constructor;all_goals (
  intro v v0 v1;have h1:=h v.toNat _ (vD v0 (by rw[ht.len];exact v1));dsimp only at h1;rw[eU,kL,kL]at h1)
 ·exact h1.1.symm
 ·exact h1.2.symm
def rA(m:Nat)(t vals:List Int):Prop:=∀v:Int,0<=v->v<(m:Int)->aP vals (aP t v)=aP vals v
theorem Eb{vals:List Int}(ht:dB m t)(h:nC vals t=true):rA m t vals:=by
 unfold nC at h;rw[qw]at h;intro v v0 v1;have h1:=jg (h v.toNat _ (vD v0 (by rw[ht.len];exact v1)));dsimp only at h1;rw[rE v0]at h1;exact h1.symm
theorem iq.bit(h:iq n m s t grid y){set:Nat}(hS:nI m t set){c:Int}(c0:0<=c)(c1:c<(n:Int)):set.testBit (Go.Proofs.YtfakljdleblkoaaGreat.sy y (aP s c))=set.testBit (Go.Proofs.YtfakljdleblkoaaGreat.sy grid c):=by
 have r:=h.dZ c0 c1;rw[h.sy c0 c1,hS _ r.1 r.2,Gu]
theorem iq.cnt(h:iq n m s t grid y){set:Nat}(hS:nI m t set){l l':List Int}(hl:kv n l)(hp:l'.Perm (img s l)):Go.Proofs.YtfakljdleblkoaaGreat.cnt y set l'=Go.Proofs.YtfakljdleblkoaaGreat.cnt grid set l:=by
 unfold Go.Proofs.YtfakljdleblkoaaGreat.cnt;rw[(hp.filter _).length_eq];exact Ky hl λc c0 c1=>h.bit hS c0 c1
theorem iq.va(h:iq n m s t grid y){vals:List Int}(hV:rA m t vals){c:Int}(c0:0<=c)(c1:c<(n:Int)):va vals y (aP s c)=va vals grid c:=by
 have r:=h.dZ c0 c1;have:=hV _ r.1 r.2;unfold Go.Proofs.YtfakljdleblkoaaGreat.va;rw[h.sy c0 c1,Gu];exact this
theorem akV{a b:List Int}(h:a.Perm b):a.sum=b.sum:=by
 induction h with
 |nil=>rfl
 |cons x _ ih=>rw[yR,yR,ih]
 |swap x y l=>rw[yR,yR,yR,yR];omega
 |trans _ _ ih1 ih2=>rw[ih1,ih2]
theorem iq.nW(h:iq n m s t grid y){vals:List Int}(hV:rA m t vals){l l':List Int}(hl:kv n l)(hp:l'.Perm (img s l)):nW vals y l'=nW vals grid l:=by
 unfold Go.Proofs.YtfakljdleblkoaaGreat.nW;rw[akV (hp.map (Go.Proofs.YtfakljdleblkoaaGreat.va vals y)),Lh (g:=Go.Proofs.YtfakljdleblkoaaGreat.va vals grid) hl (λc c0 c1=>h.va hV c0 c1)]
theorem iq.yx(h:iq n m s t grid y){vals:List Int}(hV:rA m t vals){l:List Int}(hl:kv n l):yx vals y (img s l)=yx vals grid l:=by
 unfold Go.Proofs.YtfakljdleblkoaaGreat.yx;rw[Lh (g:=Go.Proofs.YtfakljdleblkoaaGreat.va vals grid) hl (λc c0 c1=>h.va hV c0 c1)]
theorem Ec(grid:List Int)(set:Nat):∀(l:List Int) (k:Nat),rn grid set k l=pM k (l.map λc=>set.testBit (sy grid c))
 |[],k=>rfl
 |c::l,k=>by
  rw[rn,fI];cases hb:set.testBit (sy grid c)with
  |true=>rw[if_pos rfl,Kt,Ec grid set l (k+1)]
  |false=>rw[if_neg (by simp),Ku,Ec grid set l 0]
theorem iq.rn(h:iq n m s t grid y){set:Nat}(hS:nI m t set){l:List Int}(hl:kv n l):rn y set 0 (img s l)=rn grid set 0 l:=by
 rw[Ec,Ec,Lh (g:=λc=>set.testBit (Go.Proofs.YtfakljdleblkoaaGreat.sy grid c)) hl (λc c0 c1=>h.bit hS c0 c1)]
theorem akW(grid:List Int)(set:Nat)(l:List Int):rn grid set 0 l.reverse=(rn grid set 0 l).reverse:=by
 rw[Ec,Ec,List.map_reverse,Pm _ _ (bB _)]
theorem YR{aA:List (List Int)}{grid:List Int}{c:Int->Int->Bool}:nU aA grid c=true↔∀a b,Nb aA a b->c (aP grid a) (aP grid b)=true:=by
 unfold nU;rw[qw];constructor
 ·rintro h a b ⟨l,h0,h1,h2⟩;have:=h _ _ h1;rw[iV]at this;have:=this b h2;dsimp only at this;rw[rE h0]at this;exact this
 ·intro h i l hl;rw[iV];intro b hb;exact h (i:Int) b ⟨l,by omega,by rw[eX];exact hl,hb⟩
theorem iq.QI(h:iq n m s t grid y){aA:List (List Int)}(hN:sD n aA)(hk:kZ aA s=true){c c':Int->Int->Bool}(hc:∀a b:Int,0<=a->a<(m:Int)->0<=b->b<(m:Int)->c' (aP t a) (aP t b)=c a b):nU aA y c'=nU aA grid c:=by
 have hk:=(Bw hN h.ps).1 hk;have one:∀a b,Nb aA a b->c' (aP y (aP s a)) (aP y (aP s b))=c (aP grid a) (aP grid b):=λa b hab=>by
  have hr:=hab.dZ hN;have ra:=h.dZ hr.1.1 hr.1.2;have rb:=h.dZ hr.2.1 hr.2.2;rw[h.at_ a hr.1.1 hr.1.2,h.at_ b hr.2.1 hr.2.2];exact hc _ _ ra.1 ra.2 rb.1 rb.2
 rw[sO,YR,YR];constructor
 ·intro q a b hab;rw[<- one a b hab];exact q _ _ (hk a b hab)
 ·intro q a b hab;obtain⟨x,z,hxz,rfl,rfl⟩:=Kq hN h.ps hk hab;rw[one x z hxz];exact q _ _ hxz
theorem YS(grid:List Int)(set:Nat):∀k,k<=grid.length->∀i:Nat,i<grid.length->(lI grid set (upTo' k)).getD i false=(decide (i<k)&&set.testBit (sy grid (i:Int)))
 |0,_,i,hi=>by
  unfold lI upTo';simp[List.getD,hi]
 |k+1,hk,i,hi=>by
  have ih:=YS grid set k (by omega) i hi;have e:lI grid set (upTo' (k+1))=(lI grid set (upTo' k)).set k (set.testBit (sy grid (k:Int))):=by
   unfold lI;rw[OU,Aq];rfl
  have hl:=Xp grid set (upTo' k);rw[e];simp only[List.getD,mV]at ih⊢;by_cases e:k=i
  ·subst e;simp[hl,hi]
  ·rw[if_neg e,ih];by_cases h2:i<k
   ·simp[h2,show i<k+1 by omega]
   ·simp[h2,show¬i<k+1 by omega]
theorem YT{grid:List Int}{set:Nat}{c:Int}(c0:0<=c)(c1:c<(grid.length:Int)):cz (lI grid set (upTo' grid.length)) c=set.testBit (sy grid c):=by
 obtain⟨i,rfl⟩:=eO c0;have:=YS grid set grid.length (bB _) i (by omega);unfold cz;rw[eX,this,fQ (by omega),LD]
theorem iq.YU(h:iq n m s t grid y){g:List (List Int)}(hS:Gph.lG g)(hN:sD n g)(hnd:∀l∈g,l.Nodup)(hk:kZ g s=true){set:Nat}(hs:nI m t set):l7 n g s (lI grid set (upTo' grid.length)) (lI y set (upTo' y.length)):=by
 refine⟨hS,hN,hnd,h.ps,λc c0 c1=>?_,(Bw hN h.ps).1 hk⟩;have hr:=h.ps.at_ c0 c1;rw[YT hr.1 (by rw[h.vO];exact hr.2),YT c0 (by rw[h.len];exact c1),h.bit hs c0 c1]
theorem l7.join{g:List (List Int)}{mk mk':List Bool}(h:l7 n g s mk mk')(loop:Bool):vH g mk' loop=vH g mk loop:=by
 unfold vH;have h1:=h.few;have h2:=h.zero;have h3:=h.ring;rw[h3];by_cases e:(eF g mk g.length).2=0
 ·have e':=h2.1 e;rw[e,e']
 ·have e':(eF g mk' g.length).2≠0:=λq=>e (h2.2 q);cases loop with
  |true=>rw[if_pos ⟨rfl,e'⟩,if_pos ⟨rfl,e⟩]
  |false=>
   rw[if_neg (by simp),if_neg (by simp)];exact nK.2 h1.symm
end
end Go.Proofs.YtfakljdleblkoaaGreat
namespace Go.Proofs.YtfakljdleblkoaaGreat
open Go.Ideal Kd Canon Gph
theorem Ed{k:aU}{s t:List Int}{p x:List Clue}{r:bV}{C C':List Int×List Int->Bool}(hx:∀g,g∈x↔g∈p.map (gV k s t))
 (h0:r.aN<0->(k.lists.getD r.family.toNat []).all (λl=>C' (l,[r.n]))=(k.lists.getD r.family.toNat []).all (λl=>C (l,[r.n])))
 (h1:0<=r.aN->∀g∈p,g.aN=r.aN->C' (jv k (gV k s t g),(gV k s t g).values)=C (jv k g,g.values))
 (hcl:∀g∈p,(gV k s t g).aN=g.aN):(fV k x r).all C'=(fV k p r).all C:=by
 unfold fV;by_cases hc:r.aN<0
 ·rw[if_pos hc,if_pos hc,List.all_map,List.all_map];exact h0 hc
 ·rw[if_neg hc,if_neg hc,List.all_map,List.all_map,sO,iV,iV];constructor
  ·intro h g hg;obtain⟨g1,g2⟩:=mW.1 hg;have g2:g.aN=r.aN:=jg g2;have:=h (gV k s t g) (mW.2 ⟨(hx _).2 (cZ.2 ⟨g,g1,rfl⟩),fQ ((hcl g g1).trans g2)⟩);show C (jv k g,g.values)=true;rw[<- h1 (by omega) g g1 g2];exact this
  ·intro h g' hg';obtain⟨g1,g2⟩:=mW.1 hg';have g2:g'.aN=r.aN:=jg g2;obtain⟨g,hg,rfl⟩:=cZ.1 ((hx _).1 g1);have e:=(hcl g hg).symm.trans g2;have:=h g (mW.2 ⟨hg,fQ e⟩);show C' (jv k (gV k s t g),(gV k s t g).values)=true;rw[h1 (by omega) g hg e];exact this
theorem Lj{n:Nat}{L:List (List Int)}{s:List Int}{f:Int}{eq:List Int->List Int->Bool}{c c':List Int->Bool}(hK:oQ n L f)(hs:dB n s)(h:∀j,j<L.length->∃i,Goes L s f eq j i)
 (hc:∀l l',kv n l->l'.Perm (img s l)->eq l' (img s l)=true->c' l'=c l):L.all c'=L.all c:=by
 rw[sO,iV,iV];constructor
 ·intro q l hl;obtain⟨j,hj⟩:=jm hl;obtain⟨i,l0,l',h1,h2,h3,h4,_⟩:=h j (aW.1 hj).1;rw[hj]at h1;cases h1;rw[<- hc l l' (hK.dZ l hl) h3 h4];exact q l' (aR h2)
 ·intro q l' hl';obtain⟨i,hi⟩:=jm hl';obtain⟨j,l,l0,h1,h2,h3,h4,_⟩:=WO hK hs h (aW.1 hi).1;rw[hi]at h2;cases h2;rw[hc l l' (hK.dZ l (aR h1)) h3 h4];exact q l (aR h1)
theorem akX{k:aU}{s t:List Int}{g:Clue}:(gV k s t g).aN=g.aN:=by
 unfold gV;split<;>rfl
theorem akY{k:aU}{s t:List Int}{p x:List Clue}{grid y:List Int}{r:bV}(hK:bF k)(hk:gB k s t)(hG:iq k.grid.cells.length k.decl.symbols.length s t grid y)(hQ:iQ k p)(hx:jP (p.map (gV k s t)) x)(hr:r∈k.decl.rules):BL k x y r=BL k p grid r:=by
 have hxm:=QH hK hk hQ hx;obtain⟨k0,k1,k3,k4,k5,k6⟩:=hk.rule hr;obtain⟨s1,s2⟩:=Li hk.ps k0;have hkd:=hK.kinds hr;have hin:=(hK.inr hr).fP;have hL:k.lists[r.family.toNat]? =some (k.lists[r.family.toNat]'(by omega)):=bC _;have jb:=hK.Lf hL;rw[rE hin.1]at jb;rw[fC hL]at k1 k4 k5;generalize hLe:k.lists[r.family.toNat]'(by omega)=L at hL jb k1 k4 k5;have hcl:∀g∈p,(gV k s t g).aN=g.aN:=λg _=>akX;have hrc:=hK.YQ hr;have Ee:∀g∈p,g.aN=r.aN->0<=r.aN->∃c L' j i l l',Ea k s t g c L' j i l l'/\yH c r/\kv k.grid.cells.length l:=λg hg e h0=>by
  obtain⟨c,L',j,i,l,l',G⟩:=vN hK hk (hQ.right g hg);refine⟨c,L',j,i,l,l',G,?_,G.fP.dZ l (aR G.hl)⟩;rcases hrc with a|⟨c',b1,b2,b3⟩
  ·omega
  ·rw[<- e,G.hc]at b2;cases b2;exact b3
 show oZ k x y r r.set.toNat r.other.toNat=oZ k p grid r r.set.toNat r.other.toNat
 unfold oZ;by_cases e1:r.kind=1
 ·rw[if_pos e1,if_pos e1];refine Ed hxm (λh0=>?_) (λh0 g hg e=>?_) hcl
  ·rw[fC hL];exact Lj jb hk.pc ((vG jb hk.pc).1 (k1 (.inl e1))) λl l' hl hp _=>hG.yu hl hp
  ·obtain⟨c,L',j,i,l,l',G,hcr,hl⟩:=Ee g hg e h0;unfold yH at hcr;omega
 rw[if_neg e1,if_neg e1];by_cases e2:r.kind=2
 ·rw[if_pos e2,if_pos e2];refine Ed hxm (λh0=>?_) (λh0 g hg e=>?_) hcl
  ·rw[fC hL];refine Lj jb hk.pc ((vG jb hk.pc).1 (k1 (.inr (.inl e2)))) λl l' hl hp _=>?_;unfold cB;rw[hG.cnt s1 hl hp]
  ·obtain⟨c,L',j,i,l,l',G,hcr,hl⟩:=Ee g hg e h0;have ht:c.type=2:=by unfold yH at hcr;omega
   rw[G.cells,G.cells',G.img];unfold cB qA;dsimp only;rw[if_neg (by omega),if_neg (by omega),hG.cnt s1 hl G.perm]
 rw[if_neg e2,if_neg e2];by_cases e3:r.kind=3
 ·have hV:=Eb hk.ps (k3 (.inl e3));rw[if_pos e3,if_pos e3];refine Ed hxm (λh0=>?_) (λh0 g hg e=>?_) hcl
  ·rw[fC hL];refine Lj jb hk.pc ((vG jb hk.pc).1 (k1 (.inr (.inr e3)))) λl l' hl hp _=>?_;unfold cC;rw[hG.nW hV hl hp]
  ·obtain⟨c,L',j,i,l,l',G,hcr,hl⟩:=Ee g hg e h0;have ht:c.type=2:=by unfold yH at hcr;omega
   rw[G.cells,G.cells',G.img];unfold cC qA;dsimp only;rw[if_neg (by omega),if_neg (by omega),hG.nW hV hl G.perm]
 rw[if_neg e3,if_neg e3];by_cases e4:r.kind=4
 ·have hV:=Eb hk.ps (k3 (.inr (.inl e4)));rw[if_pos e4,if_pos e4];refine Ed hxm (λh0=>?_) (λh0 g hg e=>?_) hcl
  ·rw[fC hL];refine Lj jb hk.pc ((vG jb hk.pc).1 (k4 e4)) λl l' hl _ he=>?_;unfold cD;dsimp only;rw[show l'=img s l from jg he,hG.yx hV hl]
  ·obtain⟨c,L',j,i,l,l',G,hcr,hl⟩:=Ee g hg e h0;unfold yH at hcr;omega
 rw[if_neg e4,if_neg e4];by_cases e5:r.kind=5
 ·rw[if_pos e5,if_pos e5];refine Ed hxm (λh0=>?_) (λh0 g hg e=>?_) hcl
  ·omega
  ·obtain⟨c,L',j,i,l,l',G,hcr,hl⟩:=Ee g hg e h0;have ht:c.type=3:=by unfold yH at hcr;omega
   have he:=G.eq;rw[G.cells,G.cells',G.img];unfold yI at he;rw[if_pos ht]at he;unfold uy at he;rw[wW,kL,kL]at he;unfold cE qA gD;dsimp only;rw[if_neg (by omega)];by_cases e0:img s l=l'
   ·rw[if_neg (by simp[e0]),<- e0,hG.rn s1 hl]
   ·have he:=he.resolve_left (λq=>e0 q.symm);have e0':(img s l).reverse=l':=he.symm;rw[if_pos (by simp[ht,e0,e0']),he,akW,hG.rn s1 hl];refine nK.2 ⟨λq=>?_,λq=>by rw[q]⟩;have:=congrArg List.reverse q
    rwa [Ci,Ci]at this
 rw[if_neg e5,if_neg e5];have hn:kZ k.aA s=true\/r.kind=11:=by
  by_cases e11:r.kind=11
  ·exact .inr e11
  ·exact .inl (k6 (by omega))
 by_cases e6:r.kind=6
 ·rw[if_pos e6,if_pos e6];refine hG.QI hK.Ac (hn.resolve_right (by omega)) λa b a0 a1 b0 b1=>?_;unfold nF;refine nK.2 ⟨λq e=>q (by rw[e]),λq e=>q (hk.ps.inj a0 a1 b0 b1 e)⟩
 rw[if_neg e6,if_neg e6];by_cases e7:r.kind=7
 ·have hV:=Eb hk.ps (k3 (.inr (.inr e7)));rw[if_pos e7,if_pos e7];refine hG.QI hK.Ac (hn.resolve_right (by omega)) λa b a0 a1 b0 b1=>?_;unfold nG;rw[hV a a0 a1,hV b b0 b1]
 rw[if_neg e7,if_neg e7];by_cases e8:r.kind=8
 ·rw[if_pos e8,if_pos e8];refine hG.QI hK.Ac (hn.resolve_right (by omega)) λa b a0 a1 b0 b1=>?_;unfold nH;rw[s1 a a0 a1,s2 b b0 b1]
 rw[if_neg e8,if_neg e8];by_cases e9:r.kind=9
 ·rw[if_pos e9,if_pos e9];exact l7.join (hG.YU hK.YO hK.Ac hK.YP (hn.resolve_right (by omega)) s1) false
 rw[if_neg e9,if_neg e9];by_cases e10:r.kind=10
 ·rw[if_pos e10,if_pos e10];exact l7.join (hG.YU hK.YO hK.Ac hK.YP (hn.resolve_right (by omega)) s1) true
 rw[if_neg e10,if_neg e10];refine Ed hxm (λh0=>?_) (λh0 g hg e=>?_) hcl
 ·omega
 ·obtain⟨c,L',j,i,l,l',G,hcr,hl⟩:=Ee g hg e h0;have ht:c.type=1/\c.family=0:=by unfold yH at hcr;omega
  have hRg:=hQ.right g hg;rw[G.cells,G.cells',G.img];obtain⟨c',L2,h1,h2,h3,h4,h5,h6⟩:=hRg;rw[G.hc]at h2;cases h2;have hv:g.values.length=1/\∀x∈g.values,0<=x/\x<=(k.decl.symbols.length:Int) - 1:=by
   rcases h6 with⟨a,b⟩|⟨a,_⟩|⟨a,_⟩
   ·exact b
   ·omega
   ·omega
  unfold cK qA;dsimp only;rw[if_pos ht.1];have hl0:L'=lH k.grid.cells.length:=by
   have:=G.hL;rw[ht.2,hK.lists]at this;exact(Option.some.inj this).symm.trans (by rw[hK.grid];rfl)
  have hjl:=(aW.1 G.hl).1;have hll:l=[(j:Int)]:=by
   have:=G.hl;rw[hl0]at this;unfold lH at this;rw[dR]at this;obtain⟨q,hq,e⟩:=jU.1 this;have:=aW.1 hq;obtain⟨a,b⟩:=this;rw[Ry]at b;rw[<- e,b]
  have ak1:l'=[aP s (j:Int)]:=by
   have:=G.perm;rw[hll]at this;exact List.perm_singleton.1 this
  have hjr:(j:Int)<(k.grid.cells.length:Int):=by
   have:=hl (j:Int) (by rw[hll];exact bO.2 rfl);exact this.2
  obtain⟨v,zK⟩:∃v,g.values=[v]:=by
   match hgv:g.values,hv.1 with
   |[v],_=>exact⟨v,rfl⟩
  have oD:=hv.2 v (by rw[zK];exact bO.2 rfl);rw[hll,ak1,zK];show decide (aP y (aP s (j:Int))=aP t v)=decide (aP grid (j:Int)=v);rw[hG.at_ _ (by omega) hjr];have hgr:=hG.dZ (by omega:(0:Int)<=(j:Int)) hjr;exact nK.2 ⟨λq=>hk.ps.inj hgr.1 hgr.2 oD.1 (by omega) q,λq=>by rw[q]⟩
theorem YV{α β:Type}{f g:α->Option β}:∀{xs:List α},(∀a∈xs,f a=g a)->xs.filterMap f=xs.filterMap g
 |[],_=>rfl
 |a::xs,h=>by rw[List.filterMap_cons,List.filterMap_cons,h a bR,YV λb hb=>h b (bU _ hb)]
theorem ak2{k:aU}{s t:List Int}{p x:List Clue}{grid y:List Int}(hK:bF k)(hk:gB k s t)(hG:iq k.grid.cells.length k.decl.symbols.length s t grid y)(hQ:iQ k p)(hx:jP (p.map (gV k s t)) x):kw k x y k.decl.rules=kw k p grid k.decl.rules:=by
 unfold kw;refine YV λa ha=>?_;have hm:a.1∈k.decl.rules:=aR (vV.1 (show(a.1,a.2)∈_ from ha));rw[akY hK hk hG hQ hx hm]
end Go.Proofs.YtfakljdleblkoaaGreat
namespace Go.Proofs.YtfakljdleblkoaaGreat
open Go.Ideal Kd Canon Gph
structure wR(eq:List Int->List Int->Bool):Prop where
 symm:∀a b,eq a b=true->eq b a=true
 trans:∀a b c,eq a b=true->eq b c=true->eq a c=true
 img:∀s a b,eq a b=true->eq (img s a) (img s b)=true
theorem Gv:wR jR:=by
 refine⟨λa b h=>?_,λa b c h1 h2=>?_,λs a b h=>?_⟩
 ·rw[DC]at h⊢;exact h.symm
 ·rw[DC]at h1 h2⊢;exact h1.trans h2
 ·rw[DC]at h⊢;exact Kl s h
theorem YW:wR ym:=by
 refine⟨λa b h=>?_,λa b c h1 h2=>?_,λs a b h=>?_⟩
 ·unfold ym at h⊢;rw[kL]at h⊢;exact h.symm
 ·unfold ym at h1 h2⊢;rw[kL]at h1 h2⊢;exact h1.trans h2
 ·unfold ym at h⊢;rw[kL]at h⊢;rw[h]
theorem QJ:wR uy:=by
 refine⟨λa b h=>?_,λa b c h1 h2=>?_,λs a b h=>?_⟩
 ·rw[Ga]at h⊢;rcases h with rfl|rfl
  ·exact .inl rfl
  ·exact .inr (by rw[Ci])
 ·rw[Ga]at h1 h2⊢;rcases h1 with rfl|rfl
  ·exact h2
  ·rcases h2 with rfl|rfl
   ·exact .inr rfl
   ·exact .inl (by rw[Ci])
 ·rw[Ga]at h⊢;rcases h with rfl|rfl
  ·exact .inl rfl
  ·exact .inr (Km s b)
theorem YX(c:iI):wR (yI c):=by
 unfold yI;split
 ·exact QJ
 ·exact Gv
section
variable {n m:Nat} {s t s2 t2:List Int} {L:List (List Int)} {f:Int} {eq:List Int->List Int->Bool}
theorem YY(hR:wR eq)(hK:oQ n L f)(hs:dB n s){j i:Nat}(h:Goes L s f eq j i):Goes L (dz s) f eq i j:=by
 obtain⟨l,l',h1,h2,h3,h4,h5⟩:=h;have hl:=hK.dZ l (aR h1);refine⟨l',l,h2,h1,?_,?_,λhb=>?_⟩
 ·have:=Kl (dz s) h3;rw[Bv hs hl]at this;exact this.symm
 ·have:=hR.img (dz s) _ _ h4;rw[Bv hs hl]at this;exact hR.symm _ _ this
 ·have hn:=hK.len hb;have:=(aW.1 h1).1;rw[h5 hb,hs.uu (by omega) (by omega)]
theorem ak3(hR:wR eq)(hK:oQ n L f)(hs:dB n s)(h:jS L s f eq=true):jS L (dz s) f eq=true:=by
 have h:=(vG hK hs).1 h;refine(vG hK hs.inv).2 λi hi=>?_;obtain⟨j,hj⟩:=WO hK hs h hi;exact⟨j,YY hR hK hs hj⟩
theorem YZ(hR:wR eq)(hK:oQ n L f)(hs:dB n s)(hs2:dB n s2){j i i2:Nat}(h:Goes L s f eq j i)(h2:Goes L s2 f eq i i2):Goes L (bW s2 s) f eq j i2:=by
 obtain⟨l,l',a1,a2,a3,a4,a5⟩:=h;obtain⟨l0,l2,b1,b2,b3,b4,b5⟩:=h2;rw[a2]at b1;cases b1;have hl:=hK.dZ l (aR a1);have hc:img (bW s2 s) l=img s2 (img s l):=Ph (by rw[hs.len];exact hl);refine⟨l,l2,a1,b2,?_,?_,λhb=>?_⟩
 ·rw[hc];exact b3.trans (Kl s2 a3)
 ·rw[hc];exact hR.trans _ _ _ b4 (hR.img s2 _ _ a4)
 ·have hn:=hK.len hb;have:=(aW.1 a1).1;rw[b5 hb,a5 hb,wL (by omega) (by rw[hs.len];omega)]
theorem ak4(hR:wR eq)(hK:oQ n L f)(hs:dB n s)(hs2:dB n s2)(h:jS L s f eq=true)(h2:jS L s2 f eq=true):jS L (bW s2 s) f eq=true:=by
 have h:=(vG hK hs).1 h;have h2:=(vG hK hs2).1 h2;refine(vG hK (hs2.comp hs)).2 λj hj=>?_;obtain⟨i,hi⟩:=h j hj;obtain⟨i2,hi2⟩:=h2 i hi.lt.2;exact⟨i2,YZ hR hK hs hs2 hi hi2⟩
theorem Y0{set other:Nat}(ht:dB m t)(h1:nI m t set)(h2:nI m t other):qp set other t=true:=by
 unfold qp;rw[qw];intro i x hx;have hl:=(aW.1 hx).1;have hlen:=ht.len;have e:=jJ hx;have a:=h1 (i:Int) (by omega) (by omega);have b:=h2 (i:Int) (by omega) (by omega);rw[e,eX]at a b;dsimp only;rw[eU,kL,kL];exact⟨a.symm,b.symm⟩
theorem Y1{vals:List Int}(ht:dB m t)(h:rA m t vals):nC vals t=true:=by
 unfold nC;rw[qw];intro i x hx;have hl:=(aW.1 hx).1;have hlen:=ht.len;have a:=h (i:Int) (by omega) (by omega);rw[jJ hx]at a;exact fQ a.symm
theorem nI.inv{set:Nat}(ht:dB m t)(h:nI m t set):nI m (dz t) set:=by
 intro v v0 v1;have r:=ht.inv.at_ v0 v1;have:=h _ r.1 r.2;rw[ht.Ki v0 v1]at this;exact this.symm
theorem rA.inv{vals:List Int}(ht:dB m t)(h:rA m t vals):rA m (dz t) vals:=by
 intro v v0 v1;have r:=ht.inv.at_ v0 v1;have:=h _ r.1 r.2;rw[ht.Ki v0 v1]at this;exact this.symm
theorem nI.comp{set:Nat}(ht:dB m t)(h:nI m t set)(h2:nI m t2 set):nI m (bW t2 t) set:=by
 intro v v0 v1;have r:=ht.at_ v0 v1;rw[wL v0 (by rw[ht.len];exact v1),h2 _ r.1 r.2,h _ v0 v1]
theorem rA.comp{vals:List Int}(ht:dB m t)(h:rA m t vals)(h2:rA m t2 vals):rA m (bW t2 t) vals:=by
 intro v v0 v1;have r:=ht.at_ v0 v1;rw[wL v0 (by rw[ht.len];exact v1),h2 _ r.1 r.2,h _ v0 v1]
theorem ak5{aA:List (List Int)}(hN:sD n aA)(hs:dB n s)(h:kZ aA s=true):kZ aA (dz s)=true:=by
 have h:=(Bw hN hs).1 h;refine(Bw hN hs.inv).2 λa b hab=>?_;obtain⟨c,d,hcd,rfl,rfl⟩:=Kq hN hs h hab;have hr:=hcd.dZ hN;rw[hs.uu hr.1.1 hr.1.2,hs.uu hr.2.1 hr.2.2];exact hcd
theorem ak6{aA:List (List Int)}(hN:sD n aA)(hs:dB n s)(hs2:dB n s2)(h:kZ aA s=true)(h2:kZ aA s2=true):kZ aA (bW s2 s)=true:=by
 have h:=(Bw hN hs).1 h;have h2:=(Bw hN hs2).1 h2;refine(Bw hN (hs2.comp hs)).2 λa b hab=>?_;have hr:=hab.dZ hN;have hl:=hs.len;rw[wL hr.1.1 (by omega),wL hr.2.1 (by omega)];exact h2 _ _ (h _ _ hab)
end
theorem ak7{k:aU}{s t s' t':List Int}{r:bV}(hS:qp r.set.toNat r.other.toNat t=true->qp r.set.toNat r.other.toNat t'=true)
 (hL:∀eq,wR eq->jS (k.lists.getD r.family.toNat []) s r.family eq=true->jS (k.lists.getD r.family.toNat []) s' r.family eq=true)
 (hV:nC (gu k) t=true->nC (gu k) t'=true) (hN:kZ k.aA s=true->kZ k.aA s'=true) (h:keepR k s t r=true):keepR k s' t' r=true:=by
 unfold keepR lc at h⊢;rw[eU]at h⊢;refine⟨hS h.1,?_⟩;have h2:=h.2;split at h2
 ·rename_i e;rw[if_pos e];exact hL _ Gv h2
 rename_i e;rw[if_neg e];split at h2
 ·rename_i e;rw[if_pos e];rw[eU]at h2⊢;exact⟨hL _ Gv h2.1,hV h2.2⟩
 rename_i e;rw[if_neg e];split at h2
 ·rename_i e;rw[if_pos e];rw[eU]at h2⊢;exact⟨hL _ YW h2.1,hV h2.2⟩
 rename_i e;rw[if_neg e];split at h2
 ·rename_i e;rw[if_pos e];exact hL _ QJ h2
 rename_i e;rw[if_neg e];split at h2
 ·rename_i e;rw[if_pos e];rw[eU]at h2⊢;exact⟨hN h2.1,hV h2.2⟩
 rename_i e;rw[if_neg e];split at h2
 ·rename_i e;rw[if_pos e];exact hN h2
 rename_i e;rw[if_neg e]
theorem bF.Y2{k:aU}(hK:bF k){r:bV}(hr:r∈k.decl.rules):oQ k.grid.cells.length (k.lists.getD r.family.toNat []) r.family:=by
 have hin:=(hK.inr hr).fP;have hL:k.lists[r.family.toNat]? =some (k.lists[r.family.toNat]'(by omega)):=bC _;have jb:=hK.Lf hL;rw[rE hin.1]at jb;rw[fC hL];exact jb
theorem gB.inv{k:aU}{s t:List Int}(hK:bF k)(h:gB k s t):gB k (dz s) (dz t):=by
 refine⟨h.pc.inv,h.ps.inv,λr hr=>?_⟩;refine ak7 (λa=>?_) (λeq hR a=>ak3 hR (hK.Y2 hr) h.pc a) (λa=>Y1 h.ps.inv (rA.inv h.ps (Eb h.ps a))) (λa=>ak5 hK.Ac h.pc a) (h.oO r hr);obtain⟨b,c⟩:=Li h.ps a;exact Y0 h.ps.inv (nI.inv h.ps b) (nI.inv h.ps c)
theorem gB.comp{k:aU}{s t s2 t2:List Int}(hK:bF k)(h:gB k s t)(h2:gB k s2 t2):gB k (bW s2 s) (bW t2 t):=by
 refine⟨h2.pc.comp h.pc,h2.ps.comp h.ps,λr hr=>?_⟩;have g2:=h2.oO r hr;have k2:=h2.rule hr;unfold keepR lc at g2⊢;have g1:=h.oO r hr;unfold keepR lc at g1;rw[eU]at g1 g2⊢;have jb:=hK.Y2 hr;have L1:∀eq,wR eq->jS (k.lists.getD r.family.toNat []) s r.family eq=true->jS (k.lists.getD r.family.toNat []) s2 r.family eq=true->jS (k.lists.getD r.family.toNat []) (bW s2 s) r.family eq=true:=λeq hR a b=>ak4 hR jb h.pc h2.pc a b;have V1:nC (gu k) t=true->nC (gu k) t2=true->nC (gu k) (bW t2 t)=true:=λa b=>Y1 (h2.ps.comp h.ps) (rA.comp h.ps (Eb h.ps a) (Eb h2.ps b));have N1:kZ k.aA s=true->kZ k.aA s2=true->kZ k.aA (bW s2 s)=true:=λa b=>ak6 hK.Ac h.pc h2.pc a b;obtain⟨b,c⟩:=Li h.ps g1.1;obtain⟨b2,c2⟩:=Li h2.ps g2.1;refine⟨Y0 (h2.ps.comp h.ps) (nI.comp h.ps b b2) (nI.comp h.ps c c2),?_⟩;have g1:=g1.2;have g2:=g2.2;split at g1
 ·rename_i e;rw[if_pos e]at g2⊢;exact L1 _ Gv g1 g2
 rename_i e;rw[if_neg e]at g2⊢;split at g1
 ·rename_i e;rw[if_pos e]at g2⊢;rw[eU]at g1 g2⊢;exact⟨L1 _ Gv g1.1 g2.1,V1 g1.2 g2.2⟩
 rename_i e;rw[if_neg e]at g2⊢;split at g1
 ·rename_i e;rw[if_pos e]at g2⊢;rw[eU]at g1 g2⊢;exact⟨L1 _ YW g1.1 g2.1,V1 g1.2 g2.2⟩
 rename_i e;rw[if_neg e]at g2⊢;split at g1
 ·rename_i e;rw[if_pos e]at g2⊢;exact L1 _ QJ g1 g2
 rename_i e;rw[if_neg e]at g2⊢;split at g1
 ·rename_i e;rw[if_pos e]at g2⊢;rw[eU]at g1 g2⊢;exact⟨N1 g1.1 g2.1,V1 g1.2 g2.2⟩
 rename_i e;rw[if_neg e]at g2⊢;split at g1
 ·rename_i e;rw[if_pos e]at g2⊢;exact N1 g1 g2
 rename_i e;rw[if_neg e]
theorem QK{c:iI}{s l l':List Int}(h3:c.type=3)(he:yI c l' (img s l)=true)(h:gD s l l'=false):l'=img s l:=by
 unfold yI at he;rw[if_pos h3,Ga]at he;rcases he with e|e
 ·exact e
 ·unfold gD at h;rw[e]at h;simp at h;rw[e];exact h.symm
theorem QL{s l l':List Int}(h:gD s l l'=true):img s l≠l'/\(img s l).reverse=l':=by
 unfold gD at h;simp at h;exact h
theorem Y3{s l l':List Int}(h1:img s l≠l')(h2:(img s l).reverse=l'):gD s l l'=true:=by
 unfold gD;simp[h1,h2]
theorem Y4{s l:List Int}:gD s l (img s l)=false:=by
 unfold gD;simp
theorem Ea.vals{k:aU}{s t:List Int}{g:Clue}{c:iI}{L:List (List Int)}{j i:Nat}{l l':List Int}(G:Ea k s t g c L j i l l')(hR:kY k g):c.type=1->∀x∈g.values,0<=x/\x<(k.decl.symbols.length:Int):=by
 intro h1 x hx;obtain⟨c',L',a1,a2,a3,a4,a5,a6⟩:=hR;rw[G.hc]at a2;cases a2;rcases a6 with⟨_,_,b⟩|⟨b,_⟩|⟨b,_⟩
 ·have:=b x hx;omega
 ·omega
 ·omega
theorem Y5{k:aU}{s t:List Int}(hK:bF k)(hk:gB k s t){g:Clue}(hg:kY k g):gV k (dz s) (dz t) (gV k s t g)=g:=by
 obtain⟨c,L,j,i,l,l',G⟩:=vN hK hk hg;have hg2:=Lg hK hk hg;obtain⟨c2,L2,i2,j2,m',m,G2⟩:=vN hK (hk.inv hK) hg2;have h1:=G2.hc;rw[G.img]at h1;dsimp only at h1;rw[G.hc]at h1;cases h1;have h2:=G2.hL;rw[G.hL]at h2;cases h2;have h3:=G2.at_;rw[G.img]at h3;dsimp only at h3;have hii:i2=i:=by omega
 subst hii;have hgi:=YY (YX c) G.fP hk.pc G.goes;have h4:=hgi.gW G.fP;have h5:=G2.goes.gW G.fP;have hjj:j2=j:=by omega
 subst hjj;have h6:=G2.hl;rw[G.hl']at h6;cases h6;have h7:=G2.hl';rw[G.hl]at h7;cases h7;have hl:=G.fP.dZ l (aR G.hl);rw[G2.img,G.img];dsimp only;have hval:qA c (dz s) (dz t) l' l (qA c s t l l' g.values)=g.values:=by
  unfold qA;by_cases t1:c.type=1
  ·rw[if_pos t1,if_pos t1,Bv hk.ps (G.vals hg t1)]
  ·rw[if_neg t1,if_neg t1];by_cases t3:c.type=3
   ·cases hT:gD s l l' with
    |false=>
     have e:=QK t3 G.eq hT;have:gD (dz s) l' l=false:=by
      have e2:img (dz s) l'=l:=by rw[e,Bv hk.pc hl]
      have:=Y4 (s:=dz s) (l:=l');rw[e2]at this;exact this
     rw[this,if_neg (by simp),if_neg (by simp)]
    |true=>
     obtain⟨a,b⟩:=QL hT;have hrev:(img (dz s) l').reverse=l:=by rw[<- b,Km,Ci,Bv hk.pc hl]
     have:gD (dz s) l' l=true:=by
      refine Y3 (λe=>a ?_) hrev;rw[<- e,ag1 hk.pc];exact G.fP.dZ l' (aR G.hl')
     rw[this,if_pos ⟨t3,rfl⟩,if_pos ⟨t3,rfl⟩,Ci]
   ·rw[if_neg (λq=>t3 q.1),if_neg (λq=>t3 q.1)]
 rw[hval];obtain⟨gc,ga,gv⟩:=g;have:=G.at_;dsimp only at this⊢;rw[this]
theorem Y6{k:aU}{s t s2 t2:List Int}(hK:bF k)(hk:gB k s t)(hk2:gB k s2 t2){g:Clue}(hg:kY k g):gV k s2 t2 (gV k s t g)=gV k (bW s2 s) (bW t2 t) g:=by
 obtain⟨c,L,j,i,l,l',G⟩:=vN hK hk hg;have hg2:=Lg hK hk hg;obtain⟨c2,L2,i2,j2,m',m,G2⟩:=vN hK hk2 hg2;obtain⟨c3,L3,j3,j4,m3,m4,G3⟩:=vN hK (hk.comp hK hk2) hg;have h1:=G2.hc;rw[G.img]at h1;dsimp only at h1;rw[G.hc]at h1;cases h1;have h1:=G3.hc;rw[G.hc]at h1;cases h1;have h2:=G2.hL;rw[G.hL]at h2;cases h2;have h2:=G3.hL;rw[G.hL]at h2;cases h2;have h3:=G2.at_;rw[G.img]at h3;dsimp only at h3;have hii:i2=i:=by omega
 subst hii;have h3:=G3.at_;rw[G.at_]at h3;have hjj:j3=j:=by omega
 subst hjj;have hgc:=YZ (YX c) G.fP hk.pc hk2.pc G.goes G2.goes;have h4:=hgc.gW G.fP;have h5:=G3.goes.gW G.fP;have hjj:j4=j2:=by omega
 subst hjj;have h6:=G2.hl;rw[G.hl']at h6;cases h6;have h6:=G3.hl;rw[G.hl]at h6;cases h6;have h7:=G3.hl';rw[G2.hl']at h7;cases h7;have hl:=G.fP.dZ l (aR G.hl);have hl':=G.fP.dZ l' (aR G.hl');have hcc:img (bW s2 s) l=img s2 (img s l):=Ph (by rw[hk.pc.len];exact hl);rw[G2.img,G3.img,G.img];dsimp only;have hval:qA c s2 t2 l' m (qA c s t l l' g.values)=qA c (bW s2 s) (bW t2 t) l m g.values:=by
  unfold qA;by_cases t1:c.type=1
  ·rw[if_pos t1,if_pos t1,if_pos t1,Ph (by rw[hk.ps.len];exact G.vals hg t1)]
  ·rw[if_neg t1,if_neg t1,if_neg t1];by_cases t3:c.type=3
   ·cases hT:gD s l l' with
    |false=>
     have e:=QK t3 G.eq hT;have:gD (bW s2 s) l m=gD s2 l' m:=by
      unfold gD;rw[hcc,<- e]
     rw[this,if_neg (by simp:¬(c.type=3/\false=true))]
    |true=>
     obtain⟨a,b⟩:=QL hT;rw[if_pos (⟨t3,rfl⟩:c.type=3/\true=true)];have e2:img s2 l'=(img (bW s2 s) l).reverse:=by rw[<- b,Km,hcc]
     have hsl:=kv.img hk.pc hl;have hne:img (bW s2 s) l≠(img (bW s2 s) l).reverse:=λq=>a (by
      rw[hcc,<- Km]at q;rw[<- b];exact WL hk2.pc hsl (λx hx=>hsl x (List.mem_reverse.1 hx)) q)
     cases D5:gD s2 l' m with
     |false=>
      have e:=QK t3 G2.eq D5;have:gD (bW s2 s) l m=true:=by
       refine Y3 ?_ ?_
       ·rw[e,e2];exact hne
       ·rw[e,e2]
      rw[this,if_neg (by simp),if_pos ⟨t3,rfl⟩]
     |true=>
      obtain⟨a2,b2⟩:=QL D5;have e3:m=img (bW s2 s) l:=by rw[<- b2,e2,Ci]
      have:gD (bW s2 s) l m=false:=by rw[e3];exact Y4
      rw[this,if_pos ⟨t3,rfl⟩,if_neg (by simp),Ci]
   ·rw[if_neg (λq=>t3 q.1),if_neg (λq=>t3 q.1),if_neg (λq=>t3 q.1)]
 rw[hval]
theorem ak8{k:aU}{s t:List Int}{p x a:List Clue}(hK:bF k)(hk:gB k s t)(hQ:iQ k p)(hx:jP (p.map (gV k s t)) x)(ha:jP (x.map (gV k (dz s) (dz t))) a):a=p:=by
 have hxm:=QH hK hk hQ hx;have h1:jP p a:=by
  refine ha.Wz λg=>?_;rw[cZ];constructor
  ·intro hg;exact⟨gV k s t g,(hxm _).2 (cZ.2 ⟨g,hg,rfl⟩),Y5 hK hk (hQ.right g hg)⟩
  ·rintro⟨y,hy,rfl⟩;obtain⟨g,hg,rfl⟩:=cZ.1 ((hxm _).1 hy);rw[Y5 hK hk (hQ.right g hg)];exact hg
 have h2:jP p p:=⟨akS hQ,λ_ h=>h,λx hx=>⟨x,hx,by rw[qX];exact⟨rfl,rfl⟩,by have:=((wy ww).zero x.values x.values).2 rfl;omega⟩⟩
 exact h1.uniq h2
theorem ak9{k:aU}{s t s2 t2:List Int}{p x a v:List Clue}(hK:bF k)(hk:gB k s t)(hk2:gB k s2 t2)(hQ:iQ k p)(hx:jP (p.map (gV k s t)) x)(ha:jP (x.map (gV k s2 t2)) a)(hv:jP (p.map (gV k (bW s2 s) (bW t2 t))) v):a=v:=by
 have hxm:=QH hK hk hQ hx;refine ha.uniq (hv.Wz λg=>?_);rw[cZ,cZ];constructor
 ·rintro⟨y,hy,rfl⟩;obtain⟨g,hg,rfl⟩:=cZ.1 ((hxm _).1 hy);exact⟨g,hg,(Y6 hK hk hk2 (hQ.right g hg)).symm⟩
 ·rintro⟨g,hg,rfl⟩;exact⟨gV k s t g,(hxm _).2 (cZ.2 ⟨g,hg,rfl⟩),Y6 hK hk hk2 (hQ.right g hg)⟩
theorem ala{n:Nat}{a b:List Int}(ha:a.length=n)(hb:b.length=n)(h:∀c:Int,0<=c->c<(n:Int)->aP a c=aP b c):a=b:=by
 apply iF;intro i;by_cases hi:i<n
 ·have h1:=vD (p:=a) (c:=(i:Int)) (by omega) (by omega);have h2:=vD (p:=b) (c:=(i:Int)) (by omega) (by omega);rw[eX]at h1 h2;rw[h1,h2,h _ (by omega) (by omega)]
 ·rw[fu (by omega),fu (by omega)]
section
variable {n m:Nat} {s t s2 t2 grid y z:List Int}
theorem iq.uniq(h:iq n m s t grid y)(h2:iq n m s t grid z):y=z:=by
 refine ala h.vO h2.vO λd d0 d1=>?_;obtain⟨c,c0,c1,rfl⟩:=h.ps.onto d0 d1;rw[h.at_ c c0 c1,h2.at_ c c0 c1]
theorem iq.back(h:iq n m s t grid y):iq n m (dz s) (dz t) y grid:=by
 refine⟨h.ps.inv,h.pt.inv,h.vO,h.len,λx hx=>h.mem hx,λd d0 d1=>?_⟩;obtain⟨c,c0,c1,rfl⟩:=h.ps.onto d0 d1;have r:=h.dZ c0 c1;rw[h.ps.uu c0 c1,h.at_ c c0 c1,h.pt.uu r.1 r.2]
theorem iq.comp(h:iq n m s t grid y)(h2:iq n m s2 t2 y z):iq n m (bW s2 s) (bW t2 t) grid z:=by
 refine⟨h2.ps.comp h.ps,h2.pt.comp h.pt,h.len,h2.vO,h.iJ,λc c0 c1=>?_⟩;have r:=h.ps.at_ c0 c1;have g:=h.dZ c0 c1;rw[wL c0 (by rw[h.ps.len];exact c1),h2.at_ _ r.1 r.2,h.at_ c c0 c1,wL g.1 (by rw[h.pt.len];exact g.2)]
end

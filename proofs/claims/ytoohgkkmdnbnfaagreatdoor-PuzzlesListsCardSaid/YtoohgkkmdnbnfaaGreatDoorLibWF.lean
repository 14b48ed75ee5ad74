/-
  Constraints met.
-/
import Derived.Test.YtoohgkkmdnbnfaaGreatDoorLibNF
set_option linter.all false
set_option maxRecDepth 10000
set_option maxHeartbeats 2000000
namespace Go.Proofs.YtoohgkkmdnbnfaaGreatDoor
open Go.Ideal Gph
structure aiC(q:Bz)(c:kM)(grid:List Int):Prop where
 gr:Te grid
 ce:Tf grid c.cells
 vs:Tg q.values grid
 st:0<=c.set/\c.set<65537
 ot:0<=c.other/\c.other<65537
end Go.Proofs.YtoohgkkmdnbnfaaGreatDoor
namespace Go.Proofs.YtoohgkkmdnbnfaaGreatDoor
open Go.Ideal Gph
end Go.Proofs.YtoohgkkmdnbnfaaGreatDoor
set_option maxHeartbeats 1000000
namespace Go.Proofs.YtoohgkkmdnbnfaaGreatDoor
open Go.Ideal Kd Canon Gph
structure RF(k:bT)(r:aS):Prop where
 kd:1<=r.kind/\r.kind<=11
 x:qA (fO r.kind) k.decl.aI r
 UO:r.bW=ko↔r.aG<0
 s1:∃n:Nat,r.set=(n:Int)/\n<2^k.decl.symbols.length
 s2:∃n:Nat,r.other=(n:Int)/\n<2^k.decl.symbols.length
 f0:0<=r.family/\r.family<k.lists.length
 cl:0<=r.aG->(r.kind=2\/r.kind=3\/r.kind=5\/r.kind=11)/\∃c,k.decl.aI[r.aG.toNat]? =some c/\c.family=fD r/\nL c/\(r.kind=2\/r.kind=3->c.type=2)/\(r.kind=5->c.type=3)/\(r.kind=11->c.type=1)
 ncl:r.kind=5\/r.kind=11->0<=r.aG
 op:r.kind=2\/r.kind=3->1<=r.op/\r.op<=3
theorem UQ{dO:List ByteArray}:∀(l:List ByteArray),(∀s∈l,s∈dO)->fT dO l<2^dO.length:=by
 have h:∀(l:List ByteArray) (m:Nat),m<2^dO.length->(∀s∈l,s∈dO)->l.foldl (λm s=>m|||1<<<dR s dO) m<2^dO.length:=by
  intro l;induction l with
  |nil=>intro m hm _;exact hm
  |cons s l ih=>
   intro m hm hl;rw[tC];refine ih _ (Nat.or_lt_two_pow hm ?_) (λt ht=>hl t (dI _ ht));have:=xP (hl s (dL ..));rw[Nat.one_shiftLeft];exact Jh (by omega) (by omega)
 intro l hl;exact h l 0 (Nat.two_pow_pos _) hl
theorem fV.rf{k:bT}(hK:fV k){r:aS}(hr:r∈k.decl.rules):RF k r:=by
 have hty:=hK.typ;have hin:=hK.inr hr;obtain⟨q,hq,hre⟩:=hK.uw hr;have hro:=hK.b.rs.uw q hq;have hrx:=hty.form.kg r hr;have hkd:1<=r.kind/\r.kind<=11:=by
  refine afp ?_;have:=hty.read;unfold iV at this;rw[List.filterMap_eq_nil_iff]at this;obtain⟨j,hj⟩:=mH hr;have:=this (r,j) (yI.2 hj);cases h:(fO r.kind).read with
  |true=>rfl
  |false=>simp[h]at this
 have hsl:(bO k.decl).length=k.decl.symbols.length:=by unfold bO;rw[bU]
 have hb1:r.bW=q.bW:=by rw[hre];rfl
 have hb2:r.aG=if q.bW=ko then(-1:Int)else(dR q.bW (dH k.decl):Int):=by rw[hre];rfl
 have hby:r.bW=ko↔r.aG<0:=by
  rw[hb1,hb2];by_cases e:q.bW=ko
  ·rw[if_pos e];exact⟨λ_=>by omega,λ_=>e⟩
  ·rw[if_neg e];exact⟨λh=>absurd h e,λh=>by omega⟩
 refine⟨hkd,hrx,hby,⟨fT (bO k.decl) q.names,by rw[hre];rfl,by rw[<- hsl];exact UQ _ hro.names⟩,⟨fT (bO k.decl) q.others,by rw[hre];rfl,by rw[<- hsl];exact UQ _ hro.others⟩,hin.pG,?_,?_,?_⟩
 ·intro hc;have hne:r.bW≠ko:=λe=>by have:=hby.1 e;omega
  rcases hrx.Ub _ rfl with⟨_,a,_⟩|⟨a0,a1,a2,c,a3,a4,a5⟩
  ·exact absurd a hne
  have hcp:=(hty.form.jk _ c a3).2;have hk:r.kind=1\/r.kind=2\/r.kind=3\/r.kind=4\/r.kind=5\/r.kind=6\/r.kind=7\/r.kind=8\/r.kind=9\/r.kind=10\/r.kind=11:=by omega
  have hf:∀f:Int,fD r=f->c.family=f->c.family=fD r:=λf h1 h2=>by omega
  rcases hk with e|e|e|e|e|e|e|e|e|e|e<;>rw[e]at a0 a4 a5<;>simp[fO,hne]at a0 a4 a5
  ·exact⟨by omega,c,a3,by unfold fD;rw[if_neg (by omega),if_neg (by omega),if_neg (by omega)];exact a5,hcp,by omega,by omega,by omega⟩
  ·exact⟨by omega,c,a3,by unfold fD;rw[if_neg (by omega),if_neg (by omega),if_neg (by omega)];exact a5,hcp,by omega,by omega,by omega⟩
  ·exact⟨by omega,c,a3,by unfold fD;rw[if_neg (by omega),if_neg (by omega),if_neg (by omega)];exact a5,hcp,by omega,by omega,by omega⟩
  ·refine⟨by omega,c,a3,?_,hcp,by omega,by omega,by omega⟩;unfold fD;rw[if_neg (by omega),if_neg (by omega),if_pos e];unfold nL at hcp;omega
 ·intro h;rcases hrx.Ub _ rfl with⟨a0,_,_⟩|⟨_,a1,_⟩
  ·rcases h with e|e<;>rw[e]at a0<;>simp[fO]at a0
  ·exact a1
 ·intro h;refine hrx.op.1 ?_;rcases h with e|e<;>rw[e]<;>rfl
def tq(k:bT)(p:List Clue):Bz:=⟨k.grid.cells.length,k.decl.symbols.length,EI k,k.bE,jH k p⟩
theorem RF.list{k:bT}{r:aS}(hK:fV k)(h:RF k r):∃ls,k.lists[(fD r).toNat]? =some ls/\(∀l∈ls,zB k.grid.cells.length l/\l.Nodup)/\
 (r.kind=6\/r.kind=7\/r.kind=8->ls=gU k.bE)/\(r.kind=9\/r.kind=10->ls=[upTo' k.grid.cells.length])/\(r.kind=11->ls=j4 k.grid.cells.length):=by
 have hl:=hK.gV;have hf:=h.f0;have h8:(fD r).toNat<k.lists.length:=by
  unfold fD;repeat' split
  all_goals omega
 have hg:=hK.bV;have hrg:∀r∈k.decl.regions,vZ (aN k.decl) r.lists:=λr hr=>(hK.typ.zQ r hr).1.2;have hgc:k.grid.cells.length=(aN k.decl).cells.length:=by rw[hK.grid]
 have e:k.lists[(fD r).toNat]? =some (k.lists[(fD r).toNat]'h8):=cz _;generalize k.lists[(fD r).toNat]'h8=ls at e;have hm:=bI e;refine⟨ls,e,λl hl=>⟨?_,?_⟩,λhk=>?_,λhk=>?_,λhk=>?_⟩
 ·rw[hK.lists]at hm;rw[hgc];exact abY hg hrg _ hm l hl
 ·rw[hK.lists]at hm;exact acf hg hrg _ hm l hl
 ·have e6:fD r=6:=by unfold fD;rw[if_pos hk]
  have:k.lists[(fD r).toNat]? =some (gU k.bE):=by rw[hK.lists,hK.bE,e6];rfl
  rw[e]at this;exact Option.some.inj this
 ·have e7:fD r=7:=by unfold fD;rw[if_neg (by omega),if_pos hk]
  have:k.lists[(fD r).toNat]? =some [upTo' k.grid.cells.length]:=by rw[hgc,hK.lists,e7];rfl
  rw[e]at this;exact Option.some.inj this
 ·have e0:fD r=0:=by unfold fD;rw[if_neg (by omega),if_neg (by omega),if_pos hk]
  have:k.lists[(fD r).toNat]? =some (j4 k.grid.cells.length):=by rw[hgc,hK.lists,e0];rfl
  rw[e]at this;exact Option.some.inj this
theorem RF.vals{k:bT}{p:List Clue}{r:aS}{ls:List (List Int)}(h:RF k r)(hQ:kQ k p){y:Nat×List Int×List Int}(hy:y∈jD p r ls):
 (r.aG<0/\y.2.2=[])\/(0<=r.aG/\∃c,k.decl.aI[r.aG.toNat]? =some c/\nL c/\((c.type=1/\r.kind=11/\y.2.2.length=1/\∀x∈y.2.2,0<=x/\x<=(k.decl.symbols.length:Int) - 1)\/(c.type=2/\(r.kind=2\/r.kind=3)/\y.2.2.length=1/\∀x∈y.2.2,0<=x/\x<=65536)\/
   (c.type=3/\r.kind=5/\y.2.2.length<=8/\∀x∈y.2.2,1<=x/\x<=256))):=by
 obtain⟨h1,h2⟩:=Ie.1 hy;rcases h2 with h2|⟨h2,h3⟩
 ·exact .inl h2
 right;refine⟨h2,?_⟩;obtain⟨hk,c,c1,c2,c3,c4,c5,c6⟩:=h.cl h2;refine⟨c,c1,c3,?_⟩;obtain⟨g,g1,g2,g3,g4⟩:=(ach hQ).1 h3;obtain⟨c',l,a1,a2,a3,a4,a5,a6⟩:=hQ.right g g1;rw[g2,c1]at a2;cases a2;rw[g4]at a6;have hcp:=c3;unfold nL at hcp;have hn:∀x:Int,c.lo<=x/\x<=c.hi->c.type=2->0<=x/\x<=65536:=λx hx ht=>by omega
 rcases a6 with⟨b1,b2,b3⟩|⟨b1,b2,b3⟩|⟨b1,b2,b3,b4⟩
 ·exact .inl ⟨b1,by omega,b2,b3⟩
 ·exact .inr (.inl ⟨b1,by omega,b2,λx hx=>hn x (b3 x hx) b1⟩)
 ·exact .inr (.inr ⟨by omega,by omega,b3,b4⟩)
end Go.Proofs.YtoohgkkmdnbnfaaGreatDoor
namespace Go.Proofs.YtoohgkkmdnbnfaaGreatDoor
open Go.Ideal Kd Canon Gph
section
variable {k:bT} {p:List Clue} {grid:List Int} {r:aS} {q:Bz} {i:Nat} {y:Nat×List Int×List Int}
end
end Go.Proofs.YtoohgkkmdnbnfaaGreatDoor
namespace Go.Proofs.YtoohgkkmdnbnfaaGreatDoor
open Go.Ideal Kd Canon Gph

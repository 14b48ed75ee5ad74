/-
  Constraints met.
-/
import Derived.Test.YtoohgkkmdnbnfaaGreatDoorLibNA
set_option linter.all false
set_option maxRecDepth 10000
set_option maxHeartbeats 2000000
namespace Go.Proofs.YtoohgkkmdnbnfaaGreatDoor
open Go.Ideal Gph
structure ajQ(q:zW)(c:iG)(grid:List Int):Prop where
 gr:Ub grid
 ce:Uc grid c.cells
 vs:Ud q.values grid
 st:0<=c.set/\c.set<65537
 ot:0<=c.other/\c.other<65537
end Go.Proofs.YtoohgkkmdnbnfaaGreatDoor
namespace Go.Proofs.YtoohgkkmdnbnfaaGreatDoor
open Go.Ideal Gph
end Go.Proofs.YtoohgkkmdnbnfaaGreatDoor
set_option maxHeartbeats 1000000
namespace Go.Proofs.YtoohgkkmdnbnfaaGreatDoor
open Go.Ideal Kd Canon Gph
structure RF(k:bS)(r:aU):Prop where
 kd:1<=r.kind/\r.kind<=11
 x:qP (fQ r.kind) k.decl.aJ r
 by0:r.bZ=kH↔r.aG<0
 s1:∃n:Nat,r.set=(n:Int)/\n<2^k.decl.symbols.length
 s2:∃n:Nat,r.other=(n:Int)/\n<2^k.decl.symbols.length
 f0:0<=r.family/\r.family<k.lists.length
 cl:0<=r.aG->(r.kind=2\/r.kind=3\/r.kind=5\/r.kind=11)/\∃c,k.decl.aJ[r.aG.toNat]? =some c/\c.family=gu r/\nY c/\(r.kind=2\/r.kind=3->c.type=2)/\(r.kind=5->c.type=3)/\(r.kind=11->c.type=1)
 ncl:r.kind=5\/r.kind=11->0<=r.aG
 op:r.kind=2\/r.kind=3->1<=r.op/\r.op<=3
theorem VC{dP:List ByteArray}:∀(l:List ByteArray),(∀s∈l,s∈dP)->fZ dP l<2^dP.length:=by
 have h:∀(l:List ByteArray) (m:Nat),m<2^dP.length->(∀s∈l,s∈dP)->l.foldl (λm s=>m|||1<<<dS s dP) m<2^dP.length:=by
  intro l;induction l with
  |nil=>intro m hm _;exact hm
  |cons s l ih=>
   intro m hm hl;rw[ug];refine ih _ (Nat.or_lt_two_pow hm ?_) (λt ht=>hl t (cO _ ht));have:=yu (hl s (cZ ..));rw[Nat.one_shiftLeft];exact JJ (by omega) (by omega)
 intro l hl;exact h l 0 (Nat.two_pow_pos _) hl
theorem fT.rf{k:bS}(hK:fT k){r:aU}(hr:r∈k.decl.rules):RF k r:=by
 have hty:=hK.typ;have hin:=hK.inr hr;obtain⟨q,hq,hre⟩:=hK.uJ hr;have hro:=hK.b.rs.uJ q hq;have hrx:=hty.form.kG r hr;have hkd:1<=r.kind/\r.kind<=11:=by
  refine agi ?_;have:=hty.read;unfold jh at this;rw[List.filterMap_eq_nil_iff]at this;obtain⟨j,hj⟩:=lH hr;have:=this (r,j) (xm.2 hj);cases h:(fQ r.kind).read with
  |true=>rfl
  |false=>simp[h]at this
 have hsl:(bP k.decl).length=k.decl.symbols.length:=by unfold bP;rw[bR]
 have hb1:r.bZ=q.bZ:=by rw[hre];rfl
 have hb2:r.aG=if q.bZ=kH then(-1:Int)else(dS q.bZ (dK k.decl):Int):=by rw[hre];rfl
 have hby:r.bZ=kH↔r.aG<0:=by
  rw[hb1,hb2];by_cases e:q.bZ=kH
  ·rw[if_pos e];exact⟨λ_=>by omega,λ_=>e⟩
  ·rw[if_neg e];exact⟨λh=>absurd h e,λh=>by omega⟩
 refine⟨hkd,hrx,hby,⟨fZ (bP k.decl) q.names,by rw[hre];rfl,by rw[<- hsl];exact VC _ hro.names⟩,⟨fZ (bP k.decl) q.others,by rw[hre];rfl,by rw[<- hsl];exact VC _ hro.others⟩,hin.qa,?_,?_,?_⟩
 ·intro hc;have hne:r.bZ≠kH:=λe=>by have:=hby.1 e;omega
  rcases hrx.UW _ rfl with⟨_,a,_⟩|⟨a0,a1,a2,c,a3,a4,a5⟩
  ·exact absurd a hne
  have hcp:=(hty.form.jv _ c a3).2;have hk:r.kind=1\/r.kind=2\/r.kind=3\/r.kind=4\/r.kind=5\/r.kind=6\/r.kind=7\/r.kind=8\/r.kind=9\/r.kind=10\/r.kind=11:=by omega
  have hf:∀f:Int,gu r=f->c.family=f->c.family=gu r:=λf h1 h2=>by omega
  rcases hk with e|e|e|e|e|e|e|e|e|e|e<;>rw[e]at a0 a4 a5<;>simp[fQ,hne]at a0 a4 a5
  ·exact⟨by omega,c,a3,by unfold gu;rw[if_neg (by omega),if_neg (by omega),if_neg (by omega)];exact a5,hcp,by omega,by omega,by omega⟩
  ·exact⟨by omega,c,a3,by unfold gu;rw[if_neg (by omega),if_neg (by omega),if_neg (by omega)];exact a5,hcp,by omega,by omega,by omega⟩
  ·exact⟨by omega,c,a3,by unfold gu;rw[if_neg (by omega),if_neg (by omega),if_neg (by omega)];exact a5,hcp,by omega,by omega,by omega⟩
  ·refine⟨by omega,c,a3,?_,hcp,by omega,by omega,by omega⟩;unfold gu;rw[if_neg (by omega),if_neg (by omega),if_pos e];unfold nY at hcp;omega
 ·intro h;rcases hrx.UW _ rfl with⟨a0,_,_⟩|⟨_,a1,_⟩
  ·rcases h with e|e<;>rw[e]at a0<;>simp[fQ]at a0
  ·exact a1
 ·intro h;refine hrx.op.1 ?_;rcases h with e|e<;>rw[e]<;>rfl
def uf(k:bS)(p:List Clue):zW:=⟨k.grid.cells.length,k.decl.symbols.length,wQ k,k.bn,jg k p⟩
theorem RF.list{k:bS}{r:aU}(hK:fT k)(h:RF k r):∃ls,k.lists[(gu r).toNat]? =some ls/\(∀l∈ls,zZ k.grid.cells.length l/\l.Nodup)/\
 (r.kind=6\/r.kind=7\/r.kind=8->ls=ic k.bn)/\(r.kind=9\/r.kind=10->ls=[upTo' k.grid.cells.length])/\(r.kind=11->ls=kE k.grid.cells.length):=by
 have hl:=hK.iE;have hf:=h.f0;have h8:(gu r).toNat<k.lists.length:=by
  unfold gu;repeat' split
  all_goals omega
 have hg:=hK.bU;have hrg:∀r∈k.decl.regions,wG (aO k.decl) r.lists:=λr hr=>(hK.typ.Ao r hr).1.2;have hgc:k.grid.cells.length=(aO k.decl).cells.length:=by rw[hK.grid]
 have e:k.lists[(gu r).toNat]? =some (k.lists[(gu r).toNat]'h8):=cB _;generalize k.lists[(gu r).toNat]'h8=ls at e;have hm:=bG e;refine⟨ls,e,λl hl=>⟨?_,?_⟩,λhk=>?_,λhk=>?_,λhk=>?_⟩
 ·rw[hK.lists]at hm;rw[hgc];exact acU hg hrg _ hm l hl
 ·rw[hK.lists]at hm;exact ada hg hrg _ hm l hl
 ·have e6:gu r=6:=by unfold gu;rw[if_pos hk]
  have:k.lists[(gu r).toNat]? =some (ic k.bn):=by rw[hK.lists,hK.bn,e6];rfl
  rw[e]at this;exact Option.some.inj this
 ·have e7:gu r=7:=by unfold gu;rw[if_neg (by omega),if_pos hk]
  have:k.lists[(gu r).toNat]? =some [upTo' k.grid.cells.length]:=by rw[hgc,hK.lists,e7];rfl
  rw[e]at this;exact Option.some.inj this
 ·have e0:gu r=0:=by unfold gu;rw[if_neg (by omega),if_neg (by omega),if_pos hk]
  have:k.lists[(gu r).toNat]? =some (kE k.grid.cells.length):=by rw[hgc,hK.lists,e0];rfl
  rw[e]at this;exact Option.some.inj this
theorem RF.vals{k:bS}{p:List Clue}{r:aU}{ls:List (List Int)}(h:RF k r)(hQ:iK k p){y:Nat×List Int×List Int}(hy:y∈jw p r ls):
 (r.aG<0/\y.2.2=[])\/(0<=r.aG/\∃c,k.decl.aJ[r.aG.toNat]? =some c/\nY c/\((c.type=1/\r.kind=11/\y.2.2.length=1/\∀x∈y.2.2,0<=x/\x<=(k.decl.symbols.length:Int) - 1)\/(c.type=2/\(r.kind=2\/r.kind=3)/\y.2.2.length=1/\∀x∈y.2.2,0<=x/\x<=65536)\/
   (c.type=3/\r.kind=5/\y.2.2.length<=8/\∀x∈y.2.2,1<=x/\x<=256))):=by
 obtain⟨h1,h2⟩:=TF.1 hy;rcases h2 with h2|⟨h2,h3⟩
 ·exact .inl h2
 right;refine⟨h2,?_⟩;obtain⟨hk,c,c1,c2,c3,c4,c5,c6⟩:=h.cl h2;refine⟨c,c1,c3,?_⟩;obtain⟨g,g1,g2,g3,g4⟩:=(FB hQ).1 h3;obtain⟨c',l,a1,a2,a3,a4,a5,a6⟩:=hQ.right g g1;rw[g2,c1]at a2;cases a2;rw[g4]at a6;have hcp:=c3;unfold nY at hcp;have hn:∀x:Int,c.lo<=x/\x<=c.hi->c.type=2->0<=x/\x<=65536:=λx hx ht=>by omega
 rcases a6 with⟨b1,b2,b3⟩|⟨b1,b2,b3⟩|⟨b1,b2,b3,b4⟩
 ·exact .inl ⟨b1,by omega,b2,b3⟩
 ·exact .inr (.inl ⟨b1,by omega,b2,λx hx=>hn x (b3 x hx) b1⟩)
 ·exact .inr (.inr ⟨by omega,by omega,b3,b4⟩)
end Go.Proofs.YtoohgkkmdnbnfaaGreatDoor
namespace Go.Proofs.YtoohgkkmdnbnfaaGreatDoor
open Go.Ideal Kd Canon Gph
section
variable {k:bS} {p:List Clue} {grid:List Int} {r:aU} {q:zW} {i:Nat} {y:Nat×List Int×List Int}
end
end Go.Proofs.YtoohgkkmdnbnfaaGreatDoor
namespace Go.Proofs.YtoohgkkmdnbnfaaGreatDoor
open Go.Ideal Kd Canon Gph

/-
  Part LibKX.
-/
import Derived.Test.YtoilpafpgndilaaGreatLibJX
set_option linter.all false
set_option maxRecDepth 10000
set_option maxHeartbeats 4000000
namespace Go.Proofs.YtoilpafpgndilaaGreat
open Go.Ideal Kd Canon
structure V9(k:bD)(p:List Clue)(grid:List Int)(r:bN)(set other:Nat):Prop where
 s:nZ k
 ps:wK p
 kE:Fq k
 rin:V8 k r
 right:∀g∈p,mY k g
 gri:ae0 grid
 cells:∀x∈Jm k p r,ae1 grid x.1
 vals:ae2 (su k) grid
 cZ:kL k.aQ
 Vm:grid.length=k.aQ.length
 st:r.set=(set:Int)/\set<9223372036854775808
 ot:r.other=(other:Int)/\other<9223372036854775808
 kind:1<=r.kind/\r.kind<=11
 giv:r.kind=2\/r.kind=3\/r.kind=11->∀x∈Jm k p r,0<x.2.length
 few:∀x∈Jm k p r,x.1.length<=4096
 one:r.kind=11->∀x∈Jm k p r,0<x.1.length
section
variable {k:bD} {p:List Clue} {grid:List Int} {r:bN} {set other:Nat} {bv br:Nat} {vh vs vr vc vu gh gc vn vl vp vg vv v1 v2:Value}
theorem V9.aQ(H:V9 k p grid r set other):∀l∈k.aQ,∀b∈l,0<=b/\b<grid.length:=by
 intro l hl b hb;obtain⟨i,hi⟩:=jS hl;obtain⟨j,hj⟩:=jS hb;have:=H.cZ.ok i l hi j b hj;have:=H.Vm;omega
end
end Go.Proofs.YtoilpafpgndilaaGreat
namespace Go.Proofs.YtoilpafpgndilaaGreat
open Go.Ideal Kd Canon
end Go.Proofs.YtoilpafpgndilaaGreat
namespace Go.Proofs.YtoilpafpgndilaaGreat
open Go.Ideal Kd Canon
structure Bu(k:bD):Prop where
 dw:kD k.decl.w
 dh:kD k.decl.h
 gw:kD k.grid.w
 gh:kD k.grid.h
 holes:k.decl.holes.length<9223372036854775808
 eH:k.decl.symbols.length<9223372036854775808
 regs:k.decl.regions.length<9223372036854775808
 rZ:∀r∈k.decl.regions,r.lists.length<9223372036854775808/\∀l∈r.lists,l.length<9223372036854775808
 jg:k.decl.aJ.length<9223372036854775808
 kX:k.decl.rules.length<9223372036854775808
 rY:∀r∈k.decl.rules,r.names.length<9223372036854775808/\r.others.length<9223372036854775808
 JU:k.grid.holes.length<9223372036854775808
 cells:k.grid.cells.length<9223372036854775808
 aQ:k.aQ.length<9223372036854775808/\∀l∈k.aQ,l.length<9223372036854775808
 lists:k.lists.length<9223372036854775808/\∀l∈k.lists,l.length<9223372036854775808/\∀m∈l,m.length<9223372036854775808
structure ag3(k:bD):Prop where
 cells:k.grid.cells.length<=16
 JU:k.grid.holes.length<=256
 aQ:k.aQ.length<=20
 lists:k.lists.length<=12
 eH:k.decl.symbols.length<=6
 regs:k.decl.regions.length<=6
 jg:k.decl.aJ.length<=6
 kX:k.decl.rules.length<=10
 holes:k.decl.holes.length<=256
 each:∀l∈k.lists,l.length<=40
 reg:∀r∈k.decl.regions,r.lists.length<=20
theorem nZ.of{k:bD}(hB:Bu k)(hF:ag3 k):nZ k:=by
 have f1:=hF.cells;have f2:=hF.JU;have f5:=hF.eH;have f6:=hF.regs;have f7:=hF.jg;have f8:=hF.kX;have f9:=hF.holes;exact⟨⟨⟨by omega,by omega,by omega,by omega,hB.rY,hB.holes,hB.rZ⟩,hB.dw,hB.dh,by omega⟩,⟨hB.gw,hB.gh,by omega,by omega⟩,hB.aQ,hB.lists⟩
end Go.Proofs.YtoilpafpgndilaaGreat
namespace Go.Proofs.YtoilpafpgndilaaGreat
open Go.Ideal Kd Canon
theorem ag4{k:Int}(h:(fM k).read=true):1<=k/\k<=11:=by
 apply Classical.byContradiction;intro hn;have hc:(k<0\/14<=k)\/k=0\/k=12\/k=13:=by omega
 rcases hc with hc|rfl|rfl|rfl
 ·rw[Dj hc]at h;cases h
 ·cases h
 ·cases h
 ·cases h
theorem dH.rV{k:bD}(h:dH k){r:bN}(hr:r∈k.decl.rules):∃q∈k.decl.rules,r=mW (bX k.decl) (cz k.decl) (dO k.decl) q:=by
 have h1:r∈(Kd.bE k.decl).rules:=by rw[<- h.decl];exact hr
 obtain⟨q,hq,e⟩:=eT.1 (show r∈k.decl.rules.map (mW (bX k.decl) (cz k.decl) (dO k.decl))from h1);exact⟨q,hq,e.symm⟩
theorem dH.iL{k:bD}(h:dH k):k.lists.length=8+k.decl.regions.length:=by
 rw[h.lists];unfold oI;rw[iH,bY,bY,uu]
theorem dH.cZ{k:bD}(h:dH k):fE (aT k.decl):=⟨h.typ.Dk,rfl⟩
theorem dH.inr{k:bD}(h:dH k){r:bN}(hr:r∈k.decl.rules):V8 k r:=by
 obtain⟨q,hq,rfl⟩:=h.rV hr;have hro:=h.b.rs.rV q hq;have hl:=h.iL;have hfl:(cz k.decl).length=8+k.decl.regions.length:=by
  unfold cz;rw[iH,bY];rfl
 refine⟨?_,?_⟩
 ·show 0<=(if q.on=⟨⟨[]⟩⟩then(0:Int)else(dZ q.on (cz k.decl):Int))/\(if q.on=⟨⟨[]⟩⟩then(0:Int)else(dZ q.on (cz k.decl):Int))<_;by_cases e:q.on=⟨⟨[]⟩⟩
  ·rw[if_pos e];omega
  ·rw[if_neg e];have:=AZ (hro.on.resolve_left e);omega
 ·show(if q.dS=⟨⟨[]⟩⟩then(-1:Int)else(dZ q.dS (dO k.decl):Int))<_;by_cases e:q.dS=⟨⟨[]⟩⟩
  ·rw[if_pos e];omega
  ·rw[if_neg e];have h1:=AZ (hro.dS.resolve_left e);have h2:(dO k.decl).length=k.decl.aJ.length:=by unfold dO;rw[bY]
   omega

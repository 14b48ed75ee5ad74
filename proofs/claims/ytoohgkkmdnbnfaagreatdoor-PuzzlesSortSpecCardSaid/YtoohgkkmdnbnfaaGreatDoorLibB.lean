/-
  Lists compared: of lists, names, symbols, regions, clues, rules.
-/
import Derived.Test.YtoohgkkmdnbnfaaGreatDoorLibA
import Derived.Test.YtoohgkkmdnbnfaaGreatDoorIdealN
import Derived.Test.YtoohgkkmdnbnfaaGreatDoorShelf
import Derived.Test.YtoohgkkmdnbnfaaGreatDoorIdealO
import Derived.Test.YtoohgkkmdnbnfaaGreatDoorPlainA
import Derived.Test.YtoohgkkmdnbnfaaGreatDoorIdealM
set_option linter.unusedSimpArgs false
set_option linter.unusedVariables false
set_option maxRecDepth 10000
set_option maxHeartbeats 2000000
namespace Go.Proofs.YtoohgkkmdnbnfaaGreatDoor
open Go.Ideal Kd
end Go.Proofs.YtoohgkkmdnbnfaaGreatDoor
set_option maxHeartbeats 4000000
namespace Go.Proofs.YtoohgkkmdnbnfaaGreatDoor
open Go.Ideal Kd
end Go.Proofs.YtoohgkkmdnbnfaaGreatDoor
namespace Go.Proofs.YtoohgkkmdnbnfaaGreatDoor
open Go.Ideal
end Go.Proofs.YtoohgkkmdnbnfaaGreatDoor
namespace Go.Proofs.YtoohgkkmdnbnfaaGreatDoor
open Go.Ideal Kd
def SrchP (xs : List Int) (z : Int) (y : Nat × Bool) : Prop := y.1 ≤ xs.length ∧ (∀ (j : Nat) x, j < y.1 → xs[j]? = some x → x < z) ∧ (∀ (j : Nat) x, y.1 ≤ j → xs[j]? = some x → z ≤ x) ∧ (y.2 = true ↔ xs[y.1]? = some z)
theorem SrchP.mem {xs : List Int} {z : Int} {y : Nat × Bool} (h : SrchP xs z y) (hs : xs.Pairwise (· < ·)) : y.2 = true ↔ z ∈ xs := by
 obtain ⟨h1, h2, h3, h4⟩ := h
 rw [h4]
 refine ⟨fun h => List.mem_of_getElem? h, fun h => ?_⟩
 obtain ⟨j, hj⟩ := List.mem_iff_getElem?.1 h
 have hjl := (List.getElem?_eq_some_iff.1 hj)
 rcases Nat.lt_trichotomy j y.1 with h5 | h5 | h5
 · have := h2 j z h5 hj; omega
 · rw [← h5]; exact hj
 · have hyl : y.1 < xs.length := by have := hjl.1; omega
   have hy : xs[y.1]? = some xs[y.1] := List.getElem?_eq_getElem hyl
   have h6 := h3 y.1 _ (Nat.le_refl _) hy
   have h7 := List.pairwise_iff_getElem.1 hs y.1 j hyl hjl.1 h5
   rw [hjl.2] at h7
   omega
structure MkY where
 ok : Bool
 vh : Value
 vc : Value
end Go.Proofs.YtoohgkkmdnbnfaaGreatDoor
namespace Go.Proofs.YtoohgkkmdnbnfaaGreatDoor
open Go.Ideal Kd
structure GrdS (g : Grd) : Prop where
 w : I64 g.w
 h : I64 g.h
 holes : g.holes.length < 4611686018427387904
 cells : g.cells.length < 4611686018427387904
end Go.Proofs.YtoohgkkmdnbnfaaGreatDoor
namespace Go.Proofs.YtoohgkkmdnbnfaaGreatDoor
open Go.Ideal Kd
theorem envN_ok : EnvOK (envOf Tryz.prog noCut noMemo) := envOf_ok _ _ _ (fun f q h v h' hm => by cases hm)
structure LsY where
 v : Value
 e : Int
section
variable {P : Program} {B : List Nat} {w0 : Wd} {kl kl' : List OA} {F : List Fact} {Q : IH → Prop}
end
end Go.Proofs.YtoohgkkmdnbnfaaGreatDoor

/-
  The law ImagesComposeSpec, as a call in a world; facts of the program.
-/
import Derived.Test.YtfakljdleblkoaaGreatRows
import Derived.Test.YtfakljdleblkoaaGreatLawCompose
import Derived.Test.YtfakljdleblkoaaGreatIdealH
import Derived.ProofKit
set_option linter.unusedSimpArgs false
set_option linter.unusedVariables false
set_option maxHeartbeats 1000000
namespace Go.Proofs.YtfakljdleblkoaaGreat
open Go.Ideal Go.ChangeShapes Go.WideShapes Go.ChangeAt Go.RowKit

theorem own : ownKnob Tryz.prog.godebug = none := by kernel_rfl
theorem kids : Kids Tryz.prog (· < Tryz.prog.types.size) := kids_rows (by kernel_rfl) (by kernel_rfl)
theorem full : ∀ t e, t < Tryz.prog.types.size → Tryz.prog.underlying t = some (.slice e) → 0 < Tryz.prog.cellsOf e := slices_full_of Tryz.prog (by kernel_rfl)
theorem cells22 : Tryz.prog.cellsOf 22 = 1 := by kernel_rfl
theorem cells3 : Tryz.prog.cellsOf 3 = 1 := by kernel_rfl
theorem cells36 : Tryz.prog.cellsOf 36 = 2 := by kernel_rfl
theorem types36 : Tryz.prog.cellTypes Tryz.prog.depth 36 = some [22, 22] := by kernel_rfl
theorem many : 36 < Tryz.prog.types.size := Nat.le_of_ble_eq_true (by kernel_rfl)

theorem walk {W : World} {c0 c1 c2 c3 : Value} {x0 x1 x2 x3 : List Int} (h0 : LeafInt W c0 x0) (h1 : LeafInt W c1 x1) (h2 : LeafInt W c2 x2) (h3 : LeafInt W c3 x3) :
    Calls Tryz.prog 4 #[.agg ⟨[c0, c1]⟩, .agg ⟨[c2, c3]⟩] W fun e w' => e = .returned (.bool true) ∧ Below W.heap.size W w' := by
  let L : List (Option Img × List Value) := [leafP c0 x0, leafP c1 x1, leafP c2 x2, leafP c3 x3]
  refine world_call follows globals Tryz.f4 Tryz.func4 (by kernel_rfl) (by kernel_rfl) (args := [.agg ⟨[leafV 0 c0, leafV 1 c1]⟩, .agg ⟨[leafV 2 c2, leafV 3 c3]⟩]) (args' := [.agg ⟨[c0, c1]⟩, .agg ⟨[c2, c3]⟩]) (L := L) ?_ ?_ rfl ?_
  · intro i g cs hi
    match i, hi with
    | 0, hi =>
      obtain ⟨hg, rfl⟩ := Prod.mk.inj (Option.some.inj hi)
      exact leaf_ok h0 hg
    | 1, hi =>
      obtain ⟨hg, rfl⟩ := Prod.mk.inj (Option.some.inj hi)
      exact leaf_ok h1 hg
    | 2, hi =>
      obtain ⟨hg, rfl⟩ := Prod.mk.inj (Option.some.inj hi)
      exact leaf_ok h2 hg
    | 3, hi =>
      obtain ⟨hg, rfl⟩ := Prod.mk.inj (Option.some.inj hi)
      exact leaf_ok h3 hg
    | n + 4, hi => cases hi
  · refine .cons (.agg ?_ (.cons (leaf_VR h0 rfl) (.cons (leaf_VR h1 rfl) .nil))) (.cons (.agg ?_ (.cons (leaf_VR h2 rfl) (.cons (leaf_VR h3 rfl) .nil))) .nil)
    · simp [leafV_cell h0, leafV_cell h1]
    · simp [leafV_cell h2, leafV_cell h3]
  · exact law_ok ⟨_, _, rfl, leaf_ints h0 rfl, leaf_ints h1 rfl⟩ ⟨_, _, rfl, leaf_ints h2 rfl, leaf_ints h3 rfl⟩

end Go.Proofs.YtfakljdleblkoaaGreat

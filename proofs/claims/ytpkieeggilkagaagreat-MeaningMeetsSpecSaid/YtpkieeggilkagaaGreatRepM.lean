/-
  The arguments of the laws about problems, as things.
-/
import Derived.Test.YtpkieeggilkagaaGreatMean10
import Derived.Test.YtpkieeggilkagaaGreatIdealM
import Derived.Test.YtpkieeggilkagaaGreatSaneH
import Derived.ProofKit
set_option linter.unusedSimpArgs false
set_option linter.unusedVariables false
set_option maxHeartbeats 1000000
namespace Go.Proofs.YtpkieeggilkagaaGreat
open Go.Ideal Go.ChangeShapes Go.WideShapes Go.ChangeAt Go.RowKit Gph

theorem own : ownKnob Tryz.prog.godebug = none := by kernel_rfl
theorem kids : Kids Tryz.prog (· < Tryz.prog.types.size) := kids_rows (by kernel_rfl) (by kernel_rfl)
theorem full : ∀ t e, t < Tryz.prog.types.size → Tryz.prog.underlying t = some (.slice e) → 0 < Tryz.prog.cellsOf e := slices_full_of Tryz.prog (by kernel_rfl)
def plainTs : List TypeId := [50, 22, 3, 31, 48, 57]
theorem plainM : ∀ t, t ∈ plainTs → PlainT Tryz.prog (· ∈ plainTs) t := plain_of (by kernel_rfl)
theorem small : ∀ t, t ∈ plainTs → t < Tryz.prog.types.size := fun t ht => by
  have h : 57 < Tryz.prog.types.size := Nat.le_of_ble_eq_true (by kernel_rfl)
  have h2 : ∀ t ∈ plainTs, Nat.ble t 57 = true := by decide
  exact Nat.lt_of_le_of_lt (Nat.le_of_ble_eq_true (h2 t ht)) h
theorem agg50 : isAggT Tryz.prog 50 = true := by kernel_rfl
theorem agg22 : isAggT Tryz.prog 22 = false := by kernel_rfl
theorem agg3 : isAggT Tryz.prog 3 = false := by kernel_rfl

theorem rep3 : RepG Tryz.prog 3 intE I64 := repG_int Tryz.underlying3
theorem rep22 : RepG Tryz.prog 22 (slE intE) (SlG I64) := repG_slice Tryz.underlying22 (by kernel_rfl) rep3
theorem rep31 : RepG Tryz.prog 31 (slE (slE intE)) (SlG (SlG I64)) := repG_slice Tryz.underlying31 (by kernel_rfl) rep22
set_option maxRecDepth 100000 in
theorem rep57 : RepG Tryz.prog 57 consE ConS :=
  (repG_struct Tryz.underlying57 (by kernel_rfl) (by kernel_rfl) (.cons rep3 (by kernel_rfl) (.cons rep22 (by kernel_rfl) (.cons rep3 (by kernel_rfl) (.cons rep3 (by kernel_rfl) (.cons rep3 (by kernel_rfl) (.cons rep3 (by kernel_rfl)
    (.cons rep22 (by kernel_rfl) (.cons rep3 (by kernel_rfl) (.cons rep3 (by kernel_rfl) .nil)))))))))).conv
    (fun a y hG => ⟨⟨a.1, a.2.1, a.2.2.1, a.2.2.2.1, a.2.2.2.2.1, a.2.2.2.2.2.1, a.2.2.2.2.2.2.1, a.2.2.2.2.2.2.2.1, a.2.2.2.2.2.2.2.2.1⟩, (y.2.1, y.2.2.2.2.2.2.1), rfl, rfl, ⟨hG.2.1.1, hG.2.2.2.2.2.2.1.1⟩⟩)
theorem rep48 : RepG Tryz.prog 48 (slE consE) (SlG ConS) := repG_slice Tryz.underlying48 (by kernel_rfl) rep57
def probE : Enc Prob := ⟨5, Value × Value × Value, fun q y => probL q y.1 y.2.1 y.2.2, fun q y => [fSl intE y.1 q.values, fSl (slE intE) y.2.1 q.nbs, fSl consE y.2.2 q.cons], fun _ _ => rfl⟩
set_option maxRecDepth 100000 in
theorem rep50 : RepG Tryz.prog 50 probE ProbS :=
  (repG_struct Tryz.underlying50 (by kernel_rfl) (by kernel_rfl) (.cons rep3 (by kernel_rfl) (.cons rep3 (by kernel_rfl) (.cons rep22 (by kernel_rfl) (.cons rep31 (by kernel_rfl) (.cons rep48 (by kernel_rfl) .nil)))))).conv
    (fun a y hG => ⟨⟨a.1, a.2.1, a.2.2.1, a.2.2.2.1, a.2.2.2.2.1⟩, (y.2.2.1, y.2.2.2.1, y.2.2.2.2.1), rfl, rfl, ⟨hG.2.2.1.1, fun l hl => (hG.2.2.2.1.2 l hl).1, hG.2.2.2.2.1.1, hG.2.2.2.2.1.2⟩⟩)
end Go.Proofs.YtpkieeggilkagaaGreat

/-
  The arguments of the laws about prizes, as things; a start of the program in which its package variables read as they are laid.
-/
import Derived.Test.YtbdaaopebgcnaaaGreatDoorCards
import Derived.Test.YtbdaaopebgcnaaaGreatDoorLaw
import Derived.Test.YtbdaaopebgcnaaaGreatDoorIdealM
import Derived.Test.YtbdaaopebgcnaaaGreatDoorIdealO
import Derived.ProofKit
import Derived.LaidMore
import Derived.OpenShut
import Derived.Stop.Joined
set_option linter.unusedSimpArgs false
set_option linter.unusedVariables false
set_option maxHeartbeats 1000000
namespace Go.Proofs.YtbdaaopebgcnaaaGreatDoor
open Go.Ideal Go.ChangeShapes Go.WideShapes Go.ChangeAt Go.RowKit
theorem own : ownKnob Tryz.prog.godebug = none := by kernel_rfl
theorem kids : Kids Tryz.prog (· < Tryz.prog.types.size) := kids_rows (by kernel_rfl) (by kernel_rfl)
theorem full : ∀ t e, t < Tryz.prog.types.size → Tryz.prog.underlying t = some (.slice e) → 0 < Tryz.prog.cellsOf e := slices_full_of Tryz.prog (by kernel_rfl)
def plainTs : List TypeId := [22, 3]
theorem plainM : ∀ t, t ∈ plainTs → PlainT Tryz.prog (· ∈ plainTs) t := plain_of (by kernel_rfl)
theorem small : ∀ t, t ∈ plainTs → t < Tryz.prog.types.size := fun t ht => by
 have h : 57 < Tryz.prog.types.size := Nat.le_of_ble_eq_true (by kernel_rfl)
 have h2 : ∀ t ∈ plainTs, Nat.ble t 57 = true := by decide
 exact Nat.lt_of_le_of_lt (Nat.le_of_ble_eq_true (h2 t ht)) h
theorem aggSl : isAggT Tryz.prog 22 = false := by kernel_rfl
theorem rInt : RepG Tryz.prog 3 intE I64 := repG_int Tryz.underlying3
theorem rInts : RepG Tryz.prog 22 (slE intE) (SlG I64) := repG_slice Tryz.underlying22 (by kernel_rfl) rInt
theorem door_met (os : Os) (args : Array Value) : laidMetH Tryz.prog [("math/bits.deBruijn32tab", Rows.laid_math_bits_deBruijn32tab), ("math/bits.deBruijn64tab", Rows.laid_math_bits_deBruijn64tab), ("internal/strconv.uint64pow10", Rows.laid_internal_strconv_uint64pow10)] ((World.doorLaid Tryz.prog 4000 os).forCall (fun _ _ => 0) ⟨#[], args, []⟩).memory :=
 laidMetH_of_parts3 (fuel := 8) (laidMet_of_run' 8 (by kernel_rfl) (by kernel_rfl)) (by kernel_rfl) (by kernel_rfl)
end Go.Proofs.YtbdaaopebgcnaaaGreatDoor

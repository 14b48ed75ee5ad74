/-
  The arguments of the laws about sorting, as things; a start of the program in which its package variables read as they are laid.
-/
import Derived.Test.YtoohgkkmdnbnfaaGreatDoorCards
import Derived.Test.YtoohgkkmdnbnfaaGreatDoorLaw
import Derived.Test.YtoohgkkmdnbnfaaGreatDoorIdealM
import Derived.Test.YtoohgkkmdnbnfaaGreatDoorIdealO
import Derived.ProofKit
import Derived.LaidMore
import Derived.OpenShut
import Derived.Stop.Joined
set_option linter.unusedSimpArgs false
set_option linter.unusedVariables false
set_option maxHeartbeats 1000000
namespace Go.Proofs.YtoohgkkmdnbnfaaGreatDoor
open Go.Ideal Go.ChangeShapes Go.WideShapes Go.ChangeAt Go.RowKit Kd Canon
theorem own : ownKnob Tryz.prog.godebug = none := by kernel_rfl
theorem kids : Kids Tryz.prog (· < Tryz.prog.types.size) := kids_rows (by kernel_rfl) (by kernel_rfl)
theorem full : ∀ t e, t < Tryz.prog.types.size → Tryz.prog.underlying t = some (.slice e) → 0 < Tryz.prog.cellsOf e := slices_full_of Tryz.prog (by kernel_rfl)
def plainTs : List TypeId := [35, 59, 22, 3]
theorem plainM : ∀ t, t ∈ plainTs → PlainT Tryz.prog (· ∈ plainTs) t := plain_of (by kernel_rfl)
theorem small : ∀ t, t ∈ plainTs → t < Tryz.prog.types.size := fun t ht => by
 have h : 200 < Tryz.prog.types.size := Nat.le_of_ble_eq_true (by kernel_rfl)
 have h2 : ∀ t ∈ plainTs, Nat.ble t 200 = true := by decide
 exact Nat.lt_of_le_of_lt (Nat.le_of_ble_eq_true (h2 t ht)) h
theorem aggGs : isAggT Tryz.prog 35 = false := by kernel_rfl
theorem aggInt : isAggT Tryz.prog 3 = false := by kernel_rfl
theorem rInt : RepG Tryz.prog 3 intE I64 := repG_int Tryz.underlying3
theorem rInts : RepG Tryz.prog 22 (slE intE) (SlG I64) := repG_slice Tryz.underlying22 (by kernel_rfl) rInt
def GvnB (g : Clue) : Prop := g.values.length < 9223372036854775808
set_option maxRecDepth 100000 in
theorem rGvn : RepG Tryz.prog 59 gvnE GvnB :=
 (repG_struct Tryz.underlying59 (by kernel_rfl) (by kernel_rfl) (.cons rInt (by kernel_rfl) (.cons rInt (by kernel_rfl) (.cons rInts (by kernel_rfl) .nil)))).conv (fun a y hG => ⟨⟨a.1, a.2.1, a.2.2.1⟩, y.2.2.1, rfl, rfl, hG.2.2.1.1⟩)
theorem rGvns : RepG Tryz.prog 35 (slE gvnE) (SlG GvnB) := repG_slice Tryz.underlying35 (by kernel_rfl) rGvn
set_option maxRecDepth 100000 in
theorem door_met (os : Os) (args : Array Value) : laidMetH Tryz.prog [("math/bits.deBruijn32tab", Rows.laid_math_bits_deBruijn32tab), ("math/bits.deBruijn64tab", Rows.laid_math_bits_deBruijn64tab), ("internal/strconv.uint64pow10", Rows.laid_internal_strconv_uint64pow10), ("strconv.ErrRange", Rows.laid_strconv_ErrRange), ("strconv.ErrSyntax", Rows.laid_strconv_ErrSyntax)] ((World.doorLaid Tryz.prog 4000 os).forCall (fun _ _ => 0) ⟨#[], args, []⟩).memory :=
 laidMetH_of_parts3 (fuel := 8) (laidMet_of_run' 8 (by kernel_rfl) (by kernel_rfl)) (by kernel_rfl) (by kernel_rfl)
end Go.Proofs.YtoohgkkmdnbnfaaGreatDoor

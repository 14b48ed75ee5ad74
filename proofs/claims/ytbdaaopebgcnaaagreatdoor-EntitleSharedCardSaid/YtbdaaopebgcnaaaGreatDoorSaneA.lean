/-
  entitle.Total of the examples of law55.
-/
import Derived.Test.YtbdaaopebgcnaaaGreatDoorChecked
import Derived.Test.YtbdaaopebgcnaaaGreatDoorIdealO
import Derived.Test.YtbdaaopebgcnaaaGreatDoorIdealM
import Derived.KernelRfl
set_option linter.unusedSimpArgs false
set_option linter.unusedVariables false
namespace Go.Proofs.YtbdaaopebgcnaaaGreatDoor
open Go.Ideal
theorem follows : Tryz.prog.follows .mixedOrders = true := by kernel_rfl
theorem globals : Tryz.prog.globals.size = 4 := by kernel_rfl
noncomputable def env0 : Env := envOf Tryz.prog noCut noMemo
theorem env0_ok : EnvOK env0 := envOf_ok _ _ _ (fun f q h v h' hm => by cases hm)
noncomputable def totO : List (Nat × IObj) := [(202, .cells [.int .i64 (.ofNat 0), .int .i64 (.ofNat 0), .int .i64 (.ofNat 0), .int .i64 (.ofNat 0), .int .i64 (.ofNat 0), .bool true]), (203, .cells [.int .i64 (.ofNat 0), .int .i64 (.ofNat 3), .int .i64 (.ofNat 0), .int .i64 (.ofNat 5), .slice none 0 0]), (837, .cells [.int .i64 (.ofNat 10), .int .i64 (.ofNat 3)]), (839, .cells [.int .i64 (.ofNat 1)]), (840, .cells [.int .i64 (.ofNat 1)]), (841, .cells [.int .i64 (.ofNat 1), .int .i64 (.ofNat 1)]), (842, .cells [.bool false])]
noncomputable def totA : List Value := [.agg ⟨[.int .i64 (.ofNat 2), .int .i64 (.ofNat 1), .slice (some ⟨839, 0, some 0⟩) 1 1, .slice (some ⟨840, 0, some 0⟩) 1 1, .slice (some ⟨841, 0, some 0⟩) 1 1, .slice (some ⟨837, 0, some 0⟩) 2 2]⟩, .slice (some ⟨202, 0, some 0⟩) 1 1, .slice (some ⟨842, 0, some 0⟩) 1 1, .slice (some ⟨203, 0, some 0⟩) 1 1, .int .i64 (.ofNat 5)]
noncomputable def totV : Value := .tuple ⟨[.agg ⟨[.int .i64 (.ofNat 12), .int .i64 (.ofNat 13)]⟩, .int .i64 (.ofNat 0)]⟩
theorem totV_free : addrFreeT totV = true := by simp [totV, addrFreeT, addrFree, addrFrees, cellV]
theorem total_run : (evB env0 1000000).call ⟨.func 14, totA, [], none⟩ ⟨heapT totO, 843, 843⟩ (gives totV 843) = true := by kernel_rfl
end Go.Proofs.YtbdaaopebgcnaaaGreatDoor

/-
  kinds.Compile of the example is known; kinds.Check of what it gives.
-/
import Derived.Test.YtoohgkkmdnbnfaaGreatDoorSaneC
set_option linter.unusedSimpArgs false
set_option linter.unusedVariables false
namespace Go.Proofs.YtoohgkkmdnbnfaaGreatDoor
open Go.Ideal
noncomputable def memo3 : Nat → Option (Req → IH → Option (Value × IH)) := fun f => cond (Nat.beq f 33) (some (firstCallG 6 compH compO compN 33 [srcV] compV)) (memo2 f)
theorem comp_ok {q : Req} {h : IH} {v : Value} {h' : IH} (hm : firstCallG 6 compH compO compN 33 [srcV] compV q h = some (v, h')) : CALL Tryz.prog q h (fun r pm h2 => r = .ok v ∧ pm = none ∧ h2 = h') :=
 firstCallG_ok (by kernel_rfl) (closed_call env2_ok comp_run) hm
theorem memo3_ok {f : Nat} {g : Req → IH → Option (Value × IH)} (hm : memo3 f = some g) {q : Req} {h : IH} {v : Value} {h' : IH} (ht : g q h = some (v, h')) : CALL Tryz.prog q h (fun r pm h2 => r = .ok v ∧ pm = none ∧ h2 = h') := by
 simp only [memo3] at hm
 cases h1 : Nat.beq f 33 with
 | true => rw [h1] at hm; cases hm; exact comp_ok ht
 | false => rw [h1] at hm; exact memo2_ok hm ht
noncomputable def env3 : Env := envOf Tryz.prog (cutKeys 254 301) memo3
theorem env3_ok : EnvOK env3 := envOf_ok _ _ _ (by
 intro f q h v h' hm _ _
 cases e : memo3 f with
 | none => rw [e] at hm; cases hm
 | some g => rw [e] at hm; exact memo3_ok e hm)
end Go.Proofs.YtoohgkkmdnbnfaaGreatDoor
namespace Go.Proofs.YtoohgkkmdnbnfaaGreatDoor
open Go.Ideal
noncomputable def kndV : Value := .agg ⟨[sV0 [107], .int .i64 (.ofNat 1), .int .i64 (.ofNat 1), .int .i64 (.ofNat 2), .int .i64 (.ofNat 2), .slice none 0 0, .slice (some ⟨249, 0, some 2⟩) 2 2, .slice none 0 0, .slice (some ⟨298, 0, some 6⟩) 1 1, .slice (some ⟨307, 0, some 12⟩) 2 2, .int .i64 (.ofNat 1), .int .i64 (.ofNat 2), .int .i64 (.ofNat 2), .slice none 0 0, .slice (some ⟨397, 0, some 1⟩) 4 4, .slice (some ⟨422, 0, some 0⟩) 4 4, .slice (some ⟨1161, 0, some 1⟩) 8 8]⟩
theorem check_run : (evB env3 1000000).call ⟨.func 36, [kndV], [], none⟩ ⟨heapT compO, compN, compN⟩ (gives (.int .i64 (.ofNat 0)) compN) = true := by kernel_rfl
end Go.Proofs.YtoohgkkmdnbnfaaGreatDoor

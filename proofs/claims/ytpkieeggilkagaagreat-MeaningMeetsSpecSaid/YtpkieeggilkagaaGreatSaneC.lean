/-
  sane() is true.
-/
import Derived.Test.YtpkieeggilkagaaGreatSaneB
import Derived.Test.YtpkieeggilkagaaGreatIdealM
namespace Go.Proofs.YtpkieeggilkagaaGreat
open Go.Ideal
noncomputable def memo1 : Nat → Option (Req → IH → Option (Value × IH)) := fun f =>
  cond (Nat.beq f 31) (some (firstCallH rowH rowO rowN 31 rowA rowV)) (cond (Nat.beq f 39) (some (known rowO rowN 39 [rowV] (.int .i64 (.ofNat 0)))) none)
noncomputable def env1 : Env := envOf Tryz.prog (cutKeys 260 290) memo1
theorem env1_ok : EnvOK env1 := envOf_ok _ _ _ (by
  intro f q h v h' hm hpm ht
  simp only [memo1] at hm
  cases h1 : Nat.beq f 31 with
  | true =>
    rw [h1] at hm
    exact firstCallH_ok (by kernel_rfl) (closed_call env0_ok row_run) hm
  | false =>
    rw [h1] at hm
    cases h2 : Nat.beq f 39 with
    | true =>
      rw [h2] at hm
      exact known_ok (by kernel_rfl) (by kernel_rfl) (by kernel_rfl) (by show Tryz.prog.globals.size ≤ rowN; rw [globals]; exact Nat.zero_le _) (.conseq _ (closed_call env0_ok check_run) fun _ _ _ hg => gives_ok hg) hm
    | false => rw [h2] at hm; cases hm)
theorem sane_run : (evB env1 1000000).call ⟨.func 11, [], [], none⟩ ⟨.leaf, 0, 0⟩ (gives (.bool true) 0) = true := by kernel_rfl
theorem sane_true : CALL Tryz.prog ⟨.func 11, [], [], none⟩ ⟨.leaf, 0, 0⟩ (fun r pm h => pm = none ∧ r = .ok (.bool true) ∧ h.low = 0) :=
  .conseq _ (closed_call env1_ok sane_run) fun _ _ _ hg => gives_ok hg
theorem sane_any (h : IH) : CALL Tryz.prog ⟨.func 11, [], [], none⟩ h (fun r pm h' => pm = none ∧ r = .ok (.bool true) ∧ h' = h) :=
  .memo ⟨.leaf, 0, 0⟩ (.bool true) rfl rfl rfl (Nat.zero_le _) (by rw [globals]; exact Nat.zero_le _) (by intro i o ho; cases ho) _ sane_true (fun r pm h' q => q) ⟨rfl, rfl, rfl⟩
theorem sane_ok : FnP Tryz.prog 11 [] [] (.bool true) := fn_closed sane_any
end Go.Proofs.YtpkieeggilkagaaGreat

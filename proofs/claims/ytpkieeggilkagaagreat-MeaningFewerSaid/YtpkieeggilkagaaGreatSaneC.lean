/-
  sane() is true.
-/
import Derived.Test.YtpkieeggilkagaaGreatSaneB
import Derived.Test.YtpkieeggilkagaaGreatIdealM
set_option linter.unusedSimpArgs false
set_option linter.unusedVariables false
namespace Go.Proofs.YtpkieeggilkagaaGreat
open Go.Ideal
noncomputable def zQt : Nat → Option (Req → IH → Option (Value × IH)) := fun f =>
 cond (Nat.beq f 31) (some (zDN zS7 zRq zPK 31 zS9 zRs)) (cond (Nat.beq f 39) (some (known zRq zPK 39 [zRs] (.int .i64 (.ofNat 0)))) none)
noncomputable def zSu : Env := zCc Tryz.prog (zKK 260 290) zQt
theorem zQR : zH6 zSu := zCB _ _ _ (by
 intro f q h v h' hm hpm ht
 simp only [zQt] at hm
 cases h1 : Nat.beq f 31 with
 | true =>
   rw [h1] at hm
   exact zFn (by kernel_rfl) (zBb zLB zPI) hm
 | false =>
   rw [h1] at hm
   cases h2 : Nat.beq f 39 with
   | true =>
     rw [h2] at hm
     exact zNh (by kernel_rfl) (by kernel_rfl) (by kernel_rfl) (by show Tryz.prog.globals.size ≤ zPK; rw [globals]; exact Nat.zero_le _) (.conseq _ (zBb zLB zKy) fun _ _ _ hg => zF2 hg) hm
   | false => rw [h2] at hm; cases hm)
theorem zNj : (evB zSu 1000000).call ⟨.func 11, [], [], none⟩ ⟨.leaf, 0, 0⟩ (gives (.bool true) 0) = true := by kernel_rfl
theorem sane_true : CALL Tryz.prog ⟨.func 11, [], [], none⟩ ⟨.leaf, 0, 0⟩ (fun r pm h => pm = none ∧ r = .ok (.bool true) ∧ h.low = 0) :=
 .conseq _ (zBb zQR zNj) fun _ _ _ hg => zF2 hg
theorem zOE (h : IH) : CALL Tryz.prog ⟨.func 11, [], [], none⟩ h (fun r pm h' => pm = none ∧ r = .ok (.bool true) ∧ h' = h) :=
 .memo ⟨.leaf, 0, 0⟩ (.bool true) rfl rfl rfl (Nat.zero_le _) (by rw [globals]; exact Nat.zero_le _) (by intro i o ho; cases ho) _ sane_true (fun r pm h' q => q) ⟨rfl, rfl, rfl⟩
theorem zPa : FnP Tryz.prog 11 [] [] (.bool true) := zMQ zOE
end Go.Proofs.YtpkieeggilkagaaGreat

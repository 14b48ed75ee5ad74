/-
  sane() of law55 is true.
-/
import Derived.Test.YtbdaaopebgcnaaaGreatDoorSaneA
import Derived.Test.YtbdaaopebgcnaaaGreatDoorIdealO
set_option linter.unusedSimpArgs false
set_option linter.unusedVariables false
namespace Go.Proofs.YtbdaaopebgcnaaaGreatDoor
open Go.Ideal
noncomputable def memo1 : Nat → Option (Req → IH → Option (Value × IH)) := fun f => cond (Nat.beq f 14) (some (known totO 843 14 totA totV)) none
noncomputable def env1 : Env := envOf Tryz.prog noCut memo1
theorem env1_ok : EnvOK env1 := envOf_ok _ _ _ (by
 intro f q h v h' hm hpm ht
 simp only [memo1] at hm
 cases h2 : Nat.beq f 14 with
 | true =>
   rw [h2] at hm
   exact known_okT follows totV_free (by kernel_rfl) (by kernel_rfl) (by show Tryz.prog.globals.size ≤ 843; rw [globals]; decide) (.conseq _ (closed_call env0_ok total_run) fun _ _ _ hg => gives_ok hg) hm
 | false => rw [h2] at hm; cases hm)
theorem sane_run : (evB env1 1000000).call ⟨.func 8, [], [], none⟩ ⟨.leaf, 4, 4⟩ (gives (.bool true) 4) = true := by kernel_rfl
theorem sane_true : CALL Tryz.prog ⟨.func 8, [], [], none⟩ ⟨.leaf, 4, 4⟩ (fun r pm h => pm = none ∧ r = .ok (.bool true) ∧ h.low = 4) :=
 .conseq _ (closed_call env1_ok sane_run) fun _ _ _ hg => gives_ok hg
theorem sane_any (h : IH) (hn : 4 ≤ h.next) : CALL Tryz.prog ⟨.func 8, [], [], none⟩ h (fun r pm h' => pm = none ∧ r = .ok (.bool true) ∧ h' = h) :=
 .memo ⟨.leaf, 4, 4⟩ (.bool true) rfl rfl rfl hn (by rw [globals]; exact Nat.le_refl _) (by intro i o ho; cases ho) _ sane_true (fun r pm h' q => q) ⟨rfl, rfl, rfl⟩
theorem sane_ok : FnP Tryz.prog 8 [] [fNxt 4] (.bool true) := fn_closedN sane_any
end Go.Proofs.YtbdaaopebgcnaaaGreatDoor

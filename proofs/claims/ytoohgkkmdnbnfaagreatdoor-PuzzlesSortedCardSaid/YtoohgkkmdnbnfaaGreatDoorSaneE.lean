/-
  sane() is true.
-/
import Derived.Test.YtoohgkkmdnbnfaaGreatDoorSaneD
import Derived.Test.YtoohgkkmdnbnfaaGreatDoorIdealO
set_option linter.unusedSimpArgs false
set_option linter.unusedVariables false
namespace Go.Proofs.YtoohgkkmdnbnfaaGreatDoor
open Go.Ideal
noncomputable def memo4 : Nat → Option (Req → IH → Option (Value × IH)) := fun f => cond (Nat.beq f 36) (some (known compO compN 36 [kndV] (.int .i64 (.ofNat 0)))) (memo3 f)
theorem chk_ok {q : Req} {h : IH} {v : Value} {h' : IH} (hm : known compO compN 36 [kndV] (.int .i64 (.ofNat 0)) q h = some (v, h')) : CALL Tryz.prog q h (fun r pm h2 => r = .ok v ∧ pm = none ∧ h2 = h') :=
 known_ok (by kernel_rfl) (by kernel_rfl) (by kernel_rfl) (by show Tryz.prog.globals.size ≤ compN; rw [globals]; decide) (.conseq _ (closed_call env3_ok check_run) fun _ _ _ hg => gives_ok hg) hm
theorem memo4_ok {f : Nat} {g : Req → IH → Option (Value × IH)} (hm : memo4 f = some g) {q : Req} {h : IH} {v : Value} {h' : IH} (ht : g q h = some (v, h')) : CALL Tryz.prog q h (fun r pm h2 => r = .ok v ∧ pm = none ∧ h2 = h') := by
 simp only [memo4] at hm
 cases h1 : Nat.beq f 36 with
 | true => rw [h1] at hm; cases hm; exact chk_ok ht
 | false => rw [h1] at hm; exact memo3_ok hm ht
noncomputable def env4 : Env := envOf Tryz.prog (cutKeys 254 301) memo4
theorem env4_ok : EnvOK env4 := envOf_ok _ _ _ (by
 intro f q h v h' hm _ _
 cases e : memo4 f with
 | none => rw [e] at hm; cases hm
 | some g => rw [e] at hm; exact memo4_ok e hm)
theorem sane_run : (evB env4 1000000).call ⟨.func 10, [], [], none⟩ compH (gives (.bool true) 6) = true := by kernel_rfl
theorem sane_true : CALL Tryz.prog ⟨.func 10, [], [], none⟩ ⟨.leaf, 6, 6⟩ (fun r pm h => pm = none ∧ r = .ok (.bool true) ∧ h.low = 6) :=
 .conseq _ (closed_call env4_ok sane_run) fun _ _ _ hg => gives_ok hg
theorem sane_any (h : IH) (hn : 6 ≤ h.next) : CALL Tryz.prog ⟨.func 10, [], [], none⟩ h (fun r pm h' => pm = none ∧ r = .ok (.bool true) ∧ h' = h) :=
 .memo ⟨.leaf, 6, 6⟩ (.bool true) rfl rfl rfl hn (by rw [globals]; exact Nat.le_refl _) (by intro i o ho; cases ho) _ sane_true (fun r pm h' q => q) ⟨rfl, rfl, rfl⟩
theorem sane_ok : FnP Tryz.prog 10 [] [fNxt 6] (.bool true) := fn_closedN sane_any
end Go.Proofs.YtoohgkkmdnbnfaaGreatDoor

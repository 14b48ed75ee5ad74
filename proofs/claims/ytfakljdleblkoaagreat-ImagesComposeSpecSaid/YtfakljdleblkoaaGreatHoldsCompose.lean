/-
  ImagesComposeSpec: for every two symmetries the law returns true, and its arguments read afterwards as they read before. No condition.
-/
import Derived.Test.YtfakljdleblkoaaGreatRows
import Derived.Test.YtfakljdleblkoaaGreatWorldCompose
import Derived.ProofKit
set_option linter.unusedSimpArgs false
set_option linter.unusedVariables false
set_option maxHeartbeats 1000000
namespace Go.Proofs.YtfakljdleblkoaaGreat
open Go.Ideal Go.ChangeShapes Go.WideShapes Go.ChangeAt Go.RowKit

set_option maxRecDepth 100000 in
theorem lifted (os : Os) (started : os.Started) (H : Type) (enc : TypeId × Value → H) :
    ReturnsInHanded {} Tryz.checked os 4 .any (Rows.imagesComposeSpecSpec.pre6 enc Tryz.prog Tryz.f4 Rows.imagesComposeSpecRow.domain false) (Rows.imagesComposeSpecSpec.post enc Tryz.prog Tryz.f4 false true false false) := by
  refine returnsInHanded_of_change (C := Tryz.checked) own started (by kernel_rfl) Tryz.func4
    (ChangeSpec.witness6 (enc := enc) (C := Tryz.checked) false ⟨#[], #[.agg #[.slice none 0 0, .slice none 0 0], .agg #[.slice none 0 0, .slice none 0 0]], []⟩ 8 (by kernel_rfl) (by kernel_rfl) (by kernel_rfl) (by kernel_rfl)) ?_
  intro W base args ds gs before hval0 hW _ _
  have hval : ∀ (j : Nat) t v, Tryz.f4.params[j]? = some t → args[j]? = some v → Value.okWide Tryz.prog W .any base t v := hval0
  have hW' := hW
  obtain ⟨p, q, hA0, hV, rfl, hfz, _⟩ := hW
  have hA : DataW.TrodAll enc Tryz.prog W 0 (fun _ => true) true Tryz.f4.params.toList args.toList ds p := hA0
  have hAk := hA
  rw [Tryz.params4] at hA hval
  obtain ⟨v0, v1, d0, d1, p0, p1, rfl, rfl, rfl, h0, h1⟩ := trodAll_two hA
  obtain ⟨rfl, rfl⟩ := trodVars_none hV
  have ok0 := hval 0 36 v0 rfl rfl
  have ok1 := hval 1 36 v1 rfl rfl
  obtain ⟨c0, c1, x0, x1, rfl, l0, l1⟩ := two_leaves Tryz.underlying36 ⟨rfl, rfl⟩ ⟨rfl, rfl⟩ Tryz.underlying22 Tryz.underlying3 cells3 cells22 cells36 types36 ok0 h0
  obtain ⟨c2, c3, x2, x3, rfl, l2, l3⟩ := two_leaves Tryz.underlying36 ⟨rfl, rfl⟩ ⟨rfl, rfl⟩ Tryz.underlying22 Tryz.underlying3 cells3 cells22 cells36 types36 ok1 h1
  refine (walk l0 l1 l2 l3).mono fun e W' ⟨he, hb⟩ => ?_
  subst he
  exact ⟨_, rfl, post_law (pv := []) hW' (fun _ _ _ => trodAll_mk1 (shut_bool Tryz.underlying4 _))
    (fun sp hsp => trodAll_stays kids (fun {t e} => full t e) hb (by rw [Tryz.params4]; intro t ht; simp at ht; rw [ht]; exact many) hAk (fun p hp => hsp p (by simpa using hp)))
    (fun _ _ => rfl) (by simp) hb (ok_one (by kernel_rfl) rfl (okWide_bool_mk Tryz.underlying4 _))⟩

theorem imagesComposeSpec_holds : Rows.ImagesComposeSpecSaid :=
  OpenClaim.holds_of_wide 4 Tryz.f4 rfl rfl rfl rfl rfl rfl rfl ⟨rfl, rfl, rfl, rfl, rfl⟩ rfl rfl rfl rfl rfl (by kernel_rfl) Tryz.func4 (by kernel_rfl)
    (of_decide_eq_true (by kernel_rfl)) (by unfold Func.isWrapper; first | (rw [if_pos (by decide +kernel)]; kernel_rfl) | (rw [if_neg (by decide +kernel)]; exact ⟨rfl, rfl⟩))
    (fun os started H enc _ => lifted os started H enc)

#print axioms imagesComposeSpec_holds
end Go.Proofs.YtfakljdleblkoaaGreat

/-
  MeaningMeetsSpec: for every input the law returns true, and its arguments read afterwards as they read before. No condition.
-/
import Derived.Test.YtpkieeggilkagaaGreatRows
import Derived.Test.YtpkieeggilkagaaGreatLawMeets
import Derived.Test.YtpkieeggilkagaaGreatRepM
import Derived.ProofKit
set_option linter.unusedSimpArgs false
set_option linter.unusedVariables false
set_option maxHeartbeats 1000000
namespace Go.Proofs.YtpkieeggilkagaaGreat
open Go.Ideal Go.ChangeShapes Go.WideShapes Go.ChangeAt Go.RowKit Gph

set_option maxRecDepth 100000 in
theorem meaningMeetsSpec_lifted (os : Os) (started : os.Started) (H : Type) (enc : TypeId × Value → H) :
    ReturnsInHanded {} Tryz.checked os 5 .any (Rows.meaningMeetsSpecSpec.pre6 enc Tryz.prog Tryz.f5 Rows.meaningMeetsSpecRow.domain false) (Rows.meaningMeetsSpecSpec.post enc Tryz.prog Tryz.f5 false true false false) := by
  refine returnsInHanded_of_change (C := Tryz.checked) own started (by kernel_rfl) Tryz.func5
    (ChangeSpec.witness6 (enc := enc) (C := Tryz.checked) false ⟨#[], #[.agg #[.int .i64 0, .int .i64 0, .slice none 0 0, .slice none 0 0, .slice none 0 0], .int .i64 0, .slice none 0 0], []⟩ 8 (by kernel_rfl) (by kernel_rfl) (by kernel_rfl) (by kernel_rfl)) ?_
  intro W base args ds gs before hval0 hW _ _
  have hval : ∀ (j : Nat) t v, Tryz.f5.params[j]? = some t → args[j]? = some v → Value.okWide Tryz.prog W .any base t v := hval0
  have hW' := hW
  obtain ⟨p, q, hA0, hV, rfl, hfz, _⟩ := hW
  have hA : DataW.TrodAll enc Tryz.prog W 0 (fun _ => true) true Tryz.f5.params.toList args.toList ds p := hA0
  have hAk := hA
  rw [Tryz.params5] at hA hval
  obtain ⟨rfl, rfl⟩ := trodVars_none hV
  obtain ⟨la, ld⟩ := trodAll_len hA
  obtain ⟨d0, d1, d2, rfl⟩ := len3 ld
  have hc : Calls Tryz.prog 5 args W (fun e w' => e = .returned (.bool true) ∧ Below W.heap.size W w') := by
    refine law_calls follows globals Tryz.f5 Tryz.func5 (by kernel_rfl) (by kernel_rfl) (K := (· ∈ plainTs)) plainM (ts := [50, 3, 22]) (ds := [d0, d1, d2]) (by simp [plainTs]) (fun j t v hj hv => ?_) hA ?_
    · exact hval j t v (by rw [← hj]; simp) (by rw [← hv]; simp)
    · intro w vs hz hlen harg
      obtain ⟨v0, v1, v2, rfl⟩ := len3 (hlen.trans la)
      obtain ⟨a0, y0, rfl, f0, g0⟩ := (harg 0 50 v0 d0 rfl rfl rfl).aggG hz agg50 rep50
      obtain ⟨a1, y1, e1, f1, g1⟩ := (harg 1 3 v1 d1 rfl rfl rfl).oneG hz agg3 rep3
      obtain rfl : Value.int .i64 a1 = v1 := by injection e1
      obtain ⟨a2, y2, e2, f2, g2⟩ := (harg 2 22 v2 d2 rfl rfl rfl).oneG hz agg22 rep22
      obtain rfl : y2 = v2 := by injection e2
      refine ⟨_, ?_, lawMeets_ok (q := a0) (i := a1) (grid := a2) g0 g2.1⟩
      intro f hf
      simp only [List.mem_cons, List.not_mem_nil, or_false] at hf
      rcases hf with rfl | rfl | rfl | rfl
      · exact f0 _ (by simp [probE])
      · exact f0 _ (by simp [probE])
      · exact f0 _ (by simp [probE])
      · exact f2 _ (List.mem_singleton.2 rfl)
  refine hc.mono fun e W' ⟨he, hb⟩ => ?_
  subst he
  exact ⟨_, rfl, post_law (pv := []) hW' (fun _ _ _ => trodAll_mk1 (shut_bool Tryz.underlying4 _))
    (fun sp hsp => trodAll_stays kids (fun {t e} => full t e) hb (by rw [Tryz.params5]; intro t ht; exact small t ((by decide : ∀ t ∈ ([50, 3, 22] : List TypeId), t ∈ plainTs) t ht)) hAk (fun p hp => hsp p (by simpa using hp)))
    (fun _ _ => rfl) (by simp) hb (ok_one (by kernel_rfl) rfl (okWide_bool_mk Tryz.underlying4 _))⟩

theorem meaningMeetsSpec_named : Tryz.pinned.checked.prog.funcNamed Rows.meaningMeetsSpecRow.func = some 5 := by kernel_rfl
theorem meaningMeetsSpec_cl1 : (Rows.meaningMeetsSpecRow.inPlace == Tryz.pinned.checked.prog.inPlace 5) = true := by kernel_rfl
theorem meaningMeetsSpec_cl2 : (Rows.meaningMeetsSpecRow.unfollowed == Tryz.pinned.checked.prog.unfollowed 5) = true := by kernel_rfl
theorem meaningMeetsSpec_cl3 : (Rows.meaningMeetsSpecRow.recurses == Tryz.pinned.checked.prog.recurses 5) = true := by kernel_rfl
theorem meaningMeetsSpec_cl4 : (Rows.meaningMeetsSpecRow.named == Tryz.pinned.checked.prog.varsNamed 5) = true := by kernel_rfl
theorem meaningMeetsSpec_closed : joinedFacts Tryz.pinned.checked.prog 5 Tryz.f5 Rows.meaningMeetsSpecSpec Rows.meaningMeetsSpecRow = true := by
  unfold joinedFacts
  rw [meaningMeetsSpec_cl1, meaningMeetsSpec_cl2, meaningMeetsSpec_cl3, meaningMeetsSpec_cl4]
  kernel_rfl
theorem meaningMeetsSpec_inst : Tryz.f5.isInstance Tryz.pinned.checked.prog Rows.meaningMeetsSpecRow.origin Rows.meaningMeetsSpecRow.targs := of_decide_eq_true (by kernel_rfl)
theorem meaningMeetsSpec_wrap : Tryz.f5.isWrapper Tryz.pinned.checked.prog Rows.meaningMeetsSpecRow.wrapper Rows.meaningMeetsSpecRow.mainSum := by
  unfold Func.isWrapper
  first | (rw [if_pos (by decide +kernel)]; kernel_rfl) | (rw [if_neg (by decide +kernel)]; exact ⟨rfl, rfl⟩)

theorem meaningMeetsSpec_holds : Rows.MeaningMeetsSpecSaid :=
  OpenClaim.holds_of_wide 5 Tryz.f5 rfl rfl rfl rfl rfl rfl rfl ⟨rfl, rfl, rfl, rfl, rfl⟩ rfl rfl rfl rfl rfl meaningMeetsSpec_named Tryz.func5 meaningMeetsSpec_closed meaningMeetsSpec_inst meaningMeetsSpec_wrap
    (fun os started H enc _ => meaningMeetsSpec_lifted os started H enc)

#print axioms meaningMeetsSpec_holds
end Go.Proofs.YtpkieeggilkagaaGreat

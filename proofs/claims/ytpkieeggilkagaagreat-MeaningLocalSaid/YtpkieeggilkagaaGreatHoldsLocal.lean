/-
  MeaningLocal: for every input the law returns true, and its arguments read afterwards as they read before. No condition.
-/
import Derived.Test.YtpkieeggilkagaaGreatRows
import Derived.Test.YtpkieeggilkagaaGreatLawLocal
import Derived.Test.YtpkieeggilkagaaGreatRepM
import Derived.ProofKit
set_option linter.unusedSimpArgs false
set_option linter.unusedVariables false
set_option maxHeartbeats 1000000
namespace Go.Proofs.YtpkieeggilkagaaGreat
open Go.Ideal Go.ChangeShapes Go.WideShapes Go.ChangeAt Go.RowKit Gph

set_option maxRecDepth 100000 in
theorem meaningLocal_lifted (os : Os) (started : os.Started) (H : Type) (enc : TypeId × Value → H) :
    ReturnsInHanded {} Tryz.checked os 6 .any (Rows.meaningLocalSpec.pre6 enc Tryz.prog Tryz.f6 Rows.meaningLocalRow.domain false) (Rows.meaningLocalSpec.post enc Tryz.prog Tryz.f6 false true false false) := by
  refine returnsInHanded_of_change (C := Tryz.checked) own started (by kernel_rfl) Tryz.func6
    (ChangeSpec.witness6 (enc := enc) (C := Tryz.checked) false ⟨#[], #[.agg #[.int .i64 0, .int .i64 0, .slice none 0 0, .slice none 0 0, .slice none 0 0], .int .i64 0, .slice none 0 0, .slice none 0 0], []⟩ 8 (by kernel_rfl) (by kernel_rfl) (by kernel_rfl) (by kernel_rfl)) ?_
  intro W base args ds gs before hval0 hW _ _
  have hval : ∀ (j : Nat) t v, Tryz.f6.params[j]? = some t → args[j]? = some v → Value.okWide Tryz.prog W .any base t v := hval0
  have hW' := hW
  obtain ⟨p, q, hA0, hV, rfl, hfz, _⟩ := hW
  have hA : DataW.TrodAll enc Tryz.prog W 0 (fun _ => true) true Tryz.f6.params.toList args.toList ds p := hA0
  have hAk := hA
  rw [Tryz.params6] at hA hval
  obtain ⟨rfl, rfl⟩ := trodVars_none hV
  obtain ⟨la, ld⟩ := trodAll_len hA
  obtain ⟨d0, d1, d2, d3, rfl⟩ := len4 ld
  have hc : Calls Tryz.prog 6 args W (fun e w' => e = .returned (.bool true) ∧ Below W.heap.size W w') := by
    refine law_calls follows globals Tryz.f6 Tryz.func6 (by kernel_rfl) (by kernel_rfl) (K := (· ∈ plainTs)) plainM (ts := [50, 3, 22, 22]) (ds := [d0, d1, d2, d3]) (by simp [plainTs]) (fun j t v hj hv => ?_) hA ?_
    · exact hval j t v (by rw [← hj]; simp) (by rw [← hv]; simp)
    · intro w vs hz hlen harg
      obtain ⟨v0, v1, v2, v3, rfl⟩ := len4 (hlen.trans la)
      obtain ⟨a0, y0, rfl, f0, g0⟩ := (harg 0 50 v0 d0 rfl rfl rfl).aggG hz agg50 rep50
      obtain ⟨a1, y1, e1, f1, g1⟩ := (harg 1 3 v1 d1 rfl rfl rfl).oneG hz agg3 rep3
      obtain rfl : Value.int .i64 a1 = v1 := by injection e1
      obtain ⟨a2, y2, e2, f2, g2⟩ := (harg 2 22 v2 d2 rfl rfl rfl).oneG hz agg22 rep22
      obtain rfl : y2 = v2 := by injection e2
      obtain ⟨a3, y3, e3, f3, g3⟩ := (harg 3 22 v3 d3 rfl rfl rfl).oneG hz agg22 rep22
      obtain rfl : y3 = v3 := by injection e3
      refine ⟨_, ?_, lawLocal_ok (q := a0) (i := a1) (ga := a2) (gb := a3) g0 g2.1 g3.1⟩
      intro f hf
      simp only [List.mem_cons, List.not_mem_nil, or_false] at hf
      rcases hf with rfl | rfl | rfl | rfl | rfl
      · exact f0 _ (by simp [probE])
      · exact f0 _ (by simp [probE])
      · exact f0 _ (by simp [probE])
      · exact f2 _ (List.mem_singleton.2 rfl)
      · exact f3 _ (List.mem_singleton.2 rfl)
  refine hc.mono fun e W' ⟨he, hb⟩ => ?_
  subst he
  exact ⟨_, rfl, post_law (pv := []) hW' (fun _ _ _ => trodAll_mk1 (shut_bool Tryz.underlying4 _))
    (fun sp hsp => trodAll_stays kids (fun {t e} => full t e) hb (by rw [Tryz.params6]; intro t ht; exact small t ((by decide : ∀ t ∈ ([50, 3, 22, 22] : List TypeId), t ∈ plainTs) t ht)) hAk (fun p hp => hsp p (by simpa using hp)))
    (fun _ _ => rfl) (by simp) hb (ok_one (by kernel_rfl) rfl (okWide_bool_mk Tryz.underlying4 _))⟩

theorem meaningLocal_named : Tryz.pinned.checked.prog.funcNamed Rows.meaningLocalRow.func = some 6 := by kernel_rfl
theorem meaningLocal_cl1 : (Rows.meaningLocalRow.inPlace == Tryz.pinned.checked.prog.inPlace 6) = true := by kernel_rfl
theorem meaningLocal_cl2 : (Rows.meaningLocalRow.unfollowed == Tryz.pinned.checked.prog.unfollowed 6) = true := by kernel_rfl
theorem meaningLocal_cl3 : (Rows.meaningLocalRow.recurses == Tryz.pinned.checked.prog.recurses 6) = true := by kernel_rfl
theorem meaningLocal_cl4 : (Rows.meaningLocalRow.named == Tryz.pinned.checked.prog.varsNamed 6) = true := by kernel_rfl
theorem meaningLocal_closed : joinedFacts Tryz.pinned.checked.prog 6 Tryz.f6 Rows.meaningLocalSpec Rows.meaningLocalRow = true := by
  unfold joinedFacts
  rw [meaningLocal_cl1, meaningLocal_cl2, meaningLocal_cl3, meaningLocal_cl4]
  kernel_rfl
theorem meaningLocal_inst : Tryz.f6.isInstance Tryz.pinned.checked.prog Rows.meaningLocalRow.origin Rows.meaningLocalRow.targs := of_decide_eq_true (by kernel_rfl)
theorem meaningLocal_wrap : Tryz.f6.isWrapper Tryz.pinned.checked.prog Rows.meaningLocalRow.wrapper Rows.meaningLocalRow.mainSum := by
  unfold Func.isWrapper
  first | (rw [if_pos (by decide +kernel)]; kernel_rfl) | (rw [if_neg (by decide +kernel)]; exact ⟨rfl, rfl⟩)

theorem meaningLocal_holds : Rows.MeaningLocalSaid :=
  OpenClaim.holds_of_wide 6 Tryz.f6 rfl rfl rfl rfl rfl rfl rfl ⟨rfl, rfl, rfl, rfl, rfl⟩ rfl rfl rfl rfl rfl meaningLocal_named Tryz.func6 meaningLocal_closed meaningLocal_inst meaningLocal_wrap
    (fun os started H enc _ => meaningLocal_lifted os started H enc)

#print axioms meaningLocal_holds
end Go.Proofs.YtpkieeggilkagaaGreat

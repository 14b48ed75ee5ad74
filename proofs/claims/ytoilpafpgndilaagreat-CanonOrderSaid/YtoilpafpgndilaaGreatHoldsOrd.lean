/-
  CanonOrder: for every three puzzles the law returns true, and its arguments read afterwards as they read before. No condition.
-/
import Derived.Test.YtoilpafpgndilaaGreatRows
import Derived.Test.YtoilpafpgndilaaGreatLawOrd
import Derived.Test.YtoilpafpgndilaaGreatIdealK
import Derived.ProofKit
set_option linter.unusedSimpArgs false
set_option linter.unusedVariables false
set_option maxHeartbeats 1000000
namespace Go.Proofs.YtoilpafpgndilaaGreat
open Go.Ideal Go.ChangeShapes Go.WideShapes Go.ChangeAt Go.RowKit

theorem own : ownKnob Tryz.prog.godebug = none := by kernel_rfl
theorem kids : Kids Tryz.prog (· < Tryz.prog.types.size) := kids_rows (by kernel_rfl) (by kernel_rfl)
theorem full : ∀ t e, t < Tryz.prog.types.size → Tryz.prog.underlying t = some (.slice e) → 0 < Tryz.prog.cellsOf e := slices_full_of Tryz.prog (by kernel_rfl)
theorem plain24 : ∀ t, t ∈ [24, 22, 76, 29, 3] → PlainT Tryz.prog (· ∈ [24, 22, 76, 29, 3]) t := plain_of (by kernel_rfl)
theorem many24 : 24 < Tryz.prog.types.size := Nat.le_of_ble_eq_true (by kernel_rfl)
theorem agg24 : isAggT Tryz.prog 24 = true := by kernel_rfl

theorem rep3 : RepE Tryz.prog 3 intE := repE_int Tryz.underlying3
theorem rep29 : RepE Tryz.prog 29 (slE intE) := repE_slice Tryz.underlying29 (by kernel_rfl) rep3
set_option maxRecDepth 100000 in
theorem rep76 : RepE Tryz.prog 76 clueE :=
  (repE_struct Tryz.underlying76 (by kernel_rfl) (by kernel_rfl) (.cons rep3 (by kernel_rfl) (.cons rep3 (by kernel_rfl) (.cons rep29 (by kernel_rfl) .nil)))).conv
    (fun a y => ⟨⟨a.1, a.2.1, a.2.2.1⟩, y.2.2.1, rfl, rfl⟩)
theorem rep22 : RepE Tryz.prog 22 (slE clueE) := repE_slice Tryz.underlying22 (by kernel_rfl) rep76
/-- a puzzle -/
def puzE : Enc (List Canon.Clue) := ⟨1, Value, fun _ v => [v], fun xs v => [fSl clueE v xs], fun _ _ => rfl⟩
set_option maxRecDepth 100000 in
theorem rep24 : RepE Tryz.prog 24 puzE := (repE_struct Tryz.underlying24 (by kernel_rfl) (by kernel_rfl) (.cons rep22 (by kernel_rfl) .nil)).conv (fun a y => ⟨a.1, y.1, rfl, rfl⟩)

set_option maxRecDepth 100000 in
theorem lifted (os : Os) (started : os.Started) (H : Type) (enc : TypeId × Value → H) :
    ReturnsInHanded {} Tryz.checked os 3 .any (Rows.canonOrderSpec.pre6 enc Tryz.prog Tryz.f3 Rows.canonOrderRow.domain false) (Rows.canonOrderSpec.post enc Tryz.prog Tryz.f3 false true false false) := by
  refine returnsInHanded_of_change (C := Tryz.checked) own started (by kernel_rfl) Tryz.func3
    (ChangeSpec.witness6 (enc := enc) (C := Tryz.checked) false ⟨#[], #[.agg #[.slice none 0 0], .agg #[.slice none 0 0], .agg #[.slice none 0 0]], []⟩ 8 (by kernel_rfl) (by kernel_rfl) (by kernel_rfl) (by kernel_rfl)) ?_
  intro W base args ds gs before hval0 hW _ _
  have hval : ∀ (j : Nat) t v, Tryz.f3.params[j]? = some t → args[j]? = some v → Value.okWide Tryz.prog W .any base t v := hval0
  have hW' := hW
  obtain ⟨p, q, hA0, hV, rfl, hfz, _⟩ := hW
  have hA : DataW.TrodAll enc Tryz.prog W 0 (fun _ => true) true Tryz.f3.params.toList args.toList ds p := hA0
  have hAk := hA
  rw [Tryz.params3] at hA hval
  obtain ⟨rfl, rfl⟩ := trodVars_none hV
  obtain ⟨la, ld⟩ := trodAll_len hA
  obtain ⟨d0, d1, d2, rfl⟩ := len3 ld
  have hc : Calls Tryz.prog 3 args W (fun e w' => e = .returned (.bool true) ∧ Below W.heap.size W w') := by
    refine law_calls follows globals Tryz.f3 Tryz.func3 (by kernel_rfl) (by kernel_rfl) (K := (· ∈ [24, 22, 76, 29, 3])) plain24 (ts := [24, 24, 24]) (ds := [d0, d1, d2]) (by simp) (fun j t v hj hv => ?_) hA ?_
    · exact hval j t v (by rw [← hj]; simp) (by rw [← hv]; simp)
    · intro w vs hz hlen harg
      obtain ⟨v0, v1, v2, rfl⟩ := len3 (hlen.trans la)
      obtain ⟨a0, y0, rfl, f0⟩ := (harg 0 24 v0 d0 rfl rfl rfl).agg hz agg24 rep24
      obtain ⟨a1, y1, rfl, f1⟩ := (harg 1 24 v1 d1 rfl rfl rfl).agg hz agg24 rep24
      obtain ⟨a2, y2, rfl, f2⟩ := (harg 2 24 v2 d2 rfl rfl rfl).agg hz agg24 rep24
      refine ⟨_, ?_, lawOrd_ok (a := a0) (b := a1) (c := a2)⟩
      intro f hf
      simp only [List.mem_cons, List.not_mem_nil, or_false] at hf
      rcases hf with rfl | rfl | rfl
      · exact f0 _ (List.mem_singleton.2 rfl)
      · exact f1 _ (List.mem_singleton.2 rfl)
      · exact f2 _ (List.mem_singleton.2 rfl)
  refine hc.mono fun e W' ⟨he, hb⟩ => ?_
  subst he
  exact ⟨_, rfl, post_law (pv := []) hW' (fun _ _ _ => trodAll_mk1 (shut_bool Tryz.underlying4 _))
    (fun sp hsp => trodAll_stays kids (fun {t e} => full t e) hb (by rw [Tryz.params3]; intro t ht; simp at ht; rw [ht]; exact many24) hAk (fun p hp => hsp p (by simpa using hp)))
    (fun _ _ => rfl) (by simp) hb (ok_one (by kernel_rfl) rfl (okWide_bool_mk Tryz.underlying4 _))⟩

theorem named3 : Tryz.pinned.checked.prog.funcNamed Rows.canonOrderRow.func = some 3 := by kernel_rfl
theorem cl1 : (Rows.canonOrderRow.inPlace == Tryz.pinned.checked.prog.inPlace 3) = true := by kernel_rfl
theorem cl2 : (Rows.canonOrderRow.unfollowed == Tryz.pinned.checked.prog.unfollowed 3) = true := by kernel_rfl
theorem cl3 : (Rows.canonOrderRow.recurses == Tryz.pinned.checked.prog.recurses 3) = true := by kernel_rfl
theorem cl4 : (Rows.canonOrderRow.named == Tryz.pinned.checked.prog.varsNamed 3) = true := by kernel_rfl
theorem closed3 : joinedFacts Tryz.pinned.checked.prog 3 Tryz.f3 Rows.canonOrderSpec Rows.canonOrderRow = true := by
  unfold joinedFacts
  rw [cl1, cl2, cl3, cl4]
  kernel_rfl
theorem inst3 : Tryz.f3.isInstance Tryz.pinned.checked.prog Rows.canonOrderRow.origin Rows.canonOrderRow.targs := of_decide_eq_true (by kernel_rfl)
theorem wrap3 : Tryz.f3.isWrapper Tryz.pinned.checked.prog Rows.canonOrderRow.wrapper Rows.canonOrderRow.mainSum := by
  unfold Func.isWrapper
  first | (rw [if_pos (by decide +kernel)]; kernel_rfl) | (rw [if_neg (by decide +kernel)]; exact ⟨rfl, rfl⟩)

theorem canonOrder_holds : Rows.CanonOrderSaid :=
  OpenClaim.holds_of_wide 3 Tryz.f3 rfl rfl rfl rfl rfl rfl rfl ⟨rfl, rfl, rfl, rfl, rfl⟩ rfl rfl rfl rfl rfl named3 Tryz.func3 closed3 inst3 wrap3
    (fun os started H enc _ => lifted os started H enc)

#print axioms canonOrder_holds
end Go.Proofs.YtoilpafpgndilaaGreat

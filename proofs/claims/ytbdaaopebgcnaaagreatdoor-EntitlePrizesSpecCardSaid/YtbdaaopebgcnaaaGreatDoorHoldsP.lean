/-
  EntitlePrizesSpec: for every input the law returns true, and its arguments read afterwards as they read before. Its card: the package variables that the row lists start as the program's text lays them.
-/
import Derived.Test.YtbdaaopebgcnaaaGreatDoorCards
import Derived.Test.YtbdaaopebgcnaaaGreatDoorTie
import Derived.Test.YtbdaaopebgcnaaaGreatDoorRep
import Derived.SevenTiedAt
set_option linter.unusedSimpArgs false
set_option linter.unusedVariables false
set_option maxHeartbeats 1000000
namespace Go.Proofs.YtbdaaopebgcnaaaGreatDoor
open Go.Ideal Go.ChangeShapes Go.WideShapes Go.ChangeAt Go.RowKit
set_option maxRecDepth 100000 in
theorem entitlePrizesSpec_lifted (os : Os) (started : os.Started) (H : Type) (enc : TypeId × Value → H) :
 ReturnsInHanded {} Tryz.checked os 3 .any (fun w args => (Rows.entitlePrizesSpecSpec.pre enc Tryz.prog Tryz.f3 [] false w args ∧ laidMetH Tryz.prog [("math/bits.deBruijn32tab", Rows.laid_math_bits_deBruijn32tab), ("math/bits.deBruijn64tab", Rows.laid_math_bits_deBruijn64tab), ("internal/strconv.uint64pow10", Rows.laid_internal_strconv_uint64pow10)] w) ∧ sizedMet enc Tryz.prog Tryz.f3 (OpenSpec.ofChange Rows.entitlePrizesSpecSpec) false w args) (Rows.entitlePrizesSpecSpec.post enc Tryz.prog Tryz.f3 false true false false) := by
 refine returnsInHanded_of_change_and (C := Tryz.checked) (X := fun w _ => laidMetH Tryz.prog [("math/bits.deBruijn32tab", Rows.laid_math_bits_deBruijn32tab), ("math/bits.deBruijn64tab", Rows.laid_math_bits_deBruijn64tab), ("internal/strconv.uint64pow10", Rows.laid_internal_strconv_uint64pow10)] w) (fun _ _ _ hh h => h.of_heap hh) own started (by kernel_rfl) Tryz.func3
  (ChangeSpec.witness_shaped (enc := enc) (C := Tryz.checked) (os := os) (X := fun w _ => laidMetH Tryz.prog [("math/bits.deBruijn32tab", Rows.laid_math_bits_deBruijn32tab), ("math/bits.deBruijn64tab", Rows.laid_math_bits_deBruijn64tab), ("internal/strconv.uint64pow10", Rows.laid_internal_strconv_uint64pow10)] w) false (World.doorLaid Tryz.prog 4000 os) #[.slice none 0 0, .slice none 0 0] 8 rfl (World.shaped_of_RefB (by kernel_rfl) (by kernel_rfl)) (by kernel_rfl) (by kernel_rfl) (by kernel_rfl) (door_met os _)) ?_
 intro W base args ds gs before hval0 hW _ _ hL _
 have hval : ∀ (j : Nat) t v, Tryz.f3.params[j]? = some t → args[j]? = some v → Value.okWide Tryz.prog W .any base t v := hval0
 have hW' := hW
 obtain ⟨p, q, hA0, hV, rfl, hfz, _⟩ := hW
 have hA : DataW.TrodAll enc Tryz.prog W 0 (fun _ => true) true Tryz.f3.params.toList args.toList ds p := hA0
 have hAk := hA
 rw [Tryz.params3] at hA hval
 obtain ⟨rfl, rfl⟩ := trodVars_none hV
 obtain ⟨la, ld⟩ := trodAll_len hA
 obtain ⟨d0, d1, rfl⟩ := len2 ld
 have hc : Calls Tryz.prog 3 args W (fun e w' => e = .returned (.bool true) ∧ Below W.heap.size W w') := by
  refine law_callsG follows Tryz.f3 Tryz.func3 (by kernel_rfl) (by kernel_rfl) (K := (· ∈ plainTs)) plainM (ts := [22, 22]) (ds := [d0, d1]) (by simp [plainTs]) (fun j t v hj hv => ?_) hA ?_
  · exact hval j t v (by rw [← hj]; simp) (by rw [← hv]; simp)
  · intro w vs hnx hz hlen harg
    obtain ⟨v0, v1, rfl⟩ := len2 (hlen.trans la)
    obtain ⟨a0, y0, e0, f0, g0⟩ := (harg 0 22 v0 d0 rfl rfl rfl).oneG hz aggSl rInts
    obtain rfl : y0 = v0 := by injection e0
    obtain ⟨a1, y1, e1, f1, g1⟩ := (harg 1 22 v1 d1 rfl rfl rfl).oneG hz aggSl rInts
    obtain rfl : y1 = v1 := by injection e1
    refine ⟨_, ?_, lawPrz_ok (p := a0) (l := a1) g0.1 g1.1⟩
    intro f hf
    simp only [List.mem_cons, List.not_mem_nil, or_false] at hf
    rcases hf with rfl | rfl | rfl
    · show 4 ≤ w.h.next
      rw [globals] at hnx; exact hnx
    · exact f0 _ (List.mem_singleton.2 rfl)
    · exact f1 _ (List.mem_singleton.2 rfl)
 refine hc.mono fun e W' ⟨he, hb⟩ => ?_
 subst he
 exact ⟨_, rfl, post_law (pv := []) hW' (fun _ _ _ => trodAll_mk1 (shut_bool Tryz.underlying4 _))
  (fun sp hsp => trodAll_stays kids (fun {t e} => full t e) hb (by rw [Tryz.params3]; intro t ht; exact small t ((by decide : ∀ t ∈ ([22, 22] : List TypeId), t ∈ plainTs) t ht)) hAk (fun p hp => hsp p (by simpa using hp)))
  (fun _ _ => rfl) (by simp) hb (ok_one (by kernel_rfl) rfl (okWide_bool_mk Tryz.underlying4 _))⟩
theorem entitlePrizesSpec_named : Tryz.pinned.checked.prog.funcNamed Rows.entitlePrizesSpecRow.func = some 3 := by kernel_rfl
theorem entitlePrizesSpec_cl1 : (Rows.entitlePrizesSpecRow.inPlace == Tryz.pinned.checked.prog.inPlace 3) = true := by kernel_rfl
theorem entitlePrizesSpec_cl2 : (Rows.entitlePrizesSpecRow.unfollowed == Tryz.pinned.checked.prog.unfollowed 3) = true := by kernel_rfl
theorem entitlePrizesSpec_cl3 : (Rows.entitlePrizesSpecRow.recurses == Tryz.pinned.checked.prog.recurses 3) = true := by kernel_rfl
theorem entitlePrizesSpec_cl4 : (Rows.entitlePrizesSpecRow.named == Tryz.pinned.checked.prog.varsNamed 3) = true := by kernel_rfl
theorem entitlePrizesSpec_closed : joinedFacts Tryz.pinned.checked.prog 3 Tryz.f3 Rows.entitlePrizesSpecSpec Rows.entitlePrizesSpecRow = true := by
 unfold joinedFacts
 rw [entitlePrizesSpec_cl1, entitlePrizesSpec_cl2, entitlePrizesSpec_cl3, entitlePrizesSpec_cl4]
 kernel_rfl
theorem entitlePrizesSpec_inst : Tryz.f3.isInstance Tryz.pinned.checked.prog Rows.entitlePrizesSpecRow.origin Rows.entitlePrizesSpecRow.targs := of_decide_eq_true (by kernel_rfl)
theorem entitlePrizesSpec_wrap : Tryz.f3.isWrapper Tryz.pinned.checked.prog Rows.entitlePrizesSpecRow.wrapper Rows.entitlePrizesSpecRow.mainSum := by
 unfold Func.isWrapper
 first | (rw [if_pos (by decide +kernel)]; kernel_rfl) | (rw [if_neg (by decide +kernel)]; exact ⟨rfl, rfl⟩)
theorem entitlePrizesSpec_row : Rows.EntitlePrizesSpecSaid :=
 OpenClaim.holds_of_wide 3 Tryz.f3 rfl rfl rfl rfl rfl rfl rfl ⟨rfl, rfl, rfl, rfl, rfl⟩ rfl rfl rfl rfl rfl entitlePrizesSpec_named Tryz.func3 entitlePrizesSpec_closed entitlePrizesSpec_inst entitlePrizesSpec_wrap
  (fun os started H enc _ => entitlePrizesSpec_lifted os started H enc)
theorem entitlePrizesSpec_holds : Rows.EntitlePrizesSpecCardSaid :=
 Claim7.holds_tied_plain_at .later [] [.data, .data, .data] true (true, "a22f0107fc0752cd546ce125fbb7844e5c6b3afacb5fc3dfcad6ded541c8b118") true
  entitlePrizesSpec_row (fun _ h => by cases h) (by kernel_rfl) (fun _ h => by cases h) entitlePrizesSpec_row_tie rfl ⟨rfl, rfl⟩ (by kernel_rfl) rfl
  (fun f fn hf hfn => by
    obtain rfl : f = 3 := Option.some.inj (entitlePrizesSpec_named.symm.trans hf) |>.symm
    obtain rfl : fn = Tryz.f3 := (Option.some.inj (Tryz.func3.symm.trans hfn)).symm
    exact ⟨by kernel_rfl, fun j t ht => by
     rw [Tryz.params3] at ht
     have hm : t ∈ [22, 22] := by simpa using Array.mem_of_getElem? ht
     have hall : ([22, 22].all fun u => !Tryz.prog.wantsStandIn u) = true := by kernel_rfl
     exact (show Tryz.prog.wantsStandIn t = false by simpa using List.all_eq_true.1 hall t hm)⟩)
  (by kernel_rfl)
#print axioms entitlePrizesSpec_holds
end Go.Proofs.YtbdaaopebgcnaaaGreatDoor

/-
  PuzzlesSorted: for every input the law returns true, and its arguments read afterwards as they read before. Its card: the package variables that the row lists start as the program's text lays them.
-/
import Derived.Test.YtoohgkkmdnbnfaaGreatDoorCards
import Derived.Test.YtoohgkkmdnbnfaaGreatDoorTie
import Derived.Test.YtoohgkkmdnbnfaaGreatDoorRep
import Derived.SevenTiedAt
set_option linter.unusedSimpArgs false
set_option linter.unusedVariables false
set_option maxHeartbeats 1000000
namespace Go.Proofs.YtoohgkkmdnbnfaaGreatDoor
open Go.Ideal Go.ChangeShapes Go.WideShapes Go.ChangeAt Go.RowKit
set_option maxRecDepth 100000 in
theorem puzzlesSorted_lifted (os : Os) (started : os.Started) (H : Type) (enc : TypeId × Value → H) :
 ReturnsInHanded {} Tryz.checked os 7 .any (fun w args => (Rows.puzzlesSortedSpec.pre enc Tryz.prog Tryz.f7 [] false w args ∧ laidMetH Tryz.prog [("math/bits.deBruijn32tab", Rows.laid_math_bits_deBruijn32tab), ("math/bits.deBruijn64tab", Rows.laid_math_bits_deBruijn64tab), ("internal/strconv.uint64pow10", Rows.laid_internal_strconv_uint64pow10), ("strconv.ErrRange", Rows.laid_strconv_ErrRange), ("strconv.ErrSyntax", Rows.laid_strconv_ErrSyntax)] w) ∧ sizedMet enc Tryz.prog Tryz.f7 (OpenSpec.ofChange Rows.puzzlesSortedSpec) false w args) (Rows.puzzlesSortedSpec.post enc Tryz.prog Tryz.f7 false true false false) := by
 refine returnsInHanded_of_change_and (C := Tryz.checked) (X := fun w _ => laidMetH Tryz.prog [("math/bits.deBruijn32tab", Rows.laid_math_bits_deBruijn32tab), ("math/bits.deBruijn64tab", Rows.laid_math_bits_deBruijn64tab), ("internal/strconv.uint64pow10", Rows.laid_internal_strconv_uint64pow10), ("strconv.ErrRange", Rows.laid_strconv_ErrRange), ("strconv.ErrSyntax", Rows.laid_strconv_ErrSyntax)] w) (fun _ _ _ hh h => h.of_heap hh) own started (by kernel_rfl) Tryz.func7
  (ChangeSpec.witness_shaped (enc := enc) (C := Tryz.checked) (os := os) (X := fun w _ => laidMetH Tryz.prog [("math/bits.deBruijn32tab", Rows.laid_math_bits_deBruijn32tab), ("math/bits.deBruijn64tab", Rows.laid_math_bits_deBruijn64tab), ("internal/strconv.uint64pow10", Rows.laid_internal_strconv_uint64pow10), ("strconv.ErrRange", Rows.laid_strconv_ErrRange), ("strconv.ErrSyntax", Rows.laid_strconv_ErrSyntax)] w) false (World.doorLaid Tryz.prog 4000 os) #[.slice none 0 0, .int .i64 0] 8 rfl (World.shaped_of_RefB (by kernel_rfl) (by kernel_rfl)) (by kernel_rfl) (by kernel_rfl) (by kernel_rfl) (door_met os _)) ?_
 intro W base args ds gs before hval0 hW _ _ hL _
 have hval : ∀ (j : Nat) t v, Tryz.f7.params[j]? = some t → args[j]? = some v → Value.okWide Tryz.prog W .any base t v := hval0
 have hW' := hW
 obtain ⟨p, q, hA0, hV, rfl, hfz, _⟩ := hW
 have hA : DataW.TrodAll enc Tryz.prog W 0 (fun _ => true) true Tryz.f7.params.toList args.toList ds p := hA0
 have hAk := hA
 rw [Tryz.params7] at hA hval
 obtain ⟨rfl, rfl⟩ := trodVars_none hV
 obtain ⟨la, ld⟩ := trodAll_len hA
 obtain ⟨d0, d1, rfl⟩ := len2 ld
 have hc : Calls Tryz.prog 7 args W (fun e w' => e = .returned (.bool true) ∧ Below W.heap.size W w') := by
  refine law_callsG follows Tryz.f7 Tryz.func7 (by kernel_rfl) (by kernel_rfl) (K := (· ∈ plainTs)) plainM (ts := [35, 3]) (ds := [d0, d1]) (by simp [plainTs]) (fun j t v hj hv => ?_) hA ?_
  · exact hval j t v (by rw [← hj]; simp) (by rw [← hv]; simp)
  · intro w vs hnx hz hlen harg
    obtain ⟨v0, v1, rfl⟩ := len2 (hlen.trans la)
    obtain ⟨a0, y0, e0, f0, g0⟩ := (harg 0 35 v0 d0 rfl rfl rfl).oneG hz aggGs rGvns
    obtain rfl : y0 = v0 := by injection e0
    obtain ⟨a1, y1, e1, f1, g1⟩ := (harg 1 3 v1 d1 rfl rfl rfl).oneG hz aggInt rInt
    obtain rfl : Value.int .i64 a1 = v1 := by injection e1
    refine ⟨_, ?_, lawSorted_ok (xs := a0) (turn := a1) g0.1 g1⟩
    intro f hf
    simp only [List.mem_cons, List.not_mem_nil, or_false] at hf
    rcases hf with rfl | rfl
    · show 6 ≤ w.h.next
      rw [globals] at hnx; exact hnx
    · exact f0 _ (List.mem_singleton.2 rfl)
 refine hc.mono fun e W' ⟨he, hb⟩ => ?_
 subst he
 exact ⟨_, rfl, post_law (pv := []) hW' (fun _ _ _ => trodAll_mk1 (shut_bool Tryz.underlying4 _))
  (fun sp hsp => trodAll_stays kids (fun {t e} => full t e) hb (by rw [Tryz.params7]; intro t ht; exact small t ((by decide : ∀ t ∈ ([35, 3] : List TypeId), t ∈ plainTs) t ht)) hAk (fun p hp => hsp p (by simpa using hp)))
  (fun _ _ => rfl) (by simp) hb (ok_one (by kernel_rfl) rfl (okWide_bool_mk Tryz.underlying4 _))⟩
theorem puzzlesSorted_named : Tryz.pinned.checked.prog.funcNamed Rows.puzzlesSortedRow.func = some 7 := by kernel_rfl
theorem puzzlesSorted_cl1 : (Rows.puzzlesSortedRow.inPlace == Tryz.pinned.checked.prog.inPlace 7) = true := by kernel_rfl
theorem puzzlesSorted_cl2 : (Rows.puzzlesSortedRow.unfollowed == Tryz.pinned.checked.prog.unfollowed 7) = true := by kernel_rfl
theorem puzzlesSorted_cl3 : (Rows.puzzlesSortedRow.recurses == Tryz.pinned.checked.prog.recurses 7) = true := by kernel_rfl
theorem puzzlesSorted_cl4 : (Rows.puzzlesSortedRow.named == Tryz.pinned.checked.prog.varsNamed 7) = true := by kernel_rfl
theorem puzzlesSorted_closed : joinedFacts Tryz.pinned.checked.prog 7 Tryz.f7 Rows.puzzlesSortedSpec Rows.puzzlesSortedRow = true := by
 unfold joinedFacts
 rw [puzzlesSorted_cl1, puzzlesSorted_cl2, puzzlesSorted_cl3, puzzlesSorted_cl4]
 kernel_rfl
theorem puzzlesSorted_inst : Tryz.f7.isInstance Tryz.pinned.checked.prog Rows.puzzlesSortedRow.origin Rows.puzzlesSortedRow.targs := of_decide_eq_true (by kernel_rfl)
theorem puzzlesSorted_wrap : Tryz.f7.isWrapper Tryz.pinned.checked.prog Rows.puzzlesSortedRow.wrapper Rows.puzzlesSortedRow.mainSum := by
 unfold Func.isWrapper
 first | (rw [if_pos (by decide +kernel)]; kernel_rfl) | (rw [if_neg (by decide +kernel)]; exact ⟨rfl, rfl⟩)
theorem puzzlesSorted_row : Rows.PuzzlesSortedSaid :=
 OpenClaim.holds_of_wide 7 Tryz.f7 rfl rfl rfl rfl rfl rfl rfl ⟨rfl, rfl, rfl, rfl, rfl⟩ rfl rfl rfl rfl rfl puzzlesSorted_named Tryz.func7 puzzlesSorted_closed puzzlesSorted_inst puzzlesSorted_wrap
  (fun os started H enc _ => puzzlesSorted_lifted os started H enc)
theorem puzzlesSorted_wf : Rows.puzzlesSortedRow.wfByText (OpenSpec.ofChange Rows.puzzlesSortedSpec) = true := by kernel_rfl
theorem puzzlesSorted_main : Tryz.pinned.checked.prog.mainIs = some (true, ("2941863587496d5c17aab5443e0acf468e780cb3dba0cd4a05c5c52affc88693" : String).toList) := by kernel_rfl
theorem puzzlesSorted_looks : true = Tryz.pinned.checked.prog.looks [] := by kernel_rfl
theorem puzzlesSorted_stand : ([35, 3].all fun u => !Tryz.prog.wantsStandIn u) = true := by kernel_rfl
theorem puzzlesSorted_goes : false = Rows.puzzlesSortedRow.goesBy Tryz.pinned.checked.prog := by kernel_rfl
theorem puzzlesSorted_holds : Rows.PuzzlesSortedCardSaid :=
 Claim7.holds_tied_plain_at .later [] [.data, .data, .data, .sentinel, .sentinel] true (true, "2941863587496d5c17aab5443e0acf468e780cb3dba0cd4a05c5c52affc88693") true
  puzzlesSorted_row (fun _ h => by cases h) puzzlesSorted_wf (fun _ h => by cases h) puzzlesSorted_row_tie rfl ⟨rfl, rfl⟩ puzzlesSorted_main rfl
  (fun f fn hf hfn => by
    obtain rfl : f = 7 := Option.some.inj (puzzlesSorted_named.symm.trans hf) |>.symm
    obtain rfl : fn = Tryz.f7 := (Option.some.inj (Tryz.func7.symm.trans hfn)).symm
    exact ⟨puzzlesSorted_looks, fun j t ht => by
     rw [Tryz.params7] at ht
     have hm : t ∈ [35, 3] := by simpa using Array.mem_of_getElem? ht
     exact (show Tryz.prog.wantsStandIn t = false by simpa using List.all_eq_true.1 puzzlesSorted_stand t hm)⟩)
  puzzlesSorted_goes
#print axioms puzzlesSorted_holds
end Go.Proofs.YtoohgkkmdnbnfaaGreatDoor

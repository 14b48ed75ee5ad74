/-
  The reference: runs, rises; numbers in a range.
-/
import Derived.Test.YtpkieeggilkagaaGreatMeanR5
set_option linter.unusedSimpArgs false
set_option linter.unusedVariables false
set_option maxHeartbeats 2000000
set_option maxRecDepth 10000
namespace Go.Proofs.YtpkieeggilkagaaGreat
open Go.Ideal Gph

noncomputable def c_rBetween : CFunc := ⟨28, [(.tmp 6)], (.seq (.ops [6] [⟨⟨(some 6), none, (.asg (.const (.bool false)))⟩, []⟩]) (.seq (.seq (.ops [7] [⟨⟨(some 7), none, (.asg (.const (.int .i64 0)))⟩, []⟩]) (.block 0 (.loop (.seq (.seq (.ops [8, 9, 10, 11] [⟨⟨(some 8), none, (.mv (.tmp 7))⟩, []⟩, ⟨⟨(some 9), none, (.mv (.tmp 0))⟩, []⟩, ⟨⟨(some 10), none, (.lenSl (.tmp 9))⟩, []⟩, ⟨⟨(some 11), none, (.bin .lss 3 (.tmp 8) (.tmp 10))⟩, []⟩]) (.cond (.tmp 11) .skip (.exit 0))) (.seq (.block 1 (.seq (.ops [14, 15, 16, 17, 18, 19, 20, 21, 22, 23, 24, 25, 26, 27] [⟨⟨(some 14), none, (.mv (.tmp 0))⟩, []⟩, ⟨⟨(some 15), none, (.mv (.tmp 7))⟩, []⟩, ⟨⟨(some 16), none, (.idxSl 1 (.tmp 14) (.tmp 15))⟩, []⟩, ⟨⟨(some 17), none, (.load1 (.tmp 16))⟩, []⟩, ⟨⟨(some 18), none, (.mv (.tmp 1))⟩, []⟩, ⟨⟨(some 19), none, (.bin .lss 3 (.tmp 17) (.tmp 18))⟩, []⟩, ⟨⟨(some 20), none, (.mv (.tmp 19))⟩, []⟩, ⟨⟨(some 21), (some ⟨20, false⟩), (.mv (.tmp 0))⟩, []⟩, ⟨⟨(some 22), (some ⟨20, false⟩), (.mv (.tmp 7))⟩, []⟩, ⟨⟨(some 23), (some ⟨20, false⟩), (.idxSl 1 (.tmp 21) (.tmp 22))⟩, []⟩, ⟨⟨(some 24), (some ⟨20, false⟩), (.load1 (.tmp 23))⟩, []⟩, ⟨⟨(some 25), (some ⟨20, false⟩), (.mv (.tmp 2))⟩, []⟩, ⟨⟨(some 26), (some ⟨20, false⟩), (.bin .gtr 3 (.tmp 24) (.tmp 25))⟩, []⟩, ⟨⟨(some 27), none, (.pick (.tmp 20) (.const (.bool true)) (.tmp 26))⟩, []⟩]) (.cond (.tmp 27) (.seq (.ops [6] [⟨⟨(some 6), none, (.asg (.const (.bool false)))⟩, []⟩]) .ret) .skip))) (.ops [12, 13, 7] [⟨⟨(some 12), none, (.mv (.tmp 7))⟩, []⟩, ⟨⟨(some 13), none, (.bin .add 3 (.tmp 12) (.const (.int .i64 1)))⟩, []⟩, ⟨⟨(some 7), none, (.asg (.tmp 13))⟩, []⟩])))))) (.seq (.ops [6] [⟨⟨(some 6), none, (.asg (.const (.bool true)))⟩, []⟩]) .ret)))⟩
theorem f_rBetween : (envOf Tryz.prog noCut noMemo).F 154 = some c_rBetween := by kernel_rfl
noncomputable def c_rDiff19 : CFunc := ⟨25, [(.tmp 2)], (.seq (.ops [2] [⟨⟨(some 2), none, (.asg (.const (.bool false)))⟩, []⟩]) (.seq (.seq (.ops [3] [⟨⟨(some 3), none, (.asg (.const (.int .i64 0)))⟩, []⟩]) (.block 0 (.loop (.seq (.seq (.ops [5, 6, 7, 8] [⟨⟨(some 5), none, (.mv (.tmp 3))⟩, []⟩, ⟨⟨(some 6), none, (.mv (.tmp 0))⟩, []⟩, ⟨⟨(some 7), none, (.lenSl (.tmp 6))⟩, []⟩, ⟨⟨(some 8), none, (.bin .lss 3 (.tmp 5) (.tmp 7))⟩, []⟩]) (.cond (.tmp 8) .skip (.exit 0))) (.seq (.block 1 (.seq (.ops [4] [⟨⟨(some 4), none, (.asg (.const (.int .i64 0)))⟩, []⟩]) (.block 2 (.loop (.seq (.seq (.ops [11, 12, 13] [⟨⟨(some 11), none, (.mv (.tmp 4))⟩, []⟩, ⟨⟨(some 12), none, (.mv (.tmp 3))⟩, []⟩, ⟨⟨(some 13), none, (.bin .lss 3 (.tmp 11) (.tmp 12))⟩, []⟩]) (.cond (.tmp 13) .skip (.exit 2))) (.seq (.block 3 (.seq (.ops [16, 17, 18, 19, 20, 21, 22, 23, 24] [⟨⟨(some 16), none, (.mv (.tmp 0))⟩, []⟩, ⟨⟨(some 17), none, (.mv (.tmp 3))⟩, []⟩, ⟨⟨(some 18), none, (.idxSl 1 (.tmp 16) (.tmp 17))⟩, []⟩, ⟨⟨(some 19), none, (.load1 (.tmp 18))⟩, []⟩, ⟨⟨(some 20), none, (.mv (.tmp 0))⟩, []⟩, ⟨⟨(some 21), none, (.mv (.tmp 4))⟩, []⟩, ⟨⟨(some 22), none, (.idxSl 1 (.tmp 20) (.tmp 21))⟩, []⟩, ⟨⟨(some 23), none, (.load1 (.tmp 22))⟩, []⟩, ⟨⟨(some 24), none, (.bin .eql 3 (.tmp 19) (.tmp 23))⟩, []⟩]) (.cond (.tmp 24) (.seq (.ops [2] [⟨⟨(some 2), none, (.asg (.const (.bool false)))⟩, []⟩]) .ret) .skip))) (.ops [14, 15, 4] [⟨⟨(some 14), none, (.mv (.tmp 4))⟩, []⟩, ⟨⟨(some 15), none, (.bin .add 3 (.tmp 14) (.const (.int .i64 1)))⟩, []⟩, ⟨⟨(some 4), none, (.asg (.tmp 15))⟩, []⟩]))))))) (.ops [9, 10, 3] [⟨⟨(some 9), none, (.mv (.tmp 3))⟩, []⟩, ⟨⟨(some 10), none, (.bin .add 3 (.tmp 9) (.const (.int .i64 1)))⟩, []⟩, ⟨⟨(some 3), none, (.asg (.tmp 10))⟩, []⟩])))))) (.seq (.ops [2] [⟨⟨(some 2), none, (.asg (.const (.bool true)))⟩, []⟩]) .ret)))⟩
theorem f_rDiff19 : (envOf Tryz.prog noCut noMemo).F 201 = some c_rDiff19 := by kernel_rfl

theorem rBetween_ok {va : Value} {xs : List Int} {lo hi : Int} (hl : xs.length < 9223372036854775808) : FnP Tryz.prog 154 [va, .int .i64 lo, .int .i64 hi] [fSl intE va xs] (.bool (wit xs lo hi)) := by
  refine q_beg c_rBetween f_rBetween fun B w0 => ?_
  refine go ?_
  refine q_loop (fun k => xs.length - k) (fun k : Nat => [(7, .int .i64 (k : Int))]) (fun _ => []) (fun _ => []) (fun k => k ≤ xs.length ∧ ∀ x ∈ xs.take k, lo ≤ x ∧ x ≤ hi) 0 ⟨Nat.zero_le _, by simp⟩ (body := ?_)
  rintro k ⟨hk, hall⟩
  refine go ?_
  refine if_d rfl (fun h2 => ?_) (fun h2 => ?_)
  · refine go ?_
    intro _ _ x hx
    have hxm := List.mem_of_getElem? hx
    have no : ¬ (lo ≤ x ∧ x ≤ hi) → wit xs lo hi = false := fun h => decide_eq_false fun hw => h (hw x hxm)
    refine go ?_
    first | with_reducible refine g_d (fun h3 => ?_) (fun h3 => ?_) | with_reducible refine g_n (fun h3 => ?_) (fun h3 => ?_) | with_reducible refine g_b (fun h3 => ?_) (fun h3 => ?_)
    rotate_left
    · refine go ?_
      refine q_fin () (hv := ?_) (hp := trivial)
      rw [no (by omega)]; rfl
    refine go ?_
    intro _ _ x' hx'
    cases hx.symm.trans hx'
    refine go ?_
    refine if_d rfl (fun h4 => ?_) (fun h4 => ?_)
    · refine go ?_
      refine q_fin () (hv := ?_) (hp := trivial)
      rw [no (by omega)]; rfl
    refine go ?_
    refine q_again (k + 1) (by omega) ⟨by omega, fun s hs => ?_⟩
    rw [take_one hx, List.mem_append] at hs
    rcases hs with hs | hs
    · exact hall s hs
    · rw [List.mem_singleton.1 hs]; omega
  have hkl : k = xs.length := by omega
  subst hkl
  rw [List.take_length] at hall
  refine go ?_
  refine q_fin () (hv := ?_) (hp := trivial)
  rw [wit, decide_eq_true hall]; rfl

theorem rDiff19_ok {vc : Value} {cells : List Int} (hl : cells.length < 9223372036854775808) : FnP Tryz.prog 201 [vc] [fSl intE vc cells] (.bool (decide cells.Nodup)) := by
  refine q_beg c_rDiff19 f_rDiff19 fun B w0 => ?_
  refine go ?_
  refine q_loop (fun k => cells.length - k) (fun k : Nat => [(3, .int .i64 (k : Int))]) (fun _ => []) (fun _ => []) (fun k => k ≤ cells.length ∧ (cells.take k).Nodup) 0 ⟨Nat.zero_le _, by simp⟩ (body := ?_)
  rintro k ⟨hk, hnd⟩
  refine go ?_
  refine if_d rfl (fun h1 => ?_) (fun h1 => ?_)
  · have hck : cells[k]? = some (cells[k]'(by omega)) := List.getElem?_eq_getElem _
    generalize cells[k]'(by omega) = c at hck
    refine go ?_
    refine q_loop (fun j => k - j) (fun j : Nat => [(4, .int .i64 (j : Int))]) (fun _ => []) (fun _ => []) (fun j => j ≤ k ∧ c ∉ cells.take j) 0 ⟨Nat.zero_le _, by simp⟩ (body := ?_)
    rintro j ⟨hj, hno⟩
    refine go ?_
    refine if_d rfl (fun h2 => ?_) (fun h2 => ?_)
    · refine go ?_
      intro _ _ c' hc' _ _ d hd
      cases hck.symm.trans hc'
      refine go ?_
      refine if_d rfl (fun h3 => ?_) (fun h3 => ?_)
      · refine go ?_
        refine q_fin () (hv := ?_) (hp := trivial)
        have : ¬ cells.Nodup := fun hall => by
          have h4 : (cells.take (k + 1)).Nodup := List.Nodup.sublist (List.take_sublist _ _) hall
          rw [take_one hck, List.nodup_append] at h4
          have hm : d ∈ cells.take k := List.mem_take_iff_getElem.2 ⟨j, by have := (List.getElem?_eq_some_iff.1 hd).1; omega, (List.getElem?_eq_some_iff.1 hd).2⟩
          exact h4.2.2 d hm c (by simp) h3.symm
        rw [decide_eq_false this]; rfl
      refine go ?_
      refine q_again (j + 1) (by omega) ⟨by omega, ?_⟩
      rw [take_one hd, List.mem_append, not_or]
      exact ⟨hno, by simp; exact h3⟩
    have hjk : j = k := by omega
    subst hjk
    refine go ?_
    exact q_again (j + 1) (by omega) ⟨by omega, nodup_take hnd hck hno⟩
  have hkl : k = cells.length := by omega
  subst hkl
  rw [List.take_length] at hnd
  refine go ?_
  refine q_fin () (hv := ?_) (hp := trivial)
  rw [decide_eq_true hnd]; rfl

theorem rRuns_ok {vg vc : Value} {grid cells : List Int} {set : Nat} (hg : GridOK grid) (hc : CellsOK grid cells) (hs : set < 9223372036854775808) :
    FnC Tryz.prog (.func 32) [vg, vc, .int .i64 (set : Int)] [] [] [fSl intE vg grid, fSl intE vc cells] (fun v : Value => v) (fun _ => []) (fun v => [fSl intE v (rn grid set 0 cells)]) (fun _ => True) := by
  refine q_beg c_rRuns f_rRuns fun B w0 => ?_
  have hcl := hc.len
  have hgl := hg.len
  have hrl := rn_len grid set cells 0
  refine go ?_
  refine st_ap0 intE ?_
  refine q_loop (fun x => cells.length - x.1) (fun x : Nat × Nat × Value × List Int => [(9, .int .i64 (x.1 : Int)), (8, .int .i64 (x.2.1 : Int)), (7, x.2.2.1)]) (fun x => [ap intE x.2.2.1 x.2.2.2]) (fun _ => [])
    (fun x => x.1 ≤ cells.length ∧ x.2.1 ≤ x.1 ∧ x.2.2.2 ++ rn grid set x.2.1 (cells.drop x.1) = rn grid set 0 cells) (0, 0, .slice none 0 0, []) ⟨Nat.zero_le _, Nat.le_refl _, rfl⟩ (body := ?_)
  rintro ⟨k, n, v, xs⟩ ⟨hk, hn, hxs⟩
  dsimp only at hk hn hxs ⊢
  have hxl : xs.length ≤ cells.length + 1 := by
    have := congrArg List.length hxs
    rw [List.length_append] at this
    omega
  refine go ?_
  refine if_d rfl (fun h1 => ?_) (fun h1 => ?_)
  · refine go ?_
    intro _ _ c hck
    have hcc := hc.cell c (List.mem_of_getElem? hck)
    obtain ⟨c, rfl⟩ := Int.eq_ofNat_of_zero_le hcc.1
    have hdrop : cells.drop k = (c : Int) :: cells.drop (k + 1) := by
      obtain ⟨hlt, he⟩ := List.getElem?_eq_some_iff.1 hck
      rw [List.drop_eq_getElem_cons hlt, he]
    rw [hdrop] at hxs
    refine go ?_
    intro _ _ x hx
    have hxx := hg.sym x (List.mem_of_getElem? hx)
    obtain ⟨x, rfl⟩ := Int.eq_ofNat_of_zero_le hxx.1
    rw [rn, sy_of hx] at hxs
    refine q_call (rIn_ok (set := set) (sym := x) hs (by omega)) (next := fun _ _ => ?_)
    refine go ?_
    refine if_b rfl (fun h2 => ?_) (fun h2 => ?_)
    · rw [if_pos h2] at hxs
      refine go ?_
      exact q_again (k + 1, n + 1, v, xs) (by show cells.length - (k + 1) < cells.length - k; omega) ⟨by show k + 1 ≤ _; omega, by show n + 1 ≤ k + 1; omega, hxs⟩
    rw [if_neg (by rw [h2]; simp)] at hxs
    refine go ?_
    refine if_d rfl (fun h3 => ?_) (fun h3 => ?_)
    · rw [if_pos (by omega)] at hxs
      refine go ?_
      intro b31
      refine q_app (xs := xs) intE (n : Int) () (by omega) (next := fun ad => ?_)
      refine go ?_
      exact q_again (k + 1, 0, _, xs ++ [(n : Int)]) (by show cells.length - (k + 1) < cells.length - k; omega) ⟨by show k + 1 ≤ _; omega, Nat.zero_le _, by show (xs ++ [(n : Int)]) ++ _ = _; rw [List.append_assoc]; exact hxs⟩
    · rw [if_neg (by omega)] at hxs
      refine go ?_
      exact q_again (k + 1, 0, v, xs) (by show cells.length - (k + 1) < cells.length - k; omega) ⟨by show k + 1 ≤ _; omega, Nat.zero_le _, hxs⟩
  have hkl : k = cells.length := by omega
  subst hkl
  rw [List.drop_length, rn] at hxs
  refine go ?_
  refine if_d rfl (fun h3 => ?_) (fun h3 => ?_)
  · rw [if_pos (by omega)] at hxs
    refine go ?_
    intro b36
    refine q_app (xs := xs) intE (n : Int) () (by omega) (next := fun ad => ?_)
    refine go ?_
    rw [hxs]
    refine q_frz (frz_ap (E := intE) (v := .slice ad (xs.length + 1) (xs.length + 1)) (xs := rn grid set 0 cells)) (h := ?_)
    exact q_fin (.slice ad (xs.length + 1) (xs.length + 1)) (hv := rfl) (hp := trivial)
  · rw [if_neg (by omega), List.append_nil] at hxs
    subst hxs
    refine go ?_
    refine q_frz (frz_ap (E := intE) (v := v) (xs := rn grid set 0 cells)) (h := ?_)
    exact q_fin v (hv := rfl) (hp := trivial)

theorem rRise_ok {vv vg vc : Value} {values grid cells : List Int} (hg : GridOK grid) (hc : CellsOK grid cells) (hv : ValsOK values grid) :
    FnP Tryz.prog 109 [vv, vg, vc] [fSl intE vv values, fSl intE vg grid, fSl intE vc cells] (.bool (ris values grid cells)) := by
  refine q_beg c_rRise f_rRise fun B w0 => ?_
  have hcl := hc.len
  have hgl := hg.len
  refine go ?_
  refine q_loop (fun k => cells.length + 1 - k) (fun k : Nat => [(7, .int .i64 (k : Int))]) (fun _ => []) (fun _ => []) (fun k => 1 ≤ k ∧ (k ≤ cells.length ∨ k = 1) ∧ ∀ (i : Nat) a b, i + 1 < k → cells[i]? = some a → cells[i + 1]? = some b → va values grid a < va values grid b) 1 ⟨by omega, .inr rfl, fun i a b h => by omega⟩ (body := ?_)
  rintro k ⟨hk1, hk, hall⟩
  refine go ?_
  refine if_d rfl (fun h1 => ?_) (fun h1 => ?_)
  · obtain ⟨k, rfl⟩ : ∃ k', k = k' + 1 := ⟨k - 1, by omega⟩
    refine go ?_
    intro _ _ c hck
    rw [show (((k + 1 : Nat) : Int) - 1).toNat = k by omega] at hck
    have hcc := hc.cell c (List.mem_of_getElem? hck)
    obtain ⟨c, rfl⟩ := Int.eq_ofNat_of_zero_le hcc.1
    refine go ?_
    intro _ _ x hx
    have hxx := hg.sym x (List.mem_of_getElem? hx)
    have hxv := hv.sym x (List.mem_of_getElem? hx)
    obtain ⟨x, rfl⟩ := Int.eq_ofNat_of_zero_le hxx.1
    refine go ?_
    intro _ _ v hvx
    refine go ?_
    intro _ _ d hdk
    have hdd := hc.cell d (List.mem_of_getElem? hdk)
    obtain ⟨d, rfl⟩ := Int.eq_ofNat_of_zero_le hdd.1
    refine go ?_
    intro _ _ y hy
    have hyy := hg.sym y (List.mem_of_getElem? hy)
    have hyv := hv.sym y (List.mem_of_getElem? hy)
    obtain ⟨y, rfl⟩ := Int.eq_ofNat_of_zero_le hyy.1
    refine go ?_
    intro _ _ u huy
    refine go ?_
    refine if_d rfl (fun h2 => ?_) (fun h2 => ?_)
    · refine go ?_
      refine q_fin () (hv := ?_) (hp := trivial)
      have : ris values grid cells = false := by
        refine decide_eq_false fun hpw => ?_
        rw [List.pairwise_map] at hpw
        have := (List.pairwise_iff_getElem.1 hpw) k (k + 1) (List.getElem?_eq_some_iff.1 hck).1 (List.getElem?_eq_some_iff.1 hdk).1 (by omega)
        rw [(List.getElem?_eq_some_iff.1 hck).2, (List.getElem?_eq_some_iff.1 hdk).2, va_of hx hvx, va_of hy huy] at this
        omega
      rw [this]; rfl
    refine go ?_
    refine q_again (k + 1 + 1) (by omega) ⟨by omega, .inl (by omega), fun i a b hi ha hb => ?_⟩
    by_cases e : i = k
    · subst e
      rw [hck] at ha
      rw [hdk] at hb
      cases ha; cases hb
      rw [va_of hx hvx, va_of hy huy]; omega
    · exact hall i a b (by omega) ha hb
  refine go ?_
  refine q_fin () (hv := ?_) (hp := trivial)
  have hstep : ∀ (i : Nat) a b, cells[i]? = some a → cells[i + 1]? = some b → va values grid a < va values grid b := fun i a b ha hb => hall i a b (by have := (List.getElem?_eq_some_iff.1 hb).1; omega) ha hb
  have : ris values grid cells = true := by
    refine decide_eq_true ?_
    rw [List.pairwise_map, List.pairwise_iff_getElem]
    intro i j hi hj hij
    have : ∀ d, ∀ hd : i + 1 + d < cells.length, va values grid cells[i] < va values grid cells[i + 1 + d] := by
      intro d
      induction d with
      | zero => intro hd; exact hstep i _ _ (List.getElem?_eq_getElem hi) (List.getElem?_eq_getElem hd)
      | succ d ih =>
        intro hd
        have h1 := ih (by omega)
        have h2 := hstep (i + 1 + d) _ _ (List.getElem?_eq_getElem (by omega)) (List.getElem?_eq_getElem (show i + 1 + d + 1 < cells.length by omega))
        exact Int.lt_trans h1 h2
    have := this (j - (i + 1)) (by omega)
    simpa [show i + 1 + (j - (i + 1)) = j by omega] using this
  rw [this]; rfl
end Go.Proofs.YtpkieeggilkagaaGreat

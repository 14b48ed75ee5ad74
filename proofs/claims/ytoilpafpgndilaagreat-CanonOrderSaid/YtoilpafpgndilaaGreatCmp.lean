/-
  Comparisons: cmp.Compare and slices.Compare of numbers.
-/
import Derived.Test.YtoilpafpgndilaaGreatIdealK
import Derived.Test.YtoilpafpgndilaaGreatIdealI
import Derived.Test.YtoilpafpgndilaaGreatProg
import Derived.KernelRfl
set_option linter.unusedSimpArgs false
set_option linter.unusedVariables false
set_option maxHeartbeats 1000000
namespace Go.Proofs.YtoilpafpgndilaaGreat
open Go.Ideal Canon

noncomputable def c_isNaN : CFunc := ⟨6, [(.tmp 2)], (.seq (.ops [2] [⟨⟨(some 2), none, (.asg (.const (.bool false)))⟩, []⟩]) (.seq (.ops [3, 4, 5, 2] [⟨⟨(some 3), none, (.mv (.tmp 0))⟩, []⟩, ⟨⟨(some 4), none, (.mv (.tmp 0))⟩, []⟩, ⟨⟨(some 5), none, (.bin .neq 3 (.tmp 3) (.tmp 4))⟩, []⟩, ⟨⟨(some 2), none, (.asg (.tmp 5))⟩, []⟩]) .ret))⟩
theorem f_isNaN : (envOf Tryz.prog noCut noMemo).F 106 = some c_isNaN := by kernel_rfl
noncomputable def c_cmpI : CFunc := ⟨20, [(.tmp 4)], (.seq (.ops [4] [⟨⟨(some 4), none, (.asg (.const (.int .i64 0)))⟩, []⟩]) (.seq (.ops [7, 8, 5] [⟨⟨(some 7), none, (.mv (.tmp 0))⟩, []⟩, ⟨⟨(some 8), none, (.call (.func 106) [(.tmp 7)])⟩, []⟩, ⟨⟨(some 5), none, (.asg (.tmp 8))⟩, []⟩]) (.seq (.ops [9, 10, 6] [⟨⟨(some 9), none, (.mv (.tmp 1))⟩, []⟩, ⟨⟨(some 10), none, (.call (.func 106) [(.tmp 9)])⟩, []⟩, ⟨⟨(some 6), none, (.asg (.tmp 10))⟩, []⟩]) (.seq (.seq (.ops [11] [⟨⟨(some 11), none, (.mv (.tmp 5))⟩, []⟩]) (.cond (.tmp 11) (.seq (.seq (.ops [12] [⟨⟨(some 12), none, (.mv (.tmp 6))⟩, []⟩]) (.cond (.tmp 12) (.seq (.ops [4] [⟨⟨(some 4), none, (.asg (.const (.int .i64 0)))⟩, []⟩]) .ret) .skip)) (.seq (.ops [4] [⟨⟨(some 4), none, (.asg (.const (.int .i64 (-1))))⟩, []⟩]) .ret)) .skip)) (.seq (.seq (.ops [13] [⟨⟨(some 13), none, (.mv (.tmp 6))⟩, []⟩]) (.cond (.tmp 13) (.seq (.ops [4] [⟨⟨(some 4), none, (.asg (.const (.int .i64 1)))⟩, []⟩]) .ret) .skip)) (.seq (.seq (.ops [14, 15, 16] [⟨⟨(some 14), none, (.mv (.tmp 0))⟩, []⟩, ⟨⟨(some 15), none, (.mv (.tmp 1))⟩, []⟩, ⟨⟨(some 16), none, (.bin .lss 3 (.tmp 14) (.tmp 15))⟩, []⟩]) (.cond (.tmp 16) (.seq (.ops [4] [⟨⟨(some 4), none, (.asg (.const (.int .i64 (-1))))⟩, []⟩]) .ret) .skip)) (.seq (.seq (.ops [17, 18, 19] [⟨⟨(some 17), none, (.mv (.tmp 0))⟩, []⟩, ⟨⟨(some 18), none, (.mv (.tmp 1))⟩, []⟩, ⟨⟨(some 19), none, (.bin .gtr 3 (.tmp 17) (.tmp 18))⟩, []⟩]) (.cond (.tmp 19) (.seq (.ops [4] [⟨⟨(some 4), none, (.asg (.const (.int .i64 1)))⟩, []⟩]) .ret) .skip)) (.seq (.ops [4] [⟨⟨(some 4), none, (.asg (.const (.int .i64 0)))⟩, []⟩]) .ret))))))))⟩
theorem f_cmpI : (envOf Tryz.prog noCut noMemo).F 65 = some c_cmpI := by kernel_rfl
noncomputable def c_slCmp : CFunc := ⟨36, [(.tmp 4)], (.seq (.ops [4] [⟨⟨(some 4), none, (.asg (.const (.int .i64 0)))⟩, []⟩]) (.seq (.seq (.ops [9, 10, 11] [⟨⟨(some 9), none, (.mv (.tmp 0))⟩, []⟩, ⟨⟨(some 10), none, (.lenSl (.tmp 9))⟩, []⟩, ⟨⟨(some 11), none, (.mv (.const (.int .i64 0)))⟩, []⟩]) (.block 0 (.loop (.seq (.ops [12] [⟨⟨(some 12), none, (.bin .lss 3 (.tmp 11) (.tmp 10))⟩, []⟩]) (.seq (.cond (.tmp 12) .skip (.exit 0)) (.seq (.block 1 (.seq (.ops [13, 14, 15, 5, 6] [⟨⟨(some 13), none, (.mv (.tmp 11))⟩, []⟩, ⟨⟨(some 14), none, (.idxSl 1 (.tmp 9) (.tmp 11))⟩, []⟩, ⟨⟨(some 15), none, (.load1 (.tmp 14))⟩, []⟩, ⟨⟨(some 5), none, (.asg (.tmp 13))⟩, []⟩, ⟨⟨(some 6), none, (.asg (.tmp 15))⟩, []⟩]) (.seq (.seq (.ops [16, 17, 18, 19] [⟨⟨(some 16), none, (.mv (.tmp 5))⟩, []⟩, ⟨⟨(some 17), none, (.mv (.tmp 1))⟩, []⟩, ⟨⟨(some 18), none, (.lenSl (.tmp 17))⟩, []⟩, ⟨⟨(some 19), none, (.bin .geq 3 (.tmp 16) (.tmp 18))⟩, []⟩]) (.cond (.tmp 19) (.seq (.ops [4] [⟨⟨(some 4), none, (.asg (.const (.int .i64 1)))⟩, []⟩]) .ret) .skip)) (.seq (.ops [20, 21, 22, 23, 7] [⟨⟨(some 20), none, (.mv (.tmp 1))⟩, []⟩, ⟨⟨(some 21), none, (.mv (.tmp 5))⟩, []⟩, ⟨⟨(some 22), none, (.idxSl 1 (.tmp 20) (.tmp 21))⟩, []⟩, ⟨⟨(some 23), none, (.load1 (.tmp 22))⟩, []⟩, ⟨⟨(some 7), none, (.asg (.tmp 23))⟩, []⟩]) (.seq (.ops [24, 25, 26, 8] [⟨⟨(some 24), none, (.mv (.tmp 6))⟩, []⟩, ⟨⟨(some 25), none, (.mv (.tmp 7))⟩, []⟩, ⟨⟨(some 26), none, (.call (.func 65) [(.tmp 24), (.tmp 25)])⟩, []⟩, ⟨⟨(some 8), none, (.asg (.tmp 26))⟩, []⟩]) (.seq (.ops [27, 28] [⟨⟨(some 27), none, (.mv (.tmp 8))⟩, []⟩, ⟨⟨(some 28), none, (.bin .neq 3 (.tmp 27) (.const (.int .i64 0)))⟩, []⟩]) (.cond (.tmp 28) (.seq (.ops [29, 4] [⟨⟨(some 29), none, (.mv (.tmp 8))⟩, []⟩, ⟨⟨(some 4), none, (.asg (.tmp 29))⟩, []⟩]) .ret) .skip))))))) (.ops [30, 11] [⟨⟨(some 30), none, (.bin .add 3 (.tmp 11) (.const (.int .i64 1)))⟩, []⟩, ⟨⟨(some 11), none, (.mv (.tmp 30))⟩, []⟩]))))))) (.seq (.seq (.ops [31, 32, 33, 34, 35] [⟨⟨(some 31), none, (.mv (.tmp 0))⟩, []⟩, ⟨⟨(some 32), none, (.lenSl (.tmp 31))⟩, []⟩, ⟨⟨(some 33), none, (.mv (.tmp 1))⟩, []⟩, ⟨⟨(some 34), none, (.lenSl (.tmp 33))⟩, []⟩, ⟨⟨(some 35), none, (.bin .lss 3 (.tmp 32) (.tmp 34))⟩, []⟩]) (.cond (.tmp 35) (.seq (.ops [4] [⟨⟨(some 4), none, (.asg (.const (.int .i64 (-1))))⟩, []⟩]) .ret) .skip)) (.seq (.ops [4] [⟨⟨(some 4), none, (.asg (.const (.int .i64 0)))⟩, []⟩]) .ret))))⟩
theorem f_slCmp : (envOf Tryz.prog noCut noMemo).F 68 = some c_slCmp := by kernel_rfl

theorem isNaN_ok (x : Int) : FnP Tryz.prog 106 [.int .i64 x] [] (.bool false) := by
  refine q_beg c_isNaN f_isNaN fun B w0 => ?_
  refine go ?_
  refine q_fin () (hv := ?_) (hp := trivial)
  simp [retV]

theorem cmpI_ok (x y : Int) : FnP Tryz.prog 65 [.int .i64 x, .int .i64 y] [] (.int .i64 (ordI x y)) := by
  refine q_beg c_cmpI f_cmpI fun B w0 => ?_
  refine go ?_
  refine q_call (isNaN_ok x) (next := fun _ _ => ?_)
  refine go ?_
  refine q_call (isNaN_ok y) (next := fun _ _ => ?_)
  refine go ?_
  refine if_d rfl (fun h1 => ?_) (fun h1 => ?_)
  · refine go ?_
    refine q_fin () (hv := ?_) (hp := trivial)
    rw [ordI, if_pos h1]; rfl
  refine go ?_
  refine if_d rfl (fun h2 => ?_) (fun h2 => ?_)
  · refine go ?_
    refine q_fin () (hv := ?_) (hp := trivial)
    rw [ordI, if_neg h1, if_pos h2]; rfl
  refine go ?_
  refine q_fin () (hv := ?_) (hp := trivial)
  rw [ordI, if_neg h1, if_neg h2]; rfl

theorem drop_cons {α : Type} {xs : List α} {k : Nat} {x : α} (h : xs[k]? = some x) : xs.drop k = x :: xs.drop (k + 1) := by
  obtain ⟨hlt, he⟩ := List.getElem?_eq_some_iff.1 h
  rw [List.drop_eq_getElem_cons hlt, he]

theorem ord_end {xs ys : List Int} {k : Nat} (hx : k ≤ xs.length) (hy : k ≤ ys.length) (h : k = xs.length ∨ k = ys.length) :
    ordL ordI (xs.drop k) (ys.drop k) = if xs.length < ys.length then -1 else if ys.length < xs.length then 1 else 0 := by
  rcases h with h | h
  · rw [show xs.drop k = [] from List.drop_eq_nil_of_le (by omega)]
    by_cases e : xs.length < ys.length
    · rw [if_pos e]
      have : k < ys.length := by omega
      rw [List.drop_eq_getElem_cons this]; rfl
    · rw [if_neg e, if_neg (by omega), show ys.drop k = [] from List.drop_eq_nil_of_le (by omega)]; rfl
  · rw [show ys.drop k = [] from List.drop_eq_nil_of_le (by omega)]
    by_cases e : ys.length < xs.length
    · rw [if_neg (by omega), if_pos e]
      have : k < xs.length := by omega
      rw [List.drop_eq_getElem_cons this]; rfl
    · rw [if_neg (by omega), if_neg e, show xs.drop k = [] from List.drop_eq_nil_of_le (by omega)]; rfl

theorem slCmp_ok {va vb : Value} {xs ys : List Int} (hal : xs.length ≤ 1000000) (hbl : ys.length ≤ 1000000) :
    FnP Tryz.prog 68 [va, vb] [fSl intE va xs, fSl intE vb ys] (.int .i64 (ordL ordI xs ys)) := by
  refine q_beg c_slCmp f_slCmp fun B w0 => ?_
  refine go ?_
  refine q_loop (fun k => xs.length - k) (fun k : Nat => [(11, .int .i64 (k : Int))]) (fun _ => []) (fun _ => []) (fun k => k ≤ xs.length ∧ k ≤ ys.length ∧ ordL ordI xs ys = ordL ordI (xs.drop k) (ys.drop k)) 0 ⟨by omega, by omega, rfl⟩ (body := ?_)
  rintro k ⟨hkx, hky, hord⟩
  refine go ?_
  refine if_d rfl (fun h1 => ?_) (fun h1 => ?_)
  · refine go ?_
    intro _ _ x hx
    refine if_d rfl (fun h2 => ?_) (fun h2 => ?_)
    · refine go ?_
      refine q_fin () (hv := ?_) (hp := trivial)
      rw [hord, drop_cons hx, show ys.drop k = [] from List.drop_eq_nil_of_le (by omega)]
      rfl
    refine go ?_
    intro _ _ y hy
    refine q_call (cmpI_ok x y) (next := fun _ _ => ?_)
    refine go ?_
    refine if_d rfl (fun h3 => ?_) (fun h3 => ?_)
    · refine go ?_
      refine q_fin () (hv := ?_) (hp := trivial)
      rw [hord, drop_cons hx, drop_cons hy, ordL, if_pos h3]; rfl
    refine go ?_
    refine q_again (k + 1) (by omega) ⟨by omega, by omega, ?_⟩
    rw [hord, drop_cons hx, drop_cons hy, ordL, if_neg (by simpa using h3)]
  refine go ?_
  have hkm : k = xs.length := by omega
  refine if_d rfl (fun h3 => ?_) (fun h3 => ?_)
  · refine go ?_
    refine q_fin () (hv := ?_) (hp := trivial)
    rw [hord, ord_end hkx hky (by omega), if_pos (by omega)]; rfl
  refine go ?_
  refine q_fin () (hv := ?_) (hp := trivial)
  rw [hord, ord_end hkx hky (by omega), if_neg (by omega), if_neg (by omega)]; rfl

end Go.Proofs.YtoilpafpgndilaaGreat

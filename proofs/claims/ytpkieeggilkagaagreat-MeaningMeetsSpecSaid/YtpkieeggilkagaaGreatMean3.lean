/-
  Searches in lists; graphs checked.
-/
import Derived.Test.YtpkieeggilkagaaGreatMean2
set_option linter.unusedSimpArgs false
set_option linter.unusedVariables false
set_option maxHeartbeats 1000000
namespace Go.Proofs.YtpkieeggilkagaaGreat
open Go.Ideal

noncomputable def c_idxFI : CFunc := ⟨19, [(.tmp 4)], (.seq (.ops [4] [⟨⟨(some 4), none, (.asg (.const (.int .i64 0)))⟩, []⟩]) (.seq (.seq (.ops [6, 7, 8] [⟨⟨(some 6), none, (.mv (.tmp 0))⟩, []⟩, ⟨⟨(some 7), none, (.lenSl (.tmp 6))⟩, []⟩, ⟨⟨(some 8), none, (.mv (.const (.int .i64 0)))⟩, []⟩]) (.block 0 (.loop (.seq (.ops [9] [⟨⟨(some 9), none, (.bin .lss 3 (.tmp 8) (.tmp 7))⟩, []⟩]) (.seq (.cond (.tmp 9) .skip (.exit 0)) (.seq (.block 1 (.seq (.ops [10, 5] [⟨⟨(some 10), none, (.mv (.tmp 8))⟩, []⟩, ⟨⟨(some 5), none, (.asg (.tmp 10))⟩, []⟩]) (.seq (.ops [11, 12, 13, 14, 15, 16] [⟨⟨(some 11), none, (.mv (.tmp 1))⟩, []⟩, ⟨⟨(some 12), none, (.mv (.tmp 0))⟩, []⟩, ⟨⟨(some 13), none, (.mv (.tmp 5))⟩, []⟩, ⟨⟨(some 14), none, (.idxSl 1 (.tmp 12) (.tmp 13))⟩, []⟩, ⟨⟨(some 15), none, (.load1 (.tmp 14))⟩, []⟩, ⟨⟨(some 16), none, (.call (.tmp 11) [(.tmp 15)])⟩, []⟩]) (.cond (.tmp 16) (.seq (.ops [17, 4] [⟨⟨(some 17), none, (.mv (.tmp 5))⟩, []⟩, ⟨⟨(some 4), none, (.asg (.tmp 17))⟩, []⟩]) .ret) .skip)))) (.ops [18, 8] [⟨⟨(some 18), none, (.bin .add 3 (.tmp 8) (.const (.int .i64 1)))⟩, []⟩, ⟨⟨(some 8), none, (.mv (.tmp 18))⟩, []⟩]))))))) (.seq (.ops [4] [⟨⟨(some 4), none, (.asg (.const (.int .i64 (-1))))⟩, []⟩]) .ret)))⟩
theorem f_idxFI : (envOf Tryz.prog noCut noMemo).F 147 = some c_idxFI := by kernel_rfl
noncomputable def c_conFI : CFunc := ⟨9, [(.tmp 4)], (.seq (.ops [4] [⟨⟨(some 4), none, (.asg (.const (.bool false)))⟩, []⟩]) (.seq (.ops [5, 6, 7, 8, 4] [⟨⟨(some 5), none, (.mv (.tmp 0))⟩, []⟩, ⟨⟨(some 6), none, (.mv (.tmp 1))⟩, []⟩, ⟨⟨(some 7), none, (.call (.func 147) [(.tmp 5), (.tmp 6)])⟩, []⟩, ⟨⟨(some 8), none, (.bin .geq 3 (.tmp 7) (.const (.int .i64 0)))⟩, []⟩, ⟨⟨(some 4), none, (.asg (.tmp 8))⟩, []⟩]) .ret))⟩
theorem f_conFI : (envOf Tryz.prog noCut noMemo).F 99 = some c_conFI := by kernel_rfl
noncomputable def c_idxI : CFunc := ⟨19, [(.tmp 4)], (.seq (.ops [4] [⟨⟨(some 4), none, (.asg (.const (.int .i64 0)))⟩, []⟩]) (.seq (.seq (.ops [6, 7, 8] [⟨⟨(some 6), none, (.mv (.tmp 0))⟩, []⟩, ⟨⟨(some 7), none, (.lenSl (.tmp 6))⟩, []⟩, ⟨⟨(some 8), none, (.mv (.const (.int .i64 0)))⟩, []⟩]) (.block 0 (.loop (.seq (.ops [9] [⟨⟨(some 9), none, (.bin .lss 3 (.tmp 8) (.tmp 7))⟩, []⟩]) (.seq (.cond (.tmp 9) .skip (.exit 0)) (.seq (.block 1 (.seq (.ops [10, 5] [⟨⟨(some 10), none, (.mv (.tmp 8))⟩, []⟩, ⟨⟨(some 5), none, (.asg (.tmp 10))⟩, []⟩]) (.seq (.ops [11, 12, 13, 14, 15, 16] [⟨⟨(some 11), none, (.mv (.tmp 1))⟩, []⟩, ⟨⟨(some 12), none, (.mv (.tmp 0))⟩, []⟩, ⟨⟨(some 13), none, (.mv (.tmp 5))⟩, []⟩, ⟨⟨(some 14), none, (.idxSl 1 (.tmp 12) (.tmp 13))⟩, []⟩, ⟨⟨(some 15), none, (.load1 (.tmp 14))⟩, []⟩, ⟨⟨(some 16), none, (.bin .eql 3 (.tmp 11) (.tmp 15))⟩, []⟩]) (.cond (.tmp 16) (.seq (.ops [17, 4] [⟨⟨(some 17), none, (.mv (.tmp 5))⟩, []⟩, ⟨⟨(some 4), none, (.asg (.tmp 17))⟩, []⟩]) .ret) .skip)))) (.ops [18, 8] [⟨⟨(some 18), none, (.bin .add 3 (.tmp 8) (.const (.int .i64 1)))⟩, []⟩, ⟨⟨(some 8), none, (.mv (.tmp 18))⟩, []⟩]))))))) (.seq (.ops [4] [⟨⟨(some 4), none, (.asg (.const (.int .i64 (-1))))⟩, []⟩]) .ret)))⟩
theorem f_idxI : (envOf Tryz.prog noCut noMemo).F 202 = some c_idxI := by kernel_rfl
noncomputable def c_conI : CFunc := ⟨9, [(.tmp 4)], (.seq (.ops [4] [⟨⟨(some 4), none, (.asg (.const (.bool false)))⟩, []⟩]) (.seq (.ops [5, 6, 7, 8, 4] [⟨⟨(some 5), none, (.mv (.tmp 0))⟩, []⟩, ⟨⟨(some 6), none, (.mv (.tmp 1))⟩, []⟩, ⟨⟨(some 7), none, (.call (.func 202) [(.tmp 5), (.tmp 6)])⟩, []⟩, ⟨⟨(some 8), none, (.bin .geq 3 (.tmp 7) (.const (.int .i64 0)))⟩, []⟩, ⟨⟨(some 4), none, (.asg (.tmp 8))⟩, []⟩]) .ret))⟩
theorem f_conI : (envOf Tryz.prog noCut noMemo).F 157 = some c_conI := by kernel_rfl
noncomputable def c_within : CFunc := ⟨11, [(.tmp 6)], (.seq (.ops [4, 5, 6] [⟨⟨(some 4), none, (.box (.tmp 1) 3)⟩, []⟩, ⟨⟨(some 5), none, (.box (.tmp 2) 3)⟩, []⟩, ⟨⟨(some 6), none, (.asg (.const (.bool false)))⟩, []⟩]) (.seq (.ops [7, 8, 9, 10, 6] [⟨⟨(some 7), none, (.mv (.tmp 0))⟩, []⟩, ⟨⟨(some 8), none, (.mkfunc (.func 200) [] [(.tmp 4), (.tmp 5)])⟩, []⟩, ⟨⟨(some 9), none, (.call (.func 99) [(.tmp 7), (.tmp 8)])⟩, []⟩, ⟨⟨(some 10), none, (.un .not (.tmp 9))⟩, []⟩, ⟨⟨(some 6), none, (.asg (.tmp 10))⟩, []⟩]) .ret))⟩
theorem f_within : (envOf Tryz.prog noCut noMemo).F 151 = some c_within := by kernel_rfl
noncomputable def c_within1 : CFunc := ⟨13, [(.tmp 4)], (.seq (.ops [4] [⟨⟨(some 4), none, (.asg (.const (.bool false)))⟩, []⟩]) (.seq (.ops [5, 6, 7, 8, 9, 10, 11, 12, 4] [⟨⟨(some 5), none, (.mv (.tmp 0))⟩, []⟩, ⟨⟨(some 6), none, (.load1 (.tmp 1))⟩, []⟩, ⟨⟨(some 7), none, (.bin .lss 3 (.tmp 5) (.tmp 6))⟩, []⟩, ⟨⟨(some 8), none, (.mv (.tmp 7))⟩, []⟩, ⟨⟨(some 9), (some ⟨8, false⟩), (.mv (.tmp 0))⟩, []⟩, ⟨⟨(some 10), (some ⟨8, false⟩), (.load1 (.tmp 2))⟩, []⟩, ⟨⟨(some 11), (some ⟨8, false⟩), (.bin .gtr 3 (.tmp 9) (.tmp 10))⟩, []⟩, ⟨⟨(some 12), none, (.pick (.tmp 8) (.const (.bool true)) (.tmp 11))⟩, []⟩, ⟨⟨(some 4), none, (.asg (.tmp 12))⟩, []⟩]) .ret))⟩
theorem f_within1 : (envOf Tryz.prog noCut noMemo).F 200 = some c_within1 := by kernel_rfl
noncomputable def c_gCheck : CFunc := ⟨61, [(.tmp 2)], (.seq (.ops [2] [⟨⟨(some 2), none, (.asg (.const (.int .i64 0)))⟩, []⟩]) (.seq (.seq (.ops [7, 8, 9] [⟨⟨(some 7), none, (.mv (.tmp 0))⟩, []⟩, ⟨⟨(some 8), none, (.lenSl (.tmp 7))⟩, []⟩, ⟨⟨(some 9), none, (.bin .gtr 3 (.tmp 8) (.const (.int .i64 256)))⟩, []⟩]) (.cond (.tmp 9) (.seq (.ops [2] [⟨⟨(some 2), none, (.asg (.const (.int .i64 120)))⟩, []⟩]) .ret) .skip)) (.seq (.seq (.ops [10, 11, 12] [⟨⟨(some 10), none, (.mv (.tmp 0))⟩, []⟩, ⟨⟨(some 11), none, (.lenSl (.tmp 10))⟩, []⟩, ⟨⟨(some 12), none, (.mv (.const (.int .i64 0)))⟩, []⟩]) (.block 0 (.loop (.seq (.ops [13] [⟨⟨(some 13), none, (.bin .lss 3 (.tmp 12) (.tmp 11))⟩, []⟩]) (.seq (.cond (.tmp 13) .skip (.exit 0)) (.seq (.block 1 (.seq (.ops [14, 15, 16, 3, 4] [⟨⟨(some 14), none, (.mv (.tmp 12))⟩, []⟩, ⟨⟨(some 15), none, (.idxSl 1 (.tmp 10) (.tmp 12))⟩, []⟩, ⟨⟨(some 16), none, (.load1 (.tmp 15))⟩, []⟩, ⟨⟨(some 3), none, (.asg (.tmp 14))⟩, []⟩, ⟨⟨(some 4), none, (.asg (.tmp 16))⟩, []⟩]) (.seq (.ops [17, 18, 19] [⟨⟨(some 17), none, (.mv (.tmp 4))⟩, []⟩, ⟨⟨(some 18), none, (.lenSl (.tmp 17))⟩, []⟩, ⟨⟨(some 19), none, (.mv (.const (.int .i64 0)))⟩, []⟩]) (.block 2 (.loop (.seq (.ops [20] [⟨⟨(some 20), none, (.bin .lss 3 (.tmp 19) (.tmp 18))⟩, []⟩]) (.seq (.cond (.tmp 20) .skip (.exit 2)) (.seq (.block 3 (.seq (.ops [21, 22, 23, 5, 6] [⟨⟨(some 21), none, (.mv (.tmp 19))⟩, []⟩, ⟨⟨(some 22), none, (.idxSl 1 (.tmp 17) (.tmp 19))⟩, []⟩, ⟨⟨(some 23), none, (.load1 (.tmp 22))⟩, []⟩, ⟨⟨(some 5), none, (.asg (.tmp 21))⟩, []⟩, ⟨⟨(some 6), none, (.asg (.tmp 23))⟩, []⟩]) (.seq (.ops [24, 25, 26, 27, 28, 29, 30, 31, 32, 33, 34, 35, 36, 37, 38, 39, 40, 41, 42, 43, 44, 45, 46, 47, 48, 49, 50, 51, 52, 53, 54, 55, 56, 57, 58] [⟨⟨(some 24), none, (.mv (.tmp 6))⟩, []⟩, ⟨⟨(some 25), none, (.bin .lss 3 (.tmp 24) (.const (.int .i64 0)))⟩, []⟩, ⟨⟨(some 26), none, (.mv (.tmp 25))⟩, []⟩, ⟨⟨(some 27), (some ⟨26, false⟩), (.mv (.tmp 6))⟩, []⟩, ⟨⟨(some 28), (some ⟨26, false⟩), (.mv (.tmp 0))⟩, []⟩, ⟨⟨(some 29), (some ⟨26, false⟩), (.lenSl (.tmp 28))⟩, []⟩, ⟨⟨(some 30), (some ⟨26, false⟩), (.bin .geq 3 (.tmp 27) (.tmp 29))⟩, []⟩, ⟨⟨(some 31), none, (.pick (.tmp 26) (.const (.bool true)) (.tmp 30))⟩, []⟩, ⟨⟨(some 32), none, (.mv (.tmp 31))⟩, []⟩, ⟨⟨(some 33), (some ⟨32, false⟩), (.mv (.tmp 6))⟩, []⟩, ⟨⟨(some 34), (some ⟨32, false⟩), (.mv (.tmp 3))⟩, []⟩, ⟨⟨(some 35), (some ⟨32, false⟩), (.bin .eql 3 (.tmp 33) (.tmp 34))⟩, []⟩, ⟨⟨(some 36), none, (.pick (.tmp 32) (.const (.bool true)) (.tmp 35))⟩, []⟩, ⟨⟨(some 37), none, (.mv (.tmp 36))⟩, []⟩, ⟨⟨(some 38), (some ⟨37, false⟩), (.mv (.tmp 5))⟩, []⟩, ⟨⟨(some 39), (some ⟨37, false⟩), (.bin .gtr 3 (.tmp 38) (.const (.int .i64 0)))⟩, []⟩, ⟨⟨(some 40), (some ⟨37, false⟩), (.mv (.tmp 39))⟩, []⟩, ⟨⟨(some 41), (some ⟨40, true⟩), (.mv (.tmp 4))⟩, []⟩, ⟨⟨(some 42), (some ⟨40, true⟩), (.mv (.tmp 5))⟩, []⟩, ⟨⟨(some 43), (some ⟨40, true⟩), (.bin .sub 3 (.tmp 42) (.const (.int .i64 1)))⟩, []⟩, ⟨⟨(some 44), (some ⟨40, true⟩), (.idxSl 1 (.tmp 41) (.tmp 43))⟩, []⟩, ⟨⟨(some 45), (some ⟨40, true⟩), (.load1 (.tmp 44))⟩, []⟩, ⟨⟨(some 46), (some ⟨40, true⟩), (.mv (.tmp 6))⟩, []⟩, ⟨⟨(some 47), (some ⟨40, true⟩), (.bin .geq 3 (.tmp 45) (.tmp 46))⟩, []⟩, ⟨⟨(some 48), (some ⟨37, false⟩), (.pick (.tmp 40) (.tmp 47) (.const (.bool false)))⟩, []⟩, ⟨⟨(some 49), none, (.pick (.tmp 37) (.const (.bool true)) (.tmp 48))⟩, []⟩, ⟨⟨(some 50), none, (.mv (.tmp 49))⟩, []⟩, ⟨⟨(some 51), (some ⟨50, false⟩), (.mv (.tmp 0))⟩, []⟩, ⟨⟨(some 52), (some ⟨50, false⟩), (.mv (.tmp 6))⟩, []⟩, ⟨⟨(some 53), (some ⟨50, false⟩), (.idxSl 1 (.tmp 51) (.tmp 52))⟩, []⟩, ⟨⟨(some 54), (some ⟨50, false⟩), (.load1 (.tmp 53))⟩, []⟩, ⟨⟨(some 55), (some ⟨50, false⟩), (.mv (.tmp 3))⟩, []⟩, ⟨⟨(some 56), (some ⟨50, false⟩), (.call (.func 157) [(.tmp 54), (.tmp 55)])⟩, []⟩, ⟨⟨(some 57), (some ⟨50, false⟩), (.un .not (.tmp 56))⟩, []⟩, ⟨⟨(some 58), none, (.pick (.tmp 50) (.const (.bool true)) (.tmp 57))⟩, []⟩]) (.cond (.tmp 58) (.seq (.ops [2] [⟨⟨(some 2), none, (.asg (.const (.int .i64 120)))⟩, []⟩]) .ret) .skip)))) (.ops [59, 19] [⟨⟨(some 59), none, (.bin .add 3 (.tmp 19) (.const (.int .i64 1)))⟩, []⟩, ⟨⟨(some 19), none, (.mv (.tmp 59))⟩, []⟩]))))))))) (.ops [60, 12] [⟨⟨(some 60), none, (.bin .add 3 (.tmp 12) (.const (.int .i64 1)))⟩, []⟩, ⟨⟨(some 12), none, (.mv (.tmp 60))⟩, []⟩]))))))) (.seq (.ops [2] [⟨⟨(some 2), none, (.asg (.const (.int .i64 0)))⟩, []⟩]) .ret))))⟩
theorem f_gCheck : (envOf Tryz.prog noCut noMemo).F 111 = some c_gCheck := by kernel_rfl
noncomputable def c_gValid : CFunc := ⟨25, [(.tmp 4)], (.seq (.ops [4] [⟨⟨(some 4), none, (.asg (.const (.int .i64 0)))⟩, []⟩]) (.seq (.seq (.ops [8, 9, 5] [⟨⟨(some 8), none, (.mv (.tmp 0))⟩, []⟩, ⟨⟨(some 9), none, (.call (.func 111) [(.tmp 8)])⟩, []⟩, ⟨⟨(some 5), none, (.asg (.tmp 9))⟩, []⟩]) (.seq (.ops [10, 11] [⟨⟨(some 10), none, (.mv (.tmp 5))⟩, []⟩, ⟨⟨(some 11), none, (.bin .neq 40 (.tmp 10) (.const (.int .i64 0)))⟩, []⟩]) (.cond (.tmp 11) (.seq (.ops [12, 4] [⟨⟨(some 12), none, (.mv (.tmp 5))⟩, []⟩, ⟨⟨(some 4), none, (.asg (.tmp 12))⟩, []⟩]) .ret) .skip))) (.seq (.seq (.ops [13, 14, 15] [⟨⟨(some 13), none, (.mv (.tmp 1))⟩, []⟩, ⟨⟨(some 14), none, (.lenSl (.tmp 13))⟩, []⟩, ⟨⟨(some 15), none, (.mv (.const (.int .i64 0)))⟩, []⟩]) (.block 0 (.loop (.seq (.ops [16] [⟨⟨(some 16), none, (.bin .lss 3 (.tmp 15) (.tmp 14))⟩, []⟩]) (.seq (.cond (.tmp 16) .skip (.exit 0)) (.seq (.block 1 (.seq (.ops [17, 18, 7] [⟨⟨(some 17), none, (.idxSl 1 (.tmp 13) (.tmp 15))⟩, []⟩, ⟨⟨(some 18), none, (.load1 (.tmp 17))⟩, []⟩, ⟨⟨(some 7), none, (.asg (.tmp 18))⟩, []⟩]) (.seq (.ops [19, 20, 21, 22, 23] [⟨⟨(some 19), none, (.mv (.tmp 7))⟩, []⟩, ⟨⟨(some 20), none, (.lenSl (.tmp 19))⟩, []⟩, ⟨⟨(some 21), none, (.mv (.tmp 0))⟩, []⟩, ⟨⟨(some 22), none, (.lenSl (.tmp 21))⟩, []⟩, ⟨⟨(some 23), none, (.bin .neq 3 (.tmp 20) (.tmp 22))⟩, []⟩]) (.cond (.tmp 23) (.seq (.ops [4] [⟨⟨(some 4), none, (.asg (.const (.int .i64 1)))⟩, []⟩]) .ret) .skip)))) (.ops [24, 15] [⟨⟨(some 24), none, (.bin .add 3 (.tmp 15) (.const (.int .i64 1)))⟩, []⟩, ⟨⟨(some 15), none, (.mv (.tmp 24))⟩, []⟩]))))))) (.seq (.ops [4] [⟨⟨(some 4), none, (.asg (.const (.int .i64 0)))⟩, []⟩]) .ret))))⟩
theorem f_gValid : (envOf Tryz.prog noCut noMemo).F 50 = some c_gValid := by kernel_rfl

/-- a function of one thing that looks at frozen things alone -/
abbrev FnB (P : Program) (fn : Fn) (first cap : List Value) (v : Value) (F : List Fact) (b : Bool) : Prop := FnC P fn (first ++ [v]) cap [] F (fun _ : Unit => .bool b) (fun _ => []) (fun _ => []) (fun _ => True)

theorem idxFI_ok {fn : Fn} {first cap : List Value} {F1 : List Fact} {p : Int → Bool} {va : Value} {xs : List Int} (hl : xs.length < 9223372036854775808) (hp : ∀ x ∈ xs, FnB Tryz.prog fn first cap (.int .i64 x) F1 (p x)) :
    FnC Tryz.prog (.func 147) [va, .func fn ⟨first⟩ ⟨cap⟩] [] [] (fSl intE va xs :: F1) (fun r : Int => .int .i64 r) (fun _ => []) (fun _ => []) (fun r => (0 ≤ r ↔ xs.any p = true)) := by
  refine q_beg c_idxFI f_idxFI fun B w0 => ?_
  refine go ?_
  refine q_loop (fun k => xs.length - k) (fun k : Nat => [(8, .int .i64 (k : Int))]) (fun _ => []) (fun _ => []) (fun k => k ≤ xs.length ∧ (xs.take k).any p = false) 0 ⟨by omega, by simp⟩ (body := ?_)
  rintro k ⟨hk, hno⟩
  refine go ?_
  refine if_d rfl (fun h1 => ?_) (fun h1 => ?_)
  · refine go ?_
    intro _ _ x hx
    refine q_call (hp x (List.mem_of_getElem? hx)) (next := fun _ _ => ?_)
    refine go ?_
    refine if_b rfl (fun h2 => ?_) (fun h2 => ?_)
    · refine go ?_
      refine q_fin (k : Int) (hv := rfl) (hp := ?_)
      have : xs.any p = true := List.any_eq_true.2 ⟨x, List.mem_of_getElem? hx, h2⟩
      simp [this]
    · refine go ?_
      refine q_again (k + 1) (by omega) ⟨by omega, ?_⟩
      rw [take_one hx, List.any_append, hno]
      simp [h2]
  refine go ?_
  have : k = xs.length := by omega
  subst this
  rw [List.take_length] at hno
  refine q_fin (-1) (hv := rfl) (hp := ?_)
  rw [hno]; simp

theorem conFI_ok {fn : Fn} {first cap : List Value} {F1 : List Fact} {p : Int → Bool} {va : Value} {xs : List Int} (hl : xs.length < 9223372036854775808) (hp : ∀ x ∈ xs, FnB Tryz.prog fn first cap (.int .i64 x) F1 (p x)) :
    FnC Tryz.prog (.func 99) [va, .func fn ⟨first⟩ ⟨cap⟩] [] [] (fSl intE va xs :: F1) (fun _ : Unit => .bool (xs.any p)) (fun _ => []) (fun _ => []) (fun _ => True) := by
  refine q_beg c_conFI f_conFI fun B w0 => ?_
  refine go ?_
  refine q_call (idxFI_ok hl hp) (next := fun r hr => ?_)
  refine go ?_
  refine q_fin () (hv := ?_) (hp := trivial)
  have : decide (0 ≤ r) = xs.any p := by
    by_cases h : 0 ≤ r
    · rw [decide_eq_true h, hr.1 h]
    · rw [decide_eq_false h]
      cases e : xs.any p with
      | false => rfl
      | true => exact absurd (hr.2 e) h
  rw [← this]; rfl

theorem idxI_ok {va : Value} {xs : List Int} {z : Int} (hl : xs.length < 9223372036854775808) :
    FnC Tryz.prog (.func 202) [va, .int .i64 z] [] [] [fSl intE va xs] (fun r : Int => .int .i64 r) (fun _ => []) (fun _ => []) (fun r => (0 ≤ r ↔ z ∈ xs)) := by
  refine q_beg c_idxI f_idxI fun B w0 => ?_
  refine go ?_
  refine q_loop (fun k => xs.length - k) (fun k : Nat => [(8, .int .i64 (k : Int))]) (fun _ => []) (fun _ => []) (fun k => k ≤ xs.length ∧ z ∉ xs.take k) 0 ⟨by omega, by simp⟩ (body := ?_)
  rintro k ⟨hk, hno⟩
  refine go ?_
  refine if_d rfl (fun h1 => ?_) (fun h1 => ?_)
  · refine go ?_
    intro _ _ x hx
    refine if_d rfl (fun h2 => ?_) (fun h2 => ?_)
    · refine go ?_
      refine q_fin (k : Int) (hv := rfl) (hp := ?_)
      subst h2
      simp [List.mem_of_getElem? hx]
    · refine go ?_
      refine q_again (k + 1) (by omega) ⟨by omega, ?_⟩
      rw [take_one hx, List.mem_append, not_or]
      exact ⟨hno, by simpa using h2⟩
  refine go ?_
  have : k = xs.length := by omega
  subst this
  rw [List.take_length] at hno
  refine q_fin (-1) (hv := rfl) (hp := ?_)
  simp [hno]

theorem conI_ok {va : Value} {xs : List Int} {z : Int} (hl : xs.length < 9223372036854775808) : FnP Tryz.prog 157 [va, .int .i64 z] [fSl intE va xs] (.bool (decide (z ∈ xs))) := by
  refine q_beg c_conI f_conI fun B w0 => ?_
  refine go ?_
  refine q_call (idxI_ok hl) (next := fun r hr => ?_)
  refine go ?_
  refine q_fin () (hv := ?_) (hp := trivial)
  rw [← decide_eq_decide.2 hr]; rfl

theorem within1_ok {b4 b5 : Nat} {lo hi x : Int} : FnB Tryz.prog (.func 200) [] [ptr' b4, ptr' b5] (.int .i64 x) [fRaw b4 0 [.int .i64 lo], fRaw b5 0 [.int .i64 hi]] (decide (x < lo ∨ hi < x)) := by
  refine q_beg c_within1 f_within1 fun B w0 => ?_
  refine go ?_
  first | with_reducible refine g_d (fun h1 => ?_) (fun h1 => ?_) | with_reducible refine g_n (fun h1 => ?_) (fun h1 => ?_) | with_reducible refine g_b (fun h1 => ?_) (fun h1 => ?_)
  · refine go ?_
    refine q_fin () (hv := ?_) (hp := trivial)
    rw [show decide (x < lo ∨ hi < x) = decide (hi < x) from decide_eq_decide.2 ⟨fun h => h.elim (fun h => absurd h h1) id, .inr⟩]; rfl
  refine go ?_
  refine q_fin () (hv := ?_) (hp := trivial)
  rw [decide_eq_true (.inl h1)]; rfl

/-- all from lo to hi -/
def wit (xs : List Int) (lo hi : Int) : Bool := decide (∀ x ∈ xs, lo ≤ x ∧ x ≤ hi)

theorem within_ok {va : Value} {xs : List Int} {lo hi : Int} (hl : xs.length < 9223372036854775808) : FnP Tryz.prog 151 [va, .int .i64 lo, .int .i64 hi] [fSl intE va xs] (.bool (wit xs lo hi)) := by
  refine q_beg c_within f_within fun B w0 => ?_
  refine go ?_
  intro b4 b5
  refine q_frz (frz_pt (b := b4)) (h := ?_)
  refine q_frz (frz_pt (b := b5)) (h := ?_)
  refine q_call (conFI_ok (p := fun x => decide (x < lo ∨ hi < x)) hl (fun x _ => within1_ok (b4 := b4) (b5 := b5))) (next := fun _ _ => ?_)
  refine go ?_
  refine q_fin () (hv := ?_) (hp := trivial)
  have : (!xs.any fun x => decide (x < lo ∨ hi < x)) = wit xs lo hi := by
    rw [List.not_any_eq_all_not, wit]
    rw [Bool.eq_iff_iff]
    simp only [List.all_eq_true, decide_eq_true_eq, Bool.not_eq_true', decide_eq_false_iff_not, not_or, Int.not_lt]
  rw [← this]; rfl



/-- a graph that is well-formed -/
structure GOK (g : List (List Int)) : Prop where
  len : g.length ≤ 256
  ok : ∀ (i : Nat) l, g[i]? = some l → ∀ (k : Nat) n, l[k]? = some n → 0 ≤ n ∧ n < g.length ∧ n ≠ i ∧ (∀ m, 0 < k → l[k - 1]? = some m → m < n) ∧ ∀ l', g[n.toNat]? = some l' → (i : Int) ∈ l'

theorem gCheck_ok {vg : Value} {g : List (List Int)} (hll : ∀ l ∈ g, l.length < 9223372036854775808) : FnC Tryz.prog (.func 111) [vg] [] [] [fSl (slE intE) vg g] (fun b : Bool => .int .i64 (if b then 0 else 120)) (fun _ => []) (fun _ => []) (fun b => (b = true ↔ GOK g)) := by
  refine q_beg c_gCheck f_gCheck fun B w0 => ?_
  refine go ?_
  refine if_d rfl (fun h1 => ?_) (fun h1 => ?_)
  · refine go ?_
    exact q_fin false (hv := rfl) (hp := ⟨(fun h => by cases h), (fun h => by have := h.len; omega)⟩)
  refine go ?_
  refine q_loop (fun k => g.length - k) (fun k : Nat => [(12, .int .i64 (k : Int))]) (fun _ => []) (fun _ => [])
    (fun i => i ≤ g.length ∧ ∀ (i' : Nat) l, i' < i → g[i']? = some l → ∀ (k : Nat) n, l[k]? = some n → 0 ≤ n ∧ n < g.length ∧ n ≠ i' ∧ (∀ m, 0 < k → l[k - 1]? = some m → m < n) ∧ ∀ l', g[n.toNat]? = some l' → (i' : Int) ∈ l') 0 ⟨by omega, fun i' l h => by omega⟩ (body := ?_)
  rintro i ⟨hi, hall⟩
  refine go ?_
  refine if_d rfl (fun h2 => ?_) (fun h2 => ?_)
  · refine go ?_
    refine q_idx (slE intE) (next := fun _ _ l (vl : Value) hli => ?_)
    have hl1 := hll l (List.mem_of_getElem? hli)
    refine go ?_
    refine q_loop (fun k => l.length - k) (fun k : Nat => [(19, .int .i64 (k : Int))]) (fun _ => []) (fun _ => [])
      (fun k => k ≤ l.length ∧ ∀ (k' : Nat) n, k' < k → l[k']? = some n → 0 ≤ n ∧ n < g.length ∧ n ≠ i ∧ (∀ m, 0 < k' → l[k' - 1]? = some m → m < n) ∧ ∀ l', g[n.toNat]? = some l' → (i : Int) ∈ l') 0 ⟨by omega, fun k' n h => by omega⟩ (body := ?_)
    rintro k ⟨hk, hin⟩
    refine go ?_
    refine if_d rfl (fun h3 => ?_) (fun h3 => ?_)
    · refine go ?_
      intro _ _ n hn
      have hbad : ∀ (_ : ¬ (0 ≤ n ∧ n < g.length ∧ n ≠ i ∧ (∀ m, 0 < k → l[k - 1]? = some m → m < n) ∧ ∀ l', g[n.toNat]? = some l' → (i : Int) ∈ l')), ¬ GOK g := fun h hG => h (hG.ok i l hli k n hn)
      first | with_reducible refine g_d (fun h4 => ?_) (fun h4 => ?_) | with_reducible refine g_n (fun h4 => ?_) (fun h4 => ?_) | with_reducible refine g_b (fun h4 => ?_) (fun h4 => ?_)
      rotate_left
      · refine go ?_
        exact q_fin false (hv := rfl) (hp := ⟨(fun h => by cases h), fun hG => absurd hG (hbad (fun h => by omega))⟩)
      refine go ?_
      first | with_reducible refine g_d (fun h5 => ?_) (fun h5 => ?_) | with_reducible refine g_n (fun h5 => ?_) (fun h5 => ?_) | with_reducible refine g_b (fun h5 => ?_) (fun h5 => ?_)
      rotate_left
      · refine go ?_
        exact q_fin false (hv := rfl) (hp := ⟨(fun h => by cases h), fun hG => absurd hG (hbad (fun h => by omega))⟩)
      refine go ?_
      first | with_reducible refine g_d (fun h6 => ?_) (fun h6 => ?_) | with_reducible refine g_n (fun h6 => ?_) (fun h6 => ?_) | with_reducible refine g_b (fun h6 => ?_) (fun h6 => ?_)
      rotate_left
      · refine go ?_
        exact q_fin false (hv := rfl) (hp := ⟨(fun h => by cases h), fun hG => absurd hG (hbad (fun h => by omega))⟩)
      refine go ?_
      obtain ⟨n, rfl⟩ := Int.eq_ofNat_of_zero_le (show 0 ≤ n by omega)
      first | with_reducible refine g_d (fun h7 => ?_) (fun h7 => ?_) | with_reducible refine g_n (fun h7 => ?_) (fun h7 => ?_) | with_reducible refine g_b (fun h7 => ?_) (fun h7 => ?_)
      · have hprev : ∀ m, 0 < k → l[k - 1]? = some m → m < (n : Int) := fun m hm => by omega
        refine go ?_
        refine q_idx (slE intE) (next := fun _ _ l' (vl' : Value) hl' => ?_)
        have hl1' := hll l' (List.mem_of_getElem? hl')
        refine go ?_
        refine q_call (conI_ok (xs := l') hl1') (next := fun _ _ => ?_)
        refine go ?_
        refine if_n rfl (fun h9 => ?_) (fun h9 => ?_)
        · refine go ?_
          exact q_fin false (hv := rfl) (hp := ⟨(fun h => by cases h), fun hG => absurd hG (hbad (fun h => h9 (h.2.2.2.2 l' (by simpa using hl'))))⟩)
        refine go ?_
        refine q_again (k + 1) (by omega) ⟨by omega, fun k' m hk' hm => ?_⟩
        by_cases e : k' = k
        · subst e
          rw [hn] at hm
          cases hm
          refine ⟨by omega, by omega, h6, hprev, fun l2 hl2 => ?_⟩
          rw [Int.toNat_natCast] at hl2
          rw [hl2] at hl'
          cases hl'; exact h9
        · exact hin k' m (by omega) hm
      refine go ?_
      obtain ⟨k, rfl⟩ : ∃ k', k = k' + 1 := ⟨k - 1, by omega⟩
      intro _ _ m hm
      rw [show (((k + 1 : Nat) : Int) - 1).toNat = k by omega] at hm
      first | with_reducible refine g_d (fun h8 => ?_) (fun h8 => ?_) | with_reducible refine g_n (fun h8 => ?_) (fun h8 => ?_) | with_reducible refine g_b (fun h8 => ?_) (fun h8 => ?_)
      · have hprev : ∀ u, 0 < k + 1 → l[k + 1 - 1]? = some u → u < (n : Int) := fun u _ hu => by
          rw [Nat.add_sub_cancel, hm] at hu
          cases hu; omega
        refine go ?_
        refine q_idx (slE intE) (next := fun _ _ l' (vl' : Value) hl' => ?_)
        have hl1' := hll l' (List.mem_of_getElem? hl')
        refine go ?_
        refine q_call (conI_ok (xs := l') hl1') (next := fun _ _ => ?_)
        refine go ?_
        refine if_n rfl (fun h9 => ?_) (fun h9 => ?_)
        · refine go ?_
          exact q_fin false (hv := rfl) (hp := ⟨(fun h => by cases h), fun hG => absurd hG (hbad (fun h => h9 (h.2.2.2.2 l' (by simpa using hl'))))⟩)
        refine go ?_
        refine q_again (k + 1 + 1) (by omega) ⟨by omega, fun k' m hk' hm => ?_⟩
        by_cases e : k' = k + 1
        · subst e
          rw [hn] at hm
          cases hm
          refine ⟨by omega, by omega, h6, hprev, fun l2 hl2 => ?_⟩
          rw [Int.toNat_natCast] at hl2
          rw [hl2] at hl'
          cases hl'; exact h9
        · exact hin k' m (by omega) hm
      refine go ?_
      refine q_fin false (hv := rfl) (hp := ⟨(fun h => by cases h), fun hG => absurd hG (hbad (fun h => by have := h.2.2.2.1 m (by omega) (by rw [Nat.add_sub_cancel]; exact hm); omega))⟩)
    refine go ?_
    refine q_again (i + 1) (by omega) ⟨by omega, fun i' l2 hi' hl2 => ?_⟩
    by_cases e : i' = i
    · subst e
      rw [hli] at hl2
      cases hl2
      exact fun k' n hn => hin k' n (by have := (List.getElem?_eq_some_iff.1 hn).1; omega) hn
    · exact hall i' l2 (by omega) hl2
  refine go ?_
  refine q_fin true (hv := rfl) (hp := ⟨fun _ => ⟨by omega, fun i' l hl => hall i' l (by have := (List.getElem?_eq_some_iff.1 hl).1; omega) hl⟩, fun _ => rfl⟩)
end Go.Proofs.YtpkieeggilkagaaGreat

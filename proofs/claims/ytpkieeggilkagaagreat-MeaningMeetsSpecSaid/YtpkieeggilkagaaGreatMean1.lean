/-
  What rules mean for lists of cells: sets of symbols, counts, sums, differences, rises, runs.
-/
import Derived.Test.YtpkieeggilkagaaGreatIdealL
import Derived.Test.YtpkieeggilkagaaGreatIdealK
import Derived.Test.YtpkieeggilkagaaGreatProg
set_option linter.unusedSimpArgs false
set_option linter.unusedVariables false
set_option maxHeartbeats 1000000
namespace Go.Proofs.YtpkieeggilkagaaGreat
open Go.Ideal

noncomputable def c_mIn : CFunc := ⟨10, [(.tmp 4)], (.seq (.ops [4] [⟨⟨(some 4), none, (.asg (.const (.bool false)))⟩, []⟩]) (.seq (.ops [5, 6, 7, 8, 9, 4] [⟨⟨(some 5), none, (.mv (.tmp 0))⟩, []⟩, ⟨⟨(some 6), none, (.mv (.tmp 1))⟩, []⟩, ⟨⟨(some 7), none, (.bin .shr 3 (.tmp 5) (.tmp 6))⟩, []⟩, ⟨⟨(some 8), none, (.bin .and 3 (.tmp 7) (.const (.int .i64 1)))⟩, []⟩, ⟨⟨(some 9), none, (.bin .eql 3 (.tmp 8) (.const (.int .i64 1)))⟩, []⟩, ⟨⟨(some 4), none, (.asg (.tmp 9))⟩, []⟩]) .ret))⟩
theorem f_mIn : (envOf Tryz.prog noCut noMemo).F 84 = some c_mIn := by kernel_rfl
noncomputable def c_mCount : CFunc := ⟨25, [(.tmp 6)], (.seq (.ops [6] [⟨⟨(some 6), none, (.asg (.const (.int .i64 0)))⟩, []⟩]) (.seq (.seq (.ops [9, 10, 11] [⟨⟨(some 9), none, (.mv (.tmp 1))⟩, []⟩, ⟨⟨(some 10), none, (.lenSl (.tmp 9))⟩, []⟩, ⟨⟨(some 11), none, (.mv (.const (.int .i64 0)))⟩, []⟩]) (.block 0 (.loop (.seq (.ops [12] [⟨⟨(some 12), none, (.bin .lss 3 (.tmp 11) (.tmp 10))⟩, []⟩]) (.seq (.cond (.tmp 12) .skip (.exit 0)) (.seq (.block 1 (.seq (.ops [13, 14, 8] [⟨⟨(some 13), none, (.idxSl 1 (.tmp 9) (.tmp 11))⟩, []⟩, ⟨⟨(some 14), none, (.load1 (.tmp 13))⟩, []⟩, ⟨⟨(some 8), none, (.asg (.tmp 14))⟩, []⟩]) (.seq (.ops [15, 16, 17, 18, 19, 20] [⟨⟨(some 15), none, (.mv (.tmp 2))⟩, []⟩, ⟨⟨(some 16), none, (.mv (.tmp 0))⟩, []⟩, ⟨⟨(some 17), none, (.mv (.tmp 8))⟩, []⟩, ⟨⟨(some 18), none, (.idxSl 1 (.tmp 16) (.tmp 17))⟩, []⟩, ⟨⟨(some 19), none, (.load1 (.tmp 18))⟩, []⟩, ⟨⟨(some 20), none, (.call (.func 84) [(.tmp 15), (.tmp 19)])⟩, []⟩]) (.cond (.tmp 20) (.ops [21, 22, 6] [⟨⟨(some 21), none, (.mv (.tmp 6))⟩, []⟩, ⟨⟨(some 22), none, (.bin .add 3 (.tmp 21) (.const (.int .i64 1)))⟩, []⟩, ⟨⟨(some 6), none, (.asg (.tmp 22))⟩, []⟩]) .skip)))) (.ops [23, 11] [⟨⟨(some 23), none, (.bin .add 3 (.tmp 11) (.const (.int .i64 1)))⟩, []⟩, ⟨⟨(some 11), none, (.mv (.tmp 23))⟩, []⟩]))))))) (.seq (.ops [24, 6] [⟨⟨(some 24), none, (.mv (.tmp 6))⟩, []⟩, ⟨⟨(some 6), none, (.asg (.tmp 24))⟩, []⟩]) .ret)))⟩
theorem f_mCount : (envOf Tryz.prog noCut noMemo).F 64 = some c_mCount := by kernel_rfl
noncomputable def c_mSum : CFunc := ⟨26, [(.tmp 6)], (.seq (.ops [6] [⟨⟨(some 6), none, (.asg (.const (.int .i64 0)))⟩, []⟩]) (.seq (.seq (.ops [9, 10, 11] [⟨⟨(some 9), none, (.mv (.tmp 2))⟩, []⟩, ⟨⟨(some 10), none, (.lenSl (.tmp 9))⟩, []⟩, ⟨⟨(some 11), none, (.mv (.const (.int .i64 0)))⟩, []⟩]) (.block 0 (.loop (.seq (.ops [12] [⟨⟨(some 12), none, (.bin .lss 3 (.tmp 11) (.tmp 10))⟩, []⟩]) (.seq (.cond (.tmp 12) .skip (.exit 0)) (.seq (.block 1 (.seq (.ops [13, 14, 8] [⟨⟨(some 13), none, (.idxSl 1 (.tmp 9) (.tmp 11))⟩, []⟩, ⟨⟨(some 14), none, (.load1 (.tmp 13))⟩, []⟩, ⟨⟨(some 8), none, (.asg (.tmp 14))⟩, []⟩]) (.ops [15, 16, 17, 18, 19, 20, 21, 22, 23, 6] [⟨⟨(some 15), none, (.mv (.tmp 6))⟩, []⟩, ⟨⟨(some 16), none, (.mv (.tmp 0))⟩, []⟩, ⟨⟨(some 17), none, (.mv (.tmp 1))⟩, []⟩, ⟨⟨(some 18), none, (.mv (.tmp 8))⟩, []⟩, ⟨⟨(some 19), none, (.idxSl 1 (.tmp 17) (.tmp 18))⟩, []⟩, ⟨⟨(some 20), none, (.load1 (.tmp 19))⟩, []⟩, ⟨⟨(some 21), none, (.idxSl 1 (.tmp 16) (.tmp 20))⟩, []⟩, ⟨⟨(some 22), none, (.load1 (.tmp 21))⟩, []⟩, ⟨⟨(some 23), none, (.bin .add 3 (.tmp 15) (.tmp 22))⟩, []⟩, ⟨⟨(some 6), none, (.asg (.tmp 23))⟩, []⟩]))) (.ops [24, 11] [⟨⟨(some 24), none, (.bin .add 3 (.tmp 11) (.const (.int .i64 1)))⟩, []⟩, ⟨⟨(some 11), none, (.mv (.tmp 24))⟩, []⟩]))))))) (.seq (.ops [25, 6] [⟨⟨(some 25), none, (.mv (.tmp 6))⟩, []⟩, ⟨⟨(some 6), none, (.asg (.tmp 25))⟩, []⟩]) .ret)))⟩
theorem f_mSum : (envOf Tryz.prog noCut noMemo).F 67 = some c_mSum := by kernel_rfl
noncomputable def c_mDiff : CFunc := ⟨28, [(.tmp 4)], (.seq (.ops [4] [⟨⟨(some 4), none, (.asg (.const (.bool false)))⟩, []⟩]) (.seq (.ops [5] [⟨⟨(some 5), none, (.asg (.const (.int .i64 0)))⟩, []⟩]) (.seq (.seq (.ops [8, 9, 10] [⟨⟨(some 8), none, (.mv (.tmp 1))⟩, []⟩, ⟨⟨(some 9), none, (.lenSl (.tmp 8))⟩, []⟩, ⟨⟨(some 10), none, (.mv (.const (.int .i64 0)))⟩, []⟩]) (.block 0 (.loop (.seq (.ops [11] [⟨⟨(some 11), none, (.bin .lss 3 (.tmp 10) (.tmp 9))⟩, []⟩]) (.seq (.cond (.tmp 11) .skip (.exit 0)) (.seq (.block 1 (.seq (.ops [12, 13, 7] [⟨⟨(some 12), none, (.idxSl 1 (.tmp 8) (.tmp 10))⟩, []⟩, ⟨⟨(some 13), none, (.load1 (.tmp 12))⟩, []⟩, ⟨⟨(some 7), none, (.asg (.tmp 13))⟩, []⟩]) (.seq (.seq (.ops [14, 15, 16, 17, 18, 19] [⟨⟨(some 14), none, (.mv (.tmp 5))⟩, []⟩, ⟨⟨(some 15), none, (.mv (.tmp 0))⟩, []⟩, ⟨⟨(some 16), none, (.mv (.tmp 7))⟩, []⟩, ⟨⟨(some 17), none, (.idxSl 1 (.tmp 15) (.tmp 16))⟩, []⟩, ⟨⟨(some 18), none, (.load1 (.tmp 17))⟩, []⟩, ⟨⟨(some 19), none, (.call (.func 84) [(.tmp 14), (.tmp 18)])⟩, []⟩]) (.cond (.tmp 19) (.seq (.ops [4] [⟨⟨(some 4), none, (.asg (.const (.bool false)))⟩, []⟩]) .ret) .skip)) (.ops [20, 21, 22, 23, 24, 25, 26, 5] [⟨⟨(some 20), none, (.mv (.tmp 5))⟩, []⟩, ⟨⟨(some 21), none, (.mv (.tmp 0))⟩, []⟩, ⟨⟨(some 22), none, (.mv (.tmp 7))⟩, []⟩, ⟨⟨(some 23), none, (.idxSl 1 (.tmp 21) (.tmp 22))⟩, []⟩, ⟨⟨(some 24), none, (.load1 (.tmp 23))⟩, []⟩, ⟨⟨(some 25), none, (.bin .shl 3 (.const (.int .i64 1)) (.tmp 24))⟩, []⟩, ⟨⟨(some 26), none, (.bin .or 3 (.tmp 20) (.tmp 25))⟩, []⟩, ⟨⟨(some 5), none, (.asg (.tmp 26))⟩, []⟩])))) (.ops [27, 10] [⟨⟨(some 27), none, (.bin .add 3 (.tmp 10) (.const (.int .i64 1)))⟩, []⟩, ⟨⟨(some 10), none, (.mv (.tmp 27))⟩, []⟩]))))))) (.seq (.ops [4] [⟨⟨(some 4), none, (.asg (.const (.bool true)))⟩, []⟩]) .ret))))⟩
theorem f_mDiff : (envOf Tryz.prog noCut noMemo).F 60 = some c_mDiff := by kernel_rfl
noncomputable def c_mRise : CFunc := ⟨33, [(.tmp 6)], (.seq (.ops [6] [⟨⟨(some 6), none, (.asg (.const (.bool false)))⟩, []⟩]) (.seq (.ops [7] [⟨⟨(some 7), none, (.asg (.const (.int .i64 (-1))))⟩, []⟩]) (.seq (.seq (.ops [10, 11, 12] [⟨⟨(some 10), none, (.mv (.tmp 2))⟩, []⟩, ⟨⟨(some 11), none, (.lenSl (.tmp 10))⟩, []⟩, ⟨⟨(some 12), none, (.mv (.const (.int .i64 0)))⟩, []⟩]) (.block 0 (.loop (.seq (.ops [13] [⟨⟨(some 13), none, (.bin .lss 3 (.tmp 12) (.tmp 11))⟩, []⟩]) (.seq (.cond (.tmp 13) .skip (.exit 0)) (.seq (.block 1 (.seq (.ops [14, 15, 9] [⟨⟨(some 14), none, (.idxSl 1 (.tmp 10) (.tmp 12))⟩, []⟩, ⟨⟨(some 15), none, (.load1 (.tmp 14))⟩, []⟩, ⟨⟨(some 9), none, (.asg (.tmp 15))⟩, []⟩]) (.seq (.seq (.ops [16, 17, 18, 19, 20, 21, 22, 23, 24] [⟨⟨(some 16), none, (.mv (.tmp 0))⟩, []⟩, ⟨⟨(some 17), none, (.mv (.tmp 1))⟩, []⟩, ⟨⟨(some 18), none, (.mv (.tmp 9))⟩, []⟩, ⟨⟨(some 19), none, (.idxSl 1 (.tmp 17) (.tmp 18))⟩, []⟩, ⟨⟨(some 20), none, (.load1 (.tmp 19))⟩, []⟩, ⟨⟨(some 21), none, (.idxSl 1 (.tmp 16) (.tmp 20))⟩, []⟩, ⟨⟨(some 22), none, (.load1 (.tmp 21))⟩, []⟩, ⟨⟨(some 23), none, (.mv (.tmp 7))⟩, []⟩, ⟨⟨(some 24), none, (.bin .leq 3 (.tmp 22) (.tmp 23))⟩, []⟩]) (.cond (.tmp 24) (.seq (.ops [6] [⟨⟨(some 6), none, (.asg (.const (.bool false)))⟩, []⟩]) .ret) .skip)) (.ops [25, 26, 27, 28, 29, 30, 31, 7] [⟨⟨(some 25), none, (.mv (.tmp 0))⟩, []⟩, ⟨⟨(some 26), none, (.mv (.tmp 1))⟩, []⟩, ⟨⟨(some 27), none, (.mv (.tmp 9))⟩, []⟩, ⟨⟨(some 28), none, (.idxSl 1 (.tmp 26) (.tmp 27))⟩, []⟩, ⟨⟨(some 29), none, (.load1 (.tmp 28))⟩, []⟩, ⟨⟨(some 30), none, (.idxSl 1 (.tmp 25) (.tmp 29))⟩, []⟩, ⟨⟨(some 31), none, (.load1 (.tmp 30))⟩, []⟩, ⟨⟨(some 7), none, (.asg (.tmp 31))⟩, []⟩])))) (.ops [32, 12] [⟨⟨(some 32), none, (.bin .add 3 (.tmp 12) (.const (.int .i64 1)))⟩, []⟩, ⟨⟨(some 12), none, (.mv (.tmp 32))⟩, []⟩]))))))) (.seq (.ops [6] [⟨⟨(some 6), none, (.asg (.const (.bool true)))⟩, []⟩]) .ret))))⟩
theorem f_mRise : (envOf Tryz.prog noCut noMemo).F 70 = some c_mRise := by kernel_rfl
noncomputable def c_mApart : CFunc := ⟨16, [(.tmp 6)], (.seq (.ops [6] [⟨⟨(some 6), none, (.asg (.const (.bool false)))⟩, []⟩]) (.seq (.ops [7, 8, 9, 10, 11, 12, 13, 14, 15, 6] [⟨⟨(some 7), none, (.mv (.tmp 0))⟩, []⟩, ⟨⟨(some 8), none, (.mv (.tmp 1))⟩, []⟩, ⟨⟨(some 9), none, (.bin .sub 3 (.tmp 7) (.tmp 8))⟩, []⟩, ⟨⟨(some 10), none, (.mv (.tmp 1))⟩, []⟩, ⟨⟨(some 11), none, (.mv (.tmp 0))⟩, []⟩, ⟨⟨(some 12), none, (.bin .sub 3 (.tmp 10) (.tmp 11))⟩, []⟩, ⟨⟨(some 13), none, (.minmax true [(.tmp 9), (.tmp 12)])⟩, []⟩, ⟨⟨(some 14), none, (.mv (.tmp 2))⟩, []⟩, ⟨⟨(some 15), none, (.bin .geq 3 (.tmp 13) (.tmp 14))⟩, []⟩, ⟨⟨(some 6), none, (.asg (.tmp 15))⟩, []⟩]) .ret))⟩
theorem f_mApart : (envOf Tryz.prog noCut noMemo).F 81 = some c_mApart := by kernel_rfl
noncomputable def c_mRuns : CFunc := ⟨8, [(.tmp 6)], (.seq (.ops [3, 4, 5, 6] [⟨⟨(some 3), none, (.box (.tmp 0) 22)⟩, []⟩, ⟨⟨(some 4), none, (.box (.tmp 1) 22)⟩, []⟩, ⟨⟨(some 5), none, (.box (.tmp 2) 3)⟩, []⟩, ⟨⟨(some 6), none, (.asg (.const .nilFunc))⟩, []⟩]) (.seq (.ops [7, 6] [⟨⟨(some 7), none, (.mkfunc (.func 131) [] [(.tmp 4), (.tmp 5), (.tmp 3)])⟩, []⟩, ⟨⟨(some 6), none, (.asg (.tmp 7))⟩, []⟩]) .ret))⟩
theorem f_mRuns : (envOf Tryz.prog noCut noMemo).F 75 = some c_mRuns := by kernel_rfl
noncomputable def c_mRuns1 : CFunc := ⟨36, [], (.seq (.ops [5] [⟨⟨(some 5), none, (.asg (.const (.int .i64 0)))⟩, []⟩]) (.seq (.seq (.ops [8, 9, 10] [⟨⟨(some 8), none, (.load1 (.tmp 1))⟩, []⟩, ⟨⟨(some 9), none, (.lenSl (.tmp 8))⟩, []⟩, ⟨⟨(some 10), none, (.mv (.const (.int .i64 0)))⟩, []⟩]) (.block 0 (.loop (.seq (.ops [11] [⟨⟨(some 11), none, (.bin .lss 3 (.tmp 10) (.tmp 9))⟩, []⟩]) (.seq (.cond (.tmp 11) .skip (.exit 0)) (.seq (.block 1 (.seq (.ops [12, 13, 7] [⟨⟨(some 12), none, (.idxSl 1 (.tmp 8) (.tmp 10))⟩, []⟩, ⟨⟨(some 13), none, (.load1 (.tmp 12))⟩, []⟩, ⟨⟨(some 7), none, (.asg (.tmp 13))⟩, []⟩]) (.seq (.seq (.ops [14, 15, 16, 17, 18, 19] [⟨⟨(some 14), none, (.load1 (.tmp 2))⟩, []⟩, ⟨⟨(some 15), none, (.load1 (.tmp 3))⟩, []⟩, ⟨⟨(some 16), none, (.mv (.tmp 7))⟩, []⟩, ⟨⟨(some 17), none, (.idxSl 1 (.tmp 15) (.tmp 16))⟩, []⟩, ⟨⟨(some 18), none, (.load1 (.tmp 17))⟩, []⟩, ⟨⟨(some 19), none, (.call (.func 84) [(.tmp 14), (.tmp 18)])⟩, []⟩]) (.cond (.tmp 19) (.seq (.ops [20, 21, 5] [⟨⟨(some 20), none, (.mv (.tmp 5))⟩, []⟩, ⟨⟨(some 21), none, (.bin .add 3 (.tmp 20) (.const (.int .i64 1)))⟩, []⟩, ⟨⟨(some 5), none, (.asg (.tmp 21))⟩, []⟩]) (.exit 1)) .skip)) (.seq (.seq (.ops [22, 23, 24, 25, 26, 27, 28, 29] [⟨⟨(some 22), none, (.mv (.tmp 5))⟩, []⟩, ⟨⟨(some 23), none, (.bin .gtr 3 (.tmp 22) (.const (.int .i64 0)))⟩, []⟩, ⟨⟨(some 24), none, (.mv (.tmp 23))⟩, []⟩, ⟨⟨(some 25), (some ⟨24, true⟩), (.mv (.tmp 0))⟩, []⟩, ⟨⟨(some 26), (some ⟨24, true⟩), (.mv (.tmp 5))⟩, []⟩, ⟨⟨(some 27), (some ⟨24, true⟩), (.call (.tmp 25) [(.tmp 26)])⟩, []⟩, ⟨⟨(some 28), (some ⟨24, true⟩), (.un .not (.tmp 27))⟩, []⟩, ⟨⟨(some 29), none, (.pick (.tmp 24) (.tmp 28) (.const (.bool false)))⟩, []⟩]) (.cond (.tmp 29) .ret .skip)) (.ops [5] [⟨⟨(some 5), none, (.asg (.const (.int .i64 0)))⟩, []⟩]))))) (.ops [30, 10] [⟨⟨(some 30), none, (.bin .add 3 (.tmp 10) (.const (.int .i64 1)))⟩, []⟩, ⟨⟨(some 10), none, (.mv (.tmp 30))⟩, []⟩]))))))) (.seq (.ops [31, 32] [⟨⟨(some 31), none, (.mv (.tmp 5))⟩, []⟩, ⟨⟨(some 32), none, (.bin .gtr 3 (.tmp 31) (.const (.int .i64 0)))⟩, []⟩]) (.cond (.tmp 32) (.ops [33, 34, 35] [⟨⟨(some 33), none, (.mv (.tmp 0))⟩, []⟩, ⟨⟨(some 34), none, (.mv (.tmp 5))⟩, []⟩, ⟨⟨(some 35), none, (.call (.tmp 33) [(.tmp 34)])⟩, []⟩]) .skip))))⟩
theorem f_mRuns1 : (envOf Tryz.prog noCut noMemo).F 131 = some c_mRuns1 := by kernel_rfl
noncomputable def c_appSeq : CFunc := ⟨13, [(.tmp 4)], (.seq (.ops [2, 4] [⟨⟨(some 2), none, (.box (.tmp 0) 22)⟩, []⟩, ⟨⟨(some 4), none, (.asg (.const (.slice none 0 0)))⟩, []⟩]) (.seq (.seq (.ops [6] [⟨⟨(some 6), none, (.mv (.tmp 1))⟩, []⟩]) (.block 0 (.rangeFunc (.tmp 6) [7] (.ops [5] [⟨⟨(some 5), none, (.asg (.tmp 7))⟩, []⟩]) (.block 1 (.ops [8, 9, 10, 11] [⟨⟨(some 8), none, (.load1 (.tmp 2))⟩, []⟩, ⟨⟨(some 9), none, (.mv (.tmp 5))⟩, []⟩, ⟨⟨(some 10), none, (.bslice 3 1 [(.int .i64 0)] [⟨0, ⟨1, (.tmp 9)⟩⟩])⟩, []⟩, ⟨⟨(some 11), none, (.append 3 1 8 (.tmp 8) (.tmp 10))⟩, []⟩, ⟨⟨none, none, (.store 1 (.tmp 2) (.tmp 11))⟩, []⟩]))))) (.seq (.ops [12, 4] [⟨⟨(some 12), none, (.load1 (.tmp 2))⟩, []⟩, ⟨⟨(some 4), none, (.asg (.tmp 12))⟩, []⟩]) .ret)))⟩
theorem f_appSeq : (envOf Tryz.prog noCut noMemo).F 130 = some c_appSeq := by kernel_rfl
noncomputable def c_collect : CFunc := ⟨5, [(.tmp 2)], (.seq (.ops [2] [⟨⟨(some 2), none, (.asg (.const (.slice none 0 0)))⟩, []⟩]) (.seq (.ops [3, 4, 2] [⟨⟨(some 3), none, (.mv (.tmp 0))⟩, []⟩, ⟨⟨(some 4), none, (.call (.func 130) [(.const (.slice none 0 0)), (.tmp 3)])⟩, []⟩, ⟨⟨(some 2), none, (.asg (.tmp 4))⟩, []⟩]) .ret))⟩
theorem f_collect : (envOf Tryz.prog noCut noMemo).F 74 = some c_collect := by kernel_rfl

theorem bit_eq (m n : Nat) : decide (((m >>> n &&& 1 : Nat) : Int) = 1) = m.testBit n := by
  rw [Nat.testBit, Nat.and_comm, Nat.one_and_eq_mod_two]
  have : m >>> n % 2 = 0 ∨ m >>> n % 2 = 1 := by omega
  rcases this with h | h <;> simp [h]

theorem mIn_ok {set sym : Nat} (hs : set < 9223372036854775808) (hb : sym < 64) : FnP Tryz.prog 84 [.int .i64 (set : Int), .int .i64 (sym : Int)] [] (.bool (set.testBit sym)) := by
  refine q_beg c_mIn f_mIn fun B w0 => ?_
  refine go ?_
  refine (d_p rfl rfl (p_shr rfl rfl hb)).h ?_
  refine (d_p rfl rfl (p_and (b := 1) rfl rfl (Nat.lt_of_le_of_lt (Nat.shiftRight_le _ _) hs) (by omega))).h ?_
  refine go ?_
  refine q_fin () (hv := ?_) (hp := trivial)
  rw [← bit_eq]; rfl

/-- a grid: symbols of cells -/
structure GridOK (grid : List Int) : Prop where
  len : grid.length ≤ 1000000
  sym : ∀ x ∈ grid, 0 ≤ x ∧ x < 16
/-- cells of a grid -/
structure CellsOK (grid cells : List Int) : Prop where
  len : cells.length ≤ 1000000
  cell : ∀ c ∈ cells, 0 ≤ c ∧ c < grid.length

/-- the symbol of a cell -/
def sy (grid : List Int) (c : Int) : Nat := (grid.getD c.toNat 0).toNat
def cnt (grid : List Int) (set : Nat) (cells : List Int) : Nat := (cells.filter fun c => set.testBit (sy grid c)).length

theorem take_one {α : Type} {xs : List α} {k : Nat} {x : α} (h : xs[k]? = some x) : xs.take (k + 1) = xs.take k ++ [x] := by
  rw [List.take_add_one, h]; rfl

theorem sy_of {grid : List Int} {c : Nat} {s : Nat} (h : grid[c]? = some (s : Int)) : sy grid (c : Int) = s := by
  simp [sy, List.getD, h]

theorem mCount_ok {vg vc : Value} {grid cells : List Int} {set : Nat} (hg : GridOK grid) (hc : CellsOK grid cells) (hs : set < 9223372036854775808) :
    FnP Tryz.prog 64 [vg, vc, .int .i64 (set : Int)] [fSl intE vg grid, fSl intE vc cells] (.int .i64 (cnt grid set cells : Int)) := by
  refine q_beg c_mCount f_mCount fun B w0 => ?_
  have hcl := hc.len
  refine go ?_
  refine q_loop (fun k => cells.length - k) (fun k : Nat => [(11, .int .i64 (k : Int)), (6, .int .i64 (cnt grid set (cells.take k) : Int))]) (fun _ => []) (fun _ => []) (fun k => k ≤ cells.length ∧ cnt grid set (cells.take k) ≤ k) 0 ⟨by omega, by simp [cnt]⟩ (body := ?_)
  rintro k ⟨hk, hn⟩
  refine go ?_
  refine if_d rfl (fun h1 => ?_) (fun h1 => ?_)
  · refine go ?_
    intro _ _ c hck
    have hcc := hc.cell c (List.mem_of_getElem? hck)
    obtain ⟨c, rfl⟩ := Int.eq_ofNat_of_zero_le hcc.1
    refine go ?_
    intro _ _ x hx
    have hxx := hg.sym x (List.mem_of_getElem? hx)
    obtain ⟨x, rfl⟩ := Int.eq_ofNat_of_zero_le hxx.1
    refine q_call (mIn_ok (set := set) (sym := x) hs (by omega)) (next := fun _ _ => ?_)
    refine go ?_
    have hstep : cnt grid set (cells.take (k + 1)) = cnt grid set (cells.take k) + if set.testBit x then 1 else 0 := by
      rw [cnt, take_one hck, List.filter_append, List.length_append, ← cnt]
      congr 1
      simp only [List.filter_cons, List.filter_nil, sy_of hx]
      split <;> rfl
    refine if_b rfl (fun h2 => ?_) (fun h2 => ?_)
    · rw [if_pos h2] at hstep
      refine go ?_
      exact q_again (k + 1) (by omega) ⟨by omega, by omega⟩ (hl := ⟨rfl, by rw [hstep]; rfl, by repeat (first | exact trivial | refine ⟨rfl, ?_⟩)⟩)
    · rw [if_neg (by rw [h2]; simp)] at hstep
      refine go ?_
      exact q_again (k + 1) (by omega) ⟨by omega, by omega⟩ (hl := ⟨rfl, by rw [hstep]; rfl, by repeat (first | exact trivial | refine ⟨rfl, ?_⟩)⟩)
  refine go ?_
  have : k = cells.length := by omega
  subst this
  refine q_fin () (hv := ?_) (hp := trivial)
  rw [List.take_length]; rfl

/-- values of symbols -/
structure ValsOK (values grid : List Int) : Prop where
  val : ∀ v ∈ values, 0 ≤ v ∧ v ≤ 99
  sym : ∀ x ∈ grid, x < values.length

def va (values grid : List Int) (c : Int) : Int := values.getD (sy grid c) 0
def smm (values grid cells : List Int) : Int := (cells.map (va values grid)).sum

theorem va_of {values grid : List Int} {c s : Nat} {v : Int} (h : grid[c]? = some (s : Int)) (h2 : values[s]? = some v) : va values grid (c : Int) = v := by
  simp [va, sy_of h, List.getD, h2]

theorem mSum_ok {vv vg vc : Value} {values grid cells : List Int} (hg : GridOK grid) (hc : CellsOK grid cells) (hv : ValsOK values grid) :
    FnP Tryz.prog 67 [vv, vg, vc] [fSl intE vv values, fSl intE vg grid, fSl intE vc cells] (.int .i64 (smm values grid cells)) := by
  refine q_beg c_mSum f_mSum fun B w0 => ?_
  have hcl := hc.len
  refine go ?_
  refine q_loop (fun k => cells.length - k) (fun k : Nat => [(11, .int .i64 (k : Int)), (6, .int .i64 (smm values grid (cells.take k)))]) (fun _ => []) (fun _ => []) (fun k => k ≤ cells.length ∧ 0 ≤ smm values grid (cells.take k) ∧ smm values grid (cells.take k) ≤ 99 * k) 0 ⟨by omega, by simp [smm], by simp [smm]⟩ (body := ?_)
  rintro k ⟨hk, hn0, hn⟩
  refine go ?_
  refine if_d rfl (fun h1 => ?_) (fun h1 => ?_)
  · refine go ?_
    intro _ _ c hck
    have hcc := hc.cell c (List.mem_of_getElem? hck)
    obtain ⟨c, rfl⟩ := Int.eq_ofNat_of_zero_le hcc.1
    refine go ?_
    intro _ _ x hx
    have hxx := hg.sym x (List.mem_of_getElem? hx)
    have hxv := hv.sym x (List.mem_of_getElem? hx)
    obtain ⟨x, rfl⟩ := Int.eq_ofNat_of_zero_le hxx.1
    refine go ?_
    intro _ _ v hvx
    have hvv := hv.val v (List.mem_of_getElem? hvx)
    have hstep : smm values grid (cells.take (k + 1)) = smm values grid (cells.take k) + v := by
      rw [smm, take_one hck, List.map_append, List.sum_append, ← smm]
      simp [va_of hx hvx]
    refine go ?_
    exact q_again (k + 1) (by omega) ⟨by omega, by omega, by omega⟩ (hl := ⟨rfl, by rw [hstep]; rfl, by repeat (first | exact trivial | refine ⟨rfl, ?_⟩)⟩)
  refine go ?_
  have : k = cells.length := by omega
  subst this
  refine q_fin () (hv := ?_) (hp := trivial)
  rw [List.take_length]; rfl

def dif (grid cells : List Int) : Bool := decide (cells.map (sy grid)).Nodup

/-- the symbols of some cells, as a set -/
def met (grid cells : List Int) : Nat := cells.foldl (fun m c => m ||| 1 <<< sy grid c) 0
theorem met_bit (grid : List Int) : ∀ (cells : List Int) (m s : Nat), (cells.foldl (fun m c => m ||| 1 <<< sy grid c) m).testBit s = (m.testBit s || decide (s ∈ cells.map (sy grid)))
  | [], m, s => by simp
  | c :: cells, m, s => by
    rw [List.foldl_cons, met_bit grid cells, Nat.testBit_or]
    have : (1 <<< sy grid c).testBit s = decide (s = sy grid c) := by
      rw [Nat.testBit_shiftLeft]
      by_cases h : s = sy grid c
      · subst h; simp
      · by_cases h2 : sy grid c ≤ s
        · have : s - sy grid c ≠ 0 := by omega
          have h3 : (1 : Nat).testBit (s - sy grid c) = false := Nat.testBit_lt_two_pow (Nat.one_lt_two_pow this)
          simp [h, h2, h3]
        · simp [h, h2]
    rw [this, Bool.or_assoc]
    congr 1
    simp only [List.map_cons, List.mem_cons, Bool.decide_or]

theorem mDiff_ok {vg vc : Value} {grid cells : List Int} (hg : GridOK grid) (hc : CellsOK grid cells) :
    FnP Tryz.prog 60 [vg, vc] [fSl intE vg grid, fSl intE vc cells] (.bool (dif grid cells)) := by
  refine q_beg c_mDiff f_mDiff fun B w0 => ?_
  have hcl := hc.len
  refine go ?_
  refine q_loop (fun k => cells.length - k) (fun k : Nat => [(10, .int .i64 (k : Int)), (5, .int .i64 (met grid (cells.take k) : Int))]) (fun _ => []) (fun _ => []) (fun k => k ≤ cells.length ∧ met grid (cells.take k) < 2 ^ 16 ∧ ((cells.take k).map (sy grid)).Nodup) 0 ⟨by omega, by simp [met], by simp⟩ (body := ?_)
  rintro k ⟨hk, hm, hnd⟩
  refine go ?_
  refine if_d rfl (fun h1 => ?_) (fun h1 => ?_)
  · refine go ?_
    intro _ _ c hck
    have hcc := hc.cell c (List.mem_of_getElem? hck)
    obtain ⟨c, rfl⟩ := Int.eq_ofNat_of_zero_le hcc.1
    refine go ?_
    intro _ _ x hx
    have hxx := hg.sym x (List.mem_of_getElem? hx)
    obtain ⟨x, rfl⟩ := Int.eq_ofNat_of_zero_le hxx.1
    refine q_call (mIn_ok (set := met grid (cells.take k)) (sym := x) (by omega) (by omega)) (next := fun _ _ => ?_)
    have hbit : (met grid (cells.take k)).testBit x = decide (x ∈ (cells.take k).map (sy grid)) := by rw [met, met_bit]; simp
    have hmap : (cells.take (k + 1)).map (sy grid) = (cells.take k).map (sy grid) ++ [x] := by rw [take_one hck, List.map_append]; simp [sy_of hx]
    refine go ?_
    refine if_b rfl (fun h2 => ?_) (fun h2 => ?_)
    · refine go ?_
      refine q_fin () (hv := ?_) (hp := trivial)
      rw [hbit] at h2
      have h2 := of_decide_eq_true h2
      have : dif grid cells = false := by
        refine decide_eq_false fun hall => ?_
        have h3 : ((cells.take (k + 1)).map (sy grid)).Nodup := List.Nodup.sublist (List.Sublist.map _ (List.take_sublist _ _)) hall
        rw [hmap, List.nodup_append] at h3
        exact h3.2.2 x h2 x (by simp) rfl
      rw [this]; rfl
    refine go ?_
    intro _ _ x' hx'
    cases hx.symm.trans hx'
    rw [hbit] at h2
    have h2 := of_decide_eq_false h2
    have hsh : 1 <<< x < 2 ^ 16 := by rw [Nat.shiftLeft_eq, Nat.one_mul]; exact Nat.pow_lt_pow_right (by omega) (by omega)
    refine (d_p rfl rfl (p_shl (a := 1) rfl rfl (by omega) (by omega))).h ?_
    refine (d_p rfl rfl (p_or rfl rfl (by omega) (by omega))).h ?_
    refine go ?_
    have hstep : met grid (cells.take (k + 1)) = met grid (cells.take k) ||| 1 <<< x := by
      rw [met, take_one hck, List.foldl_append, ← met]
      simp [sy_of hx]
    refine q_again (k + 1) (by omega) ⟨by omega, by rw [hstep]; exact Nat.or_lt_two_pow hm hsh, ?_⟩ (hl := ⟨rfl, by rw [hstep]; rfl, by repeat (first | exact trivial | refine ⟨rfl, ?_⟩)⟩)
    rw [hmap, List.nodup_append]
    exact ⟨hnd, by simp, by rintro a ha b hb rfl; simp at hb; subst hb; exact h2 ha⟩
  refine go ?_
  have : k = cells.length := by omega
  subst this
  rw [List.take_length] at hnd
  refine q_fin () (hv := ?_) (hp := trivial)
  rw [dif, decide_eq_true hnd]; rfl

def ris (values grid cells : List Int) : Bool := decide ((cells.map (va values grid)).Pairwise (· < ·))

theorem mRise_ok {vv vg vc : Value} {values grid cells : List Int} (hg : GridOK grid) (hc : CellsOK grid cells) (hv : ValsOK values grid) :
    FnP Tryz.prog 70 [vv, vg, vc] [fSl intE vv values, fSl intE vg grid, fSl intE vc cells] (.bool (ris values grid cells)) := by
  refine q_beg c_mRise f_mRise fun B w0 => ?_
  have hcl := hc.len
  refine go ?_
  refine q_loop (fun k => cells.length - k.1) (fun k : Nat × Int => [(12, .int .i64 (k.1 : Int)), (7, .int .i64 k.2)]) (fun _ => []) (fun _ => []) (fun k => k.1 ≤ cells.length ∧ (∀ v ∈ (cells.take k.1).map (va values grid), v ≤ k.2) ∧ (k.2 = -1 ∨ k.2 ∈ (cells.take k.1).map (va values grid)) ∧ ((cells.take k.1).map (va values grid)).Pairwise (· < ·)) (0, -1) ⟨by simp, by simp, by simp, by simp⟩ (body := ?_)
  rintro ⟨k, last⟩ ⟨hk, hmax, hlast, hpw⟩
  dsimp only at hk hmax hlast hpw
  refine go ?_
  refine if_d rfl (fun h1 => ?_) (fun h1 => ?_)
  · refine go ?_
    intro _ _ c hck
    have hcc := hc.cell c (List.mem_of_getElem? hck)
    obtain ⟨c, rfl⟩ := Int.eq_ofNat_of_zero_le hcc.1
    refine go ?_
    intro _ _ x hx
    have hxx := hg.sym x (List.mem_of_getElem? hx)
    have hxv := hv.sym x (List.mem_of_getElem? hx)
    obtain ⟨x, rfl⟩ := Int.eq_ofNat_of_zero_le hxx.1
    refine go ?_
    intro _ _ v hvx
    have hvv := hv.val v (List.mem_of_getElem? hvx)
    have hmap : (cells.take (k + 1)).map (va values grid) = (cells.take k).map (va values grid) ++ [v] := by rw [take_one hck, List.map_append]; simp [va_of hx hvx]
    refine if_d rfl (fun h2 => ?_) (fun h2 => ?_)
    · refine go ?_
      refine q_fin () (hv := ?_) (hp := trivial)
      have : ris values grid cells = false := by
        refine decide_eq_false fun hall => ?_
        have h3 : ((cells.take (k + 1)).map (va values grid)).Pairwise (· < ·) := List.Pairwise.sublist (List.Sublist.map _ (List.take_sublist _ _)) hall
        rw [hmap, List.pairwise_append] at h3
        rcases hlast with e | e
        · omega
        · have := h3.2.2 last e v (by simp); omega
      rw [this]; rfl
    refine go ?_
    intro _ _ x' hx'
    cases hx.symm.trans hx'
    refine go ?_
    intro _ _ v' hv'
    cases hvx.symm.trans hv'
    refine go ?_
    refine q_again (k + 1, v) (by show cells.length - (k + 1) < cells.length - k; omega) ⟨by show k + 1 ≤ _; omega, ?_, ?_, ?_⟩
    · intro u hu
      rw [hmap] at hu
      rcases List.mem_append.1 hu with hu | hu
      · have := hmax u hu; show u ≤ v; omega
      · simp at hu; show u ≤ v; omega
    · right; rw [hmap]; simp
    · show ((cells.take (k + 1)).map (va values grid)).Pairwise (· < ·)
      rw [hmap, List.pairwise_append]
      refine ⟨hpw, by simp, fun a ha b hb => ?_⟩
      simp at hb; subst hb
      have := hmax a ha; omega
  refine go ?_
  have : k = cells.length := by omega
  subst this
  rw [List.take_length] at hpw
  refine q_fin () (hv := ?_) (hp := trivial)
  rw [ris, decide_eq_true hpw]; rfl
end Go.Proofs.YtpkieeggilkagaaGreat

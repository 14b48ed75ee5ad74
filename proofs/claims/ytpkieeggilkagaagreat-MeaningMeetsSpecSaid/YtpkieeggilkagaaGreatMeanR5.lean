/-
  The reference's meaning of lists of cells.
-/
import Derived.Test.YtpkieeggilkagaaGreatMeanR4
set_option linter.unusedSimpArgs false
set_option linter.unusedVariables false
set_option maxHeartbeats 2000000
set_option maxRecDepth 10000
namespace Go.Proofs.YtpkieeggilkagaaGreat
open Go.Ideal Gph

noncomputable def c_rFin : CFunc := ⟨31, [(.tmp 6)], (.seq (.ops [6] [⟨⟨(some 6), none, (.asg (.const (.bool false)))⟩, []⟩]) (.seq (.seq (.ops [8, 9, 10, 11] [⟨⟨(some 8), none, (.mv (.tmp 2))⟩, []⟩, ⟨⟨(some 9), none, (.lenSl (.tmp 8))⟩, []⟩, ⟨⟨(some 10), none, (.mv (.tmp 0))⟩, []⟩, ⟨⟨(some 11), none, (.bin .neq 3 (.tmp 9) (.tmp 10))⟩, []⟩]) (.cond (.tmp 11) (.seq (.ops [6] [⟨⟨(some 6), none, (.asg (.const (.bool false)))⟩, []⟩]) .ret) .skip)) (.seq (.seq (.ops [7] [⟨⟨(some 7), none, (.asg (.const (.int .i64 0)))⟩, []⟩]) (.block 0 (.loop (.seq (.seq (.ops [12, 13, 14, 15] [⟨⟨(some 12), none, (.mv (.tmp 7))⟩, []⟩, ⟨⟨(some 13), none, (.mv (.tmp 2))⟩, []⟩, ⟨⟨(some 14), none, (.lenSl (.tmp 13))⟩, []⟩, ⟨⟨(some 15), none, (.bin .lss 3 (.tmp 12) (.tmp 14))⟩, []⟩]) (.cond (.tmp 15) .skip (.exit 0))) (.seq (.block 1 (.seq (.ops [18, 19, 20, 21, 22, 23, 24, 25, 26, 27, 28, 29, 30] [⟨⟨(some 18), none, (.mv (.tmp 2))⟩, []⟩, ⟨⟨(some 19), none, (.mv (.tmp 7))⟩, []⟩, ⟨⟨(some 20), none, (.idxSl 1 (.tmp 18) (.tmp 19))⟩, []⟩, ⟨⟨(some 21), none, (.load1 (.tmp 20))⟩, []⟩, ⟨⟨(some 22), none, (.bin .lss 3 (.tmp 21) (.const (.int .i64 0)))⟩, []⟩, ⟨⟨(some 23), none, (.mv (.tmp 22))⟩, []⟩, ⟨⟨(some 24), (some ⟨23, false⟩), (.mv (.tmp 2))⟩, []⟩, ⟨⟨(some 25), (some ⟨23, false⟩), (.mv (.tmp 7))⟩, []⟩, ⟨⟨(some 26), (some ⟨23, false⟩), (.idxSl 1 (.tmp 24) (.tmp 25))⟩, []⟩, ⟨⟨(some 27), (some ⟨23, false⟩), (.load1 (.tmp 26))⟩, []⟩, ⟨⟨(some 28), (some ⟨23, false⟩), (.mv (.tmp 1))⟩, []⟩, ⟨⟨(some 29), (some ⟨23, false⟩), (.bin .geq 3 (.tmp 27) (.tmp 28))⟩, []⟩, ⟨⟨(some 30), none, (.pick (.tmp 23) (.const (.bool true)) (.tmp 29))⟩, []⟩]) (.cond (.tmp 30) (.seq (.ops [6] [⟨⟨(some 6), none, (.asg (.const (.bool false)))⟩, []⟩]) .ret) .skip))) (.ops [16, 17, 7] [⟨⟨(some 16), none, (.mv (.tmp 7))⟩, []⟩, ⟨⟨(some 17), none, (.bin .add 3 (.tmp 16) (.const (.int .i64 1)))⟩, []⟩, ⟨⟨(some 7), none, (.asg (.tmp 17))⟩, []⟩])))))) (.seq (.ops [6] [⟨⟨(some 6), none, (.asg (.const (.bool true)))⟩, []⟩]) .ret))))⟩
theorem f_rFin : (envOf Tryz.prog noCut noMemo).F 42 = some c_rFin := by kernel_rfl
noncomputable def c_rDiff : CFunc := ⟨33, [(.tmp 4)], (.seq (.ops [4] [⟨⟨(some 4), none, (.asg (.const (.bool false)))⟩, []⟩]) (.seq (.seq (.ops [5] [⟨⟨(some 5), none, (.asg (.const (.int .i64 0)))⟩, []⟩]) (.block 0 (.loop (.seq (.seq (.ops [7, 8, 9, 10] [⟨⟨(some 7), none, (.mv (.tmp 5))⟩, []⟩, ⟨⟨(some 8), none, (.mv (.tmp 1))⟩, []⟩, ⟨⟨(some 9), none, (.lenSl (.tmp 8))⟩, []⟩, ⟨⟨(some 10), none, (.bin .lss 3 (.tmp 7) (.tmp 9))⟩, []⟩]) (.cond (.tmp 10) .skip (.exit 0))) (.seq (.block 1 (.seq (.ops [6] [⟨⟨(some 6), none, (.asg (.const (.int .i64 0)))⟩, []⟩]) (.block 2 (.loop (.seq (.seq (.ops [13, 14, 15] [⟨⟨(some 13), none, (.mv (.tmp 6))⟩, []⟩, ⟨⟨(some 14), none, (.mv (.tmp 5))⟩, []⟩, ⟨⟨(some 15), none, (.bin .lss 3 (.tmp 13) (.tmp 14))⟩, []⟩]) (.cond (.tmp 15) .skip (.exit 2))) (.seq (.block 3 (.seq (.ops [18, 19, 20, 21, 22, 23, 24, 25, 26, 27, 28, 29, 30, 31, 32] [⟨⟨(some 18), none, (.mv (.tmp 0))⟩, []⟩, ⟨⟨(some 19), none, (.mv (.tmp 1))⟩, []⟩, ⟨⟨(some 20), none, (.mv (.tmp 5))⟩, []⟩, ⟨⟨(some 21), none, (.idxSl 1 (.tmp 19) (.tmp 20))⟩, []⟩, ⟨⟨(some 22), none, (.load1 (.tmp 21))⟩, []⟩, ⟨⟨(some 23), none, (.idxSl 1 (.tmp 18) (.tmp 22))⟩, []⟩, ⟨⟨(some 24), none, (.load1 (.tmp 23))⟩, []⟩, ⟨⟨(some 25), none, (.mv (.tmp 0))⟩, []⟩, ⟨⟨(some 26), none, (.mv (.tmp 1))⟩, []⟩, ⟨⟨(some 27), none, (.mv (.tmp 6))⟩, []⟩, ⟨⟨(some 28), none, (.idxSl 1 (.tmp 26) (.tmp 27))⟩, []⟩, ⟨⟨(some 29), none, (.load1 (.tmp 28))⟩, []⟩, ⟨⟨(some 30), none, (.idxSl 1 (.tmp 25) (.tmp 29))⟩, []⟩, ⟨⟨(some 31), none, (.load1 (.tmp 30))⟩, []⟩, ⟨⟨(some 32), none, (.bin .eql 3 (.tmp 24) (.tmp 31))⟩, []⟩]) (.cond (.tmp 32) (.seq (.ops [4] [⟨⟨(some 4), none, (.asg (.const (.bool false)))⟩, []⟩]) .ret) .skip))) (.ops [16, 17, 6] [⟨⟨(some 16), none, (.mv (.tmp 6))⟩, []⟩, ⟨⟨(some 17), none, (.bin .add 3 (.tmp 16) (.const (.int .i64 1)))⟩, []⟩, ⟨⟨(some 6), none, (.asg (.tmp 17))⟩, []⟩]))))))) (.ops [11, 12, 5] [⟨⟨(some 11), none, (.mv (.tmp 5))⟩, []⟩, ⟨⟨(some 12), none, (.bin .add 3 (.tmp 11) (.const (.int .i64 1)))⟩, []⟩, ⟨⟨(some 5), none, (.asg (.tmp 12))⟩, []⟩])))))) (.seq (.ops [4] [⟨⟨(some 4), none, (.asg (.const (.bool true)))⟩, []⟩]) .ret)))⟩
theorem f_rDiff : (envOf Tryz.prog noCut noMemo).F 106 = some c_rDiff := by kernel_rfl
noncomputable def c_rCount : CFunc := ⟨27, [(.tmp 6)], (.seq (.ops [6] [⟨⟨(some 6), none, (.asg (.const (.int .i64 0)))⟩, []⟩]) (.seq (.ops [7] [⟨⟨(some 7), none, (.asg (.const (.int .i64 0)))⟩, []⟩]) (.seq (.seq (.ops [8] [⟨⟨(some 8), none, (.asg (.const (.int .i64 0)))⟩, []⟩]) (.block 0 (.loop (.seq (.seq (.ops [9, 10, 11, 12] [⟨⟨(some 9), none, (.mv (.tmp 8))⟩, []⟩, ⟨⟨(some 10), none, (.mv (.tmp 1))⟩, []⟩, ⟨⟨(some 11), none, (.lenSl (.tmp 10))⟩, []⟩, ⟨⟨(some 12), none, (.bin .lss 3 (.tmp 9) (.tmp 11))⟩, []⟩]) (.cond (.tmp 12) .skip (.exit 0))) (.seq (.block 1 (.seq (.ops [15, 16, 17, 18, 19, 20, 21, 22, 23] [⟨⟨(some 15), none, (.mv (.tmp 2))⟩, []⟩, ⟨⟨(some 16), none, (.mv (.tmp 0))⟩, []⟩, ⟨⟨(some 17), none, (.mv (.tmp 1))⟩, []⟩, ⟨⟨(some 18), none, (.mv (.tmp 8))⟩, []⟩, ⟨⟨(some 19), none, (.idxSl 1 (.tmp 17) (.tmp 18))⟩, []⟩, ⟨⟨(some 20), none, (.load1 (.tmp 19))⟩, []⟩, ⟨⟨(some 21), none, (.idxSl 1 (.tmp 16) (.tmp 20))⟩, []⟩, ⟨⟨(some 22), none, (.load1 (.tmp 21))⟩, []⟩, ⟨⟨(some 23), none, (.call (.func 49) [(.tmp 15), (.tmp 22)])⟩, []⟩]) (.cond (.tmp 23) (.ops [24, 25, 7] [⟨⟨(some 24), none, (.mv (.tmp 7))⟩, []⟩, ⟨⟨(some 25), none, (.bin .add 3 (.tmp 24) (.const (.int .i64 1)))⟩, []⟩, ⟨⟨(some 7), none, (.asg (.tmp 25))⟩, []⟩]) .skip))) (.ops [13, 14, 8] [⟨⟨(some 13), none, (.mv (.tmp 8))⟩, []⟩, ⟨⟨(some 14), none, (.bin .add 3 (.tmp 13) (.const (.int .i64 1)))⟩, []⟩, ⟨⟨(some 8), none, (.asg (.tmp 14))⟩, []⟩])))))) (.seq (.ops [26, 6] [⟨⟨(some 26), none, (.mv (.tmp 7))⟩, []⟩, ⟨⟨(some 6), none, (.asg (.tmp 26))⟩, []⟩]) .ret))))⟩
theorem f_rCount : (envOf Tryz.prog noCut noMemo).F 107 = some c_rCount := by kernel_rfl
noncomputable def c_rSum : CFunc := ⟨28, [(.tmp 6)], (.seq (.ops [6] [⟨⟨(some 6), none, (.asg (.const (.int .i64 0)))⟩, []⟩]) (.seq (.ops [7] [⟨⟨(some 7), none, (.asg (.const (.int .i64 0)))⟩, []⟩]) (.seq (.seq (.ops [8] [⟨⟨(some 8), none, (.asg (.const (.int .i64 0)))⟩, []⟩]) (.block 0 (.loop (.seq (.seq (.ops [9, 10, 11, 12] [⟨⟨(some 9), none, (.mv (.tmp 8))⟩, []⟩, ⟨⟨(some 10), none, (.mv (.tmp 2))⟩, []⟩, ⟨⟨(some 11), none, (.lenSl (.tmp 10))⟩, []⟩, ⟨⟨(some 12), none, (.bin .lss 3 (.tmp 9) (.tmp 11))⟩, []⟩]) (.cond (.tmp 12) .skip (.exit 0))) (.seq (.block 1 (.ops [15, 16, 17, 18, 19, 20, 21, 22, 23, 24, 25, 26, 7] [⟨⟨(some 15), none, (.mv (.tmp 7))⟩, []⟩, ⟨⟨(some 16), none, (.mv (.tmp 0))⟩, []⟩, ⟨⟨(some 17), none, (.mv (.tmp 1))⟩, []⟩, ⟨⟨(some 18), none, (.mv (.tmp 2))⟩, []⟩, ⟨⟨(some 19), none, (.mv (.tmp 8))⟩, []⟩, ⟨⟨(some 20), none, (.idxSl 1 (.tmp 18) (.tmp 19))⟩, []⟩, ⟨⟨(some 21), none, (.load1 (.tmp 20))⟩, []⟩, ⟨⟨(some 22), none, (.idxSl 1 (.tmp 17) (.tmp 21))⟩, []⟩, ⟨⟨(some 23), none, (.load1 (.tmp 22))⟩, []⟩, ⟨⟨(some 24), none, (.idxSl 1 (.tmp 16) (.tmp 23))⟩, []⟩, ⟨⟨(some 25), none, (.load1 (.tmp 24))⟩, []⟩, ⟨⟨(some 26), none, (.bin .add 3 (.tmp 15) (.tmp 25))⟩, []⟩, ⟨⟨(some 7), none, (.asg (.tmp 26))⟩, []⟩])) (.ops [13, 14, 8] [⟨⟨(some 13), none, (.mv (.tmp 8))⟩, []⟩, ⟨⟨(some 14), none, (.bin .add 3 (.tmp 13) (.const (.int .i64 1)))⟩, []⟩, ⟨⟨(some 8), none, (.asg (.tmp 14))⟩, []⟩])))))) (.seq (.ops [27, 6] [⟨⟨(some 27), none, (.mv (.tmp 7))⟩, []⟩, ⟨⟨(some 6), none, (.asg (.tmp 27))⟩, []⟩]) .ret))))⟩
theorem f_rSum : (envOf Tryz.prog noCut noMemo).F 108 = some c_rSum := by kernel_rfl
noncomputable def c_rRuns : CFunc := ⟨40, [(.tmp 6)], (.seq (.ops [6] [⟨⟨(some 6), none, (.asg (.const (.slice none 0 0)))⟩, []⟩]) (.seq (.ops [7] [⟨⟨(some 7), none, (.asg (.const (.slice none 0 0)))⟩, []⟩]) (.seq (.ops [8] [⟨⟨(some 8), none, (.asg (.const (.int .i64 0)))⟩, []⟩]) (.seq (.seq (.ops [9] [⟨⟨(some 9), none, (.asg (.const (.int .i64 0)))⟩, []⟩]) (.block 0 (.loop (.seq (.seq (.ops [10, 11, 12, 13] [⟨⟨(some 10), none, (.mv (.tmp 9))⟩, []⟩, ⟨⟨(some 11), none, (.mv (.tmp 1))⟩, []⟩, ⟨⟨(some 12), none, (.lenSl (.tmp 11))⟩, []⟩, ⟨⟨(some 13), none, (.bin .lss 3 (.tmp 10) (.tmp 12))⟩, []⟩]) (.cond (.tmp 13) .skip (.exit 0))) (.seq (.block 1 (.seq (.ops [16, 17, 18, 19, 20, 21, 22, 23, 24] [⟨⟨(some 16), none, (.mv (.tmp 2))⟩, []⟩, ⟨⟨(some 17), none, (.mv (.tmp 0))⟩, []⟩, ⟨⟨(some 18), none, (.mv (.tmp 1))⟩, []⟩, ⟨⟨(some 19), none, (.mv (.tmp 9))⟩, []⟩, ⟨⟨(some 20), none, (.idxSl 1 (.tmp 18) (.tmp 19))⟩, []⟩, ⟨⟨(some 21), none, (.load1 (.tmp 20))⟩, []⟩, ⟨⟨(some 22), none, (.idxSl 1 (.tmp 17) (.tmp 21))⟩, []⟩, ⟨⟨(some 23), none, (.load1 (.tmp 22))⟩, []⟩, ⟨⟨(some 24), none, (.call (.func 49) [(.tmp 16), (.tmp 23)])⟩, []⟩]) (.cond (.tmp 24) (.ops [25, 26, 8] [⟨⟨(some 25), none, (.mv (.tmp 8))⟩, []⟩, ⟨⟨(some 26), none, (.bin .add 3 (.tmp 25) (.const (.int .i64 1)))⟩, []⟩, ⟨⟨(some 8), none, (.asg (.tmp 26))⟩, []⟩]) (.seq (.seq (.ops [27, 28] [⟨⟨(some 27), none, (.mv (.tmp 8))⟩, []⟩, ⟨⟨(some 28), none, (.bin .gtr 3 (.tmp 27) (.const (.int .i64 0)))⟩, []⟩]) (.cond (.tmp 28) (.ops [29, 30, 31, 32, 7] [⟨⟨(some 29), none, (.mv (.tmp 7))⟩, []⟩, ⟨⟨(some 30), none, (.mv (.tmp 8))⟩, []⟩, ⟨⟨(some 31), none, (.bslice 3 1 [(.int .i64 0)] [⟨0, ⟨1, (.tmp 30)⟩⟩])⟩, []⟩, ⟨⟨(some 32), none, (.append 3 1 8 (.tmp 29) (.tmp 31))⟩, []⟩, ⟨⟨(some 7), none, (.asg (.tmp 32))⟩, []⟩]) .skip)) (.ops [8] [⟨⟨(some 8), none, (.asg (.const (.int .i64 0)))⟩, []⟩]))))) (.ops [14, 15, 9] [⟨⟨(some 14), none, (.mv (.tmp 9))⟩, []⟩, ⟨⟨(some 15), none, (.bin .add 3 (.tmp 14) (.const (.int .i64 1)))⟩, []⟩, ⟨⟨(some 9), none, (.asg (.tmp 15))⟩, []⟩])))))) (.seq (.seq (.ops [33, 34] [⟨⟨(some 33), none, (.mv (.tmp 8))⟩, []⟩, ⟨⟨(some 34), none, (.bin .gtr 3 (.tmp 33) (.const (.int .i64 0)))⟩, []⟩]) (.cond (.tmp 34) (.ops [35, 36, 37, 38, 7] [⟨⟨(some 35), none, (.mv (.tmp 7))⟩, []⟩, ⟨⟨(some 36), none, (.mv (.tmp 8))⟩, []⟩, ⟨⟨(some 37), none, (.bslice 3 1 [(.int .i64 0)] [⟨0, ⟨1, (.tmp 36)⟩⟩])⟩, []⟩, ⟨⟨(some 38), none, (.append 3 1 8 (.tmp 35) (.tmp 37))⟩, []⟩, ⟨⟨(some 7), none, (.asg (.tmp 38))⟩, []⟩]) .skip)) (.seq (.ops [39, 6] [⟨⟨(some 39), none, (.mv (.tmp 7))⟩, []⟩, ⟨⟨(some 6), none, (.asg (.tmp 39))⟩, []⟩]) .ret))))))⟩
theorem f_rRuns : (envOf Tryz.prog noCut noMemo).F 32 = some c_rRuns := by kernel_rfl
noncomputable def c_rRise : CFunc := ⟨36, [(.tmp 6)], (.seq (.ops [6] [⟨⟨(some 6), none, (.asg (.const (.bool false)))⟩, []⟩]) (.seq (.seq (.ops [7] [⟨⟨(some 7), none, (.asg (.const (.int .i64 1)))⟩, []⟩]) (.block 0 (.loop (.seq (.seq (.ops [8, 9, 10, 11] [⟨⟨(some 8), none, (.mv (.tmp 7))⟩, []⟩, ⟨⟨(some 9), none, (.mv (.tmp 2))⟩, []⟩, ⟨⟨(some 10), none, (.lenSl (.tmp 9))⟩, []⟩, ⟨⟨(some 11), none, (.bin .lss 3 (.tmp 8) (.tmp 10))⟩, []⟩]) (.cond (.tmp 11) .skip (.exit 0))) (.seq (.block 1 (.seq (.ops [14, 15, 16, 17, 18, 19, 20, 21, 22, 23, 24, 25, 26, 27, 28, 29, 30, 31, 32, 33, 34, 35] [⟨⟨(some 14), none, (.mv (.tmp 0))⟩, []⟩, ⟨⟨(some 15), none, (.mv (.tmp 1))⟩, []⟩, ⟨⟨(some 16), none, (.mv (.tmp 2))⟩, []⟩, ⟨⟨(some 17), none, (.mv (.tmp 7))⟩, []⟩, ⟨⟨(some 18), none, (.bin .sub 3 (.tmp 17) (.const (.int .i64 1)))⟩, []⟩, ⟨⟨(some 19), none, (.idxSl 1 (.tmp 16) (.tmp 18))⟩, []⟩, ⟨⟨(some 20), none, (.load1 (.tmp 19))⟩, []⟩, ⟨⟨(some 21), none, (.idxSl 1 (.tmp 15) (.tmp 20))⟩, []⟩, ⟨⟨(some 22), none, (.load1 (.tmp 21))⟩, []⟩, ⟨⟨(some 23), none, (.idxSl 1 (.tmp 14) (.tmp 22))⟩, []⟩, ⟨⟨(some 24), none, (.load1 (.tmp 23))⟩, []⟩, ⟨⟨(some 25), none, (.mv (.tmp 0))⟩, []⟩, ⟨⟨(some 26), none, (.mv (.tmp 1))⟩, []⟩, ⟨⟨(some 27), none, (.mv (.tmp 2))⟩, []⟩, ⟨⟨(some 28), none, (.mv (.tmp 7))⟩, []⟩, ⟨⟨(some 29), none, (.idxSl 1 (.tmp 27) (.tmp 28))⟩, []⟩, ⟨⟨(some 30), none, (.load1 (.tmp 29))⟩, []⟩, ⟨⟨(some 31), none, (.idxSl 1 (.tmp 26) (.tmp 30))⟩, []⟩, ⟨⟨(some 32), none, (.load1 (.tmp 31))⟩, []⟩, ⟨⟨(some 33), none, (.idxSl 1 (.tmp 25) (.tmp 32))⟩, []⟩, ⟨⟨(some 34), none, (.load1 (.tmp 33))⟩, []⟩, ⟨⟨(some 35), none, (.bin .geq 3 (.tmp 24) (.tmp 34))⟩, []⟩]) (.cond (.tmp 35) (.seq (.ops [6] [⟨⟨(some 6), none, (.asg (.const (.bool false)))⟩, []⟩]) .ret) .skip))) (.ops [12, 13, 7] [⟨⟨(some 12), none, (.mv (.tmp 7))⟩, []⟩, ⟨⟨(some 13), none, (.bin .add 3 (.tmp 12) (.const (.int .i64 1)))⟩, []⟩, ⟨⟨(some 7), none, (.asg (.tmp 13))⟩, []⟩])))))) (.seq (.ops [6] [⟨⟨(some 6), none, (.asg (.const (.bool true)))⟩, []⟩]) .ret)))⟩
theorem f_rRise : (envOf Tryz.prog noCut noMemo).F 109 = some c_rRise := by kernel_rfl
noncomputable def c_rApart : CFunc := ⟨19, [(.tmp 6)], (.seq (.ops [6] [⟨⟨(some 6), none, (.asg (.const (.bool false)))⟩, []⟩]) (.seq (.ops [7, 8, 9, 10, 11, 12, 13, 14, 15, 16, 17, 18, 6] [⟨⟨(some 7), none, (.mv (.tmp 0))⟩, []⟩, ⟨⟨(some 8), none, (.mv (.tmp 1))⟩, []⟩, ⟨⟨(some 9), none, (.bin .sub 3 (.tmp 7) (.tmp 8))⟩, []⟩, ⟨⟨(some 10), none, (.mv (.tmp 2))⟩, []⟩, ⟨⟨(some 11), none, (.bin .geq 3 (.tmp 9) (.tmp 10))⟩, []⟩, ⟨⟨(some 12), none, (.mv (.tmp 11))⟩, []⟩, ⟨⟨(some 13), (some ⟨12, false⟩), (.mv (.tmp 1))⟩, []⟩, ⟨⟨(some 14), (some ⟨12, false⟩), (.mv (.tmp 0))⟩, []⟩, ⟨⟨(some 15), (some ⟨12, false⟩), (.bin .sub 3 (.tmp 13) (.tmp 14))⟩, []⟩, ⟨⟨(some 16), (some ⟨12, false⟩), (.mv (.tmp 2))⟩, []⟩, ⟨⟨(some 17), (some ⟨12, false⟩), (.bin .geq 3 (.tmp 15) (.tmp 16))⟩, []⟩, ⟨⟨(some 18), none, (.pick (.tmp 12) (.const (.bool true)) (.tmp 17))⟩, []⟩, ⟨⟨(some 6), none, (.asg (.tmp 18))⟩, []⟩]) .ret))⟩
theorem f_rApart : (envOf Tryz.prog noCut noMemo).F 110 = some c_rApart := by kernel_rfl
noncomputable def c_rSame : CFunc := ⟨26, [(.tmp 4)], (.seq (.ops [4] [⟨⟨(some 4), none, (.asg (.const (.bool false)))⟩, []⟩]) (.seq (.seq (.ops [6, 7, 8, 9, 10] [⟨⟨(some 6), none, (.mv (.tmp 0))⟩, []⟩, ⟨⟨(some 7), none, (.lenSl (.tmp 6))⟩, []⟩, ⟨⟨(some 8), none, (.mv (.tmp 1))⟩, []⟩, ⟨⟨(some 9), none, (.lenSl (.tmp 8))⟩, []⟩, ⟨⟨(some 10), none, (.bin .neq 3 (.tmp 7) (.tmp 9))⟩, []⟩]) (.cond (.tmp 10) (.seq (.ops [4] [⟨⟨(some 4), none, (.asg (.const (.bool false)))⟩, []⟩]) .ret) .skip)) (.seq (.seq (.ops [5] [⟨⟨(some 5), none, (.asg (.const (.int .i64 0)))⟩, []⟩]) (.block 0 (.loop (.seq (.seq (.ops [11, 12, 13, 14] [⟨⟨(some 11), none, (.mv (.tmp 5))⟩, []⟩, ⟨⟨(some 12), none, (.mv (.tmp 0))⟩, []⟩, ⟨⟨(some 13), none, (.lenSl (.tmp 12))⟩, []⟩, ⟨⟨(some 14), none, (.bin .lss 3 (.tmp 11) (.tmp 13))⟩, []⟩]) (.cond (.tmp 14) .skip (.exit 0))) (.seq (.block 1 (.seq (.ops [17, 18, 19, 20, 21, 22, 23, 24, 25] [⟨⟨(some 17), none, (.mv (.tmp 0))⟩, []⟩, ⟨⟨(some 18), none, (.mv (.tmp 5))⟩, []⟩, ⟨⟨(some 19), none, (.idxSl 1 (.tmp 17) (.tmp 18))⟩, []⟩, ⟨⟨(some 20), none, (.load1 (.tmp 19))⟩, []⟩, ⟨⟨(some 21), none, (.mv (.tmp 1))⟩, []⟩, ⟨⟨(some 22), none, (.mv (.tmp 5))⟩, []⟩, ⟨⟨(some 23), none, (.idxSl 1 (.tmp 21) (.tmp 22))⟩, []⟩, ⟨⟨(some 24), none, (.load1 (.tmp 23))⟩, []⟩, ⟨⟨(some 25), none, (.bin .neq 3 (.tmp 20) (.tmp 24))⟩, []⟩]) (.cond (.tmp 25) (.seq (.ops [4] [⟨⟨(some 4), none, (.asg (.const (.bool false)))⟩, []⟩]) .ret) .skip))) (.ops [15, 16, 5] [⟨⟨(some 15), none, (.mv (.tmp 5))⟩, []⟩, ⟨⟨(some 16), none, (.bin .add 3 (.tmp 15) (.const (.int .i64 1)))⟩, []⟩, ⟨⟨(some 5), none, (.asg (.tmp 16))⟩, []⟩])))))) (.seq (.ops [4] [⟨⟨(some 4), none, (.asg (.const (.bool true)))⟩, []⟩]) .ret))))⟩
theorem f_rSame : (envOf Tryz.prog noCut noMemo).F 19 = some c_rSame := by kernel_rfl
noncomputable def c_rConnd : CFunc := ⟨20, [(.tmp 4)], (.seq (.ops [4] [⟨⟨(some 4), none, (.asg (.const (.bool false)))⟩, []⟩]) (.seq (.ops [8, 9, 10, 7, 11, 12, 5, 6] [⟨⟨(some 8), none, (.mv (.tmp 0))⟩, []⟩, ⟨⟨(some 9), none, (.mv (.tmp 1))⟩, []⟩, ⟨⟨(some 10), none, (.call (.func 136) [(.tmp 8), (.tmp 9)])⟩, []⟩, ⟨⟨(some 7), none, (.mv (.tmp 10))⟩, []⟩, ⟨⟨(some 11), none, (.extract (.tmp 7) 0)⟩, []⟩, ⟨⟨(some 12), none, (.extract (.tmp 7) 1)⟩, []⟩, ⟨⟨(some 5), none, (.asg (.tmp 11))⟩, []⟩, ⟨⟨(some 6), none, (.asg (.tmp 12))⟩, []⟩]) (.seq (.ops [13, 14, 15, 16, 17, 18, 19, 4] [⟨⟨(some 13), none, (.mv (.tmp 6))⟩, []⟩, ⟨⟨(some 14), none, (.bin .eql 40 (.tmp 13) (.const (.int .i64 0)))⟩, []⟩, ⟨⟨(some 15), none, (.mv (.tmp 14))⟩, []⟩, ⟨⟨(some 16), (some ⟨15, true⟩), (.mv (.tmp 5))⟩, []⟩, ⟨⟨(some 17), (some ⟨15, true⟩), (.lenSl (.tmp 16))⟩, []⟩, ⟨⟨(some 18), (some ⟨15, true⟩), (.bin .leq 3 (.tmp 17) (.const (.int .i64 1)))⟩, []⟩, ⟨⟨(some 19), none, (.pick (.tmp 15) (.tmp 18) (.const (.bool false)))⟩, []⟩, ⟨⟨(some 4), none, (.asg (.tmp 19))⟩, []⟩]) .ret)))⟩
theorem f_rConnd : (envOf Tryz.prog noCut noMemo).F 93 = some c_rConnd := by kernel_rfl
noncomputable def c_rLoop : CFunc := ⟨35, [(.tmp 4)], (.seq (.ops [4] [⟨⟨(some 4), none, (.asg (.const (.bool false)))⟩, []⟩]) (.seq (.ops [10, 11, 12, 9, 13, 14, 5, 6] [⟨⟨(some 10), none, (.mv (.tmp 0))⟩, []⟩, ⟨⟨(some 11), none, (.mv (.tmp 1))⟩, []⟩, ⟨⟨(some 12), none, (.call (.func 136) [(.tmp 10), (.tmp 11)])⟩, []⟩, ⟨⟨(some 9), none, (.mv (.tmp 12))⟩, []⟩, ⟨⟨(some 13), none, (.extract (.tmp 9) 0)⟩, []⟩, ⟨⟨(some 14), none, (.extract (.tmp 9) 1)⟩, []⟩, ⟨⟨(some 5), none, (.asg (.tmp 13))⟩, []⟩, ⟨⟨(some 6), none, (.asg (.tmp 14))⟩, []⟩]) (.seq (.ops [16, 17, 18, 15, 19, 20, 7, 8] [⟨⟨(some 16), none, (.mv (.tmp 0))⟩, []⟩, ⟨⟨(some 17), none, (.mv (.tmp 1))⟩, []⟩, ⟨⟨(some 18), none, (.call (.func 137) [(.tmp 16), (.tmp 17)])⟩, []⟩, ⟨⟨(some 15), none, (.mv (.tmp 18))⟩, []⟩, ⟨⟨(some 19), none, (.extract (.tmp 15) 0)⟩, []⟩, ⟨⟨(some 20), none, (.extract (.tmp 15) 1)⟩, []⟩, ⟨⟨(some 7), none, (.asg (.tmp 19))⟩, []⟩, ⟨⟨(some 8), none, (.asg (.tmp 20))⟩, []⟩]) (.seq (.ops [21, 22, 23, 24, 25, 26, 27, 28, 29, 30, 31, 32, 33, 34, 4] [⟨⟨(some 21), none, (.mv (.tmp 6))⟩, []⟩, ⟨⟨(some 22), none, (.bin .eql 40 (.tmp 21) (.const (.int .i64 0)))⟩, []⟩, ⟨⟨(some 23), none, (.mv (.tmp 22))⟩, []⟩, ⟨⟨(some 24), (some ⟨23, true⟩), (.mv (.tmp 8))⟩, []⟩, ⟨⟨(some 25), (some ⟨23, true⟩), (.bin .eql 40 (.tmp 24) (.const (.int .i64 0)))⟩, []⟩, ⟨⟨(some 26), none, (.pick (.tmp 23) (.tmp 25) (.const (.bool false)))⟩, []⟩, ⟨⟨(some 27), none, (.mv (.tmp 26))⟩, []⟩, ⟨⟨(some 28), (some ⟨27, true⟩), (.mv (.tmp 5))⟩, []⟩, ⟨⟨(some 29), (some ⟨27, true⟩), (.lenSl (.tmp 28))⟩, []⟩, ⟨⟨(some 30), (some ⟨27, true⟩), (.bin .eql 3 (.tmp 29) (.const (.int .i64 0)))⟩, []⟩, ⟨⟨(some 31), (some ⟨27, true⟩), (.mv (.tmp 30))⟩, []⟩, ⟨⟨(some 32), (some ⟨31, false⟩), (.mv (.tmp 7))⟩, []⟩, ⟨⟨(some 33), (some ⟨27, true⟩), (.pick (.tmp 31) (.const (.bool true)) (.tmp 32))⟩, []⟩, ⟨⟨(some 34), none, (.pick (.tmp 27) (.tmp 33) (.const (.bool false)))⟩, []⟩, ⟨⟨(some 4), none, (.asg (.tmp 34))⟩, []⟩]) .ret))))⟩
theorem f_rLoop : (envOf Tryz.prog noCut noMemo).F 95 = some c_rLoop := by kernel_rfl

theorem rFin_ok {vg : Value} {cells symbols : Int} {grid : List Int} (hl : grid.length < 9223372036854775808) :
    FnC Tryz.prog (.func 42) [.int .i64 cells, .int .i64 symbols, vg] [] [] [fSl intE vg grid] (fun b : Bool => .bool b) (fun _ => []) (fun _ => []) (fun b => (b = true ↔ Fin cells symbols grid)) := by
  refine q_beg c_rFin f_rFin fun B w0 => ?_
  refine go ?_
  refine if_d rfl (fun h1 => ?_) (fun h1 => ?_)
  · refine go ?_
    exact q_fin false (hv := rfl) (hp := ⟨(fun h => by cases h), fun h => absurd h.1 h1⟩)
  refine go ?_
  refine q_loop (fun k => grid.length - k) (fun k : Nat => [(7, .int .i64 (k : Int))]) (fun _ => []) (fun _ => []) (fun k => k ≤ grid.length ∧ ∀ s ∈ grid.take k, 0 ≤ s ∧ s < symbols) 0 ⟨Nat.zero_le _, by simp⟩ (body := ?_)
  rintro k ⟨hk, hall⟩
  refine go ?_
  refine if_d rfl (fun h2 => ?_) (fun h2 => ?_)
  · refine go ?_
    intro _ _ x hx
    have hxm := List.mem_of_getElem? hx
    refine go ?_
    first | with_reducible refine g_d (fun h3 => ?_) (fun h3 => ?_) | with_reducible refine g_n (fun h3 => ?_) (fun h3 => ?_) | with_reducible refine g_b (fun h3 => ?_) (fun h3 => ?_)
    rotate_left
    · refine go ?_
      exact q_fin false (hv := rfl) (hp := ⟨(fun h => by cases h), fun h => by have := h.2 x hxm; omega⟩)
    refine go ?_
    intro _ _ x' hx'
    cases hx.symm.trans hx'
    refine go ?_
    refine if_d rfl (fun h4 => ?_) (fun h4 => ?_)
    · refine go ?_
      exact q_fin false (hv := rfl) (hp := ⟨(fun h => by cases h), fun h => by have := h.2 x hxm; omega⟩)
    refine go ?_
    refine q_again (k + 1) (by omega) ⟨by omega, fun s hs => ?_⟩
    rw [take_one hx, List.mem_append] at hs
    rcases hs with hs | hs
    · exact hall s hs
    · rw [List.mem_singleton.1 hs]; omega
  have hkl : k = grid.length := by omega
  subst hkl
  rw [List.take_length] at hall
  refine go ?_
  exact q_fin true (hv := rfl) (hp := ⟨fun _ => ⟨by omega, hall⟩, fun _ => rfl⟩)

theorem rDiff_ok {vg vc : Value} {grid cells : List Int} (hg : GridOK grid) (hc : CellsOK grid cells) : FnP Tryz.prog 106 [vg, vc] [fSl intE vg grid, fSl intE vc cells] (.bool (dif grid cells)) := by
  refine q_beg c_rDiff f_rDiff fun B w0 => ?_
  have hcl := hc.len
  have hgl := hg.len
  refine go ?_
  refine q_loop (fun k => cells.length - k) (fun k : Nat => [(5, .int .i64 (k : Int))]) (fun _ => []) (fun _ => []) (fun k => k ≤ cells.length ∧ ((cells.take k).map (sy grid)).Nodup) 0 ⟨Nat.zero_le _, by simp⟩ (body := ?_)
  rintro k ⟨hk, hnd⟩
  refine go ?_
  refine if_d rfl (fun h1 => ?_) (fun h1 => ?_)
  · have hck : cells[k]? = some (cells[k]'(by omega)) := List.getElem?_eq_getElem _
    generalize cells[k]'(by omega) = c at hck
    have hcc := hc.cell c (List.mem_of_getElem? hck)
    obtain ⟨c, rfl⟩ := Int.eq_ofNat_of_zero_le hcc.1
    have hcg : grid[c]? = some (grid[c]'(by omega)) := List.getElem?_eq_getElem _
    generalize grid[c]'(by omega) = x at hcg
    have hxx := hg.sym x (List.mem_of_getElem? hcg)
    obtain ⟨x, rfl⟩ := Int.eq_ofNat_of_zero_le hxx.1
    have hmap : (cells.take (k + 1)).map (sy grid) = (cells.take k).map (sy grid) ++ [x] := by rw [take_one hck, List.map_append]; simp [sy_of hcg]
    refine go ?_
    refine q_loop (fun j => k - j) (fun j : Nat => [(6, .int .i64 (j : Int))]) (fun _ => []) (fun _ => []) (fun j => j ≤ k ∧ x ∉ (cells.take j).map (sy grid)) 0 ⟨Nat.zero_le _, by simp⟩ (body := ?_)
    rintro j ⟨hj, hno⟩
    refine go ?_
    refine if_d rfl (fun h2 => ?_) (fun h2 => ?_)
    · refine go ?_
      intro _ _ c' hc'
      cases hck.symm.trans hc'
      refine go ?_
      intro _ _ x' hx'
      cases hcg.symm.trans hx'
      refine go ?_
      intro _ _ d hd
      have hdd := hc.cell d (List.mem_of_getElem? hd)
      obtain ⟨d, rfl⟩ := Int.eq_ofNat_of_zero_le hdd.1
      refine go ?_
      intro _ _ y hy
      have hyy := hg.sym y (List.mem_of_getElem? hy)
      obtain ⟨y, rfl⟩ := Int.eq_ofNat_of_zero_le hyy.1
      have hmj : (cells.take (j + 1)).map (sy grid) = (cells.take j).map (sy grid) ++ [y] := by rw [take_one hd, List.map_append]; simp [sy_of hy]
      refine go ?_
      refine if_d rfl (fun h3 => ?_) (fun h3 => ?_)
      · refine go ?_
        refine q_fin () (hv := ?_) (hp := trivial)
        have : dif grid cells = false := by
          refine decide_eq_false fun hall => ?_
          have h4 : ((cells.take (k + 1)).map (sy grid)).Nodup := List.Nodup.sublist (List.Sublist.map _ (List.take_sublist _ _)) hall
          rw [hmap, List.nodup_append] at h4
          have hm : y ∈ (cells.take k).map (sy grid) := by
            refine List.mem_map.2 ⟨(d : Int), List.mem_take_iff_getElem.2 ⟨j, by have := (List.getElem?_eq_some_iff.1 hd).1; omega, (List.getElem?_eq_some_iff.1 hd).2⟩, sy_of hy⟩
          exact h4.2.2 y hm x (by simp) (by omega)
        rw [this]; rfl
      refine go ?_
      refine q_again (j + 1) (by omega) ⟨by omega, ?_⟩
      rw [hmj, List.mem_append, not_or]
      exact ⟨hno, by simp; omega⟩
    have hjk : j = k := by omega
    subst hjk
    refine go ?_
    refine q_again (j + 1) (by omega) ⟨by omega, ?_⟩
    rw [hmap, List.nodup_append]
    exact ⟨hnd, by simp, by rintro a ha b hb rfl; simp at hb; subst hb; exact hno ha⟩
  have hkl : k = cells.length := by omega
  subst hkl
  rw [List.take_length] at hnd
  refine go ?_
  refine q_fin () (hv := ?_) (hp := trivial)
  rw [dif, decide_eq_true hnd]; rfl

theorem rCount_ok {vg vc : Value} {grid cells : List Int} {set : Nat} (hg : GridOK grid) (hc : CellsOK grid cells) (hs : set < 9223372036854775808) :
    FnP Tryz.prog 107 [vg, vc, .int .i64 (set : Int)] [fSl intE vg grid, fSl intE vc cells] (.int .i64 (cnt grid set cells : Int)) := by
  refine q_beg c_rCount f_rCount fun B w0 => ?_
  have hcl := hc.len
  have hgl := hg.len
  refine go ?_
  refine q_loop (fun k => cells.length - k) (fun k : Nat => [(8, .int .i64 (k : Int)), (7, .int .i64 (cnt grid set (cells.take k) : Int))]) (fun _ => []) (fun _ => []) (fun k => k ≤ cells.length ∧ cnt grid set (cells.take k) ≤ k) 0 ⟨by omega, by simp [cnt]⟩ (body := ?_)
  rintro k ⟨hk, hn⟩
  refine go ?_
  refine if_d rfl (fun h1 => ?_) (fun h1 => ?_)
  · refine go ?_
    intro _ _ c hck
    have hcc := hc.cell c (List.mem_of_getElem? hck)
    obtain ⟨c, rfl⟩ := Int.eq_ofNat_of_zero_le hcc.1
    refine go ?_
    intro _ _ x hx
    have hxx := hg.sym x (List.mem_of_getElem? hx)
    obtain ⟨x, rfl⟩ := Int.eq_ofNat_of_zero_le hxx.1
    refine q_call (rIn_ok (set := set) (sym := x) hs (by omega)) (next := fun _ _ => ?_)
    have hstep : cnt grid set (cells.take (k + 1)) = cnt grid set (cells.take k) + if set.testBit x then 1 else 0 := by
      rw [cnt, take_one hck, List.filter_append, List.length_append, ← cnt]
      congr 1
      simp only [List.filter_cons, List.filter_nil, sy_of hx]
      split <;> rfl
    refine go ?_
    refine if_b rfl (fun h2 => ?_) (fun h2 => ?_)
    · rw [if_pos h2] at hstep
      refine go ?_
      exact q_again (k + 1) (by omega) ⟨by omega, by omega⟩ (hl := ⟨rfl, by rw [hstep]; rfl, by repeat (first | exact trivial | refine ⟨rfl, ?_⟩)⟩)
    · rw [if_neg (by rw [h2]; simp)] at hstep
      refine go ?_
      exact q_again (k + 1) (by omega) ⟨by omega, by omega⟩ (hl := ⟨rfl, by rw [hstep]; rfl, by repeat (first | exact trivial | refine ⟨rfl, ?_⟩)⟩)
  refine go ?_
  have : k = cells.length := by omega
  subst this
  refine q_fin () (hv := ?_) (hp := trivial)
  rw [List.take_length]; rfl

theorem rSum_ok {vv vg vc : Value} {values grid cells : List Int} (hg : GridOK grid) (hc : CellsOK grid cells) (hv : ValsOK values grid) :
    FnP Tryz.prog 108 [vv, vg, vc] [fSl intE vv values, fSl intE vg grid, fSl intE vc cells] (.int .i64 (smm values grid cells)) := by
  refine q_beg c_rSum f_rSum fun B w0 => ?_
  have hcl := hc.len
  have hgl := hg.len
  refine go ?_
  refine q_loop (fun k => cells.length - k) (fun k : Nat => [(8, .int .i64 (k : Int)), (7, .int .i64 (smm values grid (cells.take k)))]) (fun _ => []) (fun _ => []) (fun k => k ≤ cells.length ∧ 0 ≤ smm values grid (cells.take k) ∧ smm values grid (cells.take k) ≤ 99 * k) 0 ⟨by omega, by simp [smm], by simp [smm]⟩ (body := ?_)
  rintro k ⟨hk, hn0, hn⟩
  refine go ?_
  refine if_d rfl (fun h1 => ?_) (fun h1 => ?_)
  · refine go ?_
    intro _ _ c hck
    have hcc := hc.cell c (List.mem_of_getElem? hck)
    obtain ⟨c, rfl⟩ := Int.eq_ofNat_of_zero_le hcc.1
    refine go ?_
    intro _ _ x hx
    have hxx := hg.sym x (List.mem_of_getElem? hx)
    have hxv := hv.sym x (List.mem_of_getElem? hx)
    obtain ⟨x, rfl⟩ := Int.eq_ofNat_of_zero_le hxx.1
    refine go ?_
    intro _ _ v hvx
    have hvv := hv.val v (List.mem_of_getElem? hvx)
    have hstep : smm values grid (cells.take (k + 1)) = smm values grid (cells.take k) + v := by
      rw [smm, take_one hck, List.map_append, List.sum_append, ← smm]
      simp [va_of hx hvx]
    refine go ?_
    exact q_again (k + 1) (by omega) ⟨by omega, by omega, by omega⟩ (hl := ⟨rfl, by rw [hstep]; rfl, by repeat (first | exact trivial | refine ⟨rfl, ?_⟩)⟩)
  refine go ?_
  have : k = cells.length := by omega
  subst this
  refine q_fin () (hv := ?_) (hp := trivial)
  rw [List.take_length]; rfl

theorem rApart_ok {a b n : Int} (ha : 0 ≤ a ∧ a ≤ 1000) (hb : 0 ≤ b ∧ b ≤ 1000) : FnP Tryz.prog 110 [.int .i64 a, .int .i64 b, .int .i64 n] [] (.bool (decide (n ≤ max (a - b) (b - a)))) := by
  refine q_beg c_rApart f_rApart fun B w0 => ?_
  refine go ?_
  first | with_reducible refine g_d (fun h1 => ?_) (fun h1 => ?_) | with_reducible refine g_n (fun h1 => ?_) (fun h1 => ?_) | with_reducible refine g_b (fun h1 => ?_) (fun h1 => ?_)
  · refine go ?_
    refine q_fin () (hv := ?_) (hp := trivial)
    rw [show decide (n ≤ max (a - b) (b - a)) = decide (n ≤ b - a) from decide_eq_decide.2 (by omega)]; rfl
  refine go ?_
  refine q_fin () (hv := ?_) (hp := trivial)
  rw [decide_eq_true (show n ≤ max (a - b) (b - a) by omega)]; rfl

theorem rSame_ok {va vb : Value} {xs ys : List Int} (hal : xs.length < 9223372036854775808) : FnP Tryz.prog 19 [va, vb] [fSl intE va xs, fSl intE vb ys] (.bool (decide (xs = ys))) := by
  refine q_beg c_rSame f_rSame fun B w0 => ?_
  refine go ?_
  refine if_d rfl (fun h1 => ?_) (fun h1 => ?_)
  · refine go ?_
    refine q_fin () (hv := ?_) (hp := trivial)
    rw [decide_eq_false (fun e => h1 (by rw [e]))]; rfl
  have hlen : xs.length = ys.length := by omega
  refine go ?_
  refine q_loop (fun k => xs.length - k) (fun k : Nat => [(5, .int .i64 (k : Int))]) (fun _ => []) (fun _ => []) (fun k => k ≤ xs.length ∧ ∀ j, j < k → xs[j]? = ys[j]?) 0 ⟨by omega, fun j hj => by omega⟩ (body := ?_)
  rintro k ⟨hkx, hsame⟩
  refine go ?_
  refine if_d rfl (fun h2 => ?_) (fun h2 => ?_)
  · refine go ?_
    intro _ _ x hx _ _ y hy
    refine go ?_
    refine if_d rfl (fun h3 => ?_) (fun h3 => ?_)
    · refine go ?_
      refine q_fin () (hv := ?_) (hp := trivial)
      rw [decide_eq_false (fun e => h3 (by rw [e, hy] at hx; cases hx; rfl))]; rfl
    refine go ?_
    refine q_again (k + 1) (by omega) ⟨by omega, fun j hj => ?_⟩
    by_cases e : j = k
    · subst e; rw [hx, hy, Decidable.not_not.1 h3]
    · exact hsame j (by omega)
  refine go ?_
  refine q_fin () (hv := ?_) (hp := trivial)
  have : xs = ys := by
    apply List.ext_getElem?
    intro j
    by_cases hj : j < k
    · exact hsame j hj
    · rw [List.getElem?_eq_none (by omega), List.getElem?_eq_none (by omega)]
  rw [decide_eq_true this]; rfl

theorem rConnd_ok {vn vin : Value} {nbs : List (List Int)} {inn : List Bool} (hG : GOK nbs) (hll : ∀ l ∈ nbs, l.length < 9223372036854775808) (hin : inn.length = nbs.length) :
    FnP Tryz.prog 93 [vn, vin] [fSl (slE intE) vn nbs, fSl boolE vin inn] (.bool (joinB nbs inn false)) := by
  refine q_beg c_rConnd f_rConnd fun B w0 => ?_
  refine go ?_
  refine q_call (rComps_ok (g := nbs) (inn := inn) hll) (next := fun y hy => ?_)
  obtain ⟨a, n, e⟩ := y
  have he : e = 0 := hy.1.2 ⟨hG, hin⟩
  subst he
  have hn := hy.2 rfl
  dsimp only at hn
  refine go ?_
  refine q_fin () (hv := ?_) (hp := trivial)
  rw [joinB, if_neg (by simp), ← hn]
  show Value.bool (decide ((n : Int) ≤ 1)) = _
  rw [show decide ((n : Int) ≤ 1) = decide (n ≤ 1) from decide_eq_decide.2 (by omega)]

theorem rLoop_ok {vn vin : Value} {nbs : List (List Int)} {inn : List Bool} (hG : GOK nbs) (hll : ∀ l ∈ nbs, l.length < 9223372036854775808) (hin : inn.length = nbs.length) :
    FnP Tryz.prog 95 [vn, vin] [fSl (slE intE) vn nbs, fSl boolE vin inn] (.bool (joinB nbs inn true)) := by
  refine q_beg c_rLoop f_rLoop fun B w0 => ?_
  refine go ?_
  refine q_call (rComps_ok (g := nbs) (inn := inn) hll) (next := fun y hy => ?_)
  obtain ⟨a, n, e⟩ := y
  have he : e = 0 := hy.1.2 ⟨hG, hin⟩
  subst he
  have hn := hy.2 rfl
  dsimp only at hn
  refine go ?_
  refine q_call (rRing_ok (g := nbs) (inn := inn) hll) (next := fun z hz => ?_)
  obtain ⟨r, e⟩ := z
  have he : e = 0 := hz.1.2 ⟨hG, hin⟩
  subst he
  have hr := hz.2 rfl
  dsimp only at hr
  subst hr
  refine go ?_
  by_cases hn0 : n = 0
  · rw [decide_eq_true (show (n : Int) = 0 by omega)]
    refine go ?_
    refine q_fin () (hv := ?_) (hp := trivial)
    rw [joinB, if_neg (by rw [← hn]; exact fun h => h.2 hn0), ← hn, decide_eq_true (show n ≤ 1 by omega)]; rfl
  · rw [decide_eq_false (show ¬ (n : Int) = 0 by omega)]
    refine go ?_
    refine q_fin () (hv := ?_) (hp := trivial)
    rw [joinB, if_pos ⟨rfl, by rw [← hn]; exact hn0⟩]; rfl
end Go.Proofs.YtpkieeggilkagaaGreat

/-
  Puzzles compared.
-/
import Derived.Test.YtoilpafpgndilaaGreatClue
set_option linter.unusedSimpArgs false
set_option linter.unusedVariables false
set_option maxHeartbeats 1000000
namespace Go.Proofs.YtoilpafpgndilaaGreat
open Go.Ideal Canon

noncomputable def c_cmpF : CFunc := ⟨39, [(.tmp 6)], (.seq (.ops [6] [⟨⟨(some 6), none, (.asg (.const (.int .i64 0)))⟩, []⟩]) (.seq (.seq (.ops [11, 12, 13] [⟨⟨(some 11), none, (.mv (.tmp 0))⟩, []⟩, ⟨⟨(some 12), none, (.lenSl (.tmp 11))⟩, []⟩, ⟨⟨(some 13), none, (.mv (.const (.int .i64 0)))⟩, []⟩]) (.block 0 (.loop (.seq (.ops [14] [⟨⟨(some 14), none, (.bin .lss 3 (.tmp 13) (.tmp 12))⟩, []⟩]) (.seq (.cond (.tmp 14) .skip (.exit 0)) (.seq (.block 1 (.seq (.ops [15, 16, 17, 8, 7] [⟨⟨(some 15), none, (.mv (.tmp 13))⟩, []⟩, ⟨⟨(some 16), none, (.idxSl 3 (.tmp 11) (.tmp 13))⟩, []⟩, ⟨⟨(some 17), none, (.loadN 3 (.tmp 16))⟩, []⟩, ⟨⟨(some 8), none, (.new [(.int .i64 0), (.int .i64 0), (.slice none 0 0)] 76)⟩, []⟩, ⟨⟨(some 7), none, (.asg (.tmp 15))⟩, []⟩, ⟨⟨none, none, (.store 3 (.tmp 8) (.tmp 17))⟩, []⟩]) (.seq (.seq (.ops [18, 19, 20, 21] [⟨⟨(some 18), none, (.mv (.tmp 7))⟩, []⟩, ⟨⟨(some 19), none, (.mv (.tmp 1))⟩, []⟩, ⟨⟨(some 20), none, (.lenSl (.tmp 19))⟩, []⟩, ⟨⟨(some 21), none, (.bin .geq 3 (.tmp 18) (.tmp 20))⟩, []⟩]) (.cond (.tmp 21) (.seq (.ops [6] [⟨⟨(some 6), none, (.asg (.const (.int .i64 1)))⟩, []⟩]) .ret) .skip)) (.seq (.ops [22, 23, 24, 25, 9] [⟨⟨(some 22), none, (.mv (.tmp 1))⟩, []⟩, ⟨⟨(some 23), none, (.mv (.tmp 7))⟩, []⟩, ⟨⟨(some 24), none, (.idxSl 3 (.tmp 22) (.tmp 23))⟩, []⟩, ⟨⟨(some 25), none, (.loadN 3 (.tmp 24))⟩, []⟩, ⟨⟨(some 9), none, (.new [(.int .i64 0), (.int .i64 0), (.slice none 0 0)] 76)⟩, []⟩, ⟨⟨none, none, (.store 3 (.tmp 9) (.tmp 25))⟩, []⟩]) (.seq (.ops [26, 27, 28, 29, 10] [⟨⟨(some 26), none, (.mv (.tmp 2))⟩, []⟩, ⟨⟨(some 27), none, (.loadN 3 (.tmp 8))⟩, []⟩, ⟨⟨(some 28), none, (.loadN 3 (.tmp 9))⟩, []⟩, ⟨⟨(some 29), none, (.call (.tmp 26) [(.tmp 27), (.tmp 28)])⟩, []⟩, ⟨⟨(some 10), none, (.asg (.tmp 29))⟩, []⟩]) (.seq (.ops [30, 31] [⟨⟨(some 30), none, (.mv (.tmp 10))⟩, []⟩, ⟨⟨(some 31), none, (.bin .neq 3 (.tmp 30) (.const (.int .i64 0)))⟩, []⟩]) (.cond (.tmp 31) (.seq (.ops [32, 6] [⟨⟨(some 32), none, (.mv (.tmp 10))⟩, []⟩, ⟨⟨(some 6), none, (.asg (.tmp 32))⟩, []⟩]) .ret) .skip))))))) (.ops [33, 13] [⟨⟨(some 33), none, (.bin .add 3 (.tmp 13) (.const (.int .i64 1)))⟩, []⟩, ⟨⟨(some 13), none, (.mv (.tmp 33))⟩, []⟩]))))))) (.seq (.seq (.ops [34, 35, 36, 37, 38] [⟨⟨(some 34), none, (.mv (.tmp 0))⟩, []⟩, ⟨⟨(some 35), none, (.lenSl (.tmp 34))⟩, []⟩, ⟨⟨(some 36), none, (.mv (.tmp 1))⟩, []⟩, ⟨⟨(some 37), none, (.lenSl (.tmp 36))⟩, []⟩, ⟨⟨(some 38), none, (.bin .lss 3 (.tmp 35) (.tmp 37))⟩, []⟩]) (.cond (.tmp 38) (.seq (.ops [6] [⟨⟨(some 6), none, (.asg (.const (.int .i64 (-1))))⟩, []⟩]) .ret) .skip)) (.seq (.ops [6] [⟨⟨(some 6), none, (.asg (.const (.int .i64 0)))⟩, []⟩]) .ret))))⟩
theorem f_cmpF : (envOf Tryz.prog noCut noMemo).F 32 = some c_cmpF := by kernel_rfl
noncomputable def c_less : CFunc := ⟨11, [(.tmp 4)], (.seq (.ops [2, 3, 4] [⟨⟨(some 2), none, (.box (.tmp 0) 24)⟩, []⟩, ⟨⟨(some 3), none, (.box (.tmp 1) 24)⟩, []⟩, ⟨⟨(some 4), none, (.asg (.const (.bool false)))⟩, []⟩]) (.seq (.ops [5, 6, 7, 8, 9, 10, 4] [⟨⟨(some 5), none, (.fieldA 0 (.tmp 2))⟩, []⟩, ⟨⟨(some 6), none, (.load1 (.tmp 5))⟩, []⟩, ⟨⟨(some 7), none, (.fieldA 0 (.tmp 3))⟩, []⟩, ⟨⟨(some 8), none, (.load1 (.tmp 7))⟩, []⟩, ⟨⟨(some 9), none, (.call (.func 32) [(.tmp 6), (.tmp 8), (.func 33)])⟩, []⟩, ⟨⟨(some 10), none, (.bin .lss 3 (.tmp 9) (.const (.int .i64 0)))⟩, []⟩, ⟨⟨(some 4), none, (.asg (.tmp 10))⟩, []⟩]) .ret))⟩
theorem f_less : (envOf Tryz.prog noCut noMemo).F 12 = some c_less := by kernel_rfl
noncomputable def c_rLess : CFunc := ⟨43, [(.tmp 4)], (.seq (.ops [2, 3, 4] [⟨⟨(some 2), none, (.box (.tmp 0) 24)⟩, []⟩, ⟨⟨(some 3), none, (.box (.tmp 1) 24)⟩, []⟩, ⟨⟨(some 4), none, (.asg (.const (.bool false)))⟩, []⟩]) (.seq (.seq (.ops [5] [⟨⟨(some 5), none, (.asg (.const (.int .i64 0)))⟩, []⟩]) (.block 0 (.loop (.seq (.seq (.ops [7, 8, 9, 10, 11, 12, 13, 14, 15, 16, 17, 18] [⟨⟨(some 7), none, (.mv (.tmp 5))⟩, []⟩, ⟨⟨(some 8), none, (.fieldA 0 (.tmp 2))⟩, []⟩, ⟨⟨(some 9), none, (.load1 (.tmp 8))⟩, []⟩, ⟨⟨(some 10), none, (.lenSl (.tmp 9))⟩, []⟩, ⟨⟨(some 11), none, (.bin .lss 3 (.tmp 7) (.tmp 10))⟩, []⟩, ⟨⟨(some 12), none, (.mv (.tmp 11))⟩, []⟩, ⟨⟨(some 13), (some ⟨12, true⟩), (.mv (.tmp 5))⟩, []⟩, ⟨⟨(some 14), (some ⟨12, true⟩), (.fieldA 0 (.tmp 3))⟩, []⟩, ⟨⟨(some 15), (some ⟨12, true⟩), (.load1 (.tmp 14))⟩, []⟩, ⟨⟨(some 16), (some ⟨12, true⟩), (.lenSl (.tmp 15))⟩, []⟩, ⟨⟨(some 17), (some ⟨12, true⟩), (.bin .lss 3 (.tmp 13) (.tmp 16))⟩, []⟩, ⟨⟨(some 18), none, (.pick (.tmp 12) (.tmp 17) (.const (.bool false)))⟩, []⟩]) (.cond (.tmp 18) .skip (.exit 0))) (.seq (.block 1 (.seq (.ops [21, 22, 23, 24, 25, 26, 27, 28, 29, 30, 31, 6] [⟨⟨(some 21), none, (.fieldA 0 (.tmp 2))⟩, []⟩, ⟨⟨(some 22), none, (.load1 (.tmp 21))⟩, []⟩, ⟨⟨(some 23), none, (.mv (.tmp 5))⟩, []⟩, ⟨⟨(some 24), none, (.idxSl 3 (.tmp 22) (.tmp 23))⟩, []⟩, ⟨⟨(some 25), none, (.loadN 3 (.tmp 24))⟩, []⟩, ⟨⟨(some 26), none, (.fieldA 0 (.tmp 3))⟩, []⟩, ⟨⟨(some 27), none, (.load1 (.tmp 26))⟩, []⟩, ⟨⟨(some 28), none, (.mv (.tmp 5))⟩, []⟩, ⟨⟨(some 29), none, (.idxSl 3 (.tmp 27) (.tmp 28))⟩, []⟩, ⟨⟨(some 30), none, (.loadN 3 (.tmp 29))⟩, []⟩, ⟨⟨(some 31), none, (.call (.func 34) [(.tmp 25), (.tmp 30)])⟩, []⟩, ⟨⟨(some 6), none, (.asg (.tmp 31))⟩, []⟩]) (.seq (.ops [32, 33] [⟨⟨(some 32), none, (.mv (.tmp 6))⟩, []⟩, ⟨⟨(some 33), none, (.bin .neq 3 (.tmp 32) (.const (.int .i64 0)))⟩, []⟩]) (.cond (.tmp 33) (.seq (.ops [34, 35, 4] [⟨⟨(some 34), none, (.mv (.tmp 6))⟩, []⟩, ⟨⟨(some 35), none, (.bin .lss 3 (.tmp 34) (.const (.int .i64 0)))⟩, []⟩, ⟨⟨(some 4), none, (.asg (.tmp 35))⟩, []⟩]) .ret) .skip)))) (.ops [19, 20, 5] [⟨⟨(some 19), none, (.mv (.tmp 5))⟩, []⟩, ⟨⟨(some 20), none, (.bin .add 3 (.tmp 19) (.const (.int .i64 1)))⟩, []⟩, ⟨⟨(some 5), none, (.asg (.tmp 20))⟩, []⟩])))))) (.seq (.ops [36, 37, 38, 39, 40, 41, 42, 4] [⟨⟨(some 36), none, (.fieldA 0 (.tmp 2))⟩, []⟩, ⟨⟨(some 37), none, (.load1 (.tmp 36))⟩, []⟩, ⟨⟨(some 38), none, (.lenSl (.tmp 37))⟩, []⟩, ⟨⟨(some 39), none, (.fieldA 0 (.tmp 3))⟩, []⟩, ⟨⟨(some 40), none, (.load1 (.tmp 39))⟩, []⟩, ⟨⟨(some 41), none, (.lenSl (.tmp 40))⟩, []⟩, ⟨⟨(some 42), none, (.bin .lss 3 (.tmp 38) (.tmp 41))⟩, []⟩, ⟨⟨(some 4), none, (.asg (.tmp 42))⟩, []⟩]) .ret)))⟩
theorem f_rLess : (envOf Tryz.prog noCut noMemo).F 13 = some c_rLess := by kernel_rfl
noncomputable def c_rPlace : CFunc := ⟨16, [(.tmp 4)], (.seq (.ops [2, 3, 4] [⟨⟨(some 2), none, (.box (.tmp 0) 76)⟩, []⟩, ⟨⟨(some 3), none, (.box (.tmp 1) 76)⟩, []⟩, ⟨⟨(some 4), none, (.asg (.const (.int .i64 0)))⟩, []⟩]) (.seq (.ops [5, 6, 7, 8, 9, 10, 11, 12, 13, 14, 15, 4] [⟨⟨(some 5), none, (.fieldA 0 (.tmp 2))⟩, []⟩, ⟨⟨(some 6), none, (.load1 (.tmp 5))⟩, []⟩, ⟨⟨(some 7), none, (.fieldA 1 (.tmp 2))⟩, []⟩, ⟨⟨(some 8), none, (.load1 (.tmp 7))⟩, []⟩, ⟨⟨(some 9), none, (.bslice 3 2 [(.int .i64 0), (.int .i64 0)] [⟨0, ⟨1, (.tmp 6)⟩⟩, ⟨1, ⟨1, (.tmp 8)⟩⟩])⟩, []⟩, ⟨⟨(some 10), none, (.fieldA 0 (.tmp 3))⟩, []⟩, ⟨⟨(some 11), none, (.load1 (.tmp 10))⟩, []⟩, ⟨⟨(some 12), none, (.fieldA 1 (.tmp 3))⟩, []⟩, ⟨⟨(some 13), none, (.load1 (.tmp 12))⟩, []⟩, ⟨⟨(some 14), none, (.bslice 3 2 [(.int .i64 0), (.int .i64 0)] [⟨0, ⟨1, (.tmp 11)⟩⟩, ⟨1, ⟨1, (.tmp 13)⟩⟩])⟩, []⟩, ⟨⟨(some 15), none, (.call (.func 71) [(.tmp 9), (.tmp 14)])⟩, []⟩, ⟨⟨(some 4), none, (.asg (.tmp 15))⟩, []⟩]) .ret))⟩
theorem f_rPlace : (envOf Tryz.prog noCut noMemo).F 70 = some c_rPlace := by kernel_rfl
noncomputable def c_rSameG : CFunc := ⟨17, [(.tmp 4)], (.seq (.ops [2, 3, 4] [⟨⟨(some 2), none, (.box (.tmp 0) 76)⟩, []⟩, ⟨⟨(some 3), none, (.box (.tmp 1) 76)⟩, []⟩, ⟨⟨(some 4), none, (.asg (.const (.bool false)))⟩, []⟩]) (.seq (.ops [5, 6, 7, 8, 9, 10, 11, 12, 13, 14, 15, 16, 4] [⟨⟨(some 5), none, (.loadN 3 (.tmp 2))⟩, []⟩, ⟨⟨(some 6), none, (.loadN 3 (.tmp 3))⟩, []⟩, ⟨⟨(some 7), none, (.call (.func 70) [(.tmp 5), (.tmp 6)])⟩, []⟩, ⟨⟨(some 8), none, (.bin .eql 3 (.tmp 7) (.const (.int .i64 0)))⟩, []⟩, ⟨⟨(some 9), none, (.mv (.tmp 8))⟩, []⟩, ⟨⟨(some 10), (some ⟨9, true⟩), (.fieldA 2 (.tmp 2))⟩, []⟩, ⟨⟨(some 11), (some ⟨9, true⟩), (.load1 (.tmp 10))⟩, []⟩, ⟨⟨(some 12), (some ⟨9, true⟩), (.fieldA 2 (.tmp 3))⟩, []⟩, ⟨⟨(some 13), (some ⟨9, true⟩), (.load1 (.tmp 12))⟩, []⟩, ⟨⟨(some 14), (some ⟨9, true⟩), (.call (.func 71) [(.tmp 11), (.tmp 13)])⟩, []⟩, ⟨⟨(some 15), (some ⟨9, true⟩), (.bin .eql 3 (.tmp 14) (.const (.int .i64 0)))⟩, []⟩, ⟨⟨(some 16), none, (.pick (.tmp 9) (.tmp 15) (.const (.bool false)))⟩, []⟩, ⟨⟨(some 4), none, (.asg (.tmp 16))⟩, []⟩]) .ret))⟩
theorem f_rSameG : (envOf Tryz.prog noCut noMemo).F 35 = some c_rSameG := by kernel_rfl
noncomputable def c_rSame : CFunc := ⟨32, [(.tmp 4)], (.seq (.ops [2, 3, 4] [⟨⟨(some 2), none, (.box (.tmp 0) 24)⟩, []⟩, ⟨⟨(some 3), none, (.box (.tmp 1) 24)⟩, []⟩, ⟨⟨(some 4), none, (.asg (.const (.bool false)))⟩, []⟩]) (.seq (.seq (.ops [6, 7, 8, 9, 10, 11, 12] [⟨⟨(some 6), none, (.fieldA 0 (.tmp 2))⟩, []⟩, ⟨⟨(some 7), none, (.load1 (.tmp 6))⟩, []⟩, ⟨⟨(some 8), none, (.lenSl (.tmp 7))⟩, []⟩, ⟨⟨(some 9), none, (.fieldA 0 (.tmp 3))⟩, []⟩, ⟨⟨(some 10), none, (.load1 (.tmp 9))⟩, []⟩, ⟨⟨(some 11), none, (.lenSl (.tmp 10))⟩, []⟩, ⟨⟨(some 12), none, (.bin .neq 3 (.tmp 8) (.tmp 11))⟩, []⟩]) (.cond (.tmp 12) (.seq (.ops [4] [⟨⟨(some 4), none, (.asg (.const (.bool false)))⟩, []⟩]) .ret) .skip)) (.seq (.seq (.ops [5] [⟨⟨(some 5), none, (.asg (.const (.int .i64 0)))⟩, []⟩]) (.block 0 (.loop (.seq (.seq (.ops [13, 14, 15, 16, 17] [⟨⟨(some 13), none, (.mv (.tmp 5))⟩, []⟩, ⟨⟨(some 14), none, (.fieldA 0 (.tmp 2))⟩, []⟩, ⟨⟨(some 15), none, (.load1 (.tmp 14))⟩, []⟩, ⟨⟨(some 16), none, (.lenSl (.tmp 15))⟩, []⟩, ⟨⟨(some 17), none, (.bin .lss 3 (.tmp 13) (.tmp 16))⟩, []⟩]) (.cond (.tmp 17) .skip (.exit 0))) (.seq (.block 1 (.seq (.ops [20, 21, 22, 23, 24, 25, 26, 27, 28, 29, 30, 31] [⟨⟨(some 20), none, (.fieldA 0 (.tmp 2))⟩, []⟩, ⟨⟨(some 21), none, (.load1 (.tmp 20))⟩, []⟩, ⟨⟨(some 22), none, (.mv (.tmp 5))⟩, []⟩, ⟨⟨(some 23), none, (.idxSl 3 (.tmp 21) (.tmp 22))⟩, []⟩, ⟨⟨(some 24), none, (.loadN 3 (.tmp 23))⟩, []⟩, ⟨⟨(some 25), none, (.fieldA 0 (.tmp 3))⟩, []⟩, ⟨⟨(some 26), none, (.load1 (.tmp 25))⟩, []⟩, ⟨⟨(some 27), none, (.mv (.tmp 5))⟩, []⟩, ⟨⟨(some 28), none, (.idxSl 3 (.tmp 26) (.tmp 27))⟩, []⟩, ⟨⟨(some 29), none, (.loadN 3 (.tmp 28))⟩, []⟩, ⟨⟨(some 30), none, (.call (.func 35) [(.tmp 24), (.tmp 29)])⟩, []⟩, ⟨⟨(some 31), none, (.un .not (.tmp 30))⟩, []⟩]) (.cond (.tmp 31) (.seq (.ops [4] [⟨⟨(some 4), none, (.asg (.const (.bool false)))⟩, []⟩]) .ret) .skip))) (.ops [18, 19, 5] [⟨⟨(some 18), none, (.mv (.tmp 5))⟩, []⟩, ⟨⟨(some 19), none, (.bin .add 3 (.tmp 18) (.const (.int .i64 1)))⟩, []⟩, ⟨⟨(some 5), none, (.asg (.tmp 19))⟩, []⟩])))))) (.seq (.ops [4] [⟨⟨(some 4), none, (.asg (.const (.bool true)))⟩, []⟩]) .ret))))⟩
theorem f_rSame : (envOf Tryz.prog noCut noMemo).F 14 = some c_rSame := by kernel_rfl
noncomputable def c_fewP : CFunc := ⟨27, [(.tmp 2)], (.seq (.ops [1, 2] [⟨⟨(some 1), none, (.box (.tmp 0) 24)⟩, []⟩, ⟨⟨(some 2), none, (.asg (.const (.bool false)))⟩, []⟩]) (.seq (.seq (.ops [3] [⟨⟨(some 3), none, (.asg (.const (.int .i64 0)))⟩, []⟩]) (.block 0 (.loop (.seq (.seq (.ops [4, 5, 6, 7, 8, 9, 10, 11, 12] [⟨⟨(some 4), none, (.mv (.tmp 3))⟩, []⟩, ⟨⟨(some 5), none, (.fieldA 0 (.tmp 1))⟩, []⟩, ⟨⟨(some 6), none, (.load1 (.tmp 5))⟩, []⟩, ⟨⟨(some 7), none, (.lenSl (.tmp 6))⟩, []⟩, ⟨⟨(some 8), none, (.bin .lss 3 (.tmp 4) (.tmp 7))⟩, []⟩, ⟨⟨(some 9), none, (.mv (.tmp 8))⟩, []⟩, ⟨⟨(some 10), (some ⟨9, true⟩), (.mv (.tmp 3))⟩, []⟩, ⟨⟨(some 11), (some ⟨9, true⟩), (.bin .lss 3 (.tmp 10) (.const (.int .i64 60)))⟩, []⟩, ⟨⟨(some 12), none, (.pick (.tmp 9) (.tmp 11) (.const (.bool false)))⟩, []⟩]) (.cond (.tmp 12) .skip (.exit 0))) (.seq (.block 1 (.seq (.ops [15, 16, 17, 18, 19, 20, 21, 22] [⟨⟨(some 15), none, (.fieldA 0 (.tmp 1))⟩, []⟩, ⟨⟨(some 16), none, (.load1 (.tmp 15))⟩, []⟩, ⟨⟨(some 17), none, (.mv (.tmp 3))⟩, []⟩, ⟨⟨(some 18), none, (.idxSl 3 (.tmp 16) (.tmp 17))⟩, []⟩, ⟨⟨(some 19), none, (.fieldA 2 (.tmp 18))⟩, []⟩, ⟨⟨(some 20), none, (.load1 (.tmp 19))⟩, []⟩, ⟨⟨(some 21), none, (.lenSl (.tmp 20))⟩, []⟩, ⟨⟨(some 22), none, (.bin .gtr 3 (.tmp 21) (.const (.int .i64 20)))⟩, []⟩]) (.cond (.tmp 22) (.seq (.ops [2] [⟨⟨(some 2), none, (.asg (.const (.bool false)))⟩, []⟩]) .ret) .skip))) (.ops [13, 14, 3] [⟨⟨(some 13), none, (.mv (.tmp 3))⟩, []⟩, ⟨⟨(some 14), none, (.bin .add 3 (.tmp 13) (.const (.int .i64 1)))⟩, []⟩, ⟨⟨(some 3), none, (.asg (.tmp 14))⟩, []⟩])))))) (.seq (.ops [23, 24, 25, 26, 2] [⟨⟨(some 23), none, (.fieldA 0 (.tmp 1))⟩, []⟩, ⟨⟨(some 24), none, (.load1 (.tmp 23))⟩, []⟩, ⟨⟨(some 25), none, (.lenSl (.tmp 24))⟩, []⟩, ⟨⟨(some 26), none, (.bin .leq 3 (.tmp 25) (.const (.int .i64 60)))⟩, []⟩, ⟨⟨(some 2), none, (.asg (.tmp 26))⟩, []⟩]) .ret)))⟩
theorem f_fewP : (envOf Tryz.prog noCut noMemo).F 11 = some c_fewP := by kernel_rfl

/-- clues with few numbers -/
def short (l : List Clue) : Prop := ∀ g ∈ l, g.values.length ≤ 1000000

theorem ordc_end {xs ys : List Clue} {k : Nat} (hx : k ≤ xs.length) (hy : k ≤ ys.length) (h : k = xs.length ∨ k = ys.length) :
    ordP (xs.drop k) (ys.drop k) = if xs.length < ys.length then -1 else if ys.length < xs.length then 1 else 0 := by
  rcases h with h | h
  · rw [show xs.drop k = [] from List.drop_eq_nil_of_le (by omega)]
    by_cases e : xs.length < ys.length
    · rw [if_pos e]
      have : k < ys.length := by omega
      rw [List.drop_eq_getElem_cons this]; rfl
    · rw [if_neg e, if_neg (by omega), show ys.drop k = [] from List.drop_eq_nil_of_le (by omega)]; rfl
  · rw [show ys.drop k = [] from List.drop_eq_nil_of_le (by omega)]
    by_cases e : ys.length < xs.length
    · rw [if_neg (by omega), if_pos e]
      have : k < xs.length := by omega
      rw [List.drop_eq_getElem_cons this]; rfl
    · rw [if_neg (by omega), if_neg e, show xs.drop k = [] from List.drop_eq_nil_of_le (by omega)]; rfl

theorem cmpF_ok {va vb : Value} {xs ys : List Clue} (hal : xs.length ≤ 1000000) (hbl : ys.length ≤ 1000000) (hx : short xs) (hy : short ys) :
    FnP Tryz.prog 32 [va, vb, .func (.func 33) #[] #[]] [fSl clueE va xs, fSl clueE vb ys] (.int .i64 (ordP xs ys)) := by
  refine q_beg c_cmpF f_cmpF fun B w0 => ?_
  refine go ?_
  refine q_loop (fun k => xs.length - k) (fun k : Nat => [(13, .int .i64 (k : Int))]) (fun _ => []) (fun _ => []) (fun k => k ≤ xs.length ∧ k ≤ ys.length ∧ ordP xs ys = ordP (xs.drop k) (ys.drop k)) 0 ⟨by omega, by omega, rfl⟩ (body := ?_)
  rintro k ⟨hkx, hky, hord⟩
  refine go ?_
  refine if_d rfl (fun h1 => ?_) (fun h1 => ?_)
  · refine go ?_
    refine q_idx clueE (next := fun _ _ x (vx : Value) hxk => ?_)
    refine go ?_
    intro b8
    refine if_d rfl (fun h2 => ?_) (fun h2 => ?_)
    · refine go ?_
      refine q_fin () (hv := ?_) (hp := trivial)
      rw [hord, drop_cons hxk, show ys.drop k = [] from List.drop_eq_nil_of_le (by omega)]
      rfl
    refine go ?_
    refine q_idx clueE (next := fun _ _ y (vy : Value) hyk => ?_)
    refine go ?_
    intro b9
    refine q_call (comp_ok (a := x) (b := y) (hx x (List.mem_of_getElem? hxk)) (hy y (List.mem_of_getElem? hyk))) (next := fun _ _ => ?_)
    refine go ?_
    refine if_d rfl (fun h3 => ?_) (fun h3 => ?_)
    · refine go ?_
      refine q_fin () (hv := ?_) (hp := trivial)
      rw [hord, drop_cons hxk, drop_cons hyk, ordP, ordL, if_pos h3]; rfl
    refine go ?_
    refine q_again (k + 1) (by omega) ⟨by omega, by omega, ?_⟩
    rw [hord, drop_cons hxk, drop_cons hyk, ordP, ordL, if_neg (by simpa using h3)]
  refine go ?_
  have hkm : k = xs.length := by omega
  refine if_d rfl (fun h3 => ?_) (fun h3 => ?_)
  · refine go ?_
    refine q_fin () (hv := ?_) (hp := trivial)
    rw [hord, ordc_end hkx hky (by omega), if_pos (by omega)]; rfl
  refine go ?_
  refine q_fin () (hv := ?_) (hp := trivial)
  rw [hord, ordc_end hkx hky (by omega), if_neg (by omega), if_neg (by omega)]; rfl

theorem less_ok {va vb : Value} {xs ys : List Clue} (hal : xs.length ≤ 1000000) (hbl : ys.length ≤ 1000000) (hx : short xs) (hy : short ys) :
    FnP Tryz.prog 12 [.agg ⟨[va]⟩, .agg ⟨[vb]⟩] [fSl clueE va xs, fSl clueE vb ys] (.bool (decide (ordP xs ys < 0))) := by
  refine q_beg c_less f_less fun B w0 => ?_
  refine go ?_
  intro b2 b3
  refine q_call (cmpF_ok hal hbl hx hy) (next := fun _ _ => ?_)
  refine go ?_
  exact q_fin () (hv := rfl) (hp := trivial)


theorem rLess_ok {va vb : Value} {xs ys : List Clue} (hal : xs.length ≤ 1000000) (hbl : ys.length ≤ 1000000) (hx : short xs) (hy : short ys) :
    FnP Tryz.prog 13 [.agg ⟨[va]⟩, .agg ⟨[vb]⟩] [fSl clueE va xs, fSl clueE vb ys] (.bool (decide (ordP xs ys < 0))) := by
  refine q_beg c_rLess f_rLess fun B w0 => ?_
  refine go ?_
  intro b2 b3
  refine q_loop (fun k => xs.length - k) (fun k : Nat => [(5, .int .i64 (k : Int))]) (fun _ => []) (fun _ => []) (fun k => k ≤ xs.length ∧ k ≤ ys.length ∧ ordP xs ys = ordP (xs.drop k) (ys.drop k)) 0 ⟨by omega, by omega, rfl⟩ (body := ?_)
  rintro k ⟨hkx, hky, hord⟩
  refine go ?_
  first | with_reducible refine g_d (fun h1 => ?_) (fun h1 => ?_) | with_reducible refine g_n (fun h1 => ?_) (fun h1 => ?_) | with_reducible refine g_b (fun h1 => ?_) (fun h1 => ?_)
  · refine go ?_
    refine q_fin () (hv := ?_) (hp := trivial)
    rw [hord, ordc_end hkx hky (by omega)]
    by_cases e : xs.length < ys.length
    · rw [if_pos e]; simp [retV]; exact e
    · rw [if_neg e]; simp [retV]; split <;> omega
  refine go ?_
  refine if_d rfl (fun h2 => ?_) (fun h2 => ?_)
  rotate_left
  · refine go ?_
    refine q_fin () (hv := ?_) (hp := trivial)
    rw [hord, ordc_end hkx hky (by omega)]
    by_cases e : xs.length < ys.length
    · rw [if_pos e]; simp [retV]; exact e
    · rw [if_neg e]; simp [retV]; split <;> omega
  refine go ?_
  refine q_idx clueE (next := fun _ _ x (vx : Value) hxk => ?_)
  refine go ?_
  refine q_idx clueE (next := fun _ _ y (vy : Value) hyk => ?_)
  refine go ?_
  refine q_call (rComp_ok (a := x) (b := y) (hx x (List.mem_of_getElem? hxk)) (hy y (List.mem_of_getElem? hyk))) (next := fun _ _ => ?_)
  refine go ?_
  refine if_d rfl (fun h3 => ?_) (fun h3 => ?_)
  · refine go ?_
    refine q_fin () (hv := ?_) (hp := trivial)
    rw [hord, drop_cons hxk, drop_cons hyk, ordP, ordL, if_pos h3]; rfl
  refine go ?_
  refine q_again (k + 1) (by omega) ⟨by omega, by omega, ?_⟩
  rw [hord, drop_cons hxk, drop_cons hyk, ordP, ordL, if_neg (by simpa using h3)]

theorem rPlace_ok {va vb : Value} {a b : Clue} : FnP Tryz.prog 70 [clueV a va, clueV b vb] [] (.int .i64 (ordL ordI [a.clue, a.at_] [b.clue, b.at_])) := by
  refine q_beg c_rPlace f_rPlace fun B w0 => ?_
  refine go ?_
  intro b1 b2 b3 b4
  refine q_frz (frz_two (f := 0) (c := 2)) (h := ?_)
  refine q_frz (frz_two (f := 0) (c := 2)) (h := ?_)
  refine q_call (rOrd19_ok (xs := [a.clue, a.at_]) (ys := [b.clue, b.at_]) (by simp) (by simp)) (next := fun _ _ => ?_)
  refine go ?_
  exact q_fin () (hv := rfl) (hp := trivial)

theorem rSameG_ok {va vb : Value} {a b : Clue} (hal : a.values.length ≤ 1000000) (hbl : b.values.length ≤ 1000000) :
    FnP Tryz.prog 35 [clueV a va, clueV b vb] [fSl intE va a.values, fSl intE vb b.values] (.bool (decide (a = b))) := by
  refine q_beg c_rSameG f_rSameG fun B w0 => ?_
  refine go ?_
  intro b1 b2
  refine q_call (rPlace_ok (a := a) (b := b)) (next := fun _ _ => ?_)
  refine go ?_
  have hz := (ordL_ok ordI_ok).zero [a.clue, a.at_] [b.clue, b.at_]
  first | with_reducible refine g_d (fun h1 => ?_) (fun h1 => ?_) | with_reducible refine g_n (fun h1 => ?_) (fun h1 => ?_) | with_reducible refine g_b (fun h1 => ?_) (fun h1 => ?_)
  · refine go ?_
    refine q_fin () (hv := ?_) (hp := trivial)
    rw [decide_eq_false (fun e => h1 (hz.2 (by rw [e])))]; rfl
  refine go ?_
  refine q_call (rOrd19_ok hal hbl) (next := fun _ _ => ?_)
  refine go ?_
  refine q_fin () (hv := ?_) (hp := trivial)
  have e1 := hz.1 h1
  simp only [List.cons.injEq, and_true] at e1
  have : decide (ordL ordI a.values b.values = 0) = decide (a = b) := by
    rw [decide_eq_decide, (ordL_ok ordI_ok).zero]
    obtain ⟨c, p, l⟩ := a
    obtain ⟨d, q, m⟩ := b
    simp only [Clue.mk.injEq] at e1 ⊢
    exact ⟨fun e => ⟨e1.1, e1.2, e⟩, fun e => e.2.2⟩
  rw [← this]; rfl

theorem rSame_ok {va vb : Value} {xs ys : List Clue} (hal : xs.length ≤ 1000000) (hx : short xs) (hy : short ys) :
    FnP Tryz.prog 14 [.agg ⟨[va]⟩, .agg ⟨[vb]⟩] [fSl clueE va xs, fSl clueE vb ys] (.bool (decide (xs = ys))) := by
  refine q_beg c_rSame f_rSame fun B w0 => ?_
  refine go ?_
  intro b2 b3
  refine if_d rfl (fun h1 => ?_) (fun h1 => ?_)
  · refine go ?_
    refine q_fin () (hv := ?_) (hp := trivial)
    rw [decide_eq_false (fun e => h1 (by rw [e]))]; rfl
  have hlen : xs.length = ys.length := by omega
  refine go ?_
  refine q_loop (fun k => xs.length - k) (fun k : Nat => [(5, .int .i64 (k : Int))]) (fun _ => []) (fun _ => []) (fun k => k ≤ xs.length ∧ ∀ j, j < k → xs[j]? = ys[j]?) 0 ⟨by omega, fun j hj => by omega⟩ (body := ?_)
  rintro k ⟨hkx, hsame⟩
  refine go ?_
  refine if_d rfl (fun h2 => ?_) (fun h2 => ?_)
  · refine go ?_
    refine q_idx clueE (next := fun _ _ x (vx : Value) hxk => ?_)
    refine go ?_
    refine q_idx clueE (next := fun _ _ y (vy : Value) hyk => ?_)
    refine go ?_
    refine q_call (rSameG_ok (a := x) (b := y) (hx x (List.mem_of_getElem? hxk)) (hy y (List.mem_of_getElem? hyk))) (next := fun _ _ => ?_)
    refine go ?_
    refine if_n rfl (fun h3 => ?_) (fun h3 => ?_)
    · refine go ?_
      refine q_fin () (hv := ?_) (hp := trivial)
      rw [decide_eq_false (fun e => h3 (by rw [e, hyk] at hxk; cases hxk; rfl))]; rfl
    refine go ?_
    refine q_again (k + 1) (by omega) ⟨by omega, fun j hj => ?_⟩
    by_cases e : j = k
    · subst e; rw [hxk, hyk, h3]
    · exact hsame j (by omega)
  refine go ?_
  refine q_fin () (hv := ?_) (hp := trivial)
  have : xs = ys := by
    apply List.ext_getElem?
    intro j
    by_cases hj : j < k
    · exact hsame j hj
    · rw [List.getElem?_eq_none (by omega), List.getElem?_eq_none (by omega)]
  rw [decide_eq_true this]; rfl

/-- what FewPuzzle says -/
def fewB (l : List Clue) : Bool := decide (l.length ≤ 60 ∧ ∀ g ∈ l, g.values.length ≤ 20)

theorem fewP_ok {va : Value} {xs : List Clue} : FnC Tryz.prog (.func 11) [.agg ⟨[va]⟩] [] [] [fSl clueE va xs] (fun b : Bool => .bool b) (fun _ => []) (fun _ => []) (fun b => b = true → xs.length ≤ 60 ∧ ∀ g ∈ xs, g.values.length ≤ 20) := by
  refine q_beg c_fewP f_fewP fun B w0 => ?_
  refine go ?_
  intro b1
  refine q_loop (fun k => xs.length - k) (fun k : Nat => [(3, .int .i64 (k : Int))]) (fun _ => []) (fun _ => []) (fun k => k ≤ xs.length ∧ k ≤ 60 ∧ ∀ j g, j < k → xs[j]? = some g → g.values.length ≤ 20) 0 ⟨by omega, by omega, fun j g hj => by omega⟩ (body := ?_)
  rintro k ⟨hkx, hk6, hall⟩
  refine go ?_
  first | with_reducible refine g_d (fun h1 => ?_) (fun h1 => ?_) | with_reducible refine g_n (fun h1 => ?_) (fun h1 => ?_) | with_reducible refine g_b (fun h1 => ?_) (fun h1 => ?_)
  · refine go ?_
    refine q_fin _ (hv := rfl) (hp := fun h => ?_)
    have h := of_decide_eq_true h
    refine ⟨by omega, fun g hg => ?_⟩
    obtain ⟨j, hj⟩ := List.getElem?_of_mem hg
    exact hall j g (by have := (List.getElem?_eq_some_iff.1 hj).1; omega) hj
  refine go ?_
  refine if_d rfl (fun h2 => ?_) (fun h2 => ?_)
  rotate_left
  · refine go ?_
    refine q_fin _ (hv := rfl) (hp := fun h => ?_)
    have h := of_decide_eq_true h
    omega
  refine go ?_
  refine q_idx clueE (next := fun _ _ x (vx : Value) hxk => ?_)
  refine go ?_
  refine if_d rfl (fun h3 => ?_) (fun h3 => ?_)
  · refine go ?_
    exact q_fin false (hv := rfl) (hp := fun h => by cases h)
  refine go ?_
  refine q_again (k + 1) (by omega) ⟨by omega, by omega, fun j g hj hg => ?_⟩
  by_cases e : j = k
  · subst e; rw [hxk] at hg; cases hg; omega
  · exact hall j g (by omega) hg
end Go.Proofs.YtoilpafpgndilaaGreat

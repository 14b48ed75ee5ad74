/-
  The reference: constraints and problems checked.
-/
import Derived.Test.YtpkieeggilkagaaGreatMeanR6
set_option linter.unusedSimpArgs false
set_option linter.unusedVariables false
set_option maxHeartbeats 2000000
set_option maxRecDepth 10000
namespace Go.Proofs.YtpkieeggilkagaaGreat
open Go.Ideal Gph

noncomputable def c_rFine : CFunc := ⟨120, [(.tmp 6)], (.seq (.ops [3, 6] [⟨⟨(some 3), none, (.box (.tmp 0) 57)⟩, []⟩, ⟨⟨(some 6), none, (.asg (.const (.bool false)))⟩, []⟩]) (.seq (.seq (.ops [9, 10, 11, 12, 13, 14, 15, 16, 17, 18, 19, 20, 21, 22, 23, 24, 25, 26, 27, 28, 29, 30, 31, 32, 33, 34, 35, 36, 37] [⟨⟨(some 9), none, (.fieldA 0 (.tmp 3))⟩, []⟩, ⟨⟨(some 10), none, (.load1 (.tmp 9))⟩, []⟩, ⟨⟨(some 11), none, (.bin .lss 3 (.tmp 10) (.const (.int .i64 1)))⟩, []⟩, ⟨⟨(some 12), none, (.mv (.tmp 11))⟩, []⟩, ⟨⟨(some 13), (some ⟨12, false⟩), (.fieldA 0 (.tmp 3))⟩, []⟩, ⟨⟨(some 14), (some ⟨12, false⟩), (.load1 (.tmp 13))⟩, []⟩, ⟨⟨(some 15), (some ⟨12, false⟩), (.bin .gtr 3 (.tmp 14) (.const (.int .i64 9)))⟩, []⟩, ⟨⟨(some 16), none, (.pick (.tmp 12) (.const (.bool true)) (.tmp 15))⟩, []⟩, ⟨⟨(some 17), none, (.mv (.tmp 16))⟩, []⟩, ⟨⟨(some 18), (some ⟨17, false⟩), (.fieldA 1 (.tmp 3))⟩, []⟩, ⟨⟨(some 19), (some ⟨17, false⟩), (.load1 (.tmp 18))⟩, []⟩, ⟨⟨(some 20), (some ⟨17, false⟩), (.lenSl (.tmp 19))⟩, []⟩, ⟨⟨(some 21), (some ⟨17, false⟩), (.mv (.tmp 1))⟩, []⟩, ⟨⟨(some 22), (some ⟨17, false⟩), (.bin .gtr 3 (.tmp 20) (.tmp 21))⟩, []⟩, ⟨⟨(some 23), none, (.pick (.tmp 17) (.const (.bool true)) (.tmp 22))⟩, []⟩, ⟨⟨(some 24), none, (.mv (.tmp 23))⟩, []⟩, ⟨⟨(some 25), (some ⟨24, false⟩), (.fieldA 1 (.tmp 3))⟩, []⟩, ⟨⟨(some 26), (some ⟨24, false⟩), (.load1 (.tmp 25))⟩, []⟩, ⟨⟨(some 27), (some ⟨24, false⟩), (.mv (.tmp 1))⟩, []⟩, ⟨⟨(some 28), (some ⟨24, false⟩), (.bin .sub 3 (.tmp 27) (.const (.int .i64 1)))⟩, []⟩, ⟨⟨(some 29), (some ⟨24, false⟩), (.call (.func 154) [(.tmp 26), (.const (.int .i64 0)), (.tmp 28)])⟩, []⟩, ⟨⟨(some 30), (some ⟨24, false⟩), (.un .not (.tmp 29))⟩, []⟩, ⟨⟨(some 31), none, (.pick (.tmp 24) (.const (.bool true)) (.tmp 30))⟩, []⟩, ⟨⟨(some 32), none, (.mv (.tmp 31))⟩, []⟩, ⟨⟨(some 33), (some ⟨32, false⟩), (.fieldA 1 (.tmp 3))⟩, []⟩, ⟨⟨(some 34), (some ⟨32, false⟩), (.load1 (.tmp 33))⟩, []⟩, ⟨⟨(some 35), (some ⟨32, false⟩), (.call (.func 201) [(.tmp 34)])⟩, []⟩, ⟨⟨(some 36), (some ⟨32, false⟩), (.un .not (.tmp 35))⟩, []⟩, ⟨⟨(some 37), none, (.pick (.tmp 32) (.const (.bool true)) (.tmp 36))⟩, []⟩]) (.cond (.tmp 37) (.seq (.ops [6] [⟨⟨(some 6), none, (.asg (.const (.bool false)))⟩, []⟩]) .ret) .skip)) (.seq (.seq (.ops [38, 39, 40, 41, 42, 43, 44, 45, 46, 47, 48, 49, 50, 51] [⟨⟨(some 38), none, (.fieldA 0 (.tmp 3))⟩, []⟩, ⟨⟨(some 39), none, (.load1 (.tmp 38))⟩, []⟩, ⟨⟨(some 40), none, (.bin .eql 3 (.tmp 39) (.const (.int .i64 6)))⟩, []⟩, ⟨⟨(some 41), none, (.mv (.tmp 40))⟩, []⟩, ⟨⟨(some 42), (some ⟨41, false⟩), (.fieldA 0 (.tmp 3))⟩, []⟩, ⟨⟨(some 43), (some ⟨41, false⟩), (.load1 (.tmp 42))⟩, []⟩, ⟨⟨(some 44), (some ⟨41, false⟩), (.bin .eql 3 (.tmp 43) (.const (.int .i64 7)))⟩, []⟩, ⟨⟨(some 45), none, (.pick (.tmp 41) (.const (.bool true)) (.tmp 44))⟩, []⟩, ⟨⟨(some 46), none, (.mv (.tmp 45))⟩, []⟩, ⟨⟨(some 47), (some ⟨46, true⟩), (.fieldA 1 (.tmp 3))⟩, []⟩, ⟨⟨(some 48), (some ⟨46, true⟩), (.load1 (.tmp 47))⟩, []⟩, ⟨⟨(some 49), (some ⟨46, true⟩), (.lenSl (.tmp 48))⟩, []⟩, ⟨⟨(some 50), (some ⟨46, true⟩), (.bin .neq 3 (.tmp 49) (.const (.int .i64 2)))⟩, []⟩, ⟨⟨(some 51), none, (.pick (.tmp 46) (.tmp 50) (.const (.bool false)))⟩, []⟩]) (.cond (.tmp 51) (.seq (.ops [6] [⟨⟨(some 6), none, (.asg (.const (.bool false)))⟩, []⟩]) .ret) .skip)) (.seq (.seq (.ops [52, 53, 54, 55, 56, 57, 58, 59, 60, 61, 62, 63, 64, 65, 66] [⟨⟨(some 52), none, (.fieldA 0 (.tmp 3))⟩, []⟩, ⟨⟨(some 53), none, (.load1 (.tmp 52))⟩, []⟩, ⟨⟨(some 54), none, (.bin .eql 3 (.tmp 53) (.const (.int .i64 8)))⟩, []⟩, ⟨⟨(some 55), none, (.mv (.tmp 54))⟩, []⟩, ⟨⟨(some 56), (some ⟨55, false⟩), (.fieldA 0 (.tmp 3))⟩, []⟩, ⟨⟨(some 57), (some ⟨55, false⟩), (.load1 (.tmp 56))⟩, []⟩, ⟨⟨(some 58), (some ⟨55, false⟩), (.bin .eql 3 (.tmp 57) (.const (.int .i64 9)))⟩, []⟩, ⟨⟨(some 59), none, (.pick (.tmp 55) (.const (.bool true)) (.tmp 58))⟩, []⟩, ⟨⟨(some 60), none, (.mv (.tmp 59))⟩, []⟩, ⟨⟨(some 61), (some ⟨60, true⟩), (.fieldA 1 (.tmp 3))⟩, []⟩, ⟨⟨(some 62), (some ⟨60, true⟩), (.load1 (.tmp 61))⟩, []⟩, ⟨⟨(some 63), (some ⟨60, true⟩), (.lenSl (.tmp 62))⟩, []⟩, ⟨⟨(some 64), (some ⟨60, true⟩), (.mv (.tmp 1))⟩, []⟩, ⟨⟨(some 65), (some ⟨60, true⟩), (.bin .neq 3 (.tmp 63) (.tmp 64))⟩, []⟩, ⟨⟨(some 66), none, (.pick (.tmp 60) (.tmp 65) (.const (.bool false)))⟩, []⟩]) (.cond (.tmp 66) (.seq (.ops [6] [⟨⟨(some 6), none, (.asg (.const (.bool false)))⟩, []⟩]) .ret) .skip)) (.seq (.seq (.ops [7] [⟨⟨(some 7), none, (.asg (.const (.int .i64 0)))⟩, []⟩]) (.block 0 (.loop (.seq (.seq (.ops [67, 68, 69, 70, 71] [⟨⟨(some 67), none, (.mv (.tmp 7))⟩, []⟩, ⟨⟨(some 68), none, (.fieldA 1 (.tmp 3))⟩, []⟩, ⟨⟨(some 69), none, (.load1 (.tmp 68))⟩, []⟩, ⟨⟨(some 70), none, (.lenSl (.tmp 69))⟩, []⟩, ⟨⟨(some 71), none, (.bin .lss 3 (.tmp 67) (.tmp 70))⟩, []⟩]) (.cond (.tmp 71) .skip (.exit 0))) (.seq (.block 1 (.seq (.ops [74, 75, 76, 77, 78, 79, 80, 81, 82, 83, 84, 85, 86, 87, 88, 89, 90] [⟨⟨(some 74), none, (.fieldA 0 (.tmp 3))⟩, []⟩, ⟨⟨(some 75), none, (.load1 (.tmp 74))⟩, []⟩, ⟨⟨(some 76), none, (.bin .eql 3 (.tmp 75) (.const (.int .i64 8)))⟩, []⟩, ⟨⟨(some 77), none, (.mv (.tmp 76))⟩, []⟩, ⟨⟨(some 78), (some ⟨77, false⟩), (.fieldA 0 (.tmp 3))⟩, []⟩, ⟨⟨(some 79), (some ⟨77, false⟩), (.load1 (.tmp 78))⟩, []⟩, ⟨⟨(some 80), (some ⟨77, false⟩), (.bin .eql 3 (.tmp 79) (.const (.int .i64 9)))⟩, []⟩, ⟨⟨(some 81), none, (.pick (.tmp 77) (.const (.bool true)) (.tmp 80))⟩, []⟩, ⟨⟨(some 82), none, (.mv (.tmp 81))⟩, []⟩, ⟨⟨(some 83), (some ⟨82, true⟩), (.fieldA 1 (.tmp 3))⟩, []⟩, ⟨⟨(some 84), (some ⟨82, true⟩), (.load1 (.tmp 83))⟩, []⟩, ⟨⟨(some 85), (some ⟨82, true⟩), (.mv (.tmp 7))⟩, []⟩, ⟨⟨(some 86), (some ⟨82, true⟩), (.idxSl 1 (.tmp 84) (.tmp 85))⟩, []⟩, ⟨⟨(some 87), (some ⟨82, true⟩), (.load1 (.tmp 86))⟩, []⟩, ⟨⟨(some 88), (some ⟨82, true⟩), (.mv (.tmp 7))⟩, []⟩, ⟨⟨(some 89), (some ⟨82, true⟩), (.bin .neq 3 (.tmp 87) (.tmp 88))⟩, []⟩, ⟨⟨(some 90), none, (.pick (.tmp 82) (.tmp 89) (.const (.bool false)))⟩, []⟩]) (.cond (.tmp 90) (.seq (.ops [6] [⟨⟨(some 6), none, (.asg (.const (.bool false)))⟩, []⟩]) .ret) .skip))) (.ops [72, 73, 7] [⟨⟨(some 72), none, (.mv (.tmp 7))⟩, []⟩, ⟨⟨(some 73), none, (.bin .add 3 (.tmp 72) (.const (.int .i64 1)))⟩, []⟩, ⟨⟨(some 7), none, (.asg (.tmp 73))⟩, []⟩])))))) (.seq (.ops [91, 92, 93, 8] [⟨⟨(some 91), none, (.mv (.tmp 2))⟩, []⟩, ⟨⟨(some 92), none, (.bin .shl 3 (.const (.int .i64 1)) (.tmp 91))⟩, []⟩, ⟨⟨(some 93), none, (.bin .sub 3 (.tmp 92) (.const (.int .i64 1)))⟩, []⟩, ⟨⟨(some 8), none, (.asg (.tmp 93))⟩, []⟩]) (.seq (.ops [94, 95, 96, 97, 98, 99, 100, 101, 102, 103, 104, 105, 106, 107, 108, 109, 110, 111, 112, 113, 114, 115, 116, 117, 118, 119, 6] [⟨⟨(some 94), none, (.fieldA 2 (.tmp 3))⟩, []⟩, ⟨⟨(some 95), none, (.load1 (.tmp 94))⟩, []⟩, ⟨⟨(some 96), none, (.fieldA 3 (.tmp 3))⟩, []⟩, ⟨⟨(some 97), none, (.load1 (.tmp 96))⟩, []⟩, ⟨⟨(some 98), none, (.bslice 3 2 [(.int .i64 0), (.int .i64 0)] [⟨0, ⟨1, (.tmp 95)⟩⟩, ⟨1, ⟨1, (.tmp 97)⟩⟩])⟩, []⟩, ⟨⟨(some 99), none, (.mv (.tmp 8))⟩, []⟩, ⟨⟨(some 100), none, (.call (.func 154) [(.tmp 98), (.const (.int .i64 0)), (.tmp 99)])⟩, []⟩, ⟨⟨(some 101), none, (.mv (.tmp 100))⟩, []⟩, ⟨⟨(some 102), (some ⟨101, true⟩), (.fieldA 4 (.tmp 3))⟩, []⟩, ⟨⟨(some 103), (some ⟨101, true⟩), (.load1 (.tmp 102))⟩, []⟩, ⟨⟨(some 104), (some ⟨101, true⟩), (.fieldA 5 (.tmp 3))⟩, []⟩, ⟨⟨(some 105), (some ⟨101, true⟩), (.load1 (.tmp 104))⟩, []⟩, ⟨⟨(some 106), (some ⟨101, true⟩), (.bslice 3 2 [(.int .i64 0), (.int .i64 0)] [⟨0, ⟨1, (.tmp 103)⟩⟩, ⟨1, ⟨1, (.tmp 105)⟩⟩])⟩, []⟩, ⟨⟨(some 107), (some ⟨101, true⟩), (.call (.func 154) [(.tmp 106), (.const (.int .i64 0)), (.const (.int .i64 65536))])⟩, []⟩, ⟨⟨(some 108), none, (.pick (.tmp 101) (.tmp 107) (.const (.bool false)))⟩, []⟩, ⟨⟨(some 109), none, (.mv (.tmp 108))⟩, []⟩, ⟨⟨(some 110), (some ⟨109, true⟩), (.fieldA 6 (.tmp 3))⟩, []⟩, ⟨⟨(some 111), (some ⟨109, true⟩), (.load1 (.tmp 110))⟩, []⟩, ⟨⟨(some 112), (some ⟨109, true⟩), (.lenSl (.tmp 111))⟩, []⟩, ⟨⟨(some 113), (some ⟨109, true⟩), (.bin .leq 3 (.tmp 112) (.const (.int .i64 8)))⟩, []⟩, ⟨⟨(some 114), none, (.pick (.tmp 109) (.tmp 113) (.const (.bool false)))⟩, []⟩, ⟨⟨(some 115), none, (.mv (.tmp 114))⟩, []⟩, ⟨⟨(some 116), (some ⟨115, true⟩), (.fieldA 6 (.tmp 3))⟩, []⟩, ⟨⟨(some 117), (some ⟨115, true⟩), (.load1 (.tmp 116))⟩, []⟩, ⟨⟨(some 118), (some ⟨115, true⟩), (.call (.func 154) [(.tmp 117), (.const (.int .i64 1)), (.const (.int .i64 256))])⟩, []⟩, ⟨⟨(some 119), none, (.pick (.tmp 115) (.tmp 118) (.const (.bool false)))⟩, []⟩, ⟨⟨(some 6), none, (.asg (.tmp 119))⟩, []⟩]) .ret)))))))⟩
theorem f_rFine : (envOf Tryz.prog noCut noMemo).F 156 = some c_rFine := by kernel_rfl
noncomputable def c_rValid19 : CFunc := ⟨72, [(.tmp 2)], (.seq (.ops [1, 2] [⟨⟨(some 1), none, (.box (.tmp 0) 50)⟩, []⟩, ⟨⟨(some 2), none, (.asg (.const (.int .i64 0)))⟩, []⟩]) (.seq (.seq (.ops [4, 5, 6, 7, 8, 9, 10, 11, 12, 13, 14, 15, 16, 17, 18, 19, 20, 21, 22, 23, 24, 25, 26, 27, 28, 29, 30, 31, 32, 33, 34, 35] [⟨⟨(some 4), none, (.fieldA 0 (.tmp 1))⟩, []⟩, ⟨⟨(some 5), none, (.load1 (.tmp 4))⟩, []⟩, ⟨⟨(some 6), none, (.bin .lss 3 (.tmp 5) (.const (.int .i64 1)))⟩, []⟩, ⟨⟨(some 7), none, (.mv (.tmp 6))⟩, []⟩, ⟨⟨(some 8), (some ⟨7, false⟩), (.fieldA 0 (.tmp 1))⟩, []⟩, ⟨⟨(some 9), (some ⟨7, false⟩), (.load1 (.tmp 8))⟩, []⟩, ⟨⟨(some 10), (some ⟨7, false⟩), (.bin .gtr 3 (.tmp 9) (.const (.int .i64 256)))⟩, []⟩, ⟨⟨(some 11), none, (.pick (.tmp 7) (.const (.bool true)) (.tmp 10))⟩, []⟩, ⟨⟨(some 12), none, (.mv (.tmp 11))⟩, []⟩, ⟨⟨(some 13), (some ⟨12, false⟩), (.fieldA 1 (.tmp 1))⟩, []⟩, ⟨⟨(some 14), (some ⟨12, false⟩), (.load1 (.tmp 13))⟩, []⟩, ⟨⟨(some 15), (some ⟨12, false⟩), (.bin .lss 3 (.tmp 14) (.const (.int .i64 1)))⟩, []⟩, ⟨⟨(some 16), none, (.pick (.tmp 12) (.const (.bool true)) (.tmp 15))⟩, []⟩, ⟨⟨(some 17), none, (.mv (.tmp 16))⟩, []⟩, ⟨⟨(some 18), (some ⟨17, false⟩), (.fieldA 1 (.tmp 1))⟩, []⟩, ⟨⟨(some 19), (some ⟨17, false⟩), (.load1 (.tmp 18))⟩, []⟩, ⟨⟨(some 20), (some ⟨17, false⟩), (.bin .gtr 3 (.tmp 19) (.const (.int .i64 16)))⟩, []⟩, ⟨⟨(some 21), none, (.pick (.tmp 17) (.const (.bool true)) (.tmp 20))⟩, []⟩, ⟨⟨(some 22), none, (.mv (.tmp 21))⟩, []⟩, ⟨⟨(some 23), (some ⟨22, false⟩), (.fieldA 2 (.tmp 1))⟩, []⟩, ⟨⟨(some 24), (some ⟨22, false⟩), (.load1 (.tmp 23))⟩, []⟩, ⟨⟨(some 25), (some ⟨22, false⟩), (.lenSl (.tmp 24))⟩, []⟩, ⟨⟨(some 26), (some ⟨22, false⟩), (.fieldA 1 (.tmp 1))⟩, []⟩, ⟨⟨(some 27), (some ⟨22, false⟩), (.load1 (.tmp 26))⟩, []⟩, ⟨⟨(some 28), (some ⟨22, false⟩), (.bin .neq 3 (.tmp 25) (.tmp 27))⟩, []⟩, ⟨⟨(some 29), none, (.pick (.tmp 22) (.const (.bool true)) (.tmp 28))⟩, []⟩, ⟨⟨(some 30), none, (.mv (.tmp 29))⟩, []⟩, ⟨⟨(some 31), (some ⟨30, false⟩), (.fieldA 2 (.tmp 1))⟩, []⟩, ⟨⟨(some 32), (some ⟨30, false⟩), (.load1 (.tmp 31))⟩, []⟩, ⟨⟨(some 33), (some ⟨30, false⟩), (.call (.func 154) [(.tmp 32), (.const (.int .i64 0)), (.const (.int .i64 99))])⟩, []⟩, ⟨⟨(some 34), (some ⟨30, false⟩), (.un .not (.tmp 33))⟩, []⟩, ⟨⟨(some 35), none, (.pick (.tmp 30) (.const (.bool true)) (.tmp 34))⟩, []⟩]) (.cond (.tmp 35) (.seq (.ops [2] [⟨⟨(some 2), none, (.asg (.const (.int .i64 191)))⟩, []⟩]) .ret) .skip)) (.seq (.seq (.ops [36, 37, 38, 39, 40, 41, 42, 43, 44, 45, 46, 47, 48, 49, 50, 51, 52, 53] [⟨⟨(some 36), none, (.fieldA 3 (.tmp 1))⟩, []⟩, ⟨⟨(some 37), none, (.load1 (.tmp 36))⟩, []⟩, ⟨⟨(some 38), none, (.lenSl (.tmp 37))⟩, []⟩, ⟨⟨(some 39), none, (.fieldA 0 (.tmp 1))⟩, []⟩, ⟨⟨(some 40), none, (.load1 (.tmp 39))⟩, []⟩, ⟨⟨(some 41), none, (.bin .neq 3 (.tmp 38) (.tmp 40))⟩, []⟩, ⟨⟨(some 42), none, (.mv (.tmp 41))⟩, []⟩, ⟨⟨(some 43), (some ⟨42, false⟩), (.fieldA 3 (.tmp 1))⟩, []⟩, ⟨⟨(some 44), (some ⟨42, false⟩), (.load1 (.tmp 43))⟩, []⟩, ⟨⟨(some 45), (some ⟨42, false⟩), (.call (.func 155) [(.tmp 44)])⟩, []⟩, ⟨⟨(some 46), (some ⟨42, false⟩), (.bin .neq 40 (.tmp 45) (.const (.int .i64 0)))⟩, []⟩, ⟨⟨(some 47), none, (.pick (.tmp 42) (.const (.bool true)) (.tmp 46))⟩, []⟩, ⟨⟨(some 48), none, (.mv (.tmp 47))⟩, []⟩, ⟨⟨(some 49), (some ⟨48, false⟩), (.fieldA 4 (.tmp 1))⟩, []⟩, ⟨⟨(some 50), (some ⟨48, false⟩), (.load1 (.tmp 49))⟩, []⟩, ⟨⟨(some 51), (some ⟨48, false⟩), (.lenSl (.tmp 50))⟩, []⟩, ⟨⟨(some 52), (some ⟨48, false⟩), (.bin .gtr 3 (.tmp 51) (.const (.int .i64 4096)))⟩, []⟩, ⟨⟨(some 53), none, (.pick (.tmp 48) (.const (.bool true)) (.tmp 52))⟩, []⟩]) (.cond (.tmp 53) (.seq (.ops [2] [⟨⟨(some 2), none, (.asg (.const (.int .i64 191)))⟩, []⟩]) .ret) .skip)) (.seq (.seq (.ops [3] [⟨⟨(some 3), none, (.asg (.const (.int .i64 0)))⟩, []⟩]) (.block 0 (.loop (.seq (.seq (.ops [54, 55, 56, 57, 58] [⟨⟨(some 54), none, (.mv (.tmp 3))⟩, []⟩, ⟨⟨(some 55), none, (.fieldA 4 (.tmp 1))⟩, []⟩, ⟨⟨(some 56), none, (.load1 (.tmp 55))⟩, []⟩, ⟨⟨(some 57), none, (.lenSl (.tmp 56))⟩, []⟩, ⟨⟨(some 58), none, (.bin .lss 3 (.tmp 54) (.tmp 57))⟩, []⟩]) (.cond (.tmp 58) .skip (.exit 0))) (.seq (.block 1 (.seq (.ops [61, 62, 63, 64, 65, 66, 67, 68, 69, 70, 71] [⟨⟨(some 61), none, (.fieldA 4 (.tmp 1))⟩, []⟩, ⟨⟨(some 62), none, (.load1 (.tmp 61))⟩, []⟩, ⟨⟨(some 63), none, (.mv (.tmp 3))⟩, []⟩, ⟨⟨(some 64), none, (.idxSl 9 (.tmp 62) (.tmp 63))⟩, []⟩, ⟨⟨(some 65), none, (.loadN 9 (.tmp 64))⟩, []⟩, ⟨⟨(some 66), none, (.fieldA 0 (.tmp 1))⟩, []⟩, ⟨⟨(some 67), none, (.load1 (.tmp 66))⟩, []⟩, ⟨⟨(some 68), none, (.fieldA 1 (.tmp 1))⟩, []⟩, ⟨⟨(some 69), none, (.load1 (.tmp 68))⟩, []⟩, ⟨⟨(some 70), none, (.call (.func 156) [(.tmp 65), (.tmp 67), (.tmp 69)])⟩, []⟩, ⟨⟨(some 71), none, (.un .not (.tmp 70))⟩, []⟩]) (.cond (.tmp 71) (.seq (.ops [2] [⟨⟨(some 2), none, (.asg (.const (.int .i64 191)))⟩, []⟩]) .ret) .skip))) (.ops [59, 60, 3] [⟨⟨(some 59), none, (.mv (.tmp 3))⟩, []⟩, ⟨⟨(some 60), none, (.bin .add 3 (.tmp 59) (.const (.int .i64 1)))⟩, []⟩, ⟨⟨(some 3), none, (.asg (.tmp 60))⟩, []⟩])))))) (.seq (.ops [2] [⟨⟨(some 2), none, (.asg (.const (.int .i64 0)))⟩, []⟩]) .ret)))))⟩
theorem f_rValid19 : (envOf Tryz.prog noCut noMemo).F 105 = some c_rValid19 := by kernel_rfl
noncomputable def c_rValid : CFunc := ⟨18, [(.tmp 4)], (.seq (.ops [2, 4] [⟨⟨(some 2), none, (.box (.tmp 0) 50)⟩, []⟩, ⟨⟨(some 4), none, (.asg (.const (.int .i64 0)))⟩, []⟩]) (.seq (.ops [6, 7, 5] [⟨⟨(some 6), none, (.loadN 5 (.tmp 2))⟩, []⟩, ⟨⟨(some 7), none, (.call (.func 105) [(.tmp 6)])⟩, []⟩, ⟨⟨(some 5), none, (.asg (.tmp 7))⟩, []⟩]) (.seq (.seq (.ops [8, 9] [⟨⟨(some 8), none, (.mv (.tmp 5))⟩, []⟩, ⟨⟨(some 9), none, (.bin .neq 40 (.tmp 8) (.const (.int .i64 0)))⟩, []⟩]) (.cond (.tmp 9) (.seq (.ops [10, 4] [⟨⟨(some 10), none, (.mv (.tmp 5))⟩, []⟩, ⟨⟨(some 4), none, (.asg (.tmp 10))⟩, []⟩]) .ret) .skip)) (.seq (.seq (.ops [11, 12, 13, 14, 15, 16, 17] [⟨⟨(some 11), none, (.fieldA 0 (.tmp 2))⟩, []⟩, ⟨⟨(some 12), none, (.load1 (.tmp 11))⟩, []⟩, ⟨⟨(some 13), none, (.fieldA 1 (.tmp 2))⟩, []⟩, ⟨⟨(some 14), none, (.load1 (.tmp 13))⟩, []⟩, ⟨⟨(some 15), none, (.mv (.tmp 1))⟩, []⟩, ⟨⟨(some 16), none, (.call (.func 42) [(.tmp 12), (.tmp 14), (.tmp 15)])⟩, []⟩, ⟨⟨(some 17), none, (.un .not (.tmp 16))⟩, []⟩]) (.cond (.tmp 17) (.seq (.ops [4] [⟨⟨(some 4), none, (.asg (.const (.int .i64 200)))⟩, []⟩]) .ret) .skip)) (.seq (.ops [4] [⟨⟨(some 4), none, (.asg (.const (.int .i64 0)))⟩, []⟩]) .ret)))))⟩
theorem f_rValid : (envOf Tryz.prog noCut noMemo).F 47 = some c_rValid := by kernel_rfl

theorem fine_iff {qc : Int} {m : Nat} {kd : Int} {cells : List Int} {cset cother clo chi : Int} {runs : List Int} {crule cat : Int} (hsh : 1 <<< m = 2 ^ m) (hcell : ∀ x ∈ cells, 0 ≤ x ∧ x < qc) (hnd : cells.Nodup) (hkd : 1 ≤ kd ∧ kd ≤ 9)
    (two : kd = 6 ∨ kd = 7 → cells.length = 2) (all : 8 ≤ kd → (cells.length : Int) = qc) (ord : 8 ≤ kd → ∀ (i : Nat) x, cells[i]? = some x → x = i) :
    FineC qc (m : Int) ⟨kd, cells, cset, cother, clo, chi, runs, crule, cat⟩ ↔ wit [cset, cother] 0 ((1 <<< m : Nat) - 1 : Int) = true ∧ wit [clo, chi] 0 65536 = true ∧ runs.length ≤ 8 ∧ wit runs 1 256 = true := by
  constructor
  · intro h
    have h1 := h.set
    have h2 := h.other
    have h3 := h.lo
    have h4 := h.hi
    dsimp only at h1 h2 h3 h4
    rw [Int.toNat_natCast] at h1 h2
    refine ⟨wit_two.2 ⟨⟨h1.1, by omega⟩, h2.1, by omega⟩, wit_two.2 ⟨h3, h4⟩, h.rlen, decide_eq_true h.runs⟩
  · rintro ⟨h1, h2, h3, h4⟩
    rw [wit_two] at h1 h2
    exact { cell := fun i x hx => ⟨(hcell x (List.mem_of_getElem? hx)).1, (hcell x (List.mem_of_getElem? hx)).2, fun h => ord h i x hx⟩, nd := hnd, kind := hkd, two := two, all := all, set := ⟨h1.1.1, by rw [Int.toNat_natCast]; have := h1.1.2; show cset < ((2 ^ m : Nat) : Int); omega⟩, other := ⟨h1.2.1, by rw [Int.toNat_natCast]; have := h1.2.2; show cother < ((2 ^ m : Nat) : Int); omega⟩, lo := h2.1, hi := h2.2, rlen := h3, runs := of_decide_eq_true h4 }







theorem rFine_ok {qc : Int} {m : Nat} {c : Con} {v1 v2 : Value} (hq : 1 ≤ qc ∧ qc ≤ 256) (hm : 1 ≤ m ∧ m ≤ 16) (hcs : ConS c) :
    FnC Tryz.prog (.func 156) [.agg ⟨consL c v1 v2⟩, .int .i64 qc, .int .i64 (m : Int)] [] [] [fSl intE v1 c.cells, fSl intE v2 c.runs] (fun b : Bool => .bool b) (fun _ => []) (fun _ => []) (fun b => (b = true ↔ FineC qc (m : Int) c)) := by
  obtain ⟨kd, cells, cset, cother, clo, chi, runs, crule, cat⟩ := c
  dsimp only [consL]
  refine q_beg c_rFine f_rFine fun B w0 => ?_
  have hcl := hcs.cells
  have hrl := hcs.runs
  dsimp only at hcl hrl
  refine go ?_
  intro b3
  refine q_frz (frz_pt (b := b3)) (h := ?_)
  refine go ?_
  first | with_reducible refine g_d (fun h1 => ?_) (fun h1 => ?_) | with_reducible refine g_n (fun h1 => ?_) (fun h1 => ?_) | with_reducible refine g_b (fun h1 => ?_) (fun h1 => ?_)
  rotate_left
  · refine go ?_
    refine q_fin false (hv := rfl) (hp := ⟨(fun h => by cases h), fun h => False.elim ?_⟩)
    have := h.kind; dsimp only at this; omega
  refine go ?_
  first | with_reducible refine g_d (fun h2 => ?_) (fun h2 => ?_) | with_reducible refine g_n (fun h2 => ?_) (fun h2 => ?_) | with_reducible refine g_b (fun h2 => ?_) (fun h2 => ?_)
  rotate_left
  · refine go ?_
    refine q_fin false (hv := rfl) (hp := ⟨(fun h => by cases h), fun h => False.elim ?_⟩)
    have := h.kind; dsimp only at this; omega
  refine go ?_
  first | with_reducible refine g_d (fun h3 => ?_) (fun h3 => ?_) | with_reducible refine g_n (fun h3 => ?_) (fun h3 => ?_) | with_reducible refine g_b (fun h3 => ?_) (fun h3 => ?_)
  rotate_left
  · refine go ?_
    refine q_fin false (hv := rfl) (hp := ⟨(fun h => by cases h), fun h => False.elim ?_⟩)
    rcases h.len with h4 | h4
    · dsimp only at h4; omega
    · dsimp only at h4; subst h4; simp at h3; omega
  refine go ?_
  refine q_call (rBetween_ok (xs := cells) (lo := 0) (hi := qc - 1) hcl) (next := fun _ _ => ?_)
  refine go ?_
  cases h4 : wit cells 0 (qc - 1) with
  | false =>
    refine go ?_
    refine q_fin false (hv := rfl) (hp := ⟨(fun h => by cases h), fun h => False.elim ?_⟩)
    have h4 := of_decide_eq_false h4
    refine h4 fun x hx => ?_
    obtain ⟨i, hi⟩ := List.getElem?_of_mem hx
    have := h.cell i x hi
    omega
  | true =>
  have h4 := of_decide_eq_true h4
  refine go ?_
  refine q_call (rDiff19_ok (cells := cells) hcl) (next := fun _ _ => ?_)
  refine go ?_
  refine if_n rfl (fun h5 => ?_) (fun h5 => ?_)
  · refine go ?_
    refine q_fin false (hv := rfl) (hp := ⟨(fun h => by cases h), fun h => False.elim ?_⟩)
    exact h5 h.nd
  have hsh : 1 <<< m = 2 ^ m := by rw [Nat.shiftLeft_eq, Nat.one_mul]
  have hsm : 2 ^ m ≤ 2 ^ 16 := Nat.pow_le_pow_right (by omega) (by omega)
  have hsp : 0 < 2 ^ m := Nat.two_pow_pos m
  have hcell : ∀ x ∈ cells, 0 ≤ x ∧ x < qc := fun x hx => by have := h4 x hx; omega
  have hks : kd = 1 ∨ kd = 2 ∨ kd = 3 ∨ kd = 4 ∨ kd = 5 ∨ kd = 6 ∨ kd = 7 ∨ kd = 8 ∨ kd = 9 := by omega
  rcases hks with rfl | rfl | rfl | rfl | rfl | rfl | rfl | rfl | rfl
  · refine go ?_
    refine q_loop (fun k => cells.length - k) (fun k : Nat => [(7, .int .i64 (k : Int))]) (fun _ => []) (fun _ => []) (fun k => k ≤ cells.length) 0 (Nat.zero_le _) (body := ?_)
    intro k hk
    refine go ?_
    refine if_d rfl (fun e1 => ?_) (fun e1 => ?_)
    · refine go ?_
      exact q_again (k + 1) (by omega) (by omega)
    have hall' := fine_iff (qc := qc) (m := m) (kd := 1) (cells := cells) (cset := cset) (cother := cother) (clo := clo) (chi := chi) (runs := runs) (crule := crule) (cat := cat) hsh hcell h5 (by omega) (fun h => by omega) (fun h => by omega) (fun h => by omega)
    refine go ?_
    refine q_p (p_shl (a := 1) (b := m) rfl rfl (by omega) (by omega)) ?_
    refine go ?_
    intro b98
    refine q_frz (frz_two (b := b98) (f := 0) (c := 2)) (h := ?_)
    refine go ?_
    refine q_call (rBetween_ok (xs := [cset, cother]) (lo := 0) (hi := ((1 <<< m : Nat) : Int) - 1) (by simp)) (next := fun _ _ => ?_)
    refine go ?_
    first | with_reducible refine g_d (fun g1 => ?_) (fun g1 => ?_) | with_reducible refine g_n (fun g1 => ?_) (fun g1 => ?_) | with_reducible refine g_b (fun g1 => ?_) (fun g1 => ?_)
    · refine go ?_
      exact q_fin false (hv := rfl) (hp := ⟨(fun h => by cases h), fun h => by rw [(hall'.1 h).1] at g1; cases g1⟩)
    refine go ?_
    intro b106
    refine q_frz (frz_two (b := b106) (f := 0) (c := 2)) (h := ?_)
    refine q_call (rBetween_ok (xs := [clo, chi]) (lo := 0) (hi := 65536) (by simp)) (next := fun _ _ => ?_)
    refine go ?_
    first | with_reducible refine g_d (fun g2 => ?_) (fun g2 => ?_) | with_reducible refine g_n (fun g2 => ?_) (fun g2 => ?_) | with_reducible refine g_b (fun g2 => ?_) (fun g2 => ?_)
    · refine go ?_
      exact q_fin false (hv := rfl) (hp := ⟨(fun h => by cases h), fun h => by rw [(hall'.1 h).2.1] at g2; cases g2⟩)
    refine go ?_
    first | with_reducible refine g_d (fun g3 => ?_) (fun g3 => ?_) | with_reducible refine g_n (fun g3 => ?_) (fun g3 => ?_) | with_reducible refine g_b (fun g3 => ?_) (fun g3 => ?_)
    · refine go ?_
      exact q_fin false (hv := rfl) (hp := ⟨(fun h => by cases h), fun h => by have := (hall'.1 h).2.2.1; omega⟩)
    refine go ?_
    refine q_call (rBetween_ok (xs := runs) (lo := 1) (hi := 256) hrl) (next := fun _ _ => ?_)
    refine go ?_
    refine q_fin (wit runs 1 256) (hv := rfl) (hp := ?_)
    rw [hall']
    exact ⟨fun h => ⟨g1, g2, by omega, h⟩, fun h => h.2.2.2⟩
  · refine go ?_
    refine q_loop (fun k => cells.length - k) (fun k : Nat => [(7, .int .i64 (k : Int))]) (fun _ => []) (fun _ => []) (fun k => k ≤ cells.length) 0 (Nat.zero_le _) (body := ?_)
    intro k hk
    refine go ?_
    refine if_d rfl (fun e1 => ?_) (fun e1 => ?_)
    · refine go ?_
      exact q_again (k + 1) (by omega) (by omega)
    have hall' := fine_iff (qc := qc) (m := m) (kd := 2) (cells := cells) (cset := cset) (cother := cother) (clo := clo) (chi := chi) (runs := runs) (crule := crule) (cat := cat) hsh hcell h5 (by omega) (fun h => by omega) (fun h => by omega) (fun h => by omega)
    refine go ?_
    refine q_p (p_shl (a := 1) (b := m) rfl rfl (by omega) (by omega)) ?_
    refine go ?_
    intro b98
    refine q_frz (frz_two (b := b98) (f := 0) (c := 2)) (h := ?_)
    refine go ?_
    refine q_call (rBetween_ok (xs := [cset, cother]) (lo := 0) (hi := ((1 <<< m : Nat) : Int) - 1) (by simp)) (next := fun _ _ => ?_)
    refine go ?_
    first | with_reducible refine g_d (fun g1 => ?_) (fun g1 => ?_) | with_reducible refine g_n (fun g1 => ?_) (fun g1 => ?_) | with_reducible refine g_b (fun g1 => ?_) (fun g1 => ?_)
    · refine go ?_
      exact q_fin false (hv := rfl) (hp := ⟨(fun h => by cases h), fun h => by rw [(hall'.1 h).1] at g1; cases g1⟩)
    refine go ?_
    intro b106
    refine q_frz (frz_two (b := b106) (f := 0) (c := 2)) (h := ?_)
    refine q_call (rBetween_ok (xs := [clo, chi]) (lo := 0) (hi := 65536) (by simp)) (next := fun _ _ => ?_)
    refine go ?_
    first | with_reducible refine g_d (fun g2 => ?_) (fun g2 => ?_) | with_reducible refine g_n (fun g2 => ?_) (fun g2 => ?_) | with_reducible refine g_b (fun g2 => ?_) (fun g2 => ?_)
    · refine go ?_
      exact q_fin false (hv := rfl) (hp := ⟨(fun h => by cases h), fun h => by rw [(hall'.1 h).2.1] at g2; cases g2⟩)
    refine go ?_
    first | with_reducible refine g_d (fun g3 => ?_) (fun g3 => ?_) | with_reducible refine g_n (fun g3 => ?_) (fun g3 => ?_) | with_reducible refine g_b (fun g3 => ?_) (fun g3 => ?_)
    · refine go ?_
      exact q_fin false (hv := rfl) (hp := ⟨(fun h => by cases h), fun h => by have := (hall'.1 h).2.2.1; omega⟩)
    refine go ?_
    refine q_call (rBetween_ok (xs := runs) (lo := 1) (hi := 256) hrl) (next := fun _ _ => ?_)
    refine go ?_
    refine q_fin (wit runs 1 256) (hv := rfl) (hp := ?_)
    rw [hall']
    exact ⟨fun h => ⟨g1, g2, by omega, h⟩, fun h => h.2.2.2⟩
  · refine go ?_
    refine q_loop (fun k => cells.length - k) (fun k : Nat => [(7, .int .i64 (k : Int))]) (fun _ => []) (fun _ => []) (fun k => k ≤ cells.length) 0 (Nat.zero_le _) (body := ?_)
    intro k hk
    refine go ?_
    refine if_d rfl (fun e1 => ?_) (fun e1 => ?_)
    · refine go ?_
      exact q_again (k + 1) (by omega) (by omega)
    have hall' := fine_iff (qc := qc) (m := m) (kd := 3) (cells := cells) (cset := cset) (cother := cother) (clo := clo) (chi := chi) (runs := runs) (crule := crule) (cat := cat) hsh hcell h5 (by omega) (fun h => by omega) (fun h => by omega) (fun h => by omega)
    refine go ?_
    refine q_p (p_shl (a := 1) (b := m) rfl rfl (by omega) (by omega)) ?_
    refine go ?_
    intro b98
    refine q_frz (frz_two (b := b98) (f := 0) (c := 2)) (h := ?_)
    refine go ?_
    refine q_call (rBetween_ok (xs := [cset, cother]) (lo := 0) (hi := ((1 <<< m : Nat) : Int) - 1) (by simp)) (next := fun _ _ => ?_)
    refine go ?_
    first | with_reducible refine g_d (fun g1 => ?_) (fun g1 => ?_) | with_reducible refine g_n (fun g1 => ?_) (fun g1 => ?_) | with_reducible refine g_b (fun g1 => ?_) (fun g1 => ?_)
    · refine go ?_
      exact q_fin false (hv := rfl) (hp := ⟨(fun h => by cases h), fun h => by rw [(hall'.1 h).1] at g1; cases g1⟩)
    refine go ?_
    intro b106
    refine q_frz (frz_two (b := b106) (f := 0) (c := 2)) (h := ?_)
    refine q_call (rBetween_ok (xs := [clo, chi]) (lo := 0) (hi := 65536) (by simp)) (next := fun _ _ => ?_)
    refine go ?_
    first | with_reducible refine g_d (fun g2 => ?_) (fun g2 => ?_) | with_reducible refine g_n (fun g2 => ?_) (fun g2 => ?_) | with_reducible refine g_b (fun g2 => ?_) (fun g2 => ?_)
    · refine go ?_
      exact q_fin false (hv := rfl) (hp := ⟨(fun h => by cases h), fun h => by rw [(hall'.1 h).2.1] at g2; cases g2⟩)
    refine go ?_
    first | with_reducible refine g_d (fun g3 => ?_) (fun g3 => ?_) | with_reducible refine g_n (fun g3 => ?_) (fun g3 => ?_) | with_reducible refine g_b (fun g3 => ?_) (fun g3 => ?_)
    · refine go ?_
      exact q_fin false (hv := rfl) (hp := ⟨(fun h => by cases h), fun h => by have := (hall'.1 h).2.2.1; omega⟩)
    refine go ?_
    refine q_call (rBetween_ok (xs := runs) (lo := 1) (hi := 256) hrl) (next := fun _ _ => ?_)
    refine go ?_
    refine q_fin (wit runs 1 256) (hv := rfl) (hp := ?_)
    rw [hall']
    exact ⟨fun h => ⟨g1, g2, by omega, h⟩, fun h => h.2.2.2⟩
  · refine go ?_
    refine q_loop (fun k => cells.length - k) (fun k : Nat => [(7, .int .i64 (k : Int))]) (fun _ => []) (fun _ => []) (fun k => k ≤ cells.length) 0 (Nat.zero_le _) (body := ?_)
    intro k hk
    refine go ?_
    refine if_d rfl (fun e1 => ?_) (fun e1 => ?_)
    · refine go ?_
      exact q_again (k + 1) (by omega) (by omega)
    have hall' := fine_iff (qc := qc) (m := m) (kd := 4) (cells := cells) (cset := cset) (cother := cother) (clo := clo) (chi := chi) (runs := runs) (crule := crule) (cat := cat) hsh hcell h5 (by omega) (fun h => by omega) (fun h => by omega) (fun h => by omega)
    refine go ?_
    refine q_p (p_shl (a := 1) (b := m) rfl rfl (by omega) (by omega)) ?_
    refine go ?_
    intro b98
    refine q_frz (frz_two (b := b98) (f := 0) (c := 2)) (h := ?_)
    refine go ?_
    refine q_call (rBetween_ok (xs := [cset, cother]) (lo := 0) (hi := ((1 <<< m : Nat) : Int) - 1) (by simp)) (next := fun _ _ => ?_)
    refine go ?_
    first | with_reducible refine g_d (fun g1 => ?_) (fun g1 => ?_) | with_reducible refine g_n (fun g1 => ?_) (fun g1 => ?_) | with_reducible refine g_b (fun g1 => ?_) (fun g1 => ?_)
    · refine go ?_
      exact q_fin false (hv := rfl) (hp := ⟨(fun h => by cases h), fun h => by rw [(hall'.1 h).1] at g1; cases g1⟩)
    refine go ?_
    intro b106
    refine q_frz (frz_two (b := b106) (f := 0) (c := 2)) (h := ?_)
    refine q_call (rBetween_ok (xs := [clo, chi]) (lo := 0) (hi := 65536) (by simp)) (next := fun _ _ => ?_)
    refine go ?_
    first | with_reducible refine g_d (fun g2 => ?_) (fun g2 => ?_) | with_reducible refine g_n (fun g2 => ?_) (fun g2 => ?_) | with_reducible refine g_b (fun g2 => ?_) (fun g2 => ?_)
    · refine go ?_
      exact q_fin false (hv := rfl) (hp := ⟨(fun h => by cases h), fun h => by rw [(hall'.1 h).2.1] at g2; cases g2⟩)
    refine go ?_
    first | with_reducible refine g_d (fun g3 => ?_) (fun g3 => ?_) | with_reducible refine g_n (fun g3 => ?_) (fun g3 => ?_) | with_reducible refine g_b (fun g3 => ?_) (fun g3 => ?_)
    · refine go ?_
      exact q_fin false (hv := rfl) (hp := ⟨(fun h => by cases h), fun h => by have := (hall'.1 h).2.2.1; omega⟩)
    refine go ?_
    refine q_call (rBetween_ok (xs := runs) (lo := 1) (hi := 256) hrl) (next := fun _ _ => ?_)
    refine go ?_
    refine q_fin (wit runs 1 256) (hv := rfl) (hp := ?_)
    rw [hall']
    exact ⟨fun h => ⟨g1, g2, by omega, h⟩, fun h => h.2.2.2⟩
  · refine go ?_
    refine q_loop (fun k => cells.length - k) (fun k : Nat => [(7, .int .i64 (k : Int))]) (fun _ => []) (fun _ => []) (fun k => k ≤ cells.length) 0 (Nat.zero_le _) (body := ?_)
    intro k hk
    refine go ?_
    refine if_d rfl (fun e1 => ?_) (fun e1 => ?_)
    · refine go ?_
      exact q_again (k + 1) (by omega) (by omega)
    have hall' := fine_iff (qc := qc) (m := m) (kd := 5) (cells := cells) (cset := cset) (cother := cother) (clo := clo) (chi := chi) (runs := runs) (crule := crule) (cat := cat) hsh hcell h5 (by omega) (fun h => by omega) (fun h => by omega) (fun h => by omega)
    refine go ?_
    refine q_p (p_shl (a := 1) (b := m) rfl rfl (by omega) (by omega)) ?_
    refine go ?_
    intro b98
    refine q_frz (frz_two (b := b98) (f := 0) (c := 2)) (h := ?_)
    refine go ?_
    refine q_call (rBetween_ok (xs := [cset, cother]) (lo := 0) (hi := ((1 <<< m : Nat) : Int) - 1) (by simp)) (next := fun _ _ => ?_)
    refine go ?_
    first | with_reducible refine g_d (fun g1 => ?_) (fun g1 => ?_) | with_reducible refine g_n (fun g1 => ?_) (fun g1 => ?_) | with_reducible refine g_b (fun g1 => ?_) (fun g1 => ?_)
    · refine go ?_
      exact q_fin false (hv := rfl) (hp := ⟨(fun h => by cases h), fun h => by rw [(hall'.1 h).1] at g1; cases g1⟩)
    refine go ?_
    intro b106
    refine q_frz (frz_two (b := b106) (f := 0) (c := 2)) (h := ?_)
    refine q_call (rBetween_ok (xs := [clo, chi]) (lo := 0) (hi := 65536) (by simp)) (next := fun _ _ => ?_)
    refine go ?_
    first | with_reducible refine g_d (fun g2 => ?_) (fun g2 => ?_) | with_reducible refine g_n (fun g2 => ?_) (fun g2 => ?_) | with_reducible refine g_b (fun g2 => ?_) (fun g2 => ?_)
    · refine go ?_
      exact q_fin false (hv := rfl) (hp := ⟨(fun h => by cases h), fun h => by rw [(hall'.1 h).2.1] at g2; cases g2⟩)
    refine go ?_
    first | with_reducible refine g_d (fun g3 => ?_) (fun g3 => ?_) | with_reducible refine g_n (fun g3 => ?_) (fun g3 => ?_) | with_reducible refine g_b (fun g3 => ?_) (fun g3 => ?_)
    · refine go ?_
      exact q_fin false (hv := rfl) (hp := ⟨(fun h => by cases h), fun h => by have := (hall'.1 h).2.2.1; omega⟩)
    refine go ?_
    refine q_call (rBetween_ok (xs := runs) (lo := 1) (hi := 256) hrl) (next := fun _ _ => ?_)
    refine go ?_
    refine q_fin (wit runs 1 256) (hv := rfl) (hp := ?_)
    rw [hall']
    exact ⟨fun h => ⟨g1, g2, by omega, h⟩, fun h => h.2.2.2⟩
  · refine go ?_
    refine if_d rfl (fun e0 => ?_) (fun e0 => ?_)
    · refine go ?_
      refine q_fin false (hv := rfl) (hp := ⟨(fun h => by cases h), fun h => False.elim ?_⟩)
      have := h.two (show (6 : Int) = 6 ∨ (6 : Int) = 7 by omega)
      exact e0 (by show (cells.length : Int) = 2; dsimp only at this; omega)
    refine go ?_
    refine q_loop (fun k => cells.length - k) (fun k : Nat => [(7, .int .i64 (k : Int))]) (fun _ => []) (fun _ => []) (fun k => k ≤ cells.length) 0 (Nat.zero_le _) (body := ?_)
    intro k hk
    refine go ?_
    refine if_d rfl (fun e1 => ?_) (fun e1 => ?_)
    · refine go ?_
      exact q_again (k + 1) (by omega) (by omega)
    have hall' := fine_iff (qc := qc) (m := m) (kd := 6) (cells := cells) (cset := cset) (cother := cother) (clo := clo) (chi := chi) (runs := runs) (crule := crule) (cat := cat) hsh hcell h5 (by omega) (fun _ => by omega) (fun h => by omega) (fun h => by omega)
    refine go ?_
    refine q_p (p_shl (a := 1) (b := m) rfl rfl (by omega) (by omega)) ?_
    refine go ?_
    intro b98
    refine q_frz (frz_two (b := b98) (f := 0) (c := 2)) (h := ?_)
    refine go ?_
    refine q_call (rBetween_ok (xs := [cset, cother]) (lo := 0) (hi := ((1 <<< m : Nat) : Int) - 1) (by simp)) (next := fun _ _ => ?_)
    refine go ?_
    first | with_reducible refine g_d (fun g1 => ?_) (fun g1 => ?_) | with_reducible refine g_n (fun g1 => ?_) (fun g1 => ?_) | with_reducible refine g_b (fun g1 => ?_) (fun g1 => ?_)
    · refine go ?_
      exact q_fin false (hv := rfl) (hp := ⟨(fun h => by cases h), fun h => by rw [(hall'.1 h).1] at g1; cases g1⟩)
    refine go ?_
    intro b106
    refine q_frz (frz_two (b := b106) (f := 0) (c := 2)) (h := ?_)
    refine q_call (rBetween_ok (xs := [clo, chi]) (lo := 0) (hi := 65536) (by simp)) (next := fun _ _ => ?_)
    refine go ?_
    first | with_reducible refine g_d (fun g2 => ?_) (fun g2 => ?_) | with_reducible refine g_n (fun g2 => ?_) (fun g2 => ?_) | with_reducible refine g_b (fun g2 => ?_) (fun g2 => ?_)
    · refine go ?_
      exact q_fin false (hv := rfl) (hp := ⟨(fun h => by cases h), fun h => by rw [(hall'.1 h).2.1] at g2; cases g2⟩)
    refine go ?_
    first | with_reducible refine g_d (fun g3 => ?_) (fun g3 => ?_) | with_reducible refine g_n (fun g3 => ?_) (fun g3 => ?_) | with_reducible refine g_b (fun g3 => ?_) (fun g3 => ?_)
    · refine go ?_
      exact q_fin false (hv := rfl) (hp := ⟨(fun h => by cases h), fun h => by have := (hall'.1 h).2.2.1; omega⟩)
    refine go ?_
    refine q_call (rBetween_ok (xs := runs) (lo := 1) (hi := 256) hrl) (next := fun _ _ => ?_)
    refine go ?_
    refine q_fin (wit runs 1 256) (hv := rfl) (hp := ?_)
    rw [hall']
    exact ⟨fun h => ⟨g1, g2, by omega, h⟩, fun h => h.2.2.2⟩
  · refine go ?_
    refine if_d rfl (fun e0 => ?_) (fun e0 => ?_)
    · refine go ?_
      refine q_fin false (hv := rfl) (hp := ⟨(fun h => by cases h), fun h => False.elim ?_⟩)
      have := h.two (show (7 : Int) = 6 ∨ (7 : Int) = 7 by omega)
      exact e0 (by show (cells.length : Int) = 2; dsimp only at this; omega)
    refine go ?_
    refine q_loop (fun k => cells.length - k) (fun k : Nat => [(7, .int .i64 (k : Int))]) (fun _ => []) (fun _ => []) (fun k => k ≤ cells.length) 0 (Nat.zero_le _) (body := ?_)
    intro k hk
    refine go ?_
    refine if_d rfl (fun e1 => ?_) (fun e1 => ?_)
    · refine go ?_
      exact q_again (k + 1) (by omega) (by omega)
    have hall' := fine_iff (qc := qc) (m := m) (kd := 7) (cells := cells) (cset := cset) (cother := cother) (clo := clo) (chi := chi) (runs := runs) (crule := crule) (cat := cat) hsh hcell h5 (by omega) (fun _ => by omega) (fun h => by omega) (fun h => by omega)
    refine go ?_
    refine q_p (p_shl (a := 1) (b := m) rfl rfl (by omega) (by omega)) ?_
    refine go ?_
    intro b98
    refine q_frz (frz_two (b := b98) (f := 0) (c := 2)) (h := ?_)
    refine go ?_
    refine q_call (rBetween_ok (xs := [cset, cother]) (lo := 0) (hi := ((1 <<< m : Nat) : Int) - 1) (by simp)) (next := fun _ _ => ?_)
    refine go ?_
    first | with_reducible refine g_d (fun g1 => ?_) (fun g1 => ?_) | with_reducible refine g_n (fun g1 => ?_) (fun g1 => ?_) | with_reducible refine g_b (fun g1 => ?_) (fun g1 => ?_)
    · refine go ?_
      exact q_fin false (hv := rfl) (hp := ⟨(fun h => by cases h), fun h => by rw [(hall'.1 h).1] at g1; cases g1⟩)
    refine go ?_
    intro b106
    refine q_frz (frz_two (b := b106) (f := 0) (c := 2)) (h := ?_)
    refine q_call (rBetween_ok (xs := [clo, chi]) (lo := 0) (hi := 65536) (by simp)) (next := fun _ _ => ?_)
    refine go ?_
    first | with_reducible refine g_d (fun g2 => ?_) (fun g2 => ?_) | with_reducible refine g_n (fun g2 => ?_) (fun g2 => ?_) | with_reducible refine g_b (fun g2 => ?_) (fun g2 => ?_)
    · refine go ?_
      exact q_fin false (hv := rfl) (hp := ⟨(fun h => by cases h), fun h => by rw [(hall'.1 h).2.1] at g2; cases g2⟩)
    refine go ?_
    first | with_reducible refine g_d (fun g3 => ?_) (fun g3 => ?_) | with_reducible refine g_n (fun g3 => ?_) (fun g3 => ?_) | with_reducible refine g_b (fun g3 => ?_) (fun g3 => ?_)
    · refine go ?_
      exact q_fin false (hv := rfl) (hp := ⟨(fun h => by cases h), fun h => by have := (hall'.1 h).2.2.1; omega⟩)
    refine go ?_
    refine q_call (rBetween_ok (xs := runs) (lo := 1) (hi := 256) hrl) (next := fun _ _ => ?_)
    refine go ?_
    refine q_fin (wit runs 1 256) (hv := rfl) (hp := ?_)
    rw [hall']
    exact ⟨fun h => ⟨g1, g2, by omega, h⟩, fun h => h.2.2.2⟩
  · refine go ?_
    refine if_d rfl (fun e0 => ?_) (fun e0 => ?_)
    · refine go ?_
      refine q_fin false (hv := rfl) (hp := ⟨(fun h => by cases h), fun h => False.elim ?_⟩)
      exact e0 (h.all (show (8 : Int) ≤ 8 by omega))
    refine go ?_
    refine q_loop (fun k => cells.length - k) (fun k : Nat => [(7, .int .i64 (k : Int))]) (fun _ => []) (fun _ => []) (fun k => k ≤ cells.length ∧ ∀ (i : Nat) x, i < k → cells[i]? = some x → x = i) 0 ⟨Nat.zero_le _, fun i x hi => by omega⟩ (body := ?_)
    rintro k ⟨hk, ho⟩
    refine go ?_
    refine if_d rfl (fun e1 => ?_) (fun e1 => ?_)
    · refine go ?_
      intro _ _ x hx
      refine go ?_
      refine if_d rfl (fun e2 => ?_) (fun e2 => ?_)
      · refine go ?_
        refine q_fin false (hv := rfl) (hp := ⟨(fun h => by cases h), fun h => False.elim ?_⟩)
        exact e2 ((h.cell k x hx).2.2 (show (8 : Int) ≤ 8 by omega))
      refine go ?_
      refine q_again (k + 1) (by omega) ⟨by omega, fun i y hi hy => ?_⟩
      by_cases e : i = k
      · subst e
        rw [hx] at hy
        cases hy; omega
      · exact ho i y (by omega) hy
    have hall' := fine_iff (qc := qc) (m := m) (kd := 8) (cells := cells) (cset := cset) (cother := cother) (clo := clo) (chi := chi) (runs := runs) (crule := crule) (cat := cat) hsh hcell h5 (by omega) (fun h => by omega) (fun _ => by omega) (fun _ i x hx => ho i x (by have := (List.getElem?_eq_some_iff.1 hx).1; omega) hx)
    refine go ?_
    refine q_p (p_shl (a := 1) (b := m) rfl rfl (by omega) (by omega)) ?_
    refine go ?_
    intro b98
    refine q_frz (frz_two (b := b98) (f := 0) (c := 2)) (h := ?_)
    refine go ?_
    refine q_call (rBetween_ok (xs := [cset, cother]) (lo := 0) (hi := ((1 <<< m : Nat) : Int) - 1) (by simp)) (next := fun _ _ => ?_)
    refine go ?_
    first | with_reducible refine g_d (fun g1 => ?_) (fun g1 => ?_) | with_reducible refine g_n (fun g1 => ?_) (fun g1 => ?_) | with_reducible refine g_b (fun g1 => ?_) (fun g1 => ?_)
    · refine go ?_
      exact q_fin false (hv := rfl) (hp := ⟨(fun h => by cases h), fun h => by rw [(hall'.1 h).1] at g1; cases g1⟩)
    refine go ?_
    intro b106
    refine q_frz (frz_two (b := b106) (f := 0) (c := 2)) (h := ?_)
    refine q_call (rBetween_ok (xs := [clo, chi]) (lo := 0) (hi := 65536) (by simp)) (next := fun _ _ => ?_)
    refine go ?_
    first | with_reducible refine g_d (fun g2 => ?_) (fun g2 => ?_) | with_reducible refine g_n (fun g2 => ?_) (fun g2 => ?_) | with_reducible refine g_b (fun g2 => ?_) (fun g2 => ?_)
    · refine go ?_
      exact q_fin false (hv := rfl) (hp := ⟨(fun h => by cases h), fun h => by rw [(hall'.1 h).2.1] at g2; cases g2⟩)
    refine go ?_
    first | with_reducible refine g_d (fun g3 => ?_) (fun g3 => ?_) | with_reducible refine g_n (fun g3 => ?_) (fun g3 => ?_) | with_reducible refine g_b (fun g3 => ?_) (fun g3 => ?_)
    · refine go ?_
      exact q_fin false (hv := rfl) (hp := ⟨(fun h => by cases h), fun h => by have := (hall'.1 h).2.2.1; omega⟩)
    refine go ?_
    refine q_call (rBetween_ok (xs := runs) (lo := 1) (hi := 256) hrl) (next := fun _ _ => ?_)
    refine go ?_
    refine q_fin (wit runs 1 256) (hv := rfl) (hp := ?_)
    rw [hall']
    exact ⟨fun h => ⟨g1, g2, by omega, h⟩, fun h => h.2.2.2⟩
  · refine go ?_
    refine if_d rfl (fun e0 => ?_) (fun e0 => ?_)
    · refine go ?_
      refine q_fin false (hv := rfl) (hp := ⟨(fun h => by cases h), fun h => False.elim ?_⟩)
      exact e0 (h.all (show (8 : Int) ≤ 9 by omega))
    refine go ?_
    refine q_loop (fun k => cells.length - k) (fun k : Nat => [(7, .int .i64 (k : Int))]) (fun _ => []) (fun _ => []) (fun k => k ≤ cells.length ∧ ∀ (i : Nat) x, i < k → cells[i]? = some x → x = i) 0 ⟨Nat.zero_le _, fun i x hi => by omega⟩ (body := ?_)
    rintro k ⟨hk, ho⟩
    refine go ?_
    refine if_d rfl (fun e1 => ?_) (fun e1 => ?_)
    · refine go ?_
      intro _ _ x hx
      refine go ?_
      refine if_d rfl (fun e2 => ?_) (fun e2 => ?_)
      · refine go ?_
        refine q_fin false (hv := rfl) (hp := ⟨(fun h => by cases h), fun h => False.elim ?_⟩)
        exact e2 ((h.cell k x hx).2.2 (show (8 : Int) ≤ 9 by omega))
      refine go ?_
      refine q_again (k + 1) (by omega) ⟨by omega, fun i y hi hy => ?_⟩
      by_cases e : i = k
      · subst e
        rw [hx] at hy
        cases hy; omega
      · exact ho i y (by omega) hy
    have hall' := fine_iff (qc := qc) (m := m) (kd := 9) (cells := cells) (cset := cset) (cother := cother) (clo := clo) (chi := chi) (runs := runs) (crule := crule) (cat := cat) hsh hcell h5 (by omega) (fun h => by omega) (fun _ => by omega) (fun _ i x hx => ho i x (by have := (List.getElem?_eq_some_iff.1 hx).1; omega) hx)
    refine go ?_
    refine q_p (p_shl (a := 1) (b := m) rfl rfl (by omega) (by omega)) ?_
    refine go ?_
    intro b98
    refine q_frz (frz_two (b := b98) (f := 0) (c := 2)) (h := ?_)
    refine go ?_
    refine q_call (rBetween_ok (xs := [cset, cother]) (lo := 0) (hi := ((1 <<< m : Nat) : Int) - 1) (by simp)) (next := fun _ _ => ?_)
    refine go ?_
    first | with_reducible refine g_d (fun g1 => ?_) (fun g1 => ?_) | with_reducible refine g_n (fun g1 => ?_) (fun g1 => ?_) | with_reducible refine g_b (fun g1 => ?_) (fun g1 => ?_)
    · refine go ?_
      exact q_fin false (hv := rfl) (hp := ⟨(fun h => by cases h), fun h => by rw [(hall'.1 h).1] at g1; cases g1⟩)
    refine go ?_
    intro b106
    refine q_frz (frz_two (b := b106) (f := 0) (c := 2)) (h := ?_)
    refine q_call (rBetween_ok (xs := [clo, chi]) (lo := 0) (hi := 65536) (by simp)) (next := fun _ _ => ?_)
    refine go ?_
    first | with_reducible refine g_d (fun g2 => ?_) (fun g2 => ?_) | with_reducible refine g_n (fun g2 => ?_) (fun g2 => ?_) | with_reducible refine g_b (fun g2 => ?_) (fun g2 => ?_)
    · refine go ?_
      exact q_fin false (hv := rfl) (hp := ⟨(fun h => by cases h), fun h => by rw [(hall'.1 h).2.1] at g2; cases g2⟩)
    refine go ?_
    first | with_reducible refine g_d (fun g3 => ?_) (fun g3 => ?_) | with_reducible refine g_n (fun g3 => ?_) (fun g3 => ?_) | with_reducible refine g_b (fun g3 => ?_) (fun g3 => ?_)
    · refine go ?_
      exact q_fin false (hv := rfl) (hp := ⟨(fun h => by cases h), fun h => by have := (hall'.1 h).2.2.1; omega⟩)
    refine go ?_
    refine q_call (rBetween_ok (xs := runs) (lo := 1) (hi := 256) hrl) (next := fun _ _ => ?_)
    refine go ?_
    refine q_fin (wit runs 1 256) (hv := rfl) (hp := ?_)
    rw [hall']
    exact ⟨fun h => ⟨g1, g2, by omega, h⟩, fun h => h.2.2.2⟩


theorem rValid19_ok {q : Prob} {vv vn vc : Value} (hs : ProbS q) :
    FnC Tryz.prog (.func 105) [.agg ⟨probL q vv vn vc⟩] [] [] [fSl intE vv q.values, fSl (slE intE) vn q.nbs, fSl consE vc q.cons] (fun b : Bool => .int .i64 (if b then 0 else 191)) (fun _ => []) (fun _ => []) (fun b => (b = true ↔ ProbOK q)) := by
  refine q_beg c_rValid19 f_rValid19 fun B w0 => ?_
  refine go ?_
  intro b1
  refine q_frz (frz_pt (b := b1)) (h := ?_)
  refine go ?_
  first | with_reducible refine g_d (fun h1 => ?_) (fun h1 => ?_) | with_reducible refine g_n (fun h1 => ?_) (fun h1 => ?_) | with_reducible refine g_b (fun h1 => ?_) (fun h1 => ?_)
  rotate_left
  · refine go ?_
    exact q_fin false (hv := rfl) (hp := ⟨(fun h => by cases h), fun h => by have := h.cells; omega⟩)
  refine go ?_
  first | with_reducible refine g_d (fun h2 => ?_) (fun h2 => ?_) | with_reducible refine g_n (fun h2 => ?_) (fun h2 => ?_) | with_reducible refine g_b (fun h2 => ?_) (fun h2 => ?_)
  rotate_left
  · refine go ?_
    exact q_fin false (hv := rfl) (hp := ⟨(fun h => by cases h), fun h => by have := h.cells; omega⟩)
  refine go ?_
  first | with_reducible refine g_d (fun h3 => ?_) (fun h3 => ?_) | with_reducible refine g_n (fun h3 => ?_) (fun h3 => ?_) | with_reducible refine g_b (fun h3 => ?_) (fun h3 => ?_)
  rotate_left
  · refine go ?_
    exact q_fin false (hv := rfl) (hp := ⟨(fun h => by cases h), fun h => by have := h.symbols; omega⟩)
  refine go ?_
  first | with_reducible refine g_d (fun h4 => ?_) (fun h4 => ?_) | with_reducible refine g_n (fun h4 => ?_) (fun h4 => ?_) | with_reducible refine g_b (fun h4 => ?_) (fun h4 => ?_)
  rotate_left
  · refine go ?_
    exact q_fin false (hv := rfl) (hp := ⟨(fun h => by cases h), fun h => by have := h.symbols; omega⟩)
  refine go ?_
  first | with_reducible refine g_d (fun h5 => ?_) (fun h5 => ?_) | with_reducible refine g_n (fun h5 => ?_) (fun h5 => ?_) | with_reducible refine g_b (fun h5 => ?_) (fun h5 => ?_)
  rotate_left
  · refine go ?_
    exact q_fin false (hv := rfl) (hp := ⟨(fun h => by cases h), fun h => by have := h.vlen; omega⟩)
  refine go ?_
  refine q_call (rBetween_ok (xs := q.values) (lo := 0) (hi := 99) hs.values) (next := fun _ _ => ?_)
  refine go ?_
  refine if_b rfl (fun h6 => ?_) (fun h6 => ?_)
  · refine go ?_
    refine q_fin false (hv := rfl) (hp := ⟨(fun h => by cases h), fun h => ?_⟩)
    have : wit q.values 0 99 = true := decide_eq_true h.vals
    rw [this] at h6; cases h6
  have hvals : ∀ v ∈ q.values, 0 ≤ v ∧ v ≤ 99 := of_decide_eq_true (by simpa [wit] using h6)
  refine go ?_
  first | with_reducible refine g_d (fun h7 => ?_) (fun h7 => ?_) | with_reducible refine g_n (fun h7 => ?_) (fun h7 => ?_) | with_reducible refine g_b (fun h7 => ?_) (fun h7 => ?_)
  rotate_left
  · refine go ?_
    exact q_fin false (hv := rfl) (hp := ⟨(fun h => by cases h), fun h => by have := h.nlen; omega⟩)
  refine go ?_
  refine q_call (rCheck_ok (g := q.nbs) hs.nbs) (next := fun b hb => ?_)
  cases b with
  | false =>
    refine go ?_
    exact q_fin false (hv := rfl) (hp := ⟨(fun h => by cases h), fun h => absurd (hb.2 h.graph) (by simp)⟩)
  | true =>
  have hG := hb.1 rfl
  refine go ?_
  refine if_d rfl (fun h8 => ?_) (fun h8 => ?_)
  · refine go ?_
    exact q_fin false (hv := rfl) (hp := ⟨(fun h => by cases h), fun h => by have := h.many; omega⟩)
  obtain ⟨m, hm⟩ := Int.eq_ofNat_of_zero_le (show 0 ≤ q.symbols by omega)
  refine go ?_
  refine q_loop (fun k => q.cons.length - k) (fun k : Nat => [(3, .int .i64 (k : Int))]) (fun _ => []) (fun _ => []) (fun k => k ≤ q.cons.length ∧ ∀ c ∈ q.cons.take k, FineC q.cells q.symbols c) 0 ⟨Nat.zero_le _, by simp⟩ (body := ?_)
  rintro k ⟨hk, hall⟩
  refine go ?_
  refine if_d rfl (fun h9 => ?_) (fun h9 => ?_)
  · refine go ?_
    refine q_idx consE (next := fun _ _ c (y : Value × Value) hc => ?_)
    refine go ?_
    rw [hm]
    refine q_call (rFine_ok (qc := q.cells) (m := m) (c := c) ⟨by omega, by omega⟩ ⟨by omega, by omega⟩ (hs.con c (List.mem_of_getElem? hc))) (next := fun b hb => ?_)
    rw [← hm] at hb
    cases b with
    | false =>
      refine go ?_
      exact q_fin false (hv := rfl) (hp := ⟨(fun h => by cases h), fun h => absurd (hb.2 (h.fine c (List.mem_of_getElem? hc))) (by simp)⟩)
    | true =>
      refine go ?_
      refine q_again (k + 1) (by omega) ⟨by omega, fun d hd => ?_⟩
      rw [take_one hc, List.mem_append] at hd
      rcases hd with hd | hd
      · rw [← hm]; exact hall d hd
      · rw [List.mem_singleton.1 hd, ← hm]; exact hb.1 rfl
  have hkl : k = q.cons.length := by omega
  subst hkl
  rw [List.take_length] at hall
  refine go ?_
  refine q_fin true (hv := rfl) (hp := ⟨fun _ => ?_, fun _ => rfl⟩)
  exact { cells := ⟨by omega, by omega⟩, symbols := ⟨by omega, by omega⟩, vlen := by omega, vals := hvals, nlen := by omega, graph := hG, many := by omega, fine := hall }

theorem rValid_ok {q : Prob} {vv vn vc vg : Value} {grid : List Int} (hs : ProbS q) (hl : grid.length < 9223372036854775808) :
    FnC Tryz.prog (.func 47) [.agg ⟨probL q vv vn vc⟩, vg] [] [] [fSl intE vv q.values, fSl (slE intE) vn q.nbs, fSl consE vc q.cons, fSl intE vg grid] (fun r : Int => .int .i64 r) (fun _ => []) (fun _ => [])
      (fun r => (¬ ProbOK q → r = 191) ∧ (ProbOK q → ¬ Fin q.cells q.symbols grid → r = 200) ∧ (ProbOK q → Fin q.cells q.symbols grid → r = 0)) := by
  refine q_beg c_rValid f_rValid fun B w0 => ?_
  refine go ?_
  intro b2
  refine q_call (rValid19_ok (q := q) hs) (next := fun b hb => ?_)
  cases b with
  | false =>
    have hn : ¬ ProbOK q := fun h => absurd (hb.2 h) (by simp)
    refine go ?_
    exact q_fin 191 (hv := rfl) (hp := ⟨fun _ => rfl, fun h => absurd h hn, fun h => absurd h hn⟩)
  | true =>
    have hok := hb.1 rfl
    refine go ?_
    refine q_call (rFin_ok (cells := q.cells) (symbols := q.symbols) hl) (next := fun b hb => ?_)
    cases b with
    | false =>
      have hn : ¬ Fin q.cells q.symbols grid := fun h => absurd (hb.2 h) (by simp)
      refine go ?_
      exact q_fin 200 (hv := rfl) (hp := ⟨fun h => absurd hok h, fun _ _ => rfl, fun _ h => absurd h hn⟩)
    | true =>
      refine go ?_
      exact q_fin 0 (hv := rfl) (hp := ⟨fun h => absurd hok h, fun _ h => absurd (hb.1 rfl) h, fun _ _ => rfl⟩)
end Go.Proofs.YtpkieeggilkagaaGreat

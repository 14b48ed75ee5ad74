/-
  The reference: constraints met, problems solved.
-/
import Derived.Test.YtpkieeggilkagaaGreatMeanR7
set_option linter.unusedSimpArgs false
set_option linter.unusedVariables false
set_option maxHeartbeats 2000000
set_option maxRecDepth 10000
namespace Go.Proofs.YtpkieeggilkagaaGreat
open Go.Ideal Gph

noncomputable def c_rMet : CFunc := ⟨161, [(.tmp 6)], (.seq (.ops [3, 4, 6] [⟨⟨(some 3), none, (.box (.tmp 0) 50)⟩, []⟩, ⟨⟨(some 4), none, (.box (.tmp 1) 57)⟩, []⟩, ⟨⟨(some 6), none, (.asg (.const (.bool false)))⟩, []⟩]) (.seq (.seq (.ops [11, 12] [⟨⟨(some 11), none, (.fieldA 0 (.tmp 4))⟩, []⟩, ⟨⟨(some 12), none, (.load1 (.tmp 11))⟩, []⟩]) (.block 0 (.seq (.ops [14, 13] [⟨⟨(some 14), none, (.bin .eql 3 (.tmp 12) (.const (.int .i64 1)))⟩, []⟩, ⟨⟨(some 13), none, (.asg (.tmp 14))⟩, []⟩]) (.cond (.tmp 13) (.seq (.ops [15, 16, 17, 18, 6] [⟨⟨(some 15), none, (.mv (.tmp 2))⟩, []⟩, ⟨⟨(some 16), none, (.fieldA 1 (.tmp 4))⟩, []⟩, ⟨⟨(some 17), none, (.load1 (.tmp 16))⟩, []⟩, ⟨⟨(some 18), none, (.call (.func 106) [(.tmp 15), (.tmp 17)])⟩, []⟩, ⟨⟨(some 6), none, (.asg (.tmp 18))⟩, []⟩]) .ret) (.seq (.ops [20, 19] [⟨⟨(some 20), none, (.bin .eql 3 (.tmp 12) (.const (.int .i64 2)))⟩, []⟩, ⟨⟨(some 19), none, (.asg (.tmp 20))⟩, []⟩]) (.cond (.tmp 19) (.seq (.ops [21, 22, 23, 24, 25, 26, 7] [⟨⟨(some 21), none, (.mv (.tmp 2))⟩, []⟩, ⟨⟨(some 22), none, (.fieldA 1 (.tmp 4))⟩, []⟩, ⟨⟨(some 23), none, (.load1 (.tmp 22))⟩, []⟩, ⟨⟨(some 24), none, (.fieldA 2 (.tmp 4))⟩, []⟩, ⟨⟨(some 25), none, (.load1 (.tmp 24))⟩, []⟩, ⟨⟨(some 26), none, (.call (.func 107) [(.tmp 21), (.tmp 23), (.tmp 25)])⟩, []⟩, ⟨⟨(some 7), none, (.asg (.tmp 26))⟩, []⟩]) (.seq (.ops [27, 28, 29, 30, 31, 32, 33, 34, 35, 36, 6] [⟨⟨(some 27), none, (.fieldA 4 (.tmp 4))⟩, []⟩, ⟨⟨(some 28), none, (.load1 (.tmp 27))⟩, []⟩, ⟨⟨(some 29), none, (.mv (.tmp 7))⟩, []⟩, ⟨⟨(some 30), none, (.bin .leq 3 (.tmp 28) (.tmp 29))⟩, []⟩, ⟨⟨(some 31), none, (.mv (.tmp 30))⟩, []⟩, ⟨⟨(some 32), (some ⟨31, true⟩), (.mv (.tmp 7))⟩, []⟩, ⟨⟨(some 33), (some ⟨31, true⟩), (.fieldA 5 (.tmp 4))⟩, []⟩, ⟨⟨(some 34), (some ⟨31, true⟩), (.load1 (.tmp 33))⟩, []⟩, ⟨⟨(some 35), (some ⟨31, true⟩), (.bin .leq 3 (.tmp 32) (.tmp 34))⟩, []⟩, ⟨⟨(some 36), none, (.pick (.tmp 31) (.tmp 35) (.const (.bool false)))⟩, []⟩, ⟨⟨(some 6), none, (.asg (.tmp 36))⟩, []⟩]) .ret)) (.seq (.ops [38, 37] [⟨⟨(some 38), none, (.bin .eql 3 (.tmp 12) (.const (.int .i64 3)))⟩, []⟩, ⟨⟨(some 37), none, (.asg (.tmp 38))⟩, []⟩]) (.cond (.tmp 37) (.seq (.ops [39, 40, 41, 42, 43, 44, 8] [⟨⟨(some 39), none, (.fieldA 2 (.tmp 3))⟩, []⟩, ⟨⟨(some 40), none, (.load1 (.tmp 39))⟩, []⟩, ⟨⟨(some 41), none, (.mv (.tmp 2))⟩, []⟩, ⟨⟨(some 42), none, (.fieldA 1 (.tmp 4))⟩, []⟩, ⟨⟨(some 43), none, (.load1 (.tmp 42))⟩, []⟩, ⟨⟨(some 44), none, (.call (.func 108) [(.tmp 40), (.tmp 41), (.tmp 43)])⟩, []⟩, ⟨⟨(some 8), none, (.asg (.tmp 44))⟩, []⟩]) (.seq (.ops [45, 46, 47, 48, 49, 50, 51, 52, 53, 54, 6] [⟨⟨(some 45), none, (.fieldA 4 (.tmp 4))⟩, []⟩, ⟨⟨(some 46), none, (.load1 (.tmp 45))⟩, []⟩, ⟨⟨(some 47), none, (.mv (.tmp 8))⟩, []⟩, ⟨⟨(some 48), none, (.bin .leq 3 (.tmp 46) (.tmp 47))⟩, []⟩, ⟨⟨(some 49), none, (.mv (.tmp 48))⟩, []⟩, ⟨⟨(some 50), (some ⟨49, true⟩), (.mv (.tmp 8))⟩, []⟩, ⟨⟨(some 51), (some ⟨49, true⟩), (.fieldA 5 (.tmp 4))⟩, []⟩, ⟨⟨(some 52), (some ⟨49, true⟩), (.load1 (.tmp 51))⟩, []⟩, ⟨⟨(some 53), (some ⟨49, true⟩), (.bin .leq 3 (.tmp 50) (.tmp 52))⟩, []⟩, ⟨⟨(some 54), none, (.pick (.tmp 49) (.tmp 53) (.const (.bool false)))⟩, []⟩, ⟨⟨(some 6), none, (.asg (.tmp 54))⟩, []⟩]) .ret)) (.seq (.ops [56, 55] [⟨⟨(some 56), none, (.bin .eql 3 (.tmp 12) (.const (.int .i64 4)))⟩, []⟩, ⟨⟨(some 55), none, (.asg (.tmp 56))⟩, []⟩]) (.cond (.tmp 55) (.seq (.ops [57, 58, 59, 60, 61, 62, 6] [⟨⟨(some 57), none, (.fieldA 2 (.tmp 3))⟩, []⟩, ⟨⟨(some 58), none, (.load1 (.tmp 57))⟩, []⟩, ⟨⟨(some 59), none, (.mv (.tmp 2))⟩, []⟩, ⟨⟨(some 60), none, (.fieldA 1 (.tmp 4))⟩, []⟩, ⟨⟨(some 61), none, (.load1 (.tmp 60))⟩, []⟩, ⟨⟨(some 62), none, (.call (.func 109) [(.tmp 58), (.tmp 59), (.tmp 61)])⟩, []⟩, ⟨⟨(some 6), none, (.asg (.tmp 62))⟩, []⟩]) .ret) (.seq (.ops [64, 63] [⟨⟨(some 64), none, (.bin .eql 3 (.tmp 12) (.const (.int .i64 5)))⟩, []⟩, ⟨⟨(some 63), none, (.asg (.tmp 64))⟩, []⟩]) (.cond (.tmp 63) (.seq (.ops [65, 66, 67, 68, 69, 70, 71, 72, 73, 6] [⟨⟨(some 65), none, (.mv (.tmp 2))⟩, []⟩, ⟨⟨(some 66), none, (.fieldA 1 (.tmp 4))⟩, []⟩, ⟨⟨(some 67), none, (.load1 (.tmp 66))⟩, []⟩, ⟨⟨(some 68), none, (.fieldA 2 (.tmp 4))⟩, []⟩, ⟨⟨(some 69), none, (.load1 (.tmp 68))⟩, []⟩, ⟨⟨(some 71), none, (.fieldA 6 (.tmp 4))⟩, []⟩, ⟨⟨(some 72), none, (.load1 (.tmp 71))⟩, []⟩, ⟨⟨(some 70), none, (.call (.func 32) [(.tmp 65), (.tmp 67), (.tmp 69)])⟩, [⟨(some 72), none, (.load1 (.tmp 71))⟩]⟩, ⟨⟨(some 73), none, (.call (.func 19) [(.tmp 70), (.tmp 72)])⟩, []⟩, ⟨⟨(some 6), none, (.asg (.tmp 73))⟩, []⟩]) .ret) (.seq (.ops [75, 74] [⟨⟨(some 75), none, (.bin .eql 3 (.tmp 12) (.const (.int .i64 6)))⟩, []⟩, ⟨⟨(some 74), none, (.asg (.tmp 75))⟩, []⟩]) (.cond (.tmp 74) (.seq (.ops [76, 77, 78, 79, 80, 81, 82, 83, 84, 85, 86, 87, 88, 89, 90, 91, 92, 93, 94, 95, 96, 97, 98, 99, 100, 6] [⟨⟨(some 76), none, (.fieldA 2 (.tmp 3))⟩, []⟩, ⟨⟨(some 77), none, (.load1 (.tmp 76))⟩, []⟩, ⟨⟨(some 78), none, (.mv (.tmp 2))⟩, []⟩, ⟨⟨(some 79), none, (.fieldA 1 (.tmp 4))⟩, []⟩, ⟨⟨(some 80), none, (.load1 (.tmp 79))⟩, []⟩, ⟨⟨(some 81), none, (.idxSl 1 (.tmp 80) (.const (.int .i64 0)))⟩, []⟩, ⟨⟨(some 82), none, (.load1 (.tmp 81))⟩, []⟩, ⟨⟨(some 83), none, (.idxSl 1 (.tmp 78) (.tmp 82))⟩, []⟩, ⟨⟨(some 84), none, (.load1 (.tmp 83))⟩, []⟩, ⟨⟨(some 85), none, (.idxSl 1 (.tmp 77) (.tmp 84))⟩, []⟩, ⟨⟨(some 86), none, (.load1 (.tmp 85))⟩, []⟩, ⟨⟨(some 87), none, (.fieldA 2 (.tmp 3))⟩, []⟩, ⟨⟨(some 88), none, (.load1 (.tmp 87))⟩, []⟩, ⟨⟨(some 89), none, (.mv (.tmp 2))⟩, []⟩, ⟨⟨(some 90), none, (.fieldA 1 (.tmp 4))⟩, []⟩, ⟨⟨(some 91), none, (.load1 (.tmp 90))⟩, []⟩, ⟨⟨(some 92), none, (.idxSl 1 (.tmp 91) (.const (.int .i64 1)))⟩, []⟩, ⟨⟨(some 93), none, (.load1 (.tmp 92))⟩, []⟩, ⟨⟨(some 94), none, (.idxSl 1 (.tmp 89) (.tmp 93))⟩, []⟩, ⟨⟨(some 95), none, (.load1 (.tmp 94))⟩, []⟩, ⟨⟨(some 96), none, (.idxSl 1 (.tmp 88) (.tmp 95))⟩, []⟩, ⟨⟨(some 97), none, (.load1 (.tmp 96))⟩, []⟩, ⟨⟨(some 98), none, (.fieldA 4 (.tmp 4))⟩, []⟩, ⟨⟨(some 99), none, (.load1 (.tmp 98))⟩, []⟩, ⟨⟨(some 100), none, (.call (.func 110) [(.tmp 86), (.tmp 97), (.tmp 99)])⟩, []⟩, ⟨⟨(some 6), none, (.asg (.tmp 100))⟩, []⟩]) .ret) (.seq (.ops [102, 101] [⟨⟨(some 102), none, (.bin .eql 3 (.tmp 12) (.const (.int .i64 7)))⟩, []⟩, ⟨⟨(some 101), none, (.asg (.tmp 102))⟩, []⟩]) (.cond (.tmp 101) (.seq (.ops [103, 104, 105, 106, 107, 108, 109, 9] [⟨⟨(some 103), none, (.mv (.tmp 2))⟩, []⟩, ⟨⟨(some 104), none, (.fieldA 1 (.tmp 4))⟩, []⟩, ⟨⟨(some 105), none, (.load1 (.tmp 104))⟩, []⟩, ⟨⟨(some 106), none, (.idxSl 1 (.tmp 105) (.const (.int .i64 0)))⟩, []⟩, ⟨⟨(some 107), none, (.load1 (.tmp 106))⟩, []⟩, ⟨⟨(some 108), none, (.idxSl 1 (.tmp 103) (.tmp 107))⟩, []⟩, ⟨⟨(some 109), none, (.load1 (.tmp 108))⟩, []⟩, ⟨⟨(some 9), none, (.asg (.tmp 109))⟩, []⟩]) (.seq (.ops [110, 111, 112, 113, 114, 115, 116, 10] [⟨⟨(some 110), none, (.mv (.tmp 2))⟩, []⟩, ⟨⟨(some 111), none, (.fieldA 1 (.tmp 4))⟩, []⟩, ⟨⟨(some 112), none, (.load1 (.tmp 111))⟩, []⟩, ⟨⟨(some 113), none, (.idxSl 1 (.tmp 112) (.const (.int .i64 1)))⟩, []⟩, ⟨⟨(some 114), none, (.load1 (.tmp 113))⟩, []⟩, ⟨⟨(some 115), none, (.idxSl 1 (.tmp 110) (.tmp 114))⟩, []⟩, ⟨⟨(some 116), none, (.load1 (.tmp 115))⟩, []⟩, ⟨⟨(some 10), none, (.asg (.tmp 116))⟩, []⟩]) (.seq (.ops [117, 118, 119, 120, 121, 122, 123, 124, 125, 126, 127, 128, 129, 130, 131, 132, 133, 134, 135, 136, 137, 138, 139, 140, 6] [⟨⟨(some 117), none, (.fieldA 2 (.tmp 4))⟩, []⟩, ⟨⟨(some 118), none, (.load1 (.tmp 117))⟩, []⟩, ⟨⟨(some 119), none, (.mv (.tmp 9))⟩, []⟩, ⟨⟨(some 120), none, (.call (.func 49) [(.tmp 118), (.tmp 119)])⟩, []⟩, ⟨⟨(some 121), none, (.mv (.tmp 120))⟩, []⟩, ⟨⟨(some 122), (some ⟨121, true⟩), (.fieldA 3 (.tmp 4))⟩, []⟩, ⟨⟨(some 123), (some ⟨121, true⟩), (.load1 (.tmp 122))⟩, []⟩, ⟨⟨(some 124), (some ⟨121, true⟩), (.mv (.tmp 10))⟩, []⟩, ⟨⟨(some 125), (some ⟨121, true⟩), (.call (.func 49) [(.tmp 123), (.tmp 124)])⟩, []⟩, ⟨⟨(some 126), none, (.pick (.tmp 121) (.tmp 125) (.const (.bool false)))⟩, []⟩, ⟨⟨(some 127), none, (.un .not (.tmp 126))⟩, []⟩, ⟨⟨(some 128), none, (.mv (.tmp 127))⟩, []⟩, ⟨⟨(some 129), (some ⟨128, true⟩), (.fieldA 2 (.tmp 4))⟩, []⟩, ⟨⟨(some 130), (some ⟨128, true⟩), (.load1 (.tmp 129))⟩, []⟩, ⟨⟨(some 131), (some ⟨128, true⟩), (.mv (.tmp 10))⟩, []⟩, ⟨⟨(some 132), (some ⟨128, true⟩), (.call (.func 49) [(.tmp 130), (.tmp 131)])⟩, []⟩, ⟨⟨(some 133), (some ⟨128, true⟩), (.mv (.tmp 132))⟩, []⟩, ⟨⟨(some 134), (some ⟨133, true⟩), (.fieldA 3 (.tmp 4))⟩, []⟩, ⟨⟨(some 135), (some ⟨133, true⟩), (.load1 (.tmp 134))⟩, []⟩, ⟨⟨(some 136), (some ⟨133, true⟩), (.mv (.tmp 9))⟩, []⟩, ⟨⟨(some 137), (some ⟨133, true⟩), (.call (.func 49) [(.tmp 135), (.tmp 136)])⟩, []⟩, ⟨⟨(some 138), (some ⟨128, true⟩), (.pick (.tmp 133) (.tmp 137) (.const (.bool false)))⟩, []⟩, ⟨⟨(some 139), (some ⟨128, true⟩), (.un .not (.tmp 138))⟩, []⟩, ⟨⟨(some 140), none, (.pick (.tmp 128) (.tmp 139) (.const (.bool false)))⟩, []⟩, ⟨⟨(some 6), none, (.asg (.tmp 140))⟩, []⟩]) .ret))) (.seq (.ops [142, 141] [⟨⟨(some 142), none, (.bin .eql 3 (.tmp 12) (.const (.int .i64 8)))⟩, []⟩, ⟨⟨(some 141), none, (.asg (.tmp 142))⟩, []⟩]) (.cond (.tmp 141) (.seq (.ops [143, 144, 145, 146, 147, 148, 149, 150, 151, 6] [⟨⟨(some 143), none, (.fieldA 3 (.tmp 3))⟩, []⟩, ⟨⟨(some 144), none, (.load1 (.tmp 143))⟩, []⟩, ⟨⟨(some 145), none, (.mv (.tmp 2))⟩, []⟩, ⟨⟨(some 146), none, (.fieldA 1 (.tmp 4))⟩, []⟩, ⟨⟨(some 147), none, (.load1 (.tmp 146))⟩, []⟩, ⟨⟨(some 148), none, (.fieldA 2 (.tmp 4))⟩, []⟩, ⟨⟨(some 149), none, (.load1 (.tmp 148))⟩, []⟩, ⟨⟨(some 150), none, (.call (.func 25) [(.tmp 145), (.tmp 147), (.tmp 149)])⟩, [⟨(some 144), none, (.load1 (.tmp 143))⟩]⟩, ⟨⟨(some 151), none, (.call (.func 93) [(.tmp 144), (.tmp 150)])⟩, []⟩, ⟨⟨(some 6), none, (.asg (.tmp 151))⟩, []⟩]) .ret) .skip)))))))))))))))))) (.seq (.ops [152, 153, 154, 155, 156, 157, 158, 159, 160, 6] [⟨⟨(some 152), none, (.fieldA 3 (.tmp 3))⟩, []⟩, ⟨⟨(some 153), none, (.load1 (.tmp 152))⟩, []⟩, ⟨⟨(some 154), none, (.mv (.tmp 2))⟩, []⟩, ⟨⟨(some 155), none, (.fieldA 1 (.tmp 4))⟩, []⟩, ⟨⟨(some 156), none, (.load1 (.tmp 155))⟩, []⟩, ⟨⟨(some 157), none, (.fieldA 2 (.tmp 4))⟩, []⟩, ⟨⟨(some 158), none, (.load1 (.tmp 157))⟩, []⟩, ⟨⟨(some 159), none, (.call (.func 25) [(.tmp 154), (.tmp 156), (.tmp 158)])⟩, [⟨(some 153), none, (.load1 (.tmp 152))⟩]⟩, ⟨⟨(some 160), none, (.call (.func 95) [(.tmp 153), (.tmp 159)])⟩, []⟩, ⟨⟨(some 6), none, (.asg (.tmp 160))⟩, []⟩]) .ret)))⟩
theorem f_rMet : (envOf Tryz.prog noCut noMemo).F 48 = some c_rMet := by kernel_rfl
noncomputable def c_rMeets : CFunc := ⟨32, [(.tmp 6), (.tmp 7)], (.seq (.ops [3, 6, 7] [⟨⟨(some 3), none, (.box (.tmp 0) 50)⟩, []⟩, ⟨⟨(some 6), none, (.asg (.const (.bool false)))⟩, []⟩, ⟨⟨(some 7), none, (.asg (.const (.int .i64 0)))⟩, []⟩]) (.seq (.ops [9, 10, 11, 8] [⟨⟨(some 9), none, (.loadN 5 (.tmp 3))⟩, []⟩, ⟨⟨(some 10), none, (.mv (.tmp 2))⟩, []⟩, ⟨⟨(some 11), none, (.call (.func 47) [(.tmp 9), (.tmp 10)])⟩, []⟩, ⟨⟨(some 8), none, (.asg (.tmp 11))⟩, []⟩]) (.seq (.seq (.ops [12, 13] [⟨⟨(some 12), none, (.mv (.tmp 8))⟩, []⟩, ⟨⟨(some 13), none, (.bin .neq 40 (.tmp 12) (.const (.int .i64 0)))⟩, []⟩]) (.cond (.tmp 13) (.seq (.ops [14, 6, 7] [⟨⟨(some 14), none, (.mv (.tmp 8))⟩, []⟩, ⟨⟨(some 6), none, (.asg (.const (.bool false)))⟩, []⟩, ⟨⟨(some 7), none, (.asg (.tmp 14))⟩, []⟩]) .ret) .skip)) (.seq (.seq (.ops [15, 16, 17, 18, 19, 20, 21, 22, 23] [⟨⟨(some 15), none, (.mv (.tmp 1))⟩, []⟩, ⟨⟨(some 16), none, (.bin .lss 3 (.tmp 15) (.const (.int .i64 0)))⟩, []⟩, ⟨⟨(some 17), none, (.mv (.tmp 16))⟩, []⟩, ⟨⟨(some 18), (some ⟨17, false⟩), (.mv (.tmp 1))⟩, []⟩, ⟨⟨(some 19), (some ⟨17, false⟩), (.fieldA 4 (.tmp 3))⟩, []⟩, ⟨⟨(some 20), (some ⟨17, false⟩), (.load1 (.tmp 19))⟩, []⟩, ⟨⟨(some 21), (some ⟨17, false⟩), (.lenSl (.tmp 20))⟩, []⟩, ⟨⟨(some 22), (some ⟨17, false⟩), (.bin .geq 3 (.tmp 18) (.tmp 21))⟩, []⟩, ⟨⟨(some 23), none, (.pick (.tmp 17) (.const (.bool true)) (.tmp 22))⟩, []⟩]) (.cond (.tmp 23) (.seq (.ops [6, 7] [⟨⟨(some 6), none, (.asg (.const (.bool false)))⟩, []⟩, ⟨⟨(some 7), none, (.asg (.const (.int .i64 1)))⟩, []⟩]) .ret) .skip)) (.seq (.ops [24, 25, 26, 27, 28, 29, 30, 31, 6, 7] [⟨⟨(some 24), none, (.loadN 5 (.tmp 3))⟩, []⟩, ⟨⟨(some 25), none, (.fieldA 4 (.tmp 3))⟩, []⟩, ⟨⟨(some 26), none, (.load1 (.tmp 25))⟩, []⟩, ⟨⟨(some 27), none, (.mv (.tmp 1))⟩, []⟩, ⟨⟨(some 28), none, (.idxSl 9 (.tmp 26) (.tmp 27))⟩, []⟩, ⟨⟨(some 29), none, (.loadN 9 (.tmp 28))⟩, []⟩, ⟨⟨(some 30), none, (.mv (.tmp 2))⟩, []⟩, ⟨⟨(some 31), none, (.call (.func 48) [(.tmp 24), (.tmp 29), (.tmp 30)])⟩, []⟩, ⟨⟨(some 6), none, (.asg (.tmp 31))⟩, []⟩, ⟨⟨(some 7), none, (.asg (.const (.int .i64 0)))⟩, []⟩]) .ret)))))⟩
theorem f_rMeets : (envOf Tryz.prog noCut noMemo).F 23 = some c_rMeets := by kernel_rfl
noncomputable def c_rSolves : CFunc := ⟨30, [(.tmp 4), (.tmp 5)], (.seq (.ops [2, 4, 5] [⟨⟨(some 2), none, (.box (.tmp 0) 50)⟩, []⟩, ⟨⟨(some 4), none, (.asg (.const (.bool false)))⟩, []⟩, ⟨⟨(some 5), none, (.asg (.const (.int .i64 0)))⟩, []⟩]) (.seq (.ops [8, 9, 10, 6] [⟨⟨(some 8), none, (.loadN 5 (.tmp 2))⟩, []⟩, ⟨⟨(some 9), none, (.mv (.tmp 1))⟩, []⟩, ⟨⟨(some 10), none, (.call (.func 47) [(.tmp 8), (.tmp 9)])⟩, []⟩, ⟨⟨(some 6), none, (.asg (.tmp 10))⟩, []⟩]) (.seq (.seq (.ops [11, 12] [⟨⟨(some 11), none, (.mv (.tmp 6))⟩, []⟩, ⟨⟨(some 12), none, (.bin .neq 40 (.tmp 11) (.const (.int .i64 0)))⟩, []⟩]) (.cond (.tmp 12) (.seq (.ops [13, 4, 5] [⟨⟨(some 13), none, (.mv (.tmp 6))⟩, []⟩, ⟨⟨(some 4), none, (.asg (.const (.bool false)))⟩, []⟩, ⟨⟨(some 5), none, (.asg (.tmp 13))⟩, []⟩]) .ret) .skip)) (.seq (.seq (.ops [7] [⟨⟨(some 7), none, (.asg (.const (.int .i64 0)))⟩, []⟩]) (.block 0 (.loop (.seq (.seq (.ops [14, 15, 16, 17, 18] [⟨⟨(some 14), none, (.mv (.tmp 7))⟩, []⟩, ⟨⟨(some 15), none, (.fieldA 4 (.tmp 2))⟩, []⟩, ⟨⟨(some 16), none, (.load1 (.tmp 15))⟩, []⟩, ⟨⟨(some 17), none, (.lenSl (.tmp 16))⟩, []⟩, ⟨⟨(some 18), none, (.bin .lss 3 (.tmp 14) (.tmp 17))⟩, []⟩]) (.cond (.tmp 18) .skip (.exit 0))) (.seq (.block 1 (.seq (.ops [21, 22, 23, 24, 25, 26, 27, 28, 29] [⟨⟨(some 21), none, (.loadN 5 (.tmp 2))⟩, []⟩, ⟨⟨(some 22), none, (.fieldA 4 (.tmp 2))⟩, []⟩, ⟨⟨(some 23), none, (.load1 (.tmp 22))⟩, []⟩, ⟨⟨(some 24), none, (.mv (.tmp 7))⟩, []⟩, ⟨⟨(some 25), none, (.idxSl 9 (.tmp 23) (.tmp 24))⟩, []⟩, ⟨⟨(some 26), none, (.loadN 9 (.tmp 25))⟩, []⟩, ⟨⟨(some 27), none, (.mv (.tmp 1))⟩, []⟩, ⟨⟨(some 28), none, (.call (.func 48) [(.tmp 21), (.tmp 26), (.tmp 27)])⟩, []⟩, ⟨⟨(some 29), none, (.un .not (.tmp 28))⟩, []⟩]) (.cond (.tmp 29) (.seq (.ops [4, 5] [⟨⟨(some 4), none, (.asg (.const (.bool false)))⟩, []⟩, ⟨⟨(some 5), none, (.asg (.const (.int .i64 0)))⟩, []⟩]) .ret) .skip))) (.ops [19, 20, 7] [⟨⟨(some 19), none, (.mv (.tmp 7))⟩, []⟩, ⟨⟨(some 20), none, (.bin .add 3 (.tmp 19) (.const (.int .i64 1)))⟩, []⟩, ⟨⟨(some 7), none, (.asg (.tmp 20))⟩, []⟩])))))) (.seq (.ops [4, 5] [⟨⟨(some 4), none, (.asg (.const (.bool true)))⟩, []⟩, ⟨⟨(some 5), none, (.asg (.const (.int .i64 0)))⟩, []⟩]) .ret)))))⟩
theorem f_rSolves : (envOf Tryz.prog noCut noMemo).F 24 = some c_rSolves := by kernel_rfl



set_option maxRecDepth 100000 in
theorem rMet_ok {q : Prob} {c : Con} {vv vn vc v1 v2 vg : Value} {grid : List Int} (hok : ProbOK q) (hs : ProbS q) (hc : FineC q.cells q.symbols c) (hf : Fin q.cells q.symbols grid) :
    FnP Tryz.prog 48 [.agg ⟨probL q vv vn vc⟩, .agg ⟨consL c v1 v2⟩, vg] [fSl intE vv q.values, fSl (slE intE) vn q.nbs, fSl intE v1 c.cells, fSl intE v2 c.runs, fSl intE vg grid] (.bool (metB q c grid)) := by
  have sd := sides hok hc hf
  have hgl : grid.length = q.nbs.length := by have := hok.nlen; have := hf.1; omega
  obtain ⟨kd, cells, cset, cother, clo, chi, runs, crule, cat⟩ := c
  obtain ⟨set, rfl⟩ := Int.eq_ofNat_of_zero_le sd.st.1
  obtain ⟨other, rfl⟩ := Int.eq_ofNat_of_zero_le sd.ot.1
  have hset : set < 9223372036854775808 := by have := sd.st.2; dsimp only at this; omega
  have hother : other < 9223372036854775808 := by have := sd.ot.2; dsimp only at this; omega
  have hg := sd.gr
  have hcl := sd.ce
  have hv := sd.vs
  dsimp only at hcl
  have hcll : cells.length ≤ 256 := by
    have := hok.cells
    rcases hc.len with h | h
    · dsimp only at h; omega
    · dsimp only at h; rw [h]; simp
  have hkd := hc.kind
  dsimp only at hkd
  have hml := mkd_len grid set cells
  dsimp only [consL]
  refine q_beg c_rMet f_rMet fun B w0 => ?_
  refine go ?_
  intro b3 b4
  refine q_frz (frz_pt (b := b3)) (h := ?_)
  refine q_frz (frz_pt (b := b4)) (h := ?_)
  have hks : kd = 1 ∨ kd = 2 ∨ kd = 3 ∨ kd = 4 ∨ kd = 5 ∨ (kd = 6 ∨ kd = 7) ∨ kd = 8 ∨ kd = 9 := by omega
  rcases hks with rfl | rfl | rfl | rfl | rfl | h67 | rfl | rfl
  · refine go ?_
    refine q_call (rDiff_ok (cells := cells) hg hcl) (next := fun _ _ => ?_)
    refine go ?_
    exact q_fin () (hv := rfl) (hp := trivial)
  · have hm : metB q ⟨2, cells, set, other, clo, chi, runs, crule, cat⟩ grid = decide (clo ≤ (cnt grid set cells : Int) ∧ (cnt grid set cells : Int) ≤ chi) := rfl
    refine go ?_
    refine q_call (rCount_ok (cells := cells) (set := set) hg hcl hset) (next := fun _ _ => ?_)
    refine go ?_
    first | with_reducible refine g_d (fun h1 => ?_) (fun h1 => ?_) | with_reducible refine g_n (fun h1 => ?_) (fun h1 => ?_) | with_reducible refine g_b (fun h1 => ?_) (fun h1 => ?_)
    · refine go ?_
      refine q_fin () (hv := ?_) (hp := trivial)
      rw [hm, decide_eq_false (fun h => h1 h.1)]; rfl
    refine go ?_
    refine q_fin () (hv := ?_) (hp := trivial)
    rw [hm]
    show Value.bool (decide ((cnt grid set cells : Int) ≤ chi)) = _
    rw [show decide (clo ≤ (cnt grid set cells : Int) ∧ (cnt grid set cells : Int) ≤ chi) = decide ((cnt grid set cells : Int) ≤ chi) from decide_eq_decide.2 ⟨fun h => h.2, fun h => ⟨h1, h⟩⟩]
  · have hm : metB q ⟨3, cells, set, other, clo, chi, runs, crule, cat⟩ grid = decide (clo ≤ smm q.values grid cells ∧ smm q.values grid cells ≤ chi) := rfl
    refine go ?_
    refine q_call (rSum_ok (cells := cells) hg hcl hv) (next := fun _ _ => ?_)
    refine go ?_
    first | with_reducible refine g_d (fun h1 => ?_) (fun h1 => ?_) | with_reducible refine g_n (fun h1 => ?_) (fun h1 => ?_) | with_reducible refine g_b (fun h1 => ?_) (fun h1 => ?_)
    · refine go ?_
      refine q_fin () (hv := ?_) (hp := trivial)
      rw [hm, decide_eq_false (fun h => h1 h.1)]; rfl
    refine go ?_
    refine q_fin () (hv := ?_) (hp := trivial)
    rw [hm]
    show Value.bool (decide (smm q.values grid cells ≤ chi)) = _
    rw [show decide (clo ≤ smm q.values grid cells ∧ smm q.values grid cells ≤ chi) = decide (smm q.values grid cells ≤ chi) from decide_eq_decide.2 ⟨fun h => h.2, fun h => ⟨h1, h⟩⟩]
  · refine go ?_
    refine q_call (rRise_ok (cells := cells) hg hcl hv) (next := fun _ _ => ?_)
    refine go ?_
    exact q_fin () (hv := rfl) (hp := trivial)
  · have hrl := rn_len grid set cells 0
    refine go ?_
    refine q_call (rRuns_ok (grid := grid) (cells := cells) (set := set) hg hcl hset) (next := fun v _ => ?_)
    refine go ?_
    refine q_call (rSame_ok (xs := rn grid set 0 cells) (ys := runs) (by omega)) (next := fun _ _ => ?_)
    refine go ?_
    exact q_fin () (hv := rfl) (hp := trivial)
  · have two := hc.two h67
    dsimp only at two
    obtain ⟨x, y, rfl⟩ : ∃ x y : Nat, cells = [(x : Int), (y : Int)] := by
      match cells, two, hcl with
      | [x, y], _, hcl =>
        have hx := hcl.cell x (by simp)
        have hy := hcl.cell y (by simp)
        obtain ⟨x, rfl⟩ := Int.eq_ofNat_of_zero_le hx.1
        obtain ⟨y, rfl⟩ := Int.eq_ofNat_of_zero_le hy.1
        exact ⟨x, y, rfl⟩
    have hx := hcl.cell x (by simp)
    have hy := hcl.cell y (by simp)
    have hl2 : 1 < [(x : Int), (y : Int)].length := by simp
    rcases h67 with rfl | rfl
    · refine go ?_
      intro _ _ x' hx'
      obtain rfl : (x : Int) = x' := by simpa using hx'
      refine go ?_
      intro _ _ s hs'
      have hss := hg.sym s (List.mem_of_getElem? hs')
      have hsv := hv.sym s (List.mem_of_getElem? hs')
      obtain ⟨s, rfl⟩ := Int.eq_ofNat_of_zero_le hss.1
      refine go ?_
      intro _ _ v hv1
      have hvv := hv.val v (List.mem_of_getElem? hv1)
      refine go ?_
      intro _ _ y' hy'
      obtain rfl : (y : Int) = y' := by simpa using hy'
      refine go ?_
      intro _ _ u hu'
      have huu := hg.sym u (List.mem_of_getElem? hu')
      have huv := hv.sym u (List.mem_of_getElem? hu')
      obtain ⟨u, rfl⟩ := Int.eq_ofNat_of_zero_le huu.1
      refine go ?_
      intro _ _ w hw1
      have hww := hv.val w (List.mem_of_getElem? hw1)
      refine go ?_
      refine q_call (rApart_ok (a := v) (b := w) (n := clo) ⟨by omega, by omega⟩ ⟨by omega, by omega⟩) (next := fun _ _ => ?_)
      refine go ?_
      refine q_fin () (hv := ?_) (hp := trivial)
      have hm : metB q ⟨6, [(x : Int), (y : Int)], set, other, clo, chi, runs, crule, cat⟩ grid = decide (clo ≤ max (v - w) (w - v)) := by
        show decide (clo ≤ max (va q.values grid (x : Int) - va q.values grid (y : Int)) (va q.values grid (y : Int) - va q.values grid (x : Int))) = _
        rw [va_of hs' hv1, va_of hu' hw1]
      rw [hm]; rfl
    · refine go ?_
      intro _ _ x' hx'
      obtain rfl : (x : Int) = x' := by simpa using hx'
      refine go ?_
      intro _ _ s hs'
      have hss := hg.sym s (List.mem_of_getElem? hs')
      obtain ⟨s, rfl⟩ := Int.eq_ofNat_of_zero_le hss.1
      refine go ?_
      intro _ _ y' hy'
      obtain rfl : (y : Int) = y' := by simpa using hy'
      refine go ?_
      intro _ _ u hu'
      have huu := hg.sym u (List.mem_of_getElem? hu')
      obtain ⟨u, rfl⟩ := Int.eq_ofNat_of_zero_le huu.1
      have hm : metB q ⟨7, [(x : Int), (y : Int)], set, other, clo, chi, runs, crule, cat⟩ grid = !((set.testBit s && other.testBit u) || (set.testBit u && other.testBit s)) := by
        show (!((set.testBit (sy grid (x : Int)) && other.testBit (sy grid (y : Int))) || (set.testBit (sy grid (y : Int)) && other.testBit (sy grid (x : Int))))) = _
        rw [sy_of hs', sy_of hu']
      refine go ?_
      refine q_call (rIn_ok (set := set) (sym := s) hset (by omega)) (next := fun _ _ => ?_)
      cases e1 : set.testBit s with
      | true =>
        refine go ?_
        refine q_call (rIn_ok (set := other) (sym := u) hother (by omega)) (next := fun _ _ => ?_)
        cases e2 : other.testBit u with
        | true =>
          refine go ?_
          refine q_fin () (hv := ?_) (hp := trivial)
          rw [hm, e1, e2]; rfl
        | false =>
          refine go ?_
          refine q_call (rIn_ok (set := set) (sym := u) hset (by omega)) (next := fun _ _ => ?_)
          cases e3 : set.testBit u with
          | true =>
            refine go ?_
            refine q_call (rIn_ok (set := other) (sym := s) hother (by omega)) (next := fun _ _ => ?_)
            refine go ?_
            refine q_fin () (hv := ?_) (hp := trivial)
            rw [hm, e1, e2, e3]
            cases other.testBit s <;> first | rfl | (cases other.testBit u <;> rfl)
          | false =>
            refine go ?_
            refine q_fin () (hv := ?_) (hp := trivial)
            rw [hm, e1, e2, e3]
            cases other.testBit s <;> first | rfl | (cases other.testBit u <;> rfl)
      | false =>
        refine go ?_
        refine q_call (rIn_ok (set := set) (sym := u) hset (by omega)) (next := fun _ _ => ?_)
        cases e3 : set.testBit u with
        | true =>
          refine go ?_
          refine q_call (rIn_ok (set := other) (sym := s) hother (by omega)) (next := fun _ _ => ?_)
          refine go ?_
          refine q_fin () (hv := ?_) (hp := trivial)
          rw [hm, e1, e3]
          cases other.testBit s <;> first | rfl | (cases other.testBit u <;> rfl)
        | false =>
          refine go ?_
          refine q_fin () (hv := ?_) (hp := trivial)
          rw [hm, e1, e3]
          cases other.testBit s <;> first | rfl | (cases other.testBit u <;> rfl)
  · refine go ?_
    refine q_call (marked_ok (set := set) hg hcl hset) (next := fun bm _ => ?_)
    refine q_frz (frz_bools (b := bm) (f := 0) (c := grid.length) (xs := mkd grid set cells)) (h := ?_)
    rw [hml]
    refine go ?_
    refine q_call (rConnd_ok (nbs := q.nbs) (inn := mkd grid set cells) hok.graph hs.nbs (by omega)) (next := fun _ _ => ?_)
    refine go ?_
    exact q_fin () (hv := rfl) (hp := trivial)
  · refine go ?_
    refine q_call (marked_ok (set := set) hg hcl hset) (next := fun bm _ => ?_)
    refine q_frz (frz_bools (b := bm) (f := 0) (c := grid.length) (xs := mkd grid set cells)) (h := ?_)
    rw [hml]
    refine go ?_
    refine q_call (rLoop_ok (nbs := q.nbs) (inn := mkd grid set cells) hok.graph hs.nbs (by omega)) (next := fun _ _ => ?_)
    refine go ?_
    exact q_fin () (hv := rfl) (hp := trivial)

theorem rMeets_ok {q : Prob} {vv vn vc vg : Value} {grid : List Int} {i : Int} (hs : ProbS q) (hl : grid.length < 9223372036854775808) :
    FnC Tryz.prog (.func 23) [.agg ⟨probL q vv vn vc⟩, .int .i64 i, vg] [] [] [fSl intE vv q.values, fSl (slE intE) vn q.nbs, fSl consE vc q.cons, fSl intE vg grid] pairV (fun _ => []) (fun _ => [])
      (fun y => (¬ ProbOK q → y = (false, 191)) ∧ (ProbOK q → ¬ Fin q.cells q.symbols grid → y = (false, 200)) ∧ (ProbOK q → Fin q.cells q.symbols grid → (i < 0 ∨ (q.cons.length : Int) ≤ i → y = (false, 1)) ∧
        ∀ (k : Nat) c, i = k → q.cons[k]? = some c → y = (metB q c grid, 0))) := by
  refine q_beg c_rMeets f_rMeets fun B w0 => ?_
  have hcl := hs.cons
  refine go ?_
  intro b3
  refine q_call (rValid_ok (q := q) hs hl) (next := fun r hr => ?_)
  refine go ?_
  by_cases hok : ProbOK q
  rotate_left
  · have e := hr.1 hok
    subst e
    refine go ?_
    exact q_fin (false, 191) (hv := rfl) (hp := ⟨fun _ => rfl, fun h => absurd h hok, fun h => absurd h hok⟩)
  by_cases hf : Fin q.cells q.symbols grid
  rotate_left
  · have e := hr.2.1 hok hf
    subst e
    refine go ?_
    exact q_fin (false, 200) (hv := rfl) (hp := ⟨fun h => absurd hok h, fun _ _ => rfl, fun _ h => absurd h hf⟩)
  have e := hr.2.2 hok hf
  subst e
  refine go ?_
  have no : (i < 0 ∨ (q.cons.length : Int) ≤ i) → ((¬ ProbOK q → ((false, 1) : Bool × Int) = (false, 191)) ∧ (ProbOK q → ¬ Fin q.cells q.symbols grid → ((false, 1) : Bool × Int) = (false, 200)) ∧ (ProbOK q → Fin q.cells q.symbols grid → (i < 0 ∨ (q.cons.length : Int) ≤ i → ((false, 1) : Bool × Int) = (false, 1)) ∧
        ∀ (k : Nat) c, i = k → q.cons[k]? = some c → ((false, 1) : Bool × Int) = (metB q c grid, 0))) := fun h => ⟨fun h => absurd hok h, fun _ h => absurd hf h, fun _ _ => ⟨fun _ => rfl, fun k c e hk => by
      have := (List.getElem?_eq_some_iff.1 hk).1
      omega⟩⟩
  first | with_reducible refine g_d (fun h1 => ?_) (fun h1 => ?_) | with_reducible refine g_n (fun h1 => ?_) (fun h1 => ?_) | with_reducible refine g_b (fun h1 => ?_) (fun h1 => ?_)
  rotate_left
  · refine go ?_
    exact q_fin (false, 1) (hv := rfl) (hp := no (.inl h1))
  refine go ?_
  refine if_d rfl (fun h2 => ?_) (fun h2 => ?_)
  · refine go ?_
    exact q_fin (false, 1) (hv := rfl) (hp := no (.inr h2))
  obtain ⟨i, rfl⟩ := Int.eq_ofNat_of_zero_le (show 0 ≤ i by omega)
  refine go ?_
  refine q_idx consE (next := fun _ _ c (y : Value × Value) hc => ?_)
  refine go ?_
  refine q_call (rMet_ok (q := q) (c := c) hok hs (hok.fine c (List.mem_of_getElem? hc)) hf) (next := fun _ _ => ?_)
  refine go ?_
  refine q_fin (metB q c grid, 0) (hv := rfl) (hp := ⟨fun h => absurd hok h, fun _ h => absurd hf h, fun _ _ => ⟨fun h => by omega, fun k c' e hk => ?_⟩⟩)
  have : k = i := by omega
  subst this
  rw [hc] at hk
  cases hk; rfl

theorem rSolves_ok {q : Prob} {vv vn vc vg : Value} {grid : List Int} (hs : ProbS q) (hl : grid.length < 9223372036854775808) :
    FnC Tryz.prog (.func 24) [.agg ⟨probL q vv vn vc⟩, vg] [] [] [fSl intE vv q.values, fSl (slE intE) vn q.nbs, fSl consE vc q.cons, fSl intE vg grid] pairV (fun _ => []) (fun _ => [])
      (fun y => (¬ ProbOK q → y = (false, 191)) ∧ (ProbOK q → ¬ Fin q.cells q.symbols grid → y = (false, 200)) ∧ (ProbOK q → Fin q.cells q.symbols grid → y.2 = 0 ∧ (y.1 = true ↔ ∀ c ∈ q.cons, metB q c grid = true))) := by
  refine q_beg c_rSolves f_rSolves fun B w0 => ?_
  have hcl := hs.cons
  refine go ?_
  intro b2
  refine q_frz (frz_pt (b := b2)) (h := ?_)
  refine go ?_
  refine q_call (rValid_ok (q := q) hs hl) (next := fun r hr => ?_)
  refine go ?_
  by_cases hok : ProbOK q
  rotate_left
  · have e := hr.1 hok
    subst e
    refine go ?_
    exact q_fin (false, 191) (hv := rfl) (hp := ⟨fun _ => rfl, fun h => absurd h hok, fun h => absurd h hok⟩)
  by_cases hf : Fin q.cells q.symbols grid
  rotate_left
  · have e := hr.2.1 hok hf
    subst e
    refine go ?_
    exact q_fin (false, 200) (hv := rfl) (hp := ⟨fun h => absurd hok h, fun _ _ => rfl, fun _ h => absurd h hf⟩)
  have e := hr.2.2 hok hf
  subst e
  refine go ?_
  refine q_loop (fun k => q.cons.length - k) (fun k : Nat => [(7, .int .i64 (k : Int))]) (fun _ => []) (fun _ => []) (fun k => k ≤ q.cons.length ∧ ∀ c ∈ q.cons.take k, metB q c grid = true) 0 ⟨Nat.zero_le _, by simp⟩ (body := ?_)
  rintro k ⟨hk, hall⟩
  refine go ?_
  refine if_d rfl (fun h9 => ?_) (fun h9 => ?_)
  · refine go ?_
    refine q_idx consE (next := fun _ _ c (y : Value × Value) hc => ?_)
    refine go ?_
    refine q_call (rMet_ok (q := q) (c := c) hok hs (hok.fine c (List.mem_of_getElem? hc)) hf) (next := fun _ _ => ?_)
    cases hm : metB q c grid with
    | false =>
      refine go ?_
      exact q_fin (false, 0) (hv := rfl) (hp := ⟨fun h => absurd hok h, fun _ h => absurd hf h, fun _ _ => ⟨rfl, ⟨(fun h => by cases h), fun h => by rw [h c (List.mem_of_getElem? hc)] at hm; cases hm⟩⟩⟩)
    | true =>
      refine go ?_
      refine q_again (k + 1) (by omega) ⟨by omega, fun d hd => ?_⟩
      rw [take_one hc, List.mem_append] at hd
      rcases hd with hd | hd
      · exact hall d hd
      · rw [List.mem_singleton.1 hd]; exact hm
  have hkl : k = q.cons.length := by omega
  subst hkl
  rw [List.take_length] at hall
  refine go ?_
  exact q_fin (true, 0) (hv := rfl) (hp := ⟨fun h => absurd hok h, fun _ h => absurd hf h, fun _ _ => ⟨rfl, ⟨fun _ => hall, fun _ => rfl⟩⟩⟩)
end Go.Proofs.YtpkieeggilkagaaGreat

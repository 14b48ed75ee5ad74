/-
  Clues and puzzles compared: canon.compare, canon.Less and the specification's.
-/
import Derived.Test.YtoilpafpgndilaaGreatCmp
set_option linter.unusedSimpArgs false
set_option linter.unusedVariables false
set_option maxHeartbeats 1000000
namespace Go.Proofs.YtoilpafpgndilaaGreat
open Go.Ideal Canon

noncomputable def c_rOrder : CFunc := ⟨46, [(.tmp 4)], (.seq (.ops [4] [⟨⟨(some 4), none, (.asg (.const (.int .i64 0)))⟩, []⟩]) (.seq (.seq (.ops [5] [⟨⟨(some 5), none, (.asg (.const (.int .i64 0)))⟩, []⟩]) (.block 0 (.loop (.seq (.seq (.ops [6, 7, 8, 9, 10, 11, 12, 13, 14, 15] [⟨⟨(some 6), none, (.mv (.tmp 5))⟩, []⟩, ⟨⟨(some 7), none, (.mv (.tmp 0))⟩, []⟩, ⟨⟨(some 8), none, (.lenSl (.tmp 7))⟩, []⟩, ⟨⟨(some 9), none, (.bin .lss 3 (.tmp 6) (.tmp 8))⟩, []⟩, ⟨⟨(some 10), none, (.mv (.tmp 9))⟩, []⟩, ⟨⟨(some 11), (some ⟨10, true⟩), (.mv (.tmp 5))⟩, []⟩, ⟨⟨(some 12), (some ⟨10, true⟩), (.mv (.tmp 1))⟩, []⟩, ⟨⟨(some 13), (some ⟨10, true⟩), (.lenSl (.tmp 12))⟩, []⟩, ⟨⟨(some 14), (some ⟨10, true⟩), (.bin .lss 3 (.tmp 11) (.tmp 13))⟩, []⟩, ⟨⟨(some 15), none, (.pick (.tmp 10) (.tmp 14) (.const (.bool false)))⟩, []⟩]) (.cond (.tmp 15) .skip (.exit 0))) (.seq (.block 1 (.seq (.seq (.ops [18, 19, 20, 21, 22, 23, 24, 25, 26] [⟨⟨(some 18), none, (.mv (.tmp 0))⟩, []⟩, ⟨⟨(some 19), none, (.mv (.tmp 5))⟩, []⟩, ⟨⟨(some 20), none, (.idxSl 1 (.tmp 18) (.tmp 19))⟩, []⟩, ⟨⟨(some 21), none, (.load1 (.tmp 20))⟩, []⟩, ⟨⟨(some 22), none, (.mv (.tmp 1))⟩, []⟩, ⟨⟨(some 23), none, (.mv (.tmp 5))⟩, []⟩, ⟨⟨(some 24), none, (.idxSl 1 (.tmp 22) (.tmp 23))⟩, []⟩, ⟨⟨(some 25), none, (.load1 (.tmp 24))⟩, []⟩, ⟨⟨(some 26), none, (.bin .lss 3 (.tmp 21) (.tmp 25))⟩, []⟩]) (.cond (.tmp 26) (.seq (.ops [4] [⟨⟨(some 4), none, (.asg (.const (.int .i64 (-1))))⟩, []⟩]) .ret) .skip)) (.seq (.ops [27, 28, 29, 30, 31, 32, 33, 34, 35] [⟨⟨(some 27), none, (.mv (.tmp 0))⟩, []⟩, ⟨⟨(some 28), none, (.mv (.tmp 5))⟩, []⟩, ⟨⟨(some 29), none, (.idxSl 1 (.tmp 27) (.tmp 28))⟩, []⟩, ⟨⟨(some 30), none, (.load1 (.tmp 29))⟩, []⟩, ⟨⟨(some 31), none, (.mv (.tmp 1))⟩, []⟩, ⟨⟨(some 32), none, (.mv (.tmp 5))⟩, []⟩, ⟨⟨(some 33), none, (.idxSl 1 (.tmp 31) (.tmp 32))⟩, []⟩, ⟨⟨(some 34), none, (.load1 (.tmp 33))⟩, []⟩, ⟨⟨(some 35), none, (.bin .gtr 3 (.tmp 30) (.tmp 34))⟩, []⟩]) (.cond (.tmp 35) (.seq (.ops [4] [⟨⟨(some 4), none, (.asg (.const (.int .i64 1)))⟩, []⟩]) .ret) .skip)))) (.ops [16, 17, 5] [⟨⟨(some 16), none, (.mv (.tmp 5))⟩, []⟩, ⟨⟨(some 17), none, (.bin .add 3 (.tmp 16) (.const (.int .i64 1)))⟩, []⟩, ⟨⟨(some 5), none, (.asg (.tmp 17))⟩, []⟩])))))) (.seq (.seq (.ops [36, 37, 38, 39, 40] [⟨⟨(some 36), none, (.mv (.tmp 0))⟩, []⟩, ⟨⟨(some 37), none, (.lenSl (.tmp 36))⟩, []⟩, ⟨⟨(some 38), none, (.mv (.tmp 1))⟩, []⟩, ⟨⟨(some 39), none, (.lenSl (.tmp 38))⟩, []⟩, ⟨⟨(some 40), none, (.bin .lss 3 (.tmp 37) (.tmp 39))⟩, []⟩]) (.cond (.tmp 40) (.seq (.ops [4] [⟨⟨(some 4), none, (.asg (.const (.int .i64 (-1))))⟩, []⟩]) .ret) .skip)) (.seq (.seq (.ops [41, 42, 43, 44, 45] [⟨⟨(some 41), none, (.mv (.tmp 0))⟩, []⟩, ⟨⟨(some 42), none, (.lenSl (.tmp 41))⟩, []⟩, ⟨⟨(some 43), none, (.mv (.tmp 1))⟩, []⟩, ⟨⟨(some 44), none, (.lenSl (.tmp 43))⟩, []⟩, ⟨⟨(some 45), none, (.bin .gtr 3 (.tmp 42) (.tmp 44))⟩, []⟩]) (.cond (.tmp 45) (.seq (.ops [4] [⟨⟨(some 4), none, (.asg (.const (.int .i64 1)))⟩, []⟩]) .ret) .skip)) (.seq (.ops [4] [⟨⟨(some 4), none, (.asg (.const (.int .i64 0)))⟩, []⟩]) .ret)))))⟩
theorem f_rOrder : (envOf Tryz.prog noCut noMemo).F 69 = some c_rOrder := by kernel_rfl
noncomputable def c_rOrd19 : CFunc := ⟨46, [(.tmp 4)], (.seq (.ops [4] [⟨⟨(some 4), none, (.asg (.const (.int .i64 0)))⟩, []⟩]) (.seq (.seq (.ops [5] [⟨⟨(some 5), none, (.asg (.const (.int .i64 0)))⟩, []⟩]) (.block 0 (.loop (.seq (.seq (.ops [6, 7, 8, 9, 10, 11, 12, 13, 14, 15] [⟨⟨(some 6), none, (.mv (.tmp 5))⟩, []⟩, ⟨⟨(some 7), none, (.mv (.tmp 0))⟩, []⟩, ⟨⟨(some 8), none, (.lenSl (.tmp 7))⟩, []⟩, ⟨⟨(some 9), none, (.bin .lss 3 (.tmp 6) (.tmp 8))⟩, []⟩, ⟨⟨(some 10), none, (.mv (.tmp 9))⟩, []⟩, ⟨⟨(some 11), (some ⟨10, true⟩), (.mv (.tmp 5))⟩, []⟩, ⟨⟨(some 12), (some ⟨10, true⟩), (.mv (.tmp 1))⟩, []⟩, ⟨⟨(some 13), (some ⟨10, true⟩), (.lenSl (.tmp 12))⟩, []⟩, ⟨⟨(some 14), (some ⟨10, true⟩), (.bin .lss 3 (.tmp 11) (.tmp 13))⟩, []⟩, ⟨⟨(some 15), none, (.pick (.tmp 10) (.tmp 14) (.const (.bool false)))⟩, []⟩]) (.cond (.tmp 15) .skip (.exit 0))) (.seq (.block 1 (.seq (.seq (.ops [18, 19, 20, 21, 22, 23, 24, 25, 26] [⟨⟨(some 18), none, (.mv (.tmp 0))⟩, []⟩, ⟨⟨(some 19), none, (.mv (.tmp 5))⟩, []⟩, ⟨⟨(some 20), none, (.idxSl 1 (.tmp 18) (.tmp 19))⟩, []⟩, ⟨⟨(some 21), none, (.load1 (.tmp 20))⟩, []⟩, ⟨⟨(some 22), none, (.mv (.tmp 1))⟩, []⟩, ⟨⟨(some 23), none, (.mv (.tmp 5))⟩, []⟩, ⟨⟨(some 24), none, (.idxSl 1 (.tmp 22) (.tmp 23))⟩, []⟩, ⟨⟨(some 25), none, (.load1 (.tmp 24))⟩, []⟩, ⟨⟨(some 26), none, (.bin .lss 3 (.tmp 21) (.tmp 25))⟩, []⟩]) (.cond (.tmp 26) (.seq (.ops [4] [⟨⟨(some 4), none, (.asg (.const (.int .i64 (-1))))⟩, []⟩]) .ret) .skip)) (.seq (.ops [27, 28, 29, 30, 31, 32, 33, 34, 35] [⟨⟨(some 27), none, (.mv (.tmp 0))⟩, []⟩, ⟨⟨(some 28), none, (.mv (.tmp 5))⟩, []⟩, ⟨⟨(some 29), none, (.idxSl 1 (.tmp 27) (.tmp 28))⟩, []⟩, ⟨⟨(some 30), none, (.load1 (.tmp 29))⟩, []⟩, ⟨⟨(some 31), none, (.mv (.tmp 1))⟩, []⟩, ⟨⟨(some 32), none, (.mv (.tmp 5))⟩, []⟩, ⟨⟨(some 33), none, (.idxSl 1 (.tmp 31) (.tmp 32))⟩, []⟩, ⟨⟨(some 34), none, (.load1 (.tmp 33))⟩, []⟩, ⟨⟨(some 35), none, (.bin .gtr 3 (.tmp 30) (.tmp 34))⟩, []⟩]) (.cond (.tmp 35) (.seq (.ops [4] [⟨⟨(some 4), none, (.asg (.const (.int .i64 1)))⟩, []⟩]) .ret) .skip)))) (.ops [16, 17, 5] [⟨⟨(some 16), none, (.mv (.tmp 5))⟩, []⟩, ⟨⟨(some 17), none, (.bin .add 3 (.tmp 16) (.const (.int .i64 1)))⟩, []⟩, ⟨⟨(some 5), none, (.asg (.tmp 17))⟩, []⟩])))))) (.seq (.seq (.ops [36, 37, 38, 39, 40] [⟨⟨(some 36), none, (.mv (.tmp 0))⟩, []⟩, ⟨⟨(some 37), none, (.lenSl (.tmp 36))⟩, []⟩, ⟨⟨(some 38), none, (.mv (.tmp 1))⟩, []⟩, ⟨⟨(some 39), none, (.lenSl (.tmp 38))⟩, []⟩, ⟨⟨(some 40), none, (.bin .lss 3 (.tmp 37) (.tmp 39))⟩, []⟩]) (.cond (.tmp 40) (.seq (.ops [4] [⟨⟨(some 4), none, (.asg (.const (.int .i64 (-1))))⟩, []⟩]) .ret) .skip)) (.seq (.seq (.ops [41, 42, 43, 44, 45] [⟨⟨(some 41), none, (.mv (.tmp 0))⟩, []⟩, ⟨⟨(some 42), none, (.lenSl (.tmp 41))⟩, []⟩, ⟨⟨(some 43), none, (.mv (.tmp 1))⟩, []⟩, ⟨⟨(some 44), none, (.lenSl (.tmp 43))⟩, []⟩, ⟨⟨(some 45), none, (.bin .gtr 3 (.tmp 42) (.tmp 44))⟩, []⟩]) (.cond (.tmp 45) (.seq (.ops [4] [⟨⟨(some 4), none, (.asg (.const (.int .i64 1)))⟩, []⟩]) .ret) .skip)) (.seq (.ops [4] [⟨⟨(some 4), none, (.asg (.const (.int .i64 0)))⟩, []⟩]) .ret)))))⟩
theorem f_rOrd19 : (envOf Tryz.prog noCut noMemo).F 71 = some c_rOrd19 := by kernel_rfl
noncomputable def c_rComp : CFunc := ⟨25, [(.tmp 4)], (.seq (.ops [2, 3, 4] [⟨⟨(some 2), none, (.box (.tmp 0) 76)⟩, []⟩, ⟨⟨(some 3), none, (.box (.tmp 1) 76)⟩, []⟩, ⟨⟨(some 4), none, (.asg (.const (.int .i64 0)))⟩, []⟩]) (.seq (.ops [6, 7, 8, 9, 10, 11, 12, 13, 14, 15, 16, 5] [⟨⟨(some 6), none, (.fieldA 0 (.tmp 2))⟩, []⟩, ⟨⟨(some 7), none, (.load1 (.tmp 6))⟩, []⟩, ⟨⟨(some 8), none, (.fieldA 1 (.tmp 2))⟩, []⟩, ⟨⟨(some 9), none, (.load1 (.tmp 8))⟩, []⟩, ⟨⟨(some 10), none, (.bslice 3 2 [(.int .i64 0), (.int .i64 0)] [⟨0, ⟨1, (.tmp 7)⟩⟩, ⟨1, ⟨1, (.tmp 9)⟩⟩])⟩, []⟩, ⟨⟨(some 11), none, (.fieldA 0 (.tmp 3))⟩, []⟩, ⟨⟨(some 12), none, (.load1 (.tmp 11))⟩, []⟩, ⟨⟨(some 13), none, (.fieldA 1 (.tmp 3))⟩, []⟩, ⟨⟨(some 14), none, (.load1 (.tmp 13))⟩, []⟩, ⟨⟨(some 15), none, (.bslice 3 2 [(.int .i64 0), (.int .i64 0)] [⟨0, ⟨1, (.tmp 12)⟩⟩, ⟨1, ⟨1, (.tmp 14)⟩⟩])⟩, []⟩, ⟨⟨(some 16), none, (.call (.func 69) [(.tmp 10), (.tmp 15)])⟩, []⟩, ⟨⟨(some 5), none, (.asg (.tmp 16))⟩, []⟩]) (.seq (.seq (.ops [17, 18] [⟨⟨(some 17), none, (.mv (.tmp 5))⟩, []⟩, ⟨⟨(some 18), none, (.bin .neq 3 (.tmp 17) (.const (.int .i64 0)))⟩, []⟩]) (.cond (.tmp 18) (.seq (.ops [19, 4] [⟨⟨(some 19), none, (.mv (.tmp 5))⟩, []⟩, ⟨⟨(some 4), none, (.asg (.tmp 19))⟩, []⟩]) .ret) .skip)) (.seq (.ops [20, 21, 22, 23, 24, 4] [⟨⟨(some 20), none, (.fieldA 2 (.tmp 2))⟩, []⟩, ⟨⟨(some 21), none, (.load1 (.tmp 20))⟩, []⟩, ⟨⟨(some 22), none, (.fieldA 2 (.tmp 3))⟩, []⟩, ⟨⟨(some 23), none, (.load1 (.tmp 22))⟩, []⟩, ⟨⟨(some 24), none, (.call (.func 69) [(.tmp 21), (.tmp 23)])⟩, []⟩, ⟨⟨(some 4), none, (.asg (.tmp 24))⟩, []⟩]) .ret))))⟩
theorem f_rComp : (envOf Tryz.prog noCut noMemo).F 34 = some c_rComp := by kernel_rfl
noncomputable def c_comp : CFunc := ⟨25, [(.tmp 4)], (.seq (.ops [2, 3, 4] [⟨⟨(some 2), none, (.box (.tmp 0) 76)⟩, []⟩, ⟨⟨(some 3), none, (.box (.tmp 1) 76)⟩, []⟩, ⟨⟨(some 4), none, (.asg (.const (.int .i64 0)))⟩, []⟩]) (.seq (.ops [9, 10, 11, 12, 5] [⟨⟨(some 9), none, (.mkfunc (.func 64) [] [(.tmp 2), (.tmp 3)])⟩, []⟩, ⟨⟨(some 10), none, (.mkfunc (.func 66) [] [(.tmp 2), (.tmp 3)])⟩, []⟩, ⟨⟨(some 11), none, (.mkfunc (.func 67) [] [(.tmp 2), (.tmp 3)])⟩, []⟩, ⟨⟨(some 12), none, (.bslice 116 3 [.nilFunc, .nilFunc, .nilFunc] [⟨0, ⟨1, (.tmp 9)⟩⟩, ⟨1, ⟨1, (.tmp 10)⟩⟩, ⟨2, ⟨1, (.tmp 11)⟩⟩])⟩, []⟩, ⟨⟨(some 5), none, (.asg (.tmp 12))⟩, []⟩]) (.seq (.seq (.ops [13, 14, 15] [⟨⟨(some 13), none, (.mv (.tmp 5))⟩, []⟩, ⟨⟨(some 14), none, (.lenSl (.tmp 13))⟩, []⟩, ⟨⟨(some 15), none, (.mv (.const (.int .i64 0)))⟩, []⟩]) (.block 0 (.loop (.seq (.ops [16] [⟨⟨(some 16), none, (.bin .lss 3 (.tmp 15) (.tmp 14))⟩, []⟩]) (.seq (.cond (.tmp 16) .skip (.exit 0)) (.seq (.block 1 (.seq (.ops [17, 18, 7] [⟨⟨(some 17), none, (.idxSl 1 (.tmp 13) (.tmp 15))⟩, []⟩, ⟨⟨(some 18), none, (.load1 (.tmp 17))⟩, []⟩, ⟨⟨(some 7), none, (.asg (.tmp 18))⟩, []⟩]) (.seq (.ops [19, 20, 8] [⟨⟨(some 19), none, (.mv (.tmp 7))⟩, []⟩, ⟨⟨(some 20), none, (.call (.tmp 19) [])⟩, []⟩, ⟨⟨(some 8), none, (.asg (.tmp 20))⟩, []⟩]) (.seq (.ops [21, 22] [⟨⟨(some 21), none, (.mv (.tmp 8))⟩, []⟩, ⟨⟨(some 22), none, (.bin .neq 3 (.tmp 21) (.const (.int .i64 0)))⟩, []⟩]) (.cond (.tmp 22) (.seq (.ops [23, 4] [⟨⟨(some 23), none, (.mv (.tmp 8))⟩, []⟩, ⟨⟨(some 4), none, (.asg (.tmp 23))⟩, []⟩]) .ret) .skip))))) (.ops [24, 15] [⟨⟨(some 24), none, (.bin .add 3 (.tmp 15) (.const (.int .i64 1)))⟩, []⟩, ⟨⟨(some 15), none, (.mv (.tmp 24))⟩, []⟩]))))))) (.seq (.ops [4] [⟨⟨(some 4), none, (.asg (.const (.int .i64 0)))⟩, []⟩]) .ret))))⟩
theorem f_comp : (envOf Tryz.prog noCut noMemo).F 33 = some c_comp := by kernel_rfl
noncomputable def c_comp1 : CFunc := ⟨8, [(.tmp 2)], (.seq (.ops [2] [⟨⟨(some 2), none, (.asg (.const (.int .i64 0)))⟩, []⟩]) (.seq (.ops [3, 4, 5, 6, 7, 2] [⟨⟨(some 3), none, (.fieldA 0 (.tmp 0))⟩, []⟩, ⟨⟨(some 4), none, (.load1 (.tmp 3))⟩, []⟩, ⟨⟨(some 5), none, (.fieldA 0 (.tmp 1))⟩, []⟩, ⟨⟨(some 6), none, (.load1 (.tmp 5))⟩, []⟩, ⟨⟨(some 7), none, (.call (.func 65) [(.tmp 4), (.tmp 6)])⟩, []⟩, ⟨⟨(some 2), none, (.asg (.tmp 7))⟩, []⟩]) .ret))⟩
theorem f_comp1 : (envOf Tryz.prog noCut noMemo).F 64 = some c_comp1 := by kernel_rfl
noncomputable def c_comp2 : CFunc := ⟨8, [(.tmp 2)], (.seq (.ops [2] [⟨⟨(some 2), none, (.asg (.const (.int .i64 0)))⟩, []⟩]) (.seq (.ops [3, 4, 5, 6, 7, 2] [⟨⟨(some 3), none, (.fieldA 1 (.tmp 0))⟩, []⟩, ⟨⟨(some 4), none, (.load1 (.tmp 3))⟩, []⟩, ⟨⟨(some 5), none, (.fieldA 1 (.tmp 1))⟩, []⟩, ⟨⟨(some 6), none, (.load1 (.tmp 5))⟩, []⟩, ⟨⟨(some 7), none, (.call (.func 65) [(.tmp 4), (.tmp 6)])⟩, []⟩, ⟨⟨(some 2), none, (.asg (.tmp 7))⟩, []⟩]) .ret))⟩
theorem f_comp2 : (envOf Tryz.prog noCut noMemo).F 66 = some c_comp2 := by kernel_rfl
noncomputable def c_comp3 : CFunc := ⟨8, [(.tmp 2)], (.seq (.ops [2] [⟨⟨(some 2), none, (.asg (.const (.int .i64 0)))⟩, []⟩]) (.seq (.ops [3, 4, 5, 6, 7, 2] [⟨⟨(some 3), none, (.fieldA 2 (.tmp 0))⟩, []⟩, ⟨⟨(some 4), none, (.load1 (.tmp 3))⟩, []⟩, ⟨⟨(some 5), none, (.fieldA 2 (.tmp 1))⟩, []⟩, ⟨⟨(some 6), none, (.load1 (.tmp 5))⟩, []⟩, ⟨⟨(some 7), none, (.call (.func 68) [(.tmp 4), (.tmp 6)])⟩, []⟩, ⟨⟨(some 2), none, (.asg (.tmp 7))⟩, []⟩]) .ret))⟩
theorem f_comp3 : (envOf Tryz.prog noCut noMemo).F 67 = some c_comp3 := by kernel_rfl

def clueE : Enc Clue := ⟨3, Value, fun g v => [.int .i64 g.clue, .int .i64 g.at_, v], fun g v => [fSl intE v g.values], fun _ _ => rfl⟩
abbrev clueV (g : Clue) (v : Value) : Value := .agg ⟨[.int .i64 g.clue, .int .i64 g.at_, v]⟩



theorem rOrder_ok {va vb : Value} {xs ys : List Int} (hal : xs.length ≤ 1000000) (hbl : ys.length ≤ 1000000) :
    FnP Tryz.prog 69 [va, vb] [fSl intE va xs, fSl intE vb ys] (.int .i64 (ordL ordI xs ys)) := by
  refine q_beg c_rOrder f_rOrder fun B w0 => ?_
  refine go ?_
  refine q_loop (fun k => xs.length - k) (fun k : Nat => [(5, .int .i64 (k : Int))]) (fun _ => []) (fun _ => []) (fun k => k ≤ xs.length ∧ k ≤ ys.length ∧ ordL ordI xs ys = ordL ordI (xs.drop k) (ys.drop k)) 0 ⟨by omega, by omega, rfl⟩ (body := ?_)
  rintro k ⟨hkx, hky, hord⟩
  refine go ?_
  first | with_reducible refine g_d (fun h1 => ?_) (fun h1 => ?_) | with_reducible refine g_n (fun h1 => ?_) (fun h1 => ?_) | with_reducible refine g_b (fun h1 => ?_) (fun h1 => ?_)
  · refine go ?_
    refine if_d rfl (fun h3 => ?_) (fun h3 => ?_)
    · refine go ?_
      refine q_fin () (hv := ?_) (hp := trivial)
      rw [hord, ord_end hkx hky (by omega), if_pos (by omega)]; rfl
    refine go ?_
    refine if_d rfl (fun h4 => ?_) (fun h4 => ?_)
    · refine go ?_
      refine q_fin () (hv := ?_) (hp := trivial)
      rw [hord, ord_end hkx hky (by omega), if_neg (by omega), if_pos (by omega)]; rfl
    refine go ?_
    refine q_fin () (hv := ?_) (hp := trivial)
    rw [hord, ord_end hkx hky (by omega), if_neg (by omega), if_neg (by omega)]; rfl
  refine go ?_
  refine if_d rfl (fun h2 => ?_) (fun h2 => ?_)
  rotate_left
  · refine go ?_
    refine if_d rfl (fun h3 => ?_) (fun h3 => ?_)
    · refine go ?_
      refine q_fin () (hv := ?_) (hp := trivial)
      rw [hord, ord_end hkx hky (by omega), if_pos (by omega)]; rfl
    refine go ?_
    refine if_d rfl (fun h4 => ?_) (fun h4 => ?_)
    · refine go ?_
      refine q_fin () (hv := ?_) (hp := trivial)
      rw [hord, ord_end hkx hky (by omega), if_neg (by omega), if_pos (by omega)]; rfl
    refine go ?_
    refine q_fin () (hv := ?_) (hp := trivial)
    rw [hord, ord_end hkx hky (by omega), if_neg (by omega), if_neg (by omega)]; rfl
  refine go ?_
  intro _ _ x hx _ _ y hy
  refine if_d rfl (fun h3 => ?_) (fun h3 => ?_)
  · refine go ?_
    refine q_fin () (hv := ?_) (hp := trivial)
    rw [hord, drop_cons hx, drop_cons hy, ordL, ordI, if_pos h3]; rfl
  refine go ?_
  intro _ _ x' hx' _ _ y' hy'
  cases hx.symm.trans hx'
  cases hy.symm.trans hy'
  refine if_d rfl (fun h4 => ?_) (fun h4 => ?_)
  · refine go ?_
    refine q_fin () (hv := ?_) (hp := trivial)
    rw [hord, drop_cons hx, drop_cons hy, ordL, ordI, if_neg h3, if_pos h4]; rfl
  refine go ?_
  refine q_again (k + 1) (by omega) ⟨by omega, by omega, ?_⟩
  rw [hord, drop_cons hx, drop_cons hy, ordL, ordI, if_neg h3, if_neg h4]
  rfl

theorem rOrd19_ok {va vb : Value} {xs ys : List Int} (hal : xs.length ≤ 1000000) (hbl : ys.length ≤ 1000000) :
    FnP Tryz.prog 71 [va, vb] [fSl intE va xs, fSl intE vb ys] (.int .i64 (ordL ordI xs ys)) := by
  refine q_beg c_rOrd19 f_rOrd19 fun B w0 => ?_
  refine go ?_
  refine q_loop (fun k => xs.length - k) (fun k : Nat => [(5, .int .i64 (k : Int))]) (fun _ => []) (fun _ => []) (fun k => k ≤ xs.length ∧ k ≤ ys.length ∧ ordL ordI xs ys = ordL ordI (xs.drop k) (ys.drop k)) 0 ⟨by omega, by omega, rfl⟩ (body := ?_)
  rintro k ⟨hkx, hky, hord⟩
  refine go ?_
  first | with_reducible refine g_d (fun h1 => ?_) (fun h1 => ?_) | with_reducible refine g_n (fun h1 => ?_) (fun h1 => ?_) | with_reducible refine g_b (fun h1 => ?_) (fun h1 => ?_)
  · refine go ?_
    refine if_d rfl (fun h3 => ?_) (fun h3 => ?_)
    · refine go ?_
      refine q_fin () (hv := ?_) (hp := trivial)
      rw [hord, ord_end hkx hky (by omega), if_pos (by omega)]; rfl
    refine go ?_
    refine if_d rfl (fun h4 => ?_) (fun h4 => ?_)
    · refine go ?_
      refine q_fin () (hv := ?_) (hp := trivial)
      rw [hord, ord_end hkx hky (by omega), if_neg (by omega), if_pos (by omega)]; rfl
    refine go ?_
    refine q_fin () (hv := ?_) (hp := trivial)
    rw [hord, ord_end hkx hky (by omega), if_neg (by omega), if_neg (by omega)]; rfl
  refine go ?_
  refine if_d rfl (fun h2 => ?_) (fun h2 => ?_)
  rotate_left
  · refine go ?_
    refine if_d rfl (fun h3 => ?_) (fun h3 => ?_)
    · refine go ?_
      refine q_fin () (hv := ?_) (hp := trivial)
      rw [hord, ord_end hkx hky (by omega), if_pos (by omega)]; rfl
    refine go ?_
    refine if_d rfl (fun h4 => ?_) (fun h4 => ?_)
    · refine go ?_
      refine q_fin () (hv := ?_) (hp := trivial)
      rw [hord, ord_end hkx hky (by omega), if_neg (by omega), if_pos (by omega)]; rfl
    refine go ?_
    refine q_fin () (hv := ?_) (hp := trivial)
    rw [hord, ord_end hkx hky (by omega), if_neg (by omega), if_neg (by omega)]; rfl
  refine go ?_
  intro _ _ x hx _ _ y hy
  refine if_d rfl (fun h3 => ?_) (fun h3 => ?_)
  · refine go ?_
    refine q_fin () (hv := ?_) (hp := trivial)
    rw [hord, drop_cons hx, drop_cons hy, ordL, ordI, if_pos h3]; rfl
  refine go ?_
  intro _ _ x' hx' _ _ y' hy'
  cases hx.symm.trans hx'
  cases hy.symm.trans hy'
  refine if_d rfl (fun h4 => ?_) (fun h4 => ?_)
  · refine go ?_
    refine q_fin () (hv := ?_) (hp := trivial)
    rw [hord, drop_cons hx, drop_cons hy, ordL, ordI, if_neg h3, if_pos h4]; rfl
  refine go ?_
  refine q_again (k + 1) (by omega) ⟨by omega, by omega, ?_⟩
  rw [hord, drop_cons hx, drop_cons hy, ordL, ordI, if_neg h3, if_neg h4]
  rfl

/-- a block of two numbers as a slice -/
theorem frz_two {b f c : Nat} {x y : Int} : Frz (pt b (.cells [.int .i64 x, .int .i64 y])) [fSl intE (.slice (some ⟨b, 0, some f⟩) 2 c) [x, y]] := frz_ints (xs := [x, y])

theorem rComp_ok {va vb : Value} {a b : Clue} (hal : a.values.length ≤ 1000000) (hbl : b.values.length ≤ 1000000) :
    FnP Tryz.prog 34 [clueV a va, clueV b vb] [fSl intE va a.values, fSl intE vb b.values] (.int .i64 (ordC a b)) := by
  refine q_beg c_rComp f_rComp fun B w0 => ?_
  refine go ?_
  intro b1 b2 b3 b4
  refine q_frz (frz_two (f := 0) (c := 2)) (h := ?_)
  refine q_frz (frz_two (f := 0) (c := 2)) (h := ?_)
  refine q_call (rOrder_ok (xs := [a.clue, a.at_]) (ys := [b.clue, b.at_]) (by simp) (by simp)) (next := fun _ _ => ?_)
  refine go ?_
  refine if_d rfl (fun h1 => ?_) (fun h1 => ?_)
  · refine go ?_
    refine q_fin () (hv := ?_) (hp := trivial)
    rw [ordC_eq, if_pos h1]; rfl
  refine go ?_
  refine q_call (rOrder_ok hal hbl) (next := fun _ _ => ?_)
  refine go ?_
  refine q_fin () (hv := ?_) (hp := trivial)
  rw [ordC_eq, if_neg h1]; rfl

abbrev lend (b : Nat) (g : Clue) (v : Value) : OA := pt b (.cells [.int .i64 g.clue, .int .i64 g.at_, v])

theorem comp1_ok {b2 b3 : Nat} {va vb : Value} {a b : Clue} :
    FnC Tryz.prog (.func 64) [] [ptr' b2, ptr' b3] [lend b2 a va, lend b3 b vb] [] (fun _ : Unit => .int .i64 (ordI a.clue b.clue)) (fun _ => [lend b2 a va, lend b3 b vb]) (fun _ => []) (fun _ => True) := by
  refine q_beg c_comp1 f_comp1 fun B w0 => ?_
  refine go ?_
  refine q_call (cmpI_ok _ _) (next := fun _ _ => ?_)
  refine go ?_
  exact q_fin () (hv := rfl) (hp := trivial)

theorem comp2_ok {b2 b3 : Nat} {va vb : Value} {a b : Clue} :
    FnC Tryz.prog (.func 66) [] [ptr' b2, ptr' b3] [lend b2 a va, lend b3 b vb] [] (fun _ : Unit => .int .i64 (ordI a.at_ b.at_)) (fun _ => [lend b2 a va, lend b3 b vb]) (fun _ => []) (fun _ => True) := by
  refine q_beg c_comp2 f_comp2 fun B w0 => ?_
  refine go ?_
  refine q_call (cmpI_ok _ _) (next := fun _ _ => ?_)
  refine go ?_
  exact q_fin () (hv := rfl) (hp := trivial)

theorem comp3_ok {b2 b3 : Nat} {va vb : Value} {a b : Clue} (hal : a.values.length ≤ 1000000) (hbl : b.values.length ≤ 1000000) :
    FnC Tryz.prog (.func 67) [] [ptr' b2, ptr' b3] [lend b2 a va, lend b3 b vb] [fSl intE va a.values, fSl intE vb b.values] (fun _ : Unit => .int .i64 (ordL ordI a.values b.values)) (fun _ => [lend b2 a va, lend b3 b vb]) (fun _ => []) (fun _ => True) := by
  refine q_beg c_comp3 f_comp3 fun B w0 => ?_
  refine go ?_
  refine q_call (slCmp_ok hal hbl) (next := fun _ _ => ?_)
  refine go ?_
  exact q_fin () (hv := rfl) (hp := trivial)

theorem comp_ok {va vb : Value} {a b : Clue} (hal : a.values.length ≤ 1000000) (hbl : b.values.length ≤ 1000000) :
    FnP Tryz.prog 33 [clueV a va, clueV b vb] [fSl intE va a.values, fSl intE vb b.values] (.int .i64 (ordC a b)) := by
  refine q_beg c_comp f_comp fun B w0 => ?_
  refine go ?_
  intro b2 b3 b12
  refine q_round ?_
  refine go ?_
  refine q_call (comp1_ok (a := a) (b := b)) (next := fun _ _ => ?_)
  refine go ?_
  refine if_d rfl (fun h1 => ?_) (fun h1 => ?_)
  · refine go ?_
    refine q_fin () (hv := ?_) (hp := trivial)
    rw [ordC, if_pos h1]; rfl
  refine go ?_
  refine q_round ?_
  refine go ?_
  refine q_call (comp2_ok (a := a) (b := b)) (next := fun _ _ => ?_)
  refine go ?_
  refine if_d rfl (fun h2 => ?_) (fun h2 => ?_)
  · refine go ?_
    refine q_fin () (hv := ?_) (hp := trivial)
    rw [ordC, if_neg h1, if_pos h2]; rfl
  refine go ?_
  refine q_round ?_
  refine go ?_
  refine q_call (comp3_ok (a := a) (b := b) hal hbl) (next := fun _ _ => ?_)
  refine go ?_
  refine if_d rfl (fun h3 => ?_) (fun h3 => ?_)
  · refine go ?_
    refine q_fin () (hv := ?_) (hp := trivial)
    rw [ordC, if_neg h1, if_neg h2]; rfl
  refine go ?_
  refine q_round ?_
  refine go ?_
  refine q_fin () (hv := ?_) (hp := trivial)
  rw [ordC, if_neg h1, if_neg h2, Decidable.not_not.1 h3]; rfl
end Go.Proofs.YtoilpafpgndilaaGreat

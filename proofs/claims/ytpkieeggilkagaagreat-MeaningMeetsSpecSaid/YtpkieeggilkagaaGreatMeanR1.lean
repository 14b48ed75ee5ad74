/-
  The reference's graphs: checked; what is connected.
-/
import Derived.Test.YtpkieeggilkagaaGreatMean12
import Derived.Test.YtpkieeggilkagaaGreatPgB
set_option linter.unusedSimpArgs false
set_option linter.unusedVariables false
set_option maxHeartbeats 2000000
set_option maxRecDepth 10000
namespace Go.Proofs.YtpkieeggilkagaaGreat
open Go.Ideal Gph

noncomputable def c_rHas : CFunc := ⟨18, [(.tmp 4)], (.seq (.ops [4] [⟨⟨(some 4), none, (.asg (.const (.bool false)))⟩, []⟩]) (.seq (.seq (.ops [5] [⟨⟨(some 5), none, (.asg (.const (.int .i64 0)))⟩, []⟩]) (.block 0 (.loop (.seq (.seq (.ops [6, 7, 8, 9] [⟨⟨(some 6), none, (.mv (.tmp 5))⟩, []⟩, ⟨⟨(some 7), none, (.mv (.tmp 0))⟩, []⟩, ⟨⟨(some 8), none, (.lenSl (.tmp 7))⟩, []⟩, ⟨⟨(some 9), none, (.bin .lss 3 (.tmp 6) (.tmp 8))⟩, []⟩]) (.cond (.tmp 9) .skip (.exit 0))) (.seq (.block 1 (.seq (.ops [12, 13, 14, 15, 16, 17] [⟨⟨(some 12), none, (.mv (.tmp 0))⟩, []⟩, ⟨⟨(some 13), none, (.mv (.tmp 5))⟩, []⟩, ⟨⟨(some 14), none, (.idxSl 1 (.tmp 12) (.tmp 13))⟩, []⟩, ⟨⟨(some 15), none, (.load1 (.tmp 14))⟩, []⟩, ⟨⟨(some 16), none, (.mv (.tmp 1))⟩, []⟩, ⟨⟨(some 17), none, (.bin .eql 3 (.tmp 15) (.tmp 16))⟩, []⟩]) (.cond (.tmp 17) (.seq (.ops [4] [⟨⟨(some 4), none, (.asg (.const (.bool true)))⟩, []⟩]) .ret) .skip))) (.ops [10, 11, 5] [⟨⟨(some 10), none, (.mv (.tmp 5))⟩, []⟩, ⟨⟨(some 11), none, (.bin .add 3 (.tmp 10) (.const (.int .i64 1)))⟩, []⟩, ⟨⟨(some 5), none, (.asg (.tmp 11))⟩, []⟩])))))) (.seq (.ops [4] [⟨⟨(some 4), none, (.asg (.const (.bool false)))⟩, []⟩]) .ret)))⟩
theorem f_rHas : (envOf Tryz.prog noCut noMemo).F 29 = some c_rHas := by kernel_rfl
noncomputable def c_rCheck : CFunc := ⟨69, [(.tmp 2)], (.seq (.ops [2] [⟨⟨(some 2), none, (.asg (.const (.int .i64 0)))⟩, []⟩]) (.seq (.seq (.ops [6, 7, 8] [⟨⟨(some 6), none, (.mv (.tmp 0))⟩, []⟩, ⟨⟨(some 7), none, (.lenSl (.tmp 6))⟩, []⟩, ⟨⟨(some 8), none, (.bin .gtr 3 (.tmp 7) (.const (.int .i64 256)))⟩, []⟩]) (.cond (.tmp 8) (.seq (.ops [2] [⟨⟨(some 2), none, (.asg (.const (.int .i64 120)))⟩, []⟩]) .ret) .skip)) (.seq (.seq (.ops [3] [⟨⟨(some 3), none, (.asg (.const (.int .i64 0)))⟩, []⟩]) (.block 0 (.loop (.seq (.seq (.ops [9, 10, 11, 12] [⟨⟨(some 9), none, (.mv (.tmp 3))⟩, []⟩, ⟨⟨(some 10), none, (.mv (.tmp 0))⟩, []⟩, ⟨⟨(some 11), none, (.lenSl (.tmp 10))⟩, []⟩, ⟨⟨(some 12), none, (.bin .lss 3 (.tmp 9) (.tmp 11))⟩, []⟩]) (.cond (.tmp 12) .skip (.exit 0))) (.seq (.block 1 (.seq (.ops [4] [⟨⟨(some 4), none, (.asg (.const (.int .i64 0)))⟩, []⟩]) (.block 2 (.loop (.seq (.seq (.ops [15, 16, 17, 18, 19, 20, 21] [⟨⟨(some 15), none, (.mv (.tmp 4))⟩, []⟩, ⟨⟨(some 16), none, (.mv (.tmp 0))⟩, []⟩, ⟨⟨(some 17), none, (.mv (.tmp 3))⟩, []⟩, ⟨⟨(some 18), none, (.idxSl 1 (.tmp 16) (.tmp 17))⟩, []⟩, ⟨⟨(some 19), none, (.load1 (.tmp 18))⟩, []⟩, ⟨⟨(some 20), none, (.lenSl (.tmp 19))⟩, []⟩, ⟨⟨(some 21), none, (.bin .lss 3 (.tmp 15) (.tmp 20))⟩, []⟩]) (.cond (.tmp 21) .skip (.exit 2))) (.seq (.block 3 (.seq (.ops [24, 25, 26, 27, 28, 29, 30, 5] [⟨⟨(some 24), none, (.mv (.tmp 0))⟩, []⟩, ⟨⟨(some 25), none, (.mv (.tmp 3))⟩, []⟩, ⟨⟨(some 26), none, (.idxSl 1 (.tmp 24) (.tmp 25))⟩, []⟩, ⟨⟨(some 27), none, (.load1 (.tmp 26))⟩, []⟩, ⟨⟨(some 28), none, (.mv (.tmp 4))⟩, []⟩, ⟨⟨(some 29), none, (.idxSl 1 (.tmp 27) (.tmp 28))⟩, []⟩, ⟨⟨(some 30), none, (.load1 (.tmp 29))⟩, []⟩, ⟨⟨(some 5), none, (.asg (.tmp 30))⟩, []⟩]) (.seq (.ops [31, 32, 33, 34, 35, 36, 37, 38, 39, 40, 41, 42, 43, 44, 45, 46, 47, 48, 49, 50, 51, 52, 53, 54, 55, 56, 57, 58, 59, 60, 61, 62, 63, 64, 65, 66, 67, 68] [⟨⟨(some 31), none, (.mv (.tmp 5))⟩, []⟩, ⟨⟨(some 32), none, (.bin .lss 3 (.tmp 31) (.const (.int .i64 0)))⟩, []⟩, ⟨⟨(some 33), none, (.mv (.tmp 32))⟩, []⟩, ⟨⟨(some 34), (some ⟨33, false⟩), (.mv (.tmp 5))⟩, []⟩, ⟨⟨(some 35), (some ⟨33, false⟩), (.mv (.tmp 0))⟩, []⟩, ⟨⟨(some 36), (some ⟨33, false⟩), (.lenSl (.tmp 35))⟩, []⟩, ⟨⟨(some 37), (some ⟨33, false⟩), (.bin .geq 3 (.tmp 34) (.tmp 36))⟩, []⟩, ⟨⟨(some 38), none, (.pick (.tmp 33) (.const (.bool true)) (.tmp 37))⟩, []⟩, ⟨⟨(some 39), none, (.mv (.tmp 38))⟩, []⟩, ⟨⟨(some 40), (some ⟨39, false⟩), (.mv (.tmp 5))⟩, []⟩, ⟨⟨(some 41), (some ⟨39, false⟩), (.mv (.tmp 3))⟩, []⟩, ⟨⟨(some 42), (some ⟨39, false⟩), (.bin .eql 3 (.tmp 40) (.tmp 41))⟩, []⟩, ⟨⟨(some 43), none, (.pick (.tmp 39) (.const (.bool true)) (.tmp 42))⟩, []⟩, ⟨⟨(some 44), none, (.mv (.tmp 43))⟩, []⟩, ⟨⟨(some 45), (some ⟨44, false⟩), (.mv (.tmp 4))⟩, []⟩, ⟨⟨(some 46), (some ⟨44, false⟩), (.bin .gtr 3 (.tmp 45) (.const (.int .i64 0)))⟩, []⟩, ⟨⟨(some 47), (some ⟨44, false⟩), (.mv (.tmp 46))⟩, []⟩, ⟨⟨(some 48), (some ⟨47, true⟩), (.mv (.tmp 0))⟩, []⟩, ⟨⟨(some 49), (some ⟨47, true⟩), (.mv (.tmp 3))⟩, []⟩, ⟨⟨(some 50), (some ⟨47, true⟩), (.idxSl 1 (.tmp 48) (.tmp 49))⟩, []⟩, ⟨⟨(some 51), (some ⟨47, true⟩), (.load1 (.tmp 50))⟩, []⟩, ⟨⟨(some 52), (some ⟨47, true⟩), (.mv (.tmp 4))⟩, []⟩, ⟨⟨(some 53), (some ⟨47, true⟩), (.bin .sub 3 (.tmp 52) (.const (.int .i64 1)))⟩, []⟩, ⟨⟨(some 54), (some ⟨47, true⟩), (.idxSl 1 (.tmp 51) (.tmp 53))⟩, []⟩, ⟨⟨(some 55), (some ⟨47, true⟩), (.load1 (.tmp 54))⟩, []⟩, ⟨⟨(some 56), (some ⟨47, true⟩), (.mv (.tmp 5))⟩, []⟩, ⟨⟨(some 57), (some ⟨47, true⟩), (.bin .geq 3 (.tmp 55) (.tmp 56))⟩, []⟩, ⟨⟨(some 58), (some ⟨44, false⟩), (.pick (.tmp 47) (.tmp 57) (.const (.bool false)))⟩, []⟩, ⟨⟨(some 59), none, (.pick (.tmp 44) (.const (.bool true)) (.tmp 58))⟩, []⟩, ⟨⟨(some 60), none, (.mv (.tmp 59))⟩, []⟩, ⟨⟨(some 61), (some ⟨60, false⟩), (.mv (.tmp 0))⟩, []⟩, ⟨⟨(some 62), (some ⟨60, false⟩), (.mv (.tmp 5))⟩, []⟩, ⟨⟨(some 63), (some ⟨60, false⟩), (.idxSl 1 (.tmp 61) (.tmp 62))⟩, []⟩, ⟨⟨(some 64), (some ⟨60, false⟩), (.load1 (.tmp 63))⟩, []⟩, ⟨⟨(some 65), (some ⟨60, false⟩), (.mv (.tmp 3))⟩, []⟩, ⟨⟨(some 66), (some ⟨60, false⟩), (.call (.func 29) [(.tmp 64), (.tmp 65)])⟩, []⟩, ⟨⟨(some 67), (some ⟨60, false⟩), (.un .not (.tmp 66))⟩, []⟩, ⟨⟨(some 68), none, (.pick (.tmp 60) (.const (.bool true)) (.tmp 67))⟩, []⟩]) (.cond (.tmp 68) (.seq (.ops [2] [⟨⟨(some 2), none, (.asg (.const (.int .i64 120)))⟩, []⟩]) .ret) .skip)))) (.ops [22, 23, 4] [⟨⟨(some 22), none, (.mv (.tmp 4))⟩, []⟩, ⟨⟨(some 23), none, (.bin .add 3 (.tmp 22) (.const (.int .i64 1)))⟩, []⟩, ⟨⟨(some 4), none, (.asg (.tmp 23))⟩, []⟩]))))))) (.ops [13, 14, 3] [⟨⟨(some 13), none, (.mv (.tmp 3))⟩, []⟩, ⟨⟨(some 14), none, (.bin .add 3 (.tmp 13) (.const (.int .i64 1)))⟩, []⟩, ⟨⟨(some 3), none, (.asg (.tmp 14))⟩, []⟩])))))) (.seq (.ops [2] [⟨⟨(some 2), none, (.asg (.const (.int .i64 0)))⟩, []⟩]) .ret))))⟩
theorem f_rCheck : (envOf Tryz.prog noCut noMemo).F 155 = some c_rCheck := by kernel_rfl
noncomputable def c_rConn : CFunc := ⟨72, [(.tmp 6)], (.seq (.ops [6] [⟨⟨(some 6), none, (.asg (.const (.slice none 0 0)))⟩, []⟩]) (.seq (.ops [11, 12, 13, 7] [⟨⟨(some 11), none, (.mv (.tmp 0))⟩, []⟩, ⟨⟨(some 12), none, (.lenSl (.tmp 11))⟩, []⟩, ⟨⟨(some 13), none, (.mkslice 4 1 1 [(.bool false)] (.tmp 12) (.tmp 12))⟩, []⟩, ⟨⟨(some 7), none, (.asg (.tmp 13))⟩, []⟩]) (.seq (.ops [14, 15, 16] [⟨⟨(some 14), none, (.mv (.tmp 7))⟩, []⟩, ⟨⟨(some 15), none, (.mv (.tmp 2))⟩, []⟩, ⟨⟨(some 16), none, (.idxSl 1 (.tmp 14) (.tmp 15))⟩, []⟩, ⟨⟨none, none, (.store 1 (.tmp 16) (.const (.bool true)))⟩, []⟩]) (.seq (.ops [8] [⟨⟨(some 8), none, (.asg (.const (.bool true)))⟩, []⟩]) (.seq (.block 0 (.loop (.seq (.seq (.ops [17] [⟨⟨(some 17), none, (.mv (.tmp 8))⟩, []⟩]) (.cond (.tmp 17) .skip (.exit 0))) (.block 1 (.seq (.ops [8] [⟨⟨(some 8), none, (.asg (.const (.bool false)))⟩, []⟩]) (.seq (.ops [9] [⟨⟨(some 9), none, (.asg (.const (.int .i64 0)))⟩, []⟩]) (.block 2 (.loop (.seq (.seq (.ops [18, 19, 20, 21] [⟨⟨(some 18), none, (.mv (.tmp 9))⟩, []⟩, ⟨⟨(some 19), none, (.mv (.tmp 0))⟩, []⟩, ⟨⟨(some 20), none, (.lenSl (.tmp 19))⟩, []⟩, ⟨⟨(some 21), none, (.bin .lss 3 (.tmp 18) (.tmp 20))⟩, []⟩]) (.cond (.tmp 21) .skip (.exit 2))) (.seq (.block 3 (.seq (.ops [10] [⟨⟨(some 10), none, (.asg (.const (.int .i64 0)))⟩, []⟩]) (.block 4 (.loop (.seq (.seq (.ops [24, 25, 26, 27, 28, 29, 30] [⟨⟨(some 24), none, (.mv (.tmp 10))⟩, []⟩, ⟨⟨(some 25), none, (.mv (.tmp 0))⟩, []⟩, ⟨⟨(some 26), none, (.mv (.tmp 9))⟩, []⟩, ⟨⟨(some 27), none, (.idxSl 1 (.tmp 25) (.tmp 26))⟩, []⟩, ⟨⟨(some 28), none, (.load1 (.tmp 27))⟩, []⟩, ⟨⟨(some 29), none, (.lenSl (.tmp 28))⟩, []⟩, ⟨⟨(some 30), none, (.bin .lss 3 (.tmp 24) (.tmp 29))⟩, []⟩]) (.cond (.tmp 30) .skip (.exit 4))) (.seq (.block 5 (.seq (.ops [33, 34, 35, 36, 37, 38, 39, 40, 41, 42, 43, 44, 45, 46, 47, 48, 49, 50, 51, 52, 53, 54, 55, 56, 57, 58, 59, 60, 61] [⟨⟨(some 33), none, (.mv (.tmp 7))⟩, []⟩, ⟨⟨(some 34), none, (.mv (.tmp 9))⟩, []⟩, ⟨⟨(some 35), none, (.idxSl 1 (.tmp 33) (.tmp 34))⟩, []⟩, ⟨⟨(some 36), none, (.load1 (.tmp 35))⟩, []⟩, ⟨⟨(some 37), none, (.mv (.tmp 36))⟩, []⟩, ⟨⟨(some 38), (some ⟨37, true⟩), (.mv (.tmp 1))⟩, []⟩, ⟨⟨(some 39), (some ⟨37, true⟩), (.mv (.tmp 0))⟩, []⟩, ⟨⟨(some 40), (some ⟨37, true⟩), (.mv (.tmp 9))⟩, []⟩, ⟨⟨(some 41), (some ⟨37, true⟩), (.idxSl 1 (.tmp 39) (.tmp 40))⟩, []⟩, ⟨⟨(some 42), (some ⟨37, true⟩), (.load1 (.tmp 41))⟩, []⟩, ⟨⟨(some 43), (some ⟨37, true⟩), (.mv (.tmp 10))⟩, []⟩, ⟨⟨(some 44), (some ⟨37, true⟩), (.idxSl 1 (.tmp 42) (.tmp 43))⟩, []⟩, ⟨⟨(some 45), (some ⟨37, true⟩), (.load1 (.tmp 44))⟩, []⟩, ⟨⟨(some 46), (some ⟨37, true⟩), (.idxSl 1 (.tmp 38) (.tmp 45))⟩, []⟩, ⟨⟨(some 47), (some ⟨37, true⟩), (.load1 (.tmp 46))⟩, []⟩, ⟨⟨(some 48), none, (.pick (.tmp 37) (.tmp 47) (.const (.bool false)))⟩, []⟩, ⟨⟨(some 49), none, (.mv (.tmp 48))⟩, []⟩, ⟨⟨(some 50), (some ⟨49, true⟩), (.mv (.tmp 7))⟩, []⟩, ⟨⟨(some 51), (some ⟨49, true⟩), (.mv (.tmp 0))⟩, []⟩, ⟨⟨(some 52), (some ⟨49, true⟩), (.mv (.tmp 9))⟩, []⟩, ⟨⟨(some 53), (some ⟨49, true⟩), (.idxSl 1 (.tmp 51) (.tmp 52))⟩, []⟩, ⟨⟨(some 54), (some ⟨49, true⟩), (.load1 (.tmp 53))⟩, []⟩, ⟨⟨(some 55), (some ⟨49, true⟩), (.mv (.tmp 10))⟩, []⟩, ⟨⟨(some 56), (some ⟨49, true⟩), (.idxSl 1 (.tmp 54) (.tmp 55))⟩, []⟩, ⟨⟨(some 57), (some ⟨49, true⟩), (.load1 (.tmp 56))⟩, []⟩, ⟨⟨(some 58), (some ⟨49, true⟩), (.idxSl 1 (.tmp 50) (.tmp 57))⟩, []⟩, ⟨⟨(some 59), (some ⟨49, true⟩), (.load1 (.tmp 58))⟩, []⟩, ⟨⟨(some 60), (some ⟨49, true⟩), (.un .not (.tmp 59))⟩, []⟩, ⟨⟨(some 61), none, (.pick (.tmp 49) (.tmp 60) (.const (.bool false)))⟩, []⟩]) (.cond (.tmp 61) (.seq (.ops [62, 63, 64, 65, 66, 67, 68, 69, 70] [⟨⟨(some 62), none, (.mv (.tmp 7))⟩, []⟩, ⟨⟨(some 63), none, (.mv (.tmp 0))⟩, []⟩, ⟨⟨(some 64), none, (.mv (.tmp 9))⟩, []⟩, ⟨⟨(some 65), none, (.idxSl 1 (.tmp 63) (.tmp 64))⟩, []⟩, ⟨⟨(some 66), none, (.load1 (.tmp 65))⟩, []⟩, ⟨⟨(some 67), none, (.mv (.tmp 10))⟩, []⟩, ⟨⟨(some 68), none, (.idxSl 1 (.tmp 66) (.tmp 67))⟩, []⟩, ⟨⟨(some 69), none, (.load1 (.tmp 68))⟩, []⟩, ⟨⟨(some 70), none, (.idxSl 1 (.tmp 62) (.tmp 69))⟩, []⟩, ⟨⟨none, none, (.store 1 (.tmp 70) (.const (.bool true)))⟩, []⟩]) (.ops [8] [⟨⟨(some 8), none, (.asg (.const (.bool true)))⟩, []⟩])) .skip))) (.ops [31, 32, 10] [⟨⟨(some 31), none, (.mv (.tmp 10))⟩, []⟩, ⟨⟨(some 32), none, (.bin .add 3 (.tmp 31) (.const (.int .i64 1)))⟩, []⟩, ⟨⟨(some 10), none, (.asg (.tmp 32))⟩, []⟩]))))))) (.ops [22, 23, 9] [⟨⟨(some 22), none, (.mv (.tmp 9))⟩, []⟩, ⟨⟨(some 23), none, (.bin .add 3 (.tmp 22) (.const (.int .i64 1)))⟩, []⟩, ⟨⟨(some 9), none, (.asg (.tmp 23))⟩, []⟩]))))))))))) (.seq (.ops [71, 6] [⟨⟨(some 71), none, (.mv (.tmp 7))⟩, []⟩, ⟨⟨(some 6), none, (.asg (.tmp 71))⟩, []⟩]) .ret))))))⟩
theorem f_rConn : (envOf Tryz.prog noCut noMemo).F 180 = some c_rConn := by kernel_rfl

theorem rHas_ok {vl : Value} {xs : List Int} {z : Int} (hl : xs.length < 9223372036854775808) : FnP Tryz.prog 29 [vl, .int .i64 z] [fSl intE vl xs] (.bool (decide (z ∈ xs))) := by
  refine q_beg c_rHas f_rHas fun B w0 => ?_
  refine go ?_
  refine q_loop (fun k => xs.length - k) (fun k : Nat => [(5, .int .i64 (k : Int))]) (fun _ => []) (fun _ => []) (fun k => k ≤ xs.length ∧ z ∉ xs.take k) 0 ⟨by omega, by simp⟩ (body := ?_)
  rintro k ⟨hk, hno⟩
  refine go ?_
  refine if_d rfl (fun h1 => ?_) (fun h1 => ?_)
  · refine go ?_
    intro _ _ x hx
    refine go ?_
    refine if_d rfl (fun h2 => ?_) (fun h2 => ?_)
    · refine go ?_
      refine q_fin () (hv := ?_) (hp := trivial)
      subst h2
      rw [decide_eq_true (List.mem_of_getElem? hx)]; rfl
    · refine go ?_
      refine q_again (k + 1) (by omega) ⟨by omega, ?_⟩
      rw [take_one hx, List.mem_append, not_or]
      exact ⟨hno, by simp; exact fun e => h2 e.symm⟩
  refine go ?_
  have : k = xs.length := by omega
  subst this
  rw [List.take_length] at hno
  refine q_fin () (hv := ?_) (hp := trivial)
  rw [decide_eq_false hno]; rfl



theorem rCheck_ok {vg : Value} {g : List (List Int)} (hll : ∀ l ∈ g, l.length < 9223372036854775808) : FnC Tryz.prog (.func 155) [vg] [] [] [fSl (slE intE) vg g] (fun b : Bool => .int .i64 (if b then 0 else 120)) (fun _ => []) (fun _ => []) (fun b => (b = true ↔ GOK g)) := by
  refine q_beg c_rCheck f_rCheck fun B w0 => ?_
  refine go ?_
  refine if_d rfl (fun h1 => ?_) (fun h1 => ?_)
  · refine go ?_
    exact q_fin false (hv := rfl) (hp := ⟨(fun h => by cases h), (fun h => by have := h.len; omega)⟩)
  refine go ?_
  refine q_loop (fun k => g.length - k) (fun k : Nat => [(3, .int .i64 (k : Int))]) (fun _ => []) (fun _ => [])
    (fun i => i ≤ g.length ∧ ∀ (i' : Nat) l, i' < i → g[i']? = some l → ∀ (k : Nat) n, l[k]? = some n → 0 ≤ n ∧ n < g.length ∧ n ≠ i' ∧ (∀ m, 0 < k → l[k - 1]? = some m → m < n) ∧ ∀ l', g[n.toNat]? = some l' → (i' : Int) ∈ l') 0 ⟨by omega, fun i' l h => by omega⟩ (body := ?_)
  rintro i ⟨hi, hall⟩
  refine go ?_
  refine if_d rfl (fun h2 => ?_) (fun h2 => ?_)
  · obtain ⟨l, hli⟩ : ∃ l, g[i]? = some l := ⟨g[i]'(by omega), List.getElem?_eq_getElem _⟩
    have hl1 := hll l (List.mem_of_getElem? hli)
    refine go ?_
    refine q_loop (fun k => l.length - k) (fun k : Nat => [(4, .int .i64 (k : Int))]) (fun _ => []) (fun _ => [])
      (fun k => k ≤ l.length ∧ ∀ (k' : Nat) n, k' < k → l[k']? = some n → 0 ≤ n ∧ n < g.length ∧ n ≠ i ∧ (∀ m, 0 < k' → l[k' - 1]? = some m → m < n) ∧ ∀ l', g[n.toNat]? = some l' → (i : Int) ∈ l') 0 ⟨by omega, fun k' n h => by omega⟩ (body := ?_)
    rintro k ⟨hk, hin⟩
    refine go ?_
    refine q_idx (slE intE) (next := fun _ _ l0 (vl0 : Value) hl0 => ?_)
    cases hli.symm.trans hl0
    refine go ?_
    refine if_d rfl (fun h3 => ?_) (fun h3 => ?_)
    · refine go ?_
      refine q_idx (slE intE) (next := fun _ _ l0 (vl0 : Value) hl0 => ?_)
      cases hli.symm.trans hl0
      refine go ?_
      intro _ _ n hn
      have hbad : ∀ (_ : ¬ (0 ≤ n ∧ n < g.length ∧ n ≠ i ∧ (∀ m, 0 < k → l[k - 1]? = some m → m < n) ∧ ∀ l', g[n.toNat]? = some l' → (i : Int) ∈ l')), ¬ GOK g := fun h hG => h (hG.ok i l hli k n hn)
      refine go ?_
      first | with_reducible refine g_d (fun h4 => ?_) (fun h4 => ?_) | with_reducible refine g_n (fun h4 => ?_) (fun h4 => ?_) | with_reducible refine g_b (fun h4 => ?_) (fun h4 => ?_)
      rotate_left
      · refine go ?_
        exact q_fin false (hv := rfl) (hp := ⟨(fun h => by cases h), fun hG => absurd hG (hbad (fun h => by omega))⟩)
      refine go ?_
      first | with_reducible refine g_d (fun h5 => ?_) (fun h5 => ?_) | with_reducible refine g_n (fun h5 => ?_) (fun h5 => ?_) | with_reducible refine g_b (fun h5 => ?_) (fun h5 => ?_)
      rotate_left
      · refine go ?_
        exact q_fin false (hv := rfl) (hp := ⟨(fun h => by cases h), fun hG => absurd hG (hbad (fun h => by omega))⟩)
      refine go ?_
      first | with_reducible refine g_d (fun h6 => ?_) (fun h6 => ?_) | with_reducible refine g_n (fun h6 => ?_) (fun h6 => ?_) | with_reducible refine g_b (fun h6 => ?_) (fun h6 => ?_)
      rotate_left
      · refine go ?_
        exact q_fin false (hv := rfl) (hp := ⟨(fun h => by cases h), fun hG => absurd hG (hbad (fun h => by omega))⟩)
      refine go ?_
      obtain ⟨n, rfl⟩ := Int.eq_ofNat_of_zero_le (show 0 ≤ n by omega)
      first | with_reducible refine g_d (fun h7 => ?_) (fun h7 => ?_) | with_reducible refine g_n (fun h7 => ?_) (fun h7 => ?_) | with_reducible refine g_b (fun h7 => ?_) (fun h7 => ?_)
      · have hprev : ∀ m, 0 < k → l[k - 1]? = some m → m < (n : Int) := fun m hm => by omega
        refine go ?_
        refine q_idx (slE intE) (next := fun _ _ l' (vl' : Value) hl' => ?_)
        have hl1' := hll l' (List.mem_of_getElem? hl')
        refine go ?_
        refine q_call (rHas_ok (xs := l') hl1') (next := fun _ _ => ?_)
        refine go ?_
        refine if_n rfl (fun h9 => ?_) (fun h9 => ?_)
        · refine go ?_
          exact q_fin false (hv := rfl) (hp := ⟨(fun h => by cases h), fun hG => absurd hG (hbad (fun h => h9 (h.2.2.2.2 l' (by simpa using hl'))))⟩)
        refine go ?_
        refine q_again (k + 1) (by omega) ⟨by omega, fun k' m hk' hm => ?_⟩
        by_cases e : k' = k
        · subst e
          rw [hn] at hm
          cases hm
          refine ⟨by omega, by omega, h6, hprev, fun l2 hl2 => ?_⟩
          rw [Int.toNat_natCast] at hl2
          rw [hl2] at hl'
          cases hl'; exact h9
        · exact hin k' m (by omega) hm
      refine go ?_
      obtain ⟨k, rfl⟩ : ∃ k', k = k' + 1 := ⟨k - 1, by omega⟩
      refine q_idx (slE intE) (next := fun _ _ l0 (vl0 : Value) hl0 => ?_)
      cases hli.symm.trans hl0
      refine go ?_
      intro _ _ m hm
      rw [show (((k + 1 : Nat) : Int) - 1).toNat = k by omega] at hm
      refine go ?_
      first | with_reducible refine g_d (fun h8 => ?_) (fun h8 => ?_) | with_reducible refine g_n (fun h8 => ?_) (fun h8 => ?_) | with_reducible refine g_b (fun h8 => ?_) (fun h8 => ?_)
      · have hprev : ∀ u, 0 < k + 1 → l[k + 1 - 1]? = some u → u < (n : Int) := fun u _ hu => by
          rw [Nat.add_sub_cancel, hm] at hu
          cases hu; omega
        refine go ?_
        refine q_idx (slE intE) (next := fun _ _ l' (vl' : Value) hl' => ?_)
        have hl1' := hll l' (List.mem_of_getElem? hl')
        refine go ?_
        refine q_call (rHas_ok (xs := l') hl1') (next := fun _ _ => ?_)
        refine go ?_
        refine if_n rfl (fun h9 => ?_) (fun h9 => ?_)
        · refine go ?_
          exact q_fin false (hv := rfl) (hp := ⟨(fun h => by cases h), fun hG => absurd hG (hbad (fun h => h9 (h.2.2.2.2 l' (by simpa using hl'))))⟩)
        refine go ?_
        refine q_again (k + 1 + 1) (by omega) ⟨by omega, fun k' m hk' hm => ?_⟩
        by_cases e : k' = k + 1
        · subst e
          rw [hn] at hm
          cases hm
          refine ⟨by omega, by omega, h6, hprev, fun l2 hl2 => ?_⟩
          rw [Int.toNat_natCast] at hl2
          rw [hl2] at hl'
          cases hl'; exact h9
        · exact hin k' m (by omega) hm
      refine go ?_
      refine q_fin false (hv := rfl) (hp := ⟨(fun h => by cases h), fun hG => absurd hG (hbad (fun h => by have := h.2.2.2.1 m (by omega) (by rw [Nat.add_sub_cancel]; exact hm); omega))⟩)
    refine go ?_
    refine q_again (i + 1) (by omega) ⟨by omega, fun i' l2 hi' hl2 => ?_⟩
    by_cases e : i' = i
    · subst e
      rw [hli] at hl2
      cases hl2
      exact fun k' n hn => hin k' n (by have := (List.getElem?_eq_some_iff.1 hn).1; omega) hn
    · exact hall i' l2 (by omega) hl2
  refine go ?_
  refine q_fin true (hv := rfl) (hp := ⟨fun _ => ⟨by omega, fun i' l hl => hall i' l (by have := (List.getElem?_eq_some_iff.1 hl).1; omega) hl⟩, fun _ => rfl⟩)
end Go.Proofs.YtpkieeggilkagaaGreat

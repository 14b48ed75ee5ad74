/-
  Problems solved.
-/
import Derived.Test.YtpkieeggilkagaaGreatMean11
set_option linter.unusedSimpArgs false
set_option linter.unusedVariables false
set_option maxHeartbeats 2000000
set_option maxRecDepth 10000
namespace Go.Proofs.YtpkieeggilkagaaGreat
open Go.Ideal Gph

noncomputable def c_meetsE : CFunc := ⟨31, [(.tmp 6), (.tmp 7)], (.seq (.ops [3, 6, 7] [⟨⟨(some 3), none, (.box (.tmp 0) 50)⟩, []⟩, ⟨⟨(some 6), none, (.asg (.const (.bool false)))⟩, []⟩, ⟨⟨(some 7), none, (.asg (.const (.int .i64 0)))⟩, []⟩]) (.seq (.seq (.ops [8, 9, 10, 7] [⟨⟨(some 8), none, (.loadN 5 (.tmp 3))⟩, []⟩, ⟨⟨(some 9), none, (.mv (.tmp 2))⟩, []⟩, ⟨⟨(some 10), none, (.call (.func 43) [(.tmp 8), (.tmp 9)])⟩, []⟩, ⟨⟨(some 7), none, (.asg (.tmp 10))⟩, []⟩]) (.seq (.ops [11, 12] [⟨⟨(some 11), none, (.mv (.tmp 7))⟩, []⟩, ⟨⟨(some 12), none, (.bin .neq 40 (.tmp 11) (.const (.int .i64 0)))⟩, []⟩]) (.cond (.tmp 12) (.seq (.ops [13, 6, 7] [⟨⟨(some 13), none, (.mv (.tmp 7))⟩, []⟩, ⟨⟨(some 6), none, (.asg (.const (.bool false)))⟩, []⟩, ⟨⟨(some 7), none, (.asg (.tmp 13))⟩, []⟩]) .ret) .skip))) (.seq (.seq (.ops [14, 15, 16, 17, 18, 19, 20, 21, 22] [⟨⟨(some 14), none, (.mv (.tmp 1))⟩, []⟩, ⟨⟨(some 15), none, (.bin .lss 3 (.tmp 14) (.const (.int .i64 0)))⟩, []⟩, ⟨⟨(some 16), none, (.mv (.tmp 15))⟩, []⟩, ⟨⟨(some 17), (some ⟨16, false⟩), (.mv (.tmp 1))⟩, []⟩, ⟨⟨(some 18), (some ⟨16, false⟩), (.fieldA 4 (.tmp 3))⟩, []⟩, ⟨⟨(some 19), (some ⟨16, false⟩), (.load1 (.tmp 18))⟩, []⟩, ⟨⟨(some 20), (some ⟨16, false⟩), (.lenSl (.tmp 19))⟩, []⟩, ⟨⟨(some 21), (some ⟨16, false⟩), (.bin .geq 3 (.tmp 17) (.tmp 20))⟩, []⟩, ⟨⟨(some 22), none, (.pick (.tmp 16) (.const (.bool true)) (.tmp 21))⟩, []⟩]) (.cond (.tmp 22) (.seq (.ops [6, 7] [⟨⟨(some 6), none, (.asg (.const (.bool false)))⟩, []⟩, ⟨⟨(some 7), none, (.asg (.const (.int .i64 1)))⟩, []⟩]) .ret) .skip)) (.seq (.ops [23, 24, 25, 26, 27, 28, 29, 30, 6, 7] [⟨⟨(some 23), none, (.loadN 5 (.tmp 3))⟩, []⟩, ⟨⟨(some 24), none, (.fieldA 4 (.tmp 3))⟩, []⟩, ⟨⟨(some 25), none, (.load1 (.tmp 24))⟩, []⟩, ⟨⟨(some 26), none, (.mv (.tmp 1))⟩, []⟩, ⟨⟨(some 27), none, (.idxSl 9 (.tmp 25) (.tmp 26))⟩, []⟩, ⟨⟨(some 28), none, (.loadN 9 (.tmp 27))⟩, []⟩, ⟨⟨(some 29), none, (.mv (.tmp 2))⟩, []⟩, ⟨⟨(some 30), none, (.call (.func 46) [(.tmp 23), (.tmp 28), (.tmp 29)])⟩, []⟩, ⟨⟨(some 6), none, (.asg (.tmp 30))⟩, []⟩, ⟨⟨(some 7), none, (.asg (.const (.int .i64 0)))⟩, []⟩]) .ret))))⟩
theorem f_meetsE : (envOf Tryz.prog noCut noMemo).F 22 = some c_meetsE := by kernel_rfl
noncomputable def c_solvesE : CFunc := ⟨17, [(.tmp 4), (.tmp 5)], (.seq (.ops [2, 3, 4, 5] [⟨⟨(some 2), none, (.box (.tmp 0) 50)⟩, []⟩, ⟨⟨(some 3), none, (.box (.tmp 1) 22)⟩, []⟩, ⟨⟨(some 4), none, (.asg (.const (.bool false)))⟩, []⟩, ⟨⟨(some 5), none, (.asg (.const (.int .i64 0)))⟩, []⟩]) (.seq (.seq (.ops [6, 7, 8, 5] [⟨⟨(some 6), none, (.loadN 5 (.tmp 2))⟩, []⟩, ⟨⟨(some 7), none, (.load1 (.tmp 3))⟩, []⟩, ⟨⟨(some 8), none, (.call (.func 43) [(.tmp 6), (.tmp 7)])⟩, []⟩, ⟨⟨(some 5), none, (.asg (.tmp 8))⟩, []⟩]) (.seq (.ops [9, 10] [⟨⟨(some 9), none, (.mv (.tmp 5))⟩, []⟩, ⟨⟨(some 10), none, (.bin .neq 40 (.tmp 9) (.const (.int .i64 0)))⟩, []⟩]) (.cond (.tmp 10) (.seq (.ops [11, 4, 5] [⟨⟨(some 11), none, (.mv (.tmp 5))⟩, []⟩, ⟨⟨(some 4), none, (.asg (.const (.bool false)))⟩, []⟩, ⟨⟨(some 5), none, (.asg (.tmp 11))⟩, []⟩]) .ret) .skip))) (.seq (.ops [12, 13, 14, 15, 16, 4, 5] [⟨⟨(some 12), none, (.fieldA 4 (.tmp 2))⟩, []⟩, ⟨⟨(some 13), none, (.load1 (.tmp 12))⟩, []⟩, ⟨⟨(some 14), none, (.mkfunc (.func 45) [] [(.tmp 2), (.tmp 3)])⟩, []⟩, ⟨⟨(some 15), none, (.call (.func 44) [(.tmp 13), (.tmp 14)])⟩, []⟩, ⟨⟨(some 16), none, (.un .not (.tmp 15))⟩, []⟩, ⟨⟨(some 4), none, (.asg (.tmp 16))⟩, []⟩, ⟨⟨(some 5), none, (.asg (.const (.int .i64 0)))⟩, []⟩]) .ret)))⟩
theorem f_solvesE : (envOf Tryz.prog noCut noMemo).F 21 = some c_solvesE := by kernel_rfl
noncomputable def c_solves1 : CFunc := ⟨10, [(.tmp 4)], (.seq (.ops [3, 4] [⟨⟨(some 3), none, (.box (.tmp 0) 57)⟩, []⟩, ⟨⟨(some 4), none, (.asg (.const (.bool false)))⟩, []⟩]) (.seq (.ops [5, 6, 7, 8, 9, 4] [⟨⟨(some 5), none, (.loadN 5 (.tmp 1))⟩, []⟩, ⟨⟨(some 6), none, (.loadN 9 (.tmp 3))⟩, []⟩, ⟨⟨(some 7), none, (.load1 (.tmp 2))⟩, []⟩, ⟨⟨(some 8), none, (.call (.func 46) [(.tmp 5), (.tmp 6), (.tmp 7)])⟩, []⟩, ⟨⟨(some 9), none, (.un .not (.tmp 8))⟩, []⟩, ⟨⟨(some 4), none, (.asg (.tmp 9))⟩, []⟩]) .ret))⟩
theorem f_solves1 : (envOf Tryz.prog noCut noMemo).F 45 = some c_solves1 := by kernel_rfl
noncomputable def c_rIn : CFunc := ⟨18, [(.tmp 4)], (.seq (.ops [4] [⟨⟨(some 4), none, (.asg (.const (.bool false)))⟩, []⟩]) (.seq (.ops [5, 6, 7, 8, 9, 10, 11, 12, 13, 14, 15, 16, 17, 4] [⟨⟨(some 5), none, (.mv (.tmp 1))⟩, []⟩, ⟨⟨(some 6), none, (.bin .geq 3 (.tmp 5) (.const (.int .i64 0)))⟩, []⟩, ⟨⟨(some 7), none, (.mv (.tmp 6))⟩, []⟩, ⟨⟨(some 8), (some ⟨7, true⟩), (.mv (.tmp 1))⟩, []⟩, ⟨⟨(some 9), (some ⟨7, true⟩), (.bin .lss 3 (.tmp 8) (.const (.int .i64 16)))⟩, []⟩, ⟨⟨(some 10), none, (.pick (.tmp 7) (.tmp 9) (.const (.bool false)))⟩, []⟩, ⟨⟨(some 11), none, (.mv (.tmp 10))⟩, []⟩, ⟨⟨(some 12), (some ⟨11, true⟩), (.mv (.tmp 0))⟩, []⟩, ⟨⟨(some 13), (some ⟨11, true⟩), (.mv (.tmp 1))⟩, []⟩, ⟨⟨(some 14), (some ⟨11, true⟩), (.bin .shl 3 (.const (.int .i64 1)) (.tmp 13))⟩, []⟩, ⟨⟨(some 15), (some ⟨11, true⟩), (.bin .and 3 (.tmp 12) (.tmp 14))⟩, []⟩, ⟨⟨(some 16), (some ⟨11, true⟩), (.bin .neq 3 (.tmp 15) (.const (.int .i64 0)))⟩, []⟩, ⟨⟨(some 17), none, (.pick (.tmp 11) (.tmp 16) (.const (.bool false)))⟩, []⟩, ⟨⟨(some 4), none, (.asg (.tmp 17))⟩, []⟩]) .ret))⟩
theorem f_rIn : (envOf Tryz.prog noCut noMemo).F 49 = some c_rIn := by kernel_rfl
noncomputable def c_marked : CFunc := ⟨34, [(.tmp 6)], (.seq (.ops [6] [⟨⟨(some 6), none, (.asg (.const (.slice none 0 0)))⟩, []⟩]) (.seq (.ops [9, 10, 11, 7] [⟨⟨(some 9), none, (.mv (.tmp 0))⟩, []⟩, ⟨⟨(some 10), none, (.lenSl (.tmp 9))⟩, []⟩, ⟨⟨(some 11), none, (.mkslice 4 1 1 [(.bool false)] (.tmp 10) (.tmp 10))⟩, []⟩, ⟨⟨(some 7), none, (.asg (.tmp 11))⟩, []⟩]) (.seq (.seq (.ops [8] [⟨⟨(some 8), none, (.asg (.const (.int .i64 0)))⟩, []⟩]) (.block 0 (.loop (.seq (.seq (.ops [12, 13, 14, 15] [⟨⟨(some 12), none, (.mv (.tmp 8))⟩, []⟩, ⟨⟨(some 13), none, (.mv (.tmp 1))⟩, []⟩, ⟨⟨(some 14), none, (.lenSl (.tmp 13))⟩, []⟩, ⟨⟨(some 15), none, (.bin .lss 3 (.tmp 12) (.tmp 14))⟩, []⟩]) (.cond (.tmp 15) .skip (.exit 0))) (.seq (.block 1 (.ops [18, 19, 20, 21, 22, 23, 24, 25, 26, 27, 28, 29, 30, 31, 32] [⟨⟨(some 18), none, (.mv (.tmp 7))⟩, []⟩, ⟨⟨(some 19), none, (.mv (.tmp 1))⟩, []⟩, ⟨⟨(some 20), none, (.mv (.tmp 8))⟩, []⟩, ⟨⟨(some 21), none, (.idxSl 1 (.tmp 19) (.tmp 20))⟩, []⟩, ⟨⟨(some 22), none, (.load1 (.tmp 21))⟩, []⟩, ⟨⟨(some 23), none, (.mv (.tmp 2))⟩, []⟩, ⟨⟨(some 24), none, (.mv (.tmp 0))⟩, []⟩, ⟨⟨(some 25), none, (.mv (.tmp 1))⟩, []⟩, ⟨⟨(some 26), none, (.mv (.tmp 8))⟩, []⟩, ⟨⟨(some 27), none, (.idxSl 1 (.tmp 25) (.tmp 26))⟩, []⟩, ⟨⟨(some 28), none, (.load1 (.tmp 27))⟩, []⟩, ⟨⟨(some 29), none, (.idxSl 1 (.tmp 24) (.tmp 28))⟩, []⟩, ⟨⟨(some 30), none, (.load1 (.tmp 29))⟩, []⟩, ⟨⟨(some 31), none, (.call (.func 49) [(.tmp 23), (.tmp 30)])⟩, [⟨(some 22), none, (.load1 (.tmp 21))⟩]⟩, ⟨⟨(some 32), none, (.idxSl 1 (.tmp 18) (.tmp 22))⟩, []⟩, ⟨⟨none, none, (.store 1 (.tmp 32) (.tmp 31))⟩, []⟩])) (.ops [16, 17, 8] [⟨⟨(some 16), none, (.mv (.tmp 8))⟩, []⟩, ⟨⟨(some 17), none, (.bin .add 3 (.tmp 16) (.const (.int .i64 1)))⟩, []⟩, ⟨⟨(some 8), none, (.asg (.tmp 17))⟩, []⟩])))))) (.seq (.ops [33, 6] [⟨⟨(some 33), none, (.mv (.tmp 7))⟩, []⟩, ⟨⟨(some 6), none, (.asg (.tmp 33))⟩, []⟩]) .ret))))⟩
theorem f_marked : (envOf Tryz.prog noCut noMemo).F 25 = some c_marked := by kernel_rfl
noncomputable def c_fewQ : CFunc := ⟨55, [(.tmp 2)], (.seq (.ops [1, 2] [⟨⟨(some 1), none, (.box (.tmp 0) 50)⟩, []⟩, ⟨⟨(some 2), none, (.asg (.const (.bool false)))⟩, []⟩]) (.seq (.seq (.ops [4, 5, 6, 7, 8, 9, 10, 11, 12, 13, 14, 15, 16, 17, 18, 19, 20, 21, 22, 23, 24, 25, 26, 27, 28, 29] [⟨⟨(some 4), none, (.fieldA 0 (.tmp 1))⟩, []⟩, ⟨⟨(some 5), none, (.load1 (.tmp 4))⟩, []⟩, ⟨⟨(some 6), none, (.bin .gtr 3 (.tmp 5) (.const (.int .i64 16)))⟩, []⟩, ⟨⟨(some 7), none, (.mv (.tmp 6))⟩, []⟩, ⟨⟨(some 8), (some ⟨7, false⟩), (.fieldA 1 (.tmp 1))⟩, []⟩, ⟨⟨(some 9), (some ⟨7, false⟩), (.load1 (.tmp 8))⟩, []⟩, ⟨⟨(some 10), (some ⟨7, false⟩), (.bin .gtr 3 (.tmp 9) (.const (.int .i64 6)))⟩, []⟩, ⟨⟨(some 11), none, (.pick (.tmp 7) (.const (.bool true)) (.tmp 10))⟩, []⟩, ⟨⟨(some 12), none, (.mv (.tmp 11))⟩, []⟩, ⟨⟨(some 13), (some ⟨12, false⟩), (.fieldA 2 (.tmp 1))⟩, []⟩, ⟨⟨(some 14), (some ⟨12, false⟩), (.load1 (.tmp 13))⟩, []⟩, ⟨⟨(some 15), (some ⟨12, false⟩), (.lenSl (.tmp 14))⟩, []⟩, ⟨⟨(some 16), (some ⟨12, false⟩), (.bin .gtr 3 (.tmp 15) (.const (.int .i64 8)))⟩, []⟩, ⟨⟨(some 17), none, (.pick (.tmp 12) (.const (.bool true)) (.tmp 16))⟩, []⟩, ⟨⟨(some 18), none, (.mv (.tmp 17))⟩, []⟩, ⟨⟨(some 19), (some ⟨18, false⟩), (.fieldA 3 (.tmp 1))⟩, []⟩, ⟨⟨(some 20), (some ⟨18, false⟩), (.load1 (.tmp 19))⟩, []⟩, ⟨⟨(some 21), (some ⟨18, false⟩), (.lenSl (.tmp 20))⟩, []⟩, ⟨⟨(some 22), (some ⟨18, false⟩), (.bin .gtr 3 (.tmp 21) (.const (.int .i64 20)))⟩, []⟩, ⟨⟨(some 23), none, (.pick (.tmp 18) (.const (.bool true)) (.tmp 22))⟩, []⟩, ⟨⟨(some 24), none, (.mv (.tmp 23))⟩, []⟩, ⟨⟨(some 25), (some ⟨24, false⟩), (.fieldA 4 (.tmp 1))⟩, []⟩, ⟨⟨(some 26), (some ⟨24, false⟩), (.load1 (.tmp 25))⟩, []⟩, ⟨⟨(some 27), (some ⟨24, false⟩), (.lenSl (.tmp 26))⟩, []⟩, ⟨⟨(some 28), (some ⟨24, false⟩), (.bin .gtr 3 (.tmp 27) (.const (.int .i64 120)))⟩, []⟩, ⟨⟨(some 29), none, (.pick (.tmp 24) (.const (.bool true)) (.tmp 28))⟩, []⟩]) (.cond (.tmp 29) (.seq (.ops [2] [⟨⟨(some 2), none, (.asg (.const (.bool false)))⟩, []⟩]) .ret) .skip)) (.seq (.seq (.ops [3] [⟨⟨(some 3), none, (.asg (.const (.int .i64 0)))⟩, []⟩]) (.block 0 (.loop (.seq (.seq (.ops [30, 31, 32, 33, 34] [⟨⟨(some 30), none, (.mv (.tmp 3))⟩, []⟩, ⟨⟨(some 31), none, (.fieldA 4 (.tmp 1))⟩, []⟩, ⟨⟨(some 32), none, (.load1 (.tmp 31))⟩, []⟩, ⟨⟨(some 33), none, (.lenSl (.tmp 32))⟩, []⟩, ⟨⟨(some 34), none, (.bin .lss 3 (.tmp 30) (.tmp 33))⟩, []⟩]) (.cond (.tmp 34) .skip (.exit 0))) (.seq (.block 1 (.seq (.ops [37, 38, 39, 40, 41, 42, 43, 44, 45, 46, 47, 48, 49, 50, 51, 52, 53, 54] [⟨⟨(some 37), none, (.fieldA 4 (.tmp 1))⟩, []⟩, ⟨⟨(some 38), none, (.load1 (.tmp 37))⟩, []⟩, ⟨⟨(some 39), none, (.mv (.tmp 3))⟩, []⟩, ⟨⟨(some 40), none, (.idxSl 9 (.tmp 38) (.tmp 39))⟩, []⟩, ⟨⟨(some 41), none, (.fieldA 1 (.tmp 40))⟩, []⟩, ⟨⟨(some 42), none, (.load1 (.tmp 41))⟩, []⟩, ⟨⟨(some 43), none, (.lenSl (.tmp 42))⟩, []⟩, ⟨⟨(some 44), none, (.bin .gtr 3 (.tmp 43) (.const (.int .i64 20)))⟩, []⟩, ⟨⟨(some 45), none, (.mv (.tmp 44))⟩, []⟩, ⟨⟨(some 46), (some ⟨45, false⟩), (.fieldA 4 (.tmp 1))⟩, []⟩, ⟨⟨(some 47), (some ⟨45, false⟩), (.load1 (.tmp 46))⟩, []⟩, ⟨⟨(some 48), (some ⟨45, false⟩), (.mv (.tmp 3))⟩, []⟩, ⟨⟨(some 49), (some ⟨45, false⟩), (.idxSl 9 (.tmp 47) (.tmp 48))⟩, []⟩, ⟨⟨(some 50), (some ⟨45, false⟩), (.fieldA 6 (.tmp 49))⟩, []⟩, ⟨⟨(some 51), (some ⟨45, false⟩), (.load1 (.tmp 50))⟩, []⟩, ⟨⟨(some 52), (some ⟨45, false⟩), (.lenSl (.tmp 51))⟩, []⟩, ⟨⟨(some 53), (some ⟨45, false⟩), (.bin .gtr 3 (.tmp 52) (.const (.int .i64 10)))⟩, []⟩, ⟨⟨(some 54), none, (.pick (.tmp 45) (.const (.bool true)) (.tmp 53))⟩, []⟩]) (.cond (.tmp 54) (.seq (.ops [2] [⟨⟨(some 2), none, (.asg (.const (.bool false)))⟩, []⟩]) .ret) .skip))) (.ops [35, 36, 3] [⟨⟨(some 35), none, (.mv (.tmp 3))⟩, []⟩, ⟨⟨(some 36), none, (.bin .add 3 (.tmp 35) (.const (.int .i64 1)))⟩, []⟩, ⟨⟨(some 3), none, (.asg (.tmp 36))⟩, []⟩])))))) (.seq (.ops [2] [⟨⟨(some 2), none, (.asg (.const (.bool true)))⟩, []⟩]) .ret))))⟩
theorem f_fewQ : (envOf Tryz.prog noCut noMemo).F 20 = some c_fewQ := by kernel_rfl

abbrev pairV (y : Bool × Int) : Value := .tuple ⟨[.bool y.1, .int .i64 y.2]⟩

theorem meetsE_ok {q : Prob} {vv vn vc vg : Value} {grid : List Int} {i : Int} (hs : ProbS q) (hl : grid.length < 9223372036854775808) :
    FnC Tryz.prog (.func 22) [.agg ⟨probL q vv vn vc⟩, .int .i64 i, vg] [] [] [fSl intE vv q.values, fSl (slE intE) vn q.nbs, fSl consE vc q.cons, fSl intE vg grid] pairV (fun _ => []) (fun _ => [])
      (fun y => (¬ ProbOK q → y = (false, 191)) ∧ (ProbOK q → ¬ Fin q.cells q.symbols grid → y = (false, 200)) ∧ (ProbOK q → Fin q.cells q.symbols grid → (i < 0 ∨ (q.cons.length : Int) ≤ i → y = (false, 1)) ∧
        ∀ (k : Nat) c, i = k → q.cons[k]? = some c → y = (metB q c grid, 0))) := by
  refine q_beg c_meetsE f_meetsE fun B w0 => ?_
  have hcl := hs.cons
  refine go ?_
  intro b3
  refine q_call (ready_ok (q := q) hs hl) (next := fun r hr => ?_)
  refine go ?_
  by_cases hok : ProbOK q
  rotate_left
  · have e := hr.1 hok
    subst e
    refine go ?_
    exact q_fin (false, 191) (hv := rfl) (hp := ⟨fun _ => rfl, fun h => absurd h hok, fun h => absurd h hok⟩)
  by_cases hf : Fin q.cells q.symbols grid
  rotate_left
  · have e := hr.2.1 hok hf
    subst e
    refine go ?_
    exact q_fin (false, 200) (hv := rfl) (hp := ⟨fun h => absurd hok h, fun _ _ => rfl, fun _ h => absurd h hf⟩)
  have e := hr.2.2 hok hf
  subst e
  refine go ?_
  have no : (i < 0 ∨ (q.cons.length : Int) ≤ i) → ((¬ ProbOK q → ((false, 1) : Bool × Int) = (false, 191)) ∧ (ProbOK q → ¬ Fin q.cells q.symbols grid → ((false, 1) : Bool × Int) = (false, 200)) ∧ (ProbOK q → Fin q.cells q.symbols grid → (i < 0 ∨ (q.cons.length : Int) ≤ i → ((false, 1) : Bool × Int) = (false, 1)) ∧
        ∀ (k : Nat) c, i = k → q.cons[k]? = some c → ((false, 1) : Bool × Int) = (metB q c grid, 0))) := fun h => ⟨fun h => absurd hok h, fun _ h => absurd hf h, fun _ _ => ⟨fun _ => rfl, fun k c e hk => by
      have := (List.getElem?_eq_some_iff.1 hk).1
      omega⟩⟩
  first | with_reducible refine g_d (fun h1 => ?_) (fun h1 => ?_) | with_reducible refine g_n (fun h1 => ?_) (fun h1 => ?_) | with_reducible refine g_b (fun h1 => ?_) (fun h1 => ?_)
  rotate_left
  · refine go ?_
    exact q_fin (false, 1) (hv := rfl) (hp := no (.inl h1))
  refine go ?_
  refine if_d rfl (fun h2 => ?_) (fun h2 => ?_)
  · refine go ?_
    exact q_fin (false, 1) (hv := rfl) (hp := no (.inr h2))
  obtain ⟨i, rfl⟩ := Int.eq_ofNat_of_zero_le (show 0 ≤ i by omega)
  refine go ?_
  refine q_idx consE (next := fun _ _ c (y : Value × Value) hc => ?_)
  refine go ?_
  refine q_call (meets_ok (q := q) (c := c) hok hs (hok.fine c (List.mem_of_getElem? hc)) hf) (next := fun _ _ => ?_)
  refine go ?_
  refine q_fin (metB q c grid, 0) (hv := rfl) (hp := ⟨fun h => absurd hok h, fun _ h => absurd hf h, fun _ _ => ⟨fun h => by omega, fun k c' e hk => ?_⟩⟩)
  have : k = i := by omega
  subst this
  rw [hc] at hk
  cases hk; rfl

theorem solves1_ok {b2 b3 : Nat} {q : Prob} {vv vn vc vg : Value} {grid : List Int} {c : Con} (hok : ProbOK q) (hs : ProbS q) (hc : c ∈ q.cons) (hf : Fin q.cells q.symbols grid) :
    FnQ Tryz.prog (.func 45) [] [ptr' b2, ptr' b3] [fRaw b2 0 (probL q vv vn vc), fRaw b3 0 [vg], fSl intE vv q.values, fSl (slE intE) vn q.nbs, fSl intE vg grid] (fun c => metB q c grid = false) c := by
  intro v1 v2
  refine q_beg c_solves1 f_solves1 fun B w0 => ?_
  refine go ?_
  intro b4
  refine q_call (meets_ok (q := q) (c := c) hok hs (hok.fine c hc) hf) (next := fun _ _ => ?_)
  refine go ?_
  refine q_fin (!metB q c grid) (hv := rfl) (hp := ?_)
  show (!metB q c grid) = true ↔ metB q c grid = false
  cases metB q c grid <;> simp

open Classical in
theorem solvesE_ok {q : Prob} {vv vn vc vg : Value} {grid : List Int} (hs : ProbS q) (hl : grid.length < 9223372036854775808) :
    FnC Tryz.prog (.func 21) [.agg ⟨probL q vv vn vc⟩, vg] [] [] [fSl intE vv q.values, fSl (slE intE) vn q.nbs, fSl consE vc q.cons, fSl intE vg grid] pairV (fun _ => []) (fun _ => [])
      (fun y => (¬ ProbOK q → y = (false, 191)) ∧ (ProbOK q → ¬ Fin q.cells q.symbols grid → y = (false, 200)) ∧ (ProbOK q → Fin q.cells q.symbols grid → y.2 = 0 ∧ (y.1 = true ↔ ∀ c ∈ q.cons, metB q c grid = true))) := by
  refine q_beg c_solvesE f_solvesE fun B w0 => ?_
  refine q_form (E := intE) (v := vg) (xs := grid) (by simp) fun a2 c2 e2 => ?_
  subst e2
  refine go ?_
  intro b2 b3
  refine q_frz (frz_pt (b := b2)) (h := ?_)
  refine q_frz (frz_pt (b := b3)) (h := ?_)
  refine go ?_
  refine q_call (ready_ok (q := q) hs hl) (next := fun r hr => ?_)
  refine go ?_
  by_cases hok : ProbOK q
  rotate_left
  · have e := hr.1 hok
    subst e
    refine go ?_
    exact q_fin (false, 191) (hv := rfl) (hp := ⟨fun _ => rfl, fun h => absurd h hok, fun h => absurd h hok⟩)
  by_cases hf : Fin q.cells q.symbols grid
  rotate_left
  · have e := hr.2.1 hok hf
    subst e
    refine go ?_
    exact q_fin (false, 200) (hv := rfl) (hp := ⟨fun h => absurd hok h, fun _ _ => rfl, fun _ h => absurd h hf⟩)
  have e := hr.2.2 hok hf
  subst e
  refine go ?_
  refine q_call (conFC_ok (xs := q.cons) (p := fun c => metB q c grid = false) hs.cons (fun c hc => solves1_ok (b2 := b2) (b3 := b3) (vg := .slice a2 grid.length c2) (vv := vv) (vn := vn) (vc := vc) hok hs hc hf)) (next := fun b hb => ?_)
  refine go ?_
  refine q_fin (!b, 0) (hv := rfl) (hp := ⟨fun h => absurd hok h, fun _ h => absurd hf h, fun _ _ => ⟨rfl, ?_⟩⟩)
  constructor
  · intro h c hc
    cases hm : metB q c grid with
    | true => rfl
    | false => rw [hb.2 ⟨c, hc, hm⟩] at h; cases h
  · intro h
    cases hbb : b with
    | false => rfl
    | true =>
      obtain ⟨c, hc, hm⟩ := hb.1 hbb
      rw [h c hc] at hm; cases hm

theorem and_bit (set sym : Nat) : decide (((set &&& 1 <<< sym : Nat) : Int) ≠ 0) = set.testBit sym := by
  rw [Nat.shiftLeft_eq, Nat.one_mul]
  have h : set &&& 2 ^ sym = (set.testBit sym).toNat * 2 ^ sym := by
    apply Nat.eq_of_testBit_eq
    intro i
    rw [Nat.testBit_and, Nat.testBit_two_pow]
    by_cases e : sym = i
    · subst e
      cases set.testBit sym <;> simp [Nat.testBit_two_pow]
    · cases set.testBit sym <;> simp [Nat.testBit_two_pow, e]
  rw [h]
  have : 0 < 2 ^ sym := Nat.two_pow_pos sym
  cases set.testBit sym
  · simp
  · show decide ((((1 : Nat) * 2 ^ sym : Nat) : Int) ≠ 0) = true
    rw [Nat.one_mul]
    exact decide_eq_true (by omega)

theorem rIn_ok {set sym : Nat} (hs : set < 9223372036854775808) (hb : sym < 16) : FnP Tryz.prog 49 [.int .i64 (set : Int), .int .i64 (sym : Int)] [] (.bool (set.testBit sym)) := by
  refine q_beg c_rIn f_rIn fun B w0 => ?_
  refine go ?_
  first | with_reducible refine g_d (fun h2 => ?_) (fun h2 => ?_) | with_reducible refine g_n (fun h2 => ?_) (fun h2 => ?_) | with_reducible refine g_b (fun h2 => ?_) (fun h2 => ?_)
  · omega
  have hsh : 1 <<< sym ≤ 65536 := by
    rw [Nat.shiftLeft_eq, Nat.one_mul]
    have : 2 ^ sym ≤ 2 ^ 16 := Nat.pow_le_pow_right (by omega) (by omega)
    omega
  refine go ?_
  refine q_p (p_shl (a := 1) (b := sym) rfl rfl (by omega) (by omega)) ?_
  refine q_p (p_and (a := set) (b := 1 <<< sym) rfl rfl hs (by omega)) ?_
  refine go ?_
  refine q_fin () (hv := ?_) (hp := trivial)
  rw [← and_bit]; rfl

theorem marked_ok {vg vc : Value} {grid cells : List Int} {set : Nat} (hg : GridOK grid) (hc : CellsOK grid cells) (hs : set < 9223372036854775808) :
    FnC Tryz.prog (.func 25) [vg, vc, .int .i64 (set : Int)] [] [] [fSl intE vg grid, fSl intE vc cells] (fun b : Nat => fullS b grid.length) (fun b => [pt b (.cells ((mkd grid set cells).map .bool))]) (fun _ => []) (fun _ => True) := by
  refine q_beg c_marked f_marked fun B w0 => ?_
  have hgl := hg.len
  have hcl := hc.len
  refine go ?_
  refine q_mks grid.length ⟨by omega, by omega, by omega⟩ fun bm => ?_
  rw [zeros_bool]
  refine go ?_
  refine q_loop (fun k => cells.length - k) (fun k : Nat => [(8, .int .i64 (k : Int))]) (fun k => [pt bm (.cells ((mkd grid set (cells.take k)).map .bool))]) (fun _ => []) (fun k => k ≤ cells.length) 0 (Nat.zero_le _)
    (hk := by repeat (first | exact SelL.nil | (apply SelL.cons; (focus (repeat (first | exact Sel.here | apply Sel.there)))))) (body := ?_)
  intro k hk
  have hml := mkd_len grid set (cells.take k)
  refine go ?_
  refine if_d rfl (fun h1 => ?_) (fun h1 => ?_)
  · refine go ?_
    intro _ _ c hck
    have hcc := hc.cell c (List.mem_of_getElem? hck)
    have hmt := mkd_take (grid := grid) (set := set) hck
    obtain ⟨c, rfl⟩ := Int.eq_ofNat_of_zero_le hcc.1
    rw [Int.toNat_natCast] at hmt
    refine go ?_
    intro _ _ c' hck'
    cases hck.symm.trans hck'
    refine go ?_
    intro _ _ x hx
    have hxx := hg.sym x (List.mem_of_getElem? hx)
    obtain ⟨x, rfl⟩ := Int.eq_ofNat_of_zero_le hxx.1
    rw [sy_of hx] at hmt
    refine q_call (rIn_ok (set := set) (sym := x) hs (by omega)) (next := fun _ _ => ?_)
    refine go ?_
    refine q_set (o := 0 + c * 1) (cs := (mkd grid set (cells.take k)).map .bool) (v := .bool (set.testBit x)) (cs' := (mkd grid set (cells.take (k + 1))).map .bool) (by rw [hmt, List.map_set]; simp) (by simp; omega) ?_
    refine go ?_
    exact q_again (k + 1) (by omega) (by omega)
  have hkl : k = cells.length := by omega
  subst hkl
  rw [List.take_length]
  refine go ?_
  exact q_fin bm (hv := rfl) (hp := trivial)


theorem fewQ_ok {q : Prob} {vv vn vc : Value} (hs : ProbS q) :
    FnC Tryz.prog (.func 20) [.agg ⟨probL q vv vn vc⟩] [] [] [fSl intE vv q.values, fSl (slE intE) vn q.nbs, fSl consE vc q.cons] (fun b : Bool => .bool b) (fun _ => []) (fun _ => []) (fun b => b = true → q.cons.length ≤ 120) := by
  refine q_beg c_fewQ f_fewQ fun B w0 => ?_
  refine go ?_
  intro b1
  refine q_frz (frz_pt (b := b1)) (h := ?_)
  refine go ?_
  first | with_reducible refine g_d (fun h1 => ?_) (fun h1 => ?_) | with_reducible refine g_n (fun h1 => ?_) (fun h1 => ?_) | with_reducible refine g_b (fun h1 => ?_) (fun h1 => ?_)
  rotate_left
  · refine go ?_
    exact q_fin false (hv := rfl) (hp := fun h => by cases h)
  refine go ?_
  first | with_reducible refine g_d (fun h2 => ?_) (fun h2 => ?_) | with_reducible refine g_n (fun h2 => ?_) (fun h2 => ?_) | with_reducible refine g_b (fun h2 => ?_) (fun h2 => ?_)
  rotate_left
  · refine go ?_
    exact q_fin false (hv := rfl) (hp := fun h => by cases h)
  refine go ?_
  first | with_reducible refine g_d (fun h3 => ?_) (fun h3 => ?_) | with_reducible refine g_n (fun h3 => ?_) (fun h3 => ?_) | with_reducible refine g_b (fun h3 => ?_) (fun h3 => ?_)
  rotate_left
  · refine go ?_
    exact q_fin false (hv := rfl) (hp := fun h => by cases h)
  refine go ?_
  first | with_reducible refine g_d (fun h4 => ?_) (fun h4 => ?_) | with_reducible refine g_n (fun h4 => ?_) (fun h4 => ?_) | with_reducible refine g_b (fun h4 => ?_) (fun h4 => ?_)
  rotate_left
  · refine go ?_
    exact q_fin false (hv := rfl) (hp := fun h => by cases h)
  refine go ?_
  refine if_d rfl (fun h5 => ?_) (fun h5 => ?_)
  · refine go ?_
    exact q_fin false (hv := rfl) (hp := fun h => by cases h)
  refine go ?_
  refine q_loop (fun k => q.cons.length - k) (fun k : Nat => [(3, .int .i64 (k : Int))]) (fun _ => []) (fun _ => []) (fun k => k ≤ q.cons.length) 0 (Nat.zero_le _) (body := ?_)
  intro k hk
  refine go ?_
  refine if_d rfl (fun h1 => ?_) (fun h1 => ?_)
  · refine go ?_
    refine q_idx consE (next := fun _ _ c (y : Value × Value) hc => ?_)
    refine go ?_
    first | with_reducible refine g_d (fun h6 => ?_) (fun h6 => ?_) | with_reducible refine g_n (fun h6 => ?_) (fun h6 => ?_) | with_reducible refine g_b (fun h6 => ?_) (fun h6 => ?_)
    rotate_left
    · refine go ?_
      exact q_fin false (hv := rfl) (hp := fun h => by cases h)
    refine go ?_
    refine q_idx consE (next := fun _ _ c' (y' : Value × Value) hc' => ?_)
    refine go ?_
    refine if_d rfl (fun h7 => ?_) (fun h7 => ?_)
    · refine go ?_
      exact q_fin false (hv := rfl) (hp := fun h => by cases h)
    refine go ?_
    exact q_again (k + 1) (by omega) (by omega)
  refine go ?_
  exact q_fin true (hv := rfl) (hp := fun _ => by omega)
end Go.Proofs.YtpkieeggilkagaaGreat

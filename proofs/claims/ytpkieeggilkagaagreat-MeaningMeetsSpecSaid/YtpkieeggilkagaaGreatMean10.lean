/-
  Problems and finished grids checked.
-/
import Derived.Test.YtpkieeggilkagaaGreatMean9
import Derived.Test.YtpkieeggilkagaaGreatIdealM
set_option linter.unusedSimpArgs false
set_option linter.unusedVariables false
set_option maxHeartbeats 2000000
set_option maxRecDepth 10000
namespace Go.Proofs.YtpkieeggilkagaaGreat
open Go.Ideal Gph

noncomputable def c_idxFC : CFunc := ⟨19, [(.tmp 4)], (.seq (.ops [4] [⟨⟨(some 4), none, (.asg (.const (.int .i64 0)))⟩, []⟩]) (.seq (.seq (.ops [6, 7, 8] [⟨⟨(some 6), none, (.mv (.tmp 0))⟩, []⟩, ⟨⟨(some 7), none, (.lenSl (.tmp 6))⟩, []⟩, ⟨⟨(some 8), none, (.mv (.const (.int .i64 0)))⟩, []⟩]) (.block 0 (.loop (.seq (.ops [9] [⟨⟨(some 9), none, (.bin .lss 3 (.tmp 8) (.tmp 7))⟩, []⟩]) (.seq (.cond (.tmp 9) .skip (.exit 0)) (.seq (.block 1 (.seq (.ops [10, 5] [⟨⟨(some 10), none, (.mv (.tmp 8))⟩, []⟩, ⟨⟨(some 5), none, (.asg (.tmp 10))⟩, []⟩]) (.seq (.ops [11, 12, 13, 14, 15, 16] [⟨⟨(some 11), none, (.mv (.tmp 1))⟩, []⟩, ⟨⟨(some 12), none, (.mv (.tmp 0))⟩, []⟩, ⟨⟨(some 13), none, (.mv (.tmp 5))⟩, []⟩, ⟨⟨(some 14), none, (.idxSl 9 (.tmp 12) (.tmp 13))⟩, []⟩, ⟨⟨(some 15), none, (.loadN 9 (.tmp 14))⟩, []⟩, ⟨⟨(some 16), none, (.call (.tmp 11) [(.tmp 15)])⟩, []⟩]) (.cond (.tmp 16) (.seq (.ops [17, 4] [⟨⟨(some 17), none, (.mv (.tmp 5))⟩, []⟩, ⟨⟨(some 4), none, (.asg (.tmp 17))⟩, []⟩]) .ret) .skip)))) (.ops [18, 8] [⟨⟨(some 18), none, (.bin .add 3 (.tmp 8) (.const (.int .i64 1)))⟩, []⟩, ⟨⟨(some 8), none, (.mv (.tmp 18))⟩, []⟩]))))))) (.seq (.ops [4] [⟨⟨(some 4), none, (.asg (.const (.int .i64 (-1))))⟩, []⟩]) .ret)))⟩
theorem f_idxFC : (envOf Tryz.prog noCut noMemo).F 103 = some c_idxFC := by kernel_rfl
noncomputable def c_conFC : CFunc := ⟨9, [(.tmp 4)], (.seq (.ops [4] [⟨⟨(some 4), none, (.asg (.const (.bool false)))⟩, []⟩]) (.seq (.ops [5, 6, 7, 8, 4] [⟨⟨(some 5), none, (.mv (.tmp 0))⟩, []⟩, ⟨⟨(some 6), none, (.mv (.tmp 1))⟩, []⟩, ⟨⟨(some 7), none, (.call (.func 103) [(.tmp 5), (.tmp 6)])⟩, []⟩, ⟨⟨(some 8), none, (.bin .geq 3 (.tmp 7) (.const (.int .i64 0)))⟩, []⟩, ⟨⟨(some 4), none, (.asg (.tmp 8))⟩, []⟩]) .ret))⟩
theorem f_conFC : (envOf Tryz.prog noCut noMemo).F 44 = some c_conFC := by kernel_rfl
noncomputable def c_finished : CFunc := ⟨17, [(.tmp 6)], (.seq (.ops [4, 6] [⟨⟨(some 4), none, (.box (.tmp 1) 3)⟩, []⟩, ⟨⟨(some 6), none, (.asg (.const (.bool false)))⟩, []⟩]) (.seq (.ops [7, 8, 9, 10, 11, 12, 13, 14, 15, 16, 6] [⟨⟨(some 7), none, (.mv (.tmp 2))⟩, []⟩, ⟨⟨(some 8), none, (.lenSl (.tmp 7))⟩, []⟩, ⟨⟨(some 9), none, (.mv (.tmp 0))⟩, []⟩, ⟨⟨(some 10), none, (.bin .eql 3 (.tmp 8) (.tmp 9))⟩, []⟩, ⟨⟨(some 11), none, (.mv (.tmp 10))⟩, []⟩, ⟨⟨(some 12), (some ⟨11, true⟩), (.mv (.tmp 2))⟩, []⟩, ⟨⟨(some 13), (some ⟨11, true⟩), (.mkfunc (.func 100) [] [(.tmp 4)])⟩, []⟩, ⟨⟨(some 14), (some ⟨11, true⟩), (.call (.func 99) [(.tmp 12), (.tmp 13)])⟩, []⟩, ⟨⟨(some 15), (some ⟨11, true⟩), (.un .not (.tmp 14))⟩, []⟩, ⟨⟨(some 16), none, (.pick (.tmp 11) (.tmp 15) (.const (.bool false)))⟩, []⟩, ⟨⟨(some 6), none, (.asg (.tmp 16))⟩, []⟩]) .ret))⟩
theorem f_finished : (envOf Tryz.prog noCut noMemo).F 40 = some c_finished := by kernel_rfl
noncomputable def c_finished1 : CFunc := ⟨11, [(.tmp 3)], (.seq (.ops [3] [⟨⟨(some 3), none, (.asg (.const (.bool false)))⟩, []⟩]) (.seq (.ops [4, 5, 6, 7, 8, 9, 10, 3] [⟨⟨(some 4), none, (.mv (.tmp 0))⟩, []⟩, ⟨⟨(some 5), none, (.bin .lss 3 (.tmp 4) (.const (.int .i64 0)))⟩, []⟩, ⟨⟨(some 6), none, (.mv (.tmp 5))⟩, []⟩, ⟨⟨(some 7), (some ⟨6, false⟩), (.mv (.tmp 0))⟩, []⟩, ⟨⟨(some 8), (some ⟨6, false⟩), (.load1 (.tmp 1))⟩, []⟩, ⟨⟨(some 9), (some ⟨6, false⟩), (.bin .geq 3 (.tmp 7) (.tmp 8))⟩, []⟩, ⟨⟨(some 10), none, (.pick (.tmp 6) (.const (.bool true)) (.tmp 9))⟩, []⟩, ⟨⟨(some 3), none, (.asg (.tmp 10))⟩, []⟩]) .ret))⟩
theorem f_finished1 : (envOf Tryz.prog noCut noMemo).F 100 = some c_finished1 := by kernel_rfl
noncomputable def c_valid : CFunc := ⟨57, [(.tmp 2)], (.seq (.ops [1, 2] [⟨⟨(some 1), none, (.box (.tmp 0) 50)⟩, []⟩, ⟨⟨(some 2), none, (.asg (.const (.int .i64 0)))⟩, []⟩]) (.seq (.seq (.ops [3, 4, 5, 6, 7, 8, 9, 10, 11, 12, 13, 14, 15, 16, 17, 18, 19, 20, 21, 22, 23, 24, 25, 26, 27, 28, 29, 30, 31, 32, 33, 34] [⟨⟨(some 3), none, (.fieldA 0 (.tmp 1))⟩, []⟩, ⟨⟨(some 4), none, (.load1 (.tmp 3))⟩, []⟩, ⟨⟨(some 5), none, (.bin .lss 3 (.tmp 4) (.const (.int .i64 1)))⟩, []⟩, ⟨⟨(some 6), none, (.mv (.tmp 5))⟩, []⟩, ⟨⟨(some 7), (some ⟨6, false⟩), (.fieldA 0 (.tmp 1))⟩, []⟩, ⟨⟨(some 8), (some ⟨6, false⟩), (.load1 (.tmp 7))⟩, []⟩, ⟨⟨(some 9), (some ⟨6, false⟩), (.bin .gtr 3 (.tmp 8) (.const (.int .i64 256)))⟩, []⟩, ⟨⟨(some 10), none, (.pick (.tmp 6) (.const (.bool true)) (.tmp 9))⟩, []⟩, ⟨⟨(some 11), none, (.mv (.tmp 10))⟩, []⟩, ⟨⟨(some 12), (some ⟨11, false⟩), (.fieldA 1 (.tmp 1))⟩, []⟩, ⟨⟨(some 13), (some ⟨11, false⟩), (.load1 (.tmp 12))⟩, []⟩, ⟨⟨(some 14), (some ⟨11, false⟩), (.bin .lss 3 (.tmp 13) (.const (.int .i64 1)))⟩, []⟩, ⟨⟨(some 15), none, (.pick (.tmp 11) (.const (.bool true)) (.tmp 14))⟩, []⟩, ⟨⟨(some 16), none, (.mv (.tmp 15))⟩, []⟩, ⟨⟨(some 17), (some ⟨16, false⟩), (.fieldA 1 (.tmp 1))⟩, []⟩, ⟨⟨(some 18), (some ⟨16, false⟩), (.load1 (.tmp 17))⟩, []⟩, ⟨⟨(some 19), (some ⟨16, false⟩), (.bin .gtr 3 (.tmp 18) (.const (.int .i64 16)))⟩, []⟩, ⟨⟨(some 20), none, (.pick (.tmp 16) (.const (.bool true)) (.tmp 19))⟩, []⟩, ⟨⟨(some 21), none, (.mv (.tmp 20))⟩, []⟩, ⟨⟨(some 22), (some ⟨21, false⟩), (.fieldA 2 (.tmp 1))⟩, []⟩, ⟨⟨(some 23), (some ⟨21, false⟩), (.load1 (.tmp 22))⟩, []⟩, ⟨⟨(some 24), (some ⟨21, false⟩), (.lenSl (.tmp 23))⟩, []⟩, ⟨⟨(some 25), (some ⟨21, false⟩), (.fieldA 1 (.tmp 1))⟩, []⟩, ⟨⟨(some 26), (some ⟨21, false⟩), (.load1 (.tmp 25))⟩, []⟩, ⟨⟨(some 27), (some ⟨21, false⟩), (.bin .neq 3 (.tmp 24) (.tmp 26))⟩, []⟩, ⟨⟨(some 28), none, (.pick (.tmp 21) (.const (.bool true)) (.tmp 27))⟩, []⟩, ⟨⟨(some 29), none, (.mv (.tmp 28))⟩, []⟩, ⟨⟨(some 30), (some ⟨29, false⟩), (.fieldA 2 (.tmp 1))⟩, []⟩, ⟨⟨(some 31), (some ⟨29, false⟩), (.load1 (.tmp 30))⟩, []⟩, ⟨⟨(some 32), (some ⟨29, false⟩), (.call (.func 151) [(.tmp 31), (.const (.int .i64 0)), (.const (.int .i64 99))])⟩, []⟩, ⟨⟨(some 33), (some ⟨29, false⟩), (.un .not (.tmp 32))⟩, []⟩, ⟨⟨(some 34), none, (.pick (.tmp 29) (.const (.bool true)) (.tmp 33))⟩, []⟩]) (.cond (.tmp 34) (.seq (.ops [2] [⟨⟨(some 2), none, (.asg (.const (.int .i64 191)))⟩, []⟩]) .ret) .skip)) (.seq (.seq (.ops [35, 36, 37, 38, 39, 40, 41, 42, 43, 44, 45, 46, 47, 48, 49, 50, 51, 52] [⟨⟨(some 35), none, (.fieldA 3 (.tmp 1))⟩, []⟩, ⟨⟨(some 36), none, (.load1 (.tmp 35))⟩, []⟩, ⟨⟨(some 37), none, (.lenSl (.tmp 36))⟩, []⟩, ⟨⟨(some 38), none, (.fieldA 0 (.tmp 1))⟩, []⟩, ⟨⟨(some 39), none, (.load1 (.tmp 38))⟩, []⟩, ⟨⟨(some 40), none, (.bin .neq 3 (.tmp 37) (.tmp 39))⟩, []⟩, ⟨⟨(some 41), none, (.mv (.tmp 40))⟩, []⟩, ⟨⟨(some 42), (some ⟨41, false⟩), (.fieldA 3 (.tmp 1))⟩, []⟩, ⟨⟨(some 43), (some ⟨41, false⟩), (.load1 (.tmp 42))⟩, []⟩, ⟨⟨(some 44), (some ⟨41, false⟩), (.call (.func 111) [(.tmp 43)])⟩, []⟩, ⟨⟨(some 45), (some ⟨41, false⟩), (.bin .neq 40 (.tmp 44) (.const (.int .i64 0)))⟩, []⟩, ⟨⟨(some 46), none, (.pick (.tmp 41) (.const (.bool true)) (.tmp 45))⟩, []⟩, ⟨⟨(some 47), none, (.mv (.tmp 46))⟩, []⟩, ⟨⟨(some 48), (some ⟨47, false⟩), (.fieldA 4 (.tmp 1))⟩, []⟩, ⟨⟨(some 49), (some ⟨47, false⟩), (.load1 (.tmp 48))⟩, []⟩, ⟨⟨(some 50), (some ⟨47, false⟩), (.lenSl (.tmp 49))⟩, []⟩, ⟨⟨(some 51), (some ⟨47, false⟩), (.bin .gtr 3 (.tmp 50) (.const (.int .i64 4096)))⟩, []⟩, ⟨⟨(some 52), none, (.pick (.tmp 47) (.const (.bool true)) (.tmp 51))⟩, []⟩]) (.cond (.tmp 52) (.seq (.ops [2] [⟨⟨(some 2), none, (.asg (.const (.int .i64 191)))⟩, []⟩]) .ret) .skip)) (.seq (.seq (.ops [53, 54, 55, 56] [⟨⟨(some 53), none, (.fieldA 4 (.tmp 1))⟩, []⟩, ⟨⟨(some 54), none, (.load1 (.tmp 53))⟩, []⟩, ⟨⟨(some 55), none, (.mkfunc (.func 152) [] [(.tmp 1)])⟩, []⟩, ⟨⟨(some 56), none, (.call (.func 44) [(.tmp 54), (.tmp 55)])⟩, []⟩]) (.cond (.tmp 56) (.seq (.ops [2] [⟨⟨(some 2), none, (.asg (.const (.int .i64 191)))⟩, []⟩]) .ret) .skip)) (.seq (.ops [2] [⟨⟨(some 2), none, (.asg (.const (.int .i64 0)))⟩, []⟩]) .ret)))))⟩
theorem f_valid : (envOf Tryz.prog noCut noMemo).F 102 = some c_valid := by kernel_rfl
noncomputable def c_valid1 : CFunc := ⟨8, [(.tmp 3)], (.seq (.ops [2, 3] [⟨⟨(some 2), none, (.box (.tmp 0) 57)⟩, []⟩, ⟨⟨(some 3), none, (.asg (.const (.bool false)))⟩, []⟩]) (.seq (.ops [4, 5, 6, 7, 3] [⟨⟨(some 4), none, (.loadN 5 (.tmp 1))⟩, []⟩, ⟨⟨(some 5), none, (.loadN 9 (.tmp 2))⟩, []⟩, ⟨⟨(some 6), none, (.call (.func 153) [(.tmp 4), (.tmp 5)])⟩, []⟩, ⟨⟨(some 7), none, (.un .not (.tmp 6))⟩, []⟩, ⟨⟨(some 3), none, (.asg (.tmp 7))⟩, []⟩]) .ret))⟩
theorem f_valid1 : (envOf Tryz.prog noCut noMemo).F 152 = some c_valid1 := by kernel_rfl
noncomputable def c_ready : CFunc := ⟨17, [(.tmp 4)], (.seq (.ops [2, 4] [⟨⟨(some 2), none, (.box (.tmp 0) 50)⟩, []⟩, ⟨⟨(some 4), none, (.asg (.const (.int .i64 0)))⟩, []⟩]) (.seq (.seq (.ops [5, 6, 4] [⟨⟨(some 5), none, (.loadN 5 (.tmp 2))⟩, []⟩, ⟨⟨(some 6), none, (.call (.func 102) [(.tmp 5)])⟩, []⟩, ⟨⟨(some 4), none, (.asg (.tmp 6))⟩, []⟩]) (.seq (.ops [7, 8] [⟨⟨(some 7), none, (.mv (.tmp 4))⟩, []⟩, ⟨⟨(some 8), none, (.bin .neq 40 (.tmp 7) (.const (.int .i64 0)))⟩, []⟩]) (.cond (.tmp 8) (.seq (.ops [9, 4] [⟨⟨(some 9), none, (.mv (.tmp 4))⟩, []⟩, ⟨⟨(some 4), none, (.asg (.tmp 9))⟩, []⟩]) .ret) .skip))) (.seq (.seq (.ops [10, 11, 12, 13, 14, 15, 16] [⟨⟨(some 10), none, (.fieldA 0 (.tmp 2))⟩, []⟩, ⟨⟨(some 11), none, (.load1 (.tmp 10))⟩, []⟩, ⟨⟨(some 12), none, (.fieldA 1 (.tmp 2))⟩, []⟩, ⟨⟨(some 13), none, (.load1 (.tmp 12))⟩, []⟩, ⟨⟨(some 14), none, (.mv (.tmp 1))⟩, []⟩, ⟨⟨(some 15), none, (.call (.func 40) [(.tmp 11), (.tmp 13), (.tmp 14)])⟩, []⟩, ⟨⟨(some 16), none, (.un .not (.tmp 15))⟩, []⟩]) (.cond (.tmp 16) (.seq (.ops [4] [⟨⟨(some 4), none, (.asg (.const (.int .i64 200)))⟩, []⟩]) .ret) .skip)) (.seq (.ops [4] [⟨⟨(some 4), none, (.asg (.const (.int .i64 0)))⟩, []⟩]) .ret))))⟩
theorem f_ready : (envOf Tryz.prog noCut noMemo).F 43 = some c_ready := by kernel_rfl

/-- a function of a constraint that decides something -/
abbrev FnQ (P : Program) (fn : Fn) (first cap : List Value) (F : List Fact) (p : Con → Prop) (c : Con) : Prop :=
  ∀ v1 v2 : Value, FnC P fn (first ++ [.agg ⟨consL c v1 v2⟩]) cap [] (fSl intE v1 c.cells :: fSl intE v2 c.runs :: F) (fun b : Bool => .bool b) (fun _ => []) (fun _ => []) (fun b => (b = true ↔ p c))

theorem idxFC_ok {fn : Fn} {first cap : List Value} {F1 : List Fact} {p : Con → Prop} {vc : Value} {xs : List Con} (hl : xs.length < 9223372036854775808) (hp : ∀ x ∈ xs, FnQ Tryz.prog fn first cap F1 p x) :
    FnC Tryz.prog (.func 103) [vc, .func fn ⟨first⟩ ⟨cap⟩] [] [] (fSl consE vc xs :: F1) (fun r : Int => .int .i64 r) (fun _ => []) (fun _ => []) (fun r => (0 ≤ r ↔ ∃ x ∈ xs, p x)) := by
  refine q_beg c_idxFC f_idxFC fun B w0 => ?_
  refine go ?_
  refine q_loop (fun k => xs.length - k) (fun k : Nat => [(8, .int .i64 (k : Int))]) (fun _ => []) (fun _ => []) (fun k => k ≤ xs.length ∧ ∀ x ∈ xs.take k, ¬ p x) 0 ⟨by omega, by simp⟩ (body := ?_)
  rintro k ⟨hk, hno⟩
  refine go ?_
  refine if_d rfl (fun h1 => ?_) (fun h1 => ?_)
  · refine go ?_
    refine q_idx consE (next := fun _ _ x (y : Value × Value) hx => ?_)
    refine go ?_
    refine q_call (hp x (List.mem_of_getElem? hx) y.1 y.2) (next := fun b hb => ?_)
    refine go ?_
    refine if_b rfl (fun h2 => ?_) (fun h2 => ?_)
    · refine go ?_
      exact q_fin (k : Int) (hv := rfl) (hp := ⟨fun _ => ⟨x, List.mem_of_getElem? hx, hb.1 h2⟩, fun _ => by omega⟩)
    · refine go ?_
      refine q_again (k + 1) (by omega) ⟨by omega, fun z hz => ?_⟩
      rw [take_one hx, List.mem_append] at hz
      rcases hz with hz | hz
      · exact hno z hz
      · rw [List.mem_singleton.1 hz]
        intro h; rw [hb.2 h] at h2; cases h2
  refine go ?_
  have : k = xs.length := by omega
  subst this
  rw [List.take_length] at hno
  exact q_fin (-1) (hv := rfl) (hp := ⟨fun h => by omega, fun ⟨x, hx, h⟩ => absurd h (hno x hx)⟩)

theorem conFC_ok {fn : Fn} {first cap : List Value} {F1 : List Fact} {p : Con → Prop} {vc : Value} {xs : List Con} (hl : xs.length < 9223372036854775808) (hp : ∀ x ∈ xs, FnQ Tryz.prog fn first cap F1 p x) :
    FnC Tryz.prog (.func 44) [vc, .func fn ⟨first⟩ ⟨cap⟩] [] [] (fSl consE vc xs :: F1) (fun b : Bool => .bool b) (fun _ => []) (fun _ => []) (fun b => (b = true ↔ ∃ x ∈ xs, p x)) := by
  refine q_beg c_conFC f_conFC fun B w0 => ?_
  refine go ?_
  refine q_call (idxFC_ok hl hp) (next := fun r hr => ?_)
  refine go ?_
  refine q_fin (decide (0 ≤ r)) (hv := rfl) (hp := ?_)
  rw [decide_eq_true_iff]; exact hr

theorem finished1_ok {b4 : Nat} {sm x : Int} : FnB Tryz.prog (.func 100) [] [ptr' b4] (.int .i64 x) [fRaw b4 0 [.int .i64 sm]] (decide (x < 0 ∨ sm ≤ x)) := by
  refine q_beg c_finished1 f_finished1 fun B w0 => ?_
  refine go ?_
  first | with_reducible refine g_d (fun h1 => ?_) (fun h1 => ?_) | with_reducible refine g_n (fun h1 => ?_) (fun h1 => ?_) | with_reducible refine g_b (fun h1 => ?_) (fun h1 => ?_)
  · refine go ?_
    refine q_fin () (hv := ?_) (hp := trivial)
    rw [show decide (x < 0 ∨ sm ≤ x) = decide (sm ≤ x) from decide_eq_decide.2 ⟨fun h => h.elim (fun h => absurd h h1) id, .inr⟩]; rfl
  refine go ?_
  refine q_fin () (hv := ?_) (hp := trivial)
  rw [decide_eq_true (.inl h1)]; rfl

/-- a finished grid -/
def Fin (cells symbols : Int) (grid : List Int) : Prop := (grid.length : Int) = cells ∧ ∀ s ∈ grid, 0 ≤ s ∧ s < symbols

theorem finished_ok {vg : Value} {cells symbols : Int} {grid : List Int} (hl : grid.length < 9223372036854775808) :
    FnC Tryz.prog (.func 40) [.int .i64 cells, .int .i64 symbols, vg] [] [] [fSl intE vg grid] (fun b : Bool => .bool b) (fun _ => []) (fun _ => []) (fun b => (b = true ↔ Fin cells symbols grid)) := by
  refine q_beg c_finished f_finished fun B w0 => ?_
  refine go ?_
  intro b4
  refine q_frz (frz_pt (b := b4)) (h := ?_)
  refine go ?_
  first | with_reducible refine g_d (fun h1 => ?_) (fun h1 => ?_) | with_reducible refine g_n (fun h1 => ?_) (fun h1 => ?_) | with_reducible refine g_b (fun h1 => ?_) (fun h1 => ?_)
  · refine go ?_
    exact q_fin false (hv := rfl) (hp := ⟨(fun h => by cases h), fun h => absurd h.1 h1⟩)
  refine go ?_
  refine q_call (conFI_ok (p := fun x => decide (x < 0 ∨ symbols ≤ x)) hl (fun x _ => finished1_ok (b4 := b4) (sm := symbols))) (next := fun _ _ => ?_)
  refine go ?_
  refine q_fin (!grid.any fun x => decide (x < 0 ∨ symbols ≤ x)) (hv := rfl) (hp := ?_)
  rw [List.not_any_eq_all_not]
  simp only [List.all_eq_true, Bool.not_eq_true', decide_eq_false_iff_not, not_or, Int.not_lt, Int.not_le]
  exact ⟨fun h => ⟨h1, h⟩, fun h => h.2⟩

/-- a problem that is valid -/
structure ProbOK (q : Prob) : Prop where
  cells : 1 ≤ q.cells ∧ q.cells ≤ 256
  symbols : 1 ≤ q.symbols ∧ q.symbols ≤ 16
  vlen : (q.values.length : Int) = q.symbols
  vals : ∀ v ∈ q.values, 0 ≤ v ∧ v ≤ 99
  nlen : (q.nbs.length : Int) = q.cells
  graph : GOK q.nbs
  many : q.cons.length ≤ 4096
  fine : ∀ c ∈ q.cons, FineC q.cells q.symbols c

/-- slices that fit -/
structure ProbS (q : Prob) : Prop where
  values : q.values.length < 9223372036854775808
  nbs : ∀ l ∈ q.nbs, l.length < 9223372036854775808
  cons : q.cons.length < 9223372036854775808
  con : ∀ c ∈ q.cons, ConS c

theorem valid1_ok {b1 : Nat} {q : Prob} {vv vn vc : Value} {c : Con} (hq : 1 ≤ q.cells ∧ q.cells ≤ 256) (hsy : 1 ≤ q.symbols ∧ q.symbols ≤ 16) (hc : ConS c) :
    FnQ Tryz.prog (.func 152) [] [ptr' b1] [fRaw b1 0 (probL q vv vn vc)] (fun c => ¬ FineC q.cells q.symbols c) c := by
  intro v1 v2
  refine q_beg c_valid1 f_valid1 fun B w0 => ?_
  refine go ?_
  intro b2
  refine q_call (fine_ok (q := q) (c := c) hq hsy hc) (next := fun b hb => ?_)
  refine go ?_
  refine q_fin (!b) (hv := rfl) (hp := ?_)
  show (!b) = true ↔ ¬ FineC q.cells q.symbols c
  rw [← hb]
  cases b <;> simp


theorem valid_ok {q : Prob} {vv vn vc : Value} (hs : ProbS q) :
    FnC Tryz.prog (.func 102) [.agg ⟨probL q vv vn vc⟩] [] [] [fSl intE vv q.values, fSl (slE intE) vn q.nbs, fSl consE vc q.cons] (fun b : Bool => .int .i64 (if b then 0 else 191)) (fun _ => []) (fun _ => []) (fun b => (b = true ↔ ProbOK q)) := by
  refine q_beg c_valid f_valid fun B w0 => ?_
  refine go ?_
  intro b1
  refine q_frz (frz_pt (b := b1)) (h := ?_)
  refine go ?_
  first | with_reducible refine g_d (fun h1 => ?_) (fun h1 => ?_) | with_reducible refine g_n (fun h1 => ?_) (fun h1 => ?_) | with_reducible refine g_b (fun h1 => ?_) (fun h1 => ?_)
  rotate_left
  · refine go ?_
    exact q_fin false (hv := rfl) (hp := ⟨(fun h => by cases h), fun h => by have := h.cells; omega⟩)
  refine go ?_
  first | with_reducible refine g_d (fun h2 => ?_) (fun h2 => ?_) | with_reducible refine g_n (fun h2 => ?_) (fun h2 => ?_) | with_reducible refine g_b (fun h2 => ?_) (fun h2 => ?_)
  rotate_left
  · refine go ?_
    exact q_fin false (hv := rfl) (hp := ⟨(fun h => by cases h), fun h => by have := h.cells; omega⟩)
  refine go ?_
  first | with_reducible refine g_d (fun h3 => ?_) (fun h3 => ?_) | with_reducible refine g_n (fun h3 => ?_) (fun h3 => ?_) | with_reducible refine g_b (fun h3 => ?_) (fun h3 => ?_)
  rotate_left
  · refine go ?_
    exact q_fin false (hv := rfl) (hp := ⟨(fun h => by cases h), fun h => by have := h.symbols; omega⟩)
  refine go ?_
  first | with_reducible refine g_d (fun h4 => ?_) (fun h4 => ?_) | with_reducible refine g_n (fun h4 => ?_) (fun h4 => ?_) | with_reducible refine g_b (fun h4 => ?_) (fun h4 => ?_)
  rotate_left
  · refine go ?_
    exact q_fin false (hv := rfl) (hp := ⟨(fun h => by cases h), fun h => by have := h.symbols; omega⟩)
  refine go ?_
  first | with_reducible refine g_d (fun h5 => ?_) (fun h5 => ?_) | with_reducible refine g_n (fun h5 => ?_) (fun h5 => ?_) | with_reducible refine g_b (fun h5 => ?_) (fun h5 => ?_)
  rotate_left
  · refine go ?_
    exact q_fin false (hv := rfl) (hp := ⟨(fun h => by cases h), fun h => by have := h.vlen; omega⟩)
  refine go ?_
  refine q_call (within_ok (xs := q.values) (lo := 0) (hi := 99) hs.values) (next := fun _ _ => ?_)
  refine go ?_
  refine if_b rfl (fun h6 => ?_) (fun h6 => ?_)
  · refine go ?_
    refine q_fin false (hv := rfl) (hp := ⟨(fun h => by cases h), fun h => ?_⟩)
    have : wit q.values 0 99 = true := decide_eq_true h.vals
    rw [this] at h6; cases h6
  have hvals : ∀ v ∈ q.values, 0 ≤ v ∧ v ≤ 99 := of_decide_eq_true (by simpa [wit] using h6)
  refine go ?_
  first | with_reducible refine g_d (fun h7 => ?_) (fun h7 => ?_) | with_reducible refine g_n (fun h7 => ?_) (fun h7 => ?_) | with_reducible refine g_b (fun h7 => ?_) (fun h7 => ?_)
  rotate_left
  · refine go ?_
    exact q_fin false (hv := rfl) (hp := ⟨(fun h => by cases h), fun h => by have := h.nlen; omega⟩)
  refine go ?_
  refine q_call (gCheck_ok (g := q.nbs) hs.nbs) (next := fun b hb => ?_)
  cases b with
  | false =>
    refine go ?_
    exact q_fin false (hv := rfl) (hp := ⟨(fun h => by cases h), fun h => absurd (hb.2 h.graph) (by simp)⟩)
  | true =>
  have hG := hb.1 rfl
  refine go ?_
  refine if_d rfl (fun h8 => ?_) (fun h8 => ?_)
  · refine go ?_
    exact q_fin false (hv := rfl) (hp := ⟨(fun h => by cases h), fun h => by have := h.many; omega⟩)
  refine go ?_
  refine q_call (conFC_ok (xs := q.cons) (p := fun c => ¬ FineC q.cells q.symbols c) hs.cons (fun c hc => valid1_ok (b1 := b1) (q := q) (vv := vv) (vn := vn) (vc := vc) ⟨by omega, by omega⟩ ⟨by omega, by omega⟩ (hs.con c hc))) (next := fun b hb => ?_)
  refine go ?_
  refine if_b rfl (fun h9 => ?_) (fun h9 => ?_)
  · refine go ?_
    refine q_fin false (hv := rfl) (hp := ⟨(fun h => by cases h), fun h => ?_⟩)
    obtain ⟨c, hc, hn⟩ := hb.1 h9
    exact absurd (h.fine c hc) hn
  refine go ?_
  refine q_fin true (hv := rfl) (hp := ⟨fun _ => ?_, fun _ => rfl⟩)
  exact { cells := ⟨by omega, by omega⟩, symbols := ⟨by omega, by omega⟩, vlen := by omega, vals := hvals, nlen := by omega, graph := hG, many := by omega, fine := fun c hc => Classical.byContradiction fun hn => (by rw [hb.2 ⟨c, hc, hn⟩] at h9; cases h9) }

theorem ready_ok {q : Prob} {vv vn vc vg : Value} {grid : List Int} (hs : ProbS q) (hl : grid.length < 9223372036854775808) :
    FnC Tryz.prog (.func 43) [.agg ⟨probL q vv vn vc⟩, vg] [] [] [fSl intE vv q.values, fSl (slE intE) vn q.nbs, fSl consE vc q.cons, fSl intE vg grid] (fun r : Int => .int .i64 r) (fun _ => []) (fun _ => [])
      (fun r => (¬ ProbOK q → r = 191) ∧ (ProbOK q → ¬ Fin q.cells q.symbols grid → r = 200) ∧ (ProbOK q → Fin q.cells q.symbols grid → r = 0)) := by
  refine q_beg c_ready f_ready fun B w0 => ?_
  refine go ?_
  intro b2
  refine q_call (valid_ok (q := q) hs) (next := fun b hb => ?_)
  cases b with
  | false =>
    have hn : ¬ ProbOK q := fun h => absurd (hb.2 h) (by simp)
    refine go ?_
    exact q_fin 191 (hv := rfl) (hp := ⟨fun _ => rfl, fun h => absurd h hn, fun h => absurd h hn⟩)
  | true =>
    have hok := hb.1 rfl
    refine go ?_
    refine q_call (finished_ok (cells := q.cells) (symbols := q.symbols) hl) (next := fun b hb => ?_)
    cases b with
    | false =>
      have hn : ¬ Fin q.cells q.symbols grid := fun h => absurd (hb.2 h) (by simp)
      refine go ?_
      exact q_fin 200 (hv := rfl) (hp := ⟨fun h => absurd hok h, fun _ _ => rfl, fun _ h => absurd h hn⟩)
    | true =>
      refine go ?_
      exact q_fin 0 (hv := rfl) (hp := ⟨fun h => absurd hok h, fun _ h => absurd (hb.1 rfl) h, fun _ _ => rfl⟩)
end Go.Proofs.YtpkieeggilkagaaGreat

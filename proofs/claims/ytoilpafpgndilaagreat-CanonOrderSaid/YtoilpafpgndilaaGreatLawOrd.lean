/-
  The law CanonOrder on the ideal machine.
-/
import Derived.Test.YtoilpafpgndilaaGreatPuz
import Derived.Test.YtoilpafpgndilaaGreatSaneC
set_option linter.unusedSimpArgs false
set_option linter.unusedVariables false
set_option maxHeartbeats 1000000
namespace Go.Proofs.YtoilpafpgndilaaGreat
open Go.Ideal Canon

noncomputable def c_lawOrd : CFunc := ⟨77, [(.tmp 6)], (.seq (.ops [3, 4, 5, 6] [⟨⟨(some 3), none, (.box (.tmp 0) 24)⟩, []⟩, ⟨⟨(some 4), none, (.box (.tmp 1) 24)⟩, []⟩, ⟨⟨(some 5), none, (.box (.tmp 2) 24)⟩, []⟩, ⟨⟨(some 6), none, (.asg (.const (.bool false)))⟩, []⟩]) (.seq (.seq (.ops [11, 12] [⟨⟨(some 11), none, (.call (.func 10) [])⟩, []⟩, ⟨⟨(some 12), none, (.un .not (.tmp 11))⟩, []⟩]) (.cond (.tmp 12) (.seq (.ops [6] [⟨⟨(some 6), none, (.asg (.const (.bool false)))⟩, []⟩]) .ret) .skip)) (.seq (.seq (.ops [13, 14, 15, 16, 17, 18, 19, 20, 21, 22, 23, 24, 25] [⟨⟨(some 13), none, (.loadN 1 (.tmp 3))⟩, []⟩, ⟨⟨(some 14), none, (.call (.func 11) [(.tmp 13)])⟩, []⟩, ⟨⟨(some 15), none, (.un .not (.tmp 14))⟩, []⟩, ⟨⟨(some 16), none, (.mv (.tmp 15))⟩, []⟩, ⟨⟨(some 17), (some ⟨16, false⟩), (.loadN 1 (.tmp 4))⟩, []⟩, ⟨⟨(some 18), (some ⟨16, false⟩), (.call (.func 11) [(.tmp 17)])⟩, []⟩, ⟨⟨(some 19), (some ⟨16, false⟩), (.un .not (.tmp 18))⟩, []⟩, ⟨⟨(some 20), none, (.pick (.tmp 16) (.const (.bool true)) (.tmp 19))⟩, []⟩, ⟨⟨(some 21), none, (.mv (.tmp 20))⟩, []⟩, ⟨⟨(some 22), (some ⟨21, false⟩), (.loadN 1 (.tmp 5))⟩, []⟩, ⟨⟨(some 23), (some ⟨21, false⟩), (.call (.func 11) [(.tmp 22)])⟩, []⟩, ⟨⟨(some 24), (some ⟨21, false⟩), (.un .not (.tmp 23))⟩, []⟩, ⟨⟨(some 25), none, (.pick (.tmp 21) (.const (.bool true)) (.tmp 24))⟩, []⟩]) (.cond (.tmp 25) (.seq (.ops [6] [⟨⟨(some 6), none, (.asg (.const (.bool true)))⟩, []⟩]) .ret) .skip)) (.seq (.ops [26, 27, 28, 29, 30, 31, 32, 33, 34, 35, 36, 37, 7, 8, 9, 10] [⟨⟨(some 26), none, (.loadN 1 (.tmp 3))⟩, []⟩, ⟨⟨(some 27), none, (.loadN 1 (.tmp 4))⟩, []⟩, ⟨⟨(some 29), none, (.loadN 1 (.tmp 4))⟩, []⟩, ⟨⟨(some 30), none, (.loadN 1 (.tmp 3))⟩, []⟩, ⟨⟨(some 32), none, (.loadN 1 (.tmp 4))⟩, []⟩, ⟨⟨(some 33), none, (.loadN 1 (.tmp 5))⟩, []⟩, ⟨⟨(some 35), none, (.loadN 1 (.tmp 3))⟩, []⟩, ⟨⟨(some 36), none, (.loadN 1 (.tmp 5))⟩, []⟩, ⟨⟨(some 28), none, (.call (.func 12) [(.tmp 26), (.tmp 27)])⟩, [⟨(some 36), none, (.loadN 1 (.tmp 5))⟩, ⟨(some 35), none, (.loadN 1 (.tmp 3))⟩, ⟨(some 33), none, (.loadN 1 (.tmp 5))⟩, ⟨(some 32), none, (.loadN 1 (.tmp 4))⟩, ⟨(some 30), none, (.loadN 1 (.tmp 3))⟩, ⟨(some 29), none, (.loadN 1 (.tmp 4))⟩]⟩, ⟨⟨(some 31), none, (.call (.func 12) [(.tmp 29), (.tmp 30)])⟩, [⟨(some 36), none, (.loadN 1 (.tmp 5))⟩, ⟨(some 35), none, (.loadN 1 (.tmp 3))⟩, ⟨(some 33), none, (.loadN 1 (.tmp 5))⟩, ⟨(some 32), none, (.loadN 1 (.tmp 4))⟩]⟩, ⟨⟨(some 34), none, (.call (.func 12) [(.tmp 32), (.tmp 33)])⟩, [⟨(some 36), none, (.loadN 1 (.tmp 5))⟩, ⟨(some 35), none, (.loadN 1 (.tmp 3))⟩]⟩, ⟨⟨(some 37), none, (.call (.func 12) [(.tmp 35), (.tmp 36)])⟩, []⟩, ⟨⟨(some 7), none, (.asg (.tmp 28))⟩, []⟩, ⟨⟨(some 8), none, (.asg (.tmp 31))⟩, []⟩, ⟨⟨(some 9), none, (.asg (.tmp 34))⟩, []⟩, ⟨⟨(some 10), none, (.asg (.tmp 37))⟩, []⟩]) (.seq (.ops [38, 39, 40, 41, 42, 43, 44, 45, 46, 47, 48, 49, 50, 51, 52, 53, 54, 55, 56, 57, 58, 59, 60, 61, 62, 63, 64, 65, 66, 67, 68, 69, 70, 71, 72, 73, 74, 75, 76, 6] [⟨⟨(some 38), none, (.mv (.tmp 7))⟩, []⟩, ⟨⟨(some 39), none, (.loadN 1 (.tmp 3))⟩, []⟩, ⟨⟨(some 40), none, (.loadN 1 (.tmp 4))⟩, []⟩, ⟨⟨(some 41), none, (.call (.func 13) [(.tmp 39), (.tmp 40)])⟩, []⟩, ⟨⟨(some 42), none, (.bin .eql 4 (.tmp 38) (.tmp 41))⟩, []⟩, ⟨⟨(some 43), none, (.mv (.tmp 42))⟩, []⟩, ⟨⟨(some 44), (some ⟨43, true⟩), (.loadN 1 (.tmp 3))⟩, []⟩, ⟨⟨(some 45), (some ⟨43, true⟩), (.loadN 1 (.tmp 3))⟩, []⟩, ⟨⟨(some 46), (some ⟨43, true⟩), (.call (.func 12) [(.tmp 44), (.tmp 45)])⟩, []⟩, ⟨⟨(some 47), (some ⟨43, true⟩), (.un .not (.tmp 46))⟩, []⟩, ⟨⟨(some 48), none, (.pick (.tmp 43) (.tmp 47) (.const (.bool false)))⟩, []⟩, ⟨⟨(some 49), none, (.mv (.tmp 48))⟩, []⟩, ⟨⟨(some 50), (some ⟨49, true⟩), (.mv (.tmp 7))⟩, []⟩, ⟨⟨(some 51), (some ⟨49, true⟩), (.mv (.tmp 50))⟩, []⟩, ⟨⟨(some 52), (some ⟨51, true⟩), (.mv (.tmp 8))⟩, []⟩, ⟨⟨(some 53), (some ⟨49, true⟩), (.pick (.tmp 51) (.tmp 52) (.const (.bool false)))⟩, []⟩, ⟨⟨(some 54), (some ⟨49, true⟩), (.un .not (.tmp 53))⟩, []⟩, ⟨⟨(some 55), none, (.pick (.tmp 49) (.tmp 54) (.const (.bool false)))⟩, []⟩, ⟨⟨(some 56), none, (.mv (.tmp 55))⟩, []⟩, ⟨⟨(some 57), (some ⟨56, true⟩), (.mv (.tmp 7))⟩, []⟩, ⟨⟨(some 58), (some ⟨56, true⟩), (.mv (.tmp 57))⟩, []⟩, ⟨⟨(some 59), (some ⟨58, false⟩), (.mv (.tmp 8))⟩, []⟩, ⟨⟨(some 60), (some ⟨56, true⟩), (.pick (.tmp 58) (.const (.bool true)) (.tmp 59))⟩, []⟩, ⟨⟨(some 61), (some ⟨56, true⟩), (.loadN 1 (.tmp 3))⟩, []⟩, ⟨⟨(some 62), (some ⟨56, true⟩), (.loadN 1 (.tmp 4))⟩, []⟩, ⟨⟨(some 63), (some ⟨56, true⟩), (.call (.func 14) [(.tmp 61), (.tmp 62)])⟩, []⟩, ⟨⟨(some 64), (some ⟨56, true⟩), (.bin .neq 4 (.tmp 60) (.tmp 63))⟩, []⟩, ⟨⟨(some 65), none, (.pick (.tmp 56) (.tmp 64) (.const (.bool false)))⟩, []⟩, ⟨⟨(some 66), none, (.mv (.tmp 65))⟩, []⟩, ⟨⟨(some 67), (some ⟨66, true⟩), (.mv (.tmp 7))⟩, []⟩, ⟨⟨(some 68), (some ⟨66, true⟩), (.un .not (.tmp 67))⟩, []⟩, ⟨⟨(some 69), (some ⟨66, true⟩), (.mv (.tmp 68))⟩, []⟩, ⟨⟨(some 70), (some ⟨69, false⟩), (.mv (.tmp 9))⟩, []⟩, ⟨⟨(some 71), (some ⟨69, false⟩), (.un .not (.tmp 70))⟩, []⟩, ⟨⟨(some 72), (some ⟨66, true⟩), (.pick (.tmp 69) (.const (.bool true)) (.tmp 71))⟩, []⟩, ⟨⟨(some 73), (some ⟨66, true⟩), (.mv (.tmp 72))⟩, []⟩, ⟨⟨(some 74), (some ⟨73, false⟩), (.mv (.tmp 10))⟩, []⟩, ⟨⟨(some 75), (some ⟨66, true⟩), (.pick (.tmp 73) (.const (.bool true)) (.tmp 74))⟩, []⟩, ⟨⟨(some 76), none, (.pick (.tmp 66) (.tmp 75) (.const (.bool false)))⟩, []⟩, ⟨⟨(some 6), none, (.asg (.tmp 76))⟩, []⟩]) .ret)))))⟩
theorem f_lawOrd : (envOf Tryz.prog noCut noMemo).F 3 = some c_lawOrd := by kernel_rfl

theorem short_of {l : List Clue} (h : l.length ≤ 60 ∧ ∀ g ∈ l, g.values.length ≤ 20) : l.length ≤ 1000000 ∧ short l := ⟨by omega, fun g hg => by have := h.2 g hg; omega⟩

set_option maxRecDepth 10000 in
theorem lawOrd_ok {va vb vc : Value} {a b c : List Clue} : FnP Tryz.prog 3 [.agg ⟨[va]⟩, .agg ⟨[vb]⟩, .agg ⟨[vc]⟩] [fSl clueE va a, fSl clueE vb b, fSl clueE vc c] (.bool true) := by
  refine q_beg c_lawOrd f_lawOrd fun B w0 => ?_
  refine go ?_
  intro b3 b4 b5
  refine q_call sane_ok (next := fun _ _ => ?_)
  refine go ?_
  refine q_call fewP_ok (next := fun fa ha => ?_)
  cases fa
  · refine go ?_
    exact q_fin () (hv := rfl) (hp := trivial)
  refine go ?_
  refine q_call fewP_ok (next := fun fb hb => ?_)
  cases fb
  · refine go ?_
    exact q_fin () (hv := rfl) (hp := trivial)
  refine go ?_
  refine q_call fewP_ok (next := fun fc hc => ?_)
  cases fc
  · refine go ?_
    exact q_fin () (hv := rfl) (hp := trivial)
  have sa := short_of (ha rfl)
  have sb := short_of (hb rfl)
  have sc := short_of (hc rfl)
  refine go ?_
  refine q_call (less_ok sa.1 sb.1 sa.2 sb.2) (next := fun _ _ => ?_)
  refine go ?_
  refine q_call (less_ok sb.1 sa.1 sb.2 sa.2) (next := fun _ _ => ?_)
  refine go ?_
  refine q_call (less_ok sb.1 sc.1 sb.2 sc.2) (next := fun _ _ => ?_)
  refine go ?_
  refine q_call (less_ok sa.1 sc.1 sa.2 sc.2) (next := fun _ _ => ?_)
  refine go ?_
  refine q_call (rLess_ok sa.1 sb.1 sa.2 sb.2) (next := fun _ _ => ?_)
  refine go ?_
  have L := law a b c
  have e0 : (decide (ordP a b < 0) == decide (ordP a b < 0)) = true := by simp
  rw [e0]
  by_cases hab : ordP a b < 0
  · have hba : ¬ ordP b a < 0 := fun h => L.2.1 ⟨hab, h⟩
    have hne : a ≠ b := L.2.2.1.1 (.inl hab)
    rw [decide_eq_true hab, decide_eq_false hba]
    refine go ?_
    refine q_call (less_ok sa.1 sa.1 sa.2 sa.2) (next := fun _ _ => ?_)
    rw [decide_eq_false L.1]
    refine go ?_
    refine q_call (rSame_ok sa.1 sa.2 sb.2) (next := fun _ _ => ?_)
    rw [decide_eq_false hne]
    by_cases hbc : ordP b c < 0
    · rw [decide_eq_true hbc, decide_eq_true (L.2.2.2 hab hbc)]
      refine go ?_
      exact q_fin () (hv := rfl) (hp := trivial)
    · rw [decide_eq_false hbc]
      refine go ?_
      exact q_fin () (hv := rfl) (hp := trivial)
  · rw [decide_eq_false hab]
    by_cases hba : ordP b a < 0
    · have hne : a ≠ b := L.2.2.1.1 (.inr hba)
      rw [decide_eq_true hba]
      refine go ?_
      refine q_call (less_ok sa.1 sa.1 sa.2 sa.2) (next := fun _ _ => ?_)
      rw [decide_eq_false L.1]
      refine go ?_
      refine q_call (rSame_ok sa.1 sa.2 sb.2) (next := fun _ _ => ?_)
      rw [decide_eq_false hne]
      refine go ?_
      exact q_fin () (hv := rfl) (hp := trivial)
    · have heq : a = b := Decidable.not_not.1 fun h => (L.2.2.1.2 h).elim hab hba
      rw [decide_eq_false hba]
      refine go ?_
      refine q_call (less_ok sa.1 sa.1 sa.2 sa.2) (next := fun _ _ => ?_)
      rw [decide_eq_false L.1]
      refine go ?_
      refine q_call (rSame_ok sa.1 sa.2 sb.2) (next := fun _ _ => ?_)
      rw [decide_eq_true heq]
      refine go ?_
      exact q_fin () (hv := rfl) (hp := trivial)
end Go.Proofs.YtoilpafpgndilaaGreat

/-
  The law MeaningMeetsSpec on the ideal machine.
-/
import Derived.Test.YtpkieeggilkagaaGreatMeanR8
import Derived.Test.YtpkieeggilkagaaGreatSaneC
set_option linter.unusedSimpArgs false
set_option linter.unusedVariables false
set_option maxHeartbeats 2000000
set_option maxRecDepth 10000
namespace Go.Proofs.YtpkieeggilkagaaGreat
open Go.Ideal Gph

noncomputable def c_lawMeets : CFunc := ⟨69, [(.tmp 6)], (.seq (.ops [3, 6] [⟨⟨(some 3), none, (.box (.tmp 0) 50)⟩, []⟩, ⟨⟨(some 6), none, (.asg (.const (.bool false)))⟩, []⟩]) (.seq (.seq (.ops [15, 16] [⟨⟨(some 15), none, (.call (.func 11) [])⟩, []⟩, ⟨⟨(some 16), none, (.un .not (.tmp 15))⟩, []⟩]) (.cond (.tmp 16) (.seq (.ops [6] [⟨⟨(some 6), none, (.asg (.const (.bool false)))⟩, []⟩]) .ret) .skip)) (.seq (.seq (.ops [17, 18, 19, 20, 21, 22, 23, 24] [⟨⟨(some 17), none, (.loadN 5 (.tmp 3))⟩, []⟩, ⟨⟨(some 18), none, (.call (.func 20) [(.tmp 17)])⟩, []⟩, ⟨⟨(some 19), none, (.un .not (.tmp 18))⟩, []⟩, ⟨⟨(some 20), none, (.mv (.tmp 19))⟩, []⟩, ⟨⟨(some 21), (some ⟨20, false⟩), (.mv (.tmp 2))⟩, []⟩, ⟨⟨(some 22), (some ⟨20, false⟩), (.lenSl (.tmp 21))⟩, []⟩, ⟨⟨(some 23), (some ⟨20, false⟩), (.bin .gtr 3 (.tmp 22) (.const (.int .i64 20)))⟩, []⟩, ⟨⟨(some 24), none, (.pick (.tmp 20) (.const (.bool true)) (.tmp 23))⟩, []⟩]) (.cond (.tmp 24) (.seq (.ops [6] [⟨⟨(some 6), none, (.asg (.const (.bool true)))⟩, []⟩]) .ret) .skip)) (.seq (.ops [26, 27, 28, 29, 25, 30, 31, 7, 8] [⟨⟨(some 26), none, (.loadN 5 (.tmp 3))⟩, []⟩, ⟨⟨(some 27), none, (.mv (.tmp 1))⟩, []⟩, ⟨⟨(some 28), none, (.mv (.tmp 2))⟩, []⟩, ⟨⟨(some 29), none, (.call (.func 22) [(.tmp 26), (.tmp 27), (.tmp 28)])⟩, []⟩, ⟨⟨(some 25), none, (.mv (.tmp 29))⟩, []⟩, ⟨⟨(some 30), none, (.extract (.tmp 25) 0)⟩, []⟩, ⟨⟨(some 31), none, (.extract (.tmp 25) 1)⟩, []⟩, ⟨⟨(some 7), none, (.asg (.tmp 30))⟩, []⟩, ⟨⟨(some 8), none, (.asg (.tmp 31))⟩, []⟩]) (.seq (.ops [33, 34, 35, 36, 32, 37, 38, 9, 10] [⟨⟨(some 33), none, (.loadN 5 (.tmp 3))⟩, []⟩, ⟨⟨(some 34), none, (.mv (.tmp 1))⟩, []⟩, ⟨⟨(some 35), none, (.mv (.tmp 2))⟩, []⟩, ⟨⟨(some 36), none, (.call (.func 23) [(.tmp 33), (.tmp 34), (.tmp 35)])⟩, []⟩, ⟨⟨(some 32), none, (.mv (.tmp 36))⟩, []⟩, ⟨⟨(some 37), none, (.extract (.tmp 32) 0)⟩, []⟩, ⟨⟨(some 38), none, (.extract (.tmp 32) 1)⟩, []⟩, ⟨⟨(some 9), none, (.asg (.tmp 37))⟩, []⟩, ⟨⟨(some 10), none, (.asg (.tmp 38))⟩, []⟩]) (.seq (.ops [40, 41, 42, 39, 43, 44, 11, 12] [⟨⟨(some 40), none, (.loadN 5 (.tmp 3))⟩, []⟩, ⟨⟨(some 41), none, (.mv (.tmp 2))⟩, []⟩, ⟨⟨(some 42), none, (.call (.func 21) [(.tmp 40), (.tmp 41)])⟩, []⟩, ⟨⟨(some 39), none, (.mv (.tmp 42))⟩, []⟩, ⟨⟨(some 43), none, (.extract (.tmp 39) 0)⟩, []⟩, ⟨⟨(some 44), none, (.extract (.tmp 39) 1)⟩, []⟩, ⟨⟨(some 11), none, (.asg (.tmp 43))⟩, []⟩, ⟨⟨(some 12), none, (.asg (.tmp 44))⟩, []⟩]) (.seq (.ops [46, 47, 48, 45, 49, 50, 13, 14] [⟨⟨(some 46), none, (.loadN 5 (.tmp 3))⟩, []⟩, ⟨⟨(some 47), none, (.mv (.tmp 2))⟩, []⟩, ⟨⟨(some 48), none, (.call (.func 24) [(.tmp 46), (.tmp 47)])⟩, []⟩, ⟨⟨(some 45), none, (.mv (.tmp 48))⟩, []⟩, ⟨⟨(some 49), none, (.extract (.tmp 45) 0)⟩, []⟩, ⟨⟨(some 50), none, (.extract (.tmp 45) 1)⟩, []⟩, ⟨⟨(some 13), none, (.asg (.tmp 49))⟩, []⟩, ⟨⟨(some 14), none, (.asg (.tmp 50))⟩, []⟩]) (.seq (.ops [51, 52, 53, 54, 55, 56, 57, 58, 59, 60, 61, 62, 63, 64, 65, 66, 67, 68, 6] [⟨⟨(some 51), none, (.mv (.tmp 7))⟩, []⟩, ⟨⟨(some 52), none, (.mv (.tmp 9))⟩, []⟩, ⟨⟨(some 53), none, (.bin .eql 4 (.tmp 51) (.tmp 52))⟩, []⟩, ⟨⟨(some 54), none, (.mv (.tmp 53))⟩, []⟩, ⟨⟨(some 55), (some ⟨54, true⟩), (.mv (.tmp 8))⟩, []⟩, ⟨⟨(some 56), (some ⟨54, true⟩), (.mv (.tmp 10))⟩, []⟩, ⟨⟨(some 57), (some ⟨54, true⟩), (.bin .eql 40 (.tmp 55) (.tmp 56))⟩, []⟩, ⟨⟨(some 58), none, (.pick (.tmp 54) (.tmp 57) (.const (.bool false)))⟩, []⟩, ⟨⟨(some 59), none, (.mv (.tmp 58))⟩, []⟩, ⟨⟨(some 60), (some ⟨59, true⟩), (.mv (.tmp 11))⟩, []⟩, ⟨⟨(some 61), (some ⟨59, true⟩), (.mv (.tmp 13))⟩, []⟩, ⟨⟨(some 62), (some ⟨59, true⟩), (.bin .eql 4 (.tmp 60) (.tmp 61))⟩, []⟩, ⟨⟨(some 63), none, (.pick (.tmp 59) (.tmp 62) (.const (.bool false)))⟩, []⟩, ⟨⟨(some 64), none, (.mv (.tmp 63))⟩, []⟩, ⟨⟨(some 65), (some ⟨64, true⟩), (.mv (.tmp 12))⟩, []⟩, ⟨⟨(some 66), (some ⟨64, true⟩), (.mv (.tmp 14))⟩, []⟩, ⟨⟨(some 67), (some ⟨64, true⟩), (.bin .eql 40 (.tmp 65) (.tmp 66))⟩, []⟩, ⟨⟨(some 68), none, (.pick (.tmp 64) (.tmp 67) (.const (.bool false)))⟩, []⟩, ⟨⟨(some 6), none, (.asg (.tmp 68))⟩, []⟩]) .ret))))))))⟩
theorem f_lawMeets : (envOf Tryz.prog noCut noMemo).F 5 = some c_lawMeets := by kernel_rfl

theorem lawMeets_ok {q : Prob} {vv vn vc vg : Value} {grid : List Int} {i : Int} (hs : ProbS q) (hl : grid.length < 9223372036854775808) :
    FnP Tryz.prog 5 [.agg ⟨probL q vv vn vc⟩, .int .i64 i, vg] [fSl intE vv q.values, fSl (slE intE) vn q.nbs, fSl consE vc q.cons, fSl intE vg grid] (.bool true) := by
  refine q_beg c_lawMeets f_lawMeets fun B w0 => ?_
  refine go ?_
  intro b3
  refine q_frz (frz_pt (b := b3)) (h := ?_)
  refine q_call sane_ok (next := fun _ _ => ?_)
  refine go ?_
  refine q_call (fewQ_ok (q := q) hs) (next := fun b hb => ?_)
  cases b with
  | false =>
    refine go ?_
    exact q_fin () (hv := rfl) (hp := trivial)
  | true =>
  refine go ?_
  refine if_d rfl (fun h1 => ?_) (fun h1 => ?_)
  · refine go ?_
    exact q_fin () (hv := rfl) (hp := trivial)
  refine go ?_
  refine q_call (meetsE_ok (q := q) (grid := grid) (i := i) hs hl) (next := fun y1 hy1 => ?_)
  refine go ?_
  refine q_call (rMeets_ok (q := q) (grid := grid) (i := i) hs hl) (next := fun y2 hy2 => ?_)
  refine go ?_
  refine q_call (solvesE_ok (q := q) (grid := grid) hs hl) (next := fun y3 hy3 => ?_)
  refine go ?_
  refine q_call (rSolves_ok (q := q) (grid := grid) hs hl) (next := fun y4 hy4 => ?_)
  by_cases hok : ProbOK q
  rotate_left
  · have e1 := hy1.1 hok
    have e2 := hy2.1 hok
    have e3 := hy3.1 hok
    have e4 := hy4.1 hok
    subst e1 e2 e3 e4
    refine go ?_
    exact q_fin () (hv := rfl) (hp := trivial)
  by_cases hf : Fin q.cells q.symbols grid
  rotate_left
  · have e1 := hy1.2.1 hok hf
    have e2 := hy2.2.1 hok hf
    have e3 := hy3.2.1 hok hf
    have e4 := hy4.2.1 hok hf
    subst e1 e2 e3 e4
    refine go ?_
    exact q_fin () (hv := rfl) (hp := trivial)
  obtain ⟨s3, g3⟩ := y3
  obtain ⟨s4, g4⟩ := y4
  obtain ⟨he3, h3⟩ := hy3.2.2 hok hf
  obtain ⟨he4, h4⟩ := hy4.2.2 hok hf
  dsimp only at he3 he4 h3 h4
  subst he3 he4
  have e34 : s3 = s4 := by rw [Bool.eq_iff_iff, h3, h4]
  clear hy3 hy4 h3 h4
  subst e34
  obtain ⟨b, e, hb1, hb2⟩ : ∃ (b : Bool) (e : Int), (y1 = (b, e) ∧ y2 = (b, e)) ∧ (e = 0 ∨ e = 1) := by
    obtain ⟨n1, k1⟩ := hy1.2.2 hok hf
    obtain ⟨n2, k2⟩ := hy2.2.2 hok hf
    by_cases hi : i < 0 ∨ (q.cons.length : Int) ≤ i
    · exact ⟨false, 1, ⟨n1 hi, n2 hi⟩, .inr rfl⟩
    · obtain ⟨k, rfl⟩ := Int.eq_ofNat_of_zero_le (show 0 ≤ i by omega)
      have hk : q.cons[k]? = some (q.cons[k]'(by omega)) := List.getElem?_eq_getElem _
      exact ⟨_, 0, ⟨k1 k _ rfl hk, k2 k _ rfl hk⟩, .inl rfl⟩
  obtain ⟨rfl, rfl⟩ := hb1
  clear hy1 hy2
  rcases hb2 with rfl | rfl
  · cases b <;> cases s3
    · refine go ?_
      exact q_fin () (hv := rfl) (hp := trivial)
    · refine go ?_
      exact q_fin () (hv := rfl) (hp := trivial)
    · refine go ?_
      exact q_fin () (hv := rfl) (hp := trivial)
    · refine go ?_
      exact q_fin () (hv := rfl) (hp := trivial)
  · cases b <;> cases s3
    · refine go ?_
      exact q_fin () (hv := rfl) (hp := trivial)
    · refine go ?_
      exact q_fin () (hv := rfl) (hp := trivial)
    · refine go ?_
      exact q_fin () (hv := rfl) (hp := trivial)
    · refine go ?_
      exact q_fin () (hv := rfl) (hp := trivial)
end Go.Proofs.YtpkieeggilkagaaGreat

/-
  The law MeaningParts on the ideal machine.
-/
import Derived.Test.YtpkieeggilkagaaGreatMean12
import Derived.Test.YtpkieeggilkagaaGreatSaneC
set_option linter.unusedSimpArgs false
set_option linter.unusedVariables false
set_option maxHeartbeats 2000000
set_option maxRecDepth 10000
namespace Go.Proofs.YtpkieeggilkagaaGreat
open Go.Ideal Gph

noncomputable def c_lawParts : CFunc := ⟨92, [(.tmp 6)], (.seq (.ops [3, 6] [⟨⟨(some 3), none, (.box (.tmp 0) 50)⟩, []⟩, ⟨⟨(some 6), none, (.asg (.const (.bool false)))⟩, []⟩]) (.seq (.seq (.ops [15, 16] [⟨⟨(some 15), none, (.call (.func 11) [])⟩, []⟩, ⟨⟨(some 16), none, (.un .not (.tmp 15))⟩, []⟩]) (.cond (.tmp 16) (.seq (.ops [6] [⟨⟨(some 6), none, (.asg (.const (.bool false)))⟩, []⟩]) .ret) .skip)) (.seq (.seq (.ops [17, 18, 19, 20, 21, 22, 23, 24, 25, 26, 27, 28, 29, 30, 31, 32, 33, 34, 35] [⟨⟨(some 17), none, (.loadN 5 (.tmp 3))⟩, []⟩, ⟨⟨(some 18), none, (.call (.func 20) [(.tmp 17)])⟩, []⟩, ⟨⟨(some 19), none, (.un .not (.tmp 18))⟩, []⟩, ⟨⟨(some 20), none, (.mv (.tmp 19))⟩, []⟩, ⟨⟨(some 21), (some ⟨20, false⟩), (.mv (.tmp 1))⟩, []⟩, ⟨⟨(some 22), (some ⟨20, false⟩), (.lenSl (.tmp 21))⟩, []⟩, ⟨⟨(some 23), (some ⟨20, false⟩), (.bin .gtr 3 (.tmp 22) (.const (.int .i64 20)))⟩, []⟩, ⟨⟨(some 24), none, (.pick (.tmp 20) (.const (.bool true)) (.tmp 23))⟩, []⟩, ⟨⟨(some 25), none, (.mv (.tmp 24))⟩, []⟩, ⟨⟨(some 26), (some ⟨25, false⟩), (.mv (.tmp 2))⟩, []⟩, ⟨⟨(some 27), (some ⟨25, false⟩), (.bin .lss 3 (.tmp 26) (.const (.int .i64 0)))⟩, []⟩, ⟨⟨(some 28), none, (.pick (.tmp 25) (.const (.bool true)) (.tmp 27))⟩, []⟩, ⟨⟨(some 29), none, (.mv (.tmp 28))⟩, []⟩, ⟨⟨(some 30), (some ⟨29, false⟩), (.mv (.tmp 2))⟩, []⟩, ⟨⟨(some 31), (some ⟨29, false⟩), (.fieldA 4 (.tmp 3))⟩, []⟩, ⟨⟨(some 32), (some ⟨29, false⟩), (.load1 (.tmp 31))⟩, []⟩, ⟨⟨(some 33), (some ⟨29, false⟩), (.lenSl (.tmp 32))⟩, []⟩, ⟨⟨(some 34), (some ⟨29, false⟩), (.bin .gtr 3 (.tmp 30) (.tmp 33))⟩, []⟩, ⟨⟨(some 35), none, (.pick (.tmp 29) (.const (.bool true)) (.tmp 34))⟩, []⟩]) (.cond (.tmp 35) (.seq (.ops [6] [⟨⟨(some 6), none, (.asg (.const (.bool true)))⟩, []⟩]) .ret) .skip)) (.seq (.ops [37, 38, 39, 36, 40, 41, 7, 8] [⟨⟨(some 37), none, (.loadN 5 (.tmp 3))⟩, []⟩, ⟨⟨(some 38), none, (.mv (.tmp 1))⟩, []⟩, ⟨⟨(some 39), none, (.call (.func 21) [(.tmp 37), (.tmp 38)])⟩, []⟩, ⟨⟨(some 36), none, (.mv (.tmp 39))⟩, []⟩, ⟨⟨(some 40), none, (.extract (.tmp 36) 0)⟩, []⟩, ⟨⟨(some 41), none, (.extract (.tmp 36) 1)⟩, []⟩, ⟨⟨(some 7), none, (.asg (.tmp 40))⟩, []⟩, ⟨⟨(some 8), none, (.asg (.tmp 41))⟩, []⟩]) (.seq (.ops [42, 9] [⟨⟨(some 42), none, (.loadN 5 (.tmp 3))⟩, []⟩, ⟨⟨(some 9), none, (.new [(.int .i64 0), (.int .i64 0), (.slice none 0 0), (.slice none 0 0), (.slice none 0 0)] 50)⟩, []⟩, ⟨⟨none, none, (.store 5 (.tmp 9) (.tmp 42))⟩, []⟩]) (.seq (.ops [43, 44, 45, 46, 47] [⟨⟨(some 43), none, (.fieldA 4 (.tmp 3))⟩, []⟩, ⟨⟨(some 44), none, (.load1 (.tmp 43))⟩, []⟩, ⟨⟨(some 45), none, (.mv (.tmp 2))⟩, []⟩, ⟨⟨(some 46), none, (.slSl 9 (.tmp 44) none (some (.tmp 45)) none)⟩, []⟩, ⟨⟨(some 47), none, (.fieldA 4 (.tmp 9))⟩, []⟩, ⟨⟨none, none, (.store 1 (.tmp 47) (.tmp 46))⟩, []⟩]) (.seq (.ops [48, 10] [⟨⟨(some 48), none, (.loadN 5 (.tmp 3))⟩, []⟩, ⟨⟨(some 10), none, (.new [(.int .i64 0), (.int .i64 0), (.slice none 0 0), (.slice none 0 0), (.slice none 0 0)] 50)⟩, []⟩, ⟨⟨none, none, (.store 5 (.tmp 10) (.tmp 48))⟩, []⟩]) (.seq (.ops [49, 50, 51, 52, 53] [⟨⟨(some 49), none, (.fieldA 4 (.tmp 3))⟩, []⟩, ⟨⟨(some 50), none, (.load1 (.tmp 49))⟩, []⟩, ⟨⟨(some 51), none, (.mv (.tmp 2))⟩, []⟩, ⟨⟨(some 52), none, (.slSl 9 (.tmp 50) (some (.tmp 51)) none none)⟩, []⟩, ⟨⟨(some 53), none, (.fieldA 4 (.tmp 10))⟩, []⟩, ⟨⟨none, none, (.store 1 (.tmp 53) (.tmp 52))⟩, []⟩]) (.seq (.ops [55, 56, 57, 54, 58, 59, 11, 12] [⟨⟨(some 55), none, (.loadN 5 (.tmp 9))⟩, []⟩, ⟨⟨(some 56), none, (.mv (.tmp 1))⟩, []⟩, ⟨⟨(some 57), none, (.call (.func 21) [(.tmp 55), (.tmp 56)])⟩, []⟩, ⟨⟨(some 54), none, (.mv (.tmp 57))⟩, []⟩, ⟨⟨(some 58), none, (.extract (.tmp 54) 0)⟩, []⟩, ⟨⟨(some 59), none, (.extract (.tmp 54) 1)⟩, []⟩, ⟨⟨(some 11), none, (.asg (.tmp 58))⟩, []⟩, ⟨⟨(some 12), none, (.asg (.tmp 59))⟩, []⟩]) (.seq (.ops [61, 62, 63, 60, 64, 65, 13, 14] [⟨⟨(some 61), none, (.loadN 5 (.tmp 10))⟩, []⟩, ⟨⟨(some 62), none, (.mv (.tmp 1))⟩, []⟩, ⟨⟨(some 63), none, (.call (.func 21) [(.tmp 61), (.tmp 62)])⟩, []⟩, ⟨⟨(some 60), none, (.mv (.tmp 63))⟩, []⟩, ⟨⟨(some 64), none, (.extract (.tmp 60) 0)⟩, []⟩, ⟨⟨(some 65), none, (.extract (.tmp 60) 1)⟩, []⟩, ⟨⟨(some 13), none, (.asg (.tmp 64))⟩, []⟩, ⟨⟨(some 14), none, (.asg (.tmp 65))⟩, []⟩]) (.seq (.seq (.ops [66, 67] [⟨⟨(some 66), none, (.mv (.tmp 8))⟩, []⟩, ⟨⟨(some 67), none, (.bin .neq 40 (.tmp 66) (.const (.int .i64 0)))⟩, []⟩]) (.cond (.tmp 67) (.seq (.ops [68, 69, 70, 71, 72, 73, 74, 75, 76, 77, 6] [⟨⟨(some 68), none, (.mv (.tmp 7))⟩, []⟩, ⟨⟨(some 69), none, (.un .not (.tmp 68))⟩, []⟩, ⟨⟨(some 70), none, (.mv (.tmp 69))⟩, []⟩, ⟨⟨(some 71), (some ⟨70, true⟩), (.mv (.tmp 12))⟩, []⟩, ⟨⟨(some 72), (some ⟨70, true⟩), (.bin .neq 40 (.tmp 71) (.const (.int .i64 0)))⟩, []⟩, ⟨⟨(some 73), (some ⟨70, true⟩), (.mv (.tmp 72))⟩, []⟩, ⟨⟨(some 74), (some ⟨73, false⟩), (.mv (.tmp 14))⟩, []⟩, ⟨⟨(some 75), (some ⟨73, false⟩), (.bin .neq 40 (.tmp 74) (.const (.int .i64 0)))⟩, []⟩, ⟨⟨(some 76), (some ⟨70, true⟩), (.pick (.tmp 73) (.const (.bool true)) (.tmp 75))⟩, []⟩, ⟨⟨(some 77), none, (.pick (.tmp 70) (.tmp 76) (.const (.bool false)))⟩, []⟩, ⟨⟨(some 6), none, (.asg (.tmp 77))⟩, []⟩]) .ret) .skip)) (.seq (.ops [78, 79, 80, 81, 82, 83, 84, 85, 86, 87, 88, 89, 90, 91, 6] [⟨⟨(some 78), none, (.mv (.tmp 12))⟩, []⟩, ⟨⟨(some 79), none, (.bin .eql 40 (.tmp 78) (.const (.int .i64 0)))⟩, []⟩, ⟨⟨(some 80), none, (.mv (.tmp 79))⟩, []⟩, ⟨⟨(some 81), (some ⟨80, true⟩), (.mv (.tmp 14))⟩, []⟩, ⟨⟨(some 82), (some ⟨80, true⟩), (.bin .eql 40 (.tmp 81) (.const (.int .i64 0)))⟩, []⟩, ⟨⟨(some 83), none, (.pick (.tmp 80) (.tmp 82) (.const (.bool false)))⟩, []⟩, ⟨⟨(some 84), none, (.mv (.tmp 83))⟩, []⟩, ⟨⟨(some 85), (some ⟨84, true⟩), (.mv (.tmp 7))⟩, []⟩, ⟨⟨(some 86), (some ⟨84, true⟩), (.mv (.tmp 11))⟩, []⟩, ⟨⟨(some 87), (some ⟨84, true⟩), (.mv (.tmp 86))⟩, []⟩, ⟨⟨(some 88), (some ⟨87, true⟩), (.mv (.tmp 13))⟩, []⟩, ⟨⟨(some 89), (some ⟨84, true⟩), (.pick (.tmp 87) (.tmp 88) (.const (.bool false)))⟩, []⟩, ⟨⟨(some 90), (some ⟨84, true⟩), (.bin .eql 4 (.tmp 85) (.tmp 89))⟩, []⟩, ⟨⟨(some 91), none, (.pick (.tmp 84) (.tmp 90) (.const (.bool false)))⟩, []⟩, ⟨⟨(some 6), none, (.asg (.tmp 91))⟩, []⟩]) .ret))))))))))))⟩
theorem f_lawParts : (envOf Tryz.prog noCut noMemo).F 4 = some c_lawParts := by kernel_rfl

theorem prob_part {q : Prob} {l : List Con} (hok : ProbOK q) (hl : ∀ c ∈ l, c ∈ q.cons) (hn : l.length ≤ q.cons.length) : ProbOK { q with cons := l } :=
  ⟨hok.cells, hok.symbols, hok.vlen, hok.vals, hok.nlen, hok.graph, by have := hok.many; show l.length ≤ _; omega, fun c hc => hok.fine c (hl c hc)⟩
theorem prob_join {q : Prob} {k : Nat} (h1 : ProbOK { q with cons := q.cons.take k }) (h2 : ProbOK { q with cons := q.cons.drop k }) (hm : q.cons.length ≤ 4096) : ProbOK q :=
  ⟨h1.cells, h1.symbols, h1.vlen, h1.vals, h1.nlen, h1.graph, hm, fun c hc => by
    rw [← List.take_append_drop k q.cons] at hc
    rcases List.mem_append.1 hc with h | h
    · exact h1.fine c h
    · exact h2.fine c h⟩
theorem prob_s {q : Prob} {l : List Con} (hs : ProbS q) (hl : ∀ c ∈ l, c ∈ q.cons) (hn : l.length ≤ q.cons.length) : ProbS { q with cons := l } :=
  ⟨hs.values, hs.nbs, by have := hs.cons; show l.length < _; omega, fun c hc => hs.con c (hl c hc)⟩

theorem lawParts_ok {q : Prob} {vv vn vc vg : Value} {grid : List Int} {at_ : Int} (hs : ProbS q) (hl : grid.length < 9223372036854775808) :
    FnP Tryz.prog 4 [.agg ⟨probL q vv vn vc⟩, vg, .int .i64 at_] [fSl intE vv q.values, fSl (slE intE) vn q.nbs, fSl consE vc q.cons, fSl intE vg grid] (.bool true) := by
  refine q_beg c_lawParts f_lawParts fun B w0 => ?_
  refine go ?_
  intro b3
  refine q_frz (frz_pt (b := b3)) (h := ?_)
  refine q_call sane_ok (next := fun _ _ => ?_)
  refine go ?_
  refine q_call (fewQ_ok (q := q) hs) (next := fun b hb => ?_)
  cases b with
  | false =>
    refine go ?_
    exact q_fin () (hv := rfl) (hp := trivial)
  | true =>
  have hfew := hb rfl
  refine go ?_
  first | with_reducible refine g_d (fun h1 => ?_) (fun h1 => ?_) | with_reducible refine g_n (fun h1 => ?_) (fun h1 => ?_) | with_reducible refine g_b (fun h1 => ?_) (fun h1 => ?_)
  rotate_left
  · refine go ?_
    exact q_fin () (hv := rfl) (hp := trivial)
  refine go ?_
  first | with_reducible refine g_d (fun h2 => ?_) (fun h2 => ?_) | with_reducible refine g_n (fun h2 => ?_) (fun h2 => ?_) | with_reducible refine g_b (fun h2 => ?_) (fun h2 => ?_)
  rotate_left
  · refine go ?_
    exact q_fin () (hv := rfl) (hp := trivial)
  refine go ?_
  refine if_d rfl (fun h3 => ?_) (fun h3 => ?_)
  · refine go ?_
    exact q_fin () (hv := rfl) (hp := trivial)
  obtain ⟨k, rfl⟩ := Int.eq_ofNat_of_zero_le (show 0 ≤ at_ by omega)
  have hk : k ≤ q.cons.length := by omega
  refine go ?_
  refine q_call (solvesE_ok (q := q) (grid := grid) hs hl) (next := fun y1 hy1 => ?_)
  refine go ?_
  intro b9
  refine go ?_
  refine q_to consE k hk (next := fun ad m => ?_)
  refine go ?_
  intro b10
  refine go ?_
  refine q_from consE k hk (next := fun ad2 m2 => ?_)
  refine go ?_
  have mt : ∀ c ∈ q.cons.take k, c ∈ q.cons := fun c hc => List.mem_of_mem_take hc
  have md : ∀ c ∈ q.cons.drop k, c ∈ q.cons := fun c hc => List.mem_of_mem_drop hc
  have st := prob_s hs mt (by rw [List.length_take]; omega)
  have sd := prob_s hs md (by rw [List.length_drop]; omega)
  refine q_call (solvesE_ok (q := { q with cons := q.cons.take k }) (grid := grid) (vv := vv) (vn := vn) (vc := .slice ad k m) st hl) (next := fun y2 hy2 => ?_)
  refine go ?_
  refine q_call (solvesE_ok (q := { q with cons := q.cons.drop k }) (grid := grid) (vv := vv) (vn := vn) (vc := .slice ad2 (q.cons.length - k) m2) sd hl) (next := fun y3 hy3 => ?_)
  refine go ?_
  by_cases hok : ProbOK q
  · have okt := prob_part hok mt (by rw [List.length_take]; omega)
    have okd := prob_part hok md (by rw [List.length_drop]; omega)
    by_cases hf : Fin q.cells q.symbols grid
    · obtain ⟨ok1, e1⟩ := y1
      obtain ⟨ok2, e2⟩ := y2
      obtain ⟨ok3, e3⟩ := y3
      obtain ⟨he1, h1⟩ := hy1.2.2 hok hf
      obtain ⟨he2, h2⟩ := hy2.2.2 okt hf
      obtain ⟨he3, h3⟩ := hy3.2.2 okd hf
      dsimp only at he1 he2 he3 h1 h2 h3
      subst he1 he2 he3
      have key : ok1 = (ok2 && ok3) := by
        rw [Bool.eq_iff_iff, Bool.and_eq_true, h1, h2, h3]
        constructor
        · intro h; exact ⟨fun c hc => h c (mt c hc), fun c hc => h c (md c hc)⟩
        · rintro ⟨h, h'⟩ c hc
          rw [← List.take_append_drop k q.cons] at hc
          rcases List.mem_append.1 hc with hc | hc
          · exact h c hc
          · exact h' c hc
      subst key
      cases ok2 <;> cases ok3
      · refine go ?_
        exact q_fin () (hv := rfl) (hp := trivial)
      · refine go ?_
        exact q_fin () (hv := rfl) (hp := trivial)
      · refine go ?_
        exact q_fin () (hv := rfl) (hp := trivial)
      · refine go ?_
        exact q_fin () (hv := rfl) (hp := trivial)
    · have e1 := hy1.2.1 hok hf
      have e2 := hy2.2.1 okt hf
      subst e1 e2
      refine go ?_
      exact q_fin () (hv := rfl) (hp := trivial)
  · have e1 := hy1.1 hok
    subst e1
    by_cases okt : ProbOK { q with cons := q.cons.take k }
    · have okd : ¬ ProbOK { q with cons := q.cons.drop k } := fun h => hok (prob_join okt h (by omega))
      have e3 := hy3.1 okd
      subst e3
      by_cases hf : Fin q.cells q.symbols grid
      · have he2 := (hy2.2.2 okt hf).1
        obtain ⟨ok2, e2⟩ := y2
        dsimp only at he2
        subst he2
        refine go ?_
        exact q_fin () (hv := rfl) (hp := trivial)
      · have e2 := hy2.2.1 okt hf
        subst e2
        refine go ?_
        exact q_fin () (hv := rfl) (hp := trivial)
    · have e2 := hy2.1 okt
      subst e2
      refine go ?_
      exact q_fin () (hv := rfl) (hp := trivial)
end Go.Proofs.YtpkieeggilkagaaGreat

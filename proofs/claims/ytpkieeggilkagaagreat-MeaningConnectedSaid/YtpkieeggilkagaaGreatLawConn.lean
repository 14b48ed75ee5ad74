/-
  The law MeaningConnected on the ideal machine.
-/
import Derived.Test.YtpkieeggilkagaaGreatMean12
import Derived.Test.YtpkieeggilkagaaGreatSaneC
set_option linter.unusedSimpArgs false
set_option linter.unusedVariables false
set_option maxHeartbeats 2000000
set_option maxRecDepth 10000
namespace Go.Proofs.YtpkieeggilkagaaGreat
open Go.Ideal Gph

noncomputable def c_lawConn : CFunc := ⟨106, [(.tmp 6)], (.seq (.ops [3, 6] [⟨⟨(some 3), none, (.box (.tmp 0) 50)⟩, []⟩, ⟨⟨(some 6), none, (.asg (.const (.bool false)))⟩, []⟩]) (.seq (.seq (.ops [15, 16] [⟨⟨(some 15), none, (.call (.func 11) [])⟩, []⟩, ⟨⟨(some 16), none, (.un .not (.tmp 15))⟩, []⟩]) (.cond (.tmp 16) (.seq (.ops [6] [⟨⟨(some 6), none, (.asg (.const (.bool false)))⟩, []⟩]) .ret) .skip)) (.seq (.seq (.ops [17, 18, 19, 20, 21, 22, 23, 24] [⟨⟨(some 17), none, (.loadN 5 (.tmp 3))⟩, []⟩, ⟨⟨(some 18), none, (.call (.func 20) [(.tmp 17)])⟩, []⟩, ⟨⟨(some 19), none, (.un .not (.tmp 18))⟩, []⟩, ⟨⟨(some 20), none, (.mv (.tmp 19))⟩, []⟩, ⟨⟨(some 21), (some ⟨20, false⟩), (.mv (.tmp 2))⟩, []⟩, ⟨⟨(some 22), (some ⟨20, false⟩), (.lenSl (.tmp 21))⟩, []⟩, ⟨⟨(some 23), (some ⟨20, false⟩), (.bin .gtr 3 (.tmp 22) (.const (.int .i64 20)))⟩, []⟩, ⟨⟨(some 24), none, (.pick (.tmp 20) (.const (.bool true)) (.tmp 23))⟩, []⟩]) (.cond (.tmp 24) (.seq (.ops [6] [⟨⟨(some 6), none, (.asg (.const (.bool true)))⟩, []⟩]) .ret) .skip)) (.seq (.ops [26, 27, 28, 29, 25, 30, 31, 7, 8] [⟨⟨(some 26), none, (.loadN 5 (.tmp 3))⟩, []⟩, ⟨⟨(some 27), none, (.mv (.tmp 1))⟩, []⟩, ⟨⟨(some 28), none, (.mv (.tmp 2))⟩, []⟩, ⟨⟨(some 29), none, (.call (.func 22) [(.tmp 26), (.tmp 27), (.tmp 28)])⟩, []⟩, ⟨⟨(some 25), none, (.mv (.tmp 29))⟩, []⟩, ⟨⟨(some 30), none, (.extract (.tmp 25) 0)⟩, []⟩, ⟨⟨(some 31), none, (.extract (.tmp 25) 1)⟩, []⟩, ⟨⟨(some 7), none, (.asg (.tmp 30))⟩, []⟩, ⟨⟨(some 8), none, (.asg (.tmp 31))⟩, []⟩]) (.seq (.seq (.ops [32, 33, 34, 35, 36, 37, 38, 39, 40, 41, 42, 43, 44] [⟨⟨(some 32), none, (.mv (.tmp 8))⟩, []⟩, ⟨⟨(some 33), none, (.bin .neq 40 (.tmp 32) (.const (.int .i64 0)))⟩, []⟩, ⟨⟨(some 34), none, (.mv (.tmp 33))⟩, []⟩, ⟨⟨(some 35), (some ⟨34, false⟩), (.mv (.tmp 1))⟩, []⟩, ⟨⟨(some 36), (some ⟨34, false⟩), (.bin .lss 3 (.tmp 35) (.const (.int .i64 0)))⟩, []⟩, ⟨⟨(some 37), none, (.pick (.tmp 34) (.const (.bool true)) (.tmp 36))⟩, []⟩, ⟨⟨(some 38), none, (.mv (.tmp 37))⟩, []⟩, ⟨⟨(some 39), (some ⟨38, false⟩), (.mv (.tmp 1))⟩, []⟩, ⟨⟨(some 40), (some ⟨38, false⟩), (.fieldA 4 (.tmp 3))⟩, []⟩, ⟨⟨(some 41), (some ⟨38, false⟩), (.load1 (.tmp 40))⟩, []⟩, ⟨⟨(some 42), (some ⟨38, false⟩), (.lenSl (.tmp 41))⟩, []⟩, ⟨⟨(some 43), (some ⟨38, false⟩), (.bin .geq 3 (.tmp 39) (.tmp 42))⟩, []⟩, ⟨⟨(some 44), none, (.pick (.tmp 38) (.const (.bool true)) (.tmp 43))⟩, []⟩]) (.cond (.tmp 44) (.seq (.ops [45, 46, 47, 48, 49, 50, 6] [⟨⟨(some 45), none, (.mv (.tmp 7))⟩, []⟩, ⟨⟨(some 46), none, (.un .not (.tmp 45))⟩, []⟩, ⟨⟨(some 47), none, (.mv (.tmp 46))⟩, []⟩, ⟨⟨(some 48), (some ⟨47, true⟩), (.mv (.tmp 8))⟩, []⟩, ⟨⟨(some 49), (some ⟨47, true⟩), (.bin .neq 40 (.tmp 48) (.const (.int .i64 0)))⟩, []⟩, ⟨⟨(some 50), none, (.pick (.tmp 47) (.tmp 49) (.const (.bool false)))⟩, []⟩, ⟨⟨(some 6), none, (.asg (.tmp 50))⟩, []⟩]) .ret) .skip)) (.seq (.ops [51, 52, 53, 54, 55, 9] [⟨⟨(some 51), none, (.fieldA 4 (.tmp 3))⟩, []⟩, ⟨⟨(some 52), none, (.load1 (.tmp 51))⟩, []⟩, ⟨⟨(some 53), none, (.mv (.tmp 1))⟩, []⟩, ⟨⟨(some 54), none, (.idxSl 9 (.tmp 52) (.tmp 53))⟩, []⟩, ⟨⟨(some 55), none, (.loadN 9 (.tmp 54))⟩, []⟩, ⟨⟨(some 9), none, (.new [(.int .i64 0), (.slice none 0 0), (.int .i64 0), (.int .i64 0), (.int .i64 0), (.int .i64 0), (.slice none 0 0), (.int .i64 0), (.int .i64 0)] 57)⟩, []⟩, ⟨⟨none, none, (.store 9 (.tmp 9) (.tmp 55))⟩, []⟩]) (.seq (.seq (.ops [56, 57, 58, 59, 60, 61, 62, 63] [⟨⟨(some 56), none, (.fieldA 0 (.tmp 9))⟩, []⟩, ⟨⟨(some 57), none, (.load1 (.tmp 56))⟩, []⟩, ⟨⟨(some 58), none, (.bin .neq 3 (.tmp 57) (.const (.int .i64 8)))⟩, []⟩, ⟨⟨(some 59), none, (.mv (.tmp 58))⟩, []⟩, ⟨⟨(some 60), (some ⟨59, true⟩), (.fieldA 0 (.tmp 9))⟩, []⟩, ⟨⟨(some 61), (some ⟨59, true⟩), (.load1 (.tmp 60))⟩, []⟩, ⟨⟨(some 62), (some ⟨59, true⟩), (.bin .neq 3 (.tmp 61) (.const (.int .i64 9)))⟩, []⟩, ⟨⟨(some 63), none, (.pick (.tmp 59) (.tmp 62) (.const (.bool false)))⟩, []⟩]) (.cond (.tmp 63) (.seq (.ops [6] [⟨⟨(some 6), none, (.asg (.const (.bool true)))⟩, []⟩]) .ret) .skip)) (.seq (.ops [64, 65, 66, 67, 68, 69, 10] [⟨⟨(some 64), none, (.mv (.tmp 2))⟩, []⟩, ⟨⟨(some 65), none, (.fieldA 1 (.tmp 9))⟩, []⟩, ⟨⟨(some 66), none, (.load1 (.tmp 65))⟩, []⟩, ⟨⟨(some 67), none, (.fieldA 2 (.tmp 9))⟩, []⟩, ⟨⟨(some 68), none, (.load1 (.tmp 67))⟩, []⟩, ⟨⟨(some 69), none, (.call (.func 25) [(.tmp 64), (.tmp 66), (.tmp 68)])⟩, []⟩, ⟨⟨(some 10), none, (.asg (.tmp 69))⟩, []⟩]) (.seq (.ops [71, 72, 73, 74, 70, 75, 76, 11, 12] [⟨⟨(some 71), none, (.fieldA 3 (.tmp 3))⟩, []⟩, ⟨⟨(some 72), none, (.load1 (.tmp 71))⟩, []⟩, ⟨⟨(some 73), none, (.mv (.tmp 10))⟩, []⟩, ⟨⟨(some 74), none, (.call (.func 26) [(.tmp 72), (.tmp 73)])⟩, []⟩, ⟨⟨(some 70), none, (.mv (.tmp 74))⟩, []⟩, ⟨⟨(some 75), none, (.extract (.tmp 70) 0)⟩, []⟩, ⟨⟨(some 76), none, (.extract (.tmp 70) 1)⟩, []⟩, ⟨⟨(some 11), none, (.asg (.tmp 75))⟩, []⟩, ⟨⟨(some 12), none, (.asg (.tmp 76))⟩, []⟩]) (.seq (.ops [78, 79, 80, 81, 77, 82, 83, 13, 14] [⟨⟨(some 78), none, (.fieldA 3 (.tmp 3))⟩, []⟩, ⟨⟨(some 79), none, (.load1 (.tmp 78))⟩, []⟩, ⟨⟨(some 80), none, (.mv (.tmp 10))⟩, []⟩, ⟨⟨(some 81), none, (.call (.func 27) [(.tmp 79), (.tmp 80)])⟩, []⟩, ⟨⟨(some 77), none, (.mv (.tmp 81))⟩, []⟩, ⟨⟨(some 82), none, (.extract (.tmp 77) 0)⟩, []⟩, ⟨⟨(some 83), none, (.extract (.tmp 77) 1)⟩, []⟩, ⟨⟨(some 13), none, (.asg (.tmp 82))⟩, []⟩, ⟨⟨(some 14), none, (.asg (.tmp 83))⟩, []⟩]) (.seq (.seq (.ops [84, 85, 86, 87, 88, 89] [⟨⟨(some 84), none, (.mv (.tmp 12))⟩, []⟩, ⟨⟨(some 85), none, (.bin .neq 40 (.tmp 84) (.const (.int .i64 0)))⟩, []⟩, ⟨⟨(some 86), none, (.mv (.tmp 85))⟩, []⟩, ⟨⟨(some 87), (some ⟨86, false⟩), (.mv (.tmp 14))⟩, []⟩, ⟨⟨(some 88), (some ⟨86, false⟩), (.bin .neq 40 (.tmp 87) (.const (.int .i64 0)))⟩, []⟩, ⟨⟨(some 89), none, (.pick (.tmp 86) (.const (.bool true)) (.tmp 88))⟩, []⟩]) (.cond (.tmp 89) (.seq (.ops [6] [⟨⟨(some 6), none, (.asg (.const (.bool false)))⟩, []⟩]) .ret) .skip)) (.seq (.seq (.ops [90, 91, 92] [⟨⟨(some 90), none, (.fieldA 0 (.tmp 9))⟩, []⟩, ⟨⟨(some 91), none, (.load1 (.tmp 90))⟩, []⟩, ⟨⟨(some 92), none, (.bin .eql 3 (.tmp 91) (.const (.int .i64 8)))⟩, []⟩]) (.cond (.tmp 92) (.seq (.ops [93, 94, 95, 96, 97, 6] [⟨⟨(some 93), none, (.mv (.tmp 7))⟩, []⟩, ⟨⟨(some 94), none, (.mv (.tmp 11))⟩, []⟩, ⟨⟨(some 95), none, (.lenSl (.tmp 94))⟩, []⟩, ⟨⟨(some 96), none, (.bin .leq 3 (.tmp 95) (.const (.int .i64 1)))⟩, []⟩, ⟨⟨(some 97), none, (.bin .eql 4 (.tmp 93) (.tmp 96))⟩, []⟩, ⟨⟨(some 6), none, (.asg (.tmp 97))⟩, []⟩]) .ret) .skip)) (.seq (.ops [98, 99, 100, 101, 102, 103, 104, 105, 6] [⟨⟨(some 98), none, (.mv (.tmp 7))⟩, []⟩, ⟨⟨(some 99), none, (.mv (.tmp 11))⟩, []⟩, ⟨⟨(some 100), none, (.lenSl (.tmp 99))⟩, []⟩, ⟨⟨(some 101), none, (.bin .eql 3 (.tmp 100) (.const (.int .i64 0)))⟩, []⟩, ⟨⟨(some 102), none, (.mv (.tmp 101))⟩, []⟩, ⟨⟨(some 103), (some ⟨102, false⟩), (.mv (.tmp 13))⟩, []⟩, ⟨⟨(some 104), none, (.pick (.tmp 102) (.const (.bool true)) (.tmp 103))⟩, []⟩, ⟨⟨(some 105), none, (.bin .eql 4 (.tmp 98) (.tmp 104))⟩, []⟩, ⟨⟨(some 6), none, (.asg (.tmp 105))⟩, []⟩]) .ret)))))))))))))⟩
theorem f_lawConn : (envOf Tryz.prog noCut noMemo).F 7 = some c_lawConn := by kernel_rfl


theorem lawConn_ok {q : Prob} {vv vn vc vg : Value} {grid : List Int} {i : Int} (hs : ProbS q) (hl : grid.length < 9223372036854775808) :
    FnP Tryz.prog 7 [.agg ⟨probL q vv vn vc⟩, .int .i64 i, vg] [fSl intE vv q.values, fSl (slE intE) vn q.nbs, fSl consE vc q.cons, fSl intE vg grid] (.bool true) := by
  refine q_beg c_lawConn f_lawConn fun B w0 => ?_
  refine go ?_
  intro b3
  refine q_frz (frz_pt (b := b3)) (h := ?_)
  refine q_call sane_ok (next := fun _ _ => ?_)
  refine go ?_
  refine q_call (fewQ_ok (q := q) hs) (next := fun b hb => ?_)
  cases b with
  | false =>
    refine go ?_
    exact q_fin () (hv := rfl) (hp := trivial)
  | true =>
  have hfew := hb rfl
  refine go ?_
  refine if_d rfl (fun h1 => ?_) (fun h1 => ?_)
  · refine go ?_
    exact q_fin () (hv := rfl) (hp := trivial)
  refine go ?_
  refine q_call (meetsE_ok (q := q) (grid := grid) (i := i) hs hl) (next := fun y hy => ?_)
  by_cases hok : ProbOK q
  rotate_left
  · have e := hy.1 hok
    subst e
    refine go ?_
    exact q_fin () (hv := rfl) (hp := trivial)
  by_cases hf : Fin q.cells q.symbols grid
  rotate_left
  · have e := hy.2.1 hok hf
    subst e
    refine go ?_
    exact q_fin () (hv := rfl) (hp := trivial)
  obtain ⟨hno, hyes⟩ := hy.2.2 hok hf
  by_cases hi : i < 0 ∨ (q.cons.length : Int) ≤ i
  · have e := hno hi
    subst e
    refine go ?_
    exact q_fin () (hv := rfl) (hp := trivial)
  obtain ⟨k, rfl⟩ := Int.eq_ofNat_of_zero_le (show 0 ≤ i by omega)
  have hk : k < q.cons.length := by omega
  have e := hyes k q.cons[k] rfl (List.getElem?_eq_getElem hk)
  subst e
  refine go ?_
  refine if_d rfl (fun h3 => ?_) (fun h3 => ?_)
  · omega
  refine go ?_
  refine q_idx consE (next := fun _ _ c (y : Value × Value) hc => ?_)
  rw [List.getElem?_eq_getElem hk] at hc
  cases hc
  have hfc := hok.fine q.cons[k] (List.getElem_mem hk)
  have sd := sides hok hfc hf
  have hgl : grid.length = q.nbs.length := by have := hok.nlen; have := hf.1; omega
  generalize q.cons[k] = c at hfc sd ⊢
  obtain ⟨kd, cells, cset, cother, clo, chi, runs, crule, cat⟩ := c
  obtain ⟨set, rfl⟩ := Int.eq_ofNat_of_zero_le sd.st.1
  have hset : set < 9223372036854775808 := by have := sd.st.2; dsimp only at this; omega
  have hg := sd.gr
  have hcl := sd.ce
  dsimp only at hcl
  have hml := mkd_len grid set cells
  by_cases k8 : kd = 8
  · subst k8
    have hm : metB q ⟨8, cells, set, cother, clo, chi, runs, crule, cat⟩ grid = joinB q.nbs (mkd grid set cells) false := rfl
    rw [hm]
    dsimp only [consE]
    refine go ?_
    intro b9
    refine go ?_
    refine q_call (marked_ok (set := set) hg hcl hset) (next := fun bm _ => ?_)
    refine q_frz (frz_bools (b := bm) (f := 0) (c := grid.length) (xs := mkd grid set cells)) (h := ?_)
    rw [hml]
    refine go ?_
    refine q_call (comps_ok (g := q.nbs) (inn := mkd grid set cells) hs.nbs) (next := fun y hy => ?_)
    obtain ⟨a, n, e⟩ := y
    have he : e = 0 := hy.1.2 ⟨hok.graph, by rw [hml, hgl]⟩
    subst he
    have hn := hy.2.1 rfl
    dsimp only at hn
    refine go ?_
    refine q_call (ring_ok (g := q.nbs) (inn := mkd grid set cells) hs.nbs) (next := fun z hz => ?_)
    obtain ⟨r, e⟩ := z
    have he : e = 0 := hz.1.2 ⟨hok.graph, by rw [hml, hgl]⟩
    subst he
    have hr := hz.2.1 rfl
    dsimp only at hr
    subst hr
    refine go ?_
    refine q_fin () (hv := ?_) (hp := trivial)
    show Value.bool (joinB q.nbs (mkd grid set cells) false == decide ((n : Int) ≤ 1)) = Value.bool true
    rw [joinB, if_neg (by simp), ← hn, show decide ((n : Int) ≤ 1) = decide (n ≤ 1) from decide_eq_decide.2 (by omega), beq_self_eq_true]
  by_cases k9 : kd = 9
  · subst k9
    have hm : metB q ⟨9, cells, set, cother, clo, chi, runs, crule, cat⟩ grid = joinB q.nbs (mkd grid set cells) true := rfl
    rw [hm]
    dsimp only [consE]
    refine go ?_
    intro b9
    refine go ?_
    refine q_call (marked_ok (set := set) hg hcl hset) (next := fun bm _ => ?_)
    refine q_frz (frz_bools (b := bm) (f := 0) (c := grid.length) (xs := mkd grid set cells)) (h := ?_)
    rw [hml]
    refine go ?_
    refine q_call (comps_ok (g := q.nbs) (inn := mkd grid set cells) hs.nbs) (next := fun y hy => ?_)
    obtain ⟨a, n, e⟩ := y
    have he : e = 0 := hy.1.2 ⟨hok.graph, by rw [hml, hgl]⟩
    subst he
    have hn := hy.2.1 rfl
    dsimp only at hn
    refine go ?_
    refine q_call (ring_ok (g := q.nbs) (inn := mkd grid set cells) hs.nbs) (next := fun z hz => ?_)
    obtain ⟨r, e⟩ := z
    have he : e = 0 := hz.1.2 ⟨hok.graph, by rw [hml, hgl]⟩
    subst he
    have hr := hz.2.1 rfl
    dsimp only at hr
    subst hr
    refine go ?_
    by_cases hn0 : n = 0
    · rw [decide_eq_true (show (n : Int) = 0 by omega)]
      refine go ?_
      refine q_fin () (hv := ?_) (hp := trivial)
      show Value.bool (joinB q.nbs (mkd grid set cells) true == true) = Value.bool true
      rw [joinB, if_neg (by rw [← hn]; exact fun h => h.2 hn0), ← hn, decide_eq_true (show n ≤ 1 by omega)]; rfl
    · rw [decide_eq_false (show ¬ (n : Int) = 0 by omega)]
      refine go ?_
      refine q_fin () (hv := ?_) (hp := trivial)
      show Value.bool (joinB q.nbs (mkd grid set cells) true == ringB q.nbs (mkd grid set cells)) = Value.bool true
      rw [joinB, if_pos ⟨rfl, by rw [← hn]; exact hn0⟩, beq_self_eq_true]
  dsimp only [consE]
  refine go ?_
  intro b9
  refine go ?_
  rw [decide_eq_true (show kd ≠ 8 from k8)]
  refine go ?_
  rw [decide_eq_true (show kd ≠ 9 from k9)]
  refine go ?_
  exact q_fin () (hv := rfl) (hp := trivial)
end Go.Proofs.YtpkieeggilkagaaGreat

/-
  The nodes that are reached.
-/
import Derived.Test.YtpkieeggilkagaaGreatMean4
import Derived.Test.YtpkieeggilkagaaGreatPgA
set_option linter.unusedSimpArgs false
set_option linter.unusedVariables false
set_option maxHeartbeats 2000000
set_option maxRecDepth 10000
namespace Go.Proofs.YtpkieeggilkagaaGreat
open Go.Ideal Gph

noncomputable def c_reach : CFunc := ⟨8, [(.tmp 6)], (.seq (.ops [3, 4, 5, 6] [⟨⟨(some 3), none, (.box (.tmp 0) 31)⟩, []⟩, ⟨⟨(some 4), none, (.box (.tmp 1) 59)⟩, []⟩, ⟨⟨(some 5), none, (.box (.tmp 2) 3)⟩, []⟩, ⟨⟨(some 6), none, (.asg (.const .nilFunc))⟩, []⟩]) (.seq (.ops [7, 6] [⟨⟨(some 7), none, (.mkfunc (.func 158) [] [(.tmp 3), (.tmp 5), (.tmp 4)])⟩, []⟩, ⟨⟨(some 6), none, (.asg (.tmp 7))⟩, []⟩]) .ret))⟩
theorem f_reach : (envOf Tryz.prog noCut noMemo).F 112 = some c_reach := by kernel_rfl
noncomputable def c_reach1 : CFunc := ⟨58, [], (.seq (.ops [9, 10, 11, 5] [⟨⟨(some 9), none, (.load1 (.tmp 1))⟩, []⟩, ⟨⟨(some 10), none, (.lenSl (.tmp 9))⟩, []⟩, ⟨⟨(some 11), none, (.mkslice 4 1 1 [(.bool false)] (.tmp 10) (.tmp 10))⟩, []⟩, ⟨⟨(some 5), none, (.asg (.tmp 11))⟩, []⟩]) (.seq (.ops [12, 13, 14] [⟨⟨(some 12), none, (.mv (.tmp 5))⟩, []⟩, ⟨⟨(some 13), none, (.load1 (.tmp 2))⟩, []⟩, ⟨⟨(some 14), none, (.idxSl 1 (.tmp 12) (.tmp 13))⟩, []⟩, ⟨⟨none, none, (.store 1 (.tmp 14) (.const (.bool true)))⟩, []⟩]) (.seq (.ops [15, 16, 6] [⟨⟨(some 15), none, (.load1 (.tmp 2))⟩, []⟩, ⟨⟨(some 16), none, (.bslice 3 1 [(.int .i64 0)] [⟨0, ⟨1, (.tmp 15)⟩⟩])⟩, []⟩, ⟨⟨(some 6), none, (.asg (.tmp 16))⟩, []⟩]) (.block 0 (.loop (.seq (.seq (.ops [17, 18, 19] [⟨⟨(some 17), none, (.mv (.tmp 6))⟩, []⟩, ⟨⟨(some 18), none, (.lenSl (.tmp 17))⟩, []⟩, ⟨⟨(some 19), none, (.bin .gtr 3 (.tmp 18) (.const (.int .i64 0)))⟩, []⟩]) (.cond (.tmp 19) .skip (.exit 0))) (.seq (.block 1 (.seq (.seq (.ops [22, 23, 24, 25, 26, 27] [⟨⟨(some 22), none, (.mv (.tmp 0))⟩, []⟩, ⟨⟨(some 23), none, (.mv (.tmp 6))⟩, []⟩, ⟨⟨(some 24), none, (.idxSl 1 (.tmp 23) (.const (.int .i64 0)))⟩, []⟩, ⟨⟨(some 25), none, (.load1 (.tmp 24))⟩, []⟩, ⟨⟨(some 26), none, (.call (.tmp 22) [(.tmp 25)])⟩, []⟩, ⟨⟨(some 27), none, (.un .not (.tmp 26))⟩, []⟩]) (.cond (.tmp 27) .ret .skip)) (.seq (.ops [28, 29, 30, 31, 32, 33, 34, 35] [⟨⟨(some 28), none, (.load1 (.tmp 1))⟩, []⟩, ⟨⟨(some 29), none, (.mv (.tmp 6))⟩, []⟩, ⟨⟨(some 30), none, (.idxSl 1 (.tmp 29) (.const (.int .i64 0)))⟩, []⟩, ⟨⟨(some 31), none, (.load1 (.tmp 30))⟩, []⟩, ⟨⟨(some 32), none, (.idxSl 1 (.tmp 28) (.tmp 31))⟩, []⟩, ⟨⟨(some 33), none, (.load1 (.tmp 32))⟩, []⟩, ⟨⟨(some 34), none, (.lenSl (.tmp 33))⟩, []⟩, ⟨⟨(some 35), none, (.mv (.const (.int .i64 0)))⟩, []⟩]) (.block 2 (.loop (.seq (.ops [36] [⟨⟨(some 36), none, (.bin .lss 3 (.tmp 35) (.tmp 34))⟩, []⟩]) (.seq (.cond (.tmp 36) .skip (.exit 2)) (.seq (.block 3 (.seq (.ops [37, 38, 8] [⟨⟨(some 37), none, (.idxSl 1 (.tmp 33) (.tmp 35))⟩, []⟩, ⟨⟨(some 38), none, (.load1 (.tmp 37))⟩, []⟩, ⟨⟨(some 8), none, (.asg (.tmp 38))⟩, []⟩]) (.seq (.ops [39, 40, 41, 42, 43, 44, 45, 46, 47, 48, 49] [⟨⟨(some 39), none, (.load1 (.tmp 3))⟩, []⟩, ⟨⟨(some 40), none, (.mv (.tmp 8))⟩, []⟩, ⟨⟨(some 41), none, (.idxSl 1 (.tmp 39) (.tmp 40))⟩, []⟩, ⟨⟨(some 42), none, (.load1 (.tmp 41))⟩, []⟩, ⟨⟨(some 43), none, (.mv (.tmp 42))⟩, []⟩, ⟨⟨(some 44), (some ⟨43, true⟩), (.mv (.tmp 5))⟩, []⟩, ⟨⟨(some 45), (some ⟨43, true⟩), (.mv (.tmp 8))⟩, []⟩, ⟨⟨(some 46), (some ⟨43, true⟩), (.idxSl 1 (.tmp 44) (.tmp 45))⟩, []⟩, ⟨⟨(some 47), (some ⟨43, true⟩), (.load1 (.tmp 46))⟩, []⟩, ⟨⟨(some 48), (some ⟨43, true⟩), (.un .not (.tmp 47))⟩, []⟩, ⟨⟨(some 49), none, (.pick (.tmp 43) (.tmp 48) (.const (.bool false)))⟩, []⟩]) (.cond (.tmp 49) (.seq (.ops [50, 51, 52] [⟨⟨(some 50), none, (.mv (.tmp 5))⟩, []⟩, ⟨⟨(some 51), none, (.mv (.tmp 8))⟩, []⟩, ⟨⟨(some 52), none, (.idxSl 1 (.tmp 50) (.tmp 51))⟩, []⟩, ⟨⟨none, none, (.store 1 (.tmp 52) (.const (.bool true)))⟩, []⟩]) (.ops [53, 54, 55, 56, 6] [⟨⟨(some 53), none, (.mv (.tmp 6))⟩, []⟩, ⟨⟨(some 54), none, (.mv (.tmp 8))⟩, []⟩, ⟨⟨(some 55), none, (.bslice 3 1 [(.int .i64 0)] [⟨0, ⟨1, (.tmp 54)⟩⟩])⟩, []⟩, ⟨⟨(some 56), none, (.append 3 1 8 (.tmp 53) (.tmp 55))⟩, []⟩, ⟨⟨(some 6), none, (.asg (.tmp 56))⟩, []⟩])) .skip)))) (.ops [57, 35] [⟨⟨(some 57), none, (.bin .add 3 (.tmp 35) (.const (.int .i64 1)))⟩, []⟩, ⟨⟨(some 35), none, (.mv (.tmp 57))⟩, []⟩]))))))))) (.ops [20, 21, 6] [⟨⟨(some 20), none, (.mv (.tmp 6))⟩, []⟩, ⟨⟨(some 21), none, (.slSl 1 (.tmp 20) (some (.const (.int .i64 1))) none none)⟩, []⟩, ⟨⟨(some 6), none, (.asg (.tmp 21))⟩, []⟩]))))))))⟩
theorem f_reach1 : (envOf Tryz.prog noCut noMemo).F 158 = some c_reach1 := by kernel_rfl

theorem zeros_bool (m : Nat) : zeros [.bool false] m = (List.replicate m false).map Value.bool := by rw [zeros_one, List.map_replicate]

/-- a block of one number as a slice that grows -/
theorem st_one {B : List Nat} {w0 : Wd} {kl kl' : List OA} {F : List Fact} {Q : IH → Prop} {b : Nat} {z : Int} (hk : Sel (pt b (.cells [.int .i64 z])) kl kl') (h : R Q B w0 (ap intE (.slice (some ⟨b, 0, some 0⟩) 1 1) [z] :: kl') F) : R Q B w0 kl F := fun w s =>
  h w ((s.sel hk).turnA' fun S hp => .inr ⟨b, 0, 0, _, rfl, .inl rfl, hp.1, hp.2, rfl, fun k x hk => by
    match k, hk with
    | 0, hk => cases hk; exact ⟨(), fun j u hj => by simpa [intE] using hj, fun f hf => by cases hf⟩⟩)

theorem reach1_ok {b3 b4 b5 : Nat} {vg vin : Value} {g : List (List Int)} {inn : List Bool} {s0 : Int} (hG : GOK g) (hll : ∀ l ∈ g, l.length < 9223372036854775808) (hin : inn.length = g.length) (hs : 0 ≤ s0 ∧ s0 < g.length) :
    IterOK Tryz.prog (fun x : Int => .int .i64 x) (.func 158) [] [ptr' b3, ptr' b5, ptr' b4] [fRaw b3 0 [vg], fRaw b5 0 [.int .i64 s0], fRaw b4 0 [vin], fSl (slE intE) vg g, fSl boolE vin inn] (reachL g inn s0) := by
  intro S inv ok step t0 yfn y1 y2 F' h0 hok hy
  dsimp only [List.cons_append, List.nil_append]
  refine q_beg c_reach1 f_reach1 fun B w0 => ?_
  have hlen := hG.len
  obtain ⟨s0, rfl⟩ := Int.eq_ofNat_of_zero_le hs.1
  refine go ?_
  refine q_mks g.length ⟨by omega, by omega, by omega⟩ fun b11 => ?_
  rw [zeros_bool]
  refine go ?_
  refine q_set (o := 0 + s0 * 1) (cs := (List.replicate g.length false).map Value.bool) (v := .bool true) (cs' := (start0 g.length s0).map Value.bool) (by rw [start0, List.map_set]; simp) (by simp; omega) ?_
  refine go ?_
  intro bq
  refine st_one (b := bq) (z := (s0 : Int)) .here ?_
  refine q_loop (fun x => x.1) (fun x : Nat × List Bool × List Int × Value × S => [(6, x.2.2.2.1)]) (fun x => pt b11 (.cells (x.2.1.map Value.bool)) :: ap intE x.2.2.2.1 x.2.2.1 :: inv x.2.2.2.2) (fun _ => [])
    (fun x => x.1 ≤ g.length + 1 ∧ left x.2.1 + x.2.2.1.length ≤ x.1 ∧ x.2.1.length = g.length ∧ (∀ n ∈ x.2.2.1, 0 ≤ n ∧ n < g.length) ∧ ∃ j, ok j x.2.2.2.2 ∧ runI step x.2.2.2.2 (bfs g inn x.1 x.2.1 x.2.2.1) = runI step t0 (reachL g inn s0) ∧ bfs g inn x.1 x.2.1 x.2.2.1 = (reachL g inn s0).drop j)
    (g.length + 1, start0 g.length s0, [(s0 : Int)], .slice (some ⟨bq, 0, some 0⟩) 1 1, t0) ⟨Nat.le_refl _, ?_, ?_, ?_, 0, h0, rfl, rfl⟩ (body := ?_)
  · show left (start0 g.length s0) + 1 ≤ g.length + 1
    have : left (start0 g.length s0) ≤ (start0 g.length s0).length := List.length_filter_le _ _
    have h : (start0 g.length s0).length = g.length := by rw [start0, List.length_set, List.length_replicate]
    rw [h] at this
    omega
  · show (start0 g.length s0).length = g.length
    rw [start0, List.length_set, List.length_replicate]
  · intro n hn
    rw [List.mem_singleton.1 hn]; omega
  rintro ⟨f, met, queue, qv, s⟩ ⟨hfg, hf, hml, hq, j, hos, hrun, hdrop⟩
  dsimp only at hfg hf hml hq hos hrun hdrop ⊢
  refine go ?_
  refine if_d rfl (fun h1 => ?_) (fun h1 => ?_)
  · obtain ⟨q0, qs, rfl⟩ : ∃ q0 qs, queue = q0 :: qs := by
      cases queue with
      | nil => simp at h1
      | cons a b => exact ⟨a, b, rfl⟩
    obtain ⟨f, rfl⟩ : ∃ f', f = f' + 1 := ⟨f - 1, by simp at hf; omega⟩
    obtain ⟨q0, rfl⟩ := Int.eq_ofNat_of_zero_le (hq q0 (by simp)).1
    have hq0 := hq q0 (by simp)
    rw [bfs, Int.toNat_natCast] at hrun hdrop
    have hj := head_drop hdrop
    refine go ?_
    refine q_peek 0 (q0 : Int) rfl fun _ _ => ?_
    refine q_call (hy j s q0 hos hj.1) (next := fun _ _ => ?_)
    rw [runI] at hrun
    cases hst : step s q0 with
    | mk s' b =>
    rw [hst] at hrun
    cases b with
    | false =>
      dsimp only at hrun
      refine go ?_
      exact q_fin () (hv := rfl) (hp := trivial) (hk := by rw [← hrun]; exact SelL.self _ _)
    | true =>
    dsimp only at hrun
    have hos' : ok (j + 1) s' := by have := hok j s q0 hos hj.1 (by rw [hst]); rw [hst] at this; exact this
    refine go ?_
    refine q_peek 0 (q0 : Int) rfl fun _ _ => ?_
    refine q_idx (slE intE) (next := fun _ _ ns (vl : Value) hns => ?_)
    have hnl := hll ns (List.mem_of_getElem? hns)
    have hnr : ∀ n ∈ ns, 0 ≤ n ∧ n < (g.length : Int) := fun n hn => by
      obtain ⟨k, hk⟩ := List.getElem?_of_mem hn
      have := hG.ok q0 ns hns k n hk
      exact ⟨this.1, this.2.1⟩
    have hgd : g.getD q0 [] = ns := by rw [List.getD_eq_getElem?_getD, hns]; rfl
    rw [hgd] at hrun hdrop hj
    obtain ⟨i1, i2, i4, t, i5, i3⟩ := inner_spec (g := g) (inn := inn) ns met ((q0 : Int) :: qs) hml hnr
    refine go ?_
    refine q_loop (fun x => ns.length - x.1) (fun x : Nat × List Bool × List Int × Value => [(35, .int .i64 (x.1 : Int)), (6, x.2.2.2)]) (fun x => [pt b11 (.cells (x.2.1.map Value.bool)), ap intE x.2.2.2 x.2.2.1]) (fun _ => [])
      (fun x => x.1 ≤ ns.length ∧ x.2.1.length = g.length ∧ inner inn (ns.drop x.1) x.2.1 x.2.2.1 = inner inn ns met ((q0 : Int) :: qs) ∧ left x.2.1 + x.2.2.1.length = left met + ((q0 : Int) :: qs).length) (0, met, (q0 : Int) :: qs, qv) ⟨Nat.zero_le _, hml, rfl, rfl⟩ (body := ?_)
    rintro ⟨k, met', q', qv'⟩ ⟨hk, hml', hin', hl'⟩
    dsimp only at hk hml' hin' hl' ⊢
    refine go ?_
    refine if_d rfl (fun h2 => ?_) (fun h2 => ?_)
    · refine go ?_
      intro _ _ n hn
      have hn0 := hnr n (List.mem_of_getElem? hn)
      obtain ⟨n, rfl⟩ := Int.eq_ofNat_of_zero_le hn0.1
      have hdk : ns.drop k = (n : Int) :: ns.drop (k + 1) := by
        obtain ⟨hlt, he⟩ := List.getElem?_eq_some_iff.1 hn
        rw [List.drop_eq_getElem_cons hlt, he]
      rw [hdk, inner] at hin'
      refine go ?_
      intro _ _ c hc
      have hc' : inB inn n = c := by unfold inB; rw [Int.toNat_natCast, List.getD_eq_getElem?_getD, hc]; rfl
      rw [hc'] at hin'
      first | with_reducible refine g_d (fun h3 => ?_) (fun h3 => ?_) | with_reducible refine g_n (fun h3 => ?_) (fun h3 => ?_) | with_reducible refine g_b (fun h3 => ?_) (fun h3 => ?_)
      · subst h3
        rw [if_neg (by simp)] at hin'
        refine go ?_
        exact q_again (k + 1, met', q', qv') (by show ns.length - (k + 1) < ns.length - k; omega) ⟨by show k + 1 ≤ _; omega, hml', hin', hl'⟩
      subst h3
      have hnm : n < met'.length := by omega
      refine go ?_
      refine q_get (o := 0 + n * 1) (cs := met'.map Value.bool) (.bool met'[n]) (by rw [Nat.zero_add, Nat.mul_one, List.getElem?_map, List.getElem?_eq_getElem hnm]; rfl) ?_
      have hm' : inB met' n = met'[n] := by unfold inB; rw [Int.toNat_natCast, List.getD_eq_getElem?_getD, List.getElem?_eq_getElem hnm]; rfl
      rw [hm', Bool.true_and] at hin'
      cases hmv : met'[n] with
      | true =>
        rw [hmv, if_neg (by simp)] at hin'
        refine go ?_
        exact q_again (k + 1, met', q', qv') (by show ns.length - (k + 1) < ns.length - k; omega) ⟨by show k + 1 ≤ _; omega, hml', hin', hl'⟩
      | false =>
        rw [hmv, if_pos (by simp), Int.toNat_natCast] at hin'
        have hls := left_set (met := met') (n := n) (by rw [List.getElem?_eq_getElem hnm, hmv])
        refine go ?_
        refine q_set (o := 0 + n * 1) (cs := met'.map Value.bool) (v := .bool true) (cs' := (met'.set n true).map Value.bool) (by rw [List.map_set]; simp) (by simp; omega) ?_
        refine go ?_
        intro b10
        refine q_app (xs := q') intE (n : Int) () (by simp only [List.length_cons] at hl' hf; omega) (next := fun ad => ?_)
        refine go ?_
        refine q_again (k + 1, met'.set n true, q' ++ [(n : Int)], _) (by show ns.length - (k + 1) < ns.length - k; omega) ⟨by show k + 1 ≤ _; omega, by show (met'.set n true).length = _; rw [List.length_set]; exact hml', hin', ?_⟩
        show left (met'.set n true) + (q' ++ [(n : Int)]).length = _
        rw [List.length_append, List.length_singleton]; omega
    have hkn : k = ns.length := by omega
    subst hkn
    rw [List.drop_length, inner] at hin'
    rw [← hin'] at i1 i2 i4 i5 hrun hdrop hj
    dsimp only at i1 i2 i4 i5 hrun hdrop hj
    rw [List.cons_append] at i5
    subst i5
    rw [List.tail_cons] at hrun hj
    refine go ?_
    refine q_tail intE (q := (q0 : Int)) (qs := qs ++ t) (fun ad => ?_)
    refine go ?_
    refine q_again (f, met', qs ++ t, _, s') (Nat.lt_succ_self f) ⟨by show f ≤ _; omega, ?_, hml', ?_, j + 1, hos', hrun, hj.2⟩
    · show left met' + (qs ++ t).length ≤ f
      simp only [List.length_cons, List.length_append] at hl' hf ⊢
      omega
    · intro n hn
      rcases List.mem_append.1 hn with h | h
      · exact hq n (by simp [h])
      · exact hnr n ((i3 n).1 h).1
  have hnil : queue = [] := by
    cases queue with
    | nil => rfl
    | cons a b => simp at h1
  subst hnil
  have hb : bfs g inn f met [] = [] := by cases f <;> rfl
  rw [hb, runI] at hrun
  refine go ?_
  exact q_fin () (hv := rfl) (hp := trivial) (hk := by rw [← hrun]; exact .there _ (.there _ (SelL.all _)))
end Go.Proofs.YtpkieeggilkagaaGreat

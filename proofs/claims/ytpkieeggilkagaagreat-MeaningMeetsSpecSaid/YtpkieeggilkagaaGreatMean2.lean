/-
  Runs along cells, collected; differences; equal lists.
-/
import Derived.Test.YtpkieeggilkagaaGreatMean1
import Derived.Test.YtpkieeggilkagaaGreatIdealL
set_option linter.unusedSimpArgs false
set_option linter.unusedVariables false
set_option maxHeartbeats 1000000
namespace Go.Proofs.YtpkieeggilkagaaGreat
open Go.Ideal

noncomputable def c_slEq : CFunc := ⟨26, [(.tmp 4)], (.seq (.ops [4] [⟨⟨(some 4), none, (.asg (.const (.bool false)))⟩, []⟩]) (.seq (.seq (.ops [6, 7, 8, 9, 10] [⟨⟨(some 6), none, (.mv (.tmp 0))⟩, []⟩, ⟨⟨(some 7), none, (.lenSl (.tmp 6))⟩, []⟩, ⟨⟨(some 8), none, (.mv (.tmp 1))⟩, []⟩, ⟨⟨(some 9), none, (.lenSl (.tmp 8))⟩, []⟩, ⟨⟨(some 10), none, (.bin .neq 3 (.tmp 7) (.tmp 9))⟩, []⟩]) (.cond (.tmp 10) (.seq (.ops [4] [⟨⟨(some 4), none, (.asg (.const (.bool false)))⟩, []⟩]) .ret) .skip)) (.seq (.seq (.ops [11, 12, 13] [⟨⟨(some 11), none, (.mv (.tmp 0))⟩, []⟩, ⟨⟨(some 12), none, (.lenSl (.tmp 11))⟩, []⟩, ⟨⟨(some 13), none, (.mv (.const (.int .i64 0)))⟩, []⟩]) (.block 0 (.loop (.seq (.ops [14] [⟨⟨(some 14), none, (.bin .lss 3 (.tmp 13) (.tmp 12))⟩, []⟩]) (.seq (.cond (.tmp 14) .skip (.exit 0)) (.seq (.block 1 (.seq (.ops [15, 5] [⟨⟨(some 15), none, (.mv (.tmp 13))⟩, []⟩, ⟨⟨(some 5), none, (.asg (.tmp 15))⟩, []⟩]) (.seq (.ops [16, 17, 18, 19, 20, 21, 22, 23, 24] [⟨⟨(some 16), none, (.mv (.tmp 0))⟩, []⟩, ⟨⟨(some 17), none, (.mv (.tmp 5))⟩, []⟩, ⟨⟨(some 18), none, (.idxSl 1 (.tmp 16) (.tmp 17))⟩, []⟩, ⟨⟨(some 19), none, (.load1 (.tmp 18))⟩, []⟩, ⟨⟨(some 20), none, (.mv (.tmp 1))⟩, []⟩, ⟨⟨(some 21), none, (.mv (.tmp 5))⟩, []⟩, ⟨⟨(some 22), none, (.idxSl 1 (.tmp 20) (.tmp 21))⟩, []⟩, ⟨⟨(some 23), none, (.load1 (.tmp 22))⟩, []⟩, ⟨⟨(some 24), none, (.bin .neq 3 (.tmp 19) (.tmp 23))⟩, []⟩]) (.cond (.tmp 24) (.seq (.ops [4] [⟨⟨(some 4), none, (.asg (.const (.bool false)))⟩, []⟩]) .ret) .skip)))) (.ops [25, 13] [⟨⟨(some 25), none, (.bin .add 3 (.tmp 13) (.const (.int .i64 1)))⟩, []⟩, ⟨⟨(some 13), none, (.mv (.tmp 25))⟩, []⟩]))))))) (.seq (.ops [4] [⟨⟨(some 4), none, (.asg (.const (.bool true)))⟩, []⟩]) .ret))))⟩
theorem f_slEq : (envOf Tryz.prog noCut noMemo).F 73 = some c_slEq := by kernel_rfl

theorem mApart_ok {a b n : Int} (ha : 0 ≤ a ∧ a ≤ 1000) (hb : 0 ≤ b ∧ b ≤ 1000) : FnP Tryz.prog 81 [.int .i64 a, .int .i64 b, .int .i64 n] [] (.bool (decide (n ≤ max (a - b) (b - a)))) := by
  refine q_beg c_mApart f_mApart fun B w0 => ?_
  refine go ?_
  refine (d_p rfl rfl (p_max2 rfl rfl)).h ?_
  refine go ?_
  exact q_fin () (hv := rfl) (hp := trivial)

/-- the lengths of runs -/
def rn (grid : List Int) (set : Nat) : Nat → List Int → List Int
  | n, [] => if 0 < n then [(n : Int)] else []
  | n, c :: cs => if set.testBit (sy grid c) then rn grid set (n + 1) cs else if 0 < n then (n : Int) :: rn grid set 0 cs else rn grid set 0 cs

theorem head_drop {α : Type} {l m : List α} {x : α} {j : Nat} (h : x :: l = m.drop j) : m[j]? = some x ∧ l = m.drop (j + 1) := by
  have hlt : j < m.length := by
    apply Classical.byContradiction
    intro hn
    rw [List.drop_eq_nil_of_le (by omega)] at h
    cases h
  rw [List.drop_eq_getElem_cons hlt] at h
  injection h with h1 h2
  exact ⟨by rw [List.getElem?_eq_getElem hlt, h1], h2⟩

theorem mRuns1_ok {b3 b4 b5 : Nat} {vg vc : Value} {grid cells : List Int} {set : Nat} (hg : GridOK grid) (hc : CellsOK grid cells) (hs : set < 9223372036854775808) :
    IterOK Tryz.prog (fun x : Int => .int .i64 x) (.func 131) [] [ptr' b4, ptr' b5, ptr' b3] [fRaw b4 0 [vc], fRaw b5 0 [.int .i64 (set : Int)], fRaw b3 0 [vg], fSl intE vg grid, fSl intE vc cells] (rn grid set 0 cells) := by
  intro S inv ok step s0 yfn y1 y2 F' h0 hok hy
  dsimp only [List.cons_append, List.nil_append]
  refine q_beg c_mRuns1 f_mRuns1 fun B w0 => ?_
  have hcl := hc.len
  refine go ?_
  refine q_loop (fun x => cells.length - x.1) (fun x : Nat × Nat × S => [(10, .int .i64 (x.1 : Int)), (5, .int .i64 (x.2.1 : Int))]) (fun x => inv x.2.2) (fun _ => [])
    (fun x => x.1 ≤ cells.length ∧ x.2.1 ≤ x.1 ∧ ∃ j, ok j x.2.2 ∧ runI step x.2.2 (rn grid set x.2.1 (cells.drop x.1)) = runI step s0 (rn grid set 0 cells) ∧ rn grid set x.2.1 (cells.drop x.1) = (rn grid set 0 cells).drop j) (0, 0, s0) ⟨by simp, by simp, 0, h0, rfl, rfl⟩ (body := ?_)
  rintro ⟨k, n, s⟩ ⟨hk, hn, j, hos, hrun, hmem⟩
  dsimp only at hk hn hos hrun hmem ⊢
  refine go ?_
  refine if_d rfl (fun h1 => ?_) (fun h1 => ?_)
  · refine go ?_
    intro _ _ c hck
    have hcc := hc.cell c (List.mem_of_getElem? hck)
    obtain ⟨c, rfl⟩ := Int.eq_ofNat_of_zero_le hcc.1
    have hdrop : cells.drop k = (c : Int) :: cells.drop (k + 1) := by
      obtain ⟨hlt, he⟩ := List.getElem?_eq_some_iff.1 hck
      rw [List.drop_eq_getElem_cons hlt, he]
    rw [hdrop] at hrun hmem
    refine go ?_
    intro _ _ x hx
    have hxx := hg.sym x (List.mem_of_getElem? hx)
    obtain ⟨x, rfl⟩ := Int.eq_ofNat_of_zero_le hxx.1
    refine q_call (mIn_ok (set := set) (sym := x) hs (by omega)) (next := fun _ _ => ?_)
    refine go ?_
    rw [rn, sy_of hx] at hrun hmem
    refine if_b rfl (fun h2 => ?_) (fun h2 => ?_)
    · rw [if_pos h2] at hrun hmem
      refine go ?_
      exact q_again (k + 1, n + 1, s) (by show cells.length - (k + 1) < cells.length - k; omega) ⟨by show k + 1 ≤ _; omega, by show n + 1 ≤ k + 1; omega, j, hos, hrun, hmem⟩
    rw [if_neg (by rw [h2]; simp)] at hrun hmem
    refine go ?_
    first | with_reducible refine g_d (fun h3 => ?_) (fun h3 => ?_) | with_reducible refine g_n (fun h3 => ?_) (fun h3 => ?_) | with_reducible refine g_b (fun h3 => ?_) (fun h3 => ?_)
    · rw [if_neg (by omega)] at hrun hmem
      refine go ?_
      exact q_again (k + 1, 0, s) (by show cells.length - (k + 1) < cells.length - k; omega) ⟨by show k + 1 ≤ _; omega, by show 0 ≤ k + 1; omega, j, hos, hrun, hmem⟩
    rw [if_pos (by omega)] at hrun hmem
    refine go ?_
    have hj := head_drop hmem
    refine q_call (hy j s n hos hj.1) (next := fun _ _ => ?_)
    refine go ?_
    rw [runI] at hrun
    cases hst : step s n with
    | mk s' b =>
      rw [hst] at hrun
      cases b with
      | true =>
        refine go ?_
        exact q_again (k + 1, 0, s') (by show cells.length - (k + 1) < cells.length - k; omega) ⟨by show k + 1 ≤ _; omega, by show 0 ≤ k + 1; omega, j + 1, by have := hok j s n hos hj.1 (by rw [hst]); rw [hst] at this; exact this, hrun, hj.2⟩
      | false =>
        refine go ?_
        exact q_fin () (hv := rfl) (hp := trivial) (hk := by rw [← hrun]; exact SelL.all _)
  have hkl : k = cells.length := by omega
  subst hkl
  rw [List.drop_length] at hrun hmem
  refine go ?_
  refine if_d rfl (fun h3 => ?_) (fun h3 => ?_)
  · rw [rn, if_pos (by omega)] at hrun hmem
    refine go ?_
    have hj := head_drop hmem
    refine q_call (hy j s n hos hj.1) (next := fun _ _ => ?_)
    refine go ?_
    have : (step s n).1 = runI step s0 (rn grid set 0 cells) := by
      rw [← hrun, runI]
      cases hst : step s n with
      | mk s' b => cases b <;> rfl
    exact q_fin () (hv := rfl) (hp := trivial) (hk := by rw [← this]; exact SelL.all _)
  · rw [rn, if_neg (by omega)] at hrun
    refine go ?_
    exact q_fin () (hv := rfl) (hp := trivial) (hk := by rw [← hrun]; exact SelL.all _)

theorem mRuns_ok {vg vc : Value} {grid cells : List Int} {set : Nat} : FnC Tryz.prog (.func 75) [vg, vc, .int .i64 (set : Int)] [] [] [fSl intE vg grid, fSl intE vc cells]
    (fun y : Nat × Nat × Nat => .func (.func 131) #[] #[ptr' y.2.1, ptr' y.2.2, ptr' y.1]) (fun _ => []) (fun y => [fRaw y.2.1 0 [vc], fRaw y.2.2 0 [.int .i64 (set : Int)], fRaw y.1 0 [vg], fSl intE vg grid, fSl intE vc cells]) (fun _ => True) := by
  refine q_beg c_mRuns f_mRuns fun B w0 => ?_
  refine q_form (E := intE) (v := vg) (xs := grid) (by simp) fun a1 c1 e1 => ?_
  refine q_form (E := intE) (v := vc) (xs := cells) (by simp) fun a2 c2 e2 => ?_
  subst e1 e2
  refine go ?_
  intro b3 b4 b5
  refine q_frz (frz_pt (b := b3)) (h := ?_)
  refine q_frz (frz_pt (b := b4)) (h := ?_)
  refine q_frz (frz_pt (b := b5)) (h := ?_)
  exact q_fin (b3, b4, b5) (hv := rfl) (hp := trivial)

/-- a box that holds a slice that grows -/
abbrev bxap {α : Type} (E : Enc α) (b : Nat) (ys : List α) : OA := exA fun v : Value => [pt b (.cells [v]), ap E v ys]

theorem appSeq_ok {fn : Fn} {first captured : List Value} {F1 : List Fact} {xs : List Int} (hit : IterOK Tryz.prog (fun x : Int => .int .i64 x) fn first captured F1 xs) (hl : xs.length ≤ 1000000) :
    FnC Tryz.prog (.func 130) [.slice none 0 0, .func fn ⟨first⟩ ⟨captured⟩] [] [] F1 (fun v : Value => v) (fun _ => []) (fun v => [fSl intE v xs]) (fun _ => True) := by
  refine q_begD c_appSeq f_appSeq fun B w0 => ?_
  refine go ?_
  intro b2
  refine st_ap0 intE ?_
  refine q_close (fun v : Value => [pt b2 (.cells [v]), ap intE v ([] : List Int)]) (.slice none 0 0) (h := ?_)
  refine q_rng (val := fun x : Int => .int .i64 x) (fun (ys : List Int) (x : Int) => (ys ++ [x], Out.normal)) (fun ys => [bxap intE b2 ys]) (fun k ys => ys = xs.take k) [] rfl (fun k s x hs hx _ => by rw [hs, take_one hx]) hit
    (hb := ?_) (next := ?_) (hpan := fun s x => trivial)
  · intro k s x lo L B w0 hs hx
    subst hs
    have hlen : (xs.take k).length ≤ 1000000 := by rw [List.length_take]; omega
    refine q_open (h := fun v => ?_)
    refine go ?_
    intro b10
    refine q_app (xs := xs.take k) intE x () (by omega) (next := fun ad => ?_)
    refine go ?_
    refine q_close (fun v : Value => [pt b2 (.cells [v]), ap intE v (xs.take k ++ [x])]) _ (h := ?_)
    exact q_rend () rfl trivial trivial
  · intro r
    have hrun : ∀ (ys zs : List Int), runO (fun (ys : List Int) (x : Int) => (ys ++ [x], Out.normal)) ys zs = (ys ++ zs, .normal) := by
      intro ys zs
      induction zs generalizing ys with
      | nil => simp [runO]
      | cons z zs ih => rw [runO]; simp only [ih]; simp
    rw [hrun, List.nil_append]
    dsimp only [List.cons_append, List.nil_append]
    refine q_open (h := fun v => ?_)
    refine go ?_
    refine q_frz (frz_ap (E := intE) (v := v) (xs := xs)) (h := ?_)
    exact q_finD v (hv := rfl) (hp := trivial)

theorem collect_ok {fn : Fn} {first captured : List Value} {F1 : List Fact} {xs : List Int} (hit : IterOK Tryz.prog (fun x : Int => .int .i64 x) fn first captured F1 xs) (hl : xs.length ≤ 1000000) :
    FnC Tryz.prog (.func 74) [.func fn ⟨first⟩ ⟨captured⟩] [] [] F1 (fun v : Value => v) (fun _ => []) (fun v => [fSl intE v xs]) (fun _ => True) := by
  refine q_beg c_collect f_collect fun B w0 => ?_
  refine go ?_
  refine q_call (appSeq_ok hit hl) (next := fun v _ => ?_)
  refine go ?_
  exact q_fin v (hv := rfl) (hp := trivial)

theorem slEq_ok {va vb : Value} {xs ys : List Int} (hal : xs.length < 9223372036854775808) : FnP Tryz.prog 73 [va, vb] [fSl intE va xs, fSl intE vb ys] (.bool (decide (xs = ys))) := by
  refine q_beg c_slEq f_slEq fun B w0 => ?_
  refine go ?_
  refine if_d rfl (fun h1 => ?_) (fun h1 => ?_)
  · refine go ?_
    refine q_fin () (hv := ?_) (hp := trivial)
    rw [decide_eq_false (fun e => h1 (by rw [e]))]; rfl
  have hlen : xs.length = ys.length := by omega
  refine go ?_
  refine q_loop (fun k => xs.length - k) (fun k : Nat => [(13, .int .i64 (k : Int))]) (fun _ => []) (fun _ => []) (fun k => k ≤ xs.length ∧ ∀ j, j < k → xs[j]? = ys[j]?) 0 ⟨by omega, fun j hj => by omega⟩ (body := ?_)
  rintro k ⟨hkx, hsame⟩
  refine go ?_
  refine if_d rfl (fun h2 => ?_) (fun h2 => ?_)
  · refine go ?_
    intro _ _ x hx _ _ y hy
    refine if_d rfl (fun h3 => ?_) (fun h3 => ?_)
    · refine go ?_
      refine q_fin () (hv := ?_) (hp := trivial)
      rw [decide_eq_false (fun e => h3 (by rw [e, hy] at hx; cases hx; rfl))]; rfl
    refine go ?_
    refine q_again (k + 1) (by omega) ⟨by omega, fun j hj => ?_⟩
    by_cases e : j = k
    · subst e; rw [hx, hy, Decidable.not_not.1 h3]
    · exact hsame j (by omega)
  refine go ?_
  refine q_fin () (hv := ?_) (hp := trivial)
  have : xs = ys := by
    apply List.ext_getElem?
    intro j
    by_cases hj : j < k
    · exact hsame j hj
    · rw [List.getElem?_eq_none (by omega), List.getElem?_eq_none (by omega)]
  rw [decide_eq_true this]; rfl
end Go.Proofs.YtpkieeggilkagaaGreat

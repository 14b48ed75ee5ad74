/-
  Prizes: the library's functions, the program's Prizes.
-/
import Derived.Test.YtbdaaopebgcnaaaGreatDoorIdealL
import Derived.Test.YtbdaaopebgcnaaaGreatDoorIdealM
import Derived.Test.YtbdaaopebgcnaaaGreatDoorIdealO
import Derived.Test.YtbdaaopebgcnaaaGreatDoorPlainA
import Derived.Test.YtbdaaopebgcnaaaGreatDoorProg
import Derived.KernelRfl
set_option linter.unusedSimpArgs false
set_option linter.unusedVariables false
set_option maxRecDepth 10000
set_option maxHeartbeats 2000000
namespace Go.Proofs.YtbdaaopebgcnaaaGreatDoor
open Go.Ideal En
theorem take_oneE {α : Type} {xs : List α} {k : Nat} {x : α} (h : xs[k]? = some x) : xs.take (k + 1) = xs.take k ++ [x] := by
 rw [List.take_add_one, h]; rfl
abbrev FnB (P : Program) (fn : Fn) (first cap : List Value) (v : Value) (F : List Fact) (b : Bool) : Prop := FnC P fn (first ++ [v]) cap [] F (fun _ : Unit => .bool b) (fun _ => []) (fun _ => []) (fun _ => True)
theorem idxFI_ok {fn : Fn} {first cap : List Value} {F1 : List Fact} {p : Int → Bool} {va : Value} {xs : List Int} (hl : xs.length < 9223372036854775808) (hp : ∀ x ∈ xs, FnB Tryz.prog fn first cap (.int .i64 x) F1 (p x)) :
 FnC Tryz.prog (.func 58) [va, .func fn ⟨first⟩ ⟨cap⟩] [] [] (fSl intE va xs :: F1) (fun r : Int => .int .i64 r) (fun _ => []) (fun _ => []) (fun r => (0 ≤ r ↔ xs.any p = true)) := by
 refine q_beg _ (isC 58) fun B w0 => ?_
 refine go ?_
 refine q_loop (fun k => xs.length - k) (fun k : Nat => [(8, .int .i64 (k : Int))]) (fun _ => []) (fun _ => []) (fun k => k ≤ xs.length ∧ (xs.take k).any p = false) 0 ⟨by omega, by simp⟩ (body := ?_)
 rintro k ⟨hk, hno⟩
 refine go ?_
 refine if_d rfl (fun h1 => ?_) (fun h1 => ?_)
 · refine go ?_
   intro _ _ x hx
   refine q_call (hp x (List.mem_of_getElem? hx)) (next := fun _ _ => ?_)
   refine go ?_
   refine if_b rfl (fun h2 => ?_) (fun h2 => ?_)
   · refine go ?_
     refine q_fin (k : Int) (hv := rfl) (hp := ?_)
     have : xs.any p = true := List.any_eq_true.2 ⟨x, List.mem_of_getElem? hx, h2⟩
     simp [this]
   · refine go ?_
     refine q_again (k + 1) (by omega) ⟨by omega, ?_⟩
     rw [take_oneE hx, List.any_append, hno]
     simp [h2]
 refine go ?_
 have : k = xs.length := by omega
 subst this
 rw [List.take_length] at hno
 refine q_fin (-1) (hv := rfl) (hp := ?_)
 rw [hno]; simp
theorem conFI_ok {fn : Fn} {first cap : List Value} {F1 : List Fact} {p : Int → Bool} {va : Value} {xs : List Int} (hl : xs.length < 9223372036854775808) (hp : ∀ x ∈ xs, FnB Tryz.prog fn first cap (.int .i64 x) F1 (p x)) :
 FnC Tryz.prog (.func 26) [va, .func fn ⟨first⟩ ⟨cap⟩] [] [] (fSl intE va xs :: F1) (fun _ : Unit => .bool (xs.any p)) (fun _ => []) (fun _ => []) (fun _ => True) := by
 refine q_beg _ (isC 26) fun B w0 => ?_
 refine go ?_
 refine q_call (idxFI_ok hl hp) (next := fun r hr => ?_)
 refine go ?_
 refine q_fin () (hv := ?_) (hp := trivial)
 have : decide (0 ≤ r) = xs.any p := by
  by_cases h : 0 ≤ r
  · rw [decide_eq_true h, hr.1 h]
  · rw [decide_eq_false h]
    cases e : xs.any p with
    | false => rfl
    | true => exact absurd (hr.2 e) h
 rw [← this]; rfl
theorem count_ok {fn : Fn} {first cap : List Value} {F1 : List Fact} {p : Int → Bool} {va : Value} {xs : List Int} (hl : xs.length < 9223372036854775808) (hp : ∀ x ∈ xs, FnB Tryz.prog fn first cap (.int .i64 x) F1 (p x)) :
 FnC Tryz.prog (.func 28) [va, .func fn ⟨first⟩ ⟨cap⟩] [] [] (fSl intE va xs :: F1) (fun _ : Unit => .int .i64 (xs.countP p : Int)) (fun _ => []) (fun _ => []) (fun _ => True) := by
 refine q_beg _ (isC 28) fun B w0 => ?_
 refine go ?_
 refine q_loop (fun k => xs.length - k) (fun k : Nat => [(9, .int .i64 (k : Int)), (4, .int .i64 ((xs.take k).countP p : Int))]) (fun _ => []) (fun _ => []) (fun k => k ≤ xs.length) 0 (Nat.zero_le _) (body := ?_)
 intro k hk
 have hcl : (xs.take k).countP p ≤ (xs.take k).length := List.countP_le_length
 rw [List.length_take] at hcl
 refine go ?_
 refine if_d rfl (fun h1 => ?_) (fun h1 => ?_)
 · refine go ?_
   intro _ _ x hx
   have hs : (xs.take (k + 1)).countP p = (xs.take k).countP p + if p x = true then 1 else 0 := by rw [take_oneE hx, List.countP_append, List.countP_singleton]
   refine go ?_
   refine q_call (hp x (List.mem_of_getElem? hx)) (next := fun _ _ => ?_)
   cases hpx : p x with
   | true =>
     rw [hpx, if_pos rfl] at hs
     refine go ?_
     rw [show (((xs.take k).countP p : Nat) : Int) + 1 = (((xs.take (k + 1)).countP p : Nat) : Int) by rw [hs]; omega]
     exact q_again (k + 1) (by omega) (by omega)
   | false =>
     have hs : (xs.take k).countP p = (xs.take (k + 1)).countP p := by rw [hs, hpx]; simp
     rw [hs]
     refine go ?_
     exact q_again (k + 1) (by omega) (by omega)
 have hkl : k = xs.length := by omega
 subst hkl
 rw [List.take_length]
 refine go ?_
 exact q_fin () (hv := rfl) (hp := trivial)
theorem pz1_ok {x : Int} : FnB Tryz.prog (.func 27) [] [] (.int .i64 x) [] (decide (x < 0 ∨ 1048576 < x)) := by
 refine q_beg _ (isC 27) fun B w0 => ?_
 refine go ?_
 first | with_reducible refine g_d (fun h1 => ?_) (fun h1 => ?_) | with_reducible refine g_n (fun h1 => ?_) (fun h1 => ?_) | with_reducible refine g_b (fun h1 => ?_) (fun h1 => ?_)
 · refine go ?_
   refine q_fin () (hv := ?_) (hp := trivial)
   rw [show decide (x < 0 ∨ 1048576 < x) = decide (1048576 < x) from decide_eq_decide.2 ⟨fun h => h.elim (fun h => absurd h h1) id, .inr⟩]; rfl
 refine go ?_
 refine q_fin () (hv := ?_) (hp := trivial)
 rw [decide_eq_true (.inl h1)]; rfl
theorem pz2_ok {b : Nat} {r x : Int} : FnB Tryz.prog (.func 29) [] [ptr' b] (.int .i64 x) [fRaw b 0 [.int .i64 r]] (decide (x < r)) := by
 refine q_beg _ (isC 29) fun B w0 => ?_
 refine go ?_
 exact q_fin () (hv := rfl) (hp := trivial)
theorem pz3_ok {b : Nat} {r x : Int} : FnB Tryz.prog (.func 30) [] [ptr' b] (.int .i64 x) [fRaw b 0 [.int .i64 r]] (decide (x = r)) := by
 refine q_beg _ (isC 30) fun B w0 => ?_
 refine go ?_
 exact q_fin () (hv := rfl) (hp := trivial)
structure PrzOK (p l : List Int) : Prop where
 p8 : p.length ≤ 8
 l8 : l.length ≤ 8
 prz : Prz p
 rnk : Ranks l
abbrev pzV (y : List Int × Value × Int) : Value := .tuple ⟨[y.2.1, .int .i64 y.2.2]⟩
abbrev pzF (y : List Int × Value × Int) : List Fact := [fSl intE y.2.1 y.1]
def PzP (p l : List Int) (y : List Int × Value × Int) : Prop := (PrzOK p l → y.1 = l.map (prz p l) ∧ y.2.2 = 0) ∧ (¬ PrzOK p l → y.1 = [] ∧ y.2.2 = 550 ∧ y.2.1 = .slice none 0 0)
theorem nilS (w : Wd) : (fSl intE (.slice none 0 0) ([] : List Int)).p w := .inl ⟨rfl, none, 0, rfl, trivial⟩
theorem blk_succ {p : List Int} {a n : Nat} {x : Int} (h : p[a + n]? = some x) : blk p a (n + 1) = blk p a n ++ [x] := by
 unfold blk
 rw [List.take_add_one, List.getElem?_drop, h]; rfl
theorem blk_end {p : List Int} {a n m : Nat} (h : p.length ≤ a + n) (hm : n ≤ m) : blk p a n = blk p a m := by
 unfold blk
 rw [List.take_of_length_le (by rw [List.length_drop]; omega), List.take_of_length_le (by rw [List.length_drop]; omega)]
theorem blk_rng {p : List Int} (hp : Prz p) (h8 : p.length ≤ 8) (a n : Nat) : 0 ≤ sumL (blk p a n) ∧ sumL (blk p a n) ≤ 8388608 := by
 have h1 : ∀ x ∈ blk p a n, 0 ≤ x ∧ x ≤ 1048576 := fun x hx => by
  obtain ⟨i, _, _, hi⟩ := blk_mem hx
  exact hp x (List.mem_of_getElem? hi)
 refine ⟨sumL_nonneg fun x hx => (h1 x hx).1, ?_⟩
 have h2 := sumL_le (fun x hx => (h1 x hx).2)
 rw [blk_len] at h2
 omega
theorem prizes_ok {vp vl : Value} {p l : List Int} (hpl : p.length < 9223372036854775808) (hll : l.length < 9223372036854775808) :
 FnC Tryz.prog (.func 9) [vp, vl] [] [] [fSl intE vp p, fSl intE vl l] pzV (fun _ => []) pzF (PzP p l) := by
 refine q_beg _ (isC 9) fun B w0 => ?_
 refine go ?_
 first | with_reducible refine g_d (fun h1 => ?_) (fun h1 => ?_) | with_reducible refine g_n (fun h1 => ?_) (fun h1 => ?_) | with_reducible refine g_b (fun h1 => ?_) (fun h1 => ?_)
 rotate_left
 · have hno : ¬ PrzOK p l := fun h => by have := h.p8; omega
   refine go ?_
   refine q_fact (fSl intE (.slice none 0 0) ([] : List Int)) (fun w _ => nilS w) ?_
   exact q_fin ([], .slice none 0 0, 550) (hv := rfl) (hp := ⟨fun h => absurd h hno, fun _ => ⟨rfl, rfl, rfl⟩⟩)
 refine go ?_
 refine if_d rfl (fun h2 => ?_) (fun h2 => ?_)
 · have hno : ¬ PrzOK p l := fun h => by have := h.l8; omega
   refine go ?_
   refine q_fact (fSl intE (.slice none 0 0) ([] : List Int)) (fun w _ => nilS w) ?_
   exact q_fin ([], .slice none 0 0, 550) (hv := rfl) (hp := ⟨fun h => absurd h hno, fun _ => ⟨rfl, rfl, rfl⟩⟩)
 refine go ?_
 refine q_call (conFI_ok (xs := p) (p := fun x => decide (x < 0 ∨ 1048576 < x)) hpl (fun x _ => pz1_ok)) (next := fun _ _ => ?_)
 refine go ?_
 refine if_b rfl (fun h3 => ?_) (fun h3 => ?_)
 · obtain ⟨x, hx, hd⟩ := List.any_eq_true.1 h3
   have hno : ¬ PrzOK p l := fun h => by have := h.prz x hx; have := of_decide_eq_true hd; omega
   refine go ?_
   refine q_fact (fSl intE (.slice none 0 0) ([] : List Int)) (fun w _ => nilS w) ?_
   exact q_fin ([], .slice none 0 0, 550) (hv := rfl) (hp := ⟨fun h => absurd h hno, fun _ => ⟨rfl, rfl, rfl⟩⟩)
 have hprz : Prz p := fun x hx => by
  have := List.any_eq_false.1 h3 x hx
  simp at this
  omega
 refine go ?_
 refine st_ap0 intE ?_
 refine q_loop (fun y : Nat × Value => l.length - y.1) (fun y => [(23, .int .i64 (y.1 : Int)), (4, y.2)]) (fun y => [ap intE y.2 ((l.take y.1).map (prz p l))]) (fun _ => []) (fun y => y.1 ≤ l.length ∧ ∀ r ∈ l.take y.1, (ltL l r : Int) + 1 = r) (0, .slice none 0 0) ⟨Nat.zero_le _, by simp⟩ (hk := by repeat (first | exact SelL.nil | (apply SelL.cons; (focus (repeat (first | exact Sel.here | apply Sel.there)))))) (body := ?_)
 rintro ⟨j, v4⟩ ⟨hj, hrk⟩
 dsimp only at hj hrk ⊢
 have hjl : ((l.take j).map (prz p l)).length = j := by rw [List.length_map, List.length_take]; omega
 refine go ?_
 refine if_d rfl (fun h4 => ?_) (fun h4 => ?_)
 · refine go ?_
   intro _ _ r hr b7
   have hrm := List.mem_of_getElem? hr
   have hlt := lt_len l r
   have heq := eq_len l r
   have hep := eq_pos hrm
   refine go ?_
   refine q_frz (frz_pt (b := b7)) (h := ?_)
   refine q_call (count_ok (xs := l) (p := fun x => decide (x < r)) hll (fun x _ => pz2_ok (b := b7) (r := r))) (next := fun _ _ => ?_)
   rw [show (l.countP fun x => decide (x < r)) = ltL l r from rfl]
   refine go ?_
   refine if_d rfl (fun h5 => ?_) (fun h5 => ?_)
   · have hno : ¬ PrzOK p l := fun h => h5 (h.rnk r hrm)
     refine go ?_
     refine q_fact (fSl intE (.slice none 0 0) ([] : List Int)) (fun w _ => nilS w) ?_
     exact q_fin ([], .slice none 0 0, 550) (hv := rfl) (hp := ⟨fun h => absurd h hno, fun _ => ⟨rfl, rfl, rfl⟩⟩)
   have hre : (ltL l r : Int) + 1 = r := Decidable.not_not.1 h5
   have hr1 : r - 1 = ((ltL l r : Nat) : Int) := by omega
   have hrt : (r - 1).toNat = ltL l r := by omega
   refine go ?_
   refine q_call (count_ok (xs := l) (p := fun x => decide (x = r)) hll (fun x _ => pz3_ok (b := b7) (r := r))) (next := fun _ _ => ?_)
   rw [show (l.countP fun x => decide (x = r)) = eqL l r from rfl]
   refine go ?_
   rw [hr1]
   refine q_loop (fun y : Nat × Int => eqL l r - y.1) (fun y => [(10, .int .i64 ((ltL l r + y.1 : Nat) : Int)), (9, .int .i64 y.2)]) (fun _ => []) (fun _ => []) (fun y => y.1 ≤ eqL l r ∧ (y.1 = 0 ∨ ltL l r + y.1 ≤ p.length) ∧ y.2 = sumL (blk p (ltL l r) y.1)) (0, 0) ⟨Nat.zero_le _, .inl rfl, rfl⟩ (body := ?_)
   rintro ⟨n, s⟩ ⟨hn, hnp, hs⟩
   dsimp only at hn hnp hs ⊢
   have hsr := blk_rng hprz (by omega) (ltL l r) n
   rw [← hs] at hsr
   refine go ?_
   refine (d_p rfl rfl (p_min2 rfl rfl)).h ?_
   refine go ?_
   refine if_d rfl (fun h6 => ?_) (fun h6 => ?_)
   · have hpx : p[ltL l r + n]? = some (p[ltL l r + n]'(by omega)) := List.getElem?_eq_getElem _
     generalize p[ltL l r + n]'(by omega) = x at hpx
     have hxr := hprz x (List.mem_of_getElem? hpx)
     have hbs : sumL (blk p (ltL l r) (n + 1)) = s + x := by rw [blk_succ hpx, sumL_append, sumL_cons, sumL_nil, hs]; omega
     refine go ?_
     intro _ _ x' hx'
     cases hpx.symm.trans hx'
     refine go ?_
     exact q_again (n + 1, s + x) (by show eqL l r - (n + 1) < eqL l r - n; omega) ⟨by show n + 1 ≤ _; omega, .inr (by show ltL l r + (n + 1) ≤ _; omega), hbs.symm⟩
   have hbe : s = sumL (blk p (ltL l r) (eqL l r)) := by
    rw [hs]
    by_cases hne : n = eqL l r
    · rw [hne]
    · rw [blk_end (by omega) hn]
   have hq0 : 0 ≤ s.tdiv (eqL l r : Int) ∧ s.tdiv (eqL l r : Int) ≤ 8388608 := by
    rw [Int.tdiv_eq_ediv_of_nonneg hsr.1]
    have h7 := Int.ediv_nonneg hsr.1 (show (0 : Int) ≤ (eqL l r : Int) by omega)
    have h8 := Int.ediv_le_self (eqL l r : Int) hsr.1
    omega
   have hpz : prz p l r = s.tdiv (eqL l r : Int) := by unfold prz; rw [hrt, hbe]
   have hts : (l.take (j + 1)).map (prz p l) = (l.take j).map (prz p l) ++ [s.tdiv (eqL l r : Int)] := by rw [take_oneE hr, List.map_append, List.map_singleton, hpz]
   refine go ?_
   refine (d_p rfl rfl (p_quo (a := s) (b := (eqL l r : Int)) rfl rfl (by omega) (by omega) (by omega))).h ?_
   refine go ?_
   intro b59
   refine go ?_
   refine q_app (xs := (l.take j).map (prz p l)) intE (s.tdiv (eqL l r : Int)) () (by omega) (next := fun ad => ?_)
   rw [← hts]
   refine go ?_
   refine q_again (j + 1, .slice ad (((l.take j).map (prz p l)).length + 1) (((l.take j).map (prz p l)).length + 1)) (by show l.length - (j + 1) < l.length - j; omega) ⟨by show j + 1 ≤ _; omega, fun x hx => ?_⟩
   rw [take_oneE hr] at hx
   rcases List.mem_append.1 hx with hx | hx
   · exact hrk x hx
   · rw [List.mem_singleton.1 hx]; exact hre
 have hje : j = l.length := by omega
 subst hje
 rw [List.take_length] at hrk ⊢
 have hyes : PrzOK p l := ⟨by omega, by omega, hprz, hrk⟩
 refine q_frz (frz_ap (E := intE) (v := v4) (xs := l.map (prz p l))) (h := ?_)
 refine go ?_
 exact q_fin (l.map (prz p l), v4, 0) (hv := rfl) (hp := ⟨fun _ => ⟨rfl, rfl⟩, fun h => absurd hyes h⟩)
end Go.Proofs.YtbdaaopebgcnaaaGreatDoor

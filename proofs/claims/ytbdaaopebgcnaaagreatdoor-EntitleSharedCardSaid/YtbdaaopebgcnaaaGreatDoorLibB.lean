/-
  Prizes: the reference's Prizes, its ranks and sums.
-/
import Derived.Test.YtbdaaopebgcnaaaGreatDoorLibA
import Derived.Test.YtbdaaopebgcnaaaGreatDoorIdealI
set_option linter.unusedSimpArgs false
set_option linter.unusedVariables false
set_option maxRecDepth 10000
set_option maxHeartbeats 2000000
namespace Go.Proofs.YtbdaaopebgcnaaaGreatDoor
open Go.Ideal En
theorem rValid_ok {vp : Value} {p : List Int} (hpl : p.length < 9223372036854775808) : FnC Tryz.prog (.func 31) [vp] [] [] [fSl intE vp p] (fun b : Bool => .bool b) (fun _ => []) (fun _ => []) (fun b => (b = true ↔ Prz p ∧ p.length ≤ 8)) := by
 refine q_beg _ (isC 31) fun B w0 => ?_
 refine go ?_
 refine q_loop (fun k => p.length - k) (fun k : Nat => [(3, .int .i64 (k : Int))]) (fun _ => []) (fun _ => []) (fun k => k ≤ p.length ∧ ∀ x ∈ p.take k, 0 ≤ x ∧ x ≤ 1048576) 0 ⟨Nat.zero_le _, by simp⟩ (body := ?_)
 rintro k ⟨hk, hall⟩
 refine go ?_
 refine if_d rfl (fun h2 => ?_) (fun h2 => ?_)
 · refine go ?_
   intro _ _ x hx
   have hxm := List.mem_of_getElem? hx
   refine go ?_
   first | with_reducible refine g_d (fun h3 => ?_) (fun h3 => ?_) | with_reducible refine g_n (fun h3 => ?_) (fun h3 => ?_) | with_reducible refine g_b (fun h3 => ?_) (fun h3 => ?_)
   rotate_left
   · refine go ?_
     exact q_fin false (hv := rfl) (hp := ⟨(fun h => by cases h), fun h => by have := h.1 x hxm; omega⟩)
   refine go ?_
   intro _ _ x' hx'
   cases hx.symm.trans hx'
   refine go ?_
   refine if_d rfl (fun h4 => ?_) (fun h4 => ?_)
   · refine go ?_
     exact q_fin false (hv := rfl) (hp := ⟨(fun h => by cases h), fun h => by have := h.1 x hxm; omega⟩)
   refine go ?_
   refine q_again (k + 1) (by omega) ⟨by omega, fun s hs => ?_⟩
   rw [take_oneE hx, List.mem_append] at hs
   rcases hs with hs | hs
   · exact hall s hs
   · rw [List.mem_singleton.1 hs]; omega
 have hkl : k = p.length := by omega
 subst hkl
 rw [List.take_length] at hall
 refine go ?_
 refine q_fin (decide ((p.length : Int) ≤ 8)) (hv := rfl) (hp := ?_)
 rw [decide_eq_true_iff]
 exact ⟨fun h => ⟨hall, by omega⟩, fun h => by omega⟩
theorem rRanks_ok {vl : Value} {l : List Int} (hll : l.length ≤ 100) : FnC Tryz.prog (.func 32) [vl] [] [] [fSl intE vl l] (fun b : Bool => .bool b) (fun _ => []) (fun _ => []) (fun b => (b = true ↔ Ranks l ∧ l.length ≤ 8)) := by
 refine q_beg _ (isC 32) fun B w0 => ?_
 refine go ?_
 refine q_loop (fun k => l.length - k) (fun k : Nat => [(3, .int .i64 (k : Int))]) (fun _ => []) (fun _ => []) (fun k => k ≤ l.length ∧ ∀ r ∈ l.take k, (ltL l r : Int) + 1 = r) 0 ⟨Nat.zero_le _, by simp⟩ (body := ?_)
 rintro k ⟨hk, hall⟩
 refine go ?_
 refine if_d rfl (fun h2 => ?_) (fun h2 => ?_)
 · have hr : l[k]? = some (l[k]'(by omega)) := List.getElem?_eq_getElem _
   generalize l[k]'(by omega) = r at hr
   have hrm := List.mem_of_getElem? hr
   refine go ?_
   refine q_loop (fun j => l.length - j) (fun j : Nat => [(5, .int .i64 (j : Int)), (4, .int .i64 (1 + ((l.take j).countP fun x => decide (x < r)) : Int))]) (fun _ => []) (fun _ => []) (fun j => j ≤ l.length) 0 (Nat.zero_le _) (body := ?_)
   intro j hj
   have hcl : ((l.take j).countP fun x => decide (x < r)) ≤ (l.take j).length := List.countP_le_length
   rw [List.length_take] at hcl
   refine go ?_
   refine if_d rfl (fun h3 => ?_) (fun h3 => ?_)
   · refine go ?_
     intro _ _ x hx _ _ r' hr'
     cases hr.symm.trans hr'
     have hs : ((l.take (j + 1)).countP fun x => decide (x < r)) = ((l.take j).countP fun x => decide (x < r)) + if x < r then 1 else 0 := by rw [take_oneE hx, List.countP_append, List.countP_singleton]; simp
     refine go ?_
     refine if_d rfl (fun h4 => ?_) (fun h4 => ?_)
     · rw [if_pos h4] at hs
       refine go ?_
       rw [show 1 + (((l.take j).countP fun x => decide (x < r) : Nat) : Int) + 1 = 1 + (((l.take (j + 1)).countP fun x => decide (x < r) : Nat) : Int) by rw [hs]; omega]
       exact q_again (j + 1) (by omega) (by omega)
     · rw [if_neg h4] at hs
       have hs : ((l.take j).countP fun x => decide (x < r)) = ((l.take (j + 1)).countP fun x => decide (x < r)) := by rw [hs]; rfl
       rw [hs]
       refine go ?_
       exact q_again (j + 1) (by omega) (by omega)
   have hjl : j = l.length := by omega
   subst hjl
   rw [List.take_length] at hcl ⊢
   rw [show (l.countP fun x => decide (x < r)) = ltL l r from rfl] at hcl ⊢
   refine go ?_
   intro _ _ r' hr'
   cases hr.symm.trans hr'
   refine go ?_
   refine if_d rfl (fun h4 => ?_) (fun h4 => ?_)
   · refine go ?_
     exact q_fin false (hv := rfl) (hp := ⟨(fun h => by cases h), fun h => by have := h.1 r hrm; omega⟩)
   refine go ?_
   refine q_again (k + 1) (by omega) ⟨by omega, fun s hs => ?_⟩
   rw [take_oneE hr, List.mem_append] at hs
   rcases hs with hs | hs
   · exact hall s hs
   · rw [List.mem_singleton.1 hs]; omega
 have hkl : k = l.length := by omega
 subst hkl
 rw [List.take_length] at hall
 refine go ?_
 refine q_fin (decide ((l.length : Int) ≤ 8)) (hv := rfl) (hp := ?_)
 rw [decide_eq_true_iff]
 exact ⟨fun h => ⟨hall, by omega⟩, fun h => by omega⟩
theorem rSum55_ok {vl : Value} {l : List Int} (hl : l.length ≤ 1000) (hb : ∀ x ∈ l, 0 ≤ x ∧ x ≤ 1000000000) : FnP Tryz.prog 20 [vl] [fSl intE vl l] (.int .i64 (sumL l)) := by
 refine q_beg _ (isC 20) fun B w0 => ?_
 refine go ?_
 refine q_loop (fun k => l.length - k) (fun k : Nat => [(4, .int .i64 (k : Int)), (3, .int .i64 (sumL (l.take k)))]) (fun _ => []) (fun _ => []) (fun k => k ≤ l.length) 0 (Nat.zero_le _) (body := ?_)
 intro k hk
 have h0 : 0 ≤ sumL (l.take k) := sumL_nonneg fun x hx => (hb x (List.mem_of_mem_take hx)).1
 have h1 := sumL_le (l := l.take k) (c := 1000000000) fun x hx => (hb x (List.mem_of_mem_take hx)).2
 have hlt : (l.take k).length ≤ 1000 := by rw [List.length_take]; omega
 refine go ?_
 refine if_d rfl (fun h2 => ?_) (fun h2 => ?_)
 · refine go ?_
   intro _ _ x hx
   have hxb := hb x (List.mem_of_getElem? hx)
   have hs : sumL (l.take (k + 1)) = sumL (l.take k) + x := by rw [take_oneE hx, sumL_append, sumL_cons, sumL_nil]; omega
   refine go ?_
   rw [← hs]
   exact q_again (k + 1) (by omega) (by omega)
 have hkl : k = l.length := by omega
 subst hkl
 rw [List.take_length]
 refine go ?_
 exact q_fin () (hv := rfl) (hp := trivial)
theorem rPrizes_ok {vp vl : Value} {p l : List Int} (hpl : p.length ≤ 100) (hll : l.length ≤ 100) :
 FnC Tryz.prog (.func 10) [vp, vl] [] [] [fSl intE vp p, fSl intE vl l] pzV (fun _ => []) pzF (PzP p l) := by
 refine q_beg _ (isC 10) fun B w0 => ?_
 refine go ?_
 refine q_call (rValid_ok (p := p) (by omega)) (next := fun b hb => ?_)
 cases b with
 | false =>
   have hno : ¬ PrzOK p l := fun h => by have := hb.2 ⟨h.prz, h.p8⟩; cases this
   refine go ?_
   refine q_fact (fSl intE (.slice none 0 0) ([] : List Int)) (fun w _ => nilS w) ?_
   exact q_fin ([], .slice none 0 0, 550) (hv := rfl) (hp := ⟨fun h => absurd h hno, fun _ => ⟨rfl, rfl, rfl⟩⟩)
 | true =>
 obtain ⟨hprz, hp8⟩ := hb.1 rfl
 clear hb
 refine go ?_
 first | with_reducible refine g_d (fun h1 => ?_) (fun h1 => ?_) | with_reducible refine g_n (fun h1 => ?_) (fun h1 => ?_) | with_reducible refine g_b (fun h1 => ?_) (fun h1 => ?_)
 rotate_left
 · have hno : ¬ PrzOK p l := fun h => by have := h.l8; omega
   refine go ?_
   refine q_fact (fSl intE (.slice none 0 0) ([] : List Int)) (fun w _ => nilS w) ?_
   exact q_fin ([], .slice none 0 0, 550) (hv := rfl) (hp := ⟨fun h => absurd h hno, fun _ => ⟨rfl, rfl, rfl⟩⟩)
 refine go ?_
 refine q_call (rRanks_ok (l := l) hll) (next := fun b hb => ?_)
 cases b with
 | false =>
   have hno : ¬ PrzOK p l := fun h => by have := hb.2 ⟨h.rnk, h.l8⟩; cases this
   refine go ?_
   refine q_fact (fSl intE (.slice none 0 0) ([] : List Int)) (fun w _ => nilS w) ?_
   exact q_fin ([], .slice none 0 0, 550) (hv := rfl) (hp := ⟨fun h => absurd h hno, fun _ => ⟨rfl, rfl, rfl⟩⟩)
 | true =>
 obtain ⟨hrk, hl8⟩ := hb.1 rfl
 clear hb
 have hyes : PrzOK p l := ⟨hp8, hl8, hprz, hrk⟩
 refine go ?_
 intro b25
 refine st_apE intE (b := b25) (by repeat (first | exact Sel.here | apply Sel.there)) ?_
 refine q_loop (fun y : Nat × Value => l.length - y.1) (fun y => [(7, .int .i64 (y.1 : Int)), (6, y.2)]) (fun y => [ap intE y.2 ((l.take y.1).map (prz p l))]) (fun _ => []) (fun y => y.1 ≤ l.length) (0, .slice (some ⟨b25, 0, some 0⟩) 0 0) (Nat.zero_le _) (hk := by repeat (first | exact SelL.nil | (apply SelL.cons; (focus (repeat (first | exact Sel.here | apply Sel.there)))))) (body := ?_)
 rintro ⟨j, v6⟩ hj
 dsimp only at hj ⊢
 have hjl : ((l.take j).map (prz p l)).length = j := by rw [List.length_map, List.length_take]; omega
 refine go ?_
 refine if_d rfl (fun h2 => ?_) (fun h2 => ?_)
 · have hr : l[j]? = some (l[j]'(by omega)) := List.getElem?_eq_getElem _
   generalize l[j]'(by omega) = r at hr
   have hrm := List.mem_of_getElem? hr
   have hre := hrk r hrm
   have hlt := lt_len l r
   have heq := eq_len l r
   have hep := eq_pos hrm
   have hrt : (r - 1).toNat = ltL l r := by omega
   have hr1 : r = ((ltL l r + 1 : Nat) : Int) := by omega
   refine go ?_
   refine q_loop (fun i => l.length - i) (fun i : Nat => [(9, .int .i64 (i : Int)), (8, .int .i64 (((l.take i).countP fun x => decide (x = r)) : Int))]) (fun _ => []) (fun _ => []) (fun i => i ≤ l.length) 0 (Nat.zero_le _) (body := ?_)
   intro i hi
   have hcl : ((l.take i).countP fun x => decide (x = r)) ≤ (l.take i).length := List.countP_le_length
   rw [List.length_take] at hcl
   refine go ?_
   refine if_d rfl (fun h3 => ?_) (fun h3 => ?_)
   · refine go ?_
     intro _ _ x hx _ _ r' hr'
     cases hr.symm.trans hr'
     have hs : ((l.take (i + 1)).countP fun x => decide (x = r)) = ((l.take i).countP fun x => decide (x = r)) + if x = r then 1 else 0 := by rw [take_oneE hx, List.countP_append, List.countP_singleton]; simp
     refine go ?_
     refine if_d rfl (fun h4 => ?_) (fun h4 => ?_)
     · rw [if_pos h4] at hs
       refine go ?_
       rw [show (((l.take i).countP fun x => decide (x = r) : Nat) : Int) + 1 = (((l.take (i + 1)).countP fun x => decide (x = r) : Nat) : Int) by rw [hs]; omega]
       exact q_again (i + 1) (by omega) (by omega)
     · rw [if_neg h4] at hs
       have hs : ((l.take i).countP fun x => decide (x = r)) = ((l.take (i + 1)).countP fun x => decide (x = r)) := by rw [hs]; rfl
       rw [hs]
       refine go ?_
       exact q_again (i + 1) (by omega) (by omega)
   have hil : i = l.length := by omega
   subst hil
   rw [List.take_length] at hcl ⊢
   rw [show (l.countP fun x => decide (x = r)) = eqL l r from rfl] at hcl ⊢
   refine go ?_
   intro _ _ r' hr'
   cases hr.symm.trans hr'
   refine go ?_
   refine q_loop (fun y : Nat × Int => eqL l r - y.1) (fun y => [(11, .int .i64 (r + (y.1 : Int))), (10, .int .i64 y.2)]) (fun _ => []) (fun _ => []) (fun y => y.1 ≤ eqL l r ∧ y.2 = sumL (blk p (ltL l r) y.1)) (0, 0) ⟨Nat.zero_le _, rfl⟩ (hl := by simp only [Int.natCast_zero, Int.add_zero]; repeat (first | exact trivial | refine ⟨rfl, ?_⟩)) (body := ?_)
   rintro ⟨n, s⟩ ⟨hn, hs⟩
   dsimp only at hn hs ⊢
   have hsr := blk_rng hprz (by omega) (ltL l r) n
   rw [← hs] at hsr
   refine go ?_
   intro _ _ r' hr'
   cases hr.symm.trans hr'
   refine go ?_
   refine if_d rfl (fun h6 => ?_) (fun h6 => ?_)
   · refine go ?_
     refine if_d rfl (fun h7 => ?_) (fun h7 => ?_)
     · have hpx : p[ltL l r + n]? = some (p[ltL l r + n]'(by omega)) := List.getElem?_eq_getElem _
       generalize p[ltL l r + n]'(by omega) = x at hpx
       have hxr := hprz x (List.mem_of_getElem? hpx)
       have hbs : sumL (blk p (ltL l r) (n + 1)) = s + x := by rw [blk_succ hpx, sumL_append, sumL_cons, sumL_nil, hs]; omega
       refine go ?_
       rw [show r + (n : Int) - 1 = ((ltL l r + n : Nat) : Int) by omega]
       refine go ?_
       intro _ _ x' hx'
       cases hpx.symm.trans hx'
       refine go ?_
       rw [show r + (n : Int) + 1 = r + ((n + 1 : Nat) : Int) by omega]
       exact q_again (n + 1, s + x) (by show eqL l r - (n + 1) < eqL l r - n; omega) ⟨by show n + 1 ≤ _; omega, hbs.symm⟩
     · have hbs : sumL (blk p (ltL l r) (n + 1)) = s := by rw [hs, blk_end (n := n) (m := n + 1) (by omega) (by omega)]
       refine go ?_
       rw [show r + (n : Int) + 1 = r + ((n + 1 : Nat) : Int) by omega]
       exact q_again (n + 1, s) (by show eqL l r - (n + 1) < eqL l r - n; omega) ⟨by show n + 1 ≤ _; omega, hbs.symm⟩
   have hne : n = eqL l r := by omega
   subst hne
   have hq0 : 0 ≤ s.tdiv (eqL l r : Int) ∧ s.tdiv (eqL l r : Int) ≤ 8388608 := by
    rw [Int.tdiv_eq_ediv_of_nonneg hsr.1]
    have h7 := Int.ediv_nonneg hsr.1 (show (0 : Int) ≤ (eqL l r : Int) by omega)
    have h8 := Int.ediv_le_self (eqL l r : Int) hsr.1
    omega
   have hpz : prz p l r = s.tdiv (eqL l r : Int) := by unfold prz; rw [hrt, hs]
   have hts : (l.take (j + 1)).map (prz p l) = (l.take j).map (prz p l) ++ [s.tdiv (eqL l r : Int)] := by rw [take_oneE hr, List.map_append, List.map_singleton, hpz]
   refine go ?_
   refine (d_p rfl rfl (p_quo (a := s) (b := (eqL l r : Int)) rfl rfl (by omega) (by omega) (by omega))).h ?_
   refine go ?_
   intro b59
   refine go ?_
   refine q_app (xs := (l.take j).map (prz p l)) intE (s.tdiv (eqL l r : Int)) () (by omega) (next := fun ad => ?_)
   rw [← hts]
   refine go ?_
   exact q_again (j + 1, .slice ad (((l.take j).map (prz p l)).length + 1) (((l.take j).map (prz p l)).length + 1)) (by show l.length - (j + 1) < l.length - j; omega) (by show j + 1 ≤ _; omega)
 have hje : j = l.length := by omega
 subst hje
 rw [List.take_length]
 refine q_frz (frz_ap (E := intE) (v := v6) (xs := l.map (prz p l))) (h := ?_)
 refine go ?_
 exact q_fin (l.map (prz p l), v6, 0) (hv := rfl) (hp := ⟨fun _ => ⟨rfl, rfl⟩, fun h => absurd hyes h⟩)
end Go.Proofs.YtbdaaopebgcnaaaGreatDoor

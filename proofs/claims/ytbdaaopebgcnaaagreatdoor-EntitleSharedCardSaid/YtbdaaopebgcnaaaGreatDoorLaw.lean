/-
  The laws EntitlePrizesSpec and EntitleShared on the ideal machine.
-/
import Derived.Test.YtbdaaopebgcnaaaGreatDoorLibB
import Derived.Test.YtbdaaopebgcnaaaGreatDoorSaneB
set_option linter.unusedSimpArgs false
set_option linter.unusedVariables false
set_option maxRecDepth 10000
set_option maxHeartbeats 2000000
namespace Go.Proofs.YtbdaaopebgcnaaaGreatDoor
open Go.Ideal En
theorem rOrd19_ok {va vb : Value} {xs : List Int} (hal : xs.length ≤ 1000000) : FnP Tryz.prog 33 [va, vb] [fSl intE va xs, fSl intE vb xs] (.int .i64 0) := by
 refine q_beg _ (isC 33) fun B w0 => ?_
 refine go ?_
 refine q_loop (fun k => xs.length - k) (fun k : Nat => [(5, .int .i64 (k : Int))]) (fun _ => []) (fun _ => []) (fun k => k ≤ xs.length) 0 (Nat.zero_le _) (body := ?_)
 intro k hk
 refine go ?_
 first | with_reducible refine g_d (fun h1 => ?_) (fun h1 => ?_) | with_reducible refine g_n (fun h1 => ?_) (fun h1 => ?_) | with_reducible refine g_b (fun h1 => ?_) (fun h1 => ?_)
 · have hkl : k = xs.length := by omega
   subst hkl
   refine go ?_
   refine if_d rfl (fun h3 => ?_) (fun h3 => ?_)
   · omega
   refine go ?_
   refine if_d rfl (fun h4 => ?_) (fun h4 => ?_)
   · omega
   refine go ?_
   exact q_fin () (hv := rfl) (hp := trivial)
 refine go ?_
 refine if_d rfl (fun h2 => ?_) (fun h2 => ?_)
 rotate_left
 · omega
 refine go ?_
 intro _ _ x hx _ _ y hy
 cases hx.symm.trans hy
 refine go ?_
 refine if_d rfl (fun h3 => ?_) (fun h3 => ?_)
 · omega
 refine go ?_
 intro _ _ x' hx' _ _ y' hy'
 cases hx'.symm.trans hy'
 refine go ?_
 refine if_d rfl (fun h4 => ?_) (fun h4 => ?_)
 · omega
 refine go ?_
 exact q_again (k + 1) (by omega) (by omega)
theorem same55_ok {va vb : Value} {xs : List Int} (hal : xs.length ≤ 1000000) : FnP Tryz.prog 11 [va, vb] [fSl intE va xs, fSl intE vb xs] (.bool true) := by
 refine q_beg _ (isC 11) fun B w0 => ?_
 refine go ?_
 refine q_call (rOrd19_ok (xs := xs) hal) (next := fun _ _ => ?_)
 refine go ?_
 exact q_fin () (hv := rfl) (hp := trivial)
theorem PzP.uniq {p l : List Int} {y z : List Int × Value × Int} (hy : PzP p l y) (hz : PzP p l z) : y.1 = z.1 ∧ y.2.2 = z.2.2 := by
 by_cases h : PrzOK p l
 · exact ⟨(hy.1 h).1.trans (hz.1 h).1.symm, (hy.1 h).2.trans (hz.1 h).2.symm⟩
 · exact ⟨(hy.2 h).1.trans (hz.2 h).1.symm, (hy.2 h).2.1.trans (hz.2 h).2.1.symm⟩
theorem PzP.len {p l : List Int} {y : List Int × Value × Int} (hy : PzP p l y) : y.1.length ≤ l.length := by
 by_cases h : PrzOK p l
 · rw [(hy.1 h).1, List.length_map]; exact Nat.le_refl _
 · rw [(hy.2 h).1]; exact Nat.zero_le _
theorem lawPrz_ok {vp vl : Value} {p l : List Int} (hpl : p.length < 9223372036854775808) (hll : l.length < 9223372036854775808) : FnP Tryz.prog 3 [vp, vl] [fNxt 4, fSl intE vp p, fSl intE vl l] (.bool true) := by
 refine q_beg _ (isC 3) fun B w0 => ?_
 refine go ?_
 refine q_call sane_ok (next := fun _ _ => ?_)
 refine go ?_
 first | with_reducible refine g_d (fun h1 => ?_) (fun h1 => ?_) | with_reducible refine g_n (fun h1 => ?_) (fun h1 => ?_) | with_reducible refine g_b (fun h1 => ?_) (fun h1 => ?_)
 rotate_left
 · refine go ?_
   exact q_fin () (hv := rfl) (hp := trivial)
 refine go ?_
 refine if_d rfl (fun h2 => ?_) (fun h2 => ?_)
 · refine go ?_
   exact q_fin () (hv := rfl) (hp := trivial)
 refine go ?_
 refine q_call (prizes_ok (p := p) (l := l) hpl hll) (next := fun y hy => ?_)
 refine go ?_
 refine q_call (rPrizes_ok (p := p) (l := l) (by omega) (by omega)) (next := fun z hz => ?_)
 obtain ⟨ys, yv, ye⟩ := y
 obtain ⟨zs, zv, ze⟩ := z
 obtain ⟨e1, e2⟩ := hy.uniq hz
 have hyl := hy.len
 dsimp only at e1 e2 hyl
 subst e1 e2
 refine go ?_
 refine q_call (same55_ok (xs := ys) (by omega)) (next := fun _ _ => ?_)
 refine go ?_
 refine q_fin () (hv := ?_) (hp := trivial)
 show Value.bool (decide (ye = ye)) = Value.bool true
 rw [decide_eq_true rfl]
theorem prz_rng {p l : List Int} (h : PrzOK p l) {r : Int} (hr : r ∈ l) : 0 ≤ prz p l r ∧ prz p l r ≤ 8388608 := by
 have hb := blk_rng h.prz h.p8 (r - 1).toNat (eqL l r)
 have hep := eq_pos hr
 unfold prz
 rw [Int.tdiv_eq_ediv_of_nonneg hb.1]
 have h7 := Int.ediv_nonneg hb.1 (show (0 : Int) ≤ (eqL l r : Int) by omega)
 have h8 := Int.ediv_le_self (eqL l r : Int) hb.1
 omega
theorem lawShr_ok {vp vl : Value} {p l : List Int} (hpl : p.length < 9223372036854775808) (hll : l.length < 9223372036854775808) : FnP Tryz.prog 5 [vp, vl] [fNxt 4, fSl intE vp p, fSl intE vl l] (.bool true) := by
 refine q_beg _ (isC 5) fun B w0 => ?_
 refine go ?_
 refine q_call sane_ok (next := fun _ _ => ?_)
 refine go ?_
 first | with_reducible refine g_d (fun h1 => ?_) (fun h1 => ?_) | with_reducible refine g_n (fun h1 => ?_) (fun h1 => ?_) | with_reducible refine g_b (fun h1 => ?_) (fun h1 => ?_)
 rotate_left
 · refine go ?_
   exact q_fin () (hv := rfl) (hp := trivial)
 refine go ?_
 refine if_d rfl (fun h2 => ?_) (fun h2 => ?_)
 · refine go ?_
   exact q_fin () (hv := rfl) (hp := trivial)
 refine go ?_
 refine q_call (prizes_ok (p := p) (l := l) hpl hll) (next := fun y hy => ?_)
 obtain ⟨ys, yv, ye⟩ := y
 by_cases hok : PrzOK p l
 rotate_left
 · obtain ⟨e1, e2, e3⟩ := hy.2 hok
   dsimp only at e1 e2 e3
   subst e1 e2 e3
   refine go ?_
   exact q_fin () (hv := rfl) (hp := trivial)
 obtain ⟨e1, e2⟩ := hy.1 hok
 dsimp only at e1 e2
 subst e2
 have hyl : ys.length = l.length := by rw [e1, List.length_map]
 have hyr : ∀ x ∈ ys, 0 ≤ x ∧ x ≤ 8388608 := fun x hx => by
  rw [e1] at hx
  obtain ⟨r, hr, rfl⟩ := List.mem_map.1 hx
  exact prz_rng hok hr
 have hyg : ∀ (i : Nat) x r, ys[i]? = some x → l[i]? = some r → x = prz p l r := fun i x r hx hr => by
  rw [e1, List.getElem?_map, hr] at hx
  exact (Option.some.inj hx).symm
 have hp8 := hok.p8
 have hl8 := hok.l8
 dsimp only [pzF, List.cons_append, List.nil_append]
 refine go ?_
 first | with_reducible refine g_d (fun h3 => ?_) (fun h3 => ?_) | with_reducible refine g_n (fun h3 => ?_) (fun h3 => ?_) | with_reducible refine g_b (fun h3 => ?_) (fun h3 => ?_)
 rotate_left
 · omega
 refine go ?_
 refine if_d rfl (fun h4 => ?_) (fun h4 => ?_)
 · omega
 refine go ?_
 refine q_loop (fun y : Nat × Bool => p.length - y.1) (fun y => [(8, .int .i64 ((y.1 + 1 : Nat) : Int)), (7, .bool y.2)]) (fun _ => []) (fun _ => []) (fun y => (y.1 = 0 ∨ y.1 + 1 ≤ p.length) ∧ (y.2 = true ↔ ∀ (i : Nat) a b, i < y.1 → p[i]? = some a → p[i + 1]? = some b → b ≤ a)) (0, true) ⟨.inl rfl, ⟨fun _ i a b h => by omega, fun _ => rfl⟩⟩ (body := ?_)
 rintro ⟨k, fb⟩ ⟨hk, hfb⟩
 dsimp only at hk hfb ⊢
 refine go ?_
 refine if_d rfl (fun h5 => ?_) (fun h5 => ?_)
 · have hx : p[k + 1]? = some (p[k + 1]'(by omega)) := List.getElem?_eq_getElem _
   generalize p[k + 1]'(by omega) = x at hx
   have hz : p[k]? = some (p[k]'(by omega)) := List.getElem?_eq_getElem _
   generalize p[k]'(by omega) = z at hz
   have hup : ∀ b : Bool, (b = true ↔ (fb = true ∧ x ≤ z)) → (b = true ↔ ∀ (i : Nat) a b, i < k + 1 → p[i]? = some a → p[i + 1]? = some b → b ≤ a) := fun b hb => by
    rw [hb, hfb]
    constructor
    · rintro ⟨q1, q2⟩ i a b hi ha hb
      by_cases e : i = k
      · subst e
        cases hz.symm.trans ha
        cases hx.symm.trans hb
        exact q2
      · exact q1 i a b (by omega) ha hb
    · intro q
      exact ⟨fun i a b hi => q i a b (by omega), q k z x (by omega) hz hx⟩
   refine go ?_
   cases fb with
   | false =>
     refine go ?_
     exact q_again (k + 1, false) (by show p.length - (k + 1) < p.length - k; omega) ⟨.inr (by show k + 1 + 1 ≤ _; omega), hup false (by simp)⟩
   | true =>
     refine go ?_
     intro _ _ x' hx' _ _ z' hz'
     cases hx.symm.trans hx'
     rw [show (((k + 1 : Nat) : Int) - 1).toNat = k by omega] at hz'
     cases hz.symm.trans hz'
     refine go ?_
     exact q_again (k + 1, decide (x ≤ z)) (by show p.length - (k + 1) < p.length - k; omega) ⟨.inr (by show k + 1 + 1 ≤ _; omega), hup _ (by rw [decide_eq_true_iff]; simp)⟩
 have hfall : fb = true → Falls p := fun h i a b ha hb => by
  have := (List.getElem?_eq_some_iff.1 hb).1
  exact hfb.1 h i a b (by omega) ha hb
 refine go ?_
 refine q_loop (fun i => ys.length - i) (fun i : Nat => [(69, .int .i64 (i : Int))]) (fun _ => []) (fun _ => []) (fun i => i ≤ ys.length) 0 (Nat.zero_le _) (body := ?_)
 intro i hi
 refine go ?_
 refine if_d rfl (fun h6 => ?_) (fun h6 => ?_)
 · have hxi : ys[i]? = some (ys[i]'(by omega)) := List.getElem?_eq_getElem _
   generalize ys[i]'(by omega) = x at hxi
   have hri : l[i]? = some (l[i]'(by omega)) := List.getElem?_eq_getElem _
   generalize l[i]'(by omega) = r at hri
   refine go ?_
   refine q_loop (fun j => ys.length - j) (fun j : Nat => [(74, .int .i64 (j : Int))]) (fun _ => []) (fun _ => []) (fun j => j ≤ ys.length) 0 (Nat.zero_le _) (body := ?_)
   intro j hj
   refine go ?_
   refine if_d rfl (fun h7 => ?_) (fun h7 => ?_)
   · have hxj : ys[j]? = some (ys[j]'(by omega)) := List.getElem?_eq_getElem _
     generalize ys[j]'(by omega) = z at hxj
     have hrj : l[j]? = some (l[j]'(by omega)) := List.getElem?_eq_getElem _
     generalize l[j]'(by omega) = s at hrj
     have hx := hyg i x r hxi hri
     have hz := hyg j z s hxj hrj
     have hls : fb = true → r < s → z ≤ x := fun h h9 => by
      rw [hx, hz]
      exact prz_falls hok.prz (hfall h) hok.rnk (List.mem_of_getElem? hri) (List.mem_of_getElem? hrj) h9
     have hsame : r = s → x = z := fun h => by rw [hx, hz, h]
     refine go ?_
     intro _ _ r1 hr1 _ _ s1 hs1
     cases hri.symm.trans hr1
     cases hrj.symm.trans hs1
     first | with_reducible refine g_d (fun h8 => ?_) (fun h8 => ?_) | with_reducible refine g_n (fun h8 => ?_) (fun h8 => ?_) | with_reducible refine g_b (fun h8 => ?_) (fun h8 => ?_)
     · refine go ?_
       cases fb with
       | false =>
         refine go ?_
         exact q_again (j + 1) (by omega) (by omega)
       | true =>
         refine go ?_
         intro _ _ r3 hr3 _ _ s3 hs3
         cases hri.symm.trans hr3
         cases hrj.symm.trans hs3
         first | with_reducible refine g_d (fun h9 => ?_) (fun h9 => ?_) | with_reducible refine g_n (fun h9 => ?_) (fun h9 => ?_) | with_reducible refine g_b (fun h9 => ?_) (fun h9 => ?_)
         · refine go ?_
           exact q_again (j + 1) (by omega) (by omega)
         have hzx := hls rfl h9
         refine go ?_
         intro _ _ x1 hx1 _ _ z1 hz1
         cases hxi.symm.trans hx1
         cases hxj.symm.trans hz1
         refine go ?_
         refine if_d rfl (fun h => ?_) (fun h => ?_)
         · omega
         refine go ?_
         exact q_again (j + 1) (by omega) (by omega)
     have hxz := hsame h8
     refine go ?_
     intro _ _ x2 hx2 _ _ z2 hz2
     cases hxi.symm.trans hx2
     cases hxj.symm.trans hz2
     first | with_reducible refine g_d (fun h10 => ?_) (fun h10 => ?_) | with_reducible refine g_n (fun h10 => ?_) (fun h10 => ?_) | with_reducible refine g_b (fun h10 => ?_) (fun h10 => ?_)
     · refine go ?_
       cases fb with
       | false =>
         refine go ?_
         exact q_again (j + 1) (by omega) (by omega)
       | true =>
         refine go ?_
         intro _ _ r3 hr3 _ _ s3 hs3
         cases hri.symm.trans hr3
         cases hrj.symm.trans hs3
         first | with_reducible refine g_d (fun h9 => ?_) (fun h9 => ?_) | with_reducible refine g_n (fun h9 => ?_) (fun h9 => ?_) | with_reducible refine g_b (fun h9 => ?_) (fun h9 => ?_)
         · refine go ?_
           exact q_again (j + 1) (by omega) (by omega)
         have hzx := hls rfl h9
         refine go ?_
         intro _ _ x1 hx1 _ _ z1 hz1
         cases hxi.symm.trans hx1
         cases hxj.symm.trans hz1
         refine go ?_
         refine if_d rfl (fun h => ?_) (fun h => ?_)
         · omega
         refine go ?_
         exact q_again (j + 1) (by omega) (by omega)
     exact absurd hxz h10
   have hjl : j = ys.length := by omega
   subst hjl
   refine go ?_
   exact q_again (i + 1) (by omega) (by omega)
 have hil : i = ys.length := by omega
 subst hil
 refine go ?_
 refine q_call (rSum55_ok (l := ys) (by omega) (fun x hx => by have := hyr x hx; omega)) (next := fun _ _ => ?_)
 refine go ?_
 refine q_call (rSum55_ok (l := p) (by omega) (fun x hx => by have := hok.prz x hx; omega)) (next := fun _ _ => ?_)
 obtain ⟨q1, q2⟩ := paid_all hok.prz hok.rnk
 rw [← e1] at q1 q2
 have hlb : 0 ≤ sumL ys ∧ sumL ys ≤ 1000000000 * (ys.length : Int) := ⟨sumL_nonneg fun x hx => (hyr x hx).1, sumL_le fun x hx => by have := hyr x hx; omega⟩
 have hpb : 0 ≤ sumL p ∧ sumL p ≤ 1000000000 * (p.length : Int) := ⟨sumL_nonneg fun x hx => (hok.prz x hx).1, sumL_le fun x hx => by have := hok.prz x hx; omega⟩
 refine go ?_
 first | with_reducible refine g_d (fun ha => ?_) (fun ha => ?_) | with_reducible refine g_n (fun ha => ?_) (fun ha => ?_) | with_reducible refine g_b (fun ha => ?_) (fun ha => ?_)
 · exact absurd q1 ha
 refine go ?_
 first | with_reducible refine g_d (fun hb => ?_) (fun hb => ?_) | with_reducible refine g_n (fun hb => ?_) (fun hb => ?_) | with_reducible refine g_b (fun hb => ?_) (fun hb => ?_)
 rotate_left
 · refine go ?_
   exact q_fin () (hv := rfl) (hp := trivial)
 refine go ?_
 first | with_reducible refine g_d (fun hc => ?_) (fun hc => ?_) | with_reducible refine g_n (fun hc => ?_) (fun hc => ?_) | with_reducible refine g_b (fun hc => ?_) (fun hc => ?_)
 rotate_left
 · refine go ?_
   exact q_fin () (hv := rfl) (hp := trivial)
 have q3 := q2 (by omega) (fun h => by rw [h] at hc; exact hc rfl)
 refine go ?_
 refine q_fin () (hv := ?_) (hp := trivial)
 rw [decide_eq_true q3]; rfl
end Go.Proofs.YtbdaaopebgcnaaaGreatDoor

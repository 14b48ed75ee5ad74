/-
  Prizes that are shared, in plain lists.
-/
set_option linter.unusedSimpArgs false
set_option linter.unusedVariables false
namespace En
def ltL (l : List Int) (r : Int) : Nat := l.countP fun x => decide (x < r)
def eqL (l : List Int) (r : Int) : Nat := l.countP fun x => decide (x = r)
def Ranks (l : List Int) : Prop := ∀ r ∈ l, (ltL l r : Int) + 1 = r
def Prz (p : List Int) : Prop := ∀ x ∈ p, 0 ≤ x ∧ x ≤ 1048576
def sumL (l : List Int) : Int := l.foldl (· + ·) 0
def blk (p : List Int) (a n : Nat) : List Int := (p.drop a).take n
def prz (p l : List Int) (r : Int) : Int := (sumL (blk p (r - 1).toNat (eqL l r))).tdiv (eqL l r : Int)
theorem foldl_add : ∀ (l : List Int) (a : Int), l.foldl (· + ·) a = a + l.foldl (· + ·) 0
 | [], a => by simp
 | x :: l, a => by
   rw [List.foldl_cons, List.foldl_cons, foldl_add l (a + x), foldl_add l (0 + x)]
   omega
theorem sumL_nil : sumL [] = 0 := rfl
theorem sumL_cons (a : Int) (l : List Int) : sumL (a :: l) = a + sumL l := by
 unfold sumL; rw [List.foldl_cons, foldl_add]; omega
theorem sumL_append : ∀ a b : List Int, sumL (a ++ b) = sumL a + sumL b
 | [], b => by rw [List.nil_append, sumL_nil]; omega
 | x :: a, b => by rw [List.cons_append, sumL_cons, sumL_cons, sumL_append a b]; omega
theorem sumL_nonneg : ∀ {l : List Int}, (∀ x ∈ l, 0 ≤ x) → 0 ≤ sumL l
 | [], _ => by rw [sumL_nil]; omega
 | x :: l, h => by
   rw [sumL_cons]
   have := sumL_nonneg (l := l) (fun y hy => h y (List.mem_cons_of_mem _ hy))
   have := h x (List.mem_cons_self ..)
   omega
theorem sumL_le {c : Int} : ∀ {l : List Int}, (∀ x ∈ l, x ≤ c) → sumL l ≤ c * l.length
 | [], _ => by simp [sumL_nil]
 | x :: l, h => by
   rw [sumL_cons, List.length_cons]
   have h1 := sumL_le (l := l) (fun y hy => h y (List.mem_cons_of_mem _ hy))
   have h2 := h x (List.mem_cons_self ..)
   have : c * ((l.length + 1 : Nat) : Int) = c * (l.length : Int) + c := by rw [Int.natCast_add, Int.mul_add]; simp
   omega
theorem sumL_ge {c : Int} : ∀ {l : List Int}, (∀ x ∈ l, c ≤ x) → c * l.length ≤ sumL l
 | [], _ => by simp [sumL_nil]
 | x :: l, h => by
   rw [sumL_cons, List.length_cons]
   have h1 := sumL_ge (l := l) (fun y hy => h y (List.mem_cons_of_mem _ hy))
   have h2 := h x (List.mem_cons_self ..)
   have : c * ((l.length + 1 : Nat) : Int) = c * (l.length : Int) + c := by rw [Int.natCast_add, Int.mul_add]; simp
   omega
theorem eq_pos {l : List Int} {r : Int} (h : r ∈ l) : 0 < eqL l r := List.countP_pos_iff.2 ⟨r, h, by simp⟩
theorem lt_succ (l : List Int) (r : Int) : ltL l (r + 1) = ltL l r + eqL l r := by
 unfold ltL eqL
 induction l with
 | nil => rfl
 | cons x l ih =>
   rw [List.countP_cons, List.countP_cons, List.countP_cons, ih]
   by_cases h1 : x < r
   · simp [h1, show x < r + 1 by omega, show x ≠ r by omega]; omega
   · by_cases h2 : x = r
     · simp [h2, show r < r + 1 by omega]; omega
     · simp [h1, h2, show ¬ x < r + 1 by omega]
theorem lt_mono (l : List Int) {r s : Int} (h : r ≤ s) : ltL l r ≤ ltL l s := List.countP_mono_left fun x _ hx => by simp at hx ⊢; omega
theorem lt_len (l : List Int) (r : Int) : ltL l r ≤ l.length := List.countP_le_length
theorem eq_len (l : List Int) (r : Int) : eqL l r ≤ l.length := List.countP_le_length
theorem rank_gap {l : List Int} (h : Ranks l) {r s : Int} (hr : r ∈ l) (hs : s ∈ l) (hlt : r < s) : r - 1 + eqL l r ≤ s - 1 := by
 have h1 := h r hr
 have h2 := h s hs
 have h3 := lt_succ l r
 have h4 := lt_mono l (show r + 1 ≤ s by omega)
 omega
def Falls (p : List Int) : Prop := ∀ (i : Nat) a b, p[i]? = some a → p[i + 1]? = some b → b ≤ a
theorem falls_far {p : List Int} (h : Falls p) : ∀ (d i : Nat) a b, p[i]? = some a → p[i + d]? = some b → b ≤ a
 | 0, i, a, b, ha, hb => by
   rw [Nat.add_zero, ha] at hb
   cases hb; omega
 | d + 1, i, a, b, ha, hb => by
   have hl := (List.getElem?_eq_some_iff.1 hb).1
   have hc : p[i + d]? = some (p[i + d]'(by omega)) := List.getElem?_eq_getElem _
   have h1 := falls_far h d i a _ ha hc
   have h2 := h (i + d) _ b hc hb
   omega
theorem blk_mem {p : List Int} {a n : Nat} {x : Int} (h : x ∈ blk p a n) : ∃ i, a ≤ i ∧ i < a + n ∧ p[i]? = some x := by
 unfold blk at h
 obtain ⟨j, hj⟩ := List.getElem?_of_mem h
 rw [List.getElem?_take] at hj
 split at hj
 · rw [List.getElem?_drop] at hj
   exact ⟨a + j, by omega, by omega, hj⟩
 · cases hj
theorem blk_len {p : List Int} {a n : Nat} : (blk p a n).length = min n (p.length - a) := by
 unfold blk; rw [List.length_take, List.length_drop]
theorem tdiv_lo {s n m : Int} (hn : 0 < n) (hm : 0 ≤ m) (h : m * n ≤ s) : m ≤ s.tdiv n := by
 have hs : 0 ≤ s := Int.le_trans (Int.mul_nonneg hm (by omega)) h
 rw [Int.tdiv_eq_ediv_of_nonneg hs]
 exact (Int.le_ediv_iff_mul_le hn).2 h
theorem tdiv_hi {s n m : Int} (hn : 0 < n) (hs : 0 ≤ s) (h : s ≤ m * n) : s.tdiv n ≤ m := by
 rw [Int.tdiv_eq_ediv_of_nonneg hs]
 have h1 := Int.ediv_le_ediv hn h
 rwa [Int.mul_ediv_cancel _ (by omega)] at h1
theorem prz_falls {p l : List Int} (hp : Prz p) (hf : Falls p) (hl : Ranks l) {r s : Int} (hr : r ∈ l) (hs : s ∈ l) (hlt : r < s) : prz p l s ≤ prz p l r := by
 have hg := rank_gap hl hr hs hlt
 have h1 := hl r hr
 have h2 := hl s hs
 have e1 := eq_pos hr
 have e2 := eq_pos hs
 have hnn : ∀ a n, ∀ x ∈ blk p a n, 0 ≤ x := fun a n x hx => by
  obtain ⟨i, _, _, hi⟩ := blk_mem hx
  exact (hp x (List.mem_of_getElem? hi)).1
 unfold prz
 -- the least prize of the better places
 by_cases hfull : (r - 1).toNat + eqL l r ≤ p.length
 · have hlast : p[(r - 1).toNat + eqL l r - 1]? = some (p[(r - 1).toNat + eqL l r - 1]'(by omega)) := List.getElem?_eq_getElem _
   generalize p[(r - 1).toNat + eqL l r - 1]'(by omega) = m at hlast
   have hm : 0 ≤ m := (hp m (List.mem_of_getElem? hlast)).1
   refine Int.le_trans (b := m) ?_ ?_
   · refine tdiv_hi (by omega) (sumL_nonneg (hnn _ _)) ?_
     have := sumL_le (c := m) (l := blk p (s - 1).toNat (eqL l s)) (fun x hx => by
      obtain ⟨i, i1, i2, hi⟩ := blk_mem hx
      have := falls_far hf (i - ((r - 1).toNat + eqL l r - 1)) _ m x hlast (by rw [show (r - 1).toNat + eqL l r - 1 + (i - ((r - 1).toNat + eqL l r - 1)) = i by omega]; exact hi)
      exact this)
     refine Int.le_trans this (Int.mul_le_mul_of_nonneg_left ?_ hm)
     rw [blk_len]; omega
   · refine tdiv_lo (by omega) hm ?_
     have := sumL_ge (c := m) (l := blk p (r - 1).toNat (eqL l r)) (fun x hx => by
      obtain ⟨i, i1, i2, hi⟩ := blk_mem hx
      exact falls_far hf ((r - 1).toNat + eqL l r - 1 - i) i x m hi (by rw [show i + ((r - 1).toNat + eqL l r - 1 - i) = (r - 1).toNat + eqL l r - 1 by omega]; exact hlast))
     rw [blk_len, Nat.min_eq_left (by omega)] at this
     exact this
 · have hz : blk p (s - 1).toNat (eqL l s) = [] := by
    apply List.length_eq_zero_iff.1
    rw [blk_len]; omega
   rw [hz, sumL_nil, Int.zero_tdiv]
   exact tdiv_lo (by omega) (by omega) (by rw [Int.zero_mul]; exact sumL_nonneg (hnn _ _))
def paidTo (p l : List Int) (m : Int) : Int := sumL ((l.filter fun x => decide (x < m)).map (prz p l))
theorem sum_filter_succ (f : Int → Int) (m : Int) : ∀ l : List Int, sumL ((l.filter fun x => decide (x < m + 1)).map f) = sumL ((l.filter fun x => decide (x < m)).map f) + (eqL l m : Int) * f m
 | [] => by simp [eqL, sumL_nil]
 | x :: l => by
   have ih := sum_filter_succ f m l
   have he : (eqL (x :: l) m : Int) = (eqL l m : Int) + if x = m then 1 else 0 := by
    unfold eqL; rw [List.countP_cons]; by_cases h : x = m <;> simp [h]
   rw [he]
   by_cases h1 : x < m
   · rw [List.filter_cons_of_pos (by simp; omega), List.filter_cons_of_pos (by simp; omega), List.map_cons, List.map_cons, sumL_cons, sumL_cons, ih, if_neg (by omega)]
     simp; omega
   · by_cases h2 : x = m
     · rw [List.filter_cons_of_pos (by simp; omega), List.filter_cons_of_neg (by simp; omega), List.map_cons, sumL_cons, ih, if_pos h2, h2, Int.add_mul]
       omega
     · rw [List.filter_cons_of_neg (by simp; omega), List.filter_cons_of_neg (by simp; omega), ih, if_neg h2]
       simp
theorem blk_sum (p : List Int) (a n : Nat) : sumL (p.take (a + n)) = sumL (p.take a) + sumL (blk p a n) := by
 unfold blk
 rw [← sumL_append, ← List.take_add]
theorem paid_step {p l : List Int} (hp : Prz p) (hl : Ranks l) : ∀ m : Nat, paidTo p l (m : Int) ≤ sumL (p.take (ltL l m)) ∧ (0 < ltL l m → sumL (p.take (ltL l m)) - ltL l m < paidTo p l m)
 | 0 => by
   have h0 : ltL l ((0 : Nat) : Int) = 0 := by
    apply Classical.byContradiction
    intro hne
    obtain ⟨x, hx, hd⟩ := List.countP_pos_iff.1 (show 0 < l.countP _ from Nat.pos_of_ne_zero hne)
    have := hl x hx
    simp at hd
    omega
   refine ⟨?_, fun h => by omega⟩
   unfold paidTo
   have : l.filter (fun x => decide (x < ((0 : Nat) : Int))) = [] := by
    rw [← List.length_eq_zero_iff, ← List.countP_eq_length_filter]; exact h0
   rw [this, h0]
   simp [sumL_nil]
 | m + 1 => by
   obtain ⟨h1, h2⟩ := paid_step hp hl m
   have e : paidTo p l ((m + 1 : Nat) : Int) = paidTo p l m + (eqL l m : Int) * prz p l m := by
    unfold paidTo
    rw [Int.natCast_add]
    exact sum_filter_succ (prz p l) m l
   have e2 : ltL l ((m + 1 : Nat) : Int) = ltL l m + eqL l m := by rw [Int.natCast_add]; exact lt_succ l m
   rw [e, e2]
   by_cases h0 : eqL l m = 0
   · rw [h0]
     simp only [Nat.add_zero]
     exact ⟨by simpa using h1, fun h => by simpa using h2 h⟩
   · obtain ⟨x, hx, hd⟩ := List.countP_pos_iff.1 (show 0 < l.countP _ from Nat.pos_of_ne_zero h0)
     have hxm : x = (m : Int) := by simpa using hd
     have hr := hl x hx
     rw [hxm] at hr
     have hm : ((m : Int) - 1).toNat = ltL l m := by omega
     have hb := blk_sum p (ltL l m) (eqL l m)
     have hs : 0 ≤ sumL (blk p (ltL l m) (eqL l m)) := sumL_nonneg fun x hx => by
      obtain ⟨i, _, _, hi⟩ := blk_mem hx
      exact (hp x (List.mem_of_getElem? hi)).1
     have hz : prz p l m = (sumL (blk p (ltL l m) (eqL l m))).tdiv (eqL l m : Int) := by unfold prz; rw [hm]
     rw [hz, hb, Int.tdiv_eq_ediv_of_nonneg hs]
     have d1 := Int.mul_ediv_self_le (x := sumL (blk p (ltL l m) (eqL l m))) (k := (eqL l m : Int)) (by omega)
     have d2 := Int.lt_mul_ediv_self_add (x := sumL (blk p (ltL l m) (eqL l m))) (k := (eqL l m : Int)) (by omega)
     refine ⟨by omega, fun _ => ?_⟩
     by_cases hl0 : ltL l m = 0
     · rw [hl0] at h1 h2 d2 ⊢
       have : paidTo p l m = 0 := by
        unfold paidTo
        have : l.filter (fun x => decide (x < (m : Int))) = [] := by
         rw [← List.length_eq_zero_iff, ← List.countP_eq_length_filter]; exact hl0
        rw [this]; rfl
       rw [this]
       simp [sumL_nil]
       omega
     · have := h2 (by omega)
       omega
theorem paid_all {p l : List Int} (hp : Prz p) (hl : Ranks l) : sumL (l.map (prz p l)) ≤ sumL p ∧ (p.length ≤ l.length → l ≠ [] → sumL p - l.length < sumL (l.map (prz p l))) := by
 have hb : ∀ x ∈ l, x < ((l.length + 1 : Nat) : Int) := fun x hx => by
  have h1 := hl x hx
  have h2 := lt_succ l x
  have h3 := eq_pos hx
  have h4 := lt_len l (x + 1)
  omega
 have hf : l.filter (fun x => decide (x < ((l.length + 1 : Nat) : Int))) = l := List.filter_eq_self.2 fun x hx => by simpa using hb x hx
 have hc : ltL l ((l.length + 1 : Nat) : Int) = l.length := by
  unfold ltL; rw [List.countP_eq_length_filter, hf]
 obtain ⟨h1, h2⟩ := paid_step hp hl (l.length + 1)
 have e : paidTo p l ((l.length + 1 : Nat) : Int) = sumL (l.map (prz p l)) := by unfold paidTo; rw [hf]
 rw [e, hc] at h1 h2
 have hsplit : sumL p = sumL (p.take l.length) + sumL (p.drop l.length) := by rw [← sumL_append, List.take_append_drop]
 have hd : 0 ≤ sumL (p.drop l.length) := sumL_nonneg fun x hx => (hp x (List.mem_of_mem_drop hx)).1
 refine ⟨by omega, fun hle hne => ?_⟩
 have := h2 (List.length_pos_iff.2 hne)
 rw [List.take_of_length_le hle] at this
 exact this
end En

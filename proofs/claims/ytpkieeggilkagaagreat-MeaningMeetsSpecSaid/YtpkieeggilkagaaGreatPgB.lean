/-
  Graphs, in plain lists: how many parts there are, and when a set is a ring.
-/
import Derived.Test.YtpkieeggilkagaaGreatPgA
set_option linter.unusedVariables false
namespace Gph

variable {g : List (List Int)} {inn : List Bool}

theorem paint_get : ∀ (ns part : List Int) (m : Int) (n : Nat), (∀ x ∈ ns, 0 ≤ x ∧ x < part.length) → (paint part ns m).getD n 0 = if (n : Int) ∈ ns then m else part.getD n 0
  | [], part, m, n, _ => by simp [paint]
  | a :: ns, part, m, n, h => by
    have ha := h a (by simp)
    have h2 := paint_get ns (part.set a.toNat m) m n (fun x hx => by rw [List.length_set]; exact h x (by simp [hx]))
    show (paint (part.set a.toNat m) ns m).getD n 0 = _
    rw [h2]
    obtain ⟨a, rfl⟩ := Int.eq_ofNat_of_zero_le ha.1
    by_cases e1 : (n : Int) ∈ ns
    · rw [if_pos e1, if_pos (List.mem_cons_of_mem _ e1)]
    · rw [if_neg e1]
      by_cases e2 : n = a
      · subst e2
        rw [if_pos (by simp), Int.toNat_natCast, List.getD_eq_getElem?_getD, List.getElem?_set]
        have : n < part.length := by omega
        simp [this]
      · rw [if_neg (by simp only [List.mem_cons, not_or]; exact ⟨by omega, e1⟩), Int.toNat_natCast, List.getD_eq_getElem?_getD, List.getElem?_set, if_neg (fun e => e2 e.symm), List.getD_eq_getElem?_getD]

/-- reached from an earlier node of the set -/
def Old (g : List (List Int)) (inn : List Bool) (k n : Nat) : Prop := ∃ j, j < k ∧ inB inn j = true ∧ Rch g inn j n

theorem parts_sem (hg : ∀ l ∈ g, ∀ n ∈ l, Rg g n) : ∀ k, k ≤ g.length → ∀ n : Nat, n < g.length → (0 < (partsN g inn k).1.getD n 0 ↔ Old g inn k n)
  | 0, _, n, hn => by
    constructor
    · intro h
      simp [partsN, List.getD_eq_getElem?_getD, List.getElem?_replicate, hn] at h
    · rintro ⟨j, hj, _⟩; omega
  | k + 1, hk, n, hn => by
    have ih := parts_sem hg k (by omega)
    have hlen := (partsN_ok g inn k).1
    have hkr : Rg g (k : Int) := ⟨by omega, by omega⟩
    rw [partsN_succ, partStep]
    by_cases hc : inB inn k = true ∧ (partsN g inn k).1.getD k 0 ≤ 0
    · rw [if_pos hc]
      show 0 < (paint _ _ _).getD n 0 ↔ _
      rw [paint_get _ _ _ _ (fun x hx => by rw [hlen]; exact reachL_rg hg hkr x hx)]
      by_cases hr : (n : Int) ∈ reachL g inn k
      · rw [if_pos hr]
        have := (reachL_iff hg hkr n).1 hr
        exact ⟨fun _ => ⟨k, by omega, hc.1, this⟩, fun _ => by omega⟩
      · rw [if_neg hr, ih n hn]
        rw [reachL_iff hg hkr] at hr
        constructor
        · rintro ⟨j, h1, h2, h3⟩; exact ⟨j, by omega, h2, h3⟩
        · rintro ⟨j, h1, h2, h3⟩
          by_cases e : j = k
          · subst e; exact absurd h3 hr
          · exact ⟨j, by omega, h2, h3⟩
    · rw [if_neg hc, ih n hn]
      constructor
      · rintro ⟨j, h1, h2, h3⟩; exact ⟨j, by omega, h2, h3⟩
      · rintro ⟨j, h1, h2, h3⟩
        by_cases e : j = k
        · subst e
          have : 0 < (partsN g inn j).1.getD j 0 := by
            apply Classical.byContradiction
            intro hno
            exact hc ⟨h2, by omega⟩
          obtain ⟨i, q1, q2, q3⟩ := (ih j (by omega)).1 this
          exact ⟨i, q1, q2, q3.trans h3⟩
        · exact ⟨j, by omega, h2, h3⟩

open Classical in
/-- how many begin a part -/
noncomputable def cnt (g : List (List Int)) (inn : List Bool) : Nat → Nat
  | 0 => 0
  | k + 1 => cnt g inn k + if inB inn k = true ∧ ¬ Old g inn k k then 1 else 0

theorem parts_cnt (hg : ∀ l ∈ g, ∀ n ∈ l, Rg g n) : ∀ k, k ≤ g.length → (partsN g inn k).2 = cnt g inn k
  | 0, _ => by simp [partsN, cnt]
  | k + 1, hk => by
    have ih := parts_cnt hg k (by omega)
    have hs := parts_sem (inn := inn) hg k (by omega) k (by omega)
    rw [partsN_succ, partStep, cnt]
    by_cases hc : inB inn k = true ∧ (partsN g inn k).1.getD k 0 ≤ 0
    · rw [if_pos hc, if_pos ⟨hc.1, fun h => by have := hs.2 h; omega⟩, ← ih]
    · rw [if_neg hc, if_neg (fun h => hc ⟨h.1, by
        apply Classical.byContradiction
        intro hno
        exact h.2 (hs.1 (by omega))⟩), Nat.add_zero, ih]

/-- neighbors are mutual -/
def Sym (g : List (List Int)) : Prop := ∀ (i : Nat) l, g[i]? = some l → ∀ n ∈ l, Rg g n ∧ ∀ l', g[n.toNat]? = some l' → (i : Int) ∈ l'

theorem Sym.rg (h : Sym g) : ∀ l ∈ g, ∀ n ∈ l, Rg g n := fun l hl n hn => by
  obtain ⟨i, hi⟩ := List.getElem?_of_mem hl
  exact (h i l hi n hn).1

theorem Rch.rg (h : Sym g) {a b : Int} (ha : Rg g a) (r : Rch g inn a b) : Rg g b := by
  cases r with
  | refl => exact ha
  | step _ hl hn _ => exact h.rg _ (List.mem_of_getElem? hl) _ hn

theorem Rch.symm (h : Sym g) {a b : Int} (ha : Rg g a) (hi : inB inn a = true) (r : Rch g inn a b) : Rch g inn b a := by
  induction r with
  | refl => exact .refl
  | step r0 hl hn hin ih =>
    rename_i i n l
    have hri := Rch.rg h ha r0
    have hin0 : inB inn i = true := by
      cases r0 with
      | refl => exact hi
      | step _ _ _ q => exact q
    obtain ⟨q1, q2⟩ := h i.toNat l hl n hn
    have := q2 _ (getD_of q1)
    have hc : ((i.toNat : Nat) : Int) = i := by unfold Rg at hri; omega
    rw [hc] at this
    exact (Rch.step .refl (getD_of q1) this hin0).trans ih

/-- a node begins its part if it reaches no earlier one -/
theorem old_iff (h : Sym g) {k : Nat} (hk : k < g.length) (hi : inB inn k = true) : Old g inn k k ↔ ∃ j : Nat, j < k ∧ Rch g inn k j := by
  have hkr : Rg g (k : Int) := ⟨by omega, by omega⟩
  constructor
  · rintro ⟨j, h1, h2, h3⟩
    exact ⟨j, h1, h3.symm h ⟨by omega, by omega⟩ h2⟩
  · rintro ⟨j, h1, h3⟩
    refine ⟨j, h1, ?_, h3.symm h hkr hi⟩
    cases h3 with
    | refl => omega
    | step _ _ _ q => exact q

theorem cnt_one (h : Sym g) {f : Nat} (hf : f < g.length) (hin : inB inn f = true) (hfirst : ∀ j, j < f → inB inn (j : Nat) = false) :
    cnt g inn g.length = 1 ↔ ∀ i : Nat, i < g.length → inB inn i = true → Rch g inn f i := by
  have base : ∀ k, k ≤ f → cnt g inn k = 0 := by
    intro k
    induction k with
    | zero => intro _; rfl
    | succ k ih =>
      intro hk
      rw [cnt, ih (by omega), if_neg (fun q => by rw [hfirst k (by omega)] at q; cases q.1)]
  have at1 : cnt g inn (f + 1) = 1 := by
    rw [cnt, base f (Nat.le_refl _), if_pos ⟨hin, fun ⟨j, h1, h2, _⟩ => by rw [hfirst j h1] at h2; cases h2⟩]
  have mono : ∀ k d, cnt g inn k ≤ cnt g inn (k + d) := by
    intro k d
    induction d with
    | zero => exact Nat.le_refl _
    | succ d ih => rw [← Nat.add_assoc, cnt]; omega
  constructor
  · intro h1 i
    induction i using Nat.strongRecOn with
    | _ i ih =>
      intro hi hii
      by_cases e : i = f
      · subst e; exact .refl
      have hfi : f < i := by
        apply Classical.byContradiction
        intro hno
        rw [hfirst i (by omega)] at hii; cases hii
      have ho : Old g inn i i := by
        apply Classical.byContradiction
        intro hno
        have e1 : cnt g inn (i + 1) = cnt g inn i + 1 := by rw [cnt, if_pos ⟨hii, hno⟩]
        have e2 := mono (f + 1) (i - (f + 1))
        have e3 := mono (i + 1) (g.length - (i + 1))
        rw [show f + 1 + (i - (f + 1)) = i by omega] at e2
        rw [show i + 1 + (g.length - (i + 1)) = g.length by omega] at e3
        omega
      obtain ⟨j, q1, q2, q3⟩ := ho
      exact (ih j q1 (by omega) q2).trans q3
  · intro hall
    have : ∀ d, f + 1 + d ≤ g.length → cnt g inn (f + 1 + d) = 1 := by
      intro d
      induction d with
      | zero => intro _; exact at1
      | succ d ih =>
        intro hd
        rw [← Nat.add_assoc, cnt, ih (by omega), if_neg (fun q => q.2 ⟨f, by omega, hin, hall _ (by omega) q.1⟩)]
    have := this (g.length - (f + 1)) (by omega)
    rwa [show f + 1 + (g.length - (f + 1)) = g.length by omega] at this
end Gph

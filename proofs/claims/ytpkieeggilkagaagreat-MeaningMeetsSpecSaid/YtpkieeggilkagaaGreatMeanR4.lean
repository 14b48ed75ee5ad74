/-
  The reference's graphs: rings.
-/
import Derived.Test.YtpkieeggilkagaaGreatMeanR3
set_option linter.unusedSimpArgs false
set_option linter.unusedVariables false
set_option maxHeartbeats 2000000
set_option maxRecDepth 10000
namespace Go.Proofs.YtpkieeggilkagaaGreat
open Go.Ideal Gph

theorem rRing_ok {vg vin : Value} {g : List (List Int)} {inn : List Bool} (hll : ∀ l ∈ g, l.length < 9223372036854775808) :
    FnC Tryz.prog (.func 137) [vg, vin] [] [] [fSl (slE intE) vg g, fSl boolE vin inn] (fun y : Bool × Int => .tuple ⟨[.bool y.1, .int .i64 y.2]⟩) (fun _ => []) (fun _ => [])
      (fun y => (y.2 = 0 ↔ GOK g ∧ inn.length = g.length) ∧ (y.2 = 0 → y.1 = ringB g inn)) := by
  refine q_beg c_rRing f_rRing fun B w0 => ?_
  refine go ?_
  refine q_call (rCheck_ok (g := g) hll) (next := fun b hb => ?_)
  cases b with
  | false =>
    refine go ?_
    exact q_fin (false, 120) (hv := rfl) (hp := ⟨⟨(fun h => by cases h), fun h => absurd (hb.2 h.1) (by simp)⟩, fun h => by cases h⟩)
  | true =>
  have hG := hb.1 rfl
  have hlen := hG.len
  refine go ?_
  refine if_d rfl (fun h1 => ?_) (fun h1 => ?_)
  · refine go ?_
    exact q_fin (false, 1) (hv := rfl) (hp := ⟨⟨(fun h => by cases h), fun h => absurd h.2 (by omega)⟩, fun h => by cases h⟩)
  have hin : inn.length = g.length := by omega
  have no : ¬ (degs g inn g.length ∧ 3 ≤ sizeN inn g.length ∧ (partsN g inn g.length).2 = 1) → ((((false, 0) : Bool × Int).2 = 0 ↔ GOK g ∧ inn.length = g.length) ∧ (((false, 0) : Bool × Int).2 = 0 → ((false, 0) : Bool × Int).1 = ringB g inn)) := fun h =>
    ⟨⟨fun _ => ⟨hG, hin⟩, fun _ => rfl⟩, fun _ => (ringB_false h).symm⟩
  refine go ?_
  refine q_call (rList_ok (inn := inn) (by omega)) (next := fun vl _ => ?_)
  have hll2 := listL_len inn inn.length
  rw [hin] at hll2
  rw [show listL inn inn.length = listL inn g.length by rw [hin]]
  have hsz := sizeN_le inn g.length
  refine go ?_
  refine if_d rfl (fun h2 => ?_) (fun h2 => ?_)
  · refine go ?_
    exact q_fin (false, 0) (hv := rfl) (hp := no (fun h => by have := h.2.1; omega))
  have hpos : 0 < (listL inn g.length).length := by omega
  refine go ?_
  intro _ _ c0 hc0
  obtain ⟨f, rfl, hf, hff, hfirst⟩ := listL_first (show (listL inn g.length)[0]? = some c0 by simpa using hc0)
  refine go ?_
  refine q_call (rConn_ok (g := g) (inn := inn) (s := f) hG hll hin hf) (next := fun y hy => ?_)
  obtain ⟨bm, met⟩ := y
  obtain ⟨hml, hmr⟩ := hy
  dsimp only at hml hmr ⊢
  refine q_frz (frz_bools (b := bm) (f := 0) (c := g.length) (xs := met)) (h := ?_)
  rw [hml]
  refine go ?_
  refine q_loop (fun i => (listL inn g.length).length - i) (fun i : Nat => [(8, .int .i64 (i : Int))]) (fun _ => []) (fun _ => [])
    (fun i => i ≤ (listL inn g.length).length ∧ ∀ n : Nat, (n : Int) ∈ (listL inn g.length).take i → degL inn (g.getD n []) = 2 ∧ Rch g inn f n) 0 ⟨Nat.zero_le _, fun n hn => by simp at hn⟩ (body := ?_)
  rintro i ⟨hi, hall⟩
  refine go ?_
  refine if_d rfl (fun h3 => ?_) (fun h3 => ?_)
  · have hz : (listL inn g.length)[i]? = some ((listL inn g.length)[i]'(by omega)) := List.getElem?_eq_getElem _
    generalize (listL inn g.length)[i]'(by omega) = z at hz
    obtain ⟨n, rfl, hn, hnn⟩ := listL_mem.1 (List.mem_of_getElem? hz)
    obtain ⟨l, hl⟩ : ∃ l, g[n]? = some l := ⟨g[n], List.getElem?_eq_getElem _⟩
    have hl1 := hll l (List.mem_of_getElem? hl)
    have hgd : g.getD n [] = l := by rw [List.getD_eq_getElem?_getD, hl]; rfl
    refine go ?_
    refine q_loop (fun j => l.length - j) (fun j : Nat => [(10, .int .i64 (j : Int)), (9, .int .i64 (degL inn (l.take j) : Int))]) (fun _ => []) (fun _ => []) (fun j => j ≤ l.length) 0 (Nat.zero_le _) (body := ?_)
    intro j hj
    refine go ?_
    intro _ _ z hz'
    cases hz.symm.trans hz'
    refine go ?_
    refine q_idx (slE intE) (next := fun _ _ l0 (vl0 : Value) hl0 => ?_)
    cases hl.symm.trans hl0
    refine go ?_
    refine if_d rfl (fun h4 => ?_) (fun h4 => ?_)
    · refine go ?_
      intro _ _ z hz'
      cases hz.symm.trans hz'
      refine go ?_
      refine q_idx (slE intE) (next := fun _ _ l0 (vl0 : Value) hl0 => ?_)
      cases hl.symm.trans hl0
      refine go ?_
      intro _ _ m hm
      have hmr2 := hG.ok n l hl j m hm
      obtain ⟨m, rfl⟩ := Int.eq_ofNat_of_zero_le hmr2.1
      refine go ?_
      intro _ _ d hd
      have hd' : inB inn (m : Nat) = d := by unfold inB; rw [Int.toNat_natCast, List.getD_eq_getElem?_getD, hd]; rfl
      have hstep : degL inn (l.take (j + 1)) = degL inn (l.take j) + if d then 1 else 0 := by
        rw [degL, take_one hm, List.filter_append, List.length_append, ← degL]
        congr 1
        simp only [List.filter_cons, List.filter_nil, hd']
        split <;> rfl
      have hdl : degL inn (l.take j) ≤ j := by
        have := List.length_filter_le (inB inn) (l.take j)
        rw [List.length_take] at this
        unfold degL; omega
      refine go ?_
      cases d with
      | false =>
        refine go ?_
        exact q_again (j + 1) (by omega) (by omega) (hl := ⟨rfl, by rw [hstep]; rfl, by repeat (first | exact trivial | refine ⟨rfl, ?_⟩)⟩)
      | true =>
        refine go ?_
        exact q_again (j + 1) (by omega) (by omega) (hl := ⟨rfl, by rw [hstep]; rfl, by repeat (first | exact trivial | refine ⟨rfl, ?_⟩)⟩)
    have hjl : j = l.length := by omega
    subst hjl
    rw [List.take_length]
    refine go ?_
    first | with_reducible refine g_d (fun h5 => ?_) (fun h5 => ?_) | with_reducible refine g_n (fun h5 => ?_) (fun h5 => ?_) | with_reducible refine g_b (fun h5 => ?_) (fun h5 => ?_)
    rotate_left
    · refine go ?_
      refine q_fin (false, 0) (hv := rfl) (hp := no (fun h => h5 ?_))
      have := h.1 n hn hnn
      rw [hgd] at this
      rw [this]; rfl
    refine go ?_
    intro _ _ z hz'
    cases hz.symm.trans hz'
    refine go ?_
    intro _ _ e he
    have he' : inB met (n : Nat) = e := by unfold inB; rw [Int.toNat_natCast, List.getD_eq_getElem?_getD, he]; rfl
    refine go ?_
    cases e with
    | false =>
      refine go ?_
      refine q_fin (false, 0) (hv := rfl) (hp := no (fun h => ?_))
      have h1 := h.2.2
      rw [parts_cnt hG.rg _ (Nat.le_refl _)] at h1
      have := (cnt_one hG.sym hf hff hfirst).1 h1 n hn hnn
      rw [(hmr n hn).2 this] at he'; cases he'
    | true =>
      refine go ?_
      refine q_again (i + 1) (by omega) ⟨by omega, fun m hm => ?_⟩
      rw [take_one hz, List.mem_append] at hm
      rcases hm with hm | hm
      · exact hall m hm
      · have : m = n := by simp at hm; omega
        subst this
        exact ⟨by rw [hgd]; omega, (hmr m hn).1 he'⟩
  have hil : i = (listL inn g.length).length := by omega
  subst hil
  rw [List.take_length] at hall
  refine go ?_
  refine q_fin (true, 0) (hv := rfl) (hp := ⟨⟨fun _ => ⟨hG, hin⟩, fun _ => rfl⟩, fun _ => ?_⟩)
  symm
  rw [show ((true, 0) : Bool × Int).1 = true from rfl, ringB_iff]
  refine ⟨fun n hn hnn => (hall n (listL_mem.2 ⟨n, rfl, hn, hnn⟩)).1, by omega, ?_⟩
  rw [parts_cnt hG.rg _ (Nat.le_refl _)]
  exact (cnt_one hG.sym hf hff hfirst).2 fun n hn hnn => (hall n (listL_mem.2 ⟨n, rfl, hn, hnn⟩)).2
end Go.Proofs.YtpkieeggilkagaaGreat

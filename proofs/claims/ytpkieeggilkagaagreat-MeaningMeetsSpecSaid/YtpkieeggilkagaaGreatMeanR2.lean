/-
  The reference's graphs: what is connected.
-/
import Derived.Test.YtpkieeggilkagaaGreatMeanR1
set_option linter.unusedSimpArgs false
set_option linter.unusedVariables false
set_option maxHeartbeats 2000000
set_option maxRecDepth 10000
namespace Go.Proofs.YtpkieeggilkagaaGreat
open Go.Ideal Gph

theorem GOK.sym {g : List (List Int)} (h : GOK g) : Sym g := fun i l hl n hn => by
  obtain ⟨k, hk⟩ := List.getElem?_of_mem hn
  have := h.ok i l hl k n hk
  exact ⟨⟨this.1, this.2.1⟩, this.2.2.2.2⟩

/-- met nodes are reached -/
def Snd (g : List (List Int)) (inn : List Bool) (s : Int) (met : List Bool) : Prop := ∀ n : Nat, n < g.length → inB met n = true → Rch g inn s n
/-- what a node reaches at once is met, for the first neighbors of it -/
def Cls (inn met : List Bool) (l : List Int) : Prop := ∀ n ∈ l, inB inn n = true → inB met n = true

/-- the state of a sweep -/
structure Swp (g : List (List Int)) (inn : List Bool) (s : Nat) (met0 met : List Bool) (more : Bool) : Prop where
  len : met.length = g.length
  snd : Snd g inn s met
  st : inB met s = true
  same : more = false → met = met0
  less : more = true → left met < left met0

theorem inB_nat {l : List Bool} {n : Nat} (h : n < l.length) : inB l n = l[n] := by
  unfold inB
  rw [Int.toNat_natCast, List.getD_eq_getElem?_getD, List.getElem?_eq_getElem h]; rfl

theorem swp_add {g : List (List Int)} {inn : List Bool} {s : Nat} {met0 met : List Bool} {more : Bool} (h : Swp g inn s met0 met more) {i n : Nat} {l : List Int} (hi : i < g.length) (hl : g[i]? = some l) (hn : (n : Int) ∈ l) (hng : n < g.length)
    (hmi : inB met i = true) (hin : inB inn n = true) (hmn : inB met n = false) : Swp g inn s met0 (met.set n true) true := by
  have hnl : n < met.length := by rw [h.len]; exact hng
  have hb : ∀ m : Nat, inB (met.set n true) m = (decide ((m : Int) = (n : Int)) || inB met m) := fun m => by
    have := inB_set (met := met) (a := (n : Int)) (n := (m : Int)) (by omega) (by omega) (by omega)
    rwa [Int.toNat_natCast] at this
  refine ⟨by rw [List.length_set]; exact h.len, fun m hm hmm => ?_, by rw [hb]; simp [h.st], fun e => (by cases e), fun _ => ?_⟩
  · rw [hb] at hmm
    by_cases e : (m : Int) = n
    · rw [e]
      exact .step (h.snd i hi hmi) (by rw [Int.toNat_natCast]; exact hl) hn hin
    · simp [e] at hmm
      exact h.snd m hm hmm
  · have hs : met[n]? = some false := by rw [List.getElem?_eq_getElem hnl, ← inB_nat hnl, hmn]
    have := left_set hs
    cases more with
    | true => have := h.less rfl; omega
    | false => have := h.same rfl; subst this; omega

theorem rConn_ok {vg vin : Value} {g : List (List Int)} {inn : List Bool} {s : Nat} (hG : GOK g) (hll : ∀ l ∈ g, l.length < 9223372036854775808) (hin : inn.length = g.length) (hs : s < g.length) :
    FnC Tryz.prog (.func 180) [vg, vin, .int .i64 (s : Int)] [] [] [fSl (slE intE) vg g, fSl boolE vin inn] (fun y : Nat × List Bool => fullS y.1 g.length) (fun y => [pt y.1 (.cells (y.2.map .bool))]) (fun _ => [])
      (fun y => y.2.length = g.length ∧ ∀ n : Nat, n < g.length → (inB y.2 n = true ↔ Rch g inn s n)) := by
  refine q_beg c_rConn f_rConn fun B w0 => ?_
  have hlen := hG.len
  refine go ?_
  refine q_mks g.length ⟨by omega, by omega, by omega⟩ fun bm => ?_
  rw [zeros_bool]
  refine go ?_
  refine q_set (o := 0 + s * 1) (cs := (List.replicate g.length false).map .bool) (v := .bool true) (cs' := (start0 g.length s).map .bool) (by rw [start0, List.map_set]; simp) (by simp; omega) ?_
  refine go ?_
  have hst : ∀ m : Nat, inB (start0 g.length s) m = decide ((m : Int) = (s : Int)) := fun m => by
    have := inB_set (met := List.replicate g.length false) (a := (s : Int)) (n := (m : Int)) (by omega) (by omega) (by rw [List.length_replicate]; omega)
    rw [start0, this]
    have : inB (List.replicate g.length false) m = false := by
      unfold inB
      rw [List.getD_eq_getElem?_getD, List.getElem?_replicate]
      split <;> rfl
    rw [this, Bool.or_false]
  have all0 : Snd g inn s (start0 g.length s) := fun n hn h => by
    rw [hst] at h
    rw [of_decide_eq_true h]; exact .refl
  refine q_loop (fun x => 2 * left x.1 + if x.2 then 1 else 0) (fun x : List Bool × Bool => [(8, .bool x.2)]) (fun x => [pt bm (.cells (x.1.map .bool))]) (fun _ => [])
    (fun x => x.1.length = g.length ∧ Snd g inn s x.1 ∧ inB x.1 s = true ∧ (x.2 = false → ∀ i l, g[i]? = some l → inB x.1 (i : Nat) = true → Cls inn x.1 l)) (start0 g.length s, true) ⟨start0_len _ _, all0, by rw [hst]; simp, fun h => by cases h⟩ (body := ?_)
  rintro ⟨met0, more0⟩ ⟨hl0, hsnd0, hst0, hcl0⟩
  dsimp only at hl0 hsnd0 hst0 hcl0 ⊢
  refine go ?_
  cases more0 with
  | false =>
    refine go ?_
    refine q_fin (bm, met0) (hv := rfl) (hp := ⟨hl0, fun n hn => ⟨hsnd0 n hn, fun h => ?_⟩⟩)
    have hsr : Rg g (s : Int) := ⟨by omega, by omega⟩
    have : ∀ m : Int, Rch g inn s m → inB met0 m = true := by
      intro m h
      induction h with
      | refl => exact hst0
      | step r hl hn hi ih =>
        rename_i i n l
        have hir := Rch.rg hG.sym hsr r
        have hc : ((i.toNat : Nat) : Int) = i := by unfold Rg at hir; omega
        exact hcl0 rfl i.toNat l hl (by rw [hc]; exact ih) n hn hi
    exact this n h
  | true =>
  refine go ?_
  refine q_loop (fun x => g.length - x.1) (fun x : Nat × List Bool × Bool => [(9, .int .i64 (x.1 : Int)), (8, .bool x.2.2)]) (fun x => [pt bm (.cells (x.2.1.map .bool))]) (fun _ => [])
    (fun x => x.1 ≤ g.length ∧ Swp g inn s met0 x.2.1 x.2.2 ∧ (x.2.2 = false → ∀ i l, i < x.1 → g[i]? = some l → inB x.2.1 (i : Nat) = true → Cls inn x.2.1 l)) (0, met0, false) ⟨Nat.zero_le _, ⟨hl0, hsnd0, hst0, fun _ => rfl, fun h => by cases h⟩, fun _ i l hi => by omega⟩ (body := ?_)
  rintro ⟨i, met1, more1⟩ ⟨hi, hs1, hc1⟩
  dsimp only at hi hs1 hc1 ⊢
  refine go ?_
  refine if_d rfl (fun h1 => ?_) (fun h1 => ?_)
  · obtain ⟨l, hli⟩ : ∃ l, g[i]? = some l := ⟨g[i]'(by omega), List.getElem?_eq_getElem _⟩
    have hl1 := hll l (List.mem_of_getElem? hli)
    refine go ?_
    refine q_loop (fun x => l.length - x.1) (fun x : Nat × List Bool × Bool => [(10, .int .i64 (x.1 : Int)), (8, .bool x.2.2)]) (fun x => [pt bm (.cells (x.2.1.map .bool))]) (fun _ => [])
      (fun x => x.1 ≤ l.length ∧ Swp g inn s met0 x.2.1 x.2.2 ∧ (x.2.2 = false → more1 = false ∧ (inB x.2.1 (i : Nat) = true → Cls inn x.2.1 (l.take x.1)))) (0, met1, more1) ⟨Nat.zero_le _, hs1, fun h => ⟨h, fun _ n hn => by simp at hn⟩⟩ (body := ?_)
    rintro ⟨k, met2, more2⟩ ⟨hk, hs2, hc2⟩
    dsimp only at hk hs2 hc2 ⊢
    refine go ?_
    refine q_idx (slE intE) (next := fun _ _ l0 (vl0 : Value) hl0 => ?_)
    cases hli.symm.trans hl0
    refine go ?_
    refine if_d rfl (fun h2 => ?_) (fun h2 => ?_)
    · have him : i < met2.length := by rw [hs2.len]; omega
      have hbi := inB_nat him
      have hn : l[k]? = some (l[k]'(by omega)) := List.getElem?_eq_getElem _
      generalize l[k]'(by omega) = n at hn
      have hng := hG.ok i l hli k n hn
      obtain ⟨n, rfl⟩ := Int.eq_ofNat_of_zero_le hng.1
      have hnm : n < met2.length := by rw [hs2.len]; omega
      have hbn := inB_nat hnm
      have hni : n < inn.length := by omega
      have hbin := inB_nat hni
      refine go ?_
      refine q_get (o := 0 + i * 1) (cs := met2.map .bool) (.bool met2[i]) (by rw [Nat.zero_add, Nat.mul_one, List.getElem?_map, List.getElem?_eq_getElem him]; rfl) ?_
      refine go ?_
      have skip : (met2[i] = true → inn[n] = true → met2[n] = true) → (k + 1 ≤ l.length ∧ Swp g inn s met0 met2 more2 ∧ (more2 = false → more1 = false ∧ (inB met2 (i : Nat) = true → Cls inn met2 (l.take (k + 1))))) := fun h => by
        refine ⟨by omega, hs2, fun hm => ⟨(hc2 hm).1, fun hii m hmm hmi => ?_⟩⟩
        rw [take_one hn, List.mem_append] at hmm
        rcases hmm with hmm | hmm
        · exact (hc2 hm).2 hii m hmm hmi
        · rw [List.mem_singleton.1 hmm] at hmi ⊢
          rw [hbn]
          exact h (by rw [← hbi]; exact hii) (by rw [← hbin]; exact hmi)
      cases e1 : met2[i] with
      | false =>
        refine go ?_
        exact q_again (k + 1, met2, more2) (by show l.length - (k + 1) < l.length - k; omega) (skip (fun h => by rw [e1] at h; cases h))
      | true =>
      refine go ?_
      refine q_idx (slE intE) (next := fun _ _ l0 (vl0 : Value) hl0 => ?_)
      cases hli.symm.trans hl0
      refine go ?_
      intro _ _ n' hn'
      cases hn.symm.trans hn'
      refine go ?_
      intro _ _ c hc
      have hcn : inn[n] = c := by rw [List.getElem?_eq_getElem hni] at hc; exact Option.some.inj hc
      subst hcn
      refine go ?_
      cases e2 : inn[n] with
      | false =>
        refine go ?_
        exact q_again (k + 1, met2, more2) (by show l.length - (k + 1) < l.length - k; omega) (skip (fun _ h => by rw [e2] at h; cases h))
      | true =>
      refine go ?_
      refine q_idx (slE intE) (next := fun _ _ l0 (vl0 : Value) hl0 => ?_)
      cases hli.symm.trans hl0
      refine go ?_
      intro _ _ n' hn'
      cases hn.symm.trans hn'
      refine go ?_
      refine q_get (o := 0 + n * 1) (cs := met2.map .bool) (.bool met2[n]) (by rw [Nat.zero_add, Nat.mul_one, List.getElem?_map, List.getElem?_eq_getElem hnm]; rfl) ?_
      refine go ?_
      cases e3 : met2[n] with
      | true =>
        refine go ?_
        exact q_again (k + 1, met2, more2) (by show l.length - (k + 1) < l.length - k; omega) (skip (fun _ _ => e3))
      | false =>
      refine go ?_
      refine q_idx (slE intE) (next := fun _ _ l0 (vl0 : Value) hl0 => ?_)
      cases hli.symm.trans hl0
      refine go ?_
      intro _ _ n' hn'
      cases hn.symm.trans hn'
      refine go ?_
      refine q_set (o := 0 + n * 1) (cs := met2.map .bool) (v := .bool true) (cs' := (met2.set n true).map .bool) (by rw [List.map_set]; simp) (by simp; omega) ?_
      refine go ?_
      exact q_again (k + 1, met2.set n true, true) (by show l.length - (k + 1) < l.length - k; omega)
        ⟨by show k + 1 ≤ _; omega, swp_add hs2 (by omega) hli (List.mem_of_getElem? hn) (by omega) (by rw [hbi, e1]) (by rw [hbin, e2]) (by rw [hbn, e3]), fun h => by cases h⟩
    have hkl : k = l.length := by omega
    subst hkl
    rw [List.take_length] at hc2
    refine go ?_
    refine q_again (i + 1, met2, more2) (by show g.length - (i + 1) < g.length - i; omega) ⟨by show i + 1 ≤ _; omega, hs2, fun hm j l' hj hlj hjm => ?_⟩
    by_cases e : j = i
    · subst e
      rw [hli] at hlj
      cases hlj
      exact (hc2 hm).2 hjm
    · have e1 := hs2.same hm
      have e2 := hs1.same (hc2 hm).1
      subst e1
      rw [← e2] at hjm ⊢
      exact hc1 (hc2 hm).1 j l' (by show j < i; have : j < i + 1 := hj; omega) hlj hjm
  have hil : i = g.length := by omega
  subst hil
  refine go ?_
  refine q_again (met1, more1) ?_ ⟨hs1.len, hs1.snd, hs1.st, fun hm i l hl hmi => hc1 hm i l (List.getElem?_eq_some_iff.1 hl).1 hl hmi⟩
  cases more1 with
  | true => have := hs1.less rfl; show 2 * left met1 + 1 < 2 * left met0 + 1; omega
  | false => have := hs1.same rfl; subst this; show 2 * left met1 + 0 < 2 * left met1 + 1; omega
end Go.Proofs.YtpkieeggilkagaaGreat

/-
  Graphs: components, rings.
-/
import Derived.Test.YtpkieeggilkagaaGreatMean6
set_option linter.unusedSimpArgs false
set_option linter.unusedVariables false
set_option maxHeartbeats 2000000
set_option maxRecDepth 10000
namespace Go.Proofs.YtpkieeggilkagaaGreat
open Go.Ideal Gph

noncomputable def c_comps : CFunc := ⟨48, [(.tmp 4), (.tmp 5)], (.seq (.ops [4, 5] [⟨⟨(some 4), none, (.asg (.const (.slice none 0 0)))⟩, []⟩, ⟨⟨(some 5), none, (.asg (.const (.int .i64 0)))⟩, []⟩]) (.seq (.seq (.ops [10, 11, 12, 13, 5] [⟨⟨(some 10), none, (.mv (.tmp 0))⟩, []⟩, ⟨⟨(some 11), none, (.mv (.tmp 1))⟩, []⟩, ⟨⟨(some 12), none, (.bslice 59 1 [(.slice none 0 0)] [⟨0, ⟨1, (.tmp 11)⟩⟩])⟩, []⟩, ⟨⟨(some 13), none, (.call (.func 50) [(.tmp 10), (.tmp 12)])⟩, []⟩, ⟨⟨(some 5), none, (.asg (.tmp 13))⟩, []⟩]) (.seq (.ops [14, 15] [⟨⟨(some 14), none, (.mv (.tmp 5))⟩, []⟩, ⟨⟨(some 15), none, (.bin .neq 40 (.tmp 14) (.const (.int .i64 0)))⟩, []⟩]) (.cond (.tmp 15) (.seq (.ops [16, 4, 5] [⟨⟨(some 16), none, (.mv (.tmp 5))⟩, []⟩, ⟨⟨(some 4), none, (.asg (.const (.slice none 0 0)))⟩, []⟩, ⟨⟨(some 5), none, (.asg (.tmp 16))⟩, []⟩]) .ret) .skip))) (.seq (.ops [18, 19, 20, 17, 21, 22, 6, 7] [⟨⟨(some 18), none, (.mv (.tmp 0))⟩, []⟩, ⟨⟨(some 19), none, (.mv (.tmp 1))⟩, []⟩, ⟨⟨(some 20), none, (.call (.func 51) [(.tmp 18), (.tmp 19)])⟩, []⟩, ⟨⟨(some 17), none, (.mv (.tmp 20))⟩, []⟩, ⟨⟨(some 21), none, (.extract (.tmp 17) 0)⟩, []⟩, ⟨⟨(some 22), none, (.extract (.tmp 17) 1)⟩, []⟩, ⟨⟨(some 6), none, (.asg (.tmp 21))⟩, []⟩, ⟨⟨(some 7), none, (.asg (.tmp 22))⟩, []⟩]) (.seq (.ops [23, 24, 4] [⟨⟨(some 23), none, (.mv (.tmp 7))⟩, []⟩, ⟨⟨(some 24), none, (.mkslice 22 1 24 [(.slice none 0 0)] (.tmp 23) (.tmp 23))⟩, []⟩, ⟨⟨(some 4), none, (.asg (.tmp 24))⟩, []⟩]) (.seq (.seq (.ops [25, 26, 27] [⟨⟨(some 25), none, (.mv (.tmp 6))⟩, []⟩, ⟨⟨(some 26), none, (.lenSl (.tmp 25))⟩, []⟩, ⟨⟨(some 27), none, (.mv (.const (.int .i64 0)))⟩, []⟩]) (.block 0 (.loop (.seq (.ops [28] [⟨⟨(some 28), none, (.bin .lss 3 (.tmp 27) (.tmp 26))⟩, []⟩]) (.seq (.cond (.tmp 28) .skip (.exit 0)) (.seq (.block 1 (.seq (.ops [29, 30, 31, 8, 9] [⟨⟨(some 29), none, (.mv (.tmp 27))⟩, []⟩, ⟨⟨(some 30), none, (.idxSl 1 (.tmp 25) (.tmp 27))⟩, []⟩, ⟨⟨(some 31), none, (.load1 (.tmp 30))⟩, []⟩, ⟨⟨(some 8), none, (.asg (.tmp 29))⟩, []⟩, ⟨⟨(some 9), none, (.asg (.tmp 31))⟩, []⟩]) (.seq (.ops [32, 33] [⟨⟨(some 32), none, (.mv (.tmp 9))⟩, []⟩, ⟨⟨(some 33), none, (.bin .gtr 3 (.tmp 32) (.const (.int .i64 0)))⟩, []⟩]) (.cond (.tmp 33) (.ops [34, 35, 36, 37, 38, 39, 40, 41, 42, 43, 44, 45] [⟨⟨(some 34), none, (.mv (.tmp 4))⟩, []⟩, ⟨⟨(some 35), none, (.mv (.tmp 9))⟩, []⟩, ⟨⟨(some 36), none, (.bin .sub 3 (.tmp 35) (.const (.int .i64 1)))⟩, []⟩, ⟨⟨(some 37), none, (.mv (.tmp 4))⟩, []⟩, ⟨⟨(some 38), none, (.mv (.tmp 9))⟩, []⟩, ⟨⟨(some 39), none, (.bin .sub 3 (.tmp 38) (.const (.int .i64 1)))⟩, []⟩, ⟨⟨(some 40), none, (.idxSl 1 (.tmp 37) (.tmp 39))⟩, []⟩, ⟨⟨(some 41), none, (.load1 (.tmp 40))⟩, []⟩, ⟨⟨(some 42), none, (.mv (.tmp 8))⟩, []⟩, ⟨⟨(some 43), none, (.bslice 3 1 [(.int .i64 0)] [⟨0, ⟨1, (.tmp 42)⟩⟩])⟩, []⟩, ⟨⟨(some 44), none, (.append 3 1 8 (.tmp 41) (.tmp 43))⟩, []⟩, ⟨⟨(some 45), none, (.idxSl 1 (.tmp 34) (.tmp 36))⟩, []⟩, ⟨⟨none, none, (.store 1 (.tmp 45) (.tmp 44))⟩, []⟩]) .skip)))) (.ops [46, 27] [⟨⟨(some 46), none, (.bin .add 3 (.tmp 27) (.const (.int .i64 1)))⟩, []⟩, ⟨⟨(some 27), none, (.mv (.tmp 46))⟩, []⟩]))))))) (.seq (.ops [47, 4, 5] [⟨⟨(some 47), none, (.mv (.tmp 4))⟩, []⟩, ⟨⟨(some 4), none, (.asg (.tmp 47))⟩, []⟩, ⟨⟨(some 5), none, (.asg (.const (.int .i64 0)))⟩, []⟩]) .ret))))))⟩
theorem f_comps : (envOf Tryz.prog noCut noMemo).F 26 = some c_comps := by kernel_rfl
noncomputable def c_ring : CFunc := ⟨63, [(.tmp 4), (.tmp 5)], (.seq (.ops [4, 5] [⟨⟨(some 4), none, (.asg (.const (.bool false)))⟩, []⟩, ⟨⟨(some 5), none, (.asg (.const (.int .i64 0)))⟩, []⟩]) (.seq (.seq (.ops [14, 15, 16, 17, 5] [⟨⟨(some 14), none, (.mv (.tmp 0))⟩, []⟩, ⟨⟨(some 15), none, (.mv (.tmp 1))⟩, []⟩, ⟨⟨(some 16), none, (.bslice 59 1 [(.slice none 0 0)] [⟨0, ⟨1, (.tmp 15)⟩⟩])⟩, []⟩, ⟨⟨(some 17), none, (.call (.func 50) [(.tmp 14), (.tmp 16)])⟩, []⟩, ⟨⟨(some 5), none, (.asg (.tmp 17))⟩, []⟩]) (.seq (.ops [18, 19] [⟨⟨(some 18), none, (.mv (.tmp 5))⟩, []⟩, ⟨⟨(some 19), none, (.bin .neq 40 (.tmp 18) (.const (.int .i64 0)))⟩, []⟩]) (.cond (.tmp 19) (.seq (.ops [20, 4, 5] [⟨⟨(some 20), none, (.mv (.tmp 5))⟩, []⟩, ⟨⟨(some 4), none, (.asg (.const (.bool false)))⟩, []⟩, ⟨⟨(some 5), none, (.asg (.tmp 20))⟩, []⟩]) .ret) .skip))) (.seq (.ops [6] [⟨⟨(some 6), none, (.asg (.const (.int .i64 0)))⟩, []⟩]) (.seq (.seq (.ops [21, 22, 23] [⟨⟨(some 21), none, (.mv (.tmp 0))⟩, []⟩, ⟨⟨(some 22), none, (.lenSl (.tmp 21))⟩, []⟩, ⟨⟨(some 23), none, (.mv (.const (.int .i64 0)))⟩, []⟩]) (.block 0 (.loop (.seq (.ops [24] [⟨⟨(some 24), none, (.bin .lss 3 (.tmp 23) (.tmp 22))⟩, []⟩]) (.seq (.cond (.tmp 24) .skip (.exit 0)) (.seq (.block 1 (.seq (.ops [25, 26, 27, 7, 8] [⟨⟨(some 25), none, (.mv (.tmp 23))⟩, []⟩, ⟨⟨(some 26), none, (.idxSl 1 (.tmp 21) (.tmp 23))⟩, []⟩, ⟨⟨(some 27), none, (.load1 (.tmp 26))⟩, []⟩, ⟨⟨(some 7), none, (.asg (.tmp 25))⟩, []⟩, ⟨⟨(some 8), none, (.asg (.tmp 27))⟩, []⟩]) (.seq (.seq (.ops [28, 29, 30, 31, 32] [⟨⟨(some 28), none, (.mv (.tmp 1))⟩, []⟩, ⟨⟨(some 29), none, (.mv (.tmp 7))⟩, []⟩, ⟨⟨(some 30), none, (.idxSl 1 (.tmp 28) (.tmp 29))⟩, []⟩, ⟨⟨(some 31), none, (.load1 (.tmp 30))⟩, []⟩, ⟨⟨(some 32), none, (.un .not (.tmp 31))⟩, []⟩]) (.cond (.tmp 32) (.exit 1) .skip)) (.seq (.ops [33, 34, 6] [⟨⟨(some 33), none, (.mv (.tmp 6))⟩, []⟩, ⟨⟨(some 34), none, (.bin .add 3 (.tmp 33) (.const (.int .i64 1)))⟩, []⟩, ⟨⟨(some 6), none, (.asg (.tmp 34))⟩, []⟩]) (.seq (.ops [9] [⟨⟨(some 9), none, (.asg (.const (.int .i64 0)))⟩, []⟩]) (.seq (.seq (.ops [35, 36, 37] [⟨⟨(some 35), none, (.mv (.tmp 8))⟩, []⟩, ⟨⟨(some 36), none, (.lenSl (.tmp 35))⟩, []⟩, ⟨⟨(some 37), none, (.mv (.const (.int .i64 0)))⟩, []⟩]) (.block 2 (.loop (.seq (.ops [38] [⟨⟨(some 38), none, (.bin .lss 3 (.tmp 37) (.tmp 36))⟩, []⟩]) (.seq (.cond (.tmp 38) .skip (.exit 2)) (.seq (.block 3 (.seq (.ops [39, 40, 11] [⟨⟨(some 39), none, (.idxSl 1 (.tmp 35) (.tmp 37))⟩, []⟩, ⟨⟨(some 40), none, (.load1 (.tmp 39))⟩, []⟩, ⟨⟨(some 11), none, (.asg (.tmp 40))⟩, []⟩]) (.seq (.ops [41, 42, 43, 44] [⟨⟨(some 41), none, (.mv (.tmp 1))⟩, []⟩, ⟨⟨(some 42), none, (.mv (.tmp 11))⟩, []⟩, ⟨⟨(some 43), none, (.idxSl 1 (.tmp 41) (.tmp 42))⟩, []⟩, ⟨⟨(some 44), none, (.load1 (.tmp 43))⟩, []⟩]) (.cond (.tmp 44) (.ops [45, 46, 9] [⟨⟨(some 45), none, (.mv (.tmp 9))⟩, []⟩, ⟨⟨(some 46), none, (.bin .add 3 (.tmp 45) (.const (.int .i64 1)))⟩, []⟩, ⟨⟨(some 9), none, (.asg (.tmp 46))⟩, []⟩]) .skip)))) (.ops [47, 37] [⟨⟨(some 47), none, (.bin .add 3 (.tmp 37) (.const (.int .i64 1)))⟩, []⟩, ⟨⟨(some 37), none, (.mv (.tmp 47))⟩, []⟩]))))))) (.seq (.ops [48, 49] [⟨⟨(some 48), none, (.mv (.tmp 9))⟩, []⟩, ⟨⟨(some 49), none, (.bin .neq 3 (.tmp 48) (.const (.int .i64 2)))⟩, []⟩]) (.cond (.tmp 49) (.seq (.ops [4, 5] [⟨⟨(some 4), none, (.asg (.const (.bool false)))⟩, []⟩, ⟨⟨(some 5), none, (.asg (.const (.int .i64 0)))⟩, []⟩]) .ret) .skip)))))))) (.ops [50, 23] [⟨⟨(some 50), none, (.bin .add 3 (.tmp 23) (.const (.int .i64 1)))⟩, []⟩, ⟨⟨(some 23), none, (.mv (.tmp 50))⟩, []⟩]))))))) (.seq (.ops [52, 53, 54, 51, 55, 56, 12, 13] [⟨⟨(some 52), none, (.mv (.tmp 0))⟩, []⟩, ⟨⟨(some 53), none, (.mv (.tmp 1))⟩, []⟩, ⟨⟨(some 54), none, (.call (.func 51) [(.tmp 52), (.tmp 53)])⟩, []⟩, ⟨⟨(some 51), none, (.mv (.tmp 54))⟩, []⟩, ⟨⟨(some 55), none, (.extract (.tmp 51) 0)⟩, []⟩, ⟨⟨(some 56), none, (.extract (.tmp 51) 1)⟩, []⟩, ⟨⟨(some 12), none, (.asg (.tmp 55))⟩, []⟩, ⟨⟨(some 13), none, (.asg (.tmp 56))⟩, []⟩]) (.seq (.ops [57, 58, 59, 60, 61, 62, 4, 5] [⟨⟨(some 57), none, (.mv (.tmp 6))⟩, []⟩, ⟨⟨(some 58), none, (.bin .geq 3 (.tmp 57) (.const (.int .i64 3)))⟩, []⟩, ⟨⟨(some 59), none, (.mv (.tmp 58))⟩, []⟩, ⟨⟨(some 60), (some ⟨59, true⟩), (.mv (.tmp 13))⟩, []⟩, ⟨⟨(some 61), (some ⟨59, true⟩), (.bin .eql 3 (.tmp 60) (.const (.int .i64 1)))⟩, []⟩, ⟨⟨(some 62), none, (.pick (.tmp 59) (.tmp 61) (.const (.bool false)))⟩, []⟩, ⟨⟨(some 4), none, (.asg (.tmp 62))⟩, []⟩, ⟨⟨(some 5), none, (.asg (.const (.int .i64 0)))⟩, []⟩]) .ret))))))⟩
theorem f_ring : (envOf Tryz.prog noCut noMemo).F 27 = some c_ring := by kernel_rfl

theorem zeros_nil (m : Nat) : zeros [.slice none 0 0] m = List.replicate m (.slice none 0 0) := zeros_one _ _

/-- what Components gives: a slice, an error -/
structure CompY where
  a : Option Addr
  n : Nat
  e : Int

theorem comps_ok {vg vin : Value} {g : List (List Int)} {inn : List Bool} (hll : ∀ l ∈ g, l.length < 9223372036854775808) :
    FnC Tryz.prog (.func 26) [vg, vin] [] [] [fSl (slE intE) vg g, fSl boolE vin inn] (fun y : CompY => .tuple ⟨[.slice y.a y.n y.n, .int .i64 y.e]⟩) (fun _ => []) (fun _ => [])
      (fun y => (y.e = 0 ↔ GOK g ∧ inn.length = g.length) ∧ (y.e = 0 → y.n = (partsN g inn g.length).2) ∧ (y.e ≠ 0 → y.n = 0)) := by
  refine q_beg c_comps f_comps fun B w0 => ?_
  refine q_form (E := boolE) (v := vin) (xs := inn) (by simp) fun a2 c2 e2 => ?_
  subst e2
  refine go ?_
  intro b12
  refine q_frz (frz_pt (b := b12)) (h := ?_)
  refine q_fact (fSl (slE boolE) (fullS b12 1) [inn]) (fun w hw => one_slice (v := .slice a2 inn.length c2) (hw _ (by simp)) (hw _ (by simp))) ?_
  refine q_call (gValid_ok (g := g) (sets := [inn]) hll (by simp)) (next := fun r hr => ?_)
  refine go ?_
  refine if_d rfl (fun h1 => ?_) (fun h1 => ?_)
  · refine go ?_
    exact q_fin ⟨none, 0, r⟩ (hv := rfl) (hp := ⟨⟨fun h => absurd h h1, fun h => absurd (hr.2 ⟨h.1, by simpa using h.2⟩) h1⟩, fun h => absurd h h1, fun _ => rfl⟩)
  have hr0 : r = 0 := Decidable.not_not.1 h1
  obtain ⟨hG, hin⟩ := hr.1 hr0
  have hin : inn.length = g.length := by simpa using hin
  have hlen := hG.len
  have hpk := partsN_ok g inn g.length
  refine go ?_
  refine q_call (parts_ok (g := g) (inn := inn) hG hll hin) (next := fun bp _ => ?_)
  refine go ?_
  refine q_mks (partsN g inn g.length).2 ⟨by omega, by omega, by omega⟩ fun bl => ?_
  rw [zeros_nil]
  refine st_aps0 intE (h := ?_)
  refine q_frz (frz_ints (b := bp) (f := 0) (c := g.length) (xs := (partsN g inn g.length).1)) (h := ?_)
  rw [hpk.1]
  refine go ?_
  refine q_loop (fun x => g.length - x.1) (fun x : Nat × List (List Int) => [(27, .int .i64 (x.1 : Int))]) (fun x => [apsA intE bl x.2]) (fun _ => [])
    (fun x => x.1 ≤ g.length ∧ x.2.length = (partsN g inn g.length).2 ∧ ∀ xs ∈ x.2, xs.length ≤ x.1) (0, List.replicate (partsN g inn g.length).2 []) ⟨Nat.zero_le _, by simp, fun xs hx => by rw [(List.mem_replicate.1 hx).2]; simp⟩ (body := ?_)
  rintro ⟨k, xss⟩ ⟨hk, hxl, hxs⟩
  dsimp only at hk hxl hxs ⊢
  refine go ?_
  refine if_d rfl (fun h2 => ?_) (fun h2 => ?_)
  · have hkp : k < (partsN g inn g.length).1.length := by omega
    refine go ?_
    intro _ _ p hp
    have hpr := hpk.2.2 p (List.mem_of_getElem? hp)
    refine go ?_
    refine if_d rfl (fun h3 => ?_) (fun h3 => ?_)
    · obtain ⟨p, rfl⟩ := Int.eq_ofNat_of_zero_le hpr.1
      have hp1 : ((p : Int) - 1).toNat < xss.length := by omega
      refine go ?_
      refine q_apsO intE (b := bl) (xss := xss) (List.getElem?_eq_getElem hp1) (h := fun vs v hvl hv => ?_)
      have hvk := hxs _ (List.getElem_mem hp1)
      refine q_get (o := 0 + ((p : Int) - 1).toNat * 1) (cs := vs) v (by rw [Nat.zero_add, Nat.mul_one]; exact hv) ?_
      refine go ?_
      intro b43
      refine q_app (xs := xss[((p : Int) - 1).toNat]) intE (k : Int) () (by omega) (next := fun ad => ?_)
      refine go ?_
      refine q_set (o := 0 + ((p : Int) - 1).toNat * 1) (cs := vs) (v := .slice ad (xss[((p : Int) - 1).toNat].length + 1) (xss[((p : Int) - 1).toNat].length + 1)) (cs' := vs.set ((p : Int) - 1).toNat (.slice ad (xss[((p : Int) - 1).toNat].length + 1) (xss[((p : Int) - 1).toNat].length + 1))) (by rw [Nat.zero_add, Nat.mul_one]) (by omega) ?_
      refine q_apsC intE (b := bl) (xss := xss) (vs := vs) (k := ((p : Int) - 1).toNat) (xs := xss[((p : Int) - 1).toNat] ++ [(k : Int)]) hvl hp1 (h := ?_)
      refine go ?_
      refine q_again (k + 1, xss.set ((p : Int) - 1).toNat (xss[((p : Int) - 1).toNat] ++ [(k : Int)])) (by show g.length - (k + 1) < g.length - k; omega) ⟨by show k + 1 ≤ _; omega, by show (xss.set _ _).length = _; rw [List.length_set]; exact hxl, fun xs hx => ?_⟩
      rcases List.mem_or_eq_of_mem_set hx with hx | rfl
      · have := hxs xs hx; show _ ≤ k + 1; omega
      · show _ ≤ k + 1; rw [List.length_append, List.length_singleton]; omega
    · refine go ?_
      exact q_again (k + 1, xss) (by show g.length - (k + 1) < g.length - k; omega) ⟨by show k + 1 ≤ _; omega, hxl, fun xs hx => by have := hxs xs hx; show _ ≤ k + 1; omega⟩
  refine go ?_
  exact q_fin ⟨some ⟨bl, 0, some 0⟩, (partsN g inn g.length).2, 0⟩ (hv := rfl) (hp := ⟨⟨fun _ => ⟨hG, hin⟩, fun _ => rfl⟩, fun _ => rfl, fun h => absurd rfl h⟩)

theorem ring_ok {vg vin : Value} {g : List (List Int)} {inn : List Bool} (hll : ∀ l ∈ g, l.length < 9223372036854775808) :
    FnC Tryz.prog (.func 27) [vg, vin] [] [] [fSl (slE intE) vg g, fSl boolE vin inn] (fun y : Bool × Int => .tuple ⟨[.bool y.1, .int .i64 y.2]⟩) (fun _ => []) (fun _ => [])
      (fun y => (y.2 = 0 ↔ GOK g ∧ inn.length = g.length) ∧ (y.2 = 0 → y.1 = ringB g inn) ∧ (y.2 ≠ 0 → y.1 = false)) := by
  refine q_beg c_ring f_ring fun B w0 => ?_
  refine q_form (E := boolE) (v := vin) (xs := inn) (by simp) fun a2 c2 e2 => ?_
  subst e2
  refine go ?_
  intro b12
  refine q_frz (frz_pt (b := b12)) (h := ?_)
  refine q_fact (fSl (slE boolE) (fullS b12 1) [inn]) (fun w hw => one_slice (v := .slice a2 inn.length c2) (hw _ (by simp)) (hw _ (by simp))) ?_
  refine q_call (gValid_ok (g := g) (sets := [inn]) hll (by simp)) (next := fun r hr => ?_)
  refine go ?_
  refine if_d rfl (fun h1 => ?_) (fun h1 => ?_)
  · refine go ?_
    exact q_fin (false, r) (hv := rfl) (hp := ⟨⟨fun h => absurd h h1, fun h => absurd (hr.2 ⟨h.1, by simpa using h.2⟩) h1⟩, fun h => absurd h h1, fun _ => rfl⟩)
  have hr0 : r = 0 := Decidable.not_not.1 h1
  obtain ⟨hG, hin⟩ := hr.1 hr0
  have hin : inn.length = g.length := by simpa using hin
  have hlen := hG.len
  refine go ?_
  refine q_loop (fun k => g.length - k) (fun k : Nat => [(23, .int .i64 (k : Int)), (6, .int .i64 (sizeN inn k : Int))]) (fun _ => []) (fun _ => []) (fun k => k ≤ g.length ∧ degs g inn k) 0 ⟨Nat.zero_le _, fun i hi => by omega⟩ (body := ?_)
  rintro k ⟨hk, hdg⟩
  have hsz := sizeN_le inn k
  have hsucc := sizeN_succ inn k
  refine go ?_
  refine if_d rfl (fun h2 => ?_) (fun h2 => ?_)
  · refine go ?_
    refine q_idx (slE intE) (xs := g) (next := fun _ _ l (vl : Value) hl => ?_)
    have hl1 := hll l (List.mem_of_getElem? hl)
    have hgd : g.getD k [] = l := by rw [List.getD_eq_getElem?_getD, hl]; rfl
    refine go ?_
    intro _ _ c hc
    have hc' : inB inn (k : Nat) = c := by unfold inB; rw [Int.toNat_natCast, List.getD_eq_getElem?_getD, hc]; rfl
    rw [hc'] at hsucc
    refine go ?_
    cases c with
    | false =>
      refine go ?_
      refine q_again (k + 1) (by omega) ⟨by omega, fun i hi hii => ?_⟩ (hl := ⟨rfl, by rw [hsucc]; rfl, by repeat (first | exact trivial | refine ⟨rfl, ?_⟩)⟩)
      by_cases e : i = k
      · subst e; rw [hc'] at hii; cases hii
      · exact hdg i (by omega) hii
    | true =>
      refine go ?_
      refine q_loop (fun j => l.length - j) (fun j : Nat => [(37, .int .i64 (j : Int)), (9, .int .i64 (degL inn (l.take j) : Int))]) (fun _ => []) (fun _ => []) (fun j => j ≤ l.length) 0 (Nat.zero_le _) (body := ?_)
      intro j hj
      refine go ?_
      refine if_d rfl (fun h3 => ?_) (fun h3 => ?_)
      · refine go ?_
        intro _ _ n hn
        have hnr := hG.ok k l hl j n hn
        obtain ⟨n, rfl⟩ := Int.eq_ofNat_of_zero_le hnr.1
        refine go ?_
        intro _ _ d hd
        have hd' : inB inn (n : Nat) = d := by unfold inB; rw [Int.toNat_natCast, List.getD_eq_getElem?_getD, hd]; rfl
        have hstep : degL inn (l.take (j + 1)) = degL inn (l.take j) + if d then 1 else 0 := by
          rw [degL, take_one hn, List.filter_append, List.length_append, ← degL]
          congr 1
          simp only [List.filter_cons, List.filter_nil, hd']
          split <;> rfl
        have hdl : degL inn (l.take j) ≤ j := by
          have := List.length_filter_le (inB inn) (l.take j)
          rw [List.length_take] at this
          unfold degL; omega
        refine go ?_
        cases d with
        | false =>
          refine go ?_
          exact q_again (j + 1) (by omega) (by omega) (hl := ⟨rfl, by rw [hstep]; rfl, by repeat (first | exact trivial | refine ⟨rfl, ?_⟩)⟩)
        | true =>
          refine go ?_
          exact q_again (j + 1) (by omega) (by omega) (hl := ⟨rfl, by rw [hstep]; rfl, by repeat (first | exact trivial | refine ⟨rfl, ?_⟩)⟩)
      have hjl : j = l.length := by omega
      subst hjl
      rw [List.take_length]
      refine go ?_
      refine if_d rfl (fun h4 => ?_) (fun h4 => ?_)
      · refine go ?_
        refine q_fin (false, 0) (hv := rfl) (hp := ⟨⟨fun _ => ⟨hG, hin⟩, fun _ => rfl⟩, fun _ => ?_, fun h => absurd rfl h⟩)
        refine (ringB_false fun h => h4 ?_).symm
        have := h.1 k (by omega) hc'
        rw [hgd] at this
        rw [this]; rfl
      refine go ?_
      refine q_again (k + 1) (by omega) ⟨by omega, fun i hi hii => ?_⟩ (hl := ⟨rfl, by rw [hsucc]; rfl, by repeat (first | exact trivial | refine ⟨rfl, ?_⟩)⟩)
      by_cases e : i = k
      · subst e; rw [hgd]; omega
      · exact hdg i (by omega) hii
  have hkl : k = g.length := by omega
  subst hkl
  refine go ?_
  refine q_call (parts_ok (g := g) (inn := inn) hG hll hin) (next := fun bp _ => ?_)
  refine go ?_
  first | with_reducible refine g_d (fun h5 => ?_) (fun h5 => ?_) | with_reducible refine g_n (fun h5 => ?_) (fun h5 => ?_) | with_reducible refine g_b (fun h5 => ?_) (fun h5 => ?_)
  · refine go ?_
    refine q_fin (false, 0) (hv := rfl) (hp := ⟨⟨fun _ => ⟨hG, hin⟩, fun _ => rfl⟩, fun _ => ?_, fun h => absurd rfl h⟩)
    exact (ringB_false fun h => by have := h.2.1; omega).symm
  refine go ?_
  refine q_fin (decide (((partsN g inn g.length).2 : Int) = 1), 0) (hv := rfl) (hp := ⟨⟨fun _ => ⟨hG, hin⟩, fun _ => rfl⟩, fun _ => ?_, fun h => absurd rfl h⟩)
  rw [Bool.eq_iff_iff, decide_eq_true_iff, ringB_iff]
  exact ⟨fun h => ⟨hdg, by omega, by omega⟩, fun h => by have := h.2.2; omega⟩
end Go.Proofs.YtpkieeggilkagaaGreat

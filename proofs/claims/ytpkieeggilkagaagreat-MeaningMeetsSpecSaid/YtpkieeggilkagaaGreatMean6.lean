/-
  Graphs: parts, components, rings.
-/
import Derived.Test.YtpkieeggilkagaaGreatMean5
import Derived.Test.YtpkieeggilkagaaGreatIdealM
set_option linter.unusedSimpArgs false
set_option linter.unusedVariables false
set_option maxHeartbeats 2000000
set_option maxRecDepth 10000
namespace Go.Proofs.YtpkieeggilkagaaGreat
open Go.Ideal Gph

noncomputable def c_parts : CFunc := ⟨42, [(.cell1 4), (.cell1 5)], (.seq (.ops [4, 5] [⟨⟨(some 4), none, (.new [(.slice none 0 0)] 22)⟩, []⟩, ⟨⟨(some 5), none, (.new [(.int .i64 0)] 3)⟩, []⟩]) (.seq (.ops [8, 9, 10] [⟨⟨(some 8), none, (.mv (.tmp 0))⟩, []⟩, ⟨⟨(some 9), none, (.lenSl (.tmp 8))⟩, []⟩, ⟨⟨(some 10), none, (.mkslice 3 1 8 [(.int .i64 0)] (.tmp 9) (.tmp 9))⟩, []⟩, ⟨⟨none, none, (.store 1 (.tmp 4) (.tmp 10))⟩, []⟩]) (.seq (.seq (.ops [11, 12, 13] [⟨⟨(some 11), none, (.mv (.tmp 0))⟩, []⟩, ⟨⟨(some 12), none, (.lenSl (.tmp 11))⟩, []⟩, ⟨⟨(some 13), none, (.mv (.const (.int .i64 0)))⟩, []⟩]) (.block 0 (.loop (.seq (.ops [14] [⟨⟨(some 14), none, (.bin .lss 3 (.tmp 13) (.tmp 12))⟩, []⟩]) (.seq (.cond (.tmp 14) .skip (.exit 0)) (.seq (.block 1 (.seq (.ops [15, 6] [⟨⟨(some 15), none, (.mv (.tmp 13))⟩, []⟩, ⟨⟨(some 6), none, (.asg (.tmp 15))⟩, []⟩]) (.seq (.seq (.ops [16, 17, 18, 19, 20, 21, 22, 23, 24, 25, 26, 27] [⟨⟨(some 16), none, (.mv (.tmp 1))⟩, []⟩, ⟨⟨(some 17), none, (.mv (.tmp 6))⟩, []⟩, ⟨⟨(some 18), none, (.idxSl 1 (.tmp 16) (.tmp 17))⟩, []⟩, ⟨⟨(some 19), none, (.load1 (.tmp 18))⟩, []⟩, ⟨⟨(some 20), none, (.un .not (.tmp 19))⟩, []⟩, ⟨⟨(some 21), none, (.mv (.tmp 20))⟩, []⟩, ⟨⟨(some 22), (some ⟨21, false⟩), (.load1 (.tmp 4))⟩, []⟩, ⟨⟨(some 23), (some ⟨21, false⟩), (.mv (.tmp 6))⟩, []⟩, ⟨⟨(some 24), (some ⟨21, false⟩), (.idxSl 1 (.tmp 22) (.tmp 23))⟩, []⟩, ⟨⟨(some 25), (some ⟨21, false⟩), (.load1 (.tmp 24))⟩, []⟩, ⟨⟨(some 26), (some ⟨21, false⟩), (.bin .gtr 3 (.tmp 25) (.const (.int .i64 0)))⟩, []⟩, ⟨⟨(some 27), none, (.pick (.tmp 21) (.const (.bool true)) (.tmp 26))⟩, []⟩]) (.cond (.tmp 27) (.exit 1) .skip)) (.seq (.ops [28, 29] [⟨⟨(some 28), none, (.load1 (.tmp 5))⟩, []⟩, ⟨⟨(some 29), none, (.bin .add 3 (.tmp 28) (.const (.int .i64 1)))⟩, []⟩, ⟨⟨none, none, (.store 1 (.tmp 5) (.tmp 29))⟩, []⟩]) (.seq (.ops [30, 31, 32, 33] [⟨⟨(some 30), none, (.mv (.tmp 0))⟩, []⟩, ⟨⟨(some 31), none, (.mv (.tmp 1))⟩, []⟩, ⟨⟨(some 32), none, (.mv (.tmp 6))⟩, []⟩, ⟨⟨(some 33), none, (.call (.func 112) [(.tmp 30), (.tmp 31), (.tmp 32)])⟩, []⟩]) (.block 2 (.rangeFunc (.tmp 33) [34] (.ops [7] [⟨⟨(some 7), none, (.asg (.tmp 34))⟩, []⟩]) (.block 3 (.ops [35, 36, 37, 38] [⟨⟨(some 35), none, (.load1 (.tmp 4))⟩, []⟩, ⟨⟨(some 36), none, (.mv (.tmp 7))⟩, []⟩, ⟨⟨(some 37), none, (.load1 (.tmp 5))⟩, []⟩, ⟨⟨(some 38), none, (.idxSl 1 (.tmp 35) (.tmp 36))⟩, []⟩, ⟨⟨none, none, (.store 1 (.tmp 38) (.tmp 37))⟩, []⟩]))))))))) (.ops [39, 13] [⟨⟨(some 39), none, (.bin .add 3 (.tmp 13) (.const (.int .i64 1)))⟩, []⟩, ⟨⟨(some 13), none, (.mv (.tmp 39))⟩, []⟩]))))))) (.seq (.ops [40, 41] [⟨⟨(some 40), none, (.load1 (.tmp 4))⟩, []⟩, ⟨⟨(some 41), none, (.load1 (.tmp 5))⟩, []⟩, ⟨⟨none, none, (.store 1 (.tmp 4) (.tmp 40))⟩, [⟨(some 41), none, (.load1 (.tmp 5))⟩]⟩, ⟨⟨none, none, (.store 1 (.tmp 5) (.tmp 41))⟩, []⟩]) .ret))))⟩
theorem f_parts : (envOf Tryz.prog noCut noMemo).F 51 = some c_parts := by kernel_rfl

theorem GOK.rg {g : List (List Int)} (h : GOK g) : ∀ l ∈ g, ∀ n ∈ l, Rg g n := fun l hl n hn => by
  obtain ⟨i, hi⟩ := List.getElem?_of_mem hl
  obtain ⟨k, hk⟩ := List.getElem?_of_mem hn
  have := h.ok i l hi k n hk
  exact ⟨this.1, this.2.1⟩

theorem reach_ok {vg vin : Value} {g : List (List Int)} {inn : List Bool} {s : Int} : FnC Tryz.prog (.func 112) [vg, vin, .int .i64 s] [] [] [fSl (slE intE) vg g, fSl boolE vin inn]
    (fun y : Nat × Nat × Nat => .func (.func 158) #[] #[ptr' y.1, ptr' y.2.2, ptr' y.2.1]) (fun _ => []) (fun y => [fRaw y.1 0 [vg], fRaw y.2.1 0 [vin], fRaw y.2.2 0 [.int .i64 s], fSl (slE intE) vg g, fSl boolE vin inn]) (fun _ => True) := by
  refine q_beg c_reach f_reach fun B w0 => ?_
  refine q_form (E := slE intE) (v := vg) (xs := g) (by simp) fun a1 c1 e1 => ?_
  refine q_form (E := boolE) (v := vin) (xs := inn) (by simp) fun a2 c2 e2 => ?_
  subst e1 e2
  refine go ?_
  intro b3 b4 b5
  refine q_frz (frz_pt (b := b3)) (h := ?_)
  refine q_frz (frz_pt (b := b4)) (h := ?_)
  refine q_frz (frz_pt (b := b5)) (h := ?_)
  exact q_fin (b3, b4, b5) (hv := rfl) (hp := trivial)

theorem zeros_int (m : Nat) : zeros [.int .i64 0] m = (List.replicate m (0 : Int)).map (Value.int .i64) := by rw [zeros_one, List.map_replicate]

theorem runO_fold {S α : Type} (f : S → α → S) : ∀ (xs : List α) (s : S), runO (fun s x => (f s x, Out.normal)) s xs = (xs.foldl f s, .normal)
  | [], s => rfl
  | x :: xs, s => by rw [runO]; exact runO_fold f xs (f s x)

abbrev fullS (b n : Nat) : Value := .slice (some ⟨b, 0, some 0⟩) n n

theorem parts_ok {vg vin : Value} {g : List (List Int)} {inn : List Bool} (hG : GOK g) (hll : ∀ l ∈ g, l.length < 9223372036854775808) (hin : inn.length = g.length) :
    FnC Tryz.prog (.func 51) [vg, vin] [] [] [fSl (slE intE) vg g, fSl boolE vin inn] (fun b : Nat => .tuple ⟨[fullS b g.length, .int .i64 ((partsN g inn g.length).2 : Int)]⟩)
      (fun b => [pt b (.cells ((partsN g inn g.length).1.map (.int .i64)))]) (fun _ => []) (fun _ => True) := by
  refine q_begD c_parts f_parts fun B w0 => ?_
  have hlen := hG.len
  refine go ?_
  intro b4 b5
  refine q_mks g.length ⟨by omega, by omega, by omega⟩ fun bp => ?_
  rw [zeros_int]
  refine go ?_
  refine q_col0 ?_
  refine q_loopD (fun x => x.2.map dfr) (fun x => g.length - x.1) (fun x : Nat × List Nat => [(13, .int .i64 (x.1 : Int))])
    (fun x => [colA x.2, pt b4 (.cells [fullS bp g.length]), pt b5 (.cells [.int .i64 ((partsN g inn x.1).2 : Int)]), pt bp (.cells ((partsN g inn x.1).1.map (.int .i64)))]) (fun _ => []) (fun x => x.1 ≤ g.length) (0, []) (Nat.zero_le _)
    (hk := by repeat (first | exact SelL.nil | (apply SelL.cons; (focus (repeat (first | exact Sel.here | apply Sel.there)))))) (body := ?_)
  rintro ⟨k, rs⟩ hk
  dsimp only at hk ⊢
  have hpk := partsN_ok g inn k
  have hst := partsN_succ g inn k
  refine go ?_
  refine if_d rfl (fun h1 => ?_) (fun h1 => ?_)
  · refine go ?_
    intro _ _ c hc
    have hc' : inB inn (k : Nat) = c := by unfold inB; rw [Int.toNat_natCast, List.getD_eq_getElem?_getD, hc]; rfl
    have hkl : k < (partsN g inn k).1.length := by omega
    have same : ¬ (inB inn (k : Nat) = true ∧ (partsN g inn k).1.getD k 0 ≤ 0) → partsN g inn (k + 1) = partsN g inn k := fun h => by rw [hst, partStep, if_neg h]
    have hgd : (partsN g inn k).1.getD k 0 = (partsN g inn k).1[k] := by rw [List.getD_eq_getElem?_getD, List.getElem?_eq_getElem hkl]; rfl
    refine go ?_
    first | with_reducible refine g_d (fun h2 => ?_) (fun h2 => ?_) | with_reducible refine g_n (fun h2 => ?_) (fun h2 => ?_) | with_reducible refine g_b (fun h2 => ?_) (fun h2 => ?_)
    · have hct : c = true := by simpa using h2
      refine go ?_
      refine q_get (o := 0 + k * 1) (cs := (partsN g inn k).1.map (.int .i64)) (.int .i64 (partsN g inn k).1[k]) (by rw [Nat.zero_add, Nat.mul_one, List.getElem?_map, List.getElem?_eq_getElem hkl]; rfl) ?_
      refine go ?_
      refine if_d rfl (fun h3 => ?_) (fun h3 => ?_)
      · have e := same (fun h => by rw [hgd] at h; omega)
        refine go ?_
        exact q_againD (k + 1, rs) (by show g.length - (k + 1) < g.length - k; omega) (by show k + 1 ≤ _; omega) (ha := by dsimp only; rw [e]; repeat (first | exact AppR.nil | apply AppR.cons | exact AppR.self | exact AppR.app))
      refine go ?_
      refine q_call (reach_ok (g := g) (inn := inn) (s := (k : Int))) (next := fun y _ => ?_)
      refine go ?_
      have hkr : Rg g (k : Int) := ⟨by omega, by omega⟩
      have hrr := reachL_rg (inn := inn) hG.rg hkr
      have hstep : partsN g inn (k + 1) = (paint (partsN g inn k).1 (reachL g inn k) ((partsN g inn k).2 + 1 : Nat), (partsN g inn k).2 + 1) := by
        rw [hst, partStep, if_pos ⟨by rw [hc', hct], by rw [hgd]; omega⟩]
      refine q_rng (val := fun x : Int => .int .i64 x) (fun (p : List Int) (n : Int) => (p.set n.toNat (((partsN g inn k).2 : Int) + 1), Out.normal))
        (fun p => [pt b4 (.cells [fullS bp g.length]), pt b5 (.cells [.int .i64 (((partsN g inn k).2 : Int) + 1)]), pt bp (.cells (p.map (.int .i64)))]) (fun _ p => p.length = g.length) (partsN g inn k).1 hpk.1 (fun k s x hs hx _ => by simp [hs])
        (reach1_ok (b3 := y.1) (b5 := y.2.2) (b4 := y.2.1) (s0 := (k : Int)) hG hll hin ⟨by omega, by omega⟩) (hb := ?_) (next := ?_) (hpan := fun s x => trivial)
      · intro j p n lo L B w0 hp hn
        have hnr := hrr n (List.mem_of_getElem? hn)
        unfold Rg at hnr
        obtain ⟨n, rfl⟩ := Int.eq_ofNat_of_zero_le hnr.1
        refine go ?_
        refine q_set (o := 0 + n * 1) (cs := p.map (.int .i64)) (v := .int .i64 (((partsN g inn k).2 : Int) + 1)) (cs' := (p.set ((n : Int).toNat) (((partsN g inn k).2 : Int) + 1)).map (.int .i64)) (by rw [List.map_set]; simp) (by simp; omega) ?_
        refine go ?_
        exact q_rend () rfl trivial trivial
      · intro r
        rw [runO_fold]
        dsimp only [List.cons_append, List.nil_append]
        refine go ?_
        refine q_col (rs := rs) (r := r) (h := ?_)
        have e1 : ((reachL g inn (k : Nat)).foldl (fun (p : List Int) (n : Int) => p.set n.toNat (((partsN g inn k).2 : Int) + 1)) (partsN g inn k).1) = (partsN g inn (k + 1)).1 := by rw [hstep]; rfl
        have e2 : (((partsN g inn k).2 : Int) + 1) = ((partsN g inn (k + 1)).2 : Int) := by rw [hstep]; rfl
        rw [e1, e2]
        exact q_againD (k + 1, r :: rs) (by show g.length - (k + 1) < g.length - k; omega) (by show k + 1 ≤ _; omega)
    · have hcf : c = false := by simpa using h2
      have e := same (fun h => by rw [hc', hcf] at h; cases h.1)
      refine go ?_
      exact q_againD (k + 1, rs) (by show g.length - (k + 1) < g.length - k; omega) (by show k + 1 ≤ _; omega) (ha := by dsimp only; rw [e]; repeat (first | exact AppR.nil | apply AppR.cons | exact AppR.self | exact AppR.app))
  have hkl : k = g.length := by omega
  subst hkl
  refine go ?_
  exact q_finC (rs := rs) bp (hv := rfl) (hp := trivial)
end Go.Proofs.YtpkieeggilkagaaGreat

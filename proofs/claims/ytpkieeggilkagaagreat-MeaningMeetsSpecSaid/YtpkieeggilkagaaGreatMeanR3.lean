/-
  The reference's graphs: components, rings.
-/
import Derived.Test.YtpkieeggilkagaaGreatMeanR2
set_option linter.unusedSimpArgs false
set_option linter.unusedVariables false
set_option maxHeartbeats 2000000
set_option maxRecDepth 10000
namespace Go.Proofs.YtpkieeggilkagaaGreat
open Go.Ideal Gph

noncomputable def c_rList : CFunc := ⟨20, [(.tmp 2)], (.seq (.ops [2] [⟨⟨(some 2), none, (.asg (.const (.slice none 0 0)))⟩, []⟩]) (.seq (.ops [3] [⟨⟨(some 3), none, (.asg (.const (.slice none 0 0)))⟩, []⟩]) (.seq (.seq (.ops [4] [⟨⟨(some 4), none, (.asg (.const (.int .i64 0)))⟩, []⟩]) (.block 0 (.loop (.seq (.seq (.ops [5, 6, 7, 8] [⟨⟨(some 5), none, (.mv (.tmp 4))⟩, []⟩, ⟨⟨(some 6), none, (.mv (.tmp 0))⟩, []⟩, ⟨⟨(some 7), none, (.lenSl (.tmp 6))⟩, []⟩, ⟨⟨(some 8), none, (.bin .lss 3 (.tmp 5) (.tmp 7))⟩, []⟩]) (.cond (.tmp 8) .skip (.exit 0))) (.seq (.block 1 (.seq (.ops [11, 12, 13, 14] [⟨⟨(some 11), none, (.mv (.tmp 0))⟩, []⟩, ⟨⟨(some 12), none, (.mv (.tmp 4))⟩, []⟩, ⟨⟨(some 13), none, (.idxSl 1 (.tmp 11) (.tmp 12))⟩, []⟩, ⟨⟨(some 14), none, (.load1 (.tmp 13))⟩, []⟩]) (.cond (.tmp 14) (.ops [15, 16, 17, 18, 3] [⟨⟨(some 15), none, (.mv (.tmp 3))⟩, []⟩, ⟨⟨(some 16), none, (.mv (.tmp 4))⟩, []⟩, ⟨⟨(some 17), none, (.bslice 3 1 [(.int .i64 0)] [⟨0, ⟨1, (.tmp 16)⟩⟩])⟩, []⟩, ⟨⟨(some 18), none, (.append 3 1 8 (.tmp 15) (.tmp 17))⟩, []⟩, ⟨⟨(some 3), none, (.asg (.tmp 18))⟩, []⟩]) .skip))) (.ops [9, 10, 4] [⟨⟨(some 9), none, (.mv (.tmp 4))⟩, []⟩, ⟨⟨(some 10), none, (.bin .add 3 (.tmp 9) (.const (.int .i64 1)))⟩, []⟩, ⟨⟨(some 4), none, (.asg (.tmp 10))⟩, []⟩])))))) (.seq (.ops [19, 2] [⟨⟨(some 19), none, (.mv (.tmp 3))⟩, []⟩, ⟨⟨(some 2), none, (.asg (.tmp 19))⟩, []⟩]) .ret))))⟩
theorem f_rList : (envOf Tryz.prog noCut noMemo).F 179 = some c_rList := by kernel_rfl
noncomputable def c_rComps : CFunc := ⟨43, [(.tmp 4), (.tmp 5)], (.seq (.ops [4, 5] [⟨⟨(some 4), none, (.asg (.const (.slice none 0 0)))⟩, []⟩, ⟨⟨(some 5), none, (.asg (.const (.int .i64 0)))⟩, []⟩]) (.seq (.seq (.ops [9, 10, 11] [⟨⟨(some 9), none, (.mv (.tmp 0))⟩, []⟩, ⟨⟨(some 10), none, (.call (.func 155) [(.tmp 9)])⟩, []⟩, ⟨⟨(some 11), none, (.bin .neq 40 (.tmp 10) (.const (.int .i64 0)))⟩, []⟩]) (.cond (.tmp 11) (.seq (.ops [4, 5] [⟨⟨(some 4), none, (.asg (.const (.slice none 0 0)))⟩, []⟩, ⟨⟨(some 5), none, (.asg (.const (.int .i64 120)))⟩, []⟩]) .ret) .skip)) (.seq (.seq (.ops [12, 13, 14, 15, 16] [⟨⟨(some 12), none, (.mv (.tmp 1))⟩, []⟩, ⟨⟨(some 13), none, (.lenSl (.tmp 12))⟩, []⟩, ⟨⟨(some 14), none, (.mv (.tmp 0))⟩, []⟩, ⟨⟨(some 15), none, (.lenSl (.tmp 14))⟩, []⟩, ⟨⟨(some 16), none, (.bin .neq 3 (.tmp 13) (.tmp 15))⟩, []⟩]) (.cond (.tmp 16) (.seq (.ops [4, 5] [⟨⟨(some 4), none, (.asg (.const (.slice none 0 0)))⟩, []⟩, ⟨⟨(some 5), none, (.asg (.const (.int .i64 1)))⟩, []⟩]) .ret) .skip)) (.seq (.ops [6] [⟨⟨(some 6), none, (.asg (.const (.slice none 0 0)))⟩, []⟩]) (.seq (.seq (.ops [7] [⟨⟨(some 7), none, (.asg (.const (.int .i64 0)))⟩, []⟩]) (.block 0 (.loop (.seq (.seq (.ops [17, 18, 19, 20] [⟨⟨(some 17), none, (.mv (.tmp 7))⟩, []⟩, ⟨⟨(some 18), none, (.mv (.tmp 0))⟩, []⟩, ⟨⟨(some 19), none, (.lenSl (.tmp 18))⟩, []⟩, ⟨⟨(some 20), none, (.bin .lss 3 (.tmp 17) (.tmp 19))⟩, []⟩]) (.cond (.tmp 20) .skip (.exit 0))) (.seq (.block 1 (.seq (.seq (.ops [23, 24, 25, 26, 27] [⟨⟨(some 23), none, (.mv (.tmp 1))⟩, []⟩, ⟨⟨(some 24), none, (.mv (.tmp 7))⟩, []⟩, ⟨⟨(some 25), none, (.idxSl 1 (.tmp 23) (.tmp 24))⟩, []⟩, ⟨⟨(some 26), none, (.load1 (.tmp 25))⟩, []⟩, ⟨⟨(some 27), none, (.un .not (.tmp 26))⟩, []⟩]) (.cond (.tmp 27) (.exit 1) .skip)) (.seq (.ops [28, 29, 30, 31, 32, 8] [⟨⟨(some 28), none, (.mv (.tmp 0))⟩, []⟩, ⟨⟨(some 29), none, (.mv (.tmp 1))⟩, []⟩, ⟨⟨(some 30), none, (.mv (.tmp 7))⟩, []⟩, ⟨⟨(some 31), none, (.call (.func 180) [(.tmp 28), (.tmp 29), (.tmp 30)])⟩, []⟩, ⟨⟨(some 32), none, (.call (.func 179) [(.tmp 31)])⟩, []⟩, ⟨⟨(some 8), none, (.asg (.tmp 32))⟩, []⟩]) (.seq (.ops [33, 34, 35, 36, 37] [⟨⟨(some 33), none, (.mv (.tmp 8))⟩, []⟩, ⟨⟨(some 34), none, (.idxSl 1 (.tmp 33) (.const (.int .i64 0)))⟩, []⟩, ⟨⟨(some 35), none, (.load1 (.tmp 34))⟩, []⟩, ⟨⟨(some 36), none, (.mv (.tmp 7))⟩, []⟩, ⟨⟨(some 37), none, (.bin .eql 3 (.tmp 35) (.tmp 36))⟩, []⟩]) (.cond (.tmp 37) (.ops [38, 39, 40, 41, 6] [⟨⟨(some 38), none, (.mv (.tmp 6))⟩, []⟩, ⟨⟨(some 39), none, (.mv (.tmp 8))⟩, []⟩, ⟨⟨(some 40), none, (.bslice 22 1 [(.slice none 0 0)] [⟨0, ⟨1, (.tmp 39)⟩⟩])⟩, []⟩, ⟨⟨(some 41), none, (.append 22 1 24 (.tmp 38) (.tmp 40))⟩, []⟩, ⟨⟨(some 6), none, (.asg (.tmp 41))⟩, []⟩]) .skip))))) (.ops [21, 22, 7] [⟨⟨(some 21), none, (.mv (.tmp 7))⟩, []⟩, ⟨⟨(some 22), none, (.bin .add 3 (.tmp 21) (.const (.int .i64 1)))⟩, []⟩, ⟨⟨(some 7), none, (.asg (.tmp 22))⟩, []⟩])))))) (.seq (.ops [42, 4, 5] [⟨⟨(some 42), none, (.mv (.tmp 6))⟩, []⟩, ⟨⟨(some 4), none, (.asg (.tmp 42))⟩, []⟩, ⟨⟨(some 5), none, (.asg (.const (.int .i64 0)))⟩, []⟩]) .ret))))))⟩
theorem f_rComps : (envOf Tryz.prog noCut noMemo).F 136 = some c_rComps := by kernel_rfl
noncomputable def c_rRing : CFunc := ⟨75, [(.tmp 4), (.tmp 5)], (.seq (.ops [4, 5] [⟨⟨(some 4), none, (.asg (.const (.bool false)))⟩, []⟩, ⟨⟨(some 5), none, (.asg (.const (.int .i64 0)))⟩, []⟩]) (.seq (.seq (.ops [11, 12, 13] [⟨⟨(some 11), none, (.mv (.tmp 0))⟩, []⟩, ⟨⟨(some 12), none, (.call (.func 155) [(.tmp 11)])⟩, []⟩, ⟨⟨(some 13), none, (.bin .neq 40 (.tmp 12) (.const (.int .i64 0)))⟩, []⟩]) (.cond (.tmp 13) (.seq (.ops [4, 5] [⟨⟨(some 4), none, (.asg (.const (.bool false)))⟩, []⟩, ⟨⟨(some 5), none, (.asg (.const (.int .i64 120)))⟩, []⟩]) .ret) .skip)) (.seq (.seq (.ops [14, 15, 16, 17, 18] [⟨⟨(some 14), none, (.mv (.tmp 1))⟩, []⟩, ⟨⟨(some 15), none, (.lenSl (.tmp 14))⟩, []⟩, ⟨⟨(some 16), none, (.mv (.tmp 0))⟩, []⟩, ⟨⟨(some 17), none, (.lenSl (.tmp 16))⟩, []⟩, ⟨⟨(some 18), none, (.bin .neq 3 (.tmp 15) (.tmp 17))⟩, []⟩]) (.cond (.tmp 18) (.seq (.ops [4, 5] [⟨⟨(some 4), none, (.asg (.const (.bool false)))⟩, []⟩, ⟨⟨(some 5), none, (.asg (.const (.int .i64 1)))⟩, []⟩]) .ret) .skip)) (.seq (.ops [19, 20, 6] [⟨⟨(some 19), none, (.mv (.tmp 1))⟩, []⟩, ⟨⟨(some 20), none, (.call (.func 179) [(.tmp 19)])⟩, []⟩, ⟨⟨(some 6), none, (.asg (.tmp 20))⟩, []⟩]) (.seq (.seq (.ops [21, 22, 23] [⟨⟨(some 21), none, (.mv (.tmp 6))⟩, []⟩, ⟨⟨(some 22), none, (.lenSl (.tmp 21))⟩, []⟩, ⟨⟨(some 23), none, (.bin .lss 3 (.tmp 22) (.const (.int .i64 3)))⟩, []⟩]) (.cond (.tmp 23) (.seq (.ops [4, 5] [⟨⟨(some 4), none, (.asg (.const (.bool false)))⟩, []⟩, ⟨⟨(some 5), none, (.asg (.const (.int .i64 0)))⟩, []⟩]) .ret) .skip)) (.seq (.ops [24, 25, 26, 27, 28, 29, 7] [⟨⟨(some 24), none, (.mv (.tmp 0))⟩, []⟩, ⟨⟨(some 25), none, (.mv (.tmp 1))⟩, []⟩, ⟨⟨(some 26), none, (.mv (.tmp 6))⟩, []⟩, ⟨⟨(some 27), none, (.idxSl 1 (.tmp 26) (.const (.int .i64 0)))⟩, []⟩, ⟨⟨(some 28), none, (.load1 (.tmp 27))⟩, []⟩, ⟨⟨(some 29), none, (.call (.func 180) [(.tmp 24), (.tmp 25), (.tmp 28)])⟩, []⟩, ⟨⟨(some 7), none, (.asg (.tmp 29))⟩, []⟩]) (.seq (.seq (.ops [8] [⟨⟨(some 8), none, (.asg (.const (.int .i64 0)))⟩, []⟩]) (.block 0 (.loop (.seq (.seq (.ops [30, 31, 32, 33] [⟨⟨(some 30), none, (.mv (.tmp 8))⟩, []⟩, ⟨⟨(some 31), none, (.mv (.tmp 6))⟩, []⟩, ⟨⟨(some 32), none, (.lenSl (.tmp 31))⟩, []⟩, ⟨⟨(some 33), none, (.bin .lss 3 (.tmp 30) (.tmp 32))⟩, []⟩]) (.cond (.tmp 33) .skip (.exit 0))) (.seq (.block 1 (.seq (.ops [9] [⟨⟨(some 9), none, (.asg (.const (.int .i64 0)))⟩, []⟩]) (.seq (.seq (.ops [10] [⟨⟨(some 10), none, (.asg (.const (.int .i64 0)))⟩, []⟩]) (.block 2 (.loop (.seq (.seq (.ops [36, 37, 38, 39, 40, 41, 42, 43, 44, 45] [⟨⟨(some 36), none, (.mv (.tmp 10))⟩, []⟩, ⟨⟨(some 37), none, (.mv (.tmp 0))⟩, []⟩, ⟨⟨(some 38), none, (.mv (.tmp 6))⟩, []⟩, ⟨⟨(some 39), none, (.mv (.tmp 8))⟩, []⟩, ⟨⟨(some 40), none, (.idxSl 1 (.tmp 38) (.tmp 39))⟩, []⟩, ⟨⟨(some 41), none, (.load1 (.tmp 40))⟩, []⟩, ⟨⟨(some 42), none, (.idxSl 1 (.tmp 37) (.tmp 41))⟩, []⟩, ⟨⟨(some 43), none, (.load1 (.tmp 42))⟩, []⟩, ⟨⟨(some 44), none, (.lenSl (.tmp 43))⟩, []⟩, ⟨⟨(some 45), none, (.bin .lss 3 (.tmp 36) (.tmp 44))⟩, []⟩]) (.cond (.tmp 45) .skip (.exit 2))) (.seq (.block 3 (.seq (.ops [48, 49, 50, 51, 52, 53, 54, 55, 56, 57, 58, 59, 60] [⟨⟨(some 48), none, (.mv (.tmp 1))⟩, []⟩, ⟨⟨(some 49), none, (.mv (.tmp 0))⟩, []⟩, ⟨⟨(some 50), none, (.mv (.tmp 6))⟩, []⟩, ⟨⟨(some 51), none, (.mv (.tmp 8))⟩, []⟩, ⟨⟨(some 52), none, (.idxSl 1 (.tmp 50) (.tmp 51))⟩, []⟩, ⟨⟨(some 53), none, (.load1 (.tmp 52))⟩, []⟩, ⟨⟨(some 54), none, (.idxSl 1 (.tmp 49) (.tmp 53))⟩, []⟩, ⟨⟨(some 55), none, (.load1 (.tmp 54))⟩, []⟩, ⟨⟨(some 56), none, (.mv (.tmp 10))⟩, []⟩, ⟨⟨(some 57), none, (.idxSl 1 (.tmp 55) (.tmp 56))⟩, []⟩, ⟨⟨(some 58), none, (.load1 (.tmp 57))⟩, []⟩, ⟨⟨(some 59), none, (.idxSl 1 (.tmp 48) (.tmp 58))⟩, []⟩, ⟨⟨(some 60), none, (.load1 (.tmp 59))⟩, []⟩]) (.cond (.tmp 60) (.ops [61, 62, 9] [⟨⟨(some 61), none, (.mv (.tmp 9))⟩, []⟩, ⟨⟨(some 62), none, (.bin .add 3 (.tmp 61) (.const (.int .i64 1)))⟩, []⟩, ⟨⟨(some 9), none, (.asg (.tmp 62))⟩, []⟩]) .skip))) (.ops [46, 47, 10] [⟨⟨(some 46), none, (.mv (.tmp 10))⟩, []⟩, ⟨⟨(some 47), none, (.bin .add 3 (.tmp 46) (.const (.int .i64 1)))⟩, []⟩, ⟨⟨(some 10), none, (.asg (.tmp 47))⟩, []⟩])))))) (.seq (.ops [63, 64, 65, 66, 67, 68, 69, 70, 71, 72, 73, 74] [⟨⟨(some 63), none, (.mv (.tmp 9))⟩, []⟩, ⟨⟨(some 64), none, (.bin .neq 3 (.tmp 63) (.const (.int .i64 2)))⟩, []⟩, ⟨⟨(some 65), none, (.mv (.tmp 64))⟩, []⟩, ⟨⟨(some 66), (some ⟨65, false⟩), (.mv (.tmp 7))⟩, []⟩, ⟨⟨(some 67), (some ⟨65, false⟩), (.mv (.tmp 6))⟩, []⟩, ⟨⟨(some 68), (some ⟨65, false⟩), (.mv (.tmp 8))⟩, []⟩, ⟨⟨(some 69), (some ⟨65, false⟩), (.idxSl 1 (.tmp 67) (.tmp 68))⟩, []⟩, ⟨⟨(some 70), (some ⟨65, false⟩), (.load1 (.tmp 69))⟩, []⟩, ⟨⟨(some 71), (some ⟨65, false⟩), (.idxSl 1 (.tmp 66) (.tmp 70))⟩, []⟩, ⟨⟨(some 72), (some ⟨65, false⟩), (.load1 (.tmp 71))⟩, []⟩, ⟨⟨(some 73), (some ⟨65, false⟩), (.un .not (.tmp 72))⟩, []⟩, ⟨⟨(some 74), none, (.pick (.tmp 65) (.const (.bool true)) (.tmp 73))⟩, []⟩]) (.cond (.tmp 74) (.seq (.ops [4, 5] [⟨⟨(some 4), none, (.asg (.const (.bool false)))⟩, []⟩, ⟨⟨(some 5), none, (.asg (.const (.int .i64 0)))⟩, []⟩]) .ret) .skip))))) (.ops [34, 35, 8] [⟨⟨(some 34), none, (.mv (.tmp 8))⟩, []⟩, ⟨⟨(some 35), none, (.bin .add 3 (.tmp 34) (.const (.int .i64 1)))⟩, []⟩, ⟨⟨(some 8), none, (.asg (.tmp 35))⟩, []⟩])))))) (.seq (.ops [4, 5] [⟨⟨(some 4), none, (.asg (.const (.bool true)))⟩, []⟩, ⟨⟨(some 5), none, (.asg (.const (.int .i64 0)))⟩, []⟩]) .ret))))))))⟩
theorem f_rRing : (envOf Tryz.prog noCut noMemo).F 137 = some c_rRing := by kernel_rfl

/-- the nodes of a set, of the first ones -/
def listL (inn : List Bool) (k : Nat) : List Int := ((List.range k).filter fun i => inB inn ((i : Nat) : Int)).map fun i => ((i : Nat) : Int)

theorem listL_succ (inn : List Bool) (k : Nat) : listL inn (k + 1) = listL inn k ++ if inB inn (k : Nat) then [(k : Int)] else [] := by
  rw [listL, List.range_succ, List.filter_append, List.map_append, ← listL]
  congr 1
  simp only [List.filter_cons, List.filter_nil]
  split <;> rfl
theorem listL_len (inn : List Bool) (k : Nat) : (listL inn k).length = sizeN inn k := by rw [listL, List.length_map, sizeN]
theorem listL_mem {inn : List Bool} {k : Nat} {z : Int} : z ∈ listL inn k ↔ ∃ n : Nat, z = n ∧ n < k ∧ inB inn (n : Nat) = true := by
  simp only [listL, List.mem_map, List.mem_filter, List.mem_range]
  constructor
  · rintro ⟨n, ⟨h1, h2⟩, rfl⟩; exact ⟨n, rfl, h1, h2⟩
  · rintro ⟨n, rfl, h1, h2⟩; exact ⟨n, ⟨h1, h2⟩, rfl⟩
theorem listL_first {inn : List Bool} : ∀ {k : Nat} {z : Int}, (listL inn k)[0]? = some z → ∃ f : Nat, z = f ∧ f < k ∧ inB inn (f : Nat) = true ∧ ∀ j, j < f → inB inn (j : Nat) = false
  | 0, z, h => by simp [listL] at h
  | k + 1, z, h => by
    rw [listL_succ] at h
    by_cases hl : 0 < (listL inn k).length
    · rw [List.getElem?_append_left hl] at h
      obtain ⟨f, h1, h2, h3⟩ := listL_first h
      exact ⟨f, h1, by omega, h3⟩
    · have h0 : listL inn k = [] := List.length_eq_zero_iff.1 (by omega)
      rw [h0, List.nil_append] at h
      cases hb : inB inn ((k : Nat) : Int) with
      | false => rw [hb] at h; simp at h
      | true =>
        rw [hb] at h
        simp at h
        refine ⟨k, h.symm, by omega, hb, fun j hj => ?_⟩
        cases hj' : inB inn ((j : Nat) : Int) with
        | false => rfl
        | true =>
          have : (j : Int) ∈ listL inn k := listL_mem.2 ⟨j, rfl, hj, hj'⟩
          rw [h0] at this; cases this

theorem rList_ok {vin : Value} {inn : List Bool} (hl : inn.length ≤ 1000000) : FnC Tryz.prog (.func 179) [vin] [] [] [fSl boolE vin inn] (fun v : Value => v) (fun _ => []) (fun v => [fSl intE v (listL inn inn.length)]) (fun _ => True) := by
  refine q_beg c_rList f_rList fun B w0 => ?_
  refine go ?_
  refine st_ap0 intE ?_
  refine q_loop (fun x => inn.length - x.1) (fun x : Nat × Value => [(4, .int .i64 (x.1 : Int)), (3, x.2)]) (fun x => [ap intE x.2 (listL inn x.1)]) (fun _ => []) (fun x => x.1 ≤ inn.length) (0, .slice none 0 0) (Nat.zero_le _)
    (hk := by repeat (first | exact SelL.nil | (apply SelL.cons; (focus (repeat (first | exact Sel.here | apply Sel.there)))))) (body := ?_)
  rintro ⟨k, v⟩ hk
  dsimp only at hk ⊢
  have hsz := sizeN_le inn k
  have hll := listL_len inn k
  have hsucc := listL_succ inn k
  refine go ?_
  refine if_d rfl (fun h1 => ?_) (fun h1 => ?_)
  · refine go ?_
    intro _ _ c hc
    have hkl : k < inn.length := by omega
    have hc' : inB inn (k : Nat) = c := by rw [inB_nat hkl]; rw [List.getElem?_eq_getElem hkl] at hc; exact Option.some.inj hc
    rw [hc'] at hsucc
    refine go ?_
    cases c with
    | false =>
      rw [if_neg (by simp), List.append_nil] at hsucc
      refine go ?_
      exact q_again (k + 1, v) (by show inn.length - (k + 1) < inn.length - k; omega) (by show k + 1 ≤ _; omega) (ha := by dsimp only; rw [hsucc]; repeat (first | exact AppR.nil | apply AppR.cons | exact AppR.self | exact AppR.app))
    | true =>
      rw [if_pos rfl] at hsucc
      refine go ?_
      intro b17
      refine q_app (xs := listL inn k) intE (k : Int) () (by omega) (next := fun ad => ?_)
      refine go ?_
      exact q_again (k + 1, _) (by show inn.length - (k + 1) < inn.length - k; omega) (by show k + 1 ≤ _; omega) (ha := by dsimp only; rw [hsucc]; repeat (first | exact AppR.nil | apply AppR.cons | exact AppR.self | exact AppR.app))
  have hkl : k = inn.length := by omega
  subst hkl
  refine go ?_
  refine q_frz (frz_ap (E := intE) (v := v) (xs := listL inn inn.length)) (h := ?_)
  exact q_fin v (hv := rfl) (hp := trivial)

theorem cnt_le (g : List (List Int)) (inn : List Bool) : ∀ k, Gph.cnt g inn k ≤ k
  | 0 => Nat.le_refl _
  | k + 1 => by
    have := cnt_le g inn k
    rw [Gph.cnt]
    split <;> omega

theorem rComps_ok {vg vin : Value} {g : List (List Int)} {inn : List Bool} (hll : ∀ l ∈ g, l.length < 9223372036854775808) :
    FnC Tryz.prog (.func 136) [vg, vin] [] [] [fSl (slE intE) vg g, fSl boolE vin inn] (fun y : CompY => .tuple ⟨[.slice y.a y.n y.n, .int .i64 y.e]⟩) (fun _ => []) (fun _ => [])
      (fun y => (y.e = 0 ↔ GOK g ∧ inn.length = g.length) ∧ (y.e = 0 → y.n = (partsN g inn g.length).2)) := by
  refine q_beg c_rComps f_rComps fun B w0 => ?_
  refine go ?_
  refine q_call (rCheck_ok (g := g) hll) (next := fun b hb => ?_)
  cases b with
  | false =>
    refine go ?_
    exact q_fin ⟨none, 0, 120⟩ (hv := rfl) (hp := ⟨⟨(fun h => by cases h), fun h => absurd (hb.2 h.1) (by simp)⟩, fun h => by cases h⟩)
  | true =>
  have hG := hb.1 rfl
  have hlen := hG.len
  refine go ?_
  refine if_d rfl (fun h1 => ?_) (fun h1 => ?_)
  · refine go ?_
    exact q_fin ⟨none, 0, 1⟩ (hv := rfl) (hp := ⟨⟨(fun h => by cases h), fun h => absurd h.2 (by omega)⟩, fun h => by cases h⟩)
  have hin : inn.length = g.length := by omega
  refine go ?_
  refine st_ap0 (slE intE) ?_
  refine q_loop (fun x => g.length - x.1) (fun x : Nat × Option Addr × List (List Int) => [(7, .int .i64 (x.1 : Int)), (6, .slice x.2.1 x.2.2.length x.2.2.length)]) (fun x => [ap (slE intE) (.slice x.2.1 x.2.2.length x.2.2.length) x.2.2]) (fun _ => [])
    (fun x => x.1 ≤ g.length ∧ x.2.2.length = Gph.cnt g inn x.1) (0, none, []) ⟨Nat.zero_le _, rfl⟩
    (hk := by repeat (first | exact SelL.nil | (apply SelL.cons; (focus (repeat (first | exact Sel.here | apply Sel.there)))))) (body := ?_)
  rintro ⟨i, ad, xss⟩ ⟨hi, hxl⟩
  dsimp only at hi hxl ⊢
  have hcl := cnt_le g inn i
  have hcs : Gph.cnt g inn (i + 1) = _ := rfl
  rw [Gph.cnt] at hcs
  refine go ?_
  refine if_d rfl (fun h2 => ?_) (fun h2 => ?_)
  · have hil : i < inn.length := by omega
    refine go ?_
    intro _ _ c hc
    have hc' : inB inn (i : Nat) = c := by rw [inB_nat hil]; rw [List.getElem?_eq_getElem hil] at hc; exact Option.some.inj hc
    rw [hc'] at hcs
    refine go ?_
    cases c with
    | false =>
      refine go ?_
      exact q_again (i + 1, ad, xss) (by show g.length - (i + 1) < g.length - i; omega) ⟨by show i + 1 ≤ _; omega, by show xss.length = Gph.cnt g inn (i + 1); rw [Gph.cnt, hc', if_neg (by simp)]; exact hxl⟩
    | true =>
      refine go ?_
      refine q_call (rConn_ok (g := g) (inn := inn) (s := i) hG hll hin (by omega)) (next := fun y hy => ?_)
      obtain ⟨bm, met⟩ := y
      obtain ⟨hml, hmr⟩ := hy
      dsimp only at hml hmr ⊢
      refine q_frz (frz_bools (b := bm) (f := 0) (c := g.length) (xs := met)) (h := ?_)
      rw [hml]
      refine go ?_
      refine q_call (rList_ok (inn := met) (by omega)) (next := fun v _ => ?_)
      refine q_form (E := intE) (v := v) (xs := listL met met.length) (by simp) fun av cv ev => ?_
      subst ev
      have hmi : (i : Int) ∈ listL met met.length := listL_mem.2 ⟨i, rfl, by omega, (hmr i (by omega)).2 .refl⟩
      have hpos : 0 < (listL met met.length).length := List.length_pos_of_mem hmi
      refine go ?_
      intro _ _ c0 hc0
      obtain ⟨f, rfl, hf, hff, hfirst⟩ := listL_first (show (listL met met.length)[0]? = some c0 by simpa using hc0)
      have hold : Old g inn i i ↔ ¬ f = i := by
        rw [old_iff hG.sym (by omega) hc']
        constructor
        · rintro ⟨j, hj, hr⟩ e
          have := (hmr j (by omega)).2 hr
          rw [hfirst j (by omega)] at this; cases this
        · intro hne
          refine ⟨f, ?_, (hmr f (by omega)).1 hff⟩
          have : ¬ i < f := fun h => by
            have := hfirst i h
            rw [(hmr i (by omega)).2 .refl] at this; cases this
          omega
      refine go ?_
      refine if_d rfl (fun h3 => ?_) (fun h3 => ?_)
      · have hfi : f = i := by omega
        refine go ?_
        intro b40
        refine q_app (xs := xss) (slE intE) (listL met met.length) (.slice av (listL met met.length).length cv) (by omega) (next := fun ad' => ?_)
        refine go ?_
        refine q_again (i + 1, ad', xss ++ [listL met met.length]) (by show g.length - (i + 1) < g.length - i; omega) ⟨by show i + 1 ≤ _; omega, ?_⟩
          (hl := ⟨rfl, by simp only [List.length_append, List.length_singleton]; rfl, by repeat (first | exact trivial | refine ⟨rfl, ?_⟩)⟩) (ha := by simp only [List.length_append, List.length_singleton]; repeat (first | exact AppR.nil | apply AppR.cons | exact AppR.self | exact AppR.app))
        show (xss ++ [listL met met.length]).length = Gph.cnt g inn (i + 1)
        rw [Gph.cnt, hc', if_pos ⟨rfl, fun h => hold.1 h hfi⟩, List.length_append, List.length_singleton, hxl]
      · have hfi : ¬ f = i := by omega
        refine go ?_
        exact q_again (i + 1, ad, xss) (by show g.length - (i + 1) < g.length - i; omega) ⟨by show i + 1 ≤ _; omega, by show xss.length = Gph.cnt g inn (i + 1); rw [Gph.cnt, hc', if_neg (fun h => h.2 (hold.2 hfi))]; exact hxl⟩
  have hil : i = g.length := by omega
  subst hil
  refine go ?_
  exact q_fin ⟨ad, xss.length, 0⟩ (hv := rfl) (hp := ⟨⟨fun _ => ⟨hG, hin⟩, fun _ => rfl⟩, fun _ => by rw [parts_cnt hG.rg _ (Nat.le_refl _)]; exact hxl⟩)
end Go.Proofs.YtpkieeggilkagaaGreat

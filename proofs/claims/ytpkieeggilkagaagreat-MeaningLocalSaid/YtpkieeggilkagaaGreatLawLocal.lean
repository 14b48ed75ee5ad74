/-
  The law MeaningLocal on the ideal machine.
-/
import Derived.Test.YtpkieeggilkagaaGreatMean12
import Derived.Test.YtpkieeggilkagaaGreatSaneC
set_option linter.unusedSimpArgs false
set_option linter.unusedVariables false
set_option maxHeartbeats 2000000
set_option maxRecDepth 10000
namespace Go.Proofs.YtpkieeggilkagaaGreat
open Go.Ideal Gph

noncomputable def c_lawLocal : CFunc := ⟨129, [(.tmp 8)], (.seq (.ops [4, 8] [⟨⟨(some 4), none, (.box (.tmp 0) 50)⟩, []⟩, ⟨⟨(some 8), none, (.asg (.const (.bool false)))⟩, []⟩]) (.seq (.seq (.ops [18, 19] [⟨⟨(some 18), none, (.call (.func 11) [])⟩, []⟩, ⟨⟨(some 19), none, (.un .not (.tmp 18))⟩, []⟩]) (.cond (.tmp 19) (.seq (.ops [8] [⟨⟨(some 8), none, (.asg (.const (.bool false)))⟩, []⟩]) .ret) .skip)) (.seq (.seq (.ops [20, 21, 22, 23, 24, 25, 26, 27, 28, 29, 30, 31, 32] [⟨⟨(some 20), none, (.loadN 5 (.tmp 4))⟩, []⟩, ⟨⟨(some 21), none, (.call (.func 20) [(.tmp 20)])⟩, []⟩, ⟨⟨(some 22), none, (.un .not (.tmp 21))⟩, []⟩, ⟨⟨(some 23), none, (.mv (.tmp 22))⟩, []⟩, ⟨⟨(some 24), (some ⟨23, false⟩), (.mv (.tmp 2))⟩, []⟩, ⟨⟨(some 25), (some ⟨23, false⟩), (.lenSl (.tmp 24))⟩, []⟩, ⟨⟨(some 26), (some ⟨23, false⟩), (.bin .gtr 3 (.tmp 25) (.const (.int .i64 20)))⟩, []⟩, ⟨⟨(some 27), none, (.pick (.tmp 23) (.const (.bool true)) (.tmp 26))⟩, []⟩, ⟨⟨(some 28), none, (.mv (.tmp 27))⟩, []⟩, ⟨⟨(some 29), (some ⟨28, false⟩), (.mv (.tmp 3))⟩, []⟩, ⟨⟨(some 30), (some ⟨28, false⟩), (.lenSl (.tmp 29))⟩, []⟩, ⟨⟨(some 31), (some ⟨28, false⟩), (.bin .gtr 3 (.tmp 30) (.const (.int .i64 20)))⟩, []⟩, ⟨⟨(some 32), none, (.pick (.tmp 28) (.const (.bool true)) (.tmp 31))⟩, []⟩]) (.cond (.tmp 32) (.seq (.ops [8] [⟨⟨(some 8), none, (.asg (.const (.bool true)))⟩, []⟩]) .ret) .skip)) (.seq (.ops [34, 35, 36, 37, 33, 38, 39, 9, 10] [⟨⟨(some 34), none, (.loadN 5 (.tmp 4))⟩, []⟩, ⟨⟨(some 35), none, (.mv (.tmp 1))⟩, []⟩, ⟨⟨(some 36), none, (.mv (.tmp 2))⟩, []⟩, ⟨⟨(some 37), none, (.call (.func 22) [(.tmp 34), (.tmp 35), (.tmp 36)])⟩, []⟩, ⟨⟨(some 33), none, (.mv (.tmp 37))⟩, []⟩, ⟨⟨(some 38), none, (.extract (.tmp 33) 0)⟩, []⟩, ⟨⟨(some 39), none, (.extract (.tmp 33) 1)⟩, []⟩, ⟨⟨(some 9), none, (.asg (.tmp 38))⟩, []⟩, ⟨⟨(some 10), none, (.asg (.tmp 39))⟩, []⟩]) (.seq (.ops [41, 42, 43, 44, 40, 45, 46, 11, 12] [⟨⟨(some 41), none, (.loadN 5 (.tmp 4))⟩, []⟩, ⟨⟨(some 42), none, (.mv (.tmp 1))⟩, []⟩, ⟨⟨(some 43), none, (.mv (.tmp 3))⟩, []⟩, ⟨⟨(some 44), none, (.call (.func 22) [(.tmp 41), (.tmp 42), (.tmp 43)])⟩, []⟩, ⟨⟨(some 40), none, (.mv (.tmp 44))⟩, []⟩, ⟨⟨(some 45), none, (.extract (.tmp 40) 0)⟩, []⟩, ⟨⟨(some 46), none, (.extract (.tmp 40) 1)⟩, []⟩, ⟨⟨(some 11), none, (.asg (.tmp 45))⟩, []⟩, ⟨⟨(some 12), none, (.asg (.tmp 46))⟩, []⟩]) (.seq (.seq (.ops [47, 48, 49, 50, 51, 52, 53, 54, 55, 56, 57, 58, 59, 60, 61, 62, 63, 64, 65, 66, 67, 68, 69, 70] [⟨⟨(some 47), none, (.mv (.tmp 10))⟩, []⟩, ⟨⟨(some 48), none, (.bin .neq 40 (.tmp 47) (.const (.int .i64 0)))⟩, []⟩, ⟨⟨(some 49), none, (.mv (.tmp 48))⟩, []⟩, ⟨⟨(some 50), (some ⟨49, false⟩), (.mv (.tmp 12))⟩, []⟩, ⟨⟨(some 51), (some ⟨49, false⟩), (.bin .neq 40 (.tmp 50) (.const (.int .i64 0)))⟩, []⟩, ⟨⟨(some 52), none, (.pick (.tmp 49) (.const (.bool true)) (.tmp 51))⟩, []⟩, ⟨⟨(some 53), none, (.mv (.tmp 52))⟩, []⟩, ⟨⟨(some 54), (some ⟨53, false⟩), (.mv (.tmp 1))⟩, []⟩, ⟨⟨(some 55), (some ⟨53, false⟩), (.bin .lss 3 (.tmp 54) (.const (.int .i64 0)))⟩, []⟩, ⟨⟨(some 56), none, (.pick (.tmp 53) (.const (.bool true)) (.tmp 55))⟩, []⟩, ⟨⟨(some 57), none, (.mv (.tmp 56))⟩, []⟩, ⟨⟨(some 58), (some ⟨57, false⟩), (.mv (.tmp 1))⟩, []⟩, ⟨⟨(some 59), (some ⟨57, false⟩), (.fieldA 4 (.tmp 4))⟩, []⟩, ⟨⟨(some 60), (some ⟨57, false⟩), (.load1 (.tmp 59))⟩, []⟩, ⟨⟨(some 61), (some ⟨57, false⟩), (.lenSl (.tmp 60))⟩, []⟩, ⟨⟨(some 62), (some ⟨57, false⟩), (.bin .geq 3 (.tmp 58) (.tmp 61))⟩, []⟩, ⟨⟨(some 63), none, (.pick (.tmp 57) (.const (.bool true)) (.tmp 62))⟩, []⟩, ⟨⟨(some 64), none, (.mv (.tmp 63))⟩, []⟩, ⟨⟨(some 65), (some ⟨64, false⟩), (.mv (.tmp 2))⟩, []⟩, ⟨⟨(some 66), (some ⟨64, false⟩), (.lenSl (.tmp 65))⟩, []⟩, ⟨⟨(some 67), (some ⟨64, false⟩), (.mv (.tmp 3))⟩, []⟩, ⟨⟨(some 68), (some ⟨64, false⟩), (.lenSl (.tmp 67))⟩, []⟩, ⟨⟨(some 69), (some ⟨64, false⟩), (.bin .neq 3 (.tmp 66) (.tmp 68))⟩, []⟩, ⟨⟨(some 70), none, (.pick (.tmp 64) (.const (.bool true)) (.tmp 69))⟩, []⟩]) (.cond (.tmp 70) (.seq (.ops [71, 72, 73, 74, 75, 76, 8] [⟨⟨(some 71), none, (.mv (.tmp 10))⟩, []⟩, ⟨⟨(some 72), none, (.bin .neq 40 (.tmp 71) (.const (.int .i64 0)))⟩, []⟩, ⟨⟨(some 73), none, (.mv (.tmp 72))⟩, []⟩, ⟨⟨(some 74), (some ⟨73, false⟩), (.mv (.tmp 12))⟩, []⟩, ⟨⟨(some 75), (some ⟨73, false⟩), (.bin .neq 40 (.tmp 74) (.const (.int .i64 0)))⟩, []⟩, ⟨⟨(some 76), none, (.pick (.tmp 73) (.const (.bool true)) (.tmp 75))⟩, []⟩, ⟨⟨(some 8), none, (.asg (.tmp 76))⟩, []⟩]) .ret) .skip)) (.seq (.ops [77, 78, 79, 13] [⟨⟨(some 77), none, (.bslice 3 0 [] [])⟩, []⟩, ⟨⟨(some 78), none, (.mv (.tmp 3))⟩, []⟩, ⟨⟨(some 79), none, (.append 3 1 8 (.tmp 77) (.tmp 78))⟩, []⟩, ⟨⟨(some 13), none, (.asg (.tmp 79))⟩, []⟩]) (.seq (.seq (.ops [14] [⟨⟨(some 14), none, (.asg (.const (.int .i64 0)))⟩, []⟩]) (.block 0 (.loop (.seq (.seq (.ops [80, 81, 82, 83, 84, 85, 86, 87, 88] [⟨⟨(some 80), none, (.mv (.tmp 14))⟩, []⟩, ⟨⟨(some 81), none, (.fieldA 4 (.tmp 4))⟩, []⟩, ⟨⟨(some 82), none, (.load1 (.tmp 81))⟩, []⟩, ⟨⟨(some 83), none, (.mv (.tmp 1))⟩, []⟩, ⟨⟨(some 84), none, (.idxSl 9 (.tmp 82) (.tmp 83))⟩, []⟩, ⟨⟨(some 85), none, (.fieldA 1 (.tmp 84))⟩, []⟩, ⟨⟨(some 86), none, (.load1 (.tmp 85))⟩, []⟩, ⟨⟨(some 87), none, (.lenSl (.tmp 86))⟩, []⟩, ⟨⟨(some 88), none, (.bin .lss 3 (.tmp 80) (.tmp 87))⟩, []⟩]) (.cond (.tmp 88) .skip (.exit 0))) (.seq (.block 1 (.seq (.ops [91, 92, 93, 94, 95, 96, 97, 98, 99, 15] [⟨⟨(some 91), none, (.fieldA 4 (.tmp 4))⟩, []⟩, ⟨⟨(some 92), none, (.load1 (.tmp 91))⟩, []⟩, ⟨⟨(some 93), none, (.mv (.tmp 1))⟩, []⟩, ⟨⟨(some 94), none, (.idxSl 9 (.tmp 92) (.tmp 93))⟩, []⟩, ⟨⟨(some 95), none, (.fieldA 1 (.tmp 94))⟩, []⟩, ⟨⟨(some 96), none, (.load1 (.tmp 95))⟩, []⟩, ⟨⟨(some 97), none, (.mv (.tmp 14))⟩, []⟩, ⟨⟨(some 98), none, (.idxSl 1 (.tmp 96) (.tmp 97))⟩, []⟩, ⟨⟨(some 99), none, (.load1 (.tmp 98))⟩, []⟩, ⟨⟨(some 15), none, (.asg (.tmp 99))⟩, []⟩]) (.seq (.seq (.ops [100, 101, 102, 103, 104, 105, 106, 107] [⟨⟨(some 100), none, (.mv (.tmp 15))⟩, []⟩, ⟨⟨(some 101), none, (.bin .lss 3 (.tmp 100) (.const (.int .i64 0)))⟩, []⟩, ⟨⟨(some 102), none, (.mv (.tmp 101))⟩, []⟩, ⟨⟨(some 103), (some ⟨102, false⟩), (.mv (.tmp 15))⟩, []⟩, ⟨⟨(some 104), (some ⟨102, false⟩), (.mv (.tmp 13))⟩, []⟩, ⟨⟨(some 105), (some ⟨102, false⟩), (.lenSl (.tmp 104))⟩, []⟩, ⟨⟨(some 106), (some ⟨102, false⟩), (.bin .geq 3 (.tmp 103) (.tmp 105))⟩, []⟩, ⟨⟨(some 107), none, (.pick (.tmp 102) (.const (.bool true)) (.tmp 106))⟩, []⟩]) (.cond (.tmp 107) (.seq (.ops [8] [⟨⟨(some 8), none, (.asg (.const (.bool false)))⟩, []⟩]) .ret) .skip)) (.ops [108, 109, 110, 111, 112, 113, 114] [⟨⟨(some 108), none, (.mv (.tmp 13))⟩, []⟩, ⟨⟨(some 109), none, (.mv (.tmp 15))⟩, []⟩, ⟨⟨(some 110), none, (.mv (.tmp 2))⟩, []⟩, ⟨⟨(some 111), none, (.mv (.tmp 15))⟩, []⟩, ⟨⟨(some 112), none, (.idxSl 1 (.tmp 110) (.tmp 111))⟩, []⟩, ⟨⟨(some 113), none, (.load1 (.tmp 112))⟩, []⟩, ⟨⟨(some 114), none, (.idxSl 1 (.tmp 108) (.tmp 109))⟩, []⟩, ⟨⟨none, none, (.store 1 (.tmp 114) (.tmp 113))⟩, []⟩])))) (.ops [89, 90, 14] [⟨⟨(some 89), none, (.mv (.tmp 14))⟩, []⟩, ⟨⟨(some 90), none, (.bin .add 3 (.tmp 89) (.const (.int .i64 1)))⟩, []⟩, ⟨⟨(some 14), none, (.asg (.tmp 90))⟩, []⟩])))))) (.seq (.ops [116, 117, 118, 119, 115, 120, 121, 16, 17] [⟨⟨(some 116), none, (.loadN 5 (.tmp 4))⟩, []⟩, ⟨⟨(some 117), none, (.mv (.tmp 1))⟩, []⟩, ⟨⟨(some 118), none, (.mv (.tmp 13))⟩, []⟩, ⟨⟨(some 119), none, (.call (.func 22) [(.tmp 116), (.tmp 117), (.tmp 118)])⟩, []⟩, ⟨⟨(some 115), none, (.mv (.tmp 119))⟩, []⟩, ⟨⟨(some 120), none, (.extract (.tmp 115) 0)⟩, []⟩, ⟨⟨(some 121), none, (.extract (.tmp 115) 1)⟩, []⟩, ⟨⟨(some 16), none, (.asg (.tmp 120))⟩, []⟩, ⟨⟨(some 17), none, (.asg (.tmp 121))⟩, []⟩]) (.seq (.ops [122, 123, 124, 125, 126, 127, 128, 8] [⟨⟨(some 122), none, (.mv (.tmp 17))⟩, []⟩, ⟨⟨(some 123), none, (.bin .eql 40 (.tmp 122) (.const (.int .i64 0)))⟩, []⟩, ⟨⟨(some 124), none, (.mv (.tmp 123))⟩, []⟩, ⟨⟨(some 125), (some ⟨124, true⟩), (.mv (.tmp 9))⟩, []⟩, ⟨⟨(some 126), (some ⟨124, true⟩), (.mv (.tmp 16))⟩, []⟩, ⟨⟨(some 127), (some ⟨124, true⟩), (.bin .eql 4 (.tmp 125) (.tmp 126))⟩, []⟩, ⟨⟨(some 128), none, (.pick (.tmp 124) (.tmp 127) (.const (.bool false)))⟩, []⟩, ⟨⟨(some 8), none, (.asg (.tmp 128))⟩, []⟩]) .ret))))))))))⟩
theorem f_lawLocal : (envOf Tryz.prog noCut noMemo).F 6 = some c_lawLocal := by kernel_rfl

theorem rn_congr {a b : List Int} {set : Nat} : ∀ (cells : List Int) (n : Nat), (∀ x ∈ cells, sy a x = sy b x) → rn a set n cells = rn b set n cells
  | [], n, _ => rfl
  | c :: cs, n, h => by
    have hc := h c (by simp)
    have ih : ∀ n, rn a set n cs = rn b set n cs := fun n => rn_congr cs n (fun x hx => h x (by simp [hx]))
    rw [rn, rn, hc, ih, ih]

theorem mkd_congr {a b : List Int} {set : Nat} {cells : List Int} (hl : a.length = b.length) (h : ∀ x ∈ cells, sy a x = sy b x) : mkd a set cells = mkd b set cells := by
  have : ∀ (cells : List Int) (m : List Bool), (∀ x ∈ cells, sy a x = sy b x) → cells.foldl (fun m c => m.set c.toNat (set.testBit (sy a c))) m = cells.foldl (fun m c => m.set c.toNat (set.testBit (sy b c))) m := by
    intro cells
    induction cells with
    | nil => intro m _; rfl
    | cons c cs ih =>
      intro m hm
      rw [List.foldl_cons, List.foldl_cons, hm c (by simp)]
      exact ih _ (fun x hx => hm x (by simp [hx]))
  rw [mkd, mkd, hl, this cells _ h]

theorem metB_congr {q : Prob} {c : Con} {a b : List Int} (hl : a.length = b.length) (h : ∀ x ∈ c.cells, sy a x = sy b x) (two : c.kind = 6 ∨ c.kind = 7 → c.cells.length = 2) : metB q c a = metB q c b := by
  have e1 : c.cells.map (sy a) = c.cells.map (sy b) := List.map_congr_left h
  have e2 : ∀ set, cnt a set c.cells = cnt b set c.cells := fun set => by
    rw [cnt, cnt, List.filter_congr (fun x hx => by rw [h x hx])]
  have e3 : c.cells.map (va q.values a) = c.cells.map (va q.values b) := List.map_congr_left fun x hx => by rw [va, va, h x hx]
  have e4 : ∀ set n, rn a set n c.cells = rn b set n c.cells := fun set n => rn_congr c.cells n h
  have e5 : ∀ set, mkd a set c.cells = mkd b set c.cells := fun set => mkd_congr hl h
  have e6 : c.kind = 6 ∨ c.kind = 7 → ∀ j, j < 2 → sy a (c.cells.getD j 0) = sy b (c.cells.getD j 0) := fun hk j hj => by
    have hlt : j < c.cells.length := by rw [two hk]; exact hj
    rw [List.getD_eq_getElem?_getD, List.getElem?_eq_getElem hlt]
    exact h _ (List.getElem_mem hlt)
  unfold metB
  have d1 : dif a c.cells = dif b c.cells := by rw [dif, dif, e1]
  have d2 : smm q.values a c.cells = smm q.values b c.cells := by rw [smm, smm, e3]
  have d3 : ris q.values a c.cells = ris q.values b c.cells := by rw [ris, ris, e3]
  rw [d1, e2, d2, d3, e4, e5]
  have v0 : c.kind = 6 → va q.values a (c.cells.getD 0 0) = va q.values b (c.cells.getD 0 0) := fun k => by rw [va, va, e6 (.inl k) 0 (by omega)]
  have v1 : c.kind = 6 → va q.values a (c.cells.getD 1 0) = va q.values b (c.cells.getD 1 0) := fun k => by rw [va, va, e6 (.inl k) 1 (by omega)]
  by_cases k6 : c.kind = 6
  · have k7 : ¬ c.kind = 7 := by omega
    rw [v0 k6, v1 k6]
    simp only [k7, ↓reduceIte]
  · by_cases k7 : c.kind = 7
    · simp only [k6, ↓reduceIte]
      rw [e6 (.inr k7) 0 (by omega), e6 (.inr k7) 1 (by omega)]
    · simp only [k6, k7, ↓reduceIte]

/-- b, with the values of a on some cells -/
def locL (a b cells : List Int) : List Int := cells.foldl (fun m c => m.set c.toNat (a.getD c.toNat 0)) b

theorem locL_len (a b cells : List Int) : (locL a b cells).length = b.length := by
  unfold locL
  induction cells generalizing b with
  | nil => rfl
  | cons c cs ih => rw [List.foldl_cons, ih, List.length_set]

theorem locL_take {a b cells : List Int} {k : Nat} {c : Int} (h : cells[k]? = some c) : locL a b (cells.take (k + 1)) = (locL a b (cells.take k)).set c.toNat (a.getD c.toNat 0) := by
  rw [locL, take_one h, List.foldl_append]; rfl

theorem locL_get {a : List Int} : ∀ (cells b : List Int) (n : Nat), (∀ x ∈ cells, 0 ≤ x ∧ x < b.length) → ((n : Int) ∈ cells → (locL a b cells).getD n 0 = a.getD n 0) ∧ ((n : Int) ∉ cells → (locL a b cells).getD n 0 = b.getD n 0)
  | [], b, n, _ => by simp [locL]
  | c :: cs, b, n, h => by
    have hc := h c (by simp)
    obtain ⟨h1, h2⟩ := locL_get cs (b.set c.toNat (a.getD c.toNat 0)) n (fun x hx => by rw [List.length_set]; exact h x (by simp [hx]))
    have e : locL a b (c :: cs) = locL a (b.set c.toNat (a.getD c.toNat 0)) cs := rfl
    rw [e]
    obtain ⟨c, rfl⟩ := Int.eq_ofNat_of_zero_le hc.1
    rw [Int.toNat_natCast] at h1 h2 ⊢
    by_cases hin : (n : Int) ∈ cs
    · exact ⟨fun _ => h1 hin, fun hn => absurd (List.mem_cons_of_mem _ hin) hn⟩
    · have h3 : (locL a (b.set c (a.getD c 0)) cs).getD n 0 = (b.set c (a.getD c 0)).getD n 0 := h2 hin
      have hcb : c < b.length := by omega
      constructor
      · intro hm
        have e : c = n := by
          rcases List.mem_cons.1 hm with h | h
          · omega
          · exact absurd h hin
        subst e
        rw [h3, List.getD_eq_getElem?_getD, List.getElem?_set, if_pos rfl, if_pos hcb]; rfl
      · intro hm
        have hne : ¬ c = n := fun e => hm (by rw [e]; simp)
        rw [h3, List.getD_eq_getElem?_getD, List.getElem?_set, if_neg hne, List.getD_eq_getElem?_getD]

theorem locL_mem {a : List Int} {P : Int → Prop} (ha : ∀ x ∈ a, P x) : ∀ (cells : List Int) (b : List Int), (∀ x ∈ b, P x) → (∀ x ∈ cells, 0 ≤ x ∧ x < a.length) → ∀ x ∈ locL a b cells, P x
  | [], b, hb, _ => hb
  | c :: cs, b, hb, hc => by
    have h0 := hc c (by simp)
    refine locL_mem ha cs _ (fun x hx => ?_) (fun x hx => hc x (by simp [hx]))
    rcases List.mem_or_eq_of_mem_set hx with h | rfl
    · exact hb x h
    · have hlt : c.toNat < a.length := by omega
      rw [List.getD_eq_getElem?_getD, List.getElem?_eq_getElem hlt]
      exact ha _ (List.getElem_mem hlt)

theorem q_weak {P : Program} {B : List Nat} {w0 : Wd} {kl : List OA} {F : List Fact} {K : KO} {n : Nat} {l : List (Nat × Value)} {D : List Deferred} {pm : Option FrameMode} {ro : Option Nat} {c : CCode} (l' : List (Nat × Value))
    (h : R (fun h => EV P c (act n l' D pm ro) h K) B w0 kl F) (hl : sub l' l := by repeat (first | exact trivial | refine ⟨rfl, ?_⟩)) : R (fun h => EV P c (act n l D pm ro) h K) B w0 kl F := fun w s => w_weak (weaker_act hl) (h w s)

theorem lawLocal_ok {q : Prob} {vv vn vc va vb : Value} {ga gb : List Int} {i : Int} (hs : ProbS q) (hla : ga.length < 9223372036854775808) (hlb : gb.length < 9223372036854775808) :
    FnP Tryz.prog 6 [.agg ⟨probL q vv vn vc⟩, .int .i64 i, va, vb] [fSl intE vv q.values, fSl (slE intE) vn q.nbs, fSl consE vc q.cons, fSl intE va ga, fSl intE vb gb] (.bool true) := by
  refine q_beg c_lawLocal f_lawLocal fun B w0 => ?_
  refine go ?_
  intro b4
  refine q_frz (frz_pt (b := b4)) (h := ?_)
  refine q_call sane_ok (next := fun _ _ => ?_)
  refine go ?_
  refine q_call (fewQ_ok (q := q) hs) (next := fun b hb => ?_)
  cases b with
  | false =>
    refine go ?_
    exact q_fin () (hv := rfl) (hp := trivial)
  | true =>
  refine go ?_
  first | with_reducible refine g_d (fun h1 => ?_) (fun h1 => ?_) | with_reducible refine g_n (fun h1 => ?_) (fun h1 => ?_) | with_reducible refine g_b (fun h1 => ?_) (fun h1 => ?_)
  rotate_left
  · refine go ?_
    exact q_fin () (hv := rfl) (hp := trivial)
  refine go ?_
  refine if_d rfl (fun h2 => ?_) (fun h2 => ?_)
  · refine go ?_
    exact q_fin () (hv := rfl) (hp := trivial)
  refine go ?_
  refine q_call (meetsE_ok (q := q) (grid := ga) (i := i) hs hla) (next := fun y1 hy1 => ?_)
  refine go ?_
  refine q_call (meetsE_ok (q := q) (grid := gb) (i := i) hs hlb) (next := fun y2 hy2 => ?_)
  by_cases hok : ProbOK q
  rotate_left
  · have e1 := hy1.1 hok
    subst e1
    refine go ?_
    exact q_fin () (hv := rfl) (hp := trivial)
  by_cases hfa : Fin q.cells q.symbols ga
  rotate_left
  · have e1 := hy1.2.1 hok hfa
    subst e1
    refine go ?_
    exact q_fin () (hv := rfl) (hp := trivial)
  obtain ⟨hno1, hyes1⟩ := hy1.2.2 hok hfa
  by_cases hi : i < 0 ∨ (q.cons.length : Int) ≤ i
  · have e1 := hno1 hi
    subst e1
    refine go ?_
    exact q_fin () (hv := rfl) (hp := trivial)
  obtain ⟨k, rfl⟩ := Int.eq_ofNat_of_zero_le (show 0 ≤ i by omega)
  have hk : k < q.cons.length := by omega
  have hc0 : q.cons[k]? = some q.cons[k] := List.getElem?_eq_getElem hk
  have e1 := hyes1 k q.cons[k] rfl hc0
  subst e1
  by_cases hfb : Fin q.cells q.symbols gb
  rotate_left
  · have e2 := hy2.2.1 hok hfb
    subst e2
    refine go ?_
    exact q_fin () (hv := rfl) (hp := trivial)
  have e2 := (hy2.2.2 hok hfb).2 k q.cons[k] rfl hc0
  subst e2
  have hlen : ga.length = gb.length := by have := hfa.1; have := hfb.1; omega
  refine go ?_
  first | with_reducible refine g_d (fun h4 => ?_) (fun h4 => ?_) | with_reducible refine g_n (fun h4 => ?_) (fun h4 => ?_) | with_reducible refine g_b (fun h4 => ?_) (fun h4 => ?_)
  rotate_left
  · omega
  refine go ?_
  refine if_d rfl (fun h5 => ?_) (fun h5 => ?_)
  · omega
  refine go ?_
  intro b77
  have hpos : 0 < gb.length := by have := hfb.1; have := hok.cells; omega
  refine q_appI (xs := gb) hpos (by omega) (next := fun b' => ?_)
  refine go ?_
  generalize hcc : q.cons[k] = c at *
  have hfc := hok.fine c (List.mem_of_getElem? hc0)
  have sd := sides hok hfc hfa
  have hcl := sd.ce.len
  refine q_weak [(14, .int .i64 0), (13, .slice (some ⟨b', 0, some 1⟩) gb.length gb.length), (9, .bool (metB q c ga)), (4, ptr' b4), (2, va), (1, .int .i64 (k : Int))] ?_
  refine q_loop (fun j => c.cells.length - j) (fun j : Nat => [(14, .int .i64 (j : Int))]) (fun j => [pt b' (.cells ((locL ga gb (c.cells.take j)).map (.int .i64)))]) (fun _ => []) (fun j => j ≤ c.cells.length) 0 (Nat.zero_le _)
    (hk := by repeat (first | exact SelL.nil | (apply SelL.cons; (focus (repeat (first | exact Sel.here | apply Sel.there)))))) (body := ?_)
  intro j hj
  have hll := locL_len ga gb (c.cells.take j)
  refine go ?_
  refine q_idx consE (next := fun _ _ c1 (y : Value × Value) hc1 => ?_)
  cases hc0.symm.trans hc1
  refine go ?_
  refine if_d rfl (fun h6 => ?_) (fun h6 => ?_)
  · refine go ?_
    refine q_idx consE (next := fun _ _ c1 (y : Value × Value) hc1 => ?_)
    cases hc0.symm.trans hc1
    refine go ?_
    intro _ _ x hx
    have hxx := sd.ce.cell x (List.mem_of_getElem? hx)
    have htk := locL_take (a := ga) (b := gb) hx
    obtain ⟨x, rfl⟩ := Int.eq_ofNat_of_zero_le hxx.1
    rw [Int.toNat_natCast] at htk
    refine go ?_
    refine if_d rfl (fun h8 => ?_) (fun h8 => ?_)
    · omega
    refine go ?_
    intro _ _ z hz
    have hgz : ga.getD x 0 = z := by rw [List.getD_eq_getElem?_getD, hz]; rfl
    rw [hgz] at htk
    refine go ?_
    refine q_set (o := 0 + x * 1) (cs := (locL ga gb (c.cells.take j)).map (.int .i64)) (v := .int .i64 z) (cs' := (locL ga gb (c.cells.take (j + 1))).map (.int .i64)) (by rw [htk, List.map_set]; simp) (by simp; omega) ?_
    refine go ?_
    exact q_again (j + 1) (by omega) (by omega)
  have hjl : j = c.cells.length := by omega
  subst hjl
  rw [List.take_length] at hll ⊢
  have hin : ∀ x ∈ c.cells, 0 ≤ x ∧ x < gb.length := fun x hx => by have := sd.ce.cell x hx; omega
  have hfl : Fin q.cells q.symbols (locL ga gb c.cells) := ⟨by have := hfb.1; omega, locL_mem hfa.2 c.cells gb hfb.2 (fun x hx => by have := hin x hx; omega)⟩
  have hmet : metB q c (locL ga gb c.cells) = metB q c ga := metB_congr (by omega) (fun x hx => by
    have hx0 := hin x hx
    obtain ⟨x, rfl⟩ := Int.eq_ofNat_of_zero_le hx0.1
    have := (locL_get (a := ga) c.cells gb x hin).1 hx
    rw [sy, sy, Int.toNat_natCast, this]) hfc.two
  refine q_frz (frz_ints (b := b') (f := 1) (c := gb.length) (xs := locL ga gb c.cells)) (h := ?_)
  rw [hll]
  refine go ?_
  refine q_call (meetsE_ok (q := q) (grid := locL ga gb c.cells) (i := (k : Int)) hs (by omega)) (next := fun y3 hy3 => ?_)
  have e3 := (hy3.2.2 hok hfl).2 k c rfl hc0
  subst e3
  rw [hmet]
  cases metB q c ga
  · refine go ?_
    exact q_fin () (hv := rfl) (hp := trivial)
  · refine go ?_
    exact q_fin () (hv := rfl) (hp := trivial)
end Go.Proofs.YtpkieeggilkagaaGreat

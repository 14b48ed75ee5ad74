/-
  Puzzles, in plain lists: clues that are right.
-/
import Derived.Test.YtpkieeggilkagaaGreatPlainB
import Derived.Test.YtpkieeggilkagaaGreatIdealI
set_option linter.unusedSimpArgs false
set_option linter.unusedVariables false
namespace Kd
open Go Go.Ideal Canon
def gvnE : Enc zAW := ⟨3, Value, fun g v => [.int .i64 g.clue, .int .i64 g.at_, v], fun g v => [fSl intE v g.values], fun _ _ => rfl⟩
abbrev zSU (g : zAW) (v : Value) : Value := .agg ⟨[.int .i64 g.clue, .int .i64 g.at_, v]⟩
def zBh : List Int → Int
 | [] => 0
 | a :: l => if a ≠ 0 then a else zBh l
def plc (a b : zAW) : Int := zBh [zH3 a.clue b.clue, zH3 a.at_ b.at_]
theorem zPt {a b : zAW} : plc a b < 0 ↔ a.clue < b.clue ∨ (a.clue = b.clue ∧ a.at_ < b.at_) := by
 unfold plc zH3
 simp only [zBh]
 split <;> split at * <;> (try split at *) <;> (try split at *) <;> (try split at *) <;> omega
theorem zLW {a b c : zAW} (h1 : plc a b < 0) (h2 : plc b c < 0) : plc a c < 0 := by
 rw [zPt] at *; omega
def zBm (k : Knd) (g : zAW) : Prop := ∃ (c : Clu) (l : List (List Int)), 0 ≤ g.clue ∧ k.decl.clues[g.clue.toNat]? = some c ∧ k.lists[c.family.toNat]? = some l ∧ 0 ≤ g.at_ ∧ g.at_ < l.length ∧
 ((c.type = 1 ∧ g.values.length = 1 ∧ ∀ x ∈ g.values, 0 ≤ x ∧ x ≤ (k.decl.symbols.length : Int) - 1) ∨ (c.type = 2 ∧ g.values.length = 1 ∧ ∀ x ∈ g.values, c.lo ≤ x ∧ x ≤ c.hi) ∨
   (c.type ≠ 1 ∧ c.type ≠ 2 ∧ g.values.length ≤ 8 ∧ ∀ x ∈ g.values, 1 ≤ x ∧ x ≤ 256))
structure zC9 (k : Knd) (p : List zAW) : Prop where
 len : p.length ≤ 512
 right : ∀ g ∈ p, zBm k g
 sorted : ∀ (i : Nat) a b, p[i]? = some a → p[i + 1]? = some b → plc a b < 0
def zL5 (k : Knd) : Prop := ∀ c ∈ k.decl.clues, 0 ≤ c.family ∧ c.family < k.lists.length
end Kd
namespace Kd
open Go Go.Ideal Canon
def clF (k : Knd) (i : Int) : Int := match k.decl.clues[i.toNat]? with | some c => c.family | none => 0
def cellsAt (k : Knd) (g : zAW) : List Int := (k.lists.getD (clF k g.clue).toNat []).getD g.at_.toNat []
def rlsOf (k : Knd) (p : List zAW) (r : Rul) : List (List Int × List Int) :=
 if r.clue < 0 then (k.lists.getD r.family.toNat []).map fun l => (l, [r.n]) else (p.filter fun g => decide (g.clue = r.clue)).map fun g => (cellsAt k g, g.values)
theorem zBw {α : Type} {l : List α} {n : Nat} {x d : α} (h : l[n]? = some x) : l.getD n d = x := by simp [List.getD, h]
theorem zBm.cells {k : Knd} {g : zAW} (h : zBm k g) : ∃ (c : Clu) (l : List (List Int)) (ps : List Int), k.decl.clues[g.clue.toNat]? = some c ∧ k.lists[c.family.toNat]? = some l ∧ l[g.at_.toNat]? = some ps ∧ 0 ≤ g.clue ∧ 0 ≤ g.at_ ∧ g.at_ < l.length ∧ cellsAt k g = ps := by
 obtain ⟨c, l, h1, h2, h3, h4, h5, _⟩ := h
 have h6 : l[g.at_.toNat]? = some (l[g.at_.toNat]'(by omega)) := List.getElem?_eq_getElem _
 refine ⟨c, l, _, h2, h3, h6, h1, h4, h5, ?_⟩
 unfold cellsAt clF
 rw [h2]
 dsimp only
 rw [zBw h3, zBw h6]
abbrev EA := (List Int × Value) × (List Int × Value)
def prj (x : EA) : List Int × List Int := (x.1.1, x.2.1)
def eaV (x : EA) : List Value := [x.1.2, x.2.2]
def eaF (x : EA) : List zK := [fSl intE x.1.2 x.1.1, fSl intE x.2.2 x.2.1]
def pad (l : List (List Int × List Int)) : List EA := l.map fun y => ((y.1, .nilFunc), (y.2, .nilFunc))
theorem zKo (l : List (List Int × List Int)) : (pad l).map prj = l := by
 unfold pad
 rw [List.map_map]
 have : prj ∘ (fun y : List Int × List Int => (((y.1, Value.nilFunc), (y.2, Value.nilFunc)) : EA)) = id := rfl
 rw [this, List.map_id]
end Kd
namespace Kd
open Go Go.Ideal Canon
def gAt (grid : List Int) (c : Int) : Int := grid.getD c.toNat 0
theorem zGj {grid : List Int} {n : Nat} {x : Int} (h : grid[n]? = some x) : gAt grid (n : Int) = x := by unfold gAt; exact zBw h
def obB (n op b : Int) : Bool := (decide (op = 1) && decide (n = b)) || (decide (op = 2) && decide (n ≤ b)) || (decide (op = 3) && decide (b ≤ n))
def zIy (nbs : List (List Int)) (grid : List Int) (c : Int → Int → Bool) : Bool := nbs.zipIdx.all fun p => p.1.all fun b => c (gAt grid (p.2 : Int)) (gAt grid b)
theorem zKa {nbs : List (List Int)} {grid : List Int} {c : Int → Int → Bool} {j : Nat} {l : List Int} (h : nbs[j]? = some l) : zIy (nbs.take (j + 1)) grid c = (zIy (nbs.take j) grid c && l.all fun b => c (gAt grid (j : Int)) (gAt grid b)) := by
 have hj := (List.getElem?_eq_some_iff.1 h).1
 unfold zIy
 rw [zN h, List.zipIdx_append, List.all_append, List.length_take, Nat.min_eq_left (by omega), Nat.zero_add, List.zipIdx_cons, List.zipIdx_nil, List.all_cons, List.all_nil, Bool.and_true]
theorem zJQ {nbs : List (List Int)} {grid : List Int} {c : Int → Int → Bool} {j i : Nat} {l : List Int} {b : Int} (h : nbs[j]? = some l) (hb : l[i]? = some b) (hc : c (gAt grid (j : Int)) (gAt grid b) = false) : zIy nbs grid c = false := by
 unfold zIy
 rw [List.all_eq_false]
 refine ⟨(l, j), ?_, ?_⟩
 · exact List.mk_mem_zipIdx_iff_getElem?.2 h
 · simp only [Bool.not_eq_true, List.all_eq_false]
   exact ⟨b, List.mem_of_getElem? hb, by simp [hc]⟩
end Kd
namespace Kd
open Go Go.Ideal
def InN (n : Nat) (l : List Int) : Prop := l.length ≤ 4096 ∧ ∀ c ∈ l, 0 ≤ c ∧ c < (n : Int)
theorem zGE {g : Grd} : ∀ p ∈ spotsL g, 0 ≤ p.1 ∧ p.1 < (g.cells.length : Int) := by
 intro p hp
 obtain ⟨k, hk⟩ := List.mem_iff_getElem?.1 hp
 have hkl := (List.getElem?_eq_some_iff.1 hk).1
 rw [zh] at hkl
 have := zAx hk
 omega
theorem zMl (kf : Int × Int → Int × Bool) (n : Nat) : ∀ ps : List (Int × (Int × Int)), ps.length = n → ∀ a, ∀ c ∈ (lkp a (linM kf ps)).getD [], ∃ p ∈ ps, p.1 = c := by
 induction n with
 | zero =>
   intro ps h a c hc
   rw [List.length_eq_zero_iff.1 h] at hc
   have hc : c ∈ ([] : List Int) := hc
   cases hc
 | succ n ih =>
   intro ps h a c hc
   obtain ⟨qs, p, rfl⟩ : ∃ qs p, ps = qs ++ [p] := ⟨ps.dropLast, ps.getLast (by intro e; rw [e] at h; cases h), (List.dropLast_concat_getLast _).symm⟩
   have hq : qs.length = n := by simpa using h
   have hih : ∀ a, ∀ c ∈ (lkp a (linM kf qs)).getD [], ∃ p' ∈ qs ++ [p], p'.1 = c := fun a c hc => by
    obtain ⟨q, h1, h2⟩ := ih qs hq a c hc
    exact ⟨q, List.mem_append_left _ h1, h2⟩
   rw [zCK] at hc
   unfold zBj at hc
   cases hb : (kf p.2).2 with
   | false =>
     rw [hb] at hc
     exact hih a c hc
   | true =>
     rw [hb] at hc
     have hc : c ∈ (lkp a (upd (kf p.2).1 ((lkp (kf p.2).1 (linM kf qs)).getD [] ++ [p.1]) (linM kf qs))).getD [] := hc
     rw [zCe] at hc
     by_cases e : a = (kf p.2).1
     · rw [if_pos e, Option.getD_some] at hc
       rcases List.mem_append.1 hc with hc | hc
       · exact hih _ c hc
       · exact ⟨p, by simp, (List.mem_singleton.1 hc).symm⟩
     · rw [if_neg e] at hc
       exact hih a c hc
theorem zBU {g : Grd} (hg : zAQ g) (kf : Int × Int → Int × Bool) : ∀ l ∈ linesOf g kf, InN g.cells.length l := by
 intro l hl
 have hlen := (zCb hg kf).2 l hl
 refine ⟨by omega, fun c hc => ?_⟩
 unfold linesOf at hl
 obtain ⟨n, _, rfl⟩ := List.mem_map.1 hl
 obtain ⟨p, hp, rfl⟩ := zMl kf _ (spotsL g) rfl n c hc
 exact zGE p hp
theorem zJT {a b : List (List Int)} {l : List Int} (h : l ∈ dgFold a b) : l ∈ a ∨ l ∈ b := by
 unfold dgFold at h
 induction b generalizing a with
 | nil => exact .inl h
 | cons x b ih =>
   rw [List.foldl_cons] at h
   rcases ih h with h | h
   · unfold zFL at h
     split at h
     · exact .inl h
     · rcases List.mem_append.1 h with h | h
       · exact .inl h
       · exact .inr (by rw [List.mem_singleton.1 h]; simp)
   · exact .inr (List.mem_cons_of_mem _ h)
theorem zFe {o : Option Value} {n : Int} (h : numOf o = some n) : o = some (.int .i64 n) := by
 unfold numOf at h
 split at h
 · cases h; rfl
 · cases h
theorem zNE {g : Grd} {p : Int × (Int × Int)} : InN g.cells.length (zBT g p) := by
 unfold zBT
 refine ⟨?_, fun c hc => ?_⟩
 · have h1 : (sortZ (zi (atM (spotsL g)) p.2 (stepsL.take (manyOf g)))).length = (zi (atM (spotsL g)) p.2 (stepsL.take (manyOf g))).length := (List.mergeSort_perm _ _).length_eq
   have h2 := zCy (atM (spotsL g)) p.2 (stepsL.take (manyOf g))
   have h3 := zA8 g
   rw [List.length_take] at h2
   omega
 · rw [zCk] at hc
   unfold zi at hc
   obtain ⟨d, _, hd⟩ := List.mem_filterMap.1 hc
   obtain ⟨c', h1, q, hq, h2⟩ := zKJ _ _ (zFe hd)
   injection h1 with _ h1
   rw [h1, ← h2]
   exact zGE q hq
theorem zFx {g : Grd} : ∀ l ∈ nbsOf g, InN g.cells.length l := by
 intro l hl
 obtain ⟨p, _, rfl⟩ := List.mem_map.1 hl
 exact zNE
theorem zGx (l : List Int) : (sortZ l).length = l.length := (List.mergeSort_perm l _).length_eq
theorem zMt {g : Grd} (hg : zAQ g) (k : Int) : ∀ l ∈ famOf g k, InN g.cells.length l := by
 have hlen := hg.len
 have hnl := zBR g
 have hnm := zHO (g := g)
 intro l hl
 unfold famOf at hl
 split at hl
 · unfold zIA at hl
   obtain ⟨i, hi, rfl⟩ := List.mem_map.1 hl
   have := List.mem_range.1 hi
   exact ⟨by simp, fun c hc => by rw [List.mem_singleton.1 hc]; omega⟩
 split at hl
 · exact zBU hg _ l hl
 split at hl
 · exact zBU hg _ l hl
 split at hl
 · unfold zBY at hl
   split at hl
   · exact zBU hg _ l hl
   split at hl
   · rcases zJT hl with hl | hl
     · exact zBU hg _ l hl
     · exact zBU hg _ l hl
   · cases hl
 split at hl
 · exact zFx l hl
 split at hl
 · unfold zIJ at hl
   obtain ⟨⟨x, i⟩, hx, rfl⟩ := List.mem_map.1 hl
   have hx := List.mk_mem_zipIdx_iff_getElem?.1 hx
   have hxm := List.mem_of_getElem? hx
   have hi := (List.getElem?_eq_some_iff.1 hx).1
   have h6 := hnm x hxm
   refine ⟨by rw [zGx]; simp; omega, fun c hc => ?_⟩
   rw [zCk] at hc
   rcases List.mem_append.1 hc with hc | hc
   · exact (zFx x hxm).2 c hc
   · rw [List.mem_singleton.1 hc]; dsimp only; omega
 split at hl
 · unfold zE4 at hl
   obtain ⟨⟨x, i⟩, hx, hl⟩ := List.mem_flatMap.1 hl
   have hx := List.mk_mem_zipIdx_iff_getElem?.1 hx
   have hxm := List.mem_of_getElem? hx
   have hi := (List.getElem?_eq_some_iff.1 hx).1
   unfold zBf at hl
   obtain ⟨j, hj, rfl⟩ := List.mem_map.1 hl
   have hj := (List.mem_filter.1 hj).1
   refine ⟨by simp, fun c hc => ?_⟩
   simp only [List.mem_cons, List.not_mem_nil, or_false] at hc
   rcases hc with rfl | rfl
   · omega
   · exact (zFx x hxm).2 _ hj
 · rw [List.mem_singleton.1 hl]
   refine ⟨by rw [zBN]; omega, fun c hc => ?_⟩
   unfold upTo' at hc
   obtain ⟨i, hi, rfl⟩ := List.mem_map.1 hc
   have := List.mem_range.1 hi
   omega
theorem zLc {g : Grd} (hg : zAQ g) {rs : List (List Int)} (hr : zMj g rs) : ∀ l ∈ regsOf g rs, InN g.cells.length l := by
 intro l hl
 obtain ⟨ps, hps, rfl⟩ := List.mem_map.1 hl
 have hP := hr.all ps hps
 have h1 := zEI hP.mem hP.nd
 have h2 := hg.len
 refine ⟨by unfold zAG; rw [List.length_map]; omega, fun c hc => ?_⟩
 obtain ⟨p, hp, rfl⟩ := List.mem_map.1 hc
 have := zHj (hP.mem p hp)
 omega
theorem zI6 {d : Dcl} (hg : zAQ (zJ d)) (hr : ∀ r ∈ d.regions, zMj (zJ d) r.lists) : ∀ l ∈ listsOf d, ∀ ps ∈ l, InN (zJ d).cells.length ps := by
 intro l hl ps hps
 unfold listsOf at hl
 rcases List.mem_append.1 hl with hl | hl
 · obtain ⟨f, _, rfl⟩ := List.mem_map.1 hl
   exact zMt hg _ ps hps
 · obtain ⟨r, hrm, rfl⟩ := List.mem_map.1 hl
   exact zLc hg (hr r hrm) ps hps
theorem zJs {g : Grd} (hw : 1 ≤ g.w) {x y : Int} (hx : 0 ≤ x) (hy : 0 ≤ y) (h : zBG g x = zBG g y) : x = y := by
 unfold zBG at h
 have h1 := congrArg Prod.fst h
 have h2 := congrArg Prod.snd h
 dsimp only at h1 h2
 rw [Int.tdiv_eq_ediv_of_nonneg hx, Int.tdiv_eq_ediv_of_nonneg hy] at h2
 rw [Int.tdiv_eq_ediv_of_nonneg hx, Int.tdiv_eq_ediv_of_nonneg hy, Int.tmod_eq_emod_of_nonneg hx, Int.tmod_eq_emod_of_nonneg hy, h2] at h1
 have h3 : x % g.w = y % g.w := by
  split at h1 <;> omega
 have e1 := Int.emod_add_mul_ediv x g.w
 have e2 := Int.emod_add_mul_ediv y g.w
 rw [h2, h3] at e1
 omega
theorem zCu {g : Grd} (hg : zAQ g) {p q : Int × (Int × Int)} (hp : p ∈ spotsL g) (hq : q ∈ spotsL g) (h : p.1 = q.1 ∨ p.2 = q.2) : p = q := by
 obtain ⟨k, hk⟩ := List.mem_iff_getElem?.1 hp
 obtain ⟨j, hj⟩ := List.mem_iff_getElem?.1 hq
 have hkl := (List.getElem?_eq_some_iff.1 hk).1
 have hjl := (List.getElem?_eq_some_iff.1 hj).1
 rw [zh] at hkl hjl
 rcases h with h | h
 · have h1 := zAx hk
   have h2 := zAx hj
   have : k = j := by omega
   subst this
   rw [hk] at hj
   exact Option.some.inj hj
 · have hx : g.cells[k]? = some g.cells[k] := List.getElem?_eq_getElem hkl
   have hy : g.cells[j]? = some g.cells[j] := List.getElem?_eq_getElem hjl
   have hkk := hk
   have hjj := hj
   rw [zBP hx] at hk
   rw [zBP hy] at hj
   have hk := Option.some.inj hk
   have hj := Option.some.inj hj
   have hs : zBG g g.cells[k] = zBG g g.cells[j] := by rw [← hk, ← hj] at h; exact h
   have he := zJs (by have := hg.make.wi; omega) (hg.cell _ (List.getElem_mem _)).1 (hg.cell _ (List.getElem_mem _)).1 hs
   have hinc : g.cells.Pairwise (· < ·) := by rw [hg.cells]; exact zFI _ _
   have hkj : k = j := by
    apply Classical.byContradiction
    intro hne
    have := List.pairwise_iff_getElem.1 hinc
    rcases Nat.lt_or_gt_of_ne hne with hl | hl
    · have := this k j hkl hjl hl; omega
    · have := this j k hjl hkl hl; omega
   subst hkj
   rw [hkk] at hjj
   exact Option.some.inj hjj
theorem zRN (n : Nat) : ∀ xs : List (Int × (Int × Int)), xs.length = n → (∀ p ∈ xs, ∀ q ∈ xs, p.2 = q.2 → p = q) → ∀ p ∈ xs, lkp p.2 (atM xs) = some (.int .i64 p.1) := by
 induction n with
 | zero => intro xs h _ p hp; rw [List.length_eq_zero_iff.1 h] at hp; cases hp
 | succ n ih =>
   intro xs h hi p hp
   obtain ⟨ys, q, rfl⟩ : ∃ ys q, xs = ys ++ [q] := ⟨xs.dropLast, xs.getLast (by intro e; rw [e] at h; cases h), (List.dropLast_concat_getLast _).symm⟩
   rw [zDA, zCe]
   by_cases e : p.2 = q.2
   · have := hi p hp q (by simp) e
     subst this
     rw [if_pos rfl]
   · rw [if_neg e]
     refine ih ys (by simpa using h) (fun a ha b hb => hi a (List.mem_append_left _ ha) b (List.mem_append_left _ hb)) p ?_
     rcases List.mem_append.1 hp with hp | hp
     · exact hp
     · rw [List.mem_singleton.1 hp] at e; exact absurd rfl e
theorem zQ0 (n : Nat) : ∀ xs : List (Int × (Int × Int)), xs.length = n → ∀ a v, lkp a (atM xs) = some v → ∃ p ∈ xs, p.2 = a ∧ v = .int .i64 p.1 := by
 induction n with
 | zero =>
   intro xs h a v hv
   rw [List.length_eq_zero_iff.1 h] at hv
   cases hv
 | succ n ih =>
   intro xs h a v hv
   obtain ⟨ys, q, rfl⟩ : ∃ ys q, xs = ys ++ [q] := ⟨xs.dropLast, xs.getLast (by intro e; rw [e] at h; cases h), (List.dropLast_concat_getLast _).symm⟩
   rw [zDA, zCe] at hv
   by_cases e : a = q.2
   · rw [if_pos e] at hv
     exact ⟨q, by simp, e.symm, (Option.some.inj hv).symm⟩
   · rw [if_neg e] at hv
     obtain ⟨p, h1, h2⟩ := ih ys (by simpa using h) a v hv
     exact ⟨p, List.mem_append_left _ h1, h2⟩
theorem zGL {g : Grd} (hg : zAQ g) {s : Int × Int} {d : Int × Int} {n : Int} : numOf (lkp (s.1 + d.1, s.2 + d.2) (atM (spotsL g))) = some n ↔ ∃ q ∈ spotsL g, q.2 = (s.1 + d.1, s.2 + d.2) ∧ q.1 = n := by
 constructor
 · intro h
   obtain ⟨q, hq, h1, h2⟩ := zQ0 _ (spotsL g) rfl _ _ (zFe h)
   injection h2 with _ h2
   exact ⟨q, hq, h1, h2.symm⟩
 · rintro ⟨q, hq, h1, h2⟩
   rw [← h1, zRN _ (spotsL g) rfl (fun a ha b hb e => zCu hg ha hb (.inr e)) q hq, ← h2]; rfl
theorem zOo {g : Grd} (hg : zAQ g) {p : Int × (Int × Int)} {n : Int} : n ∈ zBT g p ↔ ∃ d ∈ stepsL.take (manyOf g), ∃ q ∈ spotsL g, q.2 = (p.2.1 + d.1, p.2.2 + d.2) ∧ q.1 = n := by
 unfold zBT
 rw [zCk]
 unfold zi
 rw [List.mem_filterMap]
 constructor
 · rintro ⟨d, hd, h⟩
   exact ⟨d, hd, (zGL hg).1 h⟩
 · rintro ⟨d, hd, h⟩
   exact ⟨d, hd, (zGL hg).2 h⟩
theorem zKZ (g : Grd) : manyOf g = 4 ∨ manyOf g = 6 := by unfold manyOf; split <;> simp
theorem zMA {m : Nat} (hm : m = 4 ∨ m = 6) : ∀ d ∈ stepsL.take m, (-d.1, -d.2) ∈ stepsL.take m := by
 rcases hm with rfl | rfl <;> decide
theorem zOL {m : Nat} : ∀ d ∈ stepsL.take m, ¬ (d.1 = 0 ∧ d.2 = 0) := by
 intro d hd
 have := List.mem_of_mem_take hd
 revert d
 have : ∀ d ∈ stepsL, ¬ (d.1 = 0 ∧ d.2 = 0) := by decide
 intro d _ hd
 exact this d hd
theorem zMh {m : Nat} (hm : m = 4 ∨ m = 6) : (stepsL.take m).Nodup := by
 rcases hm with rfl | rfl <;> decide
theorem zNw (l : List Int) : (sortZ l).Pairwise (fun x y => x ≤ y) := by
 have := List.pairwise_mergeSort (le := fun x y : Int => decide (x ≤ y)) (fun a b c h1 h2 => by simp at h1 h2 ⊢; omega) (fun a b => by simp; omega) l
 exact this.imp (fun h => by simpa using h)
theorem zMf {l : List Int} (h : l.Nodup) : (sortZ l).Pairwise (· < ·) := by
 have h1 := zNw l
 have h2 : (sortZ l).Nodup := (List.mergeSort_perm l _).symm.nodup h
 have h3 : (sortZ l).Pairwise (fun x y => x ≤ y ∧ x ≠ y) := List.Pairwise.and h1 h2
 exact h3.imp (fun h => by omega)
theorem zMz {g : Grd} (hg : zAQ g) (p : Int × (Int × Int)) : (zBT g p).Pairwise (· < ·) := by
 unfold zBT
 refine zMf ?_
 unfold zi
 refine List.Pairwise.filterMap _ ?_ (zMh (zKZ g))
 intro d1 d2 hne b hb b' hb' e
 subst e
 obtain ⟨q1, h1, h2, h3⟩ := (zGL hg).1 hb
 obtain ⟨q2, k1, k2, k3⟩ := (zGL hg).1 hb'
 have := zCu hg h1 k1 (.inl (by rw [h3, k3]))
 subst this
 rw [h2] at k2
 apply hne
 have e1 := congrArg Prod.fst k2
 have e2 := congrArg Prod.snd k2
 dsimp only at e1 e2
 exact Prod.ext (by omega) (by omega)
theorem zLC {g : Grd} (hg : zAQ g) (i : Nat) (l : List Int) (hl : (nbsOf g)[i]? = some l) (k : Nat) (n : Int) (hn : l[k]? = some n) :
 0 ≤ n ∧ n < (nbsOf g).length ∧ n ≠ i ∧ (∀ m, 0 < k → l[k - 1]? = some m → m < n) ∧ ∀ l', (nbsOf g)[n.toNat]? = some l' → (i : Int) ∈ l' := by
 have hnm := zBR g
 unfold nbsOf at hl
 rw [List.getElem?_map] at hl
 obtain ⟨p, hp, rfl⟩ := Option.map_eq_some_iff.1 hl
 have hp1 := zAx hp
 have hpm := List.mem_of_getElem? hp
 obtain ⟨d, hd, q, hq, hq2, hq1⟩ := (zOo hg).1 (List.mem_of_getElem? hn)
 have hqi := zGE q hq
 refine ⟨by omega, by omega, fun e => ?_, fun m hk hm => ?_, fun l' hl' => ?_⟩
 · have : q = p := zCu hg hq hpm (.inl (by omega))
   subst this
   have e1 := congrArg Prod.fst hq2
   have e2 := congrArg Prod.snd hq2
   dsimp only at e1 e2
   exact zOL d hd ⟨by omega, by omega⟩
 · have hlt := zMz hg p
   obtain ⟨a1, a2⟩ := List.getElem?_eq_some_iff.1 hm
   obtain ⟨b1, b2⟩ := List.getElem?_eq_some_iff.1 hn
   have := List.pairwise_iff_getElem.1 hlt (k - 1) k a1 b1 (by omega)
   rw [a2, b2] at this
   exact this
 · unfold nbsOf at hl'
   rw [List.getElem?_map] at hl'
   obtain ⟨q', hq', rfl⟩ := Option.map_eq_some_iff.1 hl'
   have h1 := zAx hq'
   have : q' = q := zCu hg (List.mem_of_getElem? hq') hq (.inl (by omega))
   subst this
   rw [zOo hg]
   refine ⟨(-d.1, -d.2), zMA (zKZ g) d hd, p, hpm, ?_, hp1⟩
   rw [hq2]
   dsimp only
   exact Prod.ext (by dsimp only; omega) (by dsimp only; omega)
end Kd

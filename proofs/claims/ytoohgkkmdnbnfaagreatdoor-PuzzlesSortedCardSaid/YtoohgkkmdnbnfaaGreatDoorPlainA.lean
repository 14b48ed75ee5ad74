/-
  Kinds, in plain lists: declarations, how names are resolved; how they lie in cells.
-/
import Derived.Test.YtoohgkkmdnbnfaaGreatDoorIdealN
import Derived.Test.YtoohgkkmdnbnfaaGreatDoorIdealI
set_option linter.unusedSimpArgs false
set_option linter.unusedVariables false
namespace Kd
open Go Go.Ideal
structure Sym where
 name : ByteArray
 value : Int
 deriving DecidableEq
structure Reg where
 name : ByteArray
 lists : List (List Int)
 deriving DecidableEq
structure Clu where
 name : ByteArray
 on : ByteArray
 family : Int
 type : Int
 lo : Int
 hi : Int
 deriving DecidableEq
structure Rul where
 name : ByteArray
 on : ByteArray
 kind : Int
 family : Int
 names : List ByteArray
 others : List ByteArray
 set : Int
 other : Int
 op : Int
 n : Int
 by_ : ByteArray
 clue : Int
 deriving DecidableEq
structure Dcl where
 name : ByteArray
 version : Int
 shape : Int
 w : Int
 h : Int
 holes : List Int
 symbols : List Sym
 regions : List Reg
 clues : List Clu
 rules : List Rul
 deriving DecidableEq
structure Grd where
 shape : Int
 w : Int
 h : Int
 holes : List Int
 cells : List Int
 deriving DecidableEq
structure Knd where
 decl : Dcl
 grid : Grd
 nbs : List (List Int)
 lists : List (List (List Int))
 deriving DecidableEq
def givenN : List ByteArray := [⟨⟨[99, 101, 108, 108, 115]⟩⟩, ⟨⟨[114, 111, 119, 115]⟩⟩, ⟨⟨[99, 111, 108, 117, 109, 110, 115]⟩⟩, ⟨⟨[100, 105, 97, 103, 111, 110, 97, 108, 115]⟩⟩, ⟨⟨[97, 114, 111, 117, 110, 100]⟩⟩, ⟨⟨[110, 101, 97, 114]⟩⟩, ⟨⟨[112, 97, 105, 114, 115]⟩⟩, ⟨⟨[97, 108, 108]⟩⟩]
def symN (d : Dcl) : List ByteArray := d.symbols.map (·.name)
def famN (d : Dcl) : List ByteArray := givenN ++ d.regions.map (·.name)
def cluN (d : Dcl) : List ByteArray := d.clues.map (·.name)
def rulN (d : Dcl) : List ByteArray := d.rules.map (·.name)
structure RulOK (syms fam clus : List ByteArray) (r : Rul) : Prop where
 on : r.on = ⟨⟨[]⟩⟩ ∨ r.on ∈ fam
 names : ∀ s ∈ r.names, s ∈ syms
 others : ∀ s ∈ r.others, s ∈ syms
 by_ : r.by_ = ⟨⟨[]⟩⟩ ∨ r.by_ ∈ clus
structure RslvOK (d : Dcl) : Prop where
 syms : d.symbols.length ≤ 16
 symNd : (symN d).Nodup
 famNd : (famN d).Nodup
 cluNd : (cluN d).Nodup
 cluOn : ∀ c ∈ d.clues, c.on ∈ famN d
 rulNd : (rulN d).Nodup
 rul : ∀ r ∈ d.rules, RulOK (symN d) (famN d) (cluN d) r
end Kd
namespace Kd
open Go Go.Ideal
structure MakeOK (s w h : Int) (holes : List Int) : Prop where
 sh : s = 1 ∨ s = 2
 wi : 1 ≤ w ∧ w ≤ 16
 he : 1 ≤ h ∧ h ≤ 16
 len : (holes.length : Int) < w * h
 inc : holes.Pairwise (· < ·)
 mem : ∀ x ∈ holes, 0 ≤ x ∧ x < w * h
def cellsN (n : Nat) (holes : List Int) : List Int := ((List.range n).map fun i : Nat => (i : Int)).filter fun i => !decide (i ∈ holes)
theorem cellsN_len (n : Nat) (holes : List Int) : (cellsN n holes).length ≤ n := by
 unfold cellsN
 refine Nat.le_trans (List.length_filter_le _ _) ?_
 simp
theorem cellsN_mem {n : Nat} {holes : List Int} {x : Int} (h : x ∈ cellsN n holes) : 0 ≤ x ∧ x < n ∧ x ∉ holes := by
 unfold cellsN at h
 obtain ⟨h1, h2⟩ := List.mem_filter.1 h
 obtain ⟨i, hi, rfl⟩ := List.mem_map.1 h1
 have := List.mem_range.1 hi
 exact ⟨by omega, by omega, by simpa using h2⟩
def cellsOfG (w h : Int) (holes : List Int) : List Int := cellsN (w * h).toNat holes
theorem wh_bounds {w h : Int} (hw : 1 ≤ w ∧ w ≤ 16) (hh : 1 ≤ h ∧ h ≤ 16) : 1 ≤ w * h ∧ w * h ≤ 256 := by
 have h1 : 1 * 1 ≤ w * h := Int.mul_le_mul hw.1 hh.1 (by omega) (by omega)
 have h2 : w * h ≤ 16 * 16 := Int.mul_le_mul hw.2 hh.2 (by omega) (by omega)
 omega
structure GrdOK (g : Grd) : Prop where
 make : MakeOK g.shape g.w g.h g.holes
 cells : g.cells = cellsOfG g.w g.h g.holes
theorem GrdOK.cell {g : Grd} (h : GrdOK g) : ∀ x ∈ g.cells, 0 ≤ x ∧ x < 256 := by
 intro x hx
 rw [h.cells] at hx
 have h1 := cellsN_mem hx
 have h2 := wh_bounds h.make.wi h.make.he
 omega
theorem GrdOK.len {g : Grd} (h : GrdOK g) : g.cells.length ≤ 256 := by
 rw [h.cells]
 have h1 := cellsN_len (g.w * g.h).toNat g.holes
 have h2 := wh_bounds h.make.wi h.make.he
 unfold cellsOfG
 omega
end Kd
namespace Kd
open Go Go.Ideal
end Kd
namespace Kd
open Go Go.Ideal
def posI (p : Int) : List Int → Nat
 | [] => 0
 | a :: l => if p = a then 0 else posI p l + 1
structure RegP (g : Grd) (ps : List Int) : Prop where
 ne : ps ≠ []
 mem : ∀ p ∈ ps, p ∈ g.cells
 nd : (ps.map fun p => (posI p g.cells : Int)).Nodup
structure RegOK (g : Grd) (rs : List (List Int)) : Prop where
 len : rs.length ≤ 64
 all : ∀ ps ∈ rs, RegP g ps
end Kd
namespace Kd
open Go Go.Ideal
end Kd
namespace Kd
open Go Go.Ideal Canon
def gvnE : Enc Clue := ⟨3, Value, fun g v => [.int .i64 g.clue, .int .i64 g.at_, v], fun g v => [fSl intE v g.values], fun _ _ => rfl⟩
abbrev gvnV (g : Clue) (v : Value) : Value := .agg ⟨[.int .i64 g.clue, .int .i64 g.at_, v]⟩
def firstNZ : List Int → Int
 | [] => 0
 | a :: l => if a ≠ 0 then a else firstNZ l
def plc (a b : Clue) : Int := firstNZ [ordI a.clue b.clue, ordI a.at_ b.at_]
theorem plc_eq (a b : Clue) : plc a b = ordL ordI [a.clue, a.at_] [b.clue, b.at_] := by
 unfold plc
 simp only [firstNZ, ordL]
theorem plc_neg {a b : Clue} : plc a b < 0 ↔ a.clue < b.clue ∨ (a.clue = b.clue ∧ a.at_ < b.at_) := by
 unfold plc ordI
 simp only [firstNZ]
 split <;> split at * <;> (try split at *) <;> (try split at *) <;> (try split at *) <;> omega
theorem plc_trans {a b c : Clue} (h1 : plc a b < 0) (h2 : plc b c < 0) : plc a c < 0 := by
 rw [plc_neg] at *; omega
def RightG (k : Knd) (g : Clue) : Prop := ∃ (c : Clu) (l : List (List Int)), 0 ≤ g.clue ∧ k.decl.clues[g.clue.toNat]? = some c ∧ k.lists[c.family.toNat]? = some l ∧ 0 ≤ g.at_ ∧ g.at_ < l.length ∧
 ((c.type = 1 ∧ g.values.length = 1 ∧ ∀ x ∈ g.values, 0 ≤ x ∧ x ≤ (k.decl.symbols.length : Int) - 1) ∨ (c.type = 2 ∧ g.values.length = 1 ∧ ∀ x ∈ g.values, c.lo ≤ x ∧ x ≤ c.hi) ∨
   (c.type ≠ 1 ∧ c.type ≠ 2 ∧ g.values.length ≤ 8 ∧ ∀ x ∈ g.values, 1 ≤ x ∧ x ≤ 256))
structure PuzOK (k : Knd) (p : List Clue) : Prop where
 len : p.length ≤ 512
 right : ∀ g ∈ p, RightG k g
 sorted : ∀ (i : Nat) a b, p[i]? = some a → p[i + 1]? = some b → plc a b < 0
end Kd
namespace Kd
open Canon
theorem plc_zero {a b : Clue} : plc a b = 0 ↔ a.clue = b.clue ∧ a.at_ = b.at_ := by
 unfold plc ordI
 simp only [firstNZ]
 split <;> split at * <;> (try split at *) <;> (try split at *) <;> (try split at *) <;> omega
theorem ordC_plc (a b : Clue) : ordC a b = if plc a b ≠ 0 then plc a b else ordL ordI a.values b.values := by
 rw [ordC_eq, ← plc_eq]
theorem ordC_lt {a b : Clue} : ordC a b < 0 ↔ plc a b < 0 ∨ (plc a b = 0 ∧ ordL ordI a.values b.values < 0) := by
 rw [ordC_plc]
 split <;> omega
structure SortOK (xs rs : List Clue) : Prop where
 inc : rs.Pairwise fun a b => plc a b < 0
 sub : ∀ r ∈ rs, r ∈ xs
 all : ∀ x ∈ xs, ∃ r ∈ rs, plc x r = 0 ∧ ¬ ordL ordI x.values r.values < 0
theorem pair_eq {rs : List Clue} (h : rs.Pairwise fun a b => plc a b < 0) {a b : Clue} (ha : a ∈ rs) (hb : b ∈ rs) (he : plc a b = 0) : a = b := by
 induction h with
 | nil => cases ha
 | cons h1 _ ih =>
   rcases List.mem_cons.1 ha with e1 | ha' <;> rcases List.mem_cons.1 hb with e2 | hb'
   · rw [e1, e2]
   · have := h1 b hb'; rw [← e1] at this; omega
   · have := h1 a ha'
     rw [← e2] at this
     rw [plc_zero] at he
     rw [plc_neg] at this
     omega
   · exact ih ha' hb'
theorem SortOK.mem {xs rs rs' : List Clue} (h : SortOK xs rs) (h' : SortOK xs rs') {r : Clue} (hr : r ∈ rs) : r ∈ rs' := by
 obtain ⟨r2, m2, p2, v2⟩ := h'.all r (h.sub r hr)
 obtain ⟨r1, m1, p1, v1⟩ := h.all r2 (h'.sub r2 m2)
 have h3 : plc r r1 = 0 := by rw [plc_zero] at *; omega
 have := pair_eq h.inc hr m1 h3
 subst this
 have hO := ordL_ok ordI_ok
 have h4 : ordL ordI r.values r2.values = 0 := by
  have := hO.neg r2.values r.values
  have := hO.neg r.values r2.values
  omega
 have h5 := (hO.zero _ _).1 h4
 rw [plc_zero] at p2
 have : r = r2 := by cases r; cases r2; simp_all
 rw [this]; exact m2
theorem inc_ext : ∀ {a b : List Clue}, (a.Pairwise fun x y => plc x y < 0) → (b.Pairwise fun x y => plc x y < 0) → (∀ x, x ∈ a ↔ x ∈ b) → a = b
 | [], [], _, _, _ => rfl
 | [], y :: b, _, _, h => absurd ((h y).2 (List.mem_cons_self ..)) (by simp)
 | x :: a, [], _, _, h => absurd ((h x).1 (List.mem_cons_self ..)) (by simp)
 | x :: a, y :: b, ha, hb, h => by
   obtain ⟨a1, a2⟩ := List.pairwise_cons.1 ha
   obtain ⟨b1, b2⟩ := List.pairwise_cons.1 hb
   have hxy : x = y := by
    rcases List.mem_cons.1 ((h x).1 (List.mem_cons_self ..)) with e | e
    · exact e
    · rcases List.mem_cons.1 ((h y).2 (List.mem_cons_self ..)) with e' | e'
      · exact e'.symm
      · have q1 := b1 x e
        have q2 := a1 y e'
        rw [plc_neg] at q1 q2
        omega
   subst hxy
   have irr : ∀ z : Clue, ¬ plc z z < 0 := fun z h => by rw [plc_neg] at h; omega
   rw [inc_ext a2 b2 fun z => ⟨fun hz => ?_, fun hz => ?_⟩]
   · rcases List.mem_cons.1 ((h z).1 (List.mem_cons_of_mem _ hz)) with e | e
     · subst e; exact absurd (a1 z hz) (irr z)
     · exact e
   · rcases List.mem_cons.1 ((h z).2 (List.mem_cons_of_mem _ hz)) with e | e
     · subst e; exact absurd (b1 z hz) (irr z)
     · exact e
theorem SortOK.uniq {xs rs rs' : List Clue} (h : SortOK xs rs) (h' : SortOK xs rs') : rs = rs' := inc_ext h.inc h'.inc fun r => ⟨h.mem h', h'.mem h⟩
theorem SortOK.of_mem {xs xs' rs : List Clue} (h : SortOK xs rs) (h1 : ∀ x, x ∈ xs' ↔ x ∈ xs) : SortOK xs' rs := ⟨h.inc, fun r hr => (h1 r).2 (h.sub r hr), fun x hx => h.all x ((h1 x).1 hx)⟩
theorem SortOK.self {xs rs : List Clue} (h : SortOK xs rs) : SortOK rs rs := ⟨h.inc, fun _ h => h, fun x hx => ⟨x, hx, by rw [plc_zero]; exact ⟨rfl, rfl⟩, by have := ((ordL_ok ordI_ok).zero x.values x.values).2 rfl; omega⟩⟩
def cgo {β : Type} (eq : β → β → Bool) (p : β) : List β → List β
 | [] => []
 | y :: l => cond (eq y p) (cgo eq y l) (y :: cgo eq y l)
def cmpct {β : Type} (eq : β → β → Bool) : List β → List β
 | [] => []
 | x :: l => x :: cgo eq x l
theorem cgo_mem {β : Type} {eq : β → β → Bool} : ∀ {l : List β} {p r : β}, r ∈ cgo eq p l → r ∈ l
 | y :: l, p, r, h => by
   unfold cgo at h
   cases e : eq y p with
   | true => rw [e] at h; exact List.mem_cons_of_mem _ (cgo_mem h)
   | false =>
     rw [e] at h
     rcases List.mem_cons.1 h with rfl | h
     · exact List.mem_cons_self ..
     · exact List.mem_cons_of_mem _ (cgo_mem h)
theorem cmpct_mem {β : Type} {eq : β → β → Bool} : ∀ {l : List β} {r : β}, r ∈ cmpct eq l → r ∈ l
 | x :: l, r, h => by
   rcases List.mem_cons.1 h with rfl | h
   · exact List.mem_cons_self ..
   · exact List.mem_cons_of_mem _ (cgo_mem h)
theorem cgo_map {β γ : Type} {eq : β → β → Bool} {eq' : γ → γ → Bool} (f : β → γ) (h : ∀ a b, eq a b = eq' (f a) (f b)) : ∀ (l : List β) (p : β), (cgo eq p l).map f = cgo eq' (f p) (l.map f)
 | [], _ => rfl
 | y :: l, p => by
   rw [List.map_cons, cgo, cgo, ← h]
   cases eq y p with
   | true => exact cgo_map f h l y
   | false =>
     show f y :: (cgo eq y l).map f = f y :: _
     rw [cgo_map f h l y]
theorem cmpct_map {β γ : Type} {eq : β → β → Bool} {eq' : γ → γ → Bool} (f : β → γ) (h : ∀ a b, eq a b = eq' (f a) (f b)) : ∀ (l : List β), (cmpct eq l).map f = cmpct eq' (l.map f)
 | [] => rfl
 | x :: l => by
   show f x :: (cgo eq x l).map f = f x :: _
   rw [cgo_map f h l x]
abbrev samePl (a b : Clue) : Bool := decide (plc a b = 0)
theorem cgo_ok : ∀ (l : List Clue) (p : Clue), ((p :: l).Pairwise fun x y => ¬ ordC y x < 0) → (p :: cgo samePl p l).Pairwise (fun a b => plc a b < 0) ∧ ∀ x ∈ l, (∃ r ∈ p :: cgo samePl p l, plc x r = 0 ∧ ¬ ordL ordI x.values r.values < 0)
 | [], p, _ => ⟨List.pairwise_singleton .., fun x hx => by cases hx⟩
 | y :: l, p, h => by
   obtain ⟨h1, h2⟩ := List.pairwise_cons.1 h
   have hyp := h1 y (List.mem_cons_self ..)
   obtain ⟨i1, i2⟩ := cgo_ok l y h2
   obtain ⟨i3, i4⟩ := List.pairwise_cons.1 i1
   have hO := ordL_ok ordI_ok
   unfold cgo
   by_cases e : plc y p = 0
   · rw [show samePl y p = true from decide_eq_true e, cond_true]
     have ep : ∀ z, plc p z = plc y z := fun z => by
      rw [plc_zero] at e
      unfold plc
      rw [e.1, e.2]
     refine ⟨List.pairwise_cons.2 ⟨fun z hz => by rw [ep]; exact i3 z hz, i4⟩, fun x hx => ?_⟩
     have hp : ∀ x : Clue, plc x y = 0 → ¬ ordL ordI x.values y.values < 0 → ∃ r ∈ p :: cgo samePl y l, plc x r = 0 ∧ ¬ ordL ordI x.values r.values < 0 := fun x q1 q2 => by
      refine ⟨p, List.mem_cons_self .., by rw [plc_zero] at *; omega, fun q => ?_⟩
      have hpy : ¬ ordL ordI y.values p.values < 0 := fun q => hyp (ordC_lt.2 (.inr ⟨e, q⟩))
      by_cases e1 : ordL ordI x.values y.values = 0
      · rw [(hO.zero _ _).1 e1] at q; exact hpy q
      by_cases e2 : ordL ordI y.values p.values = 0
      · rw [← (hO.zero _ _).1 e2] at q; exact q2 q
      have := hO.neg p.values y.values
      have := hO.neg y.values p.values
      have := hO.neg y.values x.values
      have := hO.neg x.values y.values
      have := hO.trans p.values y.values x.values (by omega) (by omega)
      have := hO.neg p.values x.values
      omega
     rcases List.mem_cons.1 hx with rfl | hx
     · exact hp x (by rw [plc_zero]; exact ⟨rfl, rfl⟩) (by have := (hO.zero x.values x.values).2 rfl; omega)
     · obtain ⟨r, m, q1, q2⟩ := i2 x hx
       rcases List.mem_cons.1 m with rfl | m
       · exact hp x q1 q2
       · exact ⟨r, List.mem_cons_of_mem _ m, q1, q2⟩
   · rw [show samePl y p = false from decide_eq_false e, cond_false]
     have hpy : plc p y < 0 := by
      have : ¬ plc y p < 0 := fun q => hyp (ordC_lt.2 (.inl q))
      rw [plc_neg] at *
      rw [plc_zero] at e
      omega
     refine ⟨List.pairwise_cons.2 ⟨fun z hz => ?_, i1⟩, fun x hx => ?_⟩
     · rcases List.mem_cons.1 hz with rfl | hz
       · exact hpy
       · exact plc_trans hpy (i3 z hz)
     · rcases List.mem_cons.1 hx with rfl | hx
       · exact ⟨x, List.mem_cons_of_mem _ (List.mem_cons_self ..), by rw [plc_zero]; exact ⟨rfl, rfl⟩, by have := (hO.zero x.values x.values).2 rfl; omega⟩
       · obtain ⟨r, m, q⟩ := i2 x hx
         exact ⟨r, List.mem_cons_of_mem _ m, q⟩
theorem sortOK_cmpct {xs ys : List Clue} (hp : ys.Perm xs) (hs : ys.Pairwise fun x y => ¬ ordC y x < 0) : SortOK xs (cmpct samePl ys) := by
 cases ys with
 | nil => exact ⟨List.Pairwise.nil, (fun r hr => by cases hr), (fun x hx => by have := hp.mem_iff.2 hx; cases this)⟩
 | cons p l =>
   obtain ⟨h1, h2⟩ := cgo_ok l p hs
   refine ⟨h1, fun r hr => hp.mem_iff.1 (cmpct_mem hr), fun x hx => ?_⟩
   rcases List.mem_cons.1 (hp.mem_iff.2 hx) with rfl | hx
   · exact ⟨x, List.mem_cons_self .., by rw [plc_zero]; exact ⟨rfl, rfl⟩, by have := ((ordL_ok ordI_ok).zero x.values x.values).2 rfl; omega⟩
   · exact h2 x hx
def opn (p : List Clue) (x : Clue) : Bool := match p.getLast? with
 | none => true
 | some y => decide (0 < plc x y)
theorem opn_app {p : List Clue} {b x : Clue} : opn (p ++ [b]) x = decide (0 < plc x b) := by
 unfold opn
 rw [List.getLast?_append]; rfl
theorem plc_pos {a b : Clue} : 0 < plc a b ↔ plc b a < 0 := by
 rw [plc_neg]
 unfold plc ordI
 simp only [firstNZ]
 split <;> split at * <;> (try split at *) <;> (try split at *) <;> (try split at *) <;> omega
structure SelOK (l p : List Clue) (n : Nat) : Prop where
 inc : p.Pairwise fun a b => plc a b < 0
 sub : ∀ r ∈ p, r ∈ l
 done : ∀ x ∈ l, opn p x = false → ∃ r ∈ p, plc x r = 0 ∧ ¬ ordL ordI x.values r.values < 0
 cnt : l.countP (opn p) + n ≤ l.length
theorem selOK_nil {l : List Clue} : SelOK l [] 0 := ⟨List.Pairwise.nil, (fun r hr => by cases hr), (fun x hx h => by cases h), List.countP_le_length⟩
theorem countP_lt' {α : Type} {p q : α → Bool} : ∀ {l : List α} {b : α}, b ∈ l → p b = true → q b = false → (∀ x, q x = true → p x = true) → l.countP q + 1 ≤ l.countP p
 | x :: l, b, hb, h1, h2, h3 => by
   rw [List.countP_cons, List.countP_cons]
   rcases List.mem_cons.1 hb with rfl | hb
   · have := List.countP_mono_left (l := l) (p := q) (q := p) fun x _ => h3 x
     rw [h1, h2]
     simp only [if_true]
     simp; omega
   · have := countP_lt' hb h1 h2 h3
     by_cases e : q x = true
     · rw [if_pos e, if_pos (h3 x e)]; omega
     · rw [if_neg e]; omega
theorem last_le : ∀ {p : List Clue} {y : Clue}, (p.Pairwise fun a b => plc a b < 0) → p.getLast? = some y → ∀ a ∈ p, a = y ∨ plc a y < 0
 | [], y, _, h, a, ha => by cases ha
 | [x], y, _, h, a, ha => by
   cases h
   exact .inl (List.mem_singleton.1 ha)
 | x :: z :: p, y, hp, h, a, ha => by
   obtain ⟨h1, h2⟩ := List.pairwise_cons.1 hp
   have h' : (z :: p).getLast? = some y := by rw [List.getLast?_cons_cons] at h; exact h
   rcases List.mem_cons.1 ha with rfl | ha
   · exact .inr (h1 y (List.mem_of_getLast? h'))
   · exact last_le h2 h' a ha
theorem SelOK.step {l p : List Clue} {n : Nat} {b : Clue} (h : SelOK l p n) (hb : b ∈ l) (ho : opn p b = true) (hl : ∀ x ∈ l, opn p x = true → ¬ ordC x b < 0) : SelOK l (p ++ [b]) (n + 1) := by
 have hab : ∀ y, p.getLast? = some y → plc y b < 0 := fun y hy => by
  unfold opn at ho
  rw [hy] at ho
  exact plc_pos.1 (of_decide_eq_true ho)
 refine ⟨List.pairwise_append.2 ⟨h.inc, List.pairwise_singleton .., fun a ha b' hb' => ?_⟩, fun r hr => ?_, fun x hx hc => ?_, ?_⟩
 · rw [List.mem_singleton.1 hb']
   cases e : p.getLast? with
   | none => rw [List.getLast?_eq_none_iff.1 e] at ha; cases ha
   | some y =>
     have h2 := hab y e
     rcases last_le h.inc e a ha with rfl | h1
     · exact h2
     · exact plc_trans h1 h2
 · rcases List.mem_append.1 hr with hr | hr
   · exact h.sub r hr
   · rw [List.mem_singleton.1 hr]; exact hb
 · rw [opn_app] at hc
   have hc := of_decide_eq_false hc
   cases e : opn p x with
   | true =>
     have h1 := hl x hx e
     rw [ordC_lt] at h1
     refine ⟨b, by simp, ?_, ?_⟩
     · by_cases h2 : plc x b < 0
       · exact absurd (.inl h2) h1
       · omega
     · intro h2
       by_cases h3 : plc x b < 0
       · exact h1 (.inl h3)
       · exact h1 (.inr ⟨by omega, h2⟩)
   | false =>
     obtain ⟨r, m, q⟩ := h.done x hx e
     exact ⟨r, List.mem_append_left _ m, q⟩
 · have := countP_lt' (p := opn p) (q := opn (p ++ [b])) hb ho (by rw [opn_app]; exact decide_eq_false (by rw [plc_pos, plc_neg]; omega)) (fun x hx => by
    rw [opn_app] at hx
    have hx := of_decide_eq_true hx
    unfold opn
    cases e : p.getLast? with
    | none => rfl
    | some y => exact decide_eq_true (plc_pos.2 (plc_trans (hab y e) (plc_pos.1 hx))))
   have := h.cnt
   omega
theorem SelOK.stop {l p : List Clue} {n : Nat} (h : SelOK l p n) (hn : ∀ x ∈ l, opn p x = false) : SortOK l p := ⟨h.inc, h.sub, fun x hx => h.done x hx (hn x hx)⟩
theorem SelOK.full {l p : List Clue} (h : SelOK l p l.length) : SortOK l p := h.stop fun x hx => by
 have h1 := h.cnt
 have h2 : l.countP (opn p) = 0 := by omega
 rw [List.countP_eq_zero] at h2
 simpa using h2 x hx
end Kd
namespace Kd
open Canon
theorem inc_nodup {rs : List Clue} (h : rs.Pairwise fun a b => plc a b < 0) : rs.Nodup := h.imp fun {a b} hab he => by rw [he, plc_neg] at hab; omega
theorem len_sub {α : Type} [DecidableEq α] : ∀ {a b : List α}, a.Nodup → (∀ x ∈ a, x ∈ b) → a.length ≤ b.length
 | [], _, _, _ => Nat.zero_le _
 | x :: a, b, hn, h => by
   obtain ⟨h1, h2⟩ := List.nodup_cons.1 hn
   have hx := h x (List.mem_cons_self ..)
   have := len_sub (b := b.erase x) h2 fun y hy => (List.mem_erase_of_ne (by rintro rfl; exact h1 hy)).2 (h y (List.mem_cons_of_mem _ hy))
   rw [List.length_erase_of_mem hx] at this
   have := List.length_pos_of_mem hx
   rw [List.length_cons]
   omega
theorem len_inc {xs rs : List Clue} (h : SortOK xs rs) : rs.length ≤ xs.length := len_sub (inc_nodup h.inc) h.sub
end Kd

/-
  Constraints and problems, in plain lists: when they are valid.
-/
import Derived.Test.YtpkieeggilkagaaGreatPgA
set_option linter.unusedVariables false
namespace Gph

structure Con where
  kind : Int
  cells : List Int
  set : Int
  other : Int
  lo : Int
  hi : Int
  runs : List Int
  rule : Int
  at_ : Int

structure Prob where
  cells : Int
  symbols : Int
  values : List Int
  nbs : List (List Int)
  cons : List Con

/-- a constraint that is valid -/
structure FineC (cells symbols : Int) (c : Con) : Prop where
  cell : ∀ (i : Nat) x, c.cells[i]? = some x → 0 ≤ x ∧ x < cells ∧ (8 ≤ c.kind → x = i)
  nd : c.cells.Nodup
  kind : 1 ≤ c.kind ∧ c.kind ≤ 9
  two : c.kind = 6 ∨ c.kind = 7 → c.cells.length = 2
  all : 8 ≤ c.kind → (c.cells.length : Int) = cells
  set : 0 ≤ c.set ∧ c.set < (2 ^ symbols.toNat : Nat)
  other : 0 ≤ c.other ∧ c.other < (2 ^ symbols.toNat : Nat)
  lo : 0 ≤ c.lo ∧ c.lo ≤ 65536
  hi : 0 ≤ c.hi ∧ c.hi ≤ 65536
  rlen : c.runs.length ≤ 8
  runs : ∀ x ∈ c.runs, 1 ≤ x ∧ x ≤ 256

theorem FineC.len {cells symbols : Int} {c : Con} (h : FineC cells symbols c) : (c.cells.length : Int) ≤ cells ∨ c.cells = [] := by
  -- distinct numbers below 'cells'
  by_cases hn : c.cells = []
  · exact .inr hn
  left
  have hb : ∀ x ∈ c.cells, 0 ≤ x ∧ x < cells := fun x hx => by
    obtain ⟨i, hi⟩ := List.getElem?_of_mem hx
    have := h.cell i x hi
    exact ⟨this.1, this.2.1⟩
  have : ∀ (m : Nat) (l : List Int), l.Nodup → (∀ x ∈ l, 0 ≤ x ∧ x < (m : Int)) → l.length ≤ m := by
    intro m
    induction m with
    | zero =>
      intro l _ hl
      cases l with
      | nil => simp
      | cons a l => have := hl a (by simp); omega
    | succ m ih =>
      intro l hd hl
      by_cases hm : (m : Int) ∈ l
      · have h1 := List.length_erase_of_mem hm
        have h2 := ih (l.erase (m : Int)) (hd.erase _) (fun x hx => by
          have hne : x ≠ (m : Int) := fun e => by
            subst e
            exact (List.Nodup.mem_erase_iff hd).1 hx |>.1 rfl
          have := hl x (List.mem_of_mem_erase hx)
          omega)
        omega
      · have := ih l hd (fun x hx => by
          have hne : x ≠ (m : Int) := fun e => hm (e ▸ hx)
          have := hl x hx
          omega)
        omega
  have h0 : 0 ≤ cells := by
    obtain ⟨a, ha⟩ := List.exists_mem_of_ne_nil _ hn
    have := hb a ha; omega
  have := this cells.toNat c.cells h.nd (fun x hx => by have := hb x hx; omega)
  omega
end Gph

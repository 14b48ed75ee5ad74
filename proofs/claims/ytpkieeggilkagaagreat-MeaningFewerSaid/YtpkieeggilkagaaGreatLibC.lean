/-
  Constraints and problems checked.
-/
import Derived.Test.YtpkieeggilkagaaGreatLibB
import Derived.Test.YtpkieeggilkagaaGreatPlainA
import Derived.Test.YtpkieeggilkagaaGreatIdealM
set_option linter.unusedSimpArgs false
set_option linter.unusedVariables false
set_option maxRecDepth 10000
set_option maxHeartbeats 2000000
namespace Go.Proofs.YtpkieeggilkagaaGreat
open Go.Ideal Gph
structure zTM (c : Con) : Prop where
 cells : c.cells.length < 9223372036854775808
 runs : c.runs.length < 9223372036854775808
end Go.Proofs.YtpkieeggilkagaaGreat
namespace Go.Proofs.YtpkieeggilkagaaGreat
open Go.Ideal Gph
theorem zGa {b4 : Nat} {sm x : Int} : FnB Tryz.prog (.func 100) [] [ptr' b4] (.int .i64 x) [fRaw b4 0 [.int .i64 sm]] (decide (x < 0 ∨ sm ≤ x)) := by
 refine zE _ (isC 100) fun B w0 => ?_
 refine go ?_
 first | with_reducible refine g_d (fun h1 => ?_) (fun h1 => ?_) | with_reducible refine g_n (fun h1 => ?_) (fun h1 => ?_) | with_reducible refine g_b (fun h1 => ?_) (fun h1 => ?_)
 · refine go ?_
   refine q_fin () (hv := ?_) (hp := trivial)
   rw [show decide (x < 0 ∨ sm ≤ x) = decide (sm ≤ x) from decide_eq_decide.2 ⟨fun h => h.elim (fun h => absurd h h1) id, .inr⟩]; rfl
 refine go ?_
 refine q_fin () (hv := ?_) (hp := trivial)
 rw [decide_eq_true (.inl h1)]; rfl
def Fin (cells symbols : Int) (grid : List Int) : Prop := (grid.length : Int) = cells ∧ ∀ s ∈ grid, 0 ≤ s ∧ s < symbols
theorem zHx {vg : Value} {cells symbols : Int} {grid : List Int} (hl : grid.length < 9223372036854775808) :
 FnC Tryz.prog (.func 40) [.int .i64 cells, .int .i64 symbols, vg] [] [] [fSl intE vg grid] (fun b : Bool => .bool b) (fun _ => []) (fun _ => []) (fun b => (b = true ↔ Fin cells symbols grid)) := by
 refine zE _ (isC 40) fun B w0 => ?_
 refine go ?_
 intro b4
 refine zO (zS (b := b4)) (h := ?_)
 refine go ?_
 first | with_reducible refine g_d (fun h1 => ?_) (fun h1 => ?_) | with_reducible refine g_n (fun h1 => ?_) (fun h1 => ?_) | with_reducible refine g_b (fun h1 => ?_) (fun h1 => ?_)
 · refine go ?_
   exact q_fin false (hv := rfl) (hp := ⟨(fun h => by cases h), fun h => absurd h.1 h1⟩)
 refine go ?_
 refine zA (zIV (p := fun x => decide (x < 0 ∨ symbols ≤ x)) hl (fun x _ => zGa (b4 := b4) (sm := symbols))) (next := fun _ _ => ?_)
 refine go ?_
 refine q_fin (!grid.any fun x => decide (x < 0 ∨ symbols ≤ x)) (hv := rfl) (hp := ?_)
 rw [List.not_any_eq_all_not]
 simp only [List.all_eq_true, Bool.not_eq_true', decide_eq_false_iff_not, not_or, Int.not_lt, Int.not_le]
 exact ⟨fun h => ⟨h1, h⟩, fun h => h.2⟩
structure zSx (q : zS5) : Prop where
 cells : 1 ≤ q.cells ∧ q.cells ≤ 256
 symbols : 1 ≤ q.symbols ∧ q.symbols ≤ 16
 vlen : (q.values.length : Int) = q.symbols
 vals : ∀ v ∈ q.values, 0 ≤ v ∧ v ≤ 99
 nlen : (q.nbs.length : Int) = q.cells
 graph : GOK q.nbs
 many : q.cons.length ≤ 4096
 fine : ∀ c ∈ q.cons, zPF q.cells q.symbols c
structure zTH (q : zS5) : Prop where
 values : q.values.length < 9223372036854775808
 nbs : ∀ l ∈ q.nbs, l.length < 9223372036854775808
 cons : q.cons.length < 9223372036854775808
 con : ∀ c ∈ q.cons, zTM c
end Go.Proofs.YtpkieeggilkagaaGreat

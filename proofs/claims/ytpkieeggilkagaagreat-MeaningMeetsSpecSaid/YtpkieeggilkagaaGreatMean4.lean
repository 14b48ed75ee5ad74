/-
  Graphs with sets of nodes.
-/
import Derived.Test.YtpkieeggilkagaaGreatMean3
set_option linter.unusedSimpArgs false
set_option linter.unusedVariables false
set_option maxHeartbeats 1000000
namespace Go.Proofs.YtpkieeggilkagaaGreat
open Go.Ideal

theorem gValid_ok {vg vs : Value} {g : List (List Int)} {sets : List (List Bool)} (hll : ∀ l ∈ g, l.length < 9223372036854775808) (hsl : sets.length < 9223372036854775808) : FnC Tryz.prog (.func 50) [vg, vs] [] [] [fSl (slE intE) vg g, fSl (slE boolE) vs sets] (fun r : Int => .int .i64 r) (fun _ => []) (fun _ => [])
    (fun r => (r = 0 ↔ GOK g ∧ ∀ s ∈ sets, s.length = g.length)) := by
  refine q_beg c_gValid f_gValid fun B w0 => ?_
  refine go ?_
  refine q_call (gCheck_ok hll) (next := fun b hb => ?_)
  cases b with
  | false =>
    refine go ?_
    exact q_fin 120 (hv := rfl) (hp := ⟨(fun h => by cases h), fun h => absurd (hb.2 h.1) (by simp)⟩)
  | true =>
    have hG := hb.1 rfl
    refine go ?_
    refine q_loop (fun k => sets.length - k) (fun k : Nat => [(15, .int .i64 (k : Int))]) (fun _ => []) (fun _ => []) (fun k => k ≤ sets.length ∧ ∀ s ∈ sets.take k, s.length = g.length) 0 ⟨by omega, by simp⟩ (body := ?_)
    rintro k ⟨hk, hall⟩
    refine go ?_
    refine if_d rfl (fun h1 => ?_) (fun h1 => ?_)
    · refine go ?_
      refine q_idx (slE boolE) (next := fun _ _ s (v : Value) hs => ?_)
      refine go ?_
      refine if_d rfl (fun h2 => ?_) (fun h2 => ?_)
      · refine go ?_
        exact q_fin 1 (hv := rfl) (hp := ⟨(fun h => by cases h), fun h => absurd (h.2 s (List.mem_of_getElem? hs)) (fun e => h2 (by rw [e]))⟩)
      refine go ?_
      refine q_again (k + 1) (by omega) ⟨by omega, fun s' hs' => ?_⟩
      rw [take_one hs] at hs'
      rcases List.mem_append.1 hs' with h | h
      · exact hall s' h
      · rw [List.mem_singleton.1 h]; omega
    refine go ?_
    have : k = sets.length := by omega
    subst this
    rw [List.take_length] at hall
    exact q_fin 0 (hv := rfl) (hp := ⟨fun _ => ⟨hG, hall⟩, fun _ => rfl⟩)
end Go.Proofs.YtpkieeggilkagaaGreat

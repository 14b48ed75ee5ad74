/-
  The ideal machine, 57: loops over functions, seen from all states of a kind; functions that leave collected ends behind.
-/
import Derived.Test.YtbdaaopebgcnaaaGreatDoorIdealK
set_option linter.unusedSimpArgs false
set_option linter.unusedVariables false
namespace Go.Ideal
variable {P : Program}
section
variable {B : List Nat} {w0 : Wd} {kl kl' klr : List OA} {F : List Fact} {K : KO} {n : Nat} {l : List (Nat × Value)} {D : List Deferred} {pm : Option FrameMode} {ro : Option Nat}
inductive Coll : List OA → List Deferred → List OA → Prop
 | nil {kl : List OA} : Coll kl [] kl
 | cons {kl kl' kl2 : List OA} {r : Nat} {args : Array Value} {D : List Deferred} (h : Sel (pt r (.defs true)) kl kl') (t : Coll kl' D kl2) : Coll kl ({ target := .collected r, args } :: D) kl2
theorem Coll.leave {cf : CFunc} {ts : T Value} {Kr : Ret → IH → Prop} : ∀ {D : List Deferred} {kl kl2 : List OA}, Coll kl D kl2 → (∀ w', St B w0 kl2 F w' → ∃ v, resultsI cf.results ts w'.h = some v ∧ Kr (.ok v) w'.h) → ∀ w, St B w0 kl F w → LEAVE P cf ts D .returning w.h Kr
 | _, _, _, .nil, hk, w, s => by
   obtain ⟨v, h1, h2⟩ := hk w s
   exact .ret v h1 h2
 | _, _, _, .cons (r := r) h t, hk, w, s => by
   have s1 := s.sel h
   refine .coll (by intro e; cases e) r s1.get.1 ?_
   exact Coll.leave t hk _ (s1.write (o' := .defs false)).tail
end
end Go.Ideal
namespace Go.Ideal
variable {P : Program}
theorem Sub.app {α : Type} : ∀ {k1 k2 l : List α}, Sub k1 l → Sub k2 l → Sub (k1 ++ k2) l
 | _, _, _, .nil, h => h
 | _, _, _, .cons h h1, h2 => .cons h (h1.app h2)
section
variable {B : List Nat} {w0 : Wd} {kl kl' klr : List OA} {F : List Fact} {K : KO} {n : Nat} {l : List (Nat × Value)} {D : List Deferred} {pm : Option FrameMode} {ro : Option Nat}
end
end Go.Ideal
namespace Go.Ideal
variable {P : Program} {ρ : Operand → Value}
end Go.Ideal
namespace Go.Ideal
variable {P : Program}
theorem p_min2 {ρ : Operand → Value} {x y : Operand} {a b : Int} (hx : ρ x = .int .i64 a) (hy : ρ y = .int .i64 b) : Pu P ρ (.minmax false [x, y]) (.int .i64 (min a b)) := fun h => by
 have e : lmap ρ [x, y] = [.int .i64 a, .int .i64 b] := by rw [lmap_eq]; simp [hx, hy]
 simp only [COp.run, e, sameK, cond]
 by_cases hb : a ≤ b
 · rw [leZ_iff, decide_eq_true hb, Int.min_eq_left hb]
 · have : leZ a b = false := by rw [leZ_iff, decide_eq_false hb]
   rw [this, Int.min_eq_right (by omega)]
section
variable {B : List Nat} {w0 : Wd} {kl kl' klr : List OA} {F : List Fact} {K : KO} {n : Nat} {l : List (Nat × Value)} {D : List Deferred} {pm : Option FrameMode} {ro : Option Nat}
theorem q_fact {Q : IH → Prop} (g : Fact) (hg : ∀ w : Wd, (∀ f ∈ F, f.p w) → g.p w) (h : R Q B w0 kl (g :: F)) : R Q B w0 kl F := fun w s =>
 h w ⟨s.agree, s.le, s.zold, s.own, fun f hf => by
  rcases List.mem_cons.1 hf with rfl | hf
  · exact hg w s.facts
  · exact s.facts f hf⟩
theorem q_app {α : Type} (E : Enc α) {ds : List Tmp} {rest : List PStep} {d : Nat} {g : Option (Tmp × Bool)} {e : TypeId} {size bytes b' : Nat} {s x : Operand} {v : Value} {xs : List α} (a : α) (y : E.Y) {cs : List Value} {k1 k2 : List OA}
 (hm : (xs.length + 1) * bytes ≤ 1073741824 ∧ (xs.length + 1) * size ≤ 1073741824 ∧ xs.length + 1 ≤ 1073741824)
 (next : ∀ ad, R (fun h => OPS P ds rest (act n ((d, .slice ad (xs.length + 1) (xs.length + 1)) :: l) D pm ro) h K) B w0 (ap E (.slice ad (xs.length + 1) (xs.length + 1)) (xs ++ [a]) :: k2) F)
 (hn : Nat.blt d n = true := by rfl) (hg : gok l g = true := by rfl)
 (hs : ev l s = v := by conv => lhs; whnf) (hx : ev l x = .slice (some ⟨b', 0, some 0⟩) 1 1 := by rfl) (hk : autoParam (Sel (ap E v xs) kl k1) aSel._auto_1) (hc : autoParam (Sel (pt b' (.cells cs)) k1 k2) aSel._auto_1) (hp : cs = E.pat a y := by rfl) (hF : autoParam (Sub (E.fs a y) F) aSub._auto_1) (hz : E.n = size := by rfl) :
 R (fun h => OPS P ds (⟨⟨some d, g, .append e size bytes s x⟩, []⟩ :: rest) (act n l D pm ro) h K) B w0 kl F :=
 (d_app1 hn hg hs hx hk hc hp hF hz hm).h fun v' w st => by
   obtain ⟨S, ⟨S1, S2, q, _⟩, _⟩ := st.own
   obtain ⟨ad, e⟩ := ap_form q
   rw [List.length_append, List.length_singleton] at e
   subst e
   exact next ad w st
section
variable {ds : List Tmp} {rest : List PStep} {d : Nat} {g : Option (Tmp × Bool)}
end
end
end Go.Ideal

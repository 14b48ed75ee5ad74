/-
  The law MeaningFewer on the ideal machine.
-/
import Derived.Test.YtpkieeggilkagaaGreatLibP
import Derived.Test.YtpkieeggilkagaaGreatSaneC
set_option linter.unusedSimpArgs false
set_option linter.unusedVariables false
set_option maxRecDepth 10000
set_option maxHeartbeats 4000000
namespace Go.Proofs.YtpkieeggilkagaaGreat
open Go.Ideal Kd Canon
theorem zQh {p : List zAW} {n : Nat} (hn : n < p.length) (i : Nat) : (woOf p (n : Int))[i]? = p[if i < n then i else i + 1]? := by
 unfold woOf
 rw [Int.toNat_natCast]
 have hl : (p.take n).length = n := by rw [List.length_take]; omega
 by_cases h : i < n
 · rw [if_pos h, List.getElem?_append_left (by omega), List.getElem?_take, if_pos h]
 · rw [if_neg h, List.getElem?_append_right (by omega), List.getElem?_drop, hl]
   congr 1; omega
theorem zKE {p : List zAW} {n : Int} : ∀ g ∈ woOf p n, g ∈ p := by
 intro g hg
 unfold woOf at hg
 rcases List.mem_append.1 hg with hg | hg
 · exact List.mem_of_mem_take hg
 · exact List.mem_of_mem_drop hg
theorem zQ7 {p : List zAW} {n : Int} : (woOf p n).length ≤ p.length + p.length := by
 unfold woOf
 rw [List.length_append, List.length_take, List.length_drop]; omega
theorem zFD {k : Knd} {p : List zAW} (h : zC9 k p) : ∀ (d i : Nat) a b, p[i]? = some a → p[i + 1 + d]? = some b → plc a b < 0
 | 0, i, a, b, ha, hb => h.sorted i a b ha hb
 | d + 1, i, a, b, ha, hb => by
   have hlt := (List.getElem?_eq_some_iff.1 hb).1
   have hc : p[i + 1 + d]? = some (p[i + 1 + d]'(by omega)) := List.getElem?_eq_getElem _
   exact zLW (zFD h d i a _ ha hc) (h.sorted (i + 1 + d) _ b hc hb)
theorem zNT {k : Knd} {p : List zAW} {n : Nat} (hn : n < p.length) (h : zC9 k p) : zC9 k (woOf p (n : Int)) := by
 refine ⟨?_, fun g hg => h.right g (zKE g hg), fun i a b ha hb => ?_⟩
 · have := h.len
   unfold woOf
   rw [Int.toNat_natCast, List.length_append, List.length_take, List.length_drop]; omega
 · rw [zQh hn] at ha hb
   by_cases h1 : i + 1 < n
   · rw [if_pos (by omega)] at ha
     rw [if_pos h1] at hb
     exact h.sorted i a b ha hb
   · rw [if_neg h1] at hb
     by_cases h2 : i < n
     · rw [if_pos h2] at ha
       exact zFD h 1 i a b ha hb
     · rw [if_neg h2] at ha
       exact h.sorted (i + 1) a b ha hb
theorem zN1 {k : Knd} {p q : List zAW} {r : Rul} (h : ∀ g ∈ q, g ∈ p) : ∀ x ∈ rlsOf k q r, x ∈ rlsOf k p r := by
 intro x hx
 unfold rlsOf at hx ⊢
 split at hx
 · rename_i hc
   rw [if_pos hc]; exact hx
 · rename_i hc
   rw [if_neg hc]
   obtain ⟨g, hg, rfl⟩ := List.mem_map.1 hx
   obtain ⟨h1, h2⟩ := List.mem_filter.1 hg
   exact List.mem_map.2 ⟨g, List.mem_filter.2 ⟨h g h1, h2⟩, rfl⟩
theorem all_less {k : Knd} {p q : List zAW} {r : Rul} (h : ∀ g ∈ q, g ∈ p) {c : List Int × List Int → Bool} (ha : (rlsOf k p r).all c = true) : (rlsOf k q r).all c = true := by
 rw [List.all_eq_true] at ha ⊢
 exact fun x hx => ha x (zN1 h x hx)
theorem zI8 {k : Knd} {p q : List zAW} {grid : List Int} {r : Rul} {s o : Nat} (h : ∀ g ∈ q, g ∈ p) (hh : zAm k p grid r s o = true) : zAm k q grid r s o = true := by
 unfold zAm at hh ⊢
 repeat' (split at hh)
 all_goals (simp only [*, ↓reduceIte, Int.reduceEq] <;> first | exact all_less h hh | exact hh)
theorem zN9 {k : Knd} {p q : List zAW} {grid : List Int} {rs : List Rul} (h : ∀ g ∈ q, g ∈ p) : ∀ x ∈ brkOf k q grid rs, x ∈ brkOf k p grid rs := by
 intro x hx
 obtain ⟨j, r, h1, h2, h3⟩ := zGd.1 hx
 refine zGd.2 ⟨j, r, h1, h2, ?_⟩
 cases h4 : holdsR k p grid r with
 | false => rfl
 | true =>
   have : holdsR k q grid r = true := zI8 h h4
   rw [this] at h3; cases h3
theorem zJv.wo {p : List zAW} (h : zJv p) (hl : p.length ≤ 4096) (n : Int) : zJv (woOf p n) :=
 ⟨by have := zQ7 (p := p) (n := n); omega, fun g hg => h.vals g (zKE g hg)⟩
theorem zHU {k : Knd} {p : List zAW} {grid : List Int} {at_ : Int} {vh vs vr vc vu gh gc vn vl vp vg : Value} (hB : zRk k) (hP : zJv p) (hl : grid.length < 9223372036854775808) :
 FnP Tryz.prog 8 [.agg ⟨zHe k vh vs vr vc vu gh gc vn vl⟩, .agg ⟨[vp]⟩, vg, .int .i64 at_] (fSl gvnE vp p :: fSl intE vg grid :: zGR k vh vs vr vc vu gh gc vn vl []) (.bool true) := by
 refine zE _ (isC 8) fun B w0 => ?_
 dsimp only [zGR]
 refine go ?_
 intro b4 b5
 refine go ?_
 refine zA zPa (next := fun _ _ => ?_)
 refine go ?_
 refine zA (zNt (k := k) (p := p) (grid := grid) (vh := vh) (vs := vs) (vr := vr) (vc := vc) (vu := vu) (gh := gh) (gc := gc) (vn := vn) (vl := vl) hB) (next := fun b hb => ?_)
 cases b with
 | false =>
   refine go ?_
   exact q_fin () (hv := rfl) (hp := trivial)
 | true =>
 obtain ⟨hfk, hpl, hgl⟩ := hb rfl
 clear hb
 have hS := zIW.of hB hfk
 have hA := zRQ (grid := grid) hS hP (by omega)
 refine go ?_
 refine zA (zG3 (k := k) (p := p) (grid := grid) (vh := vh) (vs := vs) (vr := vr) (vc := vc) (vu := vu) (gh := gh) (gc := gc) (vn := vn) (vl := vl) hS hP hl hA) (next := fun y1 hy1 => ?_)
 obtain ⟨v9, e1⟩ := y1
 dsimp only at hy1 ⊢
 refine go ?_
 refine zA (zOT (p := p) (at_ := at_) (by omega)) (next := fun y2 hy2 => ?_)
 obtain ⟨v2, e2⟩ := y2
 dsimp only at hy2 ⊢
 refine go ?_
 intro b11
 refine go ?_
 first | with_reducible refine g_d (fun h1 => ?_) (fun h1 => ?_) | with_reducible refine g_n (fun h1 => ?_) (fun h1 => ?_) | with_reducible refine g_b (fun h1 => ?_) (fun h1 => ?_)
 rotate_left
 · refine go ?_
   exact q_fin () (hv := rfl) (hp := trivial)
 refine go ?_
 refine if_d rfl (fun h2 => ?_) (fun h2 => ?_)
 · refine go ?_
   exact q_fin () (hv := rfl) (hp := trivial)
 have h1 : e1 = 0 := Decidable.not_not.1 h1
 have h2 : e2 = 0 := Decidable.not_not.1 h2
 subst h1 h2
 obtain ⟨ha0, ha1⟩ := hy2.1 rfl
 obtain ⟨n, rfl⟩ := Int.eq_ofNat_of_zero_le ha0
 have hK : zV k := Classical.byContradiction fun h => by have := hy1.nk h; omega
 have hF : zMS k grid := Classical.byContradiction fun h => by have := hy1.nf hK h; omega
 have hQ : zC9 k p := Classical.byContradiction fun h => by have := hy1.np hK hF h; omega
 have hQ2 := zNT (n := n) (by omega) hQ
 have hP2 := hP.wo (by omega) (n : Int)
 have hA2 := zRQ (grid := grid) hS hP2 (by omega)
 refine zg (fSl gvnE v2 (woOf p (n : Int))) (fun w hw => hw (fIf ((0 : Int) = 0) (fSl gvnE v2 (woOf p (n : Int)))) (by simp) rfl) ?_
 refine zg (fSl intE v9 (brkOf k p grid k.decl.rules)) (fun w hw => hw (fIf ((0 : Int) = 0) (fSl intE v9 (brkOf k p grid k.decl.rules))) (by simp) rfl) ?_
 refine go ?_
 refine zA (zG3 (k := k) (p := woOf p (n : Int)) (grid := grid) (vh := vh) (vs := vs) (vr := vr) (vc := vc) (vu := vu) (gh := gh) (gc := gc) (vn := vn) (vl := vl) hS hP2 hl hA2) (next := fun y3 hy3 => ?_)
 obtain ⟨v13, e3⟩ := y3
 have he3 : e3 = 0 := hy3.ok hK hF hQ2
 subst he3
 dsimp only [List.cons_append, List.nil_append]
 refine zg (fSl intE v13 (brkOf k (woOf p (n : Int)) grid k.decl.rules)) (fun w hw => hw (fIf ((0 : Int) = 0) (fSl intE v13 (brkOf k (woOf p (n : Int)) grid k.decl.rules))) (by simp) rfl) ?_
 have hsub : ∀ x ∈ brkOf k (woOf p (n : Int)) grid k.decl.rules, x ∈ brkOf k p grid k.decl.rules := zN9 zKE
 have hbl1 := zEF k (woOf p (n : Int)) grid k.decl.rules
 have hbl2 := zEF k p grid k.decl.rules
 have hrl := hfk.ruls
 generalize brkOf k (woOf p (n : Int)) grid k.decl.rules = l2 at hsub hbl1 ⊢
 generalize brkOf k p grid k.decl.rules = l1 at hsub hbl2 ⊢
 refine go ?_
 refine zH (fun j : Nat => l2.length - j) (fun j => [(15, .int .i64 (j : Int))]) (fun _ => []) (fun _ => []) (fun j => j ≤ l2.length) 0 (Nat.zero_le _) (body := ?_)
 intro j hj
 refine go ?_
 refine if_d rfl (fun a1 => ?_) (fun a1 => ?_)
 · refine go ?_
   intro _ _ x hx
   have hxm := hsub x (List.mem_of_getElem? hx)
   refine go ?_
   refine zA (zMi (xs := l1) (x := x) (by omega)) (next := fun _ _ => ?_)
   rw [decide_eq_true hxm]
   refine go ?_
   exact zC (j + 1) (by show l2.length - (j + 1) < l2.length - j; omega) (by show j + 1 ≤ _; omega)
 refine go ?_
 exact q_fin () (hv := rfl) (hp := trivial)
end Go.Proofs.YtpkieeggilkagaaGreat

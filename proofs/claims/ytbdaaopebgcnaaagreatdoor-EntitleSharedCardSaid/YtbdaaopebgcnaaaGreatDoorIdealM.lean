/-
  The ideal machine, 61: plain data as things, with bounds.
-/
import Derived.Test.YtbdaaopebgcnaaaGreatDoorIdealK
import Derived.Test.YtbdaaopebgcnaaaGreatDoorIdealL
set_option linter.unusedSimpArgs false
set_option linter.unusedVariables false
namespace Go.Ideal
open Go.ChangeShapes Go.WideShapes Go.ChangeAt Go.RowKit
variable {P : Program}
def RepG {α : Type} (P : Program) (t : TypeId) (E : Enc α) (G : α → Prop) : Prop := ∀ (w : Wd) (H : Type) (d : DataW H) (cs : List Value), (∀ i, i < w.h.next → w.z i) → Rep P w.h t cs d → ∃ a y, cs = E.pat a y ∧ (∀ f ∈ E.fs a y, f.p w) ∧ G a
def I64 (n : Int) : Prop := -9223372036854775808 ≤ n ∧ n < 9223372036854775808
def SlG {α : Type} (G : α → Prop) (xs : List α) : Prop := xs.length < 9223372036854775808 ∧ ∀ x ∈ xs, G x
theorem repG_int {t : TypeId} (ht : P.underlying t = some (.int .i64)) : RepG P t intE I64 := fun w H d cs hz r => by
 obtain ⟨n, rfl, _, h⟩ := r.int_inv ht
 refine ⟨n, (), rfl, (fun f hf => by cases hf), ?_⟩
 simp only [Lit.wf, IntKind.min, IntKind.max, IntKind.signed, IntKind.bits, Bool.and_eq_true, decide_eq_true_eq] at h
 simp at h
 exact ⟨by omega, by omega⟩
theorem repG_slice {α : Type} {t e : TypeId} {E : Enc α} {G : α → Prop} (ht : P.underlying t = some (.slice e)) (hn : P.cellsOf e = E.n) (he : RepG P e E G) : RepG P t (slE E) (SlG G) := fun w H d cs hz r => by
 rcases r.slice_inv ht with ⟨rfl, _⟩ | ⟨i, n, c, cells, els, rest, rfl, _, hnc, hl, hcl, hel⟩
 · exact ⟨[], _, rfl, (fun f hf => by rw [List.mem_singleton.1 hf]; exact .inl ⟨rfl, none, 0, rfl, trivial⟩), by simp, fun x hx => by cases hx⟩
 · have hmax : maxLen = 9223372036854775807 := by decide
   obtain ⟨xs, hx1, hx2⟩ := list_of (p := fun k a => (∃ y, (cells.drop (k * E.n)).take E.n = E.pat a y ∧ ∀ f ∈ E.fs a y, f.p w) ∧ G a) n (fun k hk => by
    have hk' : k < els.length := by omega
    have := hel k els[k] (List.getElem?_eq_getElem hk')
    rw [hn] at this
    obtain ⟨a, y, q1, q2, q3⟩ := he w H _ _ hz this
    exact ⟨a, ⟨y, q1, q2⟩, q3⟩)
   refine ⟨xs, _, rfl, fun f hf => ?_, by omega, fun x hx => ?_⟩
   · rw [List.mem_singleton.1 hf]
     rcases hcl with h0 | hcl
     · left
       have : xs = [] := List.length_eq_zero_iff.1 (by omega)
       exact ⟨this, some ⟨i, 0, some 0⟩, c, by rw [h0], Or.inl rfl⟩
     · right
       refine ⟨i, 0, 0, c, cells, ⟨by rw [hx1], by rw [hx1]; exact hnc.1, .inl rfl⟩, ⟨hz i hcl.1, hcl.2⟩, fun k x hk => ?_⟩
       obtain ⟨⟨y, q1, q2⟩, _⟩ := hx2 k x hk
       refine ⟨y, fun j u hj => ?_, q2⟩
       rw [← q1, List.getElem?_take] at hj
       split at hj
       · rw [List.getElem?_drop] at hj; rw [Nat.zero_add]; exact hj
       · cases hj
   · obtain ⟨k, hk⟩ := List.getElem?_of_mem hx
     exact (hx2 k x hk).2
inductive RepFsG (P : Program) : {α : Type} → List Field → Enc α → (α → Prop) → Prop
 | nil : RepFsG P [] unitE (fun _ => True)
 | cons {α β : Type} {f : Field} {fs : List Field} {E1 : Enc α} {E2 : Enc β} {G1 : α → Prop} {G2 : β → Prop} (h : RepG P f.type E1 G1) (hn : P.cellsOf f.type = E1.n) (t : RepFsG P fs E2 G2) : RepFsG P (f :: fs) (prodE E1 E2) (fun x => G1 x.1 ∧ G2 x.2)
theorem RepG.conv {α β : Type} {t : TypeId} {E : Enc α} {E' : Enc β} {G : α → Prop} {G' : β → Prop} (h : RepG P t E G) (hc : ∀ a y, G a → ∃ b z, E.pat a y = E'.pat b z ∧ E.fs a y = E'.fs b z ∧ G' b) : RepG P t E' G' := fun w H d cs hz r => by
 obtain ⟨a, y, q1, q2, q3⟩ := h w H d cs hz r
 obtain ⟨b, z, e1, e2, e3⟩ := hc a y q3
 exact ⟨b, z, by rw [q1, e1], (fun f hf => q2 f (by rw [e2]; exact hf)), e3⟩
section
variable {H : Type}
theorem ArgE.oneG {α : Type} {w : Wd} {t : TypeId} {v : Value} {d : DataW H} {E : Enc α} {G : α → Prop} (h : ArgE P w t v d) (hz : ∀ i, i < w.h.next → w.z i) (ha : isAggT P t = false) (hr : RepG P t E G) : ∃ a y, E.pat a y = [v] ∧ (∀ f ∈ E.fs a y, f.p w) ∧ G a := by
 obtain ⟨cs, r, ⟨e, _⟩ | ⟨_, e⟩⟩ := h
 · rw [ha] at e; cases e
 · obtain ⟨a, y, q0, q⟩ := hr w H d cs hz r
   exact ⟨a, y, by rw [← q0, e], q⟩
end
end Go.Ideal
namespace Go.Ideal
variable {P : Program}
theorem Sel.at {α : Type} {a : α} : ∀ {l : List α} {k : Nat}, l[k]? = some a → Sel a l (l.eraseIdx k)
 | [], k, h => by simp at h
 | b :: l, 0, h => by
   simp at h
   subst h; exact .here
 | b :: l, k + 1, h => .there (Sel.at (l := l) (k := k) (by simpa using h))
section
variable {B : List Nat} {w0 : Wd} {kl kl' klr k1 k2 : List OA} {F : List Fact} {K : KO} {n : Nat} {l : List (Nat × Value)} {D : List Deferred} {pm : Option FrameMode} {ro : Option Nat} {Q : IH → Prop}
end
end Go.Ideal
namespace Go.Ideal
end Go.Ideal
namespace Go.Ideal
variable {P : Program}
section
variable {B : List Nat} {w0 : Wd} {kl kl' klr k1 k2 : List OA} {F : List Fact} {K : KO} {n : Nat} {l : List (Nat × Value)} {D : List Deferred} {pm : Option FrameMode} {ro : Option Nat} {Q : IH → Prop}
section
variable {X : Type} {n2 : Nat} {D2 : List Deferred} {pm2 : Option FrameMode} {ro2 : Option Nat} {B2 : List Nat} {w2 : Wd} {L : X → List (Nat × Value)} {KL : X → List OA} {FF : X → List Fact} {inv : X → Prop} {l0 : List (Nat × Value)} {F0 : List Fact}
end
end
end Go.Ideal
namespace Go.Ideal
variable {P : Program}
section
variable {B : List Nat} {w0 : Wd} {kl kl' klr k1 k2 : List OA} {F : List Fact} {K : KO} {n : Nat} {l : List (Nat × Value)} {D : List Deferred} {pm : Option FrameMode} {ro : Option Nat} {Q : IH → Prop} {ds : List Tmp} {rest : List PStep} {d : Nat} {g : Option (Tmp × Bool)}
end
end Go.Ideal

/-
  The ideal machine, 61: plain data as things, with bounds.
-/
import Derived.Test.YtpkieeggilkagaaGreatIdealK
import Derived.Test.YtpkieeggilkagaaGreatIdealL
set_option linter.unusedSimpArgs false
set_option linter.unusedVariables false
set_option linter.unusedSimpArgs false
set_option linter.unusedVariables false
namespace Go.Ideal
open Go.ChangeShapes Go.WideShapes Go.ChangeAt Go.RowKit
variable {P : Program}

/-- what plain data of a type are, and how great -/
def RepG {α : Type} (P : Program) (t : TypeId) (E : Enc α) (G : α → Prop) : Prop := ∀ (w : Wd) (H : Type) (d : DataW H) (cs : List Value), (∀ i, i < w.h.next → w.z i) → Rep P w.h t cs d → ∃ a y, cs = E.pat a y ∧ (∀ f ∈ E.fs a y, f.p w) ∧ G a

/-- a number of 64 bits -/
def I64 (n : Int) : Prop := -9223372036854775808 ≤ n ∧ n < 9223372036854775808
/-- a slice that fits, of things of which something holds -/
def SlG {α : Type} (G : α → Prop) (xs : List α) : Prop := xs.length < 9223372036854775808 ∧ ∀ x ∈ xs, G x
/-- a string that fits -/
def StrG (s : ByteArray) : Prop := s.size < 9223372036854775808

theorem repG_int {t : TypeId} (ht : P.underlying t = some (.int .i64)) : RepG P t intE I64 := fun w H d cs hz r => by
  obtain ⟨n, rfl, _, h⟩ := r.int_inv ht
  refine ⟨n, (), rfl, (fun f hf => by cases hf), ?_⟩
  simp only [Lit.wf, IntKind.min, IntKind.max, IntKind.signed, IntKind.bits, Bool.and_eq_true, decide_eq_true_eq] at h
  simp at h
  exact ⟨by omega, by omega⟩
theorem repG_bool {t : TypeId} (ht : P.underlying t = some .bool) : RepG P t boolE (fun _ => True) := fun w H d cs hz r => by
  obtain ⟨n, rfl, _⟩ := r.bool_inv ht
  exact ⟨n, (), rfl, (fun f hf => by cases hf), trivial⟩
theorem repG_str {t : TypeId} (ht : P.underlying t = some .string) : RepG P t strE (fun _ => True) := fun w H d cs hz r => by
  obtain ⟨n, rfl, _⟩ := r.string_inv ht
  exact ⟨n, (), rfl, (fun f hf => by cases hf), trivial⟩

theorem repG_slice {α : Type} {t e : TypeId} {E : Enc α} {G : α → Prop} (ht : P.underlying t = some (.slice e)) (hn : P.cellsOf e = E.n) (he : RepG P e E G) : RepG P t (slE E) (SlG G) := fun w H d cs hz r => by
  rcases r.slice_inv ht with ⟨rfl, _⟩ | ⟨i, n, c, cells, els, rest, rfl, _, hnc, hl, hcl, hel⟩
  · exact ⟨[], _, rfl, (fun f hf => by rw [List.mem_singleton.1 hf]; exact .inl ⟨rfl, none, 0, rfl, trivial⟩), by simp, fun x hx => by cases hx⟩
  · have hmax : maxLen = 9223372036854775807 := by decide
    obtain ⟨xs, hx1, hx2⟩ := list_of (p := fun k a => (∃ y, (cells.drop (k * E.n)).take E.n = E.pat a y ∧ ∀ f ∈ E.fs a y, f.p w) ∧ G a) n (fun k hk => by
      have hk' : k < els.length := by omega
      have := hel k els[k] (List.getElem?_eq_getElem hk')
      rw [hn] at this
      obtain ⟨a, y, q1, q2, q3⟩ := he w H _ _ hz this
      exact ⟨a, ⟨y, q1, q2⟩, q3⟩)
    refine ⟨xs, _, rfl, fun f hf => ?_, by omega, fun x hx => ?_⟩
    · rw [List.mem_singleton.1 hf]
      rcases hcl with h0 | hcl
      · left
        have : xs = [] := List.length_eq_zero_iff.1 (by omega)
        exact ⟨this, some ⟨i, 0, some 0⟩, c, by rw [h0], Or.inl rfl⟩
      · right
        refine ⟨i, 0, 0, c, cells, ⟨by rw [hx1], by rw [hx1]; exact hnc.1, .inl rfl⟩, ⟨hz i hcl.1, hcl.2⟩, fun k x hk => ?_⟩
        obtain ⟨⟨y, q1, q2⟩, _⟩ := hx2 k x hk
        refine ⟨y, fun j u hj => ?_, q2⟩
        rw [← q1, List.getElem?_take] at hj
        split at hj
        · rw [List.getElem?_drop] at hj; rw [Nat.zero_add]; exact hj
        · cases hj
    · obtain ⟨k, hk⟩ := List.getElem?_of_mem hx
      exact (hx2 k x hk).2

inductive RepFsG (P : Program) : {α : Type} → List Field → Enc α → (α → Prop) → Prop
  | nil : RepFsG P [] unitE (fun _ => True)
  | cons {α β : Type} {f : Field} {fs : List Field} {E1 : Enc α} {E2 : Enc β} {G1 : α → Prop} {G2 : β → Prop} (h : RepG P f.type E1 G1) (hn : P.cellsOf f.type = E1.n) (t : RepFsG P fs E2 G2) : RepFsG P (f :: fs) (prodE E1 E2) (fun x => G1 x.1 ∧ G2 x.2)

theorem RepFsG.rep {w : Wd} {H : Type} (hz : ∀ i, i < w.h.next → w.z i) : ∀ {α : Type} {fs : List Field} {E : Enc α} {G : α → Prop}, RepFsG P fs E G → ∀ (o0 : Nat) (cs : List Value) (ds : List (DataW H)), cs.length = (fs.map fun f => P.cellsOf f.type).sum → ds.length = fs.length →
    fs.map (·.offset) = sums o0 (fs.map fun f => P.cellsOf f.type) → (∀ (j : Nat) f d, fs[j]? = some f → ds[j]? = some d → Rep P w.h f.type ((cs.drop (f.offset - o0)).take (P.cellsOf f.type)) d) → ∃ a y, cs = E.pat a y ∧ (∀ f ∈ E.fs a y, f.p w) ∧ G a
  | _, _, _, _, .nil, o0, cs, ds, h1, h2, h3, h4 => ⟨(), (), List.length_eq_zero_iff.1 (by simpa using h1), (fun f hf => by cases hf), trivial⟩
  | _, _, _, _, .cons (f := f) (fs := fs) (E1 := E1) (E2 := E2) h hn t, o0, cs, ds, h1, h2, h3, h4 => by
    match ds, h2 with
    | d :: ds, h2 =>
      simp only [List.map_cons, List.sum_cons, sums, List.cons.injEq] at h1 h3
      obtain ⟨ho, h3⟩ := h3
      have r0 := h4 0 f d rfl rfl
      rw [ho, Nat.sub_self, List.drop_zero] at r0
      obtain ⟨a, y, q1, q2, q3⟩ := h w H d _ hz r0
      obtain ⟨b, z, u1, u2, u3⟩ := RepFsG.rep hz t (o0 + P.cellsOf f.type) (cs.drop (P.cellsOf f.type)) ds (by rw [List.length_drop]; omega) (by simpa using h2) h3 (fun j g e hg he => by
        have := h4 (j + 1) g e hg he
        rw [List.drop_drop]
        have hle : o0 + P.cellsOf f.type ≤ g.offset := by
          have hj : (fs.map (·.offset))[j]? = some g.offset := by rw [List.getElem?_map, hg]; rfl
          rw [h3] at hj
          have hs : (fs.map fun f => P.cellsOf f.type)[j]? = some (P.cellsOf g.type) := by rw [List.getElem?_map, hg]; rfl
          exact (cuts_get _ ([] : List Value) (o0 + P.cellsOf f.type) j _ _ hj hs).2
        rw [show P.cellsOf f.type + (g.offset - (o0 + P.cellsOf f.type)) = g.offset - o0 by omega]
        exact this)
      refine ⟨(a, b), (y, z), ?_, ?_, q3, u3⟩
      · show cs = E1.pat a y ++ E2.pat b z
        rw [← q1, ← u1, List.take_append_drop]
      · intro g hg
        rcases List.mem_append.1 hg with hg | hg
        · exact q2 g hg
        · exact u2 g hg

theorem repG_struct {α : Type} {t : TypeId} {fs : Array Field} {E : Enc α} {G : α → Prop} (ht : P.underlying t = some (.struct fs)) (ho : fs.toList.map (·.offset) = sums 0 (fs.toList.map fun f => P.cellsOf f.type))
    (hs : P.cellsOf t = (fs.toList.map fun f => P.cellsOf f.type).sum) (h : RepFsG P fs.toList E G) : RepG P t E G := fun w H d cs hz r => by
  obtain ⟨ds, _, h1, h2, h3⟩ := r.struct_inv ht
  refine h.rep hz 0 cs ds (by rw [h1, hs]) (by simpa using h2) ho fun j f d hf hd => ?_
  rw [Nat.sub_zero]
  exact h3 j f d (by rw [← Array.getElem?_toList]; exact hf) hd

theorem RepG.conv {α β : Type} {t : TypeId} {E : Enc α} {E' : Enc β} {G : α → Prop} {G' : β → Prop} (h : RepG P t E G) (hc : ∀ a y, G a → ∃ b z, E.pat a y = E'.pat b z ∧ E.fs a y = E'.fs b z ∧ G' b) : RepG P t E' G' := fun w H d cs hz r => by
  obtain ⟨a, y, q1, q2, q3⟩ := h w H d cs hz r
  obtain ⟨b, z, e1, e2, e3⟩ := hc a y q3
  exact ⟨b, z, by rw [q1, e1], (fun f hf => q2 f (by rw [e2]; exact hf)), e3⟩

section
variable {H : Type}
theorem ArgE.aggG {α : Type} {w : Wd} {t : TypeId} {v : Value} {d : DataW H} {E : Enc α} {G : α → Prop} (h : ArgE P w t v d) (hz : ∀ i, i < w.h.next → w.z i) (ha : isAggT P t = true) (hr : RepG P t E G) : ∃ a y, v = .agg ⟨E.pat a y⟩ ∧ (∀ f ∈ E.fs a y, f.p w) ∧ G a := by
  obtain ⟨cs, r, ⟨_, e⟩ | ⟨e, _⟩⟩ := h
  · obtain ⟨a, y, rfl, q⟩ := hr w H d cs hz r
    exact ⟨a, y, e, q⟩
  · rw [ha] at e; cases e
theorem ArgE.oneG {α : Type} {w : Wd} {t : TypeId} {v : Value} {d : DataW H} {E : Enc α} {G : α → Prop} (h : ArgE P w t v d) (hz : ∀ i, i < w.h.next → w.z i) (ha : isAggT P t = false) (hr : RepG P t E G) : ∃ a y, E.pat a y = [v] ∧ (∀ f ∈ E.fs a y, f.p w) ∧ G a := by
  obtain ⟨cs, r, ⟨e, _⟩ | ⟨_, e⟩⟩ := h
  · rw [ha] at e; cases e
  · obtain ⟨a, y, q0, q⟩ := hr w H d cs hz r
    exact ⟨a, y, by rw [← q0, e], q⟩
end
end Go.Ideal

/-
  The ideal machine, 62: loops whose rounds leave collected ends behind; slices of slices that grow.
-/
set_option linter.unusedSimpArgs false
set_option linter.unusedVariables false
namespace Go.Ideal
variable {P : Program}

theorem OwnL.unsel {w : Wd} {A : OA} : ∀ {kl kl' : List OA} {S : List Nat}, Sel A kl kl' → OwnL w (A :: kl') S → ∃ S', OwnL w kl S' ∧ S.Perm S'
  | _, _, S, .here, h => ⟨S, h, .refl _⟩
  | _, _, _, .there (C := C) (l := l) (l' := l') s, ⟨S1, S2, h1, ⟨T1, T2, h2, h3, e2⟩, e⟩ => by
    subst e e2
    obtain ⟨S', q1, q2⟩ := OwnL.unsel (w := w) (A := A) s ⟨S1, T2, h1, h3, rfl⟩
    refine ⟨T1 ++ S', ⟨T1, S', h2, q1, rfl⟩, ?_⟩
    have : (S1 ++ (T1 ++ T2)).Perm (T1 ++ (S1 ++ T2)) := by
      rw [← List.append_assoc, ← List.append_assoc]
      exact List.Perm.append_right T2 List.perm_append_comm
    exact this.trans (q2.append_left T1)

theorem Sel.at {α : Type} {a : α} : ∀ {l : List α} {k : Nat}, l[k]? = some a → Sel a l (l.eraseIdx k)
  | [], k, h => by simp at h
  | b :: l, 0, h => by
    simp at h
    subst h; exact .here
  | b :: l, k + 1, h => .there (Sel.at (l := l) (k := k) (by simpa using h))

theorem erase_set {α : Type} (a : α) : ∀ (l : List α) (k : Nat), (l.set k a).eraseIdx k = l.eraseIdx k
  | [], k => rfl
  | b :: l, 0 => rfl
  | b :: l, k + 1 => by simp [erase_set a l k]

theorem R.perm {B : List Nat} {w0 : Wd} {kl kl2 : List OA} {F : List Fact} {Q : IH → Prop} (hp : ∀ w S, OwnL w kl S → ∃ S', OwnL w kl2 S' ∧ S.Perm S') (h : R Q B w0 kl2 F) : R Q B w0 kl F := fun w s => by
  obtain ⟨S, h1, h2, h3⟩ := s.own
  obtain ⟨S', q1, q2⟩ := hp w S h1
  exact h w ⟨s.agree, s.le, s.zold, ⟨S', q1, q2.nodup h2, fun i hi => h3 i (q2.mem_iff.2 hi)⟩, s.facts⟩

/-! ### Collected ends -/
abbrev dfr (r : Nat) : Deferred := { target := .collected r, args := #[] }
def colA (rs : List Nat) : OA := ⟨fun w S => OwnL w (rs.map fun r => pt r (.defs true)) S, fun a h hp => OwnL.loc a h hp⟩

section
variable {B : List Nat} {w0 : Wd} {kl kl' klr k1 k2 : List OA} {F : List Fact} {K : KO} {n : Nat} {l : List (Nat × Value)} {D : List Deferred} {pm : Option FrameMode} {ro : Option Nat} {Q : IH → Prop}

theorem q_col0 (h : R Q B w0 (colA [] :: kl) F) : R Q B w0 kl F := .perm (kl2 := colA [] :: kl) (fun w S hS => ⟨S, ⟨[], S, rfl, hS, rfl⟩, .refl _⟩) h
theorem q_col {rs : List Nat} {r : Nat} (hk : Sel (colA rs) kl k1 := by repeat (first | with_reducible exact Sel.here | with_reducible apply Sel.there | with_reducible apply Sel.app)) (hr : Sel (pt r (.defs true)) k1 k2 := by repeat (first | with_reducible exact Sel.here | with_reducible apply Sel.there | with_reducible apply Sel.app)) (h : R Q B w0 (colA (r :: rs) :: k2) F) : R Q B w0 kl F :=
  .perm (fun w S hS => by
    obtain ⟨S1, S2, q1, q2, hp⟩ := hS.selL (.cons hk (.cons hr .nil))
    obtain ⟨T1, T2, u1, ⟨T3, T4, u2, u3, e3⟩, e⟩ := q1
    have u3 : T4 = [] := u3
    subst u3 e3 e
    refine ⟨(T3 ++ T1) ++ S2, ⟨T3 ++ T1, S2, ⟨T3, T1, u2, u1, rfl⟩, q2, rfl⟩, ?_⟩
    rw [List.append_nil] at hp
    exact hp.trans (List.Perm.append_right S2 List.perm_append_comm)) h

theorem Coll.ofMap : ∀ (rs : List Nat) (kl : List OA), Coll ((rs.map fun r => pt r (.defs true)) ++ kl) (rs.map dfr) kl
  | [], kl => .nil
  | r :: rs, kl => .cons .here (Coll.ofMap rs kl)

theorem q_finC {Y : Type} {o : Out} {cf : CFunc} {vs : List Value} {val : Y → Value} {k1 : Y → List OA} {fs : Y → List Fact} {pr : Y → Prop} {kl2 : List OA} {rs : List Nat} (y : Y) (hc : Sel (colA rs) kl kl2 := by repeat (first | with_reducible exact Sel.here | with_reducible apply Sel.there | with_reducible apply Sel.app))
    (hr : RS l kl2 cf.results vs := by repeat (first | exact RS.nil | (apply RS.tmp; (conv => lhs; whnf)) | (apply RS.cell1; (focus exact rfl); (focus (repeat (first | with_reducible exact Sel.here | with_reducible apply Sel.there | with_reducible apply Sel.app))); (conv => lhs; whnf)) | (apply RS.cellN; (focus exact rfl); (focus (repeat (first | with_reducible exact Sel.here | with_reducible apply Sel.there | with_reducible apply Sel.app))); (conv => lhs; whnf)))) (hv : retV vs = val y) (hp : pr y)
    (hk : SelL (k1 y) kl2 klr := by repeat (first | exact SelL.nil | (apply SelL.cons; (focus (repeat (first | with_reducible exact Sel.here | with_reducible apply Sel.there | with_reducible apply Sel.app)))) | with_reducible exact SelL.all _ | with_reducible exact SelL.self _ _ | with_reducible apply SelL.there)) (hF : Sub (fs y) F := by repeat (first | exact Sub.nil | (apply Sub.cons; (focus ((repeat (first | with_reducible exact List.mem_cons_self .. | with_reducible apply List.mem_cons_of_mem)); first | done | fail))) | exact Tail.sub (by repeat (first | with_reducible exact Tail.here | with_reducible apply Tail.cons | with_reducible apply Tail.app))))
    (ho : o = .normal ∨ o = .ret := by first | exact .inl rfl | exact .inr rfl) : R (fun h => retD P cf (Left B w0 val k1 fs pr) o (act n l (rs.map dfr) none ro) h) B w0 kl F :=
  .perm (kl2 := (rs.map fun r => pt r (.defs true)) ++ kl2) (fun w S hS => by
    obtain ⟨S', ⟨T1, T2, u1, u2, e⟩, hp⟩ := hS.sel hc
    exact ⟨S', by rw [e]; exact OwnL.app u1 u2, hp⟩) (k_endD y (Coll.ofMap rs kl2) hr hv hp hk hF ho)

/-! ### Loops whose deferred calls grow -/
def LID {X : Type} (n : Nat) (D : X → List Deferred) (pm : Option FrameMode) (ro : Option Nat) (B : List Nat) (w0 : Wd) (m : X → Nat) (L : X → List (Nat × Value)) (KL : X → List OA) (FF : X → List Fact) (inv : X → Prop)
    (l0 : List (Nat × Value)) (klr : List OA) (F0 : List Fact) : Nat → IAct → IH → Prop := fun r a h =>
  ∃ (x : X) (w : Wd), r = m x ∧ a = act n (L x ++ l0) (D x) pm ro ∧ w.h = h ∧ St B w0 (KL x ++ klr) (FF x ++ F0) w ∧ inv x

theorem q_loopD {X : Type} {c : CCode} {l0 : List (Nat × Value)} {L2 : X → List (Nat × Value)} {KL2 : X → List OA} {FF2 : X → List Fact} (DX : X → List Deferred) (m : X → Nat) (L : X → List (Nat × Value)) (KL : X → List OA) (FF : X → List Fact) (inv : X → Prop) (x0 : X) (hi : inv x0)
    (hD : DX x0 = D := by rfl)
    (h0 : DelR l (L x0) l0 := by repeat (first | exact DelR.nil | (apply DelR.drop; (focus exact rfl)) | (apply DelR.keep; (focus exact rfl)))) (hl : sub (L x0 ++ l0) l := by repeat (first | exact trivial | refine ⟨rfl, ?_⟩))
    (hk : SelL (KL x0) kl klr := by repeat (first | exact SelL.nil | (apply SelL.cons; (focus (repeat (first | with_reducible exact Sel.here | with_reducible apply Sel.there | with_reducible apply Sel.app)))) | with_reducible exact SelL.all _ | with_reducible exact SelL.self _ _ | with_reducible apply SelL.there)) (hF : Sub (FF x0) F := by repeat (first | exact Sub.nil | (apply Sub.cons; (focus ((repeat (first | with_reducible exact List.mem_cons_self .. | with_reducible apply List.mem_cons_of_mem)); first | done | fail))) | exact Tail.sub (by repeat (first | with_reducible exact Tail.here | with_reducible apply Tail.cons | with_reducible apply Tail.app))))
    (hak : ∀ x, AppR (KL x) klr (KL2 x) := by intro y; repeat (first | exact AppR.nil | apply AppR.cons | exact AppR.self | exact AppR.app)) (haf : ∀ x, AppR (FF x) F (FF2 x) := by intro y; repeat (first | exact AppR.nil | apply AppR.cons | exact AppR.self | exact AppR.app))
    (hal : ∀ x, AppR (L x) l0 (L2 x) := by intro y; repeat (first | exact AppR.nil | apply AppR.cons | exact AppR.self | exact AppR.app))
    (body : ∀ x, inv x → R (fun h => EV P c (act n (L2 x) (DX x) pm ro) h (loopK (LID n DX pm ro B w0 m L KL FF inv l0 klr F) (m x) K)) B w0 (KL2 x) (FF2 x)) :
    R (fun h => EV P (.loop c) (act n l D pm ro) h K) B w0 kl F := by
  intro w s
  subst hD
  refine w_weak (weaker_act hl) ?_
  refine w_loop (LID n DX pm ro B w0 m L KL FF inv l0 klr F) ?_ (m x0) _ _ ⟨x0, w, rfl, rfl, rfl, (s.selL hk).add (fun f hf => s.facts f (hF.mem f hf)), hi⟩
  rintro r a h ⟨x, w', rfl, rfl, rfl, s', hx⟩
  have := body x hx
  rw [← (hak x).eq, ← (haf x).eq, ← (hal x).eq] at this
  exact this w' s'

theorem q_againD {X : Type} {DX : X → List Deferred} {m : X → Nat} {L : X → List (Nat × Value)} {KL : X → List OA} {FF : X → List Fact} {inv : X → Prop} {l0 : List (Nat × Value)} {kl1 kl2 : List OA} {F0 : List Fact} {m0 : Nat} (x : X) (hm : m x < m0) (hi : inv x)
    (hD : DX x = D := by rfl)
    (hl : sub (L x ++ l0) l := by repeat (first | exact trivial | refine ⟨rfl, ?_⟩)) (ha : AppR (KL x) klr kl1 := by repeat (first | exact AppR.nil | apply AppR.cons | exact AppR.self | exact AppR.app))
    (hk : SelL kl1 kl kl2 := by repeat (first | exact SelL.nil | (apply SelL.cons; (focus (repeat (first | with_reducible exact Sel.here | with_reducible apply Sel.there | with_reducible apply Sel.app)))) | with_reducible exact SelL.all _ | with_reducible exact SelL.self _ _ | with_reducible apply SelL.there)) (hF : Sub (FF x) F := by repeat (first | exact Sub.nil | (apply Sub.cons; (focus ((repeat (first | with_reducible exact List.mem_cons_self .. | with_reducible apply List.mem_cons_of_mem)); first | done | fail))) | exact Tail.sub (by repeat (first | with_reducible exact Tail.here | with_reducible apply Tail.cons | with_reducible apply Tail.app))))
    (hF0 : Tail F0 F := by repeat (first | exact Tail.here | apply Tail.cons | apply Tail.app)) :
    R (fun h => loopK (LID n DX pm ro B w0 m L KL FF inv l0 klr F0) m0 K .normal (act n l D pm ro) h) B w0 kl F := by
  intro w s
  subst hD
  refine k_ln (m x) hm hl ⟨x, w, rfl, rfl, rfl, ?_, hi⟩
  have s' := (s.selL hk).drop
  rw [← ha.eq] at s'
  exact ⟨s'.agree, s'.le, s'.zold, s'.own, fun f hf => (List.mem_append.1 hf).elim (fun hf => s.facts f (hF.mem f hf)) (fun hf => s.facts f (hF0.mem f hf))⟩

/-! ### Slices of slices that grow -/
def apsL {α : Type} (E : Enc α) (vs : List Value) (xss : List (List α)) : List OA := (vs.zip xss).map fun p => ap E p.1 p.2
def apsA {α : Type} (E : Enc α) (b : Nat) (xss : List (List α)) : OA :=
  ⟨fun w S => ∃ vs : List Value, vs.length = xss.length ∧ OwnL w (pt b (.cells vs) :: apsL E vs xss) S, fun a h ⟨vs, h1, h2⟩ => ⟨vs, h1, OwnL.loc a h h2⟩⟩
/-- all but one of them -/
def apsO {α : Type} (E : Enc α) (vs : List Value) (xss : List (List α)) (k : Nat) : OA :=
  ⟨fun w S => OwnL w ((apsL E vs xss).eraseIdx k) S, fun a h hp => OwnL.loc a h hp⟩

theorem apsL_get {α : Type} (E : Enc α) {vs : List Value} {xss : List (List α)} {k : Nat} {v : Value} {xs : List α} (hv : vs[k]? = some v) (hx : xss[k]? = some xs) : (apsL E vs xss)[k]? = some (ap E v xs) := by
  simp [apsL, List.zip, List.getElem?_map, List.getElem?_zipWith, hv, hx]

theorem q_apsO {α : Type} (E : Enc α) {b : Nat} {xss : List (List α)} {k : Nat} {xs : List α} (hx : xss[k]? = some xs) (hk : Sel (apsA E b xss) kl kl' := by repeat (first | with_reducible exact Sel.here | with_reducible apply Sel.there | with_reducible apply Sel.app))
    (h : ∀ (vs : List Value) (v : Value), vs.length = xss.length → vs[k]? = some v → R Q B w0 (pt b (.cells vs) :: ap E v xs :: apsO E vs xss k :: kl') F) : R Q B w0 kl F := fun w s => by
  obtain ⟨S, ⟨S1, S2, ⟨vs, h1, h2⟩, q2, e⟩, hnd, hall⟩ := (s.sel hk).own
  subst e
  have hlt := (List.getElem?_eq_some_iff.1 hx).1
  have hv : vs[k]? = some (vs[k]'(by omega)) := List.getElem?_eq_getElem (by omega)
  refine h vs _ h1 hv w ?_
  have hg : (apsL E vs xss)[k]? = some (ap E (vs[k]'(by omega)) xs) := apsL_get E hv hx
  obtain ⟨T1, T2, u1, u2, e⟩ := h2
  obtain ⟨T3, ⟨T4, T5, u4, u5, e5⟩, u6⟩ := u2.sel (Sel.at hg)
  subst e5 e
  have hperm : ((T1 ++ T2) ++ S2).Perm (T1 ++ (T4 ++ (T5 ++ S2))) := by
    rw [List.append_assoc]
    refine List.Perm.append_left T1 ?_
    rw [← List.append_assoc]
    exact List.Perm.append_right S2 u6
  exact ⟨s.agree, s.le, s.zold, ⟨T1 ++ (T4 ++ (T5 ++ S2)), ⟨T1, _, u1, ⟨T4, _, u4, ⟨T5, S2, u5, q2, rfl⟩, rfl⟩, rfl⟩, hperm.nodup hnd, fun i hi => hall i (hperm.mem_iff.2 hi)⟩, s.facts⟩

theorem apsL_set {α : Type} (E : Enc α) {vs : List Value} {xss : List (List α)} {k : Nat} {v : Value} {xs : List α} : apsL E (vs.set k v) (xss.set k xs) = (apsL E vs xss).set k (ap E v xs) := by
  apply List.ext_getElem?
  intro j
  simp only [apsL, List.getElem?_map, List.getElem?_set, List.zip, List.getElem?_zipWith]
  by_cases e : k = j
  · subst e
    by_cases h1 : k < vs.length
    · by_cases h2 : k < xss.length
      · simp [h1, h2]; omega
      · simp [h1, h2]; omega
    · simp [h1]; omega
  · simp [e]

theorem q_apsC {α : Type} (E : Enc α) {b : Nat} {xss : List (List α)} {vs : List Value} {k : Nat} {v : Value} {xs : List α} (hlen : vs.length = xss.length) (hk : k < xss.length) (h1 : Sel (pt b (.cells (vs.set k v))) kl k1 := by repeat (first | with_reducible exact Sel.here | with_reducible apply Sel.there | with_reducible apply Sel.app))
    (h2 : Sel (ap E v xs) k1 k2 := by repeat (first | with_reducible exact Sel.here | with_reducible apply Sel.there | with_reducible apply Sel.app)) (h3 : Sel (apsO E vs xss k) k2 klr := by repeat (first | with_reducible exact Sel.here | with_reducible apply Sel.there | with_reducible apply Sel.app)) (h : R Q B w0 (apsA E b (xss.set k xs) :: klr) F) : R Q B w0 kl F :=
  .perm (fun w S hS => by
    obtain ⟨S1, S2, q1, q2, hp⟩ := hS.selL (.cons h1 (.cons h2 (.cons h3 .nil)))
    obtain ⟨T1, U1, u1, ⟨T2, U2, u2, ⟨T3, U3, u3, u4, e3⟩, e2⟩, e1⟩ := q1
    have u4 : U3 = [] := u4
    subst u4 e3 e2 e1
    have hl : ((apsL E vs xss).set k (ap E v xs))[k]? = some (ap E v xs) := by
      rw [List.getElem?_set, if_pos rfl, if_pos (by simp [apsL]; omega)]
    obtain ⟨V, v1, v2⟩ := OwnL.unsel (Sel.at hl) (S := T2 ++ T3) (w := w) ⟨T2, T3, u2, by rw [erase_set]; exact u3, rfl⟩
    refine ⟨(T1 ++ V) ++ S2, ⟨T1 ++ V, S2, ⟨vs.set k v, by simp [hlen], ⟨T1, V, u1, by rw [apsL_set]; exact v1, rfl⟩⟩, q2, rfl⟩, hp.trans ?_⟩
    rw [List.append_nil]
    exact List.Perm.append_right S2 (List.Perm.append_left T1 v2)) h

/-- a block of empty slices -/
theorem st_aps0 {α : Type} (E : Enc α) {b m : Nat} (hk : Sel (pt b (.cells (List.replicate m (.slice none 0 0)))) kl kl' := by repeat (first | with_reducible exact Sel.here | with_reducible apply Sel.there | with_reducible apply Sel.app)) (h : R Q B w0 (apsA E b (List.replicate m ([] : List α)) :: kl') F) : R Q B w0 kl F :=
  .perm (fun w S hS => by
    obtain ⟨S', ⟨T1, T2, u1, u2, e⟩, hp⟩ := hS.sel hk
    refine ⟨S', ⟨T1, T2, ⟨List.replicate m (.slice none 0 0), by simp, ⟨T1, [], u1, ?_, by simp⟩⟩, u2, e⟩, hp⟩
    have : ∀ m, OwnL w (apsL E (List.replicate m (.slice none 0 0)) (List.replicate m [])) [] := by
      intro m
      induction m with
      | zero => rfl
      | succ m ih => exact ⟨[], [], .inl ⟨rfl, rfl, rfl⟩, ih, rfl⟩
    exact this m) h

/-- frozen, they are a slice of slices -/
theorem frz_aps {α : Type} {E : Enc α} {b c : Nat} {xss : List (List α)} (hc : xss.length ≤ c := by first | exact Nat.le_refl _ | omega) : Frz (apsA E b xss) [fSl (slE E) (.slice (some ⟨b, 0, some 0⟩) xss.length c) xss] := by
  intro w w' S ⟨vs, hlen, T1, T2, ⟨h1, h2⟩, u2, e⟩ hle hh hz f hf
  subst e
  rw [List.mem_singleton.1 hf]
  refine .inr ⟨b, 0, 0, c, vs, ⟨rfl, hc, .inl rfl⟩, ⟨hz b (by rw [h1]; simp), .inl (by rw [hh]; exact h2)⟩, fun k xs hk => ?_⟩
  have hlt := (List.getElem?_eq_some_iff.1 hk).1
  have hv : vs[k]? = some (vs[k]'(by omega)) := List.getElem?_eq_getElem (by omega)
  have hg : (apsL E vs xss)[k]? = some (ap E (vs[k]'(by omega)) xs) := apsL_get E hv hk
  obtain ⟨T3, ⟨T4, T5, u4, u5, e5⟩, u6⟩ := u2.sel (Sel.at hg)
  subst e5
  refine ⟨vs[k]'(by omega), fun j u hj => ?_, fun g hgm => ?_⟩
  · match j, hj with
    | 0, hj =>
      cases hj
      show vs[0 + k * 1 + 0]? = _
      simp
  · rw [List.mem_singleton.1 hgm]
    exact frz_ap w w' T4 u4 hle hh (fun i hi => hz i (List.mem_append_right _ (u6.mem_iff.2 (List.mem_append_left _ hi)))) _ (List.mem_singleton.2 rfl)
end
end Go.Ideal

/-
  The ideal machine, 63: a call from a heap that is known to the letter.
-/
set_option linter.unusedSimpArgs false
set_option linter.unusedVariables false
namespace Go.Ideal

noncomputable def sameT : Nat → T IObj → T IObj → Bool
  | 0, _, _ => false
  | n + 1, a, b => match a, b with
    | .leaf, .leaf => true
    | .node v l r, .node v' l' r' => (match v, v' with
      | none, none => true
      | some o, some o' => sameO o o'
      | _, _ => false) && (sameT n l l' && sameT n r r')
    | _, _ => false

theorem sameT_eq : ∀ (n : Nat) {a b : T IObj}, sameT n a b = true → a = b
  | 0, _, _, h => by cases h
  | n + 1, a, b, h => by
    unfold sameT at h
    split at h
    · rfl
    · simp only [Bool.and_eq_true] at h
      obtain ⟨h1, h2, h3⟩ := h
      rw [sameT_eq n h2, sameT_eq n h3]
      split at h1
      · rfl
      · rw [sameO_eq h1]
      · cases h1
    · cases h

noncomputable def firstCallH (h0 : IH) (l : List (Nat × IObj)) (n : Nat) (fn : Nat) (args : List Value) (v : Value) : Req → IH → Option (Value × IH) := fun q h =>
  match q with
  | ⟨.func f, as, [], none⟩ => cond (Nat.beq f fn && (sameV 5 (.tuple ⟨args⟩) (.tuple ⟨as⟩) && (Nat.beq h0.next h.next && (Nat.beq h0.low h.low && sameT 30 h0.t h.t)))) (some (v, ⟨heapT l, n, 0⟩)) none
  | _ => none

theorem firstCallH_ok {P : Program} {h0 : IH} {l : List (Nat × IObj)} {n fn : Nat} {args : List Value} {v : Value} (hall : (List.range h0.next).all (fun i => ((heapT l).get i).isSome) = true)
    (hc : CALL P ⟨.func fn, args, [], none⟩ h0 (fun r pm h' => leaves l n v r pm h' = true))
    {q : Req} {h : IH} {v' : Value} {h' : IH} (hk : firstCallH h0 l n fn args v q h = some (v', h')) : CALL P q h (fun r pm h2 => r = .ok v' ∧ pm = none ∧ h2 = h') := by
  unfold firstCallH at hk
  split at hk
  · rename_i f as
    cases hcd : (Nat.beq f fn && (sameV 5 (.tuple ⟨args⟩) (.tuple ⟨as⟩) && (Nat.beq h0.next h.next && (Nat.beq h0.low h.low && sameT 30 h0.t h.t)))) with
    | false => rw [hcd] at hk; cases hk
    | true =>
      rw [hcd] at hk
      simp only [cond, Option.some.injEq, Prod.mk.injEq] at hk
      obtain ⟨rfl, rfl⟩ := hk
      simp only [Bool.and_eq_true] at hcd
      obtain ⟨h1, h2, h3, h4, h5⟩ := hcd
      have h1 := beq_t h1
      subst h1
      have h2 := sameV_eq _ _ _ h2
      injection h2 with h2
      injection h2 with h2
      subst h2
      have e3 := beq_t h3
      have e4 := beq_t h4
      have e5 := sameT_eq _ h5
      clear h3 h4 h5
      obtain ⟨t0, n0, l0⟩ := h0
      obtain ⟨t1, n1, l1⟩ := h
      dsimp only at e3 e4 e5
      subst e3 e4 e5
      refine .forget _ hc ?_
      intro r pm h' hl
      unfold leaves at hl
      split at hl
      · cases hl
      · split at hl
        · rename_i v'
          simp only [Bool.and_eq_true] at hl
          obtain ⟨⟨⟨h1, h2⟩, h3⟩, h4⟩ := hl
          refine ⟨⟨heapT l, n, 0⟩, (beq_t h2).symm, (beq_t h3).symm, ?_, ?_, rfl, rfl⟩
          · intro i
            rcases heapT_get l i with e | ⟨o, e1, e2⟩
            · refine .inr ⟨?_, e⟩
              apply Classical.byContradiction
              intro hno
              rw [List.all_eq_true] at hall
              have := hall i (List.mem_range.2 (Nat.lt_of_not_le hno))
              rw [e] at this; cases this
            · left; exact e2.trans (hasO_get h4 i o e1).symm
          · rw [sameV_eq _ _ _ h1]
        · cases hl
  · cases hk
end Go.Ideal

/-
  The ideal machine, 64: where several ways come together.
-/
set_option linter.unusedSimpArgs false
set_option linter.unusedVariables false
namespace Go.Ideal
variable {P : Program}

/-- behind code whose ways come together -/
def joinK {X : Type} (n : Nat) (D : List Deferred) (pm : Option FrameMode) (ro : Option Nat) (B : List Nat) (w0 : Wd) (L : X → List (Nat × Value)) (KL : X → List OA) (FF : X → List Fact) (inv : X → Prop) (l0 : List (Nat × Value)) (klr : List OA) (F0 : List Fact) (K : KO) : KO := fun o a h =>
  match o with
  | .normal => ∃ (x : X) (l : List (Nat × Value)) (w : Wd), a = act n l D pm ro ∧ sub (L x ++ l0) l ∧ w.h = h ∧ St B w0 (KL x ++ klr) (FF x ++ F0) w ∧ inv x
  | o => K o a h

section
variable {B : List Nat} {w0 : Wd} {kl kl' klr k1 k2 : List OA} {F : List Fact} {K : KO} {n : Nat} {l : List (Nat × Value)} {D : List Deferred} {pm : Option FrameMode} {ro : Option Nat} {Q : IH → Prop}

/-- ways come together: X says what they leave; ks: the temporaries that they change and that are looked at behind them -/
theorem q_join {X : Type} {x y : CCode} {l0 : List (Nat × Value)} {L2 : X → List (Nat × Value)} {KL2 : X → List OA} {FF2 : X → List Fact} (ks : List Nat) (L : X → List (Nat × Value)) (KL : X → List OA) (FF : X → List Fact) (inv : X → Prop)
    (hx : R (fun h => EV P x (act n l D pm ro) h (joinK n D pm ro B w0 L KL FF inv l0 klr F K)) B w0 kl F)
    (hy : ∀ z, inv z → R (fun h => EV P y (act n (L2 z) D pm ro) h K) B w0 (KL2 z) (FF2 z))
    (h0 : DelR l (ks.map fun k => (k, skipV)) l0 := by repeat (first | exact DelR.nil | (apply DelR.drop; (focus exact rfl)) | (apply DelR.keep; (focus exact rfl))))
    (hal : ∀ x, AppR (L x) l0 (L2 x) := by intro y; repeat (first | exact AppR.nil | apply AppR.cons | exact AppR.self | exact AppR.app))
    (hak : ∀ x, AppR (KL x) klr (KL2 x) := by intro y; repeat (first | exact AppR.nil | apply AppR.cons | exact AppR.self | exact AppR.app)) (haf : ∀ x, AppR (FF x) F (FF2 x) := by intro y; repeat (first | exact AppR.nil | apply AppR.cons | exact AppR.self | exact AppR.app)) :
    R (fun h => EV P (.seq x y) (act n l D pm ro) h K) B w0 kl F := fun w s => by
  refine w_seq (ev_mono (hx w s) _ ?_)
  intro o a h hm
  cases o with
  | normal =>
    obtain ⟨z, l', w', rfl, hl, rfl, s', hz⟩ := hm
    have := hy z hz
    rw [← (hak z).eq, ← (haf z).eq, ← (hal z).eq] at this
    exact w_weak (weaker_act hl) (this w' s')
  | exit j => exact hm
  | ret => exact hm
  | panic ch => exact hm

section
variable {X : Type} {n2 : Nat} {D2 : List Deferred} {pm2 : Option FrameMode} {ro2 : Option Nat} {B2 : List Nat} {w2 : Wd} {L : X → List (Nat × Value)} {KL : X → List OA} {FF : X → List Fact} {inv : X → Prop} {l0 : List (Nat × Value)} {F0 : List Fact}

theorem q_jr {a : IAct} (h : R (fun h => K .ret a h) B w0 kl F) : R (fun h => joinK n2 D2 pm2 ro2 B2 w2 L KL FF inv l0 klr F0 K .ret a h) B w0 kl F := h
theorem q_jx {a : IAct} {j : Nat} (h : R (fun h => K (.exit j) a h) B w0 kl F) : R (fun h => joinK n2 D2 pm2 ro2 B2 w2 L KL FF inv l0 klr F0 K (.exit j) a h) B w0 kl F := h
theorem q_jp {a : IAct} {ch : List PanicEntry} (h : R (fun h => K (.panic ch) a h) B w0 kl F) : R (fun h => joinK n2 D2 pm2 ro2 B2 w2 L KL FF inv l0 klr F0 K (.panic ch) a h) B w0 kl F := h

theorem q_jend {kl1 kl2 : List OA} (x : X) (hi : inv x) (hl : sub (L x ++ l0) l := by repeat (first | exact trivial | refine ⟨rfl, ?_⟩))
    (ha : AppR (KL x) klr kl1 := by repeat (first | exact AppR.nil | apply AppR.cons | exact AppR.self | exact AppR.app))
    (hk : SelL kl1 kl kl2 := by repeat (first | exact SelL.nil | (apply SelL.cons; (focus (repeat (first | with_reducible exact Sel.here | with_reducible apply Sel.there | with_reducible apply Sel.app)))) | with_reducible exact SelL.all _ | with_reducible exact SelL.self _ _ | with_reducible apply SelL.there)) (hF : Sub (FF x) F := by repeat (first | exact Sub.nil | (apply Sub.cons; (focus ((repeat (first | with_reducible exact List.mem_cons_self .. | with_reducible apply List.mem_cons_of_mem)); first | done | fail))) | exact Tail.sub (by repeat (first | with_reducible exact Tail.here | with_reducible apply Tail.cons | with_reducible apply Tail.app))))
    (hF0 : Tail F0 F := by repeat (first | exact Tail.here | apply Tail.cons | apply Tail.app)) :
    R (fun h => joinK n D pm ro B w0 L KL FF inv l0 klr F0 K .normal (act n l D pm ro) h) B w0 kl F := fun w s => by
  refine ⟨x, l, w, rfl, hl, rfl, ?_, hi⟩
  have s' := (s.selL hk).drop
  rw [← ha.eq] at s'
  exact ⟨s'.agree, s'.le, s'.zold, s'.own, fun f hf => (List.mem_append.1 hf).elim (fun hf => s.facts f (hF.mem f hf)) (fun hf => s.facts f (hF0.mem f hf))⟩
end

/-- ways come together, ahead of what follows -/
theorem q_joinS {X : Type} {x y : CCode} {l0 : List (Nat × Value)} {L2 : X → List (Nat × Value)} {KL2 : X → List OA} {FF2 : X → List Fact} (ks : List Nat) (L : X → List (Nat × Value)) (KL : X → List OA) (FF : X → List Fact) (inv : X → Prop)
    (hx : R (fun h => EV P x (act n l D pm ro) h (joinK n D pm ro B w0 L KL FF inv l0 klr F K)) B w0 kl F)
    (hy : ∀ z, inv z → R (fun h => EV P y (act n (L2 z) D pm ro) h K) B w0 (KL2 z) (FF2 z))
    (h0 : DelR l (ks.map fun k => (k, skipV)) l0 := by repeat (first | exact DelR.nil | (apply DelR.drop; (focus exact rfl)) | (apply DelR.keep; (focus exact rfl))))
    (hal : ∀ x, AppR (L x) l0 (L2 x) := by intro y; repeat (first | exact AppR.nil | apply AppR.cons | exact AppR.self | exact AppR.app))
    (hak : ∀ x, AppR (KL x) klr (KL2 x) := by intro y; repeat (first | exact AppR.nil | apply AppR.cons | exact AppR.self | exact AppR.app)) (haf : ∀ x, AppR (FF x) F (FF2 x) := by intro y; repeat (first | exact AppR.nil | apply AppR.cons | exact AppR.self | exact AppR.app)) :
    R (fun h => EV P x (act n l D pm ro) h (seqK P y K)) B w0 kl F := fun w s => by
  refine ev_mono (hx w s) _ ?_
  intro o a h hm
  cases o with
  | normal =>
    obtain ⟨z, l', w', rfl, hl, rfl, s', hz⟩ := hm
    have := hy z hz
    rw [← (hak z).eq, ← (haf z).eq, ← (hal z).eq] at this
    exact w_weak (weaker_act hl) (this w' s')
  | exit j => exact hm
  | ret => exact hm
  | panic ch => exact hm
end

/-- on, up to the next block -/
theorem goB {G G' : Prop} (x : G') (r : Red G G' := by
  repeat (first
    | ((with_reducible apply Red.trans); first
      | with_reducible exact rd_seq
      | with_reducible exact rd_ops
      | with_reducible exact rd_scope
      | with_reducible exact rd_skip
      | with_reducible exact rd_exit
      | with_reducible exact rd_ret
      | with_reducible exact rd_nil
      | with_reducible exact rd_sn
      | with_reducible exact rd_sr
      | with_reducible exact rd_se
      | with_reducible exact rd_sp
      | with_reducible exact rd_bn
      | with_reducible exact rd_br
      | with_reducible exact rd_bp
      | with_reducible exact rd_lr
      | with_reducible exact rd_le
      | with_reducible exact rd_lp
      | ((with_reducible apply rd_be); exact rfl)
      | ((with_reducible apply rd_bf); exact rfl)
      | ((with_reducible apply rd_condT); (focus exact rfl))
      | ((with_reducible apply rd_condF); (focus exact rfl))
      | ((with_reducible apply d_skip); (focus exact rfl); (focus exact rfl))
      | ((with_reducible apply d_idxIn); (focus exact rfl); (focus exact rfl); (focus ((conv => lhs; whnf); (first | done | fail))); (focus exact rfl); (focus (((repeat (first | with_reducible exact List.mem_cons_self .. | with_reducible apply List.mem_cons_of_mem)); first | done | fail); (first | done | fail))); (focus ((omega); (first | done | fail))))
      | ((with_reducible apply d_idxBn); (focus exact rfl); (focus exact rfl); (focus ((conv => lhs; whnf); (first | done | fail))); (focus exact rfl); (focus (((repeat (first | with_reducible exact List.mem_cons_self .. | with_reducible apply List.mem_cons_of_mem)); first | done | fail); (first | done | fail))); (focus ((omega); (first | done | fail))))
      | ((with_reducible apply d_idxI); (focus exact rfl); (focus exact rfl); (focus ((conv => lhs; whnf); (first | done | fail))); (focus exact rfl); (focus (((repeat (first | with_reducible exact List.mem_cons_self .. | with_reducible apply List.mem_cons_of_mem)); first | done | fail); (first | done | fail))); (focus ((omega); (first | done | fail))); (focus ((omega); (first | done | fail))))
      | ((with_reducible apply d_idxB); (focus exact rfl); (focus exact rfl); (focus ((conv => lhs; whnf); (first | done | fail))); (focus exact rfl); (focus (((repeat (first | with_reducible exact List.mem_cons_self .. | with_reducible apply List.mem_cons_of_mem)); first | done | fail); (first | done | fail))); (focus ((omega); (first | done | fail))); (focus ((omega); (first | done | fail))))
      | ((with_reducible apply d_p); (focus exact rfl); (focus exact rfl); (focus ((first | ((with_reducible apply p_mv); (focus ((conv => lhs; whnf); (first | done | fail)))) | ((with_reducible apply p_asg); (focus ((conv => lhs; whnf); (first | done | fail)))) | ((with_reducible apply p_len); (focus exact rfl)) | ((with_reducible apply p_lss); (focus exact rfl); (focus exact rfl)) | ((with_reducible apply p_leq); (focus exact rfl); (focus exact rfl)) | ((with_reducible apply p_gtr); (focus exact rfl); (focus exact rfl)) | ((with_reducible apply p_geq); (focus exact rfl); (focus exact rfl)) | ((with_reducible apply p_eql); (focus exact rfl); (focus exact rfl)) | ((with_reducible apply p_neq); (focus exact rfl); (focus exact rfl)) | ((with_reducible apply p_not); (focus exact rfl)) | ((with_reducible apply p_pickT); (focus exact rfl); (focus ((conv => lhs; whnf); (first | done | fail)))) | ((with_reducible apply p_pickF); (focus exact rfl); (focus ((conv => lhs; whnf); (first | done | fail)))) | ((with_reducible apply p_extract); (focus exact rfl); (focus ((conv => lhs; whnf); (first | done | fail)))) | ((with_reducible apply p_fieldA); (focus exact rfl)) | ((with_reducible apply p_field1); (focus exact rfl); (focus ((conv => lhs; whnf); (first | done | fail)))) | ((with_reducible apply p_fieldN); (focus exact rfl); (focus ((conv => lhs; whnf); (first | done | fail)))) | ((with_reducible apply p_iface); (focus ((conv => lhs; whnf); (first | done | fail)))) | ((with_reducible apply p_tassert); (focus exact rfl)) | ((with_reducible apply p_nilck); (focus exact rfl)) | ((with_reducible apply p_nilckF); (focus exact rfl)) | with_reducible exact p_lenArr | ((with_reducible apply p_idxK); (focus exact rfl); (focus exact rfl); (focus exact rfl)) | ((with_reducible apply p_idxN); (focus exact rfl); (focus exact rfl); (focus ((omega); (first | done | fail)))) | ((with_reducible apply p_idx); (focus exact rfl); (focus exact rfl); (focus ((omega); (first | done | fail))); (focus ((omega); (first | done | fail)))) | ((with_reducible apply p_idxArr); (focus exact rfl); (focus exact rfl); (focus ((omega); (first | done | fail))); (focus ((omega); (first | done | fail)))) | ((with_reducible apply p_add); (focus exact rfl); (focus exact rfl); (focus ((omega); (first | done | fail))); (focus ((omega); (first | done | fail)))) | ((with_reducible apply p_sub); (focus exact rfl); (focus exact rfl); (focus ((omega); (first | done | fail))); (focus ((omega); (first | done | fail)))) | ((with_reducible apply p_eqlB); (focus exact rfl); (focus exact rfl); (focus ((first | assumption | kernel_rfl); (first | done | fail)))) | ((with_reducible apply p_neqB); (focus exact rfl); (focus exact rfl); (focus ((first | assumption | kernel_rfl); (first | done | fail)))) | ((with_reducible apply p_eqlS); (focus exact rfl); (focus exact rfl)) | ((with_reducible apply p_neqS); (focus exact rfl); (focus exact rfl)) | ((with_reducible apply p_mul); (focus exact rfl); (focus exact rfl); (focus ((omega); (first | done | fail))); (focus ((omega); (first | done | fail))))); (first | done | fail))))
      | ((with_reducible apply d_mkf); (focus exact rfl); (focus exact rfl); (focus (repeat (first | with_reducible exact EvL.nil | ((with_reducible apply EvL.cons); (conv => lhs; whnf))))); (focus (repeat (first | with_reducible exact EvL.nil | ((with_reducible apply EvL.cons); (conv => lhs; whnf))))))
      | ((with_reducible apply d_bsl); (focus exact rfl); (focus exact rfl); (focus (repeat (first | with_reducible exact Fill.nil | ((with_reducible apply Fill.cons); (conv => lhs; whnf); (conv => lhs; whnf); (focus exact rfl); (conv => lhs; whnf))))))
      | ((with_reducible apply d_bld); (focus exact rfl); (focus exact rfl); (focus (repeat (first | with_reducible exact Fill.nil | ((with_reducible apply Fill.cons); (conv => lhs; whnf); (conv => lhs; whnf); (focus exact rfl); (conv => lhs; whnf))))))
      | ((with_reducible apply d_box2); (focus exact rfl); (focus exact rfl); (focus ((conv => lhs; whnf); (first | done | fail))); (focus ((conv => lhs; whnf); (first | done | fail))))
      | ((with_reducible apply d_new); (focus exact rfl); (focus exact rfl))
      | ((with_reducible apply d_load); (focus exact rfl); (focus exact rfl); (focus exact rfl); (focus ((repeat (first | with_reducible exact Sel.here | with_reducible apply Sel.there | with_reducible apply Sel.app)); (first | done | fail))); (focus ((conv => lhs; whnf); (first | done | fail))))
      | ((with_reducible apply d_loadN); (focus exact rfl); (focus exact rfl); (focus exact rfl); (focus ((repeat (first | with_reducible exact Sel.here | with_reducible apply Sel.there | with_reducible apply Sel.app)); (first | done | fail))); (focus ((conv => lhs; whnf); (first | done | fail))))
      | ((with_reducible apply d_loadF); (focus exact rfl); (focus exact rfl); (focus exact rfl); (focus (((repeat (first | with_reducible exact List.mem_cons_self .. | with_reducible apply List.mem_cons_of_mem)); first | done | fail); (first | done | fail))); (focus ((conv => lhs; whnf); (first | done | fail))))
      | ((with_reducible apply d_loadFj); (focus exact rfl); (focus exact rfl); (focus exact rfl); (focus (((repeat (first | with_reducible exact List.mem_cons_self .. | with_reducible apply List.mem_cons_of_mem)); first | done | fail); (first | done | fail))); (focus ((conv => lhs; whnf); (first | done | fail))))
      | ((with_reducible apply d_loadNF); (focus exact rfl); (focus exact rfl); (focus exact rfl); (focus (((repeat (first | with_reducible exact List.mem_cons_self .. | with_reducible apply List.mem_cons_of_mem)); first | done | fail); (first | done | fail))); (focus ((conv => lhs; whnf); (first | done | fail))))
      | ((with_reducible apply d_loadNFj); (focus exact rfl); (focus exact rfl); (focus exact rfl); (focus (((repeat (first | with_reducible exact List.mem_cons_self .. | with_reducible apply List.mem_cons_of_mem)); first | done | fail); (first | done | fail))); (focus ((conv => lhs; whnf); (first | done | fail))))
      | ((with_reducible apply d_store2); (focus exact rfl); (focus exact rfl); (focus ((conv => lhs; whnf); (first | done | fail))); (focus ((conv => lhs; whnf); (first | done | fail))); (focus exact rfl); (focus ((repeat (first | with_reducible exact Sel.here | with_reducible apply Sel.there | with_reducible apply Sel.app)); (first | done | fail))); (focus ((conv => lhs; whnf); (first | done | fail))))
      | ((with_reducible apply d_lenF); (focus exact rfl); (focus exact rfl); (focus ((conv => lhs; whnf); (first | done | fail))); (focus (((repeat (first | with_reducible exact List.mem_cons_self .. | with_reducible apply List.mem_cons_of_mem)); first | done | fail); (first | done | fail))))
      | ((with_reducible apply d_lenA); (focus exact rfl); (focus exact rfl); (focus ((conv => lhs; whnf); (first | done | fail))); (focus ((repeat (first | with_reducible exact Sel.here | with_reducible apply Sel.there | with_reducible apply Sel.app)); (first | done | fail))))
      | ((with_reducible apply d_pR (re := _ :: _)); (focus exact rfl); (focus exact rfl); (focus ((first | ((with_reducible apply p_mv); (focus ((conv => lhs; whnf); (first | done | fail)))) | ((with_reducible apply p_asg); (focus ((conv => lhs; whnf); (first | done | fail)))) | ((with_reducible apply p_len); (focus exact rfl)) | ((with_reducible apply p_lss); (focus exact rfl); (focus exact rfl)) | ((with_reducible apply p_leq); (focus exact rfl); (focus exact rfl)) | ((with_reducible apply p_gtr); (focus exact rfl); (focus exact rfl)) | ((with_reducible apply p_geq); (focus exact rfl); (focus exact rfl)) | ((with_reducible apply p_eql); (focus exact rfl); (focus exact rfl)) | ((with_reducible apply p_neq); (focus exact rfl); (focus exact rfl)) | ((with_reducible apply p_not); (focus exact rfl)) | ((with_reducible apply p_pickT); (focus exact rfl); (focus ((conv => lhs; whnf); (first | done | fail)))) | ((with_reducible apply p_pickF); (focus exact rfl); (focus ((conv => lhs; whnf); (first | done | fail)))) | ((with_reducible apply p_extract); (focus exact rfl); (focus ((conv => lhs; whnf); (first | done | fail)))) | ((with_reducible apply p_fieldA); (focus exact rfl)) | ((with_reducible apply p_field1); (focus exact rfl); (focus ((conv => lhs; whnf); (first | done | fail)))) | ((with_reducible apply p_fieldN); (focus exact rfl); (focus ((conv => lhs; whnf); (first | done | fail)))) | ((with_reducible apply p_iface); (focus ((conv => lhs; whnf); (first | done | fail)))) | ((with_reducible apply p_tassert); (focus exact rfl)) | ((with_reducible apply p_nilck); (focus exact rfl)) | ((with_reducible apply p_nilckF); (focus exact rfl)) | with_reducible exact p_lenArr | ((with_reducible apply p_idxK); (focus exact rfl); (focus exact rfl); (focus exact rfl)) | ((with_reducible apply p_idxN); (focus exact rfl); (focus exact rfl); (focus ((omega); (first | done | fail)))) | ((with_reducible apply p_idx); (focus exact rfl); (focus exact rfl); (focus ((omega); (first | done | fail))); (focus ((omega); (first | done | fail)))) | ((with_reducible apply p_idxArr); (focus exact rfl); (focus exact rfl); (focus ((omega); (first | done | fail))); (focus ((omega); (first | done | fail)))) | ((with_reducible apply p_add); (focus exact rfl); (focus exact rfl); (focus ((omega); (first | done | fail))); (focus ((omega); (first | done | fail)))) | ((with_reducible apply p_sub); (focus exact rfl); (focus exact rfl); (focus ((omega); (first | done | fail))); (focus ((omega); (first | done | fail)))) | ((with_reducible apply p_eqlB); (focus exact rfl); (focus exact rfl); (focus ((first | assumption | kernel_rfl); (first | done | fail)))) | ((with_reducible apply p_neqB); (focus exact rfl); (focus exact rfl); (focus ((first | assumption | kernel_rfl); (first | done | fail)))) | ((with_reducible apply p_eqlS); (focus exact rfl); (focus exact rfl)) | ((with_reducible apply p_neqS); (focus exact rfl); (focus exact rfl)) | ((with_reducible apply p_mul); (focus exact rfl); (focus exact rfl); (focus ((omega); (first | done | fail))); (focus ((omega); (first | done | fail))))); (first | done | fail))); (focus ((repeat (first | exact same_nil | refine same_load rfl (by repeat (first | with_reducible exact Sel.here | with_reducible apply Sel.there | with_reducible apply Sel.app)) (by first | exact rfl | (conv => lhs; whnf)) rfl ?_ | refine same_loadF rfl (by (repeat (first | with_reducible exact List.mem_cons_self .. | with_reducible apply List.mem_cons_of_mem)); first | done | fail) (by first | exact rfl | (conv => lhs; whnf)) rfl ?_ | refine same_loadFj rfl (by (repeat (first | with_reducible exact List.mem_cons_self .. | with_reducible apply List.mem_cons_of_mem)); first | done | fail) (by first | exact rfl | (conv => lhs; whnf)) rfl ?_ | refine same_loadN rfl (by repeat (first | with_reducible exact Sel.here | with_reducible apply Sel.there | with_reducible apply Sel.app)) (by first | exact rfl | (conv => lhs; whnf)) rfl ?_ | refine same_loadNF rfl (by (repeat (first | with_reducible exact List.mem_cons_self .. | with_reducible apply List.mem_cons_of_mem)); first | done | fail) (by first | exact rfl | (conv => lhs; whnf)) rfl ?_ | refine same_loadNFj rfl (by (repeat (first | with_reducible exact List.mem_cons_self .. | with_reducible apply List.mem_cons_of_mem)); first | done | fail) (by first | exact rfl | (conv => lhs; whnf)) rfl ?_)); (first | done | fail))))
      | ((with_reducible apply d_storeR (re := _ :: _)); (focus exact rfl); (focus exact rfl); (focus ((conv => lhs; whnf); (first | done | fail))); (focus ((conv => lhs; whnf); (first | done | fail))); (focus exact rfl); (focus ((repeat (first | with_reducible exact Sel.here | with_reducible apply Sel.there | with_reducible apply Sel.app)); (first | done | fail))); (focus ((conv => lhs; whnf); (first | done | fail))); (focus ((repeat (first | exact same_nil | refine same_load rfl (by repeat (first | with_reducible exact Sel.here | with_reducible apply Sel.there | with_reducible apply Sel.app)) (by first | exact rfl | (conv => lhs; whnf)) rfl ?_ | refine same_loadF rfl (by (repeat (first | with_reducible exact List.mem_cons_self .. | with_reducible apply List.mem_cons_of_mem)); first | done | fail) (by first | exact rfl | (conv => lhs; whnf)) rfl ?_ | refine same_loadFj rfl (by (repeat (first | with_reducible exact List.mem_cons_self .. | with_reducible apply List.mem_cons_of_mem)); first | done | fail) (by first | exact rfl | (conv => lhs; whnf)) rfl ?_ | refine same_loadN rfl (by repeat (first | with_reducible exact Sel.here | with_reducible apply Sel.there | with_reducible apply Sel.app)) (by first | exact rfl | (conv => lhs; whnf)) rfl ?_ | refine same_loadNF rfl (by (repeat (first | with_reducible exact List.mem_cons_self .. | with_reducible apply List.mem_cons_of_mem)); first | done | fail) (by first | exact rfl | (conv => lhs; whnf)) rfl ?_ | refine same_loadNFj rfl (by (repeat (first | with_reducible exact List.mem_cons_self .. | with_reducible apply List.mem_cons_of_mem)); first | done | fail) (by first | exact rfl | (conv => lhs; whnf)) rfl ?_)); (first | done | fail))))
      | fail)
    | ((with_reducible apply Red.all); intro _)
    | with_reducible apply Red.imp)
  with_reducible exact Red.refl _) : G := r.h x
end Go.Ideal

/-
  The ideal machine, 65: parts of frozen slices; a frozen slice laid behind an empty one.
-/
set_option linter.unusedSimpArgs false
set_option linter.unusedVariables false
namespace Go.Ideal
variable {P : Program}

theorem upTo_nat {n k : Nat} (h : k ≤ n) : upTo n (.int .i64 (k : Int)) = some k := by
  show cond (Nat.ble k n) (some k) none = _
  rw [show Nat.ble k n = true from by rw [Nat.ble_eq]; exact h]; rfl

section
variable {B : List Nat} {w0 : Wd} {kl kl' klr k1 k2 : List OA} {F : List Fact} {K : KO} {n : Nat} {l : List (Nat × Value)} {D : List Deferred} {pm : Option FrameMode} {ro : Option Nat} {Q : IH → Prop} {ds : List Tmp} {rest : List PStep} {d : Nat} {g : Option (Tmp × Bool)}

/-- a part of a frozen slice: from a to b -/
theorem part_fact {α : Type} {E : Enc α} {v : Value} {xs : List α} {w : Wd} (hf : (fSl E v xs).p w) {a b : Nat} (hab : a ≤ b) (hb : b ≤ xs.length) {size : Nat} (hz : E.n = size) {x : Operand} {ρ : Operand → Value} (hx : ρ x = v) {olo ohi : Option Operand}
    (hbd : ∀ c, xs.length ≤ c → bounds? xs.length c (mapOpt ρ olo) (mapOpt ρ ohi) none = some (a, b, c)) :
    ∃ u, (COp.slSl size x olo ohi none).run P ρ w.h = some (u, w.h) ∧ (fSl E u ((xs.drop a).take (b - a))).p w ∧ ∃ ad m, u = .slice ad (b - a) m := by
  subst hx hz
  have hlen : ((xs.drop a).take (b - a)).length = b - a := by rw [List.length_take, List.length_drop]; omega
  have h3 : mapOpt ρ none = none := rfl
  rcases hf with ⟨rfl, ad, c, e, hg⟩ | ⟨i, o, f, c, cells, ⟨e, hc, hf⟩, q2, q3⟩
  · have hb0 : b = 0 := by simpa using hb
    subst hb0
    have ha0 : a = 0 := by omega
    subst ha0
    have hbd := hbd c (Nat.zero_le _)
    rw [List.length_nil] at hbd
    match ad, hg with
    | none, _ => exact ⟨.slice none 0 c, by simp only [COp.run, e, h3, hbd]; rfl, .inl ⟨by simp, _, _, rfl, trivial⟩, _, _, rfl⟩
    | some ⟨i, o, some 0⟩, _ => exact ⟨.slice (some ⟨i, o, some 0⟩) 0 c, by
        simp only [COp.run, e, h3, hbd]
        show some (Value.slice (exactA i (Nat.add o (Nat.mul 0 E.n))) (0 - 0) (c - 0), w.h) = _
        rw [show Nat.mul 0 E.n = 0 from Nat.zero_mul _]; rfl, .inl ⟨by simp, _, _, rfl, .inl rfl⟩, _, _, rfl⟩
    | some ⟨i, o, some (k + 1)⟩, hg => 
      have hk : k + 1 = E.n := by
        rcases hg with h | h
        · cases h
        · exact h
      exact ⟨.slice (some ⟨i, o, some (k + 1)⟩) 0 c, by
        simp only [COp.run, e, h3, hbd]
        show cond (Nat.beq (Nat.succ k) E.n) (some (Value.slice (some ⟨i, Nat.add o (Nat.mul 0 E.n), some (Nat.succ k)⟩) (0 - 0) (c - 0), w.h)) none = _
        rw [show Nat.beq (Nat.succ k) E.n = true by rw [show Nat.succ k = E.n from hk]; exact Nat.beq_refl _, show Nat.mul 0 E.n = 0 from Nat.zero_mul _]; rfl, .inl ⟨by simp, _, _, rfl, .inr hk⟩, _, _, rfl⟩
  · have hbd := hbd c hc
    have hel : ∀ (k : Nat) y, ((xs.drop a).take (b - a))[k]? = some y → ∃ z, (∀ (j : Nat) u, (E.pat y z)[j]? = some u → cells[(o + a * E.n) + k * E.n + j]? = some u) ∧ ∀ f ∈ E.fs y z, f.p w := fun k y hk => by
      rw [List.getElem?_take] at hk
      split at hk
      · rw [List.getElem?_drop] at hk
        obtain ⟨z, u1, u2⟩ := q3 (a + k) y hk
        refine ⟨z, fun j u hj => ?_, u2⟩
        have := u1 j u hj
        rw [Nat.add_mul] at this
        rw [show o + a * E.n + k * E.n + j = o + (a * E.n + k * E.n) + j by omega]; exact this
      · cases hk
    match f, hf with
    | 0, _ => exact ⟨.slice (some ⟨i, o + a * E.n, some 0⟩) (b - a) (c - a), by
        simp only [COp.run, e, h3, hbd]
        show some (Value.slice (exactA i (Nat.add o (Nat.mul a E.n))) (b - a) (c - a), w.h) = _
        rfl, .inr ⟨i, o + a * E.n, 0, c - a, cells, ⟨by rw [hlen], by omega, .inl rfl⟩, q2, hel⟩, _, _, rfl⟩
    | k + 1, hf =>
      have hk : k + 1 = E.n := by
        rcases hf with h | h
        · cases h
        · exact h
      exact ⟨.slice (some ⟨i, o + a * E.n, some (k + 1)⟩) (b - a) (c - a), by
        simp only [COp.run, e, h3, hbd]
        show cond (Nat.beq (Nat.succ k) E.n) (some (Value.slice (some ⟨i, Nat.add o (Nat.mul a E.n), some (Nat.succ k)⟩) (b - a) (c - a), w.h)) none = _
        rw [show Nat.beq (Nat.succ k) E.n = true by rw [show Nat.succ k = E.n from hk]; exact Nat.beq_refl _]
        rfl, .inr ⟨i, o + a * E.n, k + 1, c - a, cells, ⟨by rw [hlen], by omega, .inr hk⟩, q2, hel⟩, _, _, rfl⟩

/-- xs[:b] -/
theorem q_to {α : Type} (E : Enc α) {x hi : Operand} {v : Value} {xs : List α} {size : Nat} (b : Nat) (hb : b ≤ xs.length)
    (next : ∀ ad m, R (fun h => OPS P ds rest (act n ((d, .slice ad b m) :: l) D pm ro) h K) B w0 kl (fSl E (.slice ad b m) (xs.take b) :: F))
    (hx : ev l x = v := by conv => lhs; whnf) (hhi : ev l hi = .int .i64 (b : Int) := by rfl) (hf : fSl E v xs ∈ F := by (repeat (first | with_reducible exact List.mem_cons_self .. | with_reducible apply List.mem_cons_of_mem)); first | done | fail) (hz : E.n = size := by rfl) (hn : Nat.blt d n = true := by rfl) (hg : gok l g = true := by rfl) :
    R (fun h => OPS P ds (⟨⟨some d, g, .slSl size x none (some hi) none⟩, []⟩ :: rest) (act n l D pm ro) h K) B w0 kl F := fun w s => by
  obtain ⟨u, h1, h2, ad, m, e⟩ := part_fact (P := P) (s.facts _ hf) (Nat.zero_le b) hb hz hx (olo := none) (ohi := some hi) (fun c hc => by
    show bounds? _ _ none (some (ev l hi)) none = _
    rw [hhi]
    show (match upTo c (.int .i64 (b : Int)) with | none => none | some h => match some 0 with | none => none | some l => some (l, h, c)) = _
    rw [upTo_nat (by omega)])
  subst e
  rw [Nat.sub_zero] at h1 h2
  refine s_run hn hg h1 (next ad m w ?_)
  rw [List.drop_zero] at h2
  exact (s.add (F' := [fSl E (.slice ad b m) (xs.take b)]) (fun f hf => by rw [List.mem_singleton.1 hf]; exact h2))

/-- xs[a:] -/
theorem q_from {α : Type} (E : Enc α) {x lo : Operand} {v : Value} {xs : List α} {size : Nat} (a : Nat) (ha : a ≤ xs.length)
    (next : ∀ ad m, R (fun h => OPS P ds rest (act n ((d, .slice ad (xs.length - a) m) :: l) D pm ro) h K) B w0 kl (fSl E (.slice ad (xs.length - a) m) (xs.drop a) :: F))
    (hx : ev l x = v := by conv => lhs; whnf) (hlo : ev l lo = .int .i64 (a : Int) := by rfl) (hf : fSl E v xs ∈ F := by (repeat (first | with_reducible exact List.mem_cons_self .. | with_reducible apply List.mem_cons_of_mem)); first | done | fail) (hz : E.n = size := by rfl) (hn : Nat.blt d n = true := by rfl) (hg : gok l g = true := by rfl) :
    R (fun h => OPS P ds (⟨⟨some d, g, .slSl size x (some lo) none none⟩, []⟩ :: rest) (act n l D pm ro) h K) B w0 kl F := fun w s => by
  obtain ⟨u, h1, h2, ad, m, e⟩ := part_fact (P := P) (s.facts _ hf) ha (Nat.le_refl _) hz hx (olo := some lo) (ohi := none) (fun c hc => by
    show bounds? _ _ (some (ev l lo)) none none = _
    rw [hlo]
    show (match upTo xs.length (.int .i64 (a : Int)) with | none => none | some l => some (l, xs.length, c)) = _
    rw [upTo_nat ha])
  subst e
  refine s_run hn hg h1 (next ad m w ?_)
  rw [List.take_of_length_le (by rw [List.length_drop]; exact Nat.le_refl _)] at h2
  exact (s.add (F' := [fSl E (.slice ad (xs.length - a) m) (xs.drop a)]) (fun f hf => by rw [List.mem_singleton.1 hf]; exact h2))

/-- a frozen slice of numbers laid behind an empty block -/
theorem q_appI {e : TypeId} {bytes b : Nat} {s x : Operand} {v : Value} {xs : List Int} (hne : 0 < xs.length) (hm : xs.length * bytes ≤ 1073741824 ∧ xs.length ≤ 1073741824)
    (next : ∀ b', R (fun h => OPS P ds rest (act n ((d, .slice (some ⟨b', 0, some 1⟩) xs.length xs.length) :: l) D pm ro) h K) B w0 (pt b' (.cells (xs.map (.int .i64))) :: kl') F)
    (hs : ev l s = .slice (some ⟨b, 0, some 0⟩) 0 0 := by rfl) (hx : ev l x = v := by conv => lhs; whnf) (hf : fSl intE v xs ∈ F := by (repeat (first | with_reducible exact List.mem_cons_self .. | with_reducible apply List.mem_cons_of_mem)); first | done | fail) (hk : Sel (pt b (.cells [])) kl kl' := by repeat (first | with_reducible exact Sel.here | with_reducible apply Sel.there | with_reducible apply Sel.app)) (hn : Nat.blt d n = true := by rfl) (hg : gok l g = true := by rfl) :
    R (fun h => OPS P ds (⟨⟨some d, g, .append e 1 bytes s x⟩, []⟩ :: rest) (act n l D pm ro) h K) B w0 kl F := fun w st => by
  have st1 := st.sel hk
  have hat : At w.h b (.cells []) := st.at_ hk
  obtain ⟨k, hk'⟩ : ∃ k, xs.length = k + 1 := ⟨xs.length - 1, by omega⟩
  rcases st.facts _ hf with ⟨rfl, _⟩ | ⟨i, o, f, c, cells, ⟨e1, hc⟩, q2, q3⟩
  · simp at hne
  have hcells : ∀ j, j < xs.length → cells[o + j]? = (xs.map (Value.int .i64))[j]? := fun j hj => by
    obtain ⟨y, u1, _⟩ := q3 j xs[j] (List.getElem?_eq_getElem hj)
    have := u1 0 (.int .i64 xs[j]) rfl
    rw [List.getElem?_map, List.getElem?_eq_getElem hj]
    simpa [intE] using this
  have hlen : o + xs.length ≤ cells.length := by
    have := hcells (xs.length - 1) (by omega)
    have hx0 : xs[xs.length - 1]? = some (xs[xs.length - 1]'(by omega)) := List.getElem?_eq_getElem _
    rw [List.getElem?_map, hx0] at this
    have := (List.getElem?_eq_some_iff.1 this).1
    omega
  have hread : w.h.readAt i o (xs.length * 1) = some (xs.map (.int .i64)) := by
    rw [q2.cells.readAt, ldrop_eq, ltake_eq, Nat.mul_one, if_pos (by rw [List.length_drop]; omega)]
    congr 1
    apply List.ext_getElem?
    intro j
    rw [List.getElem?_take]
    by_cases hj : j < xs.length
    · rw [if_pos hj, List.getElem?_drop]; exact hcells j hj
    · rw [if_neg hj, List.getElem?_eq_none (by rw [List.length_map]; omega)]
  refine s_append (b := b) (o := 0) (m := 0) (k := k) (f := some 0) (old := []) (xs := xs.map (.int .i64)) hn hg hs (by rw [hx, e1, hk']; rfl) ?_ ?_ (.inl rfl) ?_ fun h' mv => ?_
  · rw [hx, e1, ← hk']; exact hread
  · rw [hat.c.readAt]; rfl
  · rw [Nat.zero_add, ← hk']; omega
  obtain ⟨w', rfl, st4, hwle⟩ := st1.move mv
  rw [List.nil_append] at st4
  have := next w.h.next w' st4
  rw [hk'] at this
  rw [Nat.zero_add]; exact this
end
end Go.Ideal


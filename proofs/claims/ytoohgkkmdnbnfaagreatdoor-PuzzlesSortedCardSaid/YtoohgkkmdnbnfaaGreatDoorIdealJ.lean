/-
  The ideal machine, 50: worlds with frozen blocks, facts, owned blocks; what holds of all of them.
-/
import Derived.Test.YtoohgkkmdnbnfaaGreatDoorIdealH
import Derived.Test.YtoohgkkmdnbnfaaGreatDoorIdealG
set_option linter.unusedSimpArgs false
set_option linter.unusedVariables false
namespace Go.Ideal
variable {P : Program}
structure Wd where
 h : IH
 z : Nat → Prop
 zlt : ∀ i, z i → i < h.next
structure Wd.Le (w w' : Wd) : Prop where
 next : w.h.next ≤ w'.h.next
 z : ∀ i, w.z i → w'.z i
 get : ∀ i, w.z i → w'.h.get i = w.h.get i
theorem Wd.Le.refl (w : Wd) : w.Le w := ⟨Nat.le_refl _, fun _ h => h, fun _ _ => rfl⟩
theorem Wd.Le.trans {w w' w'' : Wd} (a : w.Le w') (b : w'.Le w'') : w.Le w'' :=
 ⟨Nat.le_trans a.next b.next, fun i h => b.z i (a.z i h), fun i h => (b.get i (a.z i h)).trans (a.get i h)⟩
structure Fact where
 p : Wd → Prop
 mono : ∀ {w w' : Wd}, w.Le w' → p w → p w'
def Fz (w : Wd) (b : Nat) (cs : List Value) : Prop := w.z b ∧ (w.h.get b = some (.cells cs) ∨ w.h.get b = some (.roc cs))
theorem Fz.mono {w w' : Wd} (a : w.Le w') {b : Nat} {cs : List Value} (h : Fz w b cs) : Fz w' b cs := ⟨a.z b h.1, by rw [a.get b h.1]; exact h.2⟩
theorem Fz.cells {w : Wd} {b : Nat} {cs : List Value} (h : Fz w b cs) : Cells w.h b cs := ⟨w.zlt b h.1, h.2⟩
def fRaw (b o : Nat) (cs : List Value) : Fact :=
 ⟨fun w => ∃ cells, Fz w b cells ∧ ∀ (j : Nat) u, cs[j]? = some u → cells[o + j]? = some u, fun a ⟨cells, h1, h2⟩ => ⟨cells, h1.mono a, h2⟩⟩
structure Enc (α : Type) where
 n : Nat
 Y : Type
 pat : α → Y → List Value
 fs : α → Y → List Fact
 len : ∀ a y, (pat a y).length = n
def GoodA (n : Nat) : Option Addr → Prop
 | none => True
 | some ⟨_, _, some f⟩ => f = 0 ∨ f = n
 | some ⟨_, _, none⟩ => False
def fSl {α : Type} (E : Enc α) (v : Value) (xs : List α) : Fact :=
 ⟨fun w => (xs = [] ∧ ∃ a c, v = .slice a 0 c ∧ GoodA E.n a) ∨ ∃ i o f c cells, (v = .slice (some ⟨i, o, some f⟩) xs.length c ∧ xs.length ≤ c ∧ (f = 0 ∨ f = E.n)) ∧ Fz w i cells ∧
  ∀ (k : Nat) x, xs[k]? = some x → ∃ y, (∀ (j : Nat) u, (E.pat x y)[j]? = some u → cells[o + k * E.n + j]? = some u) ∧ ∀ f ∈ E.fs x y, f.p w,
  fun a h => by
   rcases h with h | ⟨i, o, f, c, cells, h1, h2, h3⟩
   · exact .inl h
   · refine .inr ⟨i, o, f, c, cells, h1, h2.mono a, fun k x hk => ?_⟩
     obtain ⟨y, q1, q2⟩ := h3 k x hk
     exact ⟨y, q1, fun f hf => f.mono a (q2 f hf)⟩⟩
def intE : Enc Int := ⟨1, Unit, fun x _ => [.int .i64 x], fun _ _ => [], fun _ _ => rfl⟩
def boolE : Enc Bool := ⟨1, Unit, fun x _ => [.bool x], fun _ _ => [], fun _ _ => rfl⟩
def strE : Enc ByteArray := ⟨1, Unit, fun x _ => [.string x], fun _ _ => [], fun _ _ => rfl⟩
def slE {α : Type} (E : Enc α) : Enc (List α) := ⟨1, Value, fun _ v => [v], fun xs v => [fSl E v xs], fun _ _ => rfl⟩
structure OA where
 p : Wd → List Nat → Prop
 loc : ∀ {w w' : Wd} {S : List Nat}, w.Le w' → (∀ i ∈ S, w'.h.get i = w.h.get i) → p w S → p w' S
def pt (b : Nat) (o : IObj) : OA := ⟨fun w S => S = [b] ∧ w.h.get b = some o, fun a h ⟨h1, h2⟩ => ⟨h1, by rw [h b (by rw [h1]; exact List.mem_singleton.2 rfl)]; exact h2⟩⟩
def ap {α : Type} (E : Enc α) (v : Value) (xs : List α) : OA :=
 ⟨fun w S => (xs = [] ∧ v = .slice none 0 0 ∧ S = []) ∨ ∃ b o f cells, v = .slice (some ⟨b, o, some f⟩) xs.length xs.length ∧ (f = 0 ∨ f = E.n) ∧ S = [b] ∧ w.h.get b = some (.cells cells) ∧ cells.length = o + xs.length * E.n ∧
  ∀ (k : Nat) x, xs[k]? = some x → ∃ y, (∀ (j : Nat) u, (E.pat x y)[j]? = some u → cells[o + k * E.n + j]? = some u) ∧ ∀ f ∈ E.fs x y, f.p w,
  fun a h hp => by
   rcases hp with hp | ⟨b, o, f, cells, h1, h2, h3, h4, h5, h6⟩
   · exact .inl hp
   · refine .inr ⟨b, o, f, cells, h1, h2, h3, by rw [h b (by rw [h3]; exact List.mem_singleton.2 rfl)]; exact h4, h5, fun k x hk => ?_⟩
     obtain ⟨y, q1, q2⟩ := h6 k x hk
     exact ⟨y, q1, fun f hf => f.mono a (q2 f hf)⟩⟩
def OwnL (w : Wd) : List OA → List Nat → Prop
 | [], S => S = []
 | A :: kl, S => ∃ S1 S2, A.p w S1 ∧ OwnL w kl S2 ∧ S = S1 ++ S2
theorem OwnL.loc {w w' : Wd} (a : w.Le w') : ∀ {kl : List OA} {S : List Nat}, (∀ i ∈ S, w'.h.get i = w.h.get i) → OwnL w kl S → OwnL w' kl S
 | [], S, _, h => h
 | A :: kl, S, hs, ⟨S1, S2, h1, h2, e⟩ => ⟨S1, S2, A.loc a (fun i hi => hs i (by rw [e]; exact List.mem_append_left _ hi)) h1, OwnL.loc a (fun i hi => hs i (by rw [e]; exact List.mem_append_right _ hi)) h2, e⟩
theorem OwnL.app {w : Wd} : ∀ {k1 k2 : List OA} {S1 S2 : List Nat}, OwnL w k1 S1 → OwnL w k2 S2 → OwnL w (k1 ++ k2) (S1 ++ S2)
 | [], k2, S1, S2, h1, h2 => by
   have h1 : S1 = [] := h1
   subst h1; exact h2
 | A :: k1, k2, _, S2, ⟨T1, T2, q1, q2, e⟩, h2 => ⟨T1, T2 ++ S2, q1, q2.app h2, by rw [e, List.append_assoc]⟩
inductive Sel {α : Type} (A : α) : List α → List α → Prop
 | here {l : List α} : Sel A (A :: l) l
 | there {C : α} {l l' : List α} (h : Sel A l l') : Sel A (C :: l) (C :: l')
inductive SelL {α : Type} : List α → List α → List α → Prop
 | nil {l : List α} : SelL [] l l
 | cons {A : α} {k l l' l'' : List α} (h : Sel A l l') (h2 : SelL k l' l'') : SelL (A :: k) l l''
theorem Sel.app {α : Type} {A : α} {l l' : List α} (h : Sel A l l') : ∀ k : List α, Sel A (k ++ l) (k ++ l')
 | [] => h
 | _ :: k => .there (Sel.app h k)
theorem SelL.self {α : Type} : ∀ k r : List α, SelL k (k ++ r) r
 | [], _ => .nil
 | _ :: k, r => .cons .here (SelL.self k r)
theorem SelL.all {α : Type} (k : List α) : SelL k k [] := by
 have := SelL.self k []
 rwa [List.append_nil] at this
theorem SelL.there {α : Type} {k l l' : List α} (A : α) (h : SelL k l l') : SelL k (A :: l) (A :: l') := by
 induction h with
 | nil => exact .nil
 | cons h1 _ ih => exact .cons (.there h1) ih
theorem OwnL.sel {w : Wd} {A : OA} : ∀ {kl kl' : List OA} {S : List Nat}, Sel A kl kl' → OwnL w kl S → ∃ S', OwnL w (A :: kl') S' ∧ S.Perm S'
 | _, _, S, .here, h => ⟨S, h, .refl _⟩
 | _, _, _, .there s, ⟨S1, S2, h1, h2, e⟩ => by
   obtain ⟨S', ⟨T1, T2, q1, q2, e'⟩, hp⟩ := OwnL.sel s h2
   subst e e'
   refine ⟨T1 ++ (S1 ++ T2), ⟨T1, _, q1, ⟨S1, T2, h1, q2, rfl⟩, rfl⟩, ?_⟩
   have : (S1 ++ S2).Perm (S1 ++ (T1 ++ T2)) := hp.append_left S1
   refine this.trans ?_
   rw [← List.append_assoc, ← List.append_assoc]
   exact List.Perm.append_right T2 List.perm_append_comm
theorem OwnL.selL {w : Wd} : ∀ {k kl kl' : List OA} {S : List Nat}, SelL k kl kl' → OwnL w kl S → ∃ S1 S2, OwnL w k S1 ∧ OwnL w kl' S2 ∧ S.Perm (S1 ++ S2)
 | _, _, _, S, .nil, h => ⟨[], S, rfl, h, .refl _⟩
 | _, _, _, S, .cons s r, h => by
   obtain ⟨S', ⟨T1, T2, q1, q2, e⟩, hp⟩ := h.sel s
   obtain ⟨U1, U2, u1, u2, hu⟩ := OwnL.selL r q2
   subst e
   exact ⟨T1 ++ U1, U2, ⟨T1, U1, q1, u1, rfl⟩, u2, hp.trans (by rw [List.append_assoc]; exact hu.append_left T1)⟩
inductive Sub {α : Type} : List α → List α → Prop
 | nil {l : List α} : Sub [] l
 | cons {a : α} {k l : List α} (h : a ∈ l) (h2 : Sub k l) : Sub (a :: k) l
theorem Sub.mem {α : Type} : ∀ {k l : List α}, Sub k l → ∀ x ∈ k, x ∈ l
 | _, _, .nil, x, hx => by cases hx
 | _, _, .cons h h2, x, hx => by
   cases hx with
   | head => exact h
   | tail _ hx => exact h2.mem x hx
structure AgreeX (B : List Nat) (h h' : IH) : Prop where
 next : h.next ≤ h'.next
 get : ∀ i, i < h.next → i ∉ B → h'.get i = h.get i
 low : h.low ≤ h.next → (∀ b ∈ B, h.low ≤ b) → h'.low = h.low
structure St (B : List Nat) (w0 : Wd) (kl : List OA) (F : List Fact) (w : Wd) : Prop where
 agree : AgreeX B w0.h w.h
 le : w0.Le w
 zold : ∀ i, i < w0.h.next → w.z i → w0.z i ∨ i ∈ B
 own : ∃ S, OwnL w kl S ∧ S.Nodup ∧ ∀ i ∈ S, (w0.h.next ≤ i ∨ i ∈ B) ∧ i < w.h.next ∧ ¬ w.z i
 facts : ∀ f ∈ F, f.p w
section
variable {B : List Nat} {w0 w : Wd} {kl : List OA} {F : List Fact}
theorem St.selL {k kl' : List OA} (s : SelL k kl kl') (h : St B w0 kl F w) : St B w0 (k ++ kl') F w := by
 obtain ⟨S, h1, h2, h3⟩ := h.own
 obtain ⟨S1, S2, q1, q2, hp⟩ := h1.selL s
 exact ⟨h.agree, h.le, h.zold, ⟨S1 ++ S2, q1.app q2, hp.nodup h2, fun i hi => h3 i (hp.mem_iff.2 hi)⟩, h.facts⟩
theorem St.sel {A : OA} {kl' : List OA} (s : Sel A kl kl') (h : St B w0 kl F w) : St B w0 (A :: kl') F w := h.selL (.cons s .nil)
theorem St.drop {k kl' : List OA} (h : St B w0 (k ++ kl') F w) : St B w0 k F w := by
 obtain ⟨S, h1, h2, h3⟩ := h.own
 have : ∀ {k : List OA} {S : List Nat}, OwnL w (k ++ kl') S → ∃ S1 S2, OwnL w k S1 ∧ S = S1 ++ S2 := by
  intro k
  induction k with
  | nil => intro S hS; exact ⟨[], S, rfl, rfl⟩
  | cons A k ih =>
    rintro S ⟨T1, T2, q1, q2, e⟩
    obtain ⟨S1, S2, u1, u2⟩ := ih q2
    exact ⟨T1 ++ S1, S2, ⟨T1, S1, q1, u1, rfl⟩, by rw [e, u2, List.append_assoc]⟩
 obtain ⟨S1, S2, q1, e⟩ := this h1
 subst e
 exact ⟨h.agree, h.le, h.zold, ⟨S1, q1, (List.nodup_append.1 h2).1, fun i hi => h3 i (List.mem_append_left _ hi)⟩, h.facts⟩
theorem St.sub {F' : List Fact} (s : Sub F' F) (h : St B w0 kl F w) : St B w0 kl F' w := ⟨h.agree, h.le, h.zold, h.own, fun f hf => h.facts f (s.mem f hf)⟩
theorem St.add {F' : List Fact} (h : St B w0 kl F w) (hf : ∀ f ∈ F', f.p w) : St B w0 kl (F' ++ F) w :=
 ⟨h.agree, h.le, h.zold, h.own, fun f h1 => (List.mem_append.1 h1).elim (hf f) (h.facts f)⟩
theorem St.get {b : Nat} {o : IObj} (h : St B w0 (pt b o :: kl) F w) : w.h.get b = some o ∧ b < w.h.next ∧ (w0.h.next ≤ b ∨ b ∈ B) := by
 obtain ⟨S, ⟨S1, S2, ⟨e1, q1⟩, _, e⟩, h2, h3⟩ := h.own
 have hb : b ∈ S := by rw [e, e1]; simp
 exact ⟨q1, (h3 b hb).2.1, (h3 b hb).1⟩
theorem St.at_ {b : Nat} {o : IObj} {kl' : List OA} (s : Sel (pt b o) kl kl') (h : St B w0 kl F w) : At w.h b o := ⟨(h.sel s).get.2.1, (h.sel s).get.1⟩
noncomputable def Wd.new (w : Wd) (o : IObj) : Wd := ⟨w.h.new o, w.z, fun i hi => Nat.lt_succ_of_lt (w.zlt i hi)⟩
theorem St.new (h : St B w0 kl F w) (o : IObj) : St B w0 (pt w.h.next o :: kl) F (w.new o) := by
 have hg : ∀ i, i < w.h.next → (w.h.new o).get i = w.h.get i := fun i hi => by rw [IH.get_new, if_neg (by omega)]
 have hle : w.Le (w.new o) := ⟨Nat.le_succ _, fun _ h => h, fun i hi => hg i (w.zlt i hi)⟩
 obtain ⟨S, h1, h2, h3⟩ := h.own
 refine ⟨⟨Nat.le_succ_of_le h.agree.next, fun i hi hb => (hg i (Nat.lt_of_lt_of_le hi h.agree.next)).trans (h.agree.get i hi hb), fun a b => h.agree.low a b⟩, h.le.trans hle, h.zold,
  ⟨[w.h.next] ++ S, ⟨[w.h.next], S, ⟨rfl, by show (w.h.new o).get _ = _; rw [IH.get_new, if_pos rfl]⟩, OwnL.loc hle (fun i hi => hg i (h3 i hi).2.1) h1, rfl⟩, ?_, ?_⟩, fun f hf => f.mono hle (h.facts f hf)⟩
 · refine List.nodup_cons.2 ⟨fun hm => ?_, h2⟩
   have := (h3 _ hm).2.1; omega
 · intro i hi
   rcases List.mem_append.1 hi with hi | hi
   · rw [List.mem_singleton.1 hi]
     exact ⟨.inl h.agree.next, Nat.lt_succ_self _, fun hz => absurd (w.zlt _ hz) (Nat.lt_irrefl _)⟩
   · exact ⟨(h3 i hi).1, Nat.lt_succ_of_lt (h3 i hi).2.1, (h3 i hi).2.2⟩
theorem St.write {b : Nat} {o o' : IObj} (h : St B w0 (pt b o :: kl) F w) : St B w0 (pt b o' :: kl) F ⟨w.h.set b o', w.z, fun i hi => w.zlt i hi⟩ := by
 obtain ⟨S, ⟨S1, S2, ⟨e1, q1⟩, q2, e⟩, h2, h3⟩ := h.own
 subst e e1
 have hb := h3 b (by simp)
 have hn : b ∉ S2 := fun hm => (List.nodup_cons.1 h2).1 hm
 have hg : ∀ i, i ≠ b → (w.h.set b o').get i = w.h.get i := fun i hi => by rw [IH.get_set, if_neg hi]
 have hle : w.Le ⟨w.h.set b o', w.z, fun i hi => w.zlt i hi⟩ := ⟨Nat.le_refl _, fun _ h => h, fun i hi => hg i (fun e => hb.2.2 (e ▸ hi))⟩
 refine ⟨⟨h.agree.next, fun i hi hB => (hg i ?_).trans (h.agree.get i hi hB), fun a c => ?_⟩, h.le.trans hle, h.zold,
  ⟨[b] ++ S2, ⟨[b], S2, ⟨rfl, by show (w.h.set b o').get b = _; rw [IH.get_set, if_pos rfl]⟩, OwnL.loc hle (fun i hi => hg i (fun e => hn (e ▸ hi))) q2, rfl⟩, h2, h3⟩, fun f hf => f.mono hle (h.facts f hf)⟩
 · rcases hb.1 with q | q
   · omega
   · intro e; exact hB (e ▸ q)
 · have hl := h.agree.low a c
   show (w.h.set b o').low = _
   rw [IH.low_set, hl]
   rcases hb.1 with q | q
   · omega
   · have := c b q; omega
theorem St.move {b : Nat} {o o' : IObj} {h' : IH} (h : St B w0 (pt b o :: kl) F w) (m : Moved w.h h' b o') : ∃ w' : Wd, w'.h = h' ∧ St B w0 (pt w.h.next o' :: kl) F w' ∧ w.Le w' := by
 obtain ⟨S, ⟨S1, S2, ⟨e1, q1⟩, q2, e⟩, h2, h3⟩ := h.own
 subst e e1
 have hb := h3 b (by simp)
 have hn : b ∉ S2 := fun hm => (List.nodup_cons.1 h2).1 hm
 let w' : Wd := ⟨h', w.z, fun i hi => by rw [m.next]; exact Nat.lt_succ_of_lt (w.zlt i hi)⟩
 have hle : w.Le w' := ⟨by show _ ≤ h'.next; rw [m.next]; exact Nat.le_succ _, fun _ h => h, fun i hi => m.get i (w.zlt i hi) (fun e => hb.2.2 (e ▸ hi))⟩
 refine ⟨w', rfl, ⟨⟨by show _ ≤ h'.next; rw [m.next]; exact Nat.le_succ_of_le h.agree.next, fun i hi hB => (m.get i (Nat.lt_of_lt_of_le hi h.agree.next) ?_).trans (h.agree.get i hi hB), fun a c => ?_⟩, h.le.trans hle, h.zold,
  ⟨[w.h.next] ++ S2, ⟨[w.h.next], S2, ⟨rfl, m.at_.2⟩, OwnL.loc hle (fun i hi => m.get i (h3 i (by simp [hi])).2.1 (fun e => hn (e ▸ hi))) q2, rfl⟩, ?_, ?_⟩, fun f hf => f.mono hle (h.facts f hf)⟩, hle⟩
 · rcases hb.1 with q | q
   · omega
   · intro e; exact hB (e ▸ q)
 · have hl := h.agree.low a c
   rw [← hl]
   refine m.low ?_
   rw [hl]
   rcases hb.1 with q | q
   · omega
   · exact c b q
 · refine List.nodup_cons.2 ⟨fun hm => ?_, (List.nodup_cons.1 h2).2⟩
   have := (h3 _ (List.mem_cons_of_mem _ hm)).2.1; omega
 · intro i hi
   have hnx : w'.h.next = w.h.next + 1 := m.next
   rcases List.mem_append.1 hi with hi | hi
   · rw [List.mem_singleton.1 hi]
     exact ⟨.inl h.agree.next, by omega, fun hz => absurd (w.zlt _ hz) (Nat.lt_irrefl _)⟩
   · have := h3 i (by simp [hi])
     exact ⟨this.1, by omega, this.2.2⟩
theorem St.turnA {A A' : OA} (hA : ∀ w S, A.p w S → A'.p w S) (h : St B w0 (A :: kl) F w) : St B w0 (A' :: kl) F w := by
 obtain ⟨S, ⟨S1, S2, q1, q2, e⟩, h2, h3⟩ := h.own
 exact ⟨h.agree, h.le, h.zold, ⟨S, ⟨S1, S2, hA w S1 q1, q2, e⟩, h2, h3⟩, h.facts⟩
theorem St.turnA' {A A' : OA} (h : St B w0 (A :: kl) F w) (hA : ∀ S, A.p w S → A'.p w S) : St B w0 (A' :: kl) F w := by
 obtain ⟨S, ⟨S1, S2, q1, q2, e⟩, h2, h3⟩ := h.own
 exact ⟨h.agree, h.le, h.zold, ⟨S, ⟨S1, S2, hA S1 q1, q2, e⟩, h2, h3⟩, h.facts⟩
theorem St.tail {A : OA} (h : St B w0 (A :: kl) F w) : St B w0 kl F w := by
 obtain ⟨S, ⟨S1, S2, q1, q2, e⟩, h2, h3⟩ := h.own
 subst e
 exact ⟨h.agree, h.le, h.zold, ⟨S2, q2, (List.nodup_append.1 h2).2.1, fun i hi => h3 i (List.mem_append_right _ hi)⟩, h.facts⟩
def Frz (A : OA) (fs : List Fact) : Prop := ∀ (w w' : Wd) S, A.p w S → w.Le w' → w'.h = w.h → (∀ i ∈ S, w'.z i) → ∀ f ∈ fs, f.p w'
theorem St.freeze {A : OA} {fs : List Fact} (hA : Frz A fs) (h : St B w0 (A :: kl) F w) : ∃ w', w'.h = w.h ∧ St B w0 kl (fs ++ F) w' := by
 obtain ⟨S, ⟨S1, S2, q1, q2, e⟩, h2, h3⟩ := h.own
 subst e
 let w' : Wd := ⟨w.h, fun i => w.z i ∨ i ∈ S1, fun i hi => hi.elim (w.zlt i) fun hi => (h3 i (List.mem_append_left _ hi)).2.1⟩
 have hle : w.Le w' := ⟨Nat.le_refl _, fun i hi => .inl hi, fun _ _ => rfl⟩
 have hnd := List.nodup_append.1 h2
 refine ⟨w', rfl, h.agree, h.le.trans hle, fun i hi hz => ?_, ⟨S2, OwnL.loc hle (fun _ _ => rfl) q2, hnd.2.1, fun i hi => ?_⟩, fun f hf => ?_⟩
 · rcases hz with hz | hz
   · exact h.zold i hi hz
   · rcases (h3 i (List.mem_append_left _ hz)).1 with q | q
     · omega
     · exact .inr q
 · have := h3 i (List.mem_append_right _ hi)
   refine ⟨this.1, this.2.1, fun hz => hz.elim this.2.2 fun hm => ?_⟩
   exact hnd.2.2 i hm i hi rfl
 · rcases List.mem_append.1 hf with hf | hf
   · exact hA w w' S1 q1 hle rfl (fun i hi => .inr hi) f hf
   · exact f.mono hle (h.facts f hf)
theorem frz_ap {α : Type} {E : Enc α} {v : Value} {xs : List α} : Frz (ap E v xs) [fSl E v xs] := by
 intro w w' S hp hle hh hz f hf
 rw [List.mem_singleton.1 hf]
 rcases hp with ⟨h1, h2, _⟩ | ⟨b, o, f, cells, h1, h2, h3, h4, h5, h6⟩
 · exact .inl ⟨h1, none, 0, h2, trivial⟩
 · refine .inr ⟨b, o, f, _, cells, ⟨h1, Nat.le_refl _, h2⟩, ⟨hz b (by rw [h3]; exact List.mem_singleton.2 rfl), .inl (by rw [hh]; exact h4)⟩, fun k x hk => ?_⟩
   obtain ⟨y, q1, q2⟩ := h6 k x hk
   exact ⟨y, q1, fun f hf => f.mono hle (q2 f hf)⟩
theorem frz_pt {b : Nat} {cs : List Value} : Frz (pt b (.cells cs)) [fRaw b 0 cs] := by
 intro w w' S ⟨h1, h2⟩ hle hh hz f hf
 rw [List.mem_singleton.1 hf]
 exact ⟨cs, ⟨hz b (by rw [h1]; exact List.mem_singleton.2 rfl), .inl (by rw [hh]; exact h2)⟩, fun j u hj => by rw [Nat.zero_add]; exact hj⟩
theorem frz_ints {b f c : Nat} {xs : List Int} (hc : xs.length ≤ c := by first | exact Nat.le_refl _ | omega) (hf : f = 0 ∨ f = 1 := by first | exact .inl rfl | exact .inr rfl) : Frz (pt b (.cells (xs.map (.int .i64)))) [fSl intE (.slice (some ⟨b, 0, some f⟩) xs.length c) xs] := by
 intro w w' S ⟨h1, h2⟩ hle hh hz g hg
 rw [List.mem_singleton.1 hg]
 refine .inr ⟨b, 0, f, c, _, ⟨rfl, hc, hf⟩, ⟨hz b (by rw [h1]; exact List.mem_singleton.2 rfl), .inl (by rw [hh]; exact h2)⟩, fun k x hk => ⟨(), fun j u hj => ?_, fun f hf => by cases hf⟩⟩
 match j, hj with
 | 0, hj =>
   cases hj
   simp [intE, hk]
end
end Go.Ideal
namespace Go.Ideal
variable {P : Program}
def R (Q : IH → Prop) (B : List Nat) (w0 : Wd) (kl : List OA) (F : List Fact) : Prop := ∀ w, St B w0 kl F w → Q w.h
structure Red (G G' : Prop) : Prop where
 h : G' → G
theorem Red.refl (G : Prop) : Red G G := ⟨id⟩
theorem Red.trans {A B C : Prop} (a : Red A B) (b : Red B C) : Red A C := ⟨fun c => a.h (b.h c)⟩
theorem Red.all {X : Type} {A B : X → Prop} (h : ∀ x, Red (A x) (B x)) : Red (∀ x, A x) (∀ x, B x) := ⟨fun b x => (h x).h (b x)⟩
theorem Red.imp {p A B : Prop} (h : Red A B) : Red (p → A) (p → B) := ⟨fun b x => h.h (b x)⟩
def Pu (P : Program) (ρ : Operand → Value) (op : COp) (v : Value) : Prop := ∀ h, op.run P ρ h = some (v, h)
inductive EvL (ρ : Operand → Value) : List Operand → List Value → Prop
 | nil : EvL ρ [] []
 | cons {x : Operand} {v : Value} {xs : List Operand} {vs : List Value} (h : ρ x = v) (t : EvL ρ xs vs) : EvL ρ (x :: xs) (v :: vs)
theorem EvL.map {ρ : Operand → Value} : ∀ {xs : List Operand} {vs : List Value}, EvL ρ xs vs → xs.map ρ = vs
 | _, _, .nil => rfl
 | _, _, .cons h t => by rw [List.map_cons, h, t.map]
section
variable {ρ : Operand → Value}
theorem p_mv {x : Operand} {v : Value} (hx : ρ x = v) : Pu P ρ (.mv x) v := fun h => by simp only [COp.run, hx]
theorem p_asg {x : Operand} {v : Value} (hx : ρ x = v) : Pu P ρ (.asg x) v := fun h => by simp only [COp.run, hx]
theorem p_pickT {c x y : Operand} {v : Value} (hc : ρ c = .bool true) (hx : ρ x = v) : Pu P ρ (.pick c x y) v := fun h => by simp only [COp.run, hc, hx, cond]
theorem p_pickF {c x y : Operand} {v : Value} (hc : ρ c = .bool false) (hx : ρ y = v) : Pu P ρ (.pick c x y) v := fun h => by simp only [COp.run, hc, hx, cond]
theorem p_not {x : Operand} {b : Bool} (hx : ρ x = .bool b) : Pu P ρ (.un .not x) (.bool !b) := fun h => by simp only [COp.run, hx]; rfl
theorem p_len {x : Operand} {a : Option Addr} {m c : Nat} (hx : ρ x = .slice a m c) : Pu P ρ (.lenSl x) (.int .i64 (m : Int)) := fun h => by simp only [COp.run, hx, goInt_ofNat]
theorem p_lenArr {n : Nat} : Pu P ρ (.lenArr n) (.int .i64 (n : Int)) := fun h => rfl
theorem p_lss {x y : Operand} {t : TypeId} {a b : Int} (hx : ρ x = .int .i64 a) (hy : ρ y = .int .i64 b) : Pu P ρ (.bin .lss t x y) (.bool (decide (a < b))) := fun h => by
 simp only [COp.run, hx, hy]; rw [binI_int (v := .bool (decide (a < b)))]; simp [intI, leZ_iff, ← Int.not_le]
theorem p_leq {x y : Operand} {t : TypeId} {a b : Int} (hx : ρ x = .int .i64 a) (hy : ρ y = .int .i64 b) : Pu P ρ (.bin .leq t x y) (.bool (decide (a ≤ b))) := fun h => by
 simp only [COp.run, hx, hy]; rw [binI_int (v := .bool (decide (a ≤ b)))]; simp [intI, leZ_iff]
theorem p_gtr {x y : Operand} {t : TypeId} {a b : Int} (hx : ρ x = .int .i64 a) (hy : ρ y = .int .i64 b) : Pu P ρ (.bin .gtr t x y) (.bool (decide (b < a))) := fun h => by
 simp only [COp.run, hx, hy]; rw [binI_int (v := .bool (decide (b < a)))]; simp [intI, leZ_iff, ← Int.not_le]
theorem p_geq {x y : Operand} {t : TypeId} {a b : Int} (hx : ρ x = .int .i64 a) (hy : ρ y = .int .i64 b) : Pu P ρ (.bin .geq t x y) (.bool (decide (b ≤ a))) := fun h => by
 simp only [COp.run, hx, hy]; rw [binI_int (v := .bool (decide (b ≤ a)))]; simp [intI, leZ_iff]
theorem p_eql {x y : Operand} {t : TypeId} {a b : Int} (hx : ρ x = .int .i64 a) (hy : ρ y = .int .i64 b) : Pu P ρ (.bin .eql t x y) (.bool (decide (a = b))) := fun h => by
 simp only [COp.run, hx, hy]; rw [binI_int (v := .bool (decide (a = b)))]; simp [intI, eqZ_iff]; rfl
theorem p_neq {x y : Operand} {t : TypeId} {a b : Int} (hx : ρ x = .int .i64 a) (hy : ρ y = .int .i64 b) : Pu P ρ (.bin .neq t x y) (.bool (decide (a ≠ b))) := fun h => by
 simp only [COp.run, hx, hy]; rw [binI_int (v := .bool (decide (a ≠ b)))]; simp [intI, eqZ_iff]; rfl
theorem p_add {x y : Operand} {t : TypeId} {a b : Int} (hx : ρ x = .int .i64 a) (hy : ρ y = .int .i64 b) (h1 : -9223372036854775808 ≤ a + b) (h2 : a + b < 9223372036854775808) : Pu P ρ (.bin .add t x y) (.int .i64 (a + b)) := fun h => by
 simp only [COp.run, hx, hy]; rw [binI_int (v := .int .i64 (a + b))]; simp only [intI, addZ_eq, wrap_in h1 h2]
theorem p_sub {x y : Operand} {t : TypeId} {a b : Int} (hx : ρ x = .int .i64 a) (hy : ρ y = .int .i64 b) (h1 : -9223372036854775808 ≤ a - b) (h2 : a - b < 9223372036854775808) : Pu P ρ (.bin .sub t x y) (.int .i64 (a - b)) := fun h => by
 simp only [COp.run, hx, hy]; rw [binI_int (v := .int .i64 (a - b))]; simp only [intI, subZ_eq, wrap_in h1 h2]
theorem p_extract {x : Operand} {i : Nat} {vs : List Value} {v : Value} (hx : ρ x = .tuple ⟨vs⟩) (hv : lget vs i = some v) : Pu P ρ (.extract x i) v := fun h => by simp only [COp.run, hx, hv]
theorem p_fieldA {x : Operand} {off b o : Nat} (hx : ρ x = .pointer (some ⟨b, o, none⟩)) : Pu P ρ (.fieldA off x) (.pointer (some ⟨b, o + off, none⟩)) := fun h => by simp only [COp.run, hx]; rfl
theorem p_field1 {t : TypeId} {off n : Nat} {x : Operand} {cs : List Value} {v : Value} (hx : ρ x = .agg ⟨cs⟩) (hv : lget cs off = some v) : Pu P ρ (.field t off n false x) v := fun h => by simp only [COp.run, hx, hv]
theorem p_fieldN {t : TypeId} {off n : Nat} {x : Operand} {cs r : List Value} (hx : ρ x = .agg ⟨cs⟩) (hv : ltake (ldrop cs off) n = some r) : Pu P ρ (.field t off n true x) (.agg ⟨r⟩) := fun h => by simp only [COp.run, hx, hv]
theorem p_iface {x : Operand} {t : TypeId} {v : Value} (hx : ρ x = v) : Pu P ρ (.iface t x) (.iface t v) := fun h => by simp only [COp.run, hx]
theorem p_tassert {t : TypeId} {zero v : Value} {x : Operand} (hx : ρ x = .iface t v) : Pu P ρ (.tassert t zero false x) v := fun h => by
 simp only [COp.run, hx]; show cond (Nat.beq t t) _ _ = _; rw [Nat.beq_refl]; rfl
theorem p_build {zero cs : List Value} {parts : List (Nat × Nat × Operand)} (hx : fillI ρ zero parts = some cs) : Pu P ρ (.build zero parts) (.agg ⟨cs⟩) := fun h => by simp only [COp.run, hx]
theorem p_nilck {x : Operand} {a : Addr} (hx : ρ x = .pointer (some a)) : Pu P ρ (.nilck x) (.pointer (some a)) := fun h => by simp only [COp.run, hx]
theorem p_nilckF {x : Operand} {f : FuncId} {a b : Array Value} (hx : ρ x = .func (.func f) a b) : Pu P ρ (.nilck x) (.func (.func f) a b) := fun h => by simp only [COp.run, hx]
theorem p_mkfunc {fn : Fn} {first captured : List Operand} {a b : List Value} (h1 : EvL ρ first a) (h2 : EvL ρ captured b) : Pu P ρ (.mkfunc fn first captured) (.func fn ⟨a⟩ ⟨b⟩) := fun h => by
 simp only [COp.run, lmap_eq, h1.map, h2.map]
theorem p_idx {x i : Operand} {size b o m c : Nat} {f : Option Nat} {k : Int} {kk : IntKind} (hx : ρ x = .slice (some ⟨b, o, f⟩) m c) (hi : ρ i = .int kk k) (h0 : 0 ≤ k) (h1 : k < m) :
 Pu P ρ (.idxSl size x i) (.pointer (some ⟨b, o + k.toNat * size, none⟩)) := fun h => by
 obtain ⟨j, rfl⟩ := Int.eq_ofNat_of_zero_le h0
 simp only [COp.run, hx, hi]
 show cond (Nat.blt j m) _ _ = _
 rw [blt_t (by omega)]; rfl
theorem p_idxK {x i : Operand} {size b o m c k : Nat} {f : Option Nat} {kk : IntKind} (hx : ρ x = .slice (some ⟨b, o, f⟩) m c) (hi : ρ i = .int kk (.ofNat k)) (h1 : Nat.blt k m = true) :
 Pu P ρ (.idxSl size x i) (.pointer (some ⟨b, o + k * size, none⟩)) := fun h => by
 simp only [COp.run, hx, hi, h1]; rfl
theorem p_idxArr {x i : Operand} {m size b o : Nat} {k : Int} {kk : IntKind} (hx : ρ x = .pointer (some ⟨b, o, none⟩)) (hi : ρ i = .int kk k) (h0 : 0 ≤ k) (h1 : k < m) :
 Pu P ρ (.idxArr m size x i) (.pointer (some ⟨b, o + k.toNat * size, none⟩)) := fun h => by
 obtain ⟨j, rfl⟩ := Int.eq_ofNat_of_zero_le h0
 simp only [COp.run, hx, hi]
 show cond (Nat.blt j m) _ _ = _
 rw [blt_t (by omega)]; rfl
end
section
variable {B : List Nat} {w0 : Wd} {kl kl' : List OA} {F : List Fact} {a : IAct} {K : KO}
theorem rd_seq {x y : CCode} : Red (R (fun h => EV P (.seq x y) a h K) B w0 kl F) (R (fun h => EV P x a h (seqK P y K)) B w0 kl F) := ⟨fun r w s => w_seq (r w s)⟩
theorem rd_block {id : Nat} {c : CCode} : Red (R (fun h => EV P (.block id c) a h K) B w0 kl F) (R (fun h => EV P c a h (blockK id K)) B w0 kl F) := ⟨fun r w s => w_block (r w s)⟩
theorem rd_ops {ds : List Tmp} {l : List PStep} : Red (R (fun h => EV P (.ops ds l) a h K) B w0 kl F) (R (fun h => OPS P ds l a h K) B w0 kl F) := ⟨fun r w s => .ops (r w s)⟩
theorem rd_scope {c : CCode} : Red (R (fun h => EV P (.scope c) a h K) B w0 kl F) (R (fun h => EV P c a h K) B w0 kl F) := ⟨fun r w s => .scope (r w s)⟩
theorem rd_skip : Red (R (fun h => EV P .skip a h K) B w0 kl F) (R (fun h => K .normal a h) B w0 kl F) := ⟨fun r w s => .skip (r w s)⟩
theorem rd_exit {id : Nat} : Red (R (fun h => EV P (.exit id) a h K) B w0 kl F) (R (fun h => K (.exit id) a h) B w0 kl F) := ⟨fun r w s => .exit (r w s)⟩
theorem rd_ret : Red (R (fun h => EV P .ret a h K) B w0 kl F) (R (fun h => K .ret a h) B w0 kl F) := ⟨fun r w s => .ret (r w s)⟩
theorem rd_nil {ds : List Tmp} : Red (R (fun h => OPS P ds [] a h K) B w0 kl F) (R (fun h => K .normal a h) B w0 kl F) := ⟨fun r w s => .nil (r w s)⟩
variable {y : CCode} {i j m0 : Nat} {I : Nat → IAct → IH → Prop} {ch : List PanicEntry}
theorem rd_sn : Red (R (fun h => seqK P y K .normal a h) B w0 kl F) (R (fun h => EV P y a h K) B w0 kl F) := ⟨fun r w s => r w s⟩
theorem rd_sr : Red (R (fun h => seqK P y K .ret a h) B w0 kl F) (R (fun h => K .ret a h) B w0 kl F) := ⟨fun r w s => r w s⟩
theorem rd_se : Red (R (fun h => seqK P y K (.exit j) a h) B w0 kl F) (R (fun h => K (.exit j) a h) B w0 kl F) := ⟨fun r w s => r w s⟩
theorem rd_sp : Red (R (fun h => seqK P y K (.panic ch) a h) B w0 kl F) (R (fun h => K (.panic ch) a h) B w0 kl F) := ⟨fun r w s => r w s⟩
theorem rd_bn : Red (R (fun h => blockK i K .normal a h) B w0 kl F) (R (fun h => K .normal a h) B w0 kl F) := ⟨fun r w s => r w s⟩
theorem rd_br : Red (R (fun h => blockK i K .ret a h) B w0 kl F) (R (fun h => K .ret a h) B w0 kl F) := ⟨fun r w s => r w s⟩
theorem rd_bp : Red (R (fun h => blockK i K (.panic ch) a h) B w0 kl F) (R (fun h => K (.panic ch) a h) B w0 kl F) := ⟨fun r w s => r w s⟩
theorem rd_be (e : Nat.beq j i = true) : Red (R (fun h => blockK i K (.exit j) a h) B w0 kl F) (R (fun h => K .normal a h) B w0 kl F) := ⟨fun r w s => k_be e (r w s)⟩
theorem rd_bf (e : Nat.beq j i = false) : Red (R (fun h => blockK i K (.exit j) a h) B w0 kl F) (R (fun h => K (.exit j) a h) B w0 kl F) := ⟨fun r w s => k_bf e (r w s)⟩
theorem rd_lr : Red (R (fun h => loopK I m0 K .ret a h) B w0 kl F) (R (fun h => K .ret a h) B w0 kl F) := ⟨fun r w s => r w s⟩
theorem rd_le : Red (R (fun h => loopK I m0 K (.exit j) a h) B w0 kl F) (R (fun h => K (.exit j) a h) B w0 kl F) := ⟨fun r w s => r w s⟩
theorem rd_lp : Red (R (fun h => loopK I m0 K (.panic ch) a h) B w0 kl F) (R (fun h => K (.panic ch) a h) B w0 kl F) := ⟨fun r w s => r w s⟩
end
section
variable {B : List Nat} {w0 : Wd} {kl kl' : List OA} {F : List Fact} {K : KO} {ds : List Tmp} {rest : List PStep} {n : Nat} {l : List (Nat × Value)} {D : List Deferred} {pm : Option FrameMode} {ro : Option Nat} {d : Nat} {g : Option (Tmp × Bool)}
theorem rd_condT {c : Operand} {x y : CCode} (hc : ev l c = .bool true) : Red (R (fun h => EV P (.cond c x y) (act n l D pm ro) h K) B w0 kl F) (R (fun h => EV P x (act n l D pm ro) h K) B w0 kl F) :=
 ⟨fun r w s => w_cond true hc (fun _ => r w s) (fun e => by cases e)⟩
theorem rd_condF {c : Operand} {x y : CCode} (hc : ev l c = .bool false) : Red (R (fun h => EV P (.cond c x y) (act n l D pm ro) h K) B w0 kl F) (R (fun h => EV P y (act n l D pm ro) h K) B w0 kl F) :=
 ⟨fun r w s => w_cond false hc (fun e => by cases e) (fun _ => r w s)⟩
theorem if_d {c : Operand} {x y : CCode} {p : Prop} [Decidable p] (hc : ev l c = .bool (decide p)) (h1 : p → R (fun h => EV P x (act n l D pm ro) h K) B w0 kl F) (h2 : ¬ p → R (fun h => EV P y (act n l D pm ro) h K) B w0 kl F) :
 R (fun h => EV P (.cond c x y) (act n l D pm ro) h K) B w0 kl F :=
 fun w s => w_cond _ hc (fun e => h1 (of_decide_eq_true e) w s) (fun e => h2 (of_decide_eq_false e) w s)
theorem if_n {c : Operand} {x y : CCode} {p : Prop} [Decidable p] (hc : ev l c = .bool (!decide p)) (h1 : ¬ p → R (fun h => EV P x (act n l D pm ro) h K) B w0 kl F) (h2 : p → R (fun h => EV P y (act n l D pm ro) h K) B w0 kl F) :
 R (fun h => EV P (.cond c x y) (act n l D pm ro) h K) B w0 kl F :=
 fun w s => w_cond _ hc (fun e => h1 (by simpa using e) w s) (fun e => h2 (by simpa using e) w s)
theorem d_skip {op : COp} {re : List CStep} (hn : Nat.blt d n = true) (hg : gskip l g = true) : Red (R (fun h => OPS P ds (⟨⟨some d, g, op⟩, re⟩ :: rest) (act n l D pm ro) h K) B w0 kl F) (R (fun h => OPS P ds rest (act n ((d, skipV) :: l) D pm ro) h K) B w0 kl F) :=
 ⟨fun r w s => s_skip hn hg (r w s)⟩
theorem d_p {op : COp} {v : Value} (hn : Nat.blt d n = true) (hg : gok l g = true) (hp : Pu P (ev l) op v) : Red (R (fun h => OPS P ds (⟨⟨some d, g, op⟩, []⟩ :: rest) (act n l D pm ro) h K) B w0 kl F) (R (fun h => OPS P ds rest (act n ((d, v) :: l) D pm ro) h K) B w0 kl F) :=
 ⟨fun r w s => s_run hn hg (hp w.h) (r w s)⟩
abbrev ptr' (b : Nat) : Value := .pointer (some ⟨b, 0, none⟩)
theorem d_new {cs : List Value} {t : TypeId} (hn : Nat.blt d n = true) (hg : gok l g = true) : Red (R (fun h => OPS P ds (⟨⟨some d, g, .new cs t⟩, []⟩ :: rest) (act n l D pm ro) h K) B w0 kl F)
 (∀ b, R (fun h => OPS P ds rest (act n ((d, .pointer (some ⟨b, 0, none⟩)) :: l) D pm ro) h K) B w0 (pt b (.cells cs) :: kl) F) :=
 ⟨fun r w s => s_run hn hg (h' := w.h.new (.cells cs)) (by simp only [COp.run, COp.alloc, allocI]) (r w.h.next (w.new _) (s.new _))⟩
theorem d_box {x : Operand} {t : TypeId} {cs : List Value} (hn : Nat.blt d n = true) (hg : gok l g = true) (hx : cellsOf (ev l x) = some cs) : Red (R (fun h => OPS P ds (⟨⟨some d, g, .box x t⟩, []⟩ :: rest) (act n l D pm ro) h K) B w0 kl F)
 (∀ b, R (fun h => OPS P ds rest (act n ((d, .pointer (some ⟨b, 0, none⟩)) :: l) D pm ro) h K) B w0 (pt b (.cells cs) :: kl) F) :=
 ⟨fun r w s => s_run hn hg (h' := w.h.new (.cells cs)) (by simp only [COp.run, COp.alloc, allocI, hx]) (r w.h.next (w.new _) (s.new _))⟩
theorem d_bslice {t : TypeId} {len : Nat} {zero cs : List Value} {parts : List (Nat × Nat × Operand)} (hn : Nat.blt d n = true) (hg : gok l g = true) (hx : fillI (ev l) zero parts = some cs) :
 Red (R (fun h => OPS P ds (⟨⟨some d, g, .bslice t len zero parts⟩, []⟩ :: rest) (act n l D pm ro) h K) B w0 kl F)
 (∀ b, R (fun h => OPS P ds rest (act n ((d, .slice (some ⟨b, 0, some 0⟩) len len) :: l) D pm ro) h K) B w0 (pt b (.cells cs) :: kl) F) :=
 ⟨fun r w s => s_run hn hg (h' := w.h.new (.cells cs)) (by simp only [COp.run, COp.alloc, allocI, hx, exactA]) (r w.h.next (w.new _) (s.new _))⟩
theorem d_load {x : Operand} {b o : Nat} {cs : List Value} {v : Value} (hn : Nat.blt d n = true) (hg : gok l g = true) (hx : ev l x = .pointer (some ⟨b, o, none⟩)) (hk : Sel (pt b (.cells cs)) kl kl') (hv : lget cs o = some v) :
 Red (R (fun h => OPS P ds (⟨⟨some d, g, .load1 x⟩, []⟩ :: rest) (act n l D pm ro) h K) B w0 kl F) (R (fun h => OPS P ds rest (act n ((d, v) :: l) D pm ro) h K) B w0 kl F) :=
 ⟨fun r w s => s_load1 hn hg hx (s.at_ hk) (by rw [← lget_eq]; exact hv) (r w s)⟩
theorem d_loadN {x : Operand} {b o m : Nat} {cs c : List Value} (hn : Nat.blt d n = true) (hg : gok l g = true) (hx : ev l x = .pointer (some ⟨b, o, none⟩)) (hk : Sel (pt b (.cells cs)) kl kl') (hv : ltake (ldrop cs o) m = some c) :
 Red (R (fun h => OPS P ds (⟨⟨some d, g, .loadN m x⟩, []⟩ :: rest) (act n l D pm ro) h K) B w0 kl F) (R (fun h => OPS P ds rest (act n ((d, .agg ⟨c⟩) :: l) D pm ro) h K) B w0 kl F) :=
 ⟨fun r w s => s_loadN hn hg hx (s.at_ hk) hv (r w s)⟩
theorem raw_get {w : Wd} {b o j : Nat} {cs : List Value} {v : Value} (h : (fRaw b o cs).p w) (hv : lget cs j = some v) : w.h.read1 b (o + j) = some v := by
 obtain ⟨cells, h1, h2⟩ := h
 rw [h1.cells.read1]
 exact h2 j v (by rw [← lget_eq]; exact hv)
theorem raw_getN {w : Wd} {b o j m : Nat} {cs c : List Value} (h : (fRaw b o cs).p w) (hv : ltake (ldrop cs j) m = some c) : w.h.readAt b (o + j) m = some c := by
 obtain ⟨cells, h1, h2⟩ := h
 rw [h1.cells.readAt]
 rw [ltake_eq, ldrop_eq] at hv ⊢
 split at hv
 · rename_i hm
   cases hv
   rw [List.length_drop] at hm
   have key : ∀ i, i < m → cells[o + j + i]? = cs[j + i]? := fun i hi => by
    have hlt : j + i < cs.length := by omega
    rw [Nat.add_assoc, List.getElem?_eq_getElem hlt]
    exact h2 (j + i) _ (List.getElem?_eq_getElem hlt)
   have hlen : m = 0 ∨ o + j + m ≤ cells.length := by
    rcases Nat.eq_zero_or_pos m with e | e
    · exact .inl e
    · right
      have := key (m - 1) (by omega)
      rw [List.getElem?_eq_getElem (show j + (m - 1) < cs.length by omega)] at this
      have := (List.getElem?_eq_some_iff.1 this).1
      omega
   rw [if_pos (by rw [List.length_drop]; omega)]
   congr 1
   apply List.ext_getElem?
   intro i
   rw [List.getElem?_take, List.getElem?_take]
   by_cases hi : i < m
   · rw [if_pos hi, if_pos hi, List.getElem?_drop, List.getElem?_drop]; exact key i hi
   · rw [if_neg hi, if_neg hi]
 · cases hv
theorem d_loadF {x : Operand} {b o : Nat} {cs : List Value} {v : Value} (hn : Nat.blt d n = true) (hg : gok l g = true) (hx : ev l x = .pointer (some ⟨b, o, none⟩)) (hk : fRaw b o cs ∈ F) (hv : lget cs 0 = some v) :
 Red (R (fun h => OPS P ds (⟨⟨some d, g, .load1 x⟩, []⟩ :: rest) (act n l D pm ro) h K) B w0 kl F) (R (fun h => OPS P ds rest (act n ((d, v) :: l) D pm ro) h K) B w0 kl F) :=
 ⟨fun r w s => s_run hn hg (by simp only [COp.run, hx, show w.h.read1 b o = some v from raw_get (j := 0) (s.facts _ hk) hv]) (r w s)⟩
theorem d_loadFj {x : Operand} {b o j : Nat} {cs : List Value} {v : Value} (hn : Nat.blt d n = true) (hg : gok l g = true) (hx : ev l x = .pointer (some ⟨b, o + j, none⟩)) (hk : fRaw b o cs ∈ F) (hv : lget cs j = some v) :
 Red (R (fun h => OPS P ds (⟨⟨some d, g, .load1 x⟩, []⟩ :: rest) (act n l D pm ro) h K) B w0 kl F) (R (fun h => OPS P ds rest (act n ((d, v) :: l) D pm ro) h K) B w0 kl F) :=
 ⟨fun r w s => s_run hn hg (by simp only [COp.run, hx, raw_get (s.facts _ hk) hv]) (r w s)⟩
theorem d_loadNF {x : Operand} {b o m : Nat} {cs c : List Value} (hn : Nat.blt d n = true) (hg : gok l g = true) (hx : ev l x = .pointer (some ⟨b, o, none⟩)) (hk : fRaw b o cs ∈ F) (hv : ltake cs m = some c) :
 Red (R (fun h => OPS P ds (⟨⟨some d, g, .loadN m x⟩, []⟩ :: rest) (act n l D pm ro) h K) B w0 kl F) (R (fun h => OPS P ds rest (act n ((d, .agg ⟨c⟩) :: l) D pm ro) h K) B w0 kl F) :=
 ⟨fun r w s => s_run hn hg (by simp only [COp.run, hx, show w.h.readAt b o m = some c from raw_getN (j := 0) (s.facts _ hk) (by rw [ldrop_eq]; exact hv)]) (r w s)⟩
theorem d_loadNFj {x : Operand} {b o j m : Nat} {cs c : List Value} (hn : Nat.blt d n = true) (hg : gok l g = true) (hx : ev l x = .pointer (some ⟨b, o + j, none⟩)) (hk : fRaw b o cs ∈ F) (hv : ltake (ldrop cs j) m = some c) :
 Red (R (fun h => OPS P ds (⟨⟨some d, g, .loadN m x⟩, []⟩ :: rest) (act n l D pm ro) h K) B w0 kl F) (R (fun h => OPS P ds rest (act n ((d, .agg ⟨c⟩) :: l) D pm ro) h K) B w0 kl F) :=
 ⟨fun r w s => s_run hn hg (by simp only [COp.run, hx, raw_getN (s.facts _ hk) hv]) (r w s)⟩
theorem d_store {x y : Operand} {b o m : Nat} {cs vs c : List Value} (hg : gok l g = true) (hx : ev l x = .pointer (some ⟨b, o, none⟩)) (hy : cellsOf (ev l y) = some vs) (hm : Nat.beq (llen vs) m = true)
 (hk : Sel (pt b (.cells cs)) kl kl') (hv : lover cs o vs = some c) :
 Red (R (fun h => OPS P ds (⟨⟨none, g, .store m x y⟩, []⟩ :: rest) (act n l D pm ro) h K) B w0 kl F) (R (fun h => OPS P ds rest (act n l D pm ro) h K) B w0 (pt b (.cells c) :: kl') F) :=
 ⟨fun r w s => s_run0 hg (v := unk) (h' := w.h.set b (.cells c)) (by simp only [COp.run, hx, hy, hm]; simp only [IH.storeAt, (s.at_ hk).2, hv]; rfl) (r _ ((s.sel hk).write))⟩
theorem sl_form {α : Type} {E : Enc α} {v : Value} {xs : List α} {w : Wd} (h : (fSl E v xs).p w) : ∃ a c, v = .slice a xs.length c := by
 rcases h with ⟨rfl, a, c, rfl, _⟩ | ⟨i, o, f, c, cs, ⟨h1, _⟩, _⟩
 · exact ⟨a, c, rfl⟩
 · exact ⟨_, c, h1⟩
theorem sl_elem {α : Type} {E : Enc α} {v : Value} {xs : List α} {w : Wd} (h : (fSl E v xs).p w) {k : Nat} (hk : k < xs.length) :
 ∃ i o f c x y, v = .slice (some ⟨i, o, f⟩) xs.length c ∧ xs[k]? = some x ∧ (fRaw i (o + k * E.n) (E.pat x y)).p w ∧ ∀ f ∈ E.fs x y, f.p w := by
 rcases h with ⟨rfl, a, c, rfl, _⟩ | ⟨i, o, f, c, cs, ⟨h1, _⟩, h2, h3⟩
 · simp at hk
 · obtain ⟨y, q1, q2⟩ := h3 k xs[k] (List.getElem?_eq_getElem hk)
   exact ⟨i, o, some f, c, xs[k], y, h1, List.getElem?_eq_getElem hk, ⟨cs, h2, q1⟩, q2⟩
theorem d_lenF {α : Type} {E : Enc α} {x : Operand} {v : Value} {xs : List α} (hn : Nat.blt d n = true) (hg : gok l g = true) (hx : ev l x = v) (hf : fSl E v xs ∈ F) :
 Red (R (fun h => OPS P ds (⟨⟨some d, g, .lenSl x⟩, []⟩ :: rest) (act n l D pm ro) h K) B w0 kl F) (R (fun h => OPS P ds rest (act n ((d, .int .i64 (xs.length : Int)) :: l) D pm ro) h K) B w0 kl F) :=
 ⟨fun r w s => by
  obtain ⟨a, c, e⟩ := sl_form (s.facts _ hf)
  exact s_len hn hg (hx.trans e) (r w s)⟩
theorem ap_form {α : Type} {E : Enc α} {v : Value} {xs : List α} {w : Wd} {S : List Nat} (h : (ap E v xs).p w S) : ∃ a, v = .slice a xs.length xs.length := by
 rcases h with ⟨rfl, rfl, _⟩ | ⟨b, o, f, cells, h1, _⟩
 · exact ⟨none, rfl⟩
 · exact ⟨_, h1⟩
theorem d_lenA {α : Type} {E : Enc α} {x : Operand} {v : Value} {xs : List α} (hn : Nat.blt d n = true) (hg : gok l g = true) (hx : ev l x = v) (hk : Sel (ap E v xs) kl kl') :
 Red (R (fun h => OPS P ds (⟨⟨some d, g, .lenSl x⟩, []⟩ :: rest) (act n l D pm ro) h K) B w0 kl F) (R (fun h => OPS P ds rest (act n ((d, .int .i64 (xs.length : Int)) :: l) D pm ro) h K) B w0 kl F) :=
 ⟨fun r w s => by
  obtain ⟨S, ⟨S1, S2, q, _⟩, _⟩ := (s.sel hk).own
  obtain ⟨a, e⟩ := ap_form q
  exact s_len hn hg (hx.trans e) (r w s)⟩
theorem d_idx {α : Type} {E : Enc α} {x i : Operand} {v : Value} {xs : List α} {size : Nat} {k : Int} {kk : IntKind} (hn : Nat.blt d n = true) (hg : gok l g = true) (hx : ev l x = v) (hi : ev l i = .int kk k) (hf : fSl E v xs ∈ F)
 (hs : E.n = size) (h0 : 0 ≤ k) (h1 : k < xs.length) :
 Red (R (fun h => OPS P ds (⟨⟨some d, g, .idxSl size x i⟩, []⟩ :: rest) (act n l D pm ro) h K) B w0 kl F)
  (∀ b o z y, xs[k.toNat]? = some z → R (fun h => OPS P ds rest (act n ((d, .pointer (some ⟨b, o, none⟩)) :: l) D pm ro) h K) B w0 kl (fRaw b o (E.pat z y) :: (E.fs z y ++ F))) := by
 refine ⟨fun r w s => ?_⟩
 obtain ⟨b, o, f, c, z, y, rfl, h2, h3, h4⟩ := sl_elem (s.facts _ hf) (k := k.toNat) (by omega)
 refine s_idxSl hn hg hx hi h0 h1 (r b _ z y h2 w ?_)
 rw [← hs]
 exact (s.add (F' := fRaw b (o + k.toNat * E.n) (E.pat z y) :: E.fs z y) (fun f hf => by
  rcases List.mem_cons.1 hf with rfl | hf
  · exact h3
  · exact h4 f hf))
theorem d_idxI {x i : Operand} {v : Value} {xs : List Int} {k : Int} {kk : IntKind} (hn : Nat.blt d n = true) (hg : gok l g = true) (hx : ev l x = v) (hi : ev l i = .int kk k) (hf : fSl intE v xs ∈ F) (h0 : 0 ≤ k) (h1 : k < xs.length) :
 Red (R (fun h => OPS P ds (⟨⟨some d, g, .idxSl 1 x i⟩, []⟩ :: rest) (act n l D pm ro) h K) B w0 kl F)
  (∀ b o z, xs[k.toNat]? = some z → R (fun h => OPS P ds rest (act n ((d, .pointer (some ⟨b, o, none⟩)) :: l) D pm ro) h K) B w0 kl (fRaw b o [.int .i64 z] :: F)) :=
 ⟨fun r => (d_idx hn hg hx hi hf rfl h0 h1).h fun b o z y hz => r b o z hz⟩
theorem d_idxB {x i : Operand} {v : Value} {xs : List Bool} {k : Int} {kk : IntKind} (hn : Nat.blt d n = true) (hg : gok l g = true) (hx : ev l x = v) (hi : ev l i = .int kk k) (hf : fSl boolE v xs ∈ F) (h0 : 0 ≤ k) (h1 : k < xs.length) :
 Red (R (fun h => OPS P ds (⟨⟨some d, g, .idxSl 1 x i⟩, []⟩ :: rest) (act n l D pm ro) h K) B w0 kl F)
  (∀ b o z, xs[k.toNat]? = some z → R (fun h => OPS P ds rest (act n ((d, .pointer (some ⟨b, o, none⟩)) :: l) D pm ro) h K) B w0 kl (fRaw b o [.bool z] :: F)) :=
 ⟨fun r => (d_idx hn hg hx hi hf rfl h0 h1).h fun b o z y hz => r b o z hz⟩
theorem st_ap0 {α : Type} (E : Enc α) {Q : IH → Prop} (h : R Q B w0 (ap E (.slice none 0 0) [] :: kl) F) : R Q B w0 kl F := fun w s => by
 obtain ⟨S, h1, h2, h3⟩ := s.own
 exact h w ⟨s.agree, s.le, s.zold, ⟨S, ⟨[], S, .inl ⟨rfl, rfl, rfl⟩, h1, rfl⟩, h2, h3⟩, s.facts⟩
theorem st_apE {α : Type} (E : Enc α) {b : Nat} {Q : IH → Prop} (hk : Sel (pt b (.cells [])) kl kl') (h : R Q B w0 (ap E (.slice (some ⟨b, 0, some 0⟩) 0 0) [] :: kl') F) : R Q B w0 kl F := fun w s =>
 h w ((s.sel hk).turnA (A := pt b (.cells [])) (A' := ap E (.slice (some ⟨b, 0, some 0⟩) 0 0) []) fun w S hp => .inr ⟨b, 0, 0, [], rfl, .inl rfl, hp.1, hp.2, by simp, fun k x hk => by cases hk⟩)
theorem st_frz {A : OA} {fs : List Fact} {Q : IH → Prop} (hA : Frz A fs) (hk : Sel A kl kl') (h : R Q B w0 kl' (fs ++ F)) : R Q B w0 kl F := fun w s => by
 obtain ⟨w', e, s'⟩ := (s.sel hk).freeze hA
 rw [← e]; exact h w' s'
theorem _root_.Go.Ideal.St.fresh {w : Wd} {o : IObj} {h' : IH} (s : St B w0 kl F w) (ag : Agree w.h h') (at_ : At h' w.h.next o) (hn : h'.next = w.h.next + 1) : ∃ w' : Wd, w'.h = h' ∧ St B w0 (pt w.h.next o :: kl) F w' := by
 have hg : ∀ i, i < w.h.next → h'.get i = w.h.get i := ag.get
 let w' : Wd := ⟨h', w.z, fun i hi => by rw [hn]; exact Nat.lt_succ_of_lt (w.zlt i hi)⟩
 have hle : w.Le w' := ⟨by show _ ≤ h'.next; omega, fun _ h => h, fun i hi => hg i (w.zlt i hi)⟩
 obtain ⟨S, h1, h2, h3⟩ := s.own
 have hnx : w'.h.next = w.h.next + 1 := hn
 refine ⟨w', rfl, ⟨by have := s.agree.next; omega, fun i hi hb => (hg i (Nat.lt_of_lt_of_le hi s.agree.next)).trans (s.agree.get i hi hb), fun a b => ?_⟩, s.le.trans hle, s.zold,
  ⟨[w.h.next] ++ S, ⟨[w.h.next], S, ⟨rfl, at_.2⟩, OwnL.loc hle (fun i hi => hg i (h3 i hi).2.1) h1, rfl⟩, ?_, ?_⟩, fun f hf => f.mono hle (s.facts f hf)⟩
 · have hl := s.agree.low a b
   have := s.agree.next
   show h'.low = _
   rw [ag.low (by omega), hl]
 · refine List.nodup_cons.2 ⟨fun hm => ?_, h2⟩
   have := (h3 _ hm).2.1; omega
 · intro i hi
   rcases List.mem_append.1 hi with hi | hi
   · rw [List.mem_singleton.1 hi]
     exact ⟨.inl s.agree.next, by omega, fun hz => absurd (w.zlt _ hz) (Nat.lt_irrefl _)⟩
   · exact ⟨(h3 i hi).1, by have := (h3 i hi).2.1; omega, (h3 i hi).2.2⟩
theorem d_app1 {α : Type} {E : Enc α} {e : TypeId} {size bytes b' : Nat} {s x : Operand} {v : Value} {xs : List α} {a : α} {y : E.Y} {cs : List Value} {k1 k2 : List OA} (hn : Nat.blt d n = true) (hg : gok l g = true)
 (hs : ev l s = v) (hx : ev l x = .slice (some ⟨b', 0, some 0⟩) 1 1) (hk : Sel (ap E v xs) kl k1) (hc : Sel (pt b' (.cells cs)) k1 k2) (hp : cs = E.pat a y) (hF : Sub (E.fs a y) F) (hz : E.n = size)
 (hm : (xs.length + 1) * bytes ≤ 1073741824 ∧ (xs.length + 1) * size ≤ 1073741824 ∧ xs.length + 1 ≤ 1073741824) :
 Red (R (fun h => OPS P ds (⟨⟨some d, g, .append e size bytes s x⟩, []⟩ :: rest) (act n l D pm ro) h K) B w0 kl F)
  (∀ v', R (fun h => OPS P ds rest (act n ((d, v') :: l) D pm ro) h K) B w0 (ap E v' (xs ++ [a]) :: k2) F) := by
 refine ⟨fun r w st => ?_⟩
 subst hp hz
 have hlen := E.len a y
 have st2 : St B w0 (ap E v xs :: pt b' (.cells (E.pat a y)) :: k2) F w := st.selL (.cons hk (.cons hc .nil))
 have hat : At w.h b' (.cells (E.pat a y)) := st2.at_ (.there .here)
 have st3 : St B w0 (ap E v xs :: k2) F w := (st2.sel (.there .here)).tail
 have hfs : ∀ f ∈ E.fs a y, f.p w := fun f hf => st.facts f (hF.mem f hf)
 have hread : w.h.readAt b' 0 (1 * E.n) = some (E.pat a y) := by
  rw [hat.c.readAt, ldrop_eq, ltake_eq, Nat.one_mul, List.drop_zero, if_pos (by omega), ← hlen, List.take_length]
 have hx1 : lenI (ev l x) = some (0 + 1) := by rw [hx]; rfl
 have hx2 : firstI E.n (0 + 1) (ev l x) w.h = some (E.pat a y) := by rw [hx]; exact hread
 -- what lies there afterwards
 have put : ∀ (w' : Wd) (c : Nat) (f : Nat) (cells : List Value), cells.length = xs.length * E.n → (∀ (k : Nat) z, xs[k]? = some z → ∃ y, (∀ (j : Nat) u, (E.pat z y)[j]? = some u → cells[k * E.n + j]? = some u) ∧ ∀ f ∈ E.fs z y, f.p w') → (∀ f ∈ E.fs a y, f.p w') →
  (f = 0 ∨ f = E.n) → ∀ S, (pt c (.cells (cells ++ E.pat a y))).p w' S → (ap E (.slice (some ⟨c, 0, some f⟩) (xs.length + 1) (xs.length + 1)) (xs ++ [a])).p w' S := by
  intro w' c f cells h1 h2 h3 h4 S hp
  refine .inr ⟨c, 0, f, _, by rw [List.length_append]; rfl, h4, hp.1, hp.2, by rw [List.length_append, List.length_append, h1, hlen, List.length_singleton, Nat.add_mul, Nat.one_mul, Nat.zero_add], fun k z hk => ?_⟩
  by_cases hlt : k < xs.length
  · rw [List.getElem?_append_left hlt] at hk
    obtain ⟨y', q1, q2⟩ := h2 k z hk
    refine ⟨y', fun j u hj => ?_, q2⟩
    rw [Nat.zero_add]
    have := q1 j u hj
    rw [List.getElem?_append_left (List.getElem?_eq_some_iff.1 this).1]; exact this
  · rw [List.getElem?_append_right (by omega)] at hk
    have hk0 : k = xs.length := by
     have := (List.getElem?_eq_some_iff.1 hk).1
     simp at this; omega
    subst hk0
    simp at hk
    subst hk
    refine ⟨y, fun j u hj => ?_, h3⟩
    rw [Nat.zero_add, List.getElem?_append_right (by omega), h1, Nat.add_sub_cancel_left]; exact hj
 obtain ⟨S, ⟨S1, S2, q, q2, e1⟩, hnd, hown⟩ := st3.own
 rcases q with ⟨rfl, rfl, rfl⟩ | ⟨b, o, f, cells, rfl, hf, rfl, hb, hcl, hel⟩
 · refine s_append0 (c := 0) hn hg hs hx1 hx2 (by simpa using hm) fun h' ag at1 hnx => ?_
   obtain ⟨w', rfl, st4⟩ := st3.tail.fresh ag at1 hnx
   refine r _ w' (st4.turnA' fun S hp => ?_)
   have hle : ∀ f ∈ E.fs a y, f.p w' := fun f hf => st4.facts f (hF.mem f hf)
   exact put w' _ E.n [] (by simp) (fun k z hk => by cases hk) hle (.inr rfl) S hp
 · have st5 : St B w0 (pt b (.cells cells) :: k2) F w := ⟨st3.agree, st3.le, st3.zold, ⟨S, ⟨_, S2, ⟨rfl, hb⟩, q2, e1⟩, hnd, hown⟩, st3.facts⟩
   have hbat : At w.h b (.cells cells) := st5.at_ .here
   refine s_append (old := cells.drop o) (xs := E.pat a y) hn hg hs hx1 hx2 ?_ (hf.elim (fun e => .inl (by rw [e])) fun e => .inr (by rw [e])) hm fun h' mv => ?_
   · have hdl : (cells.drop o).length = xs.length * E.n := by rw [List.length_drop]; omega
     rw [hbat.c.readAt, ldrop_eq, ltake_eq, if_pos (by omega), ← hdl, List.take_length]
   obtain ⟨w', rfl, st4, hwle⟩ := st5.move mv
   refine r _ w' (st4.turnA' fun S hp => ?_)
   have hle : ∀ f ∈ E.fs a y, f.p w' := fun f hf => st4.facts f (hF.mem f hf)
   refine put w' _ E.n (cells.drop o) (by rw [List.length_drop]; omega) (fun k z hk => ?_) hle (.inr rfl) S hp
   obtain ⟨y', u1, u2⟩ := hel k z hk
   exact ⟨y', fun j u hj => by rw [List.getElem?_drop, ← Nat.add_assoc]; exact u1 j u hj, fun f hf => f.mono hwle (u2 f hf)⟩
end
end Go.Ideal
namespace Go.Ideal
variable {P : Program} {ρ : Operand → Value}
theorem pr_under {t : TypeId} {d : TypeDesc} (ht : P.underlying t = some d) : pureRun P (underlying t) = some d := by
 unfold underlying
 rw [pureRun_bind]
 show (some P).bind _ = _
 simp only [Option.bind, ht]; rfl
theorem guard_pure {op : BinOp} {t : TypeId} {x y : Operand} {a b : Value} (ha : ∀ c, a ≠ .agg c) (hn : a ≠ .nilIface) : pureRun P (eqGuard op t x y a b) = some () := by
 cases a with
 | nilIface => exact absurd rfl hn
 | agg c => exact absurd rfl (ha c)
 | _ => cases op <;> rfl
theorem binI_bool {t : TypeId} {x y : Operand} {a b : Bool} (ht : P.underlying t = some .bool) : binI P .eql t x y (.bool a) (.bool b) = some (.bool (a == b)) ∧ binI P .neq t x y (.bool a) (.bool b) = some (.bool (a != b)) := by
 have he : pureRun P (Op.equal t (.bool a) (.bool b)) = some (a == b) := by
  show pureRun P (Op.equalIn (9999 + 1) t (.bool a) (.bool b)) = _
  unfold Op.equalIn
  rw [pureRun_bind, pr_under ht]; rfl
 have h1 : pureV P (do eqGuard .eql t x y (.bool a) (.bool b); binOp .eql t (.bool a) (.bool b)) = some (.bool (a == b)) := by
  unfold pureV
  rw [pureRun_bind, guard_pure (by intro c e; cases e) (by intro e; cases e)]
  simp only [Option.bind_some, binOp]
  rw [pureRun_bind, he]; rfl
 have h2 : pureV P (do eqGuard .neq t x y (.bool a) (.bool b); binOp .neq t (.bool a) (.bool b)) = some (.bool (a != b)) := by
  unfold pureV
  rw [pureRun_bind, guard_pure (by intro c e; cases e) (by intro e; cases e)]
  simp only [Option.bind_some, binOp]
  rw [pureRun_bind, he]; rfl
 exact ⟨h1, h2⟩
theorem p_eqlB {x y : Operand} {t : TypeId} {a b : Bool} (hx : ρ x = .bool a) (hy : ρ y = .bool b) (ht : P.underlying t = some .bool) : Pu P ρ (.bin .eql t x y) (.bool (a == b)) := fun h => by
 simp only [COp.run, hx, hy, (binI_bool ht).1]
theorem p_neqB {x y : Operand} {t : TypeId} {a b : Bool} (hx : ρ x = .bool a) (hy : ρ y = .bool b) (ht : P.underlying t = some .bool) : Pu P ρ (.bin .neq t x y) (.bool (a != b)) := fun h => by
 simp only [COp.run, hx, hy, (binI_bool ht).2]
theorem binI_str {op : BinOp} {t : TypeId} {x y : Operand} {a b : ByteArray} {v : Value} (hv : pureRun P (Op.stringOp op a b) = some v) (hf : addrFree v = true) : binI P op t x y (.string a) (.string b) = some v := by
 have h1 : pureV P (do eqGuard op t x y (.string a) (.string b); binOp op t (.string a) (.string b)) = some v := by
  unfold pureV
  rw [pureRun_bind, guard_pure (by intro c e; cases e) (by intro e; cases e)]
  have hb : binOp op t (.string a) (.string b) = Op.stringOp op a b := by cases op <;> rfl
  simp only [Option.bind_some, hb, hv, hf, cond]
 exact h1
theorem p_eqlS {x y : Operand} {t : TypeId} {a b : ByteArray} (hx : ρ x = .string a) (hy : ρ y = .string b) : Pu P ρ (.bin .eql t x y) (.bool (a.toList == b.toList)) := fun h => by
 simp only [COp.run, hx, hy, binI_str (op := .eql) (v := .bool (a.toList == b.toList)) rfl rfl]
theorem p_neqS {x y : Operand} {t : TypeId} {a b : ByteArray} (hx : ρ x = .string a) (hy : ρ y = .string b) : Pu P ρ (.bin .neq t x y) (.bool (!(a.toList == b.toList))) := fun h => by
 simp only [COp.run, hx, hy, binI_str (op := .neq) (v := .bool (!(a.toList == b.toList))) rfl rfl]
theorem binI_slow {op : BinOp} {t : TypeId} {x y : Operand} {a b : Int} {v : Value} (hq : intI op .i64 a b = none) (hv : pureRun P (binOp op t (.int .i64 a) (.int .i64 b)) = some v) (hf : addrFree v = true) : binI P op t x y (.int .i64 a) (.int .i64 b) = some v := by
 have h1 : pureV P (do eqGuard op t x y (.int .i64 a) (.int .i64 b); binOp op t (.int .i64 a) (.int .i64 b)) = some v := by
  unfold pureV
  rw [pureRun_bind, guard_pure (by intro c e; cases e) (by intro e; cases e)]
  simp only [Option.bind_some, hv, hf, cond]
 unfold binI
 simp only [sameK, cond, hq, addrFree, Bool.and_self]
 exact h1
theorem wrap64 {m : Int} (h1 : -9223372036854775808 ≤ m) (h2 : m < 9223372036854775808) : IntKind.i64.wrap m = m := IntWalk.i64_in m ⟨h1, by omega⟩
theorem p_mul {x y : Operand} {t : TypeId} {a b : Int} (hx : ρ x = .int .i64 a) (hy : ρ y = .int .i64 b) (h1 : -9223372036854775808 ≤ a * b) (h2 : a * b < 9223372036854775808) : Pu P ρ (.bin .mul t x y) (.int .i64 (a * b)) := fun h => by
 simp only [COp.run, hx, hy]
 rw [binI_slow (op := .mul) (v := .int .i64 (a * b)) rfl (by
  show pureRun P (Op.intArith .mul .i64 a b) = _
  show some (Value.int .i64 (IntKind.i64.wrap (a * b))) = _
  rw [wrap64 h1 h2]) rfl]
theorem p_idxN {x i : Operand} {size b o m c k : Nat} {f : Option Nat} {kk : IntKind} (hx : ρ x = .slice (some ⟨b, o, f⟩) m c) (hi : ρ i = .int kk (k : Int)) (h1 : k < m) :
 Pu P ρ (.idxSl size x i) (.pointer (some ⟨b, o + k * size, none⟩)) := p_idx (k := (k : Int)) hx hi (by omega) (by omega)
end Go.Ideal
namespace Go.Ideal
variable {P : Program}
def Left {Y : Type} (B : List Nat) (w0 : Wd) (val : Y → Value) (kl' : Y → List OA) (fs : Y → List Fact) (pr : Y → Prop) : KR := fun r pm h' =>
 pm = none ∧ ∃ (w' : Wd) (y : Y), w'.h = h' ∧ St B w0 (kl' y) (fs y) w' ∧ r = .ok (val y) ∧ pr y
def FnC {Y : Type} (P : Program) (fn : Fn) (args cap : List Value) (kl : List OA) (F : List Fact) (val : Y → Value) (kl' : Y → List OA) (fs : Y → List Fact) (pr : Y → Prop) : Prop :=
 ∀ (B : List Nat) (w : Wd), St B w kl F w → CALL P ⟨fn, args, cap, none⟩ w.h (Left B w val kl' fs pr)
def argL : Nat → List Value → List (Nat × Value) → List (Nat × Value)
 | _, [], l => l
 | i, v :: vs, l => argL (i + 1) vs ((i, v) :: l)
theorem setArgs_envT : ∀ (args : List Value) (i : Nat) (l : List (Nat × Value)), setArgs args i (envT l) = envT (argL i args l)
 | [], i, l => rfl
 | v :: vs, i, l => by
   show setArgs vs (i + 1) (envT ((i, v) :: l)) = _
   rw [setArgs_envT vs]; rfl
theorem initAct_act (n : Nat) (args : List Value) (pm : Option FrameMode) : initAct n args pm = act (maxN n (llen args)) (argL 0 args []) [] pm none := by
 show IAct.mk _ (setArgs args 0 (envT [])) _ _ _ = _
 rw [setArgs_envT]; rfl
theorem fn_start {Y : Type} {f : FuncId} {args cap : List Value} {kl : List OA} {F : List Fact} {val : Y → Value} {kl' : Y → List OA} {fs : Y → List Fact} {pr : Y → Prop} (cf : CFunc) (hF : (envOf P noCut noMemo).F f = some cf)
 (hb : ∀ B w0, R (fun h => EV P cf.body (act (maxN cf.ntmps (llen (args ++ cap))) (argL 0 (args ++ cap) []) [] none none) h (retK cf (Left B w0 val kl' fs pr))) B w0 kl F) : FnC P (.func f) args cap kl F val kl' fs pr := by
 intro B w s
 obtain ⟨fn, h1, h2⟩ := (envOf_ok P noCut noMemo (fun f q h v h' hm => by cases hm)).fn f cf hF
 refine c_plain fn h1 cf h2 ?_
 rw [initAct_act]
 exact hb B w w s
section
variable {B : List Nat} {w0 : Wd} {kl kl' klr : List OA} {F : List Fact} {K : KO} {ds : List Tmp} {rest : List PStep} {n : Nat} {l : List (Nat × Value)} {D : List Deferred} {pm : Option FrameMode} {ro : Option Nat} {d : Nat} {g : Option (Tmp × Bool)}
theorem St.call {w w' : Wd} {k1 k1' klr : List OA} {F1 F' : List Fact} {S1 S2 : List Nat} (s : St B w0 kl F w) (hp : ∃ S : List Nat, S.Perm (S1 ++ S2) ∧ S.Nodup ∧ ∀ i ∈ S, (w0.h.next ≤ i ∨ i ∈ B) ∧ i < w.h.next ∧ ¬ w.z i)
 (h2 : OwnL w klr S2) (c : St S1 w k1' F' w') : St B w0 (k1' ++ klr) (F' ++ F) w' := by
 obtain ⟨S, hperm, hnd0, hall⟩ := hp
 have hnd := hperm.nodup hnd0
 have hall : ∀ i ∈ S1 ++ S2, (w0.h.next ≤ i ∨ i ∈ B) ∧ i < w.h.next ∧ ¬ w.z i := fun i hi => hall i (hperm.mem_iff.2 hi)
 have hd := List.nodup_append.1 hnd
 obtain ⟨S', c1, c2, c3⟩ := c.own
 have hsame : ∀ i ∈ S2, w'.h.get i = w.h.get i := fun i hi => c.agree.get i (hall i (List.mem_append_right _ hi)).2.1 (fun hm => hd.2.2 i hm i hi rfl)
 refine ⟨⟨Nat.le_trans s.agree.next c.agree.next, fun i hi hB => ?_, fun a b => ?_⟩, s.le.trans c.le, fun i hi hz => ?_, ⟨S' ++ S2, c1.app (OwnL.loc c.le hsame h2), ?_, ?_⟩, fun f hf => ?_⟩
 · rw [← s.agree.get i hi hB]
   refine c.agree.get i (Nat.lt_of_lt_of_le hi s.agree.next) (fun hm => ?_)
   rcases (hall i (List.mem_append_left _ hm)).1 with q | q
   · omega
   · exact hB q
 · have hl := s.agree.low a b
   rw [c.agree.low (by rw [hl]; exact Nat.le_trans a s.agree.next) (fun i hi => ?_), hl]
   rw [hl]
   rcases (hall i (List.mem_append_left _ hi)).1 with q | q
   · omega
   · exact b i q
 · rcases c.zold i (Nat.lt_of_lt_of_le hi s.agree.next) hz with q | q
   · exact s.zold i hi q
   · rcases (hall i (List.mem_append_left _ q)).1 with u | u
     · omega
     · exact .inr u
 · refine List.nodup_append.2 ⟨c2, hd.2.1, fun a ha b hb e => ?_⟩
   subst e
   rcases (c3 a ha).1 with q | q
   · have := (hall a (List.mem_append_right _ hb)).2.1; omega
   · exact hd.2.2 a q a hb rfl
 · intro i hi
   rcases List.mem_append.1 hi with hi | hi
   · refine ⟨?_, (c3 i hi).2⟩
     rcases (c3 i hi).1 with q | q
     · exact .inl (Nat.le_trans s.agree.next q)
     · exact (hall i (List.mem_append_left _ q)).1
   · have q := hall i (List.mem_append_right _ hi)
     refine ⟨q.1, Nat.lt_of_lt_of_le q.2.1 c.agree.next, fun hz => ?_⟩
     rcases c.zold i q.2.1 hz with u | u
     · exact q.2.2 u
     · exact hd.2.2 i u i hi rfl
 · rcases List.mem_append.1 hf with hf | hf
   · exact c.facts f hf
   · exact f.mono c.le (s.facts f hf)
def Same (P : Program) (re : List CStep) (ρ : Operand → Value) (l : List (Nat × Value)) (B : List Nat) (w0 : Wd) (kl : List OA) (F : List Fact) : Prop :=
 ∀ w, St B w0 kl F w → ∀ r ∈ re, ∃ u h2, r.op.run P ρ w.h = some (u, h2) ∧ ∀ d', r.dst = some d' → lk l d' = u
theorem same_nil {ρ : Operand → Value} : Same P [] ρ l B w0 kl F := fun w s r hr => by cases hr
theorem same_load {re : List CStep} {x : Operand} {b o : Nat} {cs : List Value} {v : Value} (hx : ev l x = .pointer (some ⟨b, o, none⟩)) (hk : Sel (pt b (.cells cs)) kl kl') (hv : lget cs o = some v) (hd : lk l d = v)
 (t : Same P re (ev l) l B w0 kl F) : Same P (⟨some d, g, .load1 x⟩ :: re) (ev l) l B w0 kl F := fun w s r hr => by
 rcases List.mem_cons.1 hr with rfl | hr
 · have hc : w.h.read1 b o = some v := by rw [(s.at_ hk).c.read1, ← lget_eq]; exact hv
   exact ⟨v, w.h, by simp only [COp.run, hx, hc], fun d' e => by cases e; exact hd⟩
 · exact t w s r hr
theorem same_loadF {re : List CStep} {x : Operand} {b o : Nat} {cs : List Value} {v : Value} (hx : ev l x = .pointer (some ⟨b, o, none⟩)) (hk : fRaw b o cs ∈ F) (hv : lget cs 0 = some v) (hd : lk l d = v)
 (t : Same P re (ev l) l B w0 kl F) : Same P (⟨some d, g, .load1 x⟩ :: re) (ev l) l B w0 kl F := fun w s r hr => by
 rcases List.mem_cons.1 hr with rfl | hr
 · exact ⟨v, w.h, by simp only [COp.run, hx, show w.h.read1 b o = some v from raw_get (j := 0) (s.facts _ hk) hv], fun d' e => by cases e; exact hd⟩
 · exact t w s r hr
theorem same_loadFj {re : List CStep} {x : Operand} {b o j : Nat} {cs : List Value} {v : Value} (hx : ev l x = .pointer (some ⟨b, o + j, none⟩)) (hk : fRaw b o cs ∈ F) (hv : lget cs j = some v) (hd : lk l d = v)
 (t : Same P re (ev l) l B w0 kl F) : Same P (⟨some d, g, .load1 x⟩ :: re) (ev l) l B w0 kl F := fun w s r hr => by
 rcases List.mem_cons.1 hr with rfl | hr
 · exact ⟨v, w.h, by simp only [COp.run, hx, raw_get (s.facts _ hk) hv], fun d' e => by cases e; exact hd⟩
 · exact t w s r hr
theorem same_loadN {re : List CStep} {x : Operand} {b o m : Nat} {cs c : List Value} (hx : ev l x = .pointer (some ⟨b, o, none⟩)) (hk : Sel (pt b (.cells cs)) kl kl') (hv : ltake (ldrop cs o) m = some c) (hd : lk l d = .agg ⟨c⟩)
 (t : Same P re (ev l) l B w0 kl F) : Same P (⟨some d, g, .loadN m x⟩ :: re) (ev l) l B w0 kl F := fun w s r hr => by
 rcases List.mem_cons.1 hr with rfl | hr
 · have hc : w.h.readAt b o m = some c := by rw [(s.at_ hk).c.readAt]; exact hv
   exact ⟨.agg ⟨c⟩, w.h, by simp only [COp.run, hx, hc], fun d' e => by cases e; exact hd⟩
 · exact t w s r hr
theorem same_loadNF {re : List CStep} {x : Operand} {b o m : Nat} {cs c : List Value} (hx : ev l x = .pointer (some ⟨b, o, none⟩)) (hk : fRaw b o cs ∈ F) (hv : ltake cs m = some c) (hd : lk l d = .agg ⟨c⟩)
 (t : Same P re (ev l) l B w0 kl F) : Same P (⟨some d, g, .loadN m x⟩ :: re) (ev l) l B w0 kl F := fun w s r hr => by
 rcases List.mem_cons.1 hr with rfl | hr
 · exact ⟨.agg ⟨c⟩, w.h, by simp only [COp.run, hx, show w.h.readAt b o m = some c from raw_getN (j := 0) (s.facts _ hk) (by rw [ldrop_eq]; exact hv)], fun d' e => by cases e; exact hd⟩
 · exact t w s r hr
theorem same_loadNFj {re : List CStep} {x : Operand} {b o j m : Nat} {cs c : List Value} (hx : ev l x = .pointer (some ⟨b, o + j, none⟩)) (hk : fRaw b o cs ∈ F) (hv : ltake (ldrop cs j) m = some c) (hd : lk l d = .agg ⟨c⟩)
 (t : Same P re (ev l) l B w0 kl F) : Same P (⟨some d, g, .loadN m x⟩ :: re) (ev l) l B w0 kl F := fun w s r hr => by
 rcases List.mem_cons.1 hr with rfl | hr
 · exact ⟨.agg ⟨c⟩, w.h, by simp only [COp.run, hx, raw_getN (s.facts _ hk) hv], fun d' e => by cases e; exact hd⟩
 · exact t w s r hr
theorem same_p {re : List CStep} {op : COp} {v : Value} (hp : Pu P (ev l) op v) (hd : lk l d = v) (t : Same P re (ev l) l B w0 kl F) : Same P (⟨some d, g, op⟩ :: re) (ev l) l B w0 kl F := fun w s r hr => by
 rcases List.mem_cons.1 hr with rfl | hr
 · exact ⟨v, w.h, hp w.h, fun d' e => by cases e; exact hd⟩
 · exact t w s r hr
theorem d_storeR {x y : Operand} {b o m : Nat} {cs vs c : List Value} {v : Value} {re : List CStep} (hg : gok l g = true) (hx : ev l x = .pointer (some ⟨b, o, none⟩)) (hw : ev l y = v) (hy : cellsOf v = some vs) (hm : Nat.beq (llen vs) m = true)
 (hk : Sel (pt b (.cells cs)) kl kl') (hv : lover cs o vs = some c) (hs : Same P re (ev l) l B w0 (pt b (.cells c) :: kl') F) :
 Red (R (fun h => OPS P ds (⟨⟨none, g, .store m x y⟩, re⟩ :: rest) (act n l D pm ro) h K) B w0 kl F) (R (fun h => OPS P ds rest (act n l D pm ro) h K) B w0 (pt b (.cells c) :: kl') F) :=
 ⟨fun r w s => by
  subst hw
  have s' := (s.sel hk).write (o' := .cells c)
  refine .det (wants_gok hg) unk (w.h.set b (.cells c)) (by rw [eval_act]; simp only [COp.run, hx, hy, hm]; simp only [IH.storeAt, (s.at_ hk).2, hv]; rfl) (fun q hq _ => ?_) (r _ s')
  obtain ⟨u, h2, e1, e2⟩ := hs _ s' q hq
  exact ⟨u, h2, by show q.op.run P (act n l D pm ro).eval _ = _; rw [eval_act]; exact e1, fun d' hd => by rw [← e2 d' hd]; exact tget_envT _ _⟩⟩
theorem d_pR {op : COp} {v : Value} {re : List CStep} (hn : Nat.blt d n = true) (hg : gok l g = true) (hp : Pu P (ev l) op v) (hs : Same P re (ev ((d, v) :: l)) ((d, v) :: l) B w0 kl F) :
 Red (R (fun h => OPS P ds (⟨⟨some d, g, op⟩, re⟩ :: rest) (act n l D pm ro) h K) B w0 kl F) (R (fun h => OPS P ds rest (act n ((d, v) :: l) D pm ro) h K) B w0 kl F) :=
 ⟨fun r w s => by
  refine .det (wants_gok hg) v w.h (by rw [eval_act]; exact hp w.h) (fun q hq _ => ?_) (by rw [put_act hn]; exact r w s)
  obtain ⟨u, h2, e1, e2⟩ := hs w s q hq
  rw [put_act hn]
  exact ⟨u, h2, by rw [eval_act]; exact e1, fun d' hd => by rw [← e2 d' hd]; exact tget_envT _ _⟩⟩
theorem o_call {Y : Type} {f : Operand} {xs : List Operand} {re : List CStep} {fn : Fn} {first captured vs as : List Value} {k1 : List OA} {F1 : List Fact} {val : Y → Value} {k1' : Y → List OA} {fs : Y → List Fact} {pr : Y → Prop}
 (hc : FnC P fn as captured k1 F1 val k1' fs pr) (hn : Nat.blt d n = true) (hg : gok l g = true) (hf : ev l f = .func fn ⟨first⟩ ⟨captured⟩) (hx : EvL (ev l) xs vs) (ha : first ++ vs = as)
 (hk : SelL k1 kl klr) (hF : Sub F1 F)
 (hs : ∀ y, pr y → Same P re (ev ((d, val y) :: l)) ((d, val y) :: l) B w0 (k1' y ++ klr) (fs y ++ F))
 (next : ∀ y, pr y → R (fun h => OPS P ds rest (act n ((d, val y) :: l) D pm ro) h K) B w0 (k1' y ++ klr) (fs y ++ F)) :
 R (fun h => OPS P ds (⟨⟨some d, g, .call f xs⟩, re⟩ :: rest) (act n l D pm ro) h K) B w0 kl F := by
 intro w s
 obtain ⟨S, h1, h2, h3⟩ := s.own
 obtain ⟨S1, S2, q1, q2, hp⟩ := h1.selL hk
 have hsub : ∀ i ∈ S1, i ∈ S := fun i hi => hp.mem_iff.2 (List.mem_append_left _ hi)
 have s1 : St S1 w k1 F1 w := ⟨⟨Nat.le_refl _, fun _ _ _ => rfl, fun _ _ => rfl⟩, Wd.Le.refl w, fun i _ hz => .inl hz, ⟨S1, q1, (List.nodup_append.1 (hp.nodup h2)).1, fun i hi => ⟨.inr hi, (h3 i (hsub i hi)).2⟩⟩, fun f hf => s.facts f (hF.mem f hf)⟩
 have hcall := hc S1 w s1
 subst ha
 rw [← hx.map] at hcall
 have back : ∀ (w' : Wd) (y : Y), St S1 w (k1' y) (fs y) w' → St B w0 (k1' y ++ klr) (fs y ++ F) w' := fun w' y c => s.call (k1 := k1) (F1 := F1) ⟨S, hp, h2, h3⟩ q2 c
 refine s_call hn hg fn hf _ hcall ?_ ?_ ?_ ?_
 · rintro v h' ⟨_, w', y, rfl, c, hv, hpr⟩
   injection hv with hv
   subst hv
   exact hs y hpr w' (back w' y c)
 · rintro v h' ⟨_, w', y, rfl, c, hv, hpr⟩
   injection hv with hv
   subst hv
   exact next y hpr w' (back w' y c)
 · rintro ch h' ⟨_, w', y, rfl, c, hv, hpr⟩
   cases hv
 · rintro r p h' ⟨e, _⟩
   exact e
inductive RS (l : List (Nat × Value)) (kl : List OA) : List CRes → List Value → Prop
 | nil : RS l kl [] []
 | tmp {t : Tmp} {rs : List CRes} {v : Value} {vs : List Value} (h : lk l t = v) (r : RS l kl rs vs) : RS l kl (.tmp t :: rs) (v :: vs)
 | cell1 {t : Tmp} {rs : List CRes} {v : Value} {vs cs : List Value} {b o : Nat} {kl' : List OA} (h : lk l t = .pointer (some ⟨b, o, none⟩)) (hk : Sel (pt b (.cells cs)) kl kl') (hv : lget cs o = some v) (r : RS l kl rs vs) : RS l kl (.cell1 t :: rs) (v :: vs)
 | cellN {n : Nat} {t : Tmp} {rs : List CRes} {vs cs c : List Value} {b o : Nat} {kl' : List OA} (h : lk l t = .pointer (some ⟨b, o, none⟩)) (hk : Sel (pt b (.cells cs)) kl kl') (hv : ltake (ldrop cs o) n = some c) (r : RS l kl rs vs) :
    RS l kl (.cellN n t :: rs) (.agg ⟨c⟩ :: vs)
theorem RS.all {w : Wd} (s : St B w0 kl F w) : ∀ {rs : List CRes} {vs : List Value}, RS l kl rs vs → resAll (envT l) w.h rs = some vs
 | _, _, .nil => rfl
 | _, _, .tmp (t := t) (rs := rs) (v := v) (vs := vs) h r => by
   have ih := RS.all s r
   show (match resI (envT l) w.h (.tmp t), resAll (envT l) w.h rs with | some v, some vs => some (v :: vs) | _, _ => none) = _
   rw [ih]; simp only [resI, tget_envT, h]
 | _, _, .cell1 (t := t) (rs := rs) (v := v) (vs := vs) h hk hv r => by
   have ih := RS.all s r
   show (match resI (envT l) w.h (.cell1 t), resAll (envT l) w.h rs with | some v, some vs => some (v :: vs) | _, _ => none) = _
   rw [ih]; simp only [resI, tget_envT, h, (s.at_ hk).2, hv]
 | _, _, .cellN (n := n) (t := t) (rs := rs) (vs := vs) (c := c) h hk hv r => by
   have ih := RS.all s r
   show (match resI (envT l) w.h (.cellN n t), resAll (envT l) w.h rs with | some v, some vs => some (v :: vs) | _, _ => none) = _
   rw [ih]; simp only [resI, tget_envT, h, IH.cellsAt, (s.at_ hk).2, hv]
def retV (vs : List Value) : Value :=
 match vs with
 | [v] => v
 | vs => .tuple ⟨vs⟩
theorem k_end {Y : Type} {o : Out} {cf : CFunc} {vs : List Value} {val : Y → Value} {k1 : Y → List OA} {fs : Y → List Fact} {pr : Y → Prop} (y : Y) (hr : RS l kl cf.results vs) (hv : retV vs = val y) (hp : pr y) (hk : SelL (k1 y) kl klr) (hF : Sub (fs y) F)
 (ho : o = .normal ∨ o = .ret) : R (fun h => retK cf (Left B w0 val k1 fs pr) o (act n l [] none ro) h) B w0 kl F := by
 intro w s
 have h1 : resultsI cf.results (envT l) w.h = some (val y) := by
  unfold resultsI
  rw [hr.all s]
  rw [← hv]
  match vs with
  | [] => rfl
  | [v] => rfl
  | _ :: _ :: _ => rfl
 have h2 : Left B w0 val k1 fs pr (.ok (val y)) none w.h := ⟨rfl, w, y, rfl, ((s.selL hk).drop).sub hF, rfl, hp⟩
 rcases ho with rfl | rfl
 · exact ⟨val y, h1, rfl, h2⟩
 · exact ⟨val y, h1, rfl, h2⟩
inductive Tail {α : Type} (F0 : List α) : List α → Prop
 | here : Tail F0 F0
 | cons {a : α} {F : List α} (h : Tail F0 F) : Tail F0 (a :: F)
 | app {G F : List α} (h : Tail F0 F) : Tail F0 (G ++ F)
theorem Tail.mem {α : Type} {F0 : List α} : ∀ {F : List α}, Tail F0 F → ∀ f ∈ F0, f ∈ F
 | _, .here, f, hf => hf
 | _, .cons h, f, hf => List.mem_cons_of_mem _ (h.mem f hf)
 | _, .app h, f, hf => List.mem_append_right _ (h.mem f hf)
inductive DelR : List (Nat × Value) → List (Nat × Value) → List (Nat × Value) → Prop
 | nil {ks : List (Nat × Value)} : DelR [] ks []
 | drop {k : Nat} {v : Value} {l ks r : List (Nat × Value)} (h : (ks.any fun p => Nat.beq p.1 k) = true) (t : DelR l ks r) : DelR ((k, v) :: l) ks r
 | keep {k : Nat} {v : Value} {l ks r : List (Nat × Value)} (h : (ks.any fun p => Nat.beq p.1 k) = false) (t : DelR l ((k, v) :: ks) r) : DelR ((k, v) :: l) ks ((k, v) :: r)
def LI {X : Type} (n : Nat) (D : List Deferred) (pm : Option FrameMode) (ro : Option Nat) (B : List Nat) (w0 : Wd) (m : X → Nat) (L : X → List (Nat × Value)) (KL : X → List OA) (FF : X → List Fact) (inv : X → Prop)
 (l0 : List (Nat × Value)) (klr : List OA) (F0 : List Fact) : Nat → IAct → IH → Prop := fun r a h =>
 ∃ (x : X) (w : Wd), r = m x ∧ a = act n (L x ++ l0) D pm ro ∧ w.h = h ∧ St B w0 (KL x ++ klr) (FF x ++ F0) w ∧ inv x
theorem e_loop {X : Type} {c : CCode} (m : X → Nat) (L : X → List (Nat × Value)) (KL : X → List OA) (FF : X → List Fact) (inv : X → Prop) (x0 : X) (hi : inv x0) (l0 : List (Nat × Value)) (hl : sub (L x0 ++ l0) l) (hk : SelL (KL x0) kl klr) (hF : Sub (FF x0) F)
 (body : ∀ x, inv x → R (fun h => EV P c (act n (L x ++ l0) D pm ro) h (loopK (LI n D pm ro B w0 m L KL FF inv l0 klr F) (m x) K)) B w0 (KL x ++ klr) (FF x ++ F)) :
 R (fun h => EV P (.loop c) (act n l D pm ro) h K) B w0 kl F := by
 intro w s
 refine w_weak (weaker_act hl) ?_
 refine w_loop (LI n D pm ro B w0 m L KL FF inv l0 klr F) ?_ (m x0) _ _ ⟨x0, w, rfl, rfl, rfl, (s.selL hk).add (fun f hf => s.facts f (hF.mem f hf)), hi⟩
 rintro r a h ⟨x, w', rfl, rfl, rfl, s', hx⟩
 exact body x hx w' s'
theorem k_loop {X : Type} {m : X → Nat} {L : X → List (Nat × Value)} {KL : X → List OA} {FF : X → List Fact} {inv : X → Prop} {l0 : List (Nat × Value)} {kl2 : List OA} {F0 : List Fact} {m0 : Nat} (x : X) (hm : m x < m0) (hi : inv x) (hl : sub (L x ++ l0) l)
 (hk : SelL (KL x ++ klr) kl kl2) (hF : Sub (FF x) F) (hF0 : Tail F0 F) : R (fun h => loopK (LI n D pm ro B w0 m L KL FF inv l0 klr F0) m0 K .normal (act n l D pm ro) h) B w0 kl F := by
 intro w s
 refine k_ln (m x) hm hl ⟨x, w, rfl, rfl, rfl, ?_, hi⟩
 have s' := (s.selL hk).drop
 exact ⟨s'.agree, s'.le, s'.zold, s'.own, fun f hf => (List.mem_append.1 hf).elim (fun hf => s.facts f (hF.mem f hf)) (fun hf => s.facts f (hF0.mem f hf))⟩
end
end Go.Ideal

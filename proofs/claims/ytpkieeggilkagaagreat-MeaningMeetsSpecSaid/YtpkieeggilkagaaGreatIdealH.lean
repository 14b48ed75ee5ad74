/-
  The ideal machine, 40: single steps, as laws.
-/
import Derived.Test.YtpkieeggilkagaaGreatIdealG
import Derived.ChangeStays
import Derived.ChangeSame
import Derived.Below
import Derived.ChangeSlices
import Derived.ProofKit
set_option linter.unusedSimpArgs false
set_option linter.unusedVariables false
set_option linter.unusedSimpArgs false
set_option linter.unusedVariables false
namespace Go.Ideal
variable {P : Program}

/-! ### What stands where -/
def At (h : IH) (b : Nat) (o : IObj) : Prop := b < h.next ∧ h.get b = some o

structure Agree (h h' : IH) : Prop where
  next : h.next ≤ h'.next
  get : ∀ i, i < h.next → h'.get i = h.get i
  low : h.low ≤ h.next → h'.low = h.low

theorem Agree.refl (h : IH) : Agree h h := ⟨Nat.le_refl _, fun _ _ => rfl, fun _ => rfl⟩
theorem Agree.trans {h h1 h2 : IH} (a : Agree h h1) (b : Agree h1 h2) : Agree h h2 :=
  ⟨Nat.le_trans a.next b.next, fun i hi => (b.get i (Nat.lt_of_lt_of_le hi a.next)).trans (a.get i hi), fun hl => (b.low (by rw [a.low hl]; exact Nat.le_trans hl a.next)).trans (a.low hl)⟩
theorem At.agree {h h' : IH} {b : Nat} {o : IObj} (a : At h b o) (g : Agree h h') : At h' b o := ⟨Nat.lt_of_lt_of_le a.1 g.next, (g.get b a.1).trans a.2⟩

/-- a new object -/
theorem new_agree (h : IH) (o : IObj) : Agree h (h.new o) := ⟨Nat.le_succ _, fun i hi => by rw [IH.get_new, if_neg (by omega)], fun _ => rfl⟩
theorem new_at (h : IH) (o : IObj) : At (h.new o) h.next o := ⟨Nat.lt_succ_self _, by rw [IH.get_new, if_pos rfl]⟩

/-- one object turned -/
structure Turn (h h' : IH) (b : Nat) (o : IObj) : Prop where
  next : h'.next = h.next
  get : ∀ i, i ≠ b → h'.get i = h.get i
  at_ : At h' b o
  low : h.low ≤ b → h'.low = h.low

theorem set_turn {h : IH} {b : Nat} {o : IObj} (hb : b < h.next) : Turn h (h.set b o) b o :=
  ⟨rfl, fun i hi => by rw [IH.get_set, if_neg hi], ⟨hb, by rw [IH.get_set, if_pos rfl]⟩, fun hl => by rw [IH.low_set]; omega⟩
theorem At.turn {h h' : IH} {b c : Nat} {o o' : IObj} (a : At h c o') (t : Turn h h' b o) (hn : c ≠ b) : At h' c o' := ⟨by rw [t.next]; exact a.1, (t.get c hn).trans a.2⟩
theorem Agree.turn {h0 h h' : IH} {b : Nat} {o : IObj} (a : Agree h0 h) (t : Turn h h' b o) (hn : h0.next ≤ b) : Agree h0 h' :=
  ⟨by rw [t.next]; exact a.next, fun i hi => (t.get i (by omega)).trans (a.get i hi), fun hl => (t.low (by rw [a.low hl]; omega)).trans (a.low hl)⟩

/-- cells, to be read -/
def Cells (h : IH) (b : Nat) (cs : List Value) : Prop := b < h.next ∧ (h.get b = some (.cells cs) ∨ h.get b = some (.roc cs))

theorem At.c {h : IH} {b : Nat} {cs : List Value} (a : At h b (.cells cs)) : Cells h b cs := ⟨a.1, .inl a.2⟩
theorem Cells.agree {h h' : IH} {b : Nat} {cs : List Value} (a : Cells h b cs) (g : Agree h h') : Cells h' b cs := ⟨Nat.lt_of_lt_of_le a.1 g.next, by rw [g.get b a.1]; exact a.2⟩
theorem Cells.turn {h h' : IH} {b c : Nat} {o : IObj} {cs : List Value} (a : Cells h c cs) (t : Turn h h' b o) (hn : c ≠ b) : Cells h' c cs := ⟨by rw [t.next]; exact a.1, by rw [t.get c hn]; exact a.2⟩
theorem Cells.read1 {h : IH} {b : Nat} {cs : List Value} (a : Cells h b cs) (o : Nat) : h.read1 b o = cs[o]? := by
  rcases a.2 with e | e <;> simp only [IH.read1, e, lget_eq]
theorem Cells.readAt {h : IH} {b : Nat} {cs : List Value} (a : Cells h b cs) (o m : Nat) : h.readAt b o m = ltake (ldrop cs o) m := by
  rcases a.2 with e | e <;> simp only [IH.readAt, e]

/-- a slice of numbers -/
def IntsAt (h : IH) (v : Value) (xs : List Int) : Prop :=
  (xs = [] ∧ ∃ a m c, v = .slice a m c ∧ m = 0) ∨
  ∃ i o f c cs, v = .slice (some ⟨i, o, some f⟩) xs.length c ∧ Cells h i cs ∧ ∀ (k : Nat) x, xs[k]? = some x → cs[o + k]? = some (.int .i64 x)

theorem IntsAt.agree {h h' : IH} {v : Value} {xs : List Int} (a : IntsAt h v xs) (g : Agree h h') : IntsAt h' v xs := by
  rcases a with h1 | ⟨i, o, f, c, cs, h1, h2, h3⟩
  · exact .inl h1
  · exact .inr ⟨i, o, f, c, cs, h1, h2.agree g, h3⟩

/-- its form -/
theorem IntsAt.form {h : IH} {v : Value} {xs : List Int} (a : IntsAt h v xs) : ∃ b c, v = .slice b xs.length c := by
  rcases a with ⟨rfl, a, m, c, rfl, rfl⟩ | ⟨i, o, f, c, cs, h1, _⟩
  · exact ⟨a, c, rfl⟩
  · exact ⟨_, c, h1⟩

theorem IntsAt.elem {h : IH} {b : Option Addr} {n c : Nat} {xs : List Int} (a : IntsAt h (.slice b n c) xs) {k : Nat} (hk : k < n) :
    n = xs.length ∧ ∃ i o f cs x, b = some ⟨i, o, some f⟩ ∧ Cells h i cs ∧ xs[k]? = some x ∧ cs[o + k]? = some (.int .i64 x) := by
  rcases a with ⟨rfl, a, m, c, h1, rfl⟩ | ⟨i, o, f, c, cs, h1, h2, h3⟩
  · cases h1; omega
  · cases h1
    exact ⟨rfl, i, o, f, cs, xs[k], rfl, h2, by simp [hk], h3 k _ (by simp [hk])⟩

def gok (l : List (Nat × Value)) (g : Option (Tmp × Bool)) : Bool :=
  match g with
  | none => true
  | some (t, w) => match lk l t with
    | .bool b => cond w b (!b)
    | _ => false

def gskip (l : List (Nat × Value)) (g : Option (Tmp × Bool)) : Bool :=
  match g with
  | none => false
  | some (t, w) => match lk l t with
    | .bool b => cond w (!b) b
    | .chan _ => true
    | _ => false

theorem goInt_ofNat (n : Nat) : goInt n = .int .i64 (n : Int) := rfl

section
variable {ds : List Tmp} {rest : List PStep} {n : Nat} {l : List (Nat × Value)} {D : List Deferred} {pm : Option FrameMode} {ro : Option Nat} {h : IH} {K : KO} {d : Nat} {g : Option (Tmp × Bool)}

theorem wants_gok (hg : gok l g = true) : (act n l D pm ro).wants g = some true := by
  cases g with
  | none => rfl
  | some p =>
    obtain ⟨t, w⟩ := p
    rw [wants_act]
    simp only [gok] at hg
    split at hg
    · rename_i b hb; rw [hb]; simp only [hg]
    · cases hg

theorem s_skip (hn : Nat.blt d n = true) (hg : gskip l g = true) {op : COp} {re : List CStep} (next : OPS P ds rest (act n ((d, skipV) :: l) D pm ro) h K) : OPS P ds (⟨⟨some d, g, op⟩, re⟩ :: rest) (act n l D pm ro) h K := by
  refine .skip ?_ (by rw [put_act hn]; exact next)
  show (act n l D pm ro).wants g = some false
  cases g with
  | none => cases hg
  | some p =>
    obtain ⟨t, w⟩ := p
    rw [wants_act]
    simp only [gskip] at hg
    split at hg
    · rename_i b hb
      rw [hb]
      cases w <;> cases b <;> simp_all
    · rename_i b hb; rw [hb]
    · cases hg

theorem s_run {op : COp} {v : Value} {h' : IH} (hn : Nat.blt d n = true) (hg : gok l g = true) (hr : op.run P (ev l) h = some (v, h'))
    (next : OPS P ds rest (act n ((d, v) :: l) D pm ro) h' K) : OPS P ds (⟨⟨some d, g, op⟩, []⟩ :: rest) (act n l D pm ro) h K :=
  .det (wants_gok hg) v h' (by rw [eval_act]; exact hr) (by intro r hr; cases hr) (by rw [put_act hn]; exact next)

theorem s_run0 {op : COp} {v : Value} {h' : IH} (hg : gok l g = true) (hr : op.run P (ev l) h = some (v, h'))
    (next : OPS P ds rest (act n l D pm ro) h' K) : OPS P ds (⟨⟨none, g, op⟩, []⟩ :: rest) (act n l D pm ro) h K :=
  .det (wants_gok hg) v h' (by rw [eval_act]; exact hr) (by intro r hr; cases hr) next

theorem s_mv {x : Operand} {v : Value} (hn : Nat.blt d n = true) (hg : gok l g = true) (hx : ev l x = v)
    (next : OPS P ds rest (act n ((d, v) :: l) D pm ro) h K) : OPS P ds (⟨⟨some d, g, .mv x⟩, []⟩ :: rest) (act n l D pm ro) h K :=
  s_run hn hg (by simp only [COp.run, hx]) next
theorem s_asg {x : Operand} {v : Value} (hn : Nat.blt d n = true) (hg : gok l g = true) (hx : ev l x = v)
    (next : OPS P ds rest (act n ((d, v) :: l) D pm ro) h K) : OPS P ds (⟨⟨some d, g, .asg x⟩, []⟩ :: rest) (act n l D pm ro) h K :=
  s_run hn hg (by simp only [COp.run, hx]) next
theorem s_pickT {c x y : Operand} {v : Value} (hn : Nat.blt d n = true) (hg : gok l g = true) (hc : ev l c = .bool true) (hx : ev l x = v)
    (next : OPS P ds rest (act n ((d, v) :: l) D pm ro) h K) : OPS P ds (⟨⟨some d, g, .pick c x y⟩, []⟩ :: rest) (act n l D pm ro) h K :=
  s_run hn hg (by simp only [COp.run, hc, hx, cond]) next
theorem s_pickF {c x y : Operand} {v : Value} (hn : Nat.blt d n = true) (hg : gok l g = true) (hc : ev l c = .bool false) (hx : ev l y = v)
    (next : OPS P ds rest (act n ((d, v) :: l) D pm ro) h K) : OPS P ds (⟨⟨some d, g, .pick c x y⟩, []⟩ :: rest) (act n l D pm ro) h K :=
  s_run hn hg (by simp only [COp.run, hc, hx, cond]) next
theorem s_not {x : Operand} {b : Bool} (hn : Nat.blt d n = true) (hg : gok l g = true) (hx : ev l x = .bool b)
    (next : OPS P ds rest (act n ((d, .bool !b) :: l) D pm ro) h K) : OPS P ds (⟨⟨some d, g, .un .not x⟩, []⟩ :: rest) (act n l D pm ro) h K :=
  s_run hn hg (by simp only [COp.run, hx]; rfl) next
theorem s_len {x : Operand} {a : Option Addr} {m c : Nat} (hn : Nat.blt d n = true) (hg : gok l g = true) (hx : ev l x = .slice a m c)
    (next : OPS P ds rest (act n ((d, .int .i64 (m : Int)) :: l) D pm ro) h K) : OPS P ds (⟨⟨some d, g, .lenSl x⟩, []⟩ :: rest) (act n l D pm ro) h K :=
  s_run hn hg (by simp only [COp.run, hx, goInt_ofNat]) next

theorem binI_int (op : BinOp) (t : TypeId) (x y : Operand) (a b : Int) (v : Value) (hv : intI op .i64 a b = some v) : binI P op t x y (.int .i64 a) (.int .i64 b) = some v := by
  simp only [binI, sameK, cond, hv]

theorem s_lss {x y : Operand} {t : TypeId} {a b : Int} (hn : Nat.blt d n = true) (hg : gok l g = true) (hx : ev l x = .int .i64 a) (hy : ev l y = .int .i64 b)
    (next : OPS P ds rest (act n ((d, .bool (decide (a < b))) :: l) D pm ro) h K) : OPS P ds (⟨⟨some d, g, .bin .lss t x y⟩, []⟩ :: rest) (act n l D pm ro) h K :=
  s_run hn hg (by simp only [COp.run, hx, hy]; rw [binI_int (v := .bool (decide (a < b)))]; simp [intI, leZ_iff, ← Int.not_le]) next
theorem s_leq {x y : Operand} {t : TypeId} {a b : Int} (hn : Nat.blt d n = true) (hg : gok l g = true) (hx : ev l x = .int .i64 a) (hy : ev l y = .int .i64 b)
    (next : OPS P ds rest (act n ((d, .bool (decide (a ≤ b))) :: l) D pm ro) h K) : OPS P ds (⟨⟨some d, g, .bin .leq t x y⟩, []⟩ :: rest) (act n l D pm ro) h K :=
  s_run hn hg (by simp only [COp.run, hx, hy]; rw [binI_int (v := .bool (decide (a ≤ b)))]; simp [intI, leZ_iff]) next
theorem s_gtr {x y : Operand} {t : TypeId} {a b : Int} (hn : Nat.blt d n = true) (hg : gok l g = true) (hx : ev l x = .int .i64 a) (hy : ev l y = .int .i64 b)
    (next : OPS P ds rest (act n ((d, .bool (decide (b < a))) :: l) D pm ro) h K) : OPS P ds (⟨⟨some d, g, .bin .gtr t x y⟩, []⟩ :: rest) (act n l D pm ro) h K :=
  s_run hn hg (by simp only [COp.run, hx, hy]; rw [binI_int (v := .bool (decide (b < a)))]; simp [intI, leZ_iff, ← Int.not_le]) next
theorem s_geq {x y : Operand} {t : TypeId} {a b : Int} (hn : Nat.blt d n = true) (hg : gok l g = true) (hx : ev l x = .int .i64 a) (hy : ev l y = .int .i64 b)
    (next : OPS P ds rest (act n ((d, .bool (decide (b ≤ a))) :: l) D pm ro) h K) : OPS P ds (⟨⟨some d, g, .bin .geq t x y⟩, []⟩ :: rest) (act n l D pm ro) h K :=
  s_run hn hg (by simp only [COp.run, hx, hy]; rw [binI_int (v := .bool (decide (b ≤ a)))]; simp [intI, leZ_iff]) next
theorem s_eql {x y : Operand} {t : TypeId} {a b : Int} (hn : Nat.blt d n = true) (hg : gok l g = true) (hx : ev l x = .int .i64 a) (hy : ev l y = .int .i64 b)
    (next : OPS P ds rest (act n ((d, .bool (decide (a = b))) :: l) D pm ro) h K) : OPS P ds (⟨⟨some d, g, .bin .eql t x y⟩, []⟩ :: rest) (act n l D pm ro) h K :=
  s_run hn hg (by simp only [COp.run, hx, hy]; rw [binI_int (v := .bool (decide (a = b)))]; simp [intI, eqZ_iff]; rfl) next
theorem s_neq {x y : Operand} {t : TypeId} {a b : Int} (hn : Nat.blt d n = true) (hg : gok l g = true) (hx : ev l x = .int .i64 a) (hy : ev l y = .int .i64 b)
    (next : OPS P ds rest (act n ((d, .bool (decide (a ≠ b))) :: l) D pm ro) h K) : OPS P ds (⟨⟨some d, g, .bin .neq t x y⟩, []⟩ :: rest) (act n l D pm ro) h K :=
  s_run hn hg (by simp only [COp.run, hx, hy]; rw [binI_int (v := .bool (decide (a ≠ b)))]; simp [intI, eqZ_iff]; rfl) next

theorem wrap_in {m : Int} (h1 : -9223372036854775808 ≤ m) (h2 : m < 9223372036854775808) : wrapI .i64 m = m := by
  rw [wrapI_eq]
  exact IntWalk.i64_in m ⟨h1, by omega⟩
theorem s_add {x y : Operand} {t : TypeId} {a b : Int} (hn : Nat.blt d n = true) (hg : gok l g = true) (hx : ev l x = .int .i64 a) (hy : ev l y = .int .i64 b)
    (h1 : -9223372036854775808 ≤ a + b) (h2 : a + b < 9223372036854775808)
    (next : OPS P ds rest (act n ((d, .int .i64 (a + b)) :: l) D pm ro) h K) : OPS P ds (⟨⟨some d, g, .bin .add t x y⟩, []⟩ :: rest) (act n l D pm ro) h K :=
  s_run hn hg (by simp only [COp.run, hx, hy]; rw [binI_int (v := .int .i64 (a + b))]; simp only [intI, addZ_eq, wrap_in h1 h2]) next
theorem s_sub {x y : Operand} {t : TypeId} {a b : Int} (hn : Nat.blt d n = true) (hg : gok l g = true) (hx : ev l x = .int .i64 a) (hy : ev l y = .int .i64 b)
    (h1 : -9223372036854775808 ≤ a - b) (h2 : a - b < 9223372036854775808)
    (next : OPS P ds rest (act n ((d, .int .i64 (a - b)) :: l) D pm ro) h K) : OPS P ds (⟨⟨some d, g, .bin .sub t x y⟩, []⟩ :: rest) (act n l D pm ro) h K :=
  s_run hn hg (by simp only [COp.run, hx, hy]; rw [binI_int (v := .int .i64 (a - b))]; simp only [intI, subZ_eq, wrap_in h1 h2]) next

theorem blt_t {a b : Nat} (h : a < b) : Nat.blt a b = true := by simp only [Nat.blt_eq]; exact h

theorem s_idxSl {x i : Operand} {size b o m c : Nat} {f : Option Nat} {k : Int} {kk : IntKind} (hn : Nat.blt d n = true) (hg : gok l g = true) (hx : ev l x = .slice (some ⟨b, o, f⟩) m c) (hi : ev l i = .int kk k)
    (h0 : 0 ≤ k) (h1 : k < m) (next : OPS P ds rest (act n ((d, .pointer (some ⟨b, o + k.toNat * size, none⟩)) :: l) D pm ro) h K) : OPS P ds (⟨⟨some d, g, .idxSl size x i⟩, []⟩ :: rest) (act n l D pm ro) h K := by
  obtain ⟨j, rfl⟩ := Int.eq_ofNat_of_zero_le h0
  refine s_run hn hg ?_ next
  simp only [COp.run, hx, hi]
  show cond (Nat.blt j m) _ _ = _
  rw [blt_t (by omega)]; rfl
theorem s_idxArr {x i : Operand} {m size b o : Nat} {k : Int} {kk : IntKind} (hn : Nat.blt d n = true) (hg : gok l g = true) (hx : ev l x = .pointer (some ⟨b, o, none⟩)) (hi : ev l i = .int kk k)
    (h0 : 0 ≤ k) (h1 : k < m) (next : OPS P ds rest (act n ((d, .pointer (some ⟨b, o + k.toNat * size, none⟩)) :: l) D pm ro) h K) : OPS P ds (⟨⟨some d, g, .idxArr m size x i⟩, []⟩ :: rest) (act n l D pm ro) h K := by
  obtain ⟨j, rfl⟩ := Int.eq_ofNat_of_zero_le h0
  refine s_run hn hg ?_ next
  simp only [COp.run, hx, hi]
  show cond (Nat.blt j m) _ _ = _
  rw [blt_t (by omega)]; rfl
theorem s_fieldA {x : Operand} {off b o : Nat} (hn : Nat.blt d n = true) (hg : gok l g = true) (hx : ev l x = .pointer (some ⟨b, o, none⟩))
    (next : OPS P ds rest (act n ((d, .pointer (some ⟨b, o + off, none⟩)) :: l) D pm ro) h K) : OPS P ds (⟨⟨some d, g, .fieldA off x⟩, []⟩ :: rest) (act n l D pm ro) h K :=
  s_run hn hg (by simp only [COp.run, hx]; rfl) next
theorem s_load1 {x : Operand} {b o : Nat} {cs : List Value} {v : Value} (hn : Nat.blt d n = true) (hg : gok l g = true) (hx : ev l x = .pointer (some ⟨b, o, none⟩)) (ha : At h b (.cells cs)) (hv : cs[o]? = some v)
    (next : OPS P ds rest (act n ((d, v) :: l) D pm ro) h K) : OPS P ds (⟨⟨some d, g, .load1 x⟩, []⟩ :: rest) (act n l D pm ro) h K :=
  s_run hn hg (by simp only [COp.run, hx, ha.c.read1, hv]) next
theorem s_loadR {x : Operand} {b o : Nat} {cs : List Value} {v : Value} (hn : Nat.blt d n = true) (hg : gok l g = true) (hx : ev l x = .pointer (some ⟨b, o, none⟩)) (ha : Cells h b cs) (hv : cs[o]? = some v)
    (next : OPS P ds rest (act n ((d, v) :: l) D pm ro) h K) : OPS P ds (⟨⟨some d, g, .load1 x⟩, []⟩ :: rest) (act n l D pm ro) h K :=
  s_run hn hg (by simp only [COp.run, hx, ha.read1, hv]) next
theorem s_loadN {x : Operand} {b o m : Nat} {cs r : List Value} (hn : Nat.blt d n = true) (hg : gok l g = true) (hx : ev l x = .pointer (some ⟨b, o, none⟩)) (ha : At h b (.cells cs)) (hv : ltake (ldrop cs o) m = some r)
    (next : OPS P ds rest (act n ((d, .agg ⟨r⟩) :: l) D pm ro) h K) : OPS P ds (⟨⟨some d, g, .loadN m x⟩, []⟩ :: rest) (act n l D pm ro) h K :=
  s_run hn hg (by simp only [COp.run, hx, ha.c.readAt, hv]) next
theorem s_extract {x : Operand} {i : Nat} {vs : List Value} {v : Value} (hn : Nat.blt d n = true) (hg : gok l g = true) (hx : ev l x = .tuple ⟨vs⟩) (hv : lget vs i = some v)
    (next : OPS P ds rest (act n ((d, v) :: l) D pm ro) h K) : OPS P ds (⟨⟨some d, g, .extract x i⟩, []⟩ :: rest) (act n l D pm ro) h K :=
  s_run hn hg (by simp only [COp.run, hx, hv]) next
theorem s_iface {x : Operand} {t : TypeId} {v : Value} (hn : Nat.blt d n = true) (hg : gok l g = true) (hx : ev l x = v)
    (next : OPS P ds rest (act n ((d, .iface t v) :: l) D pm ro) h K) : OPS P ds (⟨⟨some d, g, .iface t x⟩, []⟩ :: rest) (act n l D pm ro) h K :=
  s_run hn hg (by simp only [COp.run, hx]) next
theorem s_build {zero cs : List Value} {parts : List (Nat × Nat × Operand)} (hn : Nat.blt d n = true) (hg : gok l g = true) (hx : fillI (ev l) zero parts = some cs)
    (next : OPS P ds rest (act n ((d, .agg ⟨cs⟩) :: l) D pm ro) h K) : OPS P ds (⟨⟨some d, g, .build zero parts⟩, []⟩ :: rest) (act n l D pm ro) h K :=
  s_run hn hg (by simp only [COp.run, hx]) next

/-- what makes one object -/
theorem s_new {cs : List Value} {t : TypeId} (hn : Nat.blt d n = true) (hg : gok l g = true)
    (next : ∀ h', Agree h h' → At h' h.next (.cells cs) → h'.next = h.next + 1 → OPS P ds rest (act n ((d, .pointer (some ⟨h.next, 0, none⟩)) :: l) D pm ro) h' K) : OPS P ds (⟨⟨some d, g, .new cs t⟩, []⟩ :: rest) (act n l D pm ro) h K :=
  s_run hn hg (h' := h.new (.cells cs)) (by simp only [COp.run, COp.alloc, allocI]) (next _ (new_agree _ _) (new_at _ _) rfl)
theorem s_box {x : Operand} {t : TypeId} {cs : List Value} (hn : Nat.blt d n = true) (hg : gok l g = true) (hx : cellsOf (ev l x) = some cs)
    (next : ∀ h', Agree h h' → At h' h.next (.cells cs) → h'.next = h.next + 1 → OPS P ds rest (act n ((d, .pointer (some ⟨h.next, 0, none⟩)) :: l) D pm ro) h' K) : OPS P ds (⟨⟨some d, g, .box x t⟩, []⟩ :: rest) (act n l D pm ro) h K :=
  s_run hn hg (h' := h.new (.cells cs)) (by simp only [COp.run, COp.alloc, allocI, hx]) (next _ (new_agree _ _) (new_at _ _) rfl)
theorem s_bslice {t : TypeId} {len : Nat} {zero cs : List Value} {parts : List (Nat × Nat × Operand)} (hn : Nat.blt d n = true) (hg : gok l g = true) (hx : fillI (ev l) zero parts = some cs)
    (next : ∀ h', Agree h h' → At h' h.next (.cells cs) → h'.next = h.next + 1 → OPS P ds rest (act n ((d, .slice (some ⟨h.next, 0, some 0⟩) len len) :: l) D pm ro) h' K) : OPS P ds (⟨⟨some d, g, .bslice t len zero parts⟩, []⟩ :: rest) (act n l D pm ro) h K :=
  s_run hn hg (h' := h.new (.cells cs)) (by simp only [COp.run, COp.alloc, allocI, hx, exactA]) (next _ (new_agree _ _) (new_at _ _) rfl)
theorem s_mkslice {e : TypeId} {size bytes m : Nat} {zero : List Value} {x y : Operand} (hn : Nat.blt d n = true) (hg : gok l g = true) (hx : ev l x = .int .i64 (m : Int)) (hy : ev l y = .int .i64 (m : Int))
    (hm : m * bytes ≤ 1073741824 ∧ m * size ≤ 1073741824 ∧ m ≤ 1073741824)
    (next : ∀ h', Agree h h' → At h' h.next (.cells (zeros zero m)) → h'.next = h.next + 1 → OPS P ds rest (act n ((d, .slice (some ⟨h.next, 0, some 0⟩) m m) :: l) D pm ro) h' K) : OPS P ds (⟨⟨some d, g, .mkslice e size bytes zero x y⟩, []⟩ :: rest) (act n l D pm ro) h K := by
  have hle : ∀ {a b : Nat}, a ≤ b → Nat.ble a b = true := fun h => by rw [Nat.ble_eq]; exact h
  refine s_run hn hg (h' := h.new (.cells (zeros zero m))) ?_ (next _ (new_agree _ _) (new_at _ _) rfl)
  simp only [COp.run, COp.alloc, hx, hy]
  show allocI (cond (Nat.ble m m && Nat.ble (m * bytes) small && Nat.ble (m * size) small && Nat.ble m small) _ _) h = _
  rw [hle (Nat.le_refl m), hle (show m * bytes ≤ small from hm.1), hle (show m * size ≤ small from hm.2.1), hle (show m ≤ small from hm.2.2)]
  rfl

theorem lover_one : ∀ (cs : List Value) (o : Nat) (v : Value), o < cs.length → lover cs o [v] = some (cs.set o v)
  | [], o, v, h => by simp at h
  | c :: cs, 0, v, _ => by rw [lover_cons]; cases cs <;> rfl
  | c :: cs, o + 1, v, h => by rw [lover_succ, lover_one cs o v (by simpa using h)]; rfl

theorem s_store1 {x y : Operand} {b o : Nat} {cs : List Value} {v : Value} (hg : gok l g = true) (hx : ev l x = .pointer (some ⟨b, o, none⟩)) (hy : ev l y = v) (hv : cellsOf v = some [v]) (ha : At h b (.cells cs)) (ho : o < cs.length)
    (next : ∀ h', Turn h h' b (.cells (cs.set o v)) → OPS P ds rest (act n l D pm ro) h' K) : OPS P ds (⟨⟨none, g, .store 1 x y⟩, []⟩ :: rest) (act n l D pm ro) h K := by
  refine s_run0 hg (v := unk) (h' := h.set b (.cells (cs.set o v))) ?_ (next _ (set_turn ha.1))
  simp only [COp.run, hx, hy, hv]
  show cond (Nat.beq 1 1) _ _ = _
  simp only [IH.storeAt, ha.2, lover_one cs o v ho]; rfl
theorem s_storeN {x y : Operand} {b o m : Nat} {cs vs r : List Value} (hg : gok l g = true) (hx : ev l x = .pointer (some ⟨b, o, none⟩)) (hy : cellsOf (ev l y) = some vs) (hm : Nat.beq (llen vs) m = true) (ha : At h b (.cells cs)) (ho : lover cs o vs = some r)
    (next : ∀ h', Turn h h' b (.cells r) → OPS P ds rest (act n l D pm ro) h' K) : OPS P ds (⟨⟨none, g, .store m x y⟩, []⟩ :: rest) (act n l D pm ro) h K := by
  refine s_run0 hg (v := unk) (h' := h.set b (.cells r)) ?_ (next _ (set_turn ha.1))
  simp only [COp.run, hx, hy, hm]
  simp only [IH.storeAt, ha.2, ho]; rfl

/-- a call, with what is to read the same behind it -/
theorem s_call {f : Operand} {args : List Operand} {re : List CStep} (hn : Nat.blt d n = true) (hg : gok l g = true) (fn : Fn) {first captured : List Value} (hf : ev l f = .func fn ⟨first⟩ ⟨captured⟩) (M : KR)
    (hc : CALL P ⟨fn, first ++ args.map (ev l), captured, none⟩ h M)
    (hs : ∀ v h', M (.ok v) none h' → ∀ r ∈ re, ∃ u h2, r.op.run P (ev ((d, v) :: l)) h' = some (u, h2) ∧ ∀ d', r.dst = some d' → lk ((d, v) :: l) d' = u)
    (hok : ∀ v h', M (.ok v) none h' → OPS P ds rest (act n ((d, v) :: l) D pm ro) h' K)
    (hpan : ∀ ch h', M (.pan ch) none h' → K (.panic ch) (forget ds (act n l D pm ro)) h') (hno : ∀ r p h', M r p h' → p = none) : OPS P ds (⟨⟨some d, g, .call f args⟩, re⟩ :: rest) (act n l D pm ro) h K := by
  refine .call (wants_gok hg) ⟨fn, first ++ args.map (ev l), captured, none⟩ (by simp only [reqOf, eval_act, hf, lapp_eq, lmap_eq]) M hc ?_ ?_ ?_
  · intro v p h' hm r hr _
    have := hno _ _ _ hm; subst this
    obtain ⟨u, h2, e1, e2⟩ := hs v h' hm r hr
    rw [put_act hn]
    exact ⟨u, h2, by rw [eval_act]; exact e1, fun d' hd => by rw [← e2 d' hd]; exact tget_envT _ _⟩
  · intro v p h' hm
    have := hno _ _ _ hm; subst this
    rw [put_act hn]; exact hok v h' hm
  · intro ch p h' hm
    have := hno _ _ _ hm; subst this
    exact hpan ch h' hm

theorem resultsI_tmp (t : Tmp) : resultsI [.tmp t] (envT l) h = some (lk l t) := by
  show (match resAll (envT l) h [.tmp t] with
    | some [v] => some v
    | some vs => some (.tuple ⟨vs⟩)
    | none => none) = _
  show (match (some [tget (envT l) t] : Option (List Value)) with
    | some [v] => some v
    | some vs => some (.tuple ⟨vs⟩)
    | none => none) = _
  rw [tget_envT]

theorem resultsI_tmp2 (t u : Tmp) : resultsI [.tmp t, .tmp u] (envT l) h = some (.tuple ⟨[lk l t, lk l u]⟩) := by
  show some (Value.tuple ⟨[tget (envT l) t, tget (envT l) u]⟩) = _
  rw [tget_envT, tget_envT]

theorem r_tmp {cf : CFunc} {K : KR} (t : Tmp) {v : Value} (hr : cf.results = [.tmp t]) (hv : lk l t = v) (hk : K (.ok v) pm h) : retK cf K .ret (act n l [] pm ro) h :=
  ⟨v, by rw [hr, ← hv]; exact resultsI_tmp t, rfl, hk⟩

theorem r_tmp2 {cf : CFunc} {K : KR} (t u : Tmp) {v w : Value} (hr : cf.results = [.tmp t, .tmp u]) (hv : lk l t = v) (hw : lk l u = w) (hk : K (.ok (.tuple ⟨[v, w]⟩)) pm h) : retK cf K .ret (act n l [] pm ro) h :=
  ⟨_, by rw [hr]; exact resultsI_tmp2 t u, rfl, by rw [hv, hw]; exact hk⟩

/-! ### On to what comes behind -/
section
variable {a : IAct} {x y : CCode} {i j m0 : Nat} {I : Nat → IAct → IH → Prop} {ch : List PanicEntry}
theorem k_sn (k : EV P y a h K) : seqK P y K .normal a h := k
theorem k_sr (k : K .ret a h) : seqK P y K .ret a h := k
theorem k_se (k : K (.exit j) a h) : seqK P y K (.exit j) a h := k
theorem k_sp (k : K (.panic ch) a h) : seqK P y K (.panic ch) a h := k
theorem k_bn (k : K .normal a h) : blockK i K .normal a h := k
theorem k_br (k : K .ret a h) : blockK i K .ret a h := k
theorem k_bp (k : K (.panic ch) a h) : blockK i K (.panic ch) a h := k
theorem k_be (e : Nat.beq j i = true) (k : K .normal a h) : blockK i K (.exit j) a h := by
  have : j = i := beq_t e
  subst this
  show K (inBlock j (.exit j)) a h
  simp only [inBlock]
  rw [e]; exact k
theorem k_bf (e : Nat.beq j i = false) (k : K (.exit j) a h) : blockK i K (.exit j) a h := by
  show K (inBlock i (.exit j)) a h
  simp only [inBlock]
  rw [e]; exact k
theorem k_lr (k : K .ret a h) : loopK I m0 K .ret a h := k
theorem k_le (k : K (.exit j) a h) : loopK I m0 K (.exit j) a h := k
theorem k_lp (k : K (.panic ch) a h) : loopK I m0 K (.panic ch) a h := k
end
theorem k_ln {l0 : List (Nat × Value)} {I : Nat → IAct → IH → Prop} {m0 : Nat} (m' : Nat) (hlt : m' < m0) (hs : sub l0 l) (k : I m' (act n l0 D pm ro) h) : loopK I m0 K .normal (act n l D pm ro) h :=
  ⟨m', _, hlt, weaker_act hs, k⟩

end
end Go.Ideal

/-
  The ideal machine, 41: steps that call back, append, and end.
-/
set_option linter.unusedSimpArgs false
set_option linter.unusedVariables false
namespace Go.Ideal
variable {P : Program}
section
variable {ds : List Tmp} {rest : List PStep} {n : Nat} {l : List (Nat × Value)} {D : List Deferred} {pm : Option FrameMode} {ro : Option Nat} {h : IH} {K : KO} {d : Nat} {g : Option (Tmp × Bool)}

/-- an object of ours has been left for a new one -/
structure Moved (h h' : IH) (b : Nat) (o : IObj) : Prop where
  next : h'.next = h.next + 1
  get : ∀ i, i < h.next → i ≠ b → h'.get i = h.get i
  at_ : At h' h.next o
  low : h.low ≤ b → h'.low = h.low

theorem Agree.moved {h0 h h' : IH} {b : Nat} {o : IObj} (a : Agree h0 h) (t : Moved h h' b o) (hn : h0.next ≤ b) : Agree h0 h' :=
  ⟨by rw [t.next]; exact Nat.le_succ_of_le a.next, fun i hi => (t.get i (Nat.lt_of_lt_of_le hi a.next) (by omega)).trans (a.get i hi), fun hl => (t.low (by rw [a.low hl]; omega)).trans (a.low hl)⟩
theorem At.moved {h h' : IH} {b c : Nat} {o o' : IObj} (a : At h c o') (t : Moved h h' b o) (hn : c ≠ b) : At h' c o' :=
  ⟨by rw [t.next]; exact Nat.lt_succ_of_lt a.1, (t.get c a.1 hn).trans a.2⟩

/-- append to a slice that is full -/
theorem s_append {e : TypeId} {size bytes b o m k : Nat} {f : Option Nat} {s x : Operand} {old xs : List Value} (hn : Nat.blt d n = true) (hg : gok l g = true)
    (hs : ev l s = .slice (some ⟨b, o, f⟩) m m) (hx : lenI (ev l x) = some (k + 1)) (hxs : firstI size (k + 1) (ev l x) h = some xs) (hold : h.readAt b o (m * size) = some old)
    (hf : f = some 0 ∨ f = some size) (hm : (m + (k + 1)) * bytes ≤ 1073741824 ∧ (m + (k + 1)) * size ≤ 1073741824 ∧ m + (k + 1) ≤ 1073741824)
    (next : ∀ h', Moved h h' b (.cells (old ++ xs)) → OPS P ds rest (act n ((d, .slice (some ⟨h.next, 0, some size⟩) (m + (k + 1)) (m + (k + 1))) :: l) D pm ro) h' K) :
    OPS P ds (⟨⟨some d, g, .append e size bytes s x⟩, []⟩ :: rest) (act n l D pm ro) h K := by
  have hle : ∀ {a b : Nat}, a ≤ b → Nat.ble a b = true := fun h => by rw [Nat.ble_eq]; exact h
  have hlt : Nat.ble (m + (k + 1)) m = false := by
    cases hb : Nat.ble (m + (k + 1)) m with
    | false => rfl
    | true => have := Nat.le_of_ble_eq_true hb; omega
  have hc : (Nat.ble (Nat.mul (m + (k + 1)) bytes) small && Nat.ble (Nat.mul (m + (k + 1)) size) small && Nat.ble (m + (k + 1)) small) = true := by
    rw [hle (show Nat.mul (m + (k + 1)) bytes ≤ small from hm.1), hle (show Nat.mul (m + (k + 1)) size ≤ small from hm.2.1), hle (show m + (k + 1) ≤ small from hm.2.2)]; rfl
  have hrun : ∃ h', (COp.append e size bytes s x).run P (ev l) h = some (.slice (some ⟨h.next, 0, some size⟩) (m + (k + 1)) (m + (k + 1)), h') ∧ Moved h h' b (.cells (old ++ xs)) := by
    simp only [COp.run, hx, hxs, hs, appendI]
    have e1 : firstI size m (.slice (some ⟨b, o, f⟩) m m) h = some old := hold
    show ∃ h', (cond (Nat.ble (Nat.mul (m + (k + 1)) bytes) small && Nat.ble (Nat.mul (m + (k + 1)) size) small && Nat.ble (m + (k + 1)) small) _ _) = _ ∧ _
    rw [hc]
    show ∃ h', (cond (Nat.ble (m + (k + 1)) m) _ _) = _ ∧ _
    rw [hlt]
    simp only [cond, e1]
    rcases hf with rfl | rfl
    · refine ⟨_, rfl, ?_⟩
      exact ⟨rfl, fun i hi _ => by rw [IH.get_new, if_neg (by omega)], ⟨Nat.lt_succ_self _, by rw [IH.get_new, if_pos rfl, lapp_eq]⟩, fun _ => rfl⟩
    · cases size with
      | zero =>
        refine ⟨_, rfl, ?_⟩
        exact ⟨rfl, fun i hi _ => by rw [IH.get_new, if_neg (by omega)], ⟨Nat.lt_succ_self _, by rw [IH.get_new, if_pos rfl, lapp_eq]⟩, fun _ => rfl⟩
      | succ j =>
        have hj : Nat.beq (Nat.succ j) (j + 1) = true := Nat.beq_refl _
        refine ⟨(h.kill b).new (.cells (old ++ xs)), ?_, ?_⟩
        · show cond (Nat.beq (Nat.succ j) (j + 1)) _ _ = _
          rw [hj, lapp_eq]; rfl
        · exact ⟨rfl, fun i hi hb => by rw [IH.get_new, if_neg (by show i ≠ h.next; omega), IH.get_kill, if_neg hb], ⟨Nat.lt_succ_self _, by rw [IH.get_new]; exact if_pos rfl⟩, fun hl => by rw [IH.low_new, IH.low_kill]; omega⟩
  obtain ⟨h', hr, hM⟩ := hrun
  exact s_run hn hg hr (next h' hM)

/-- append to nothing -/
theorem s_append0 {e : TypeId} {size bytes k c : Nat} {s x : Operand} {xs : List Value} (hn : Nat.blt d n = true) (hg : gok l g = true)
    (hs : ev l s = .slice none 0 0) (hx : lenI (ev l x) = some (k + 1)) (hxs : firstI size (k + 1) (ev l x) h = some xs)
    (hm : (k + 1) * bytes ≤ 1073741824 ∧ (k + 1) * size ≤ 1073741824 ∧ (k + 1) ≤ 1073741824)
    (next : ∀ h', Agree h h' → At h' h.next (.cells xs) → h'.next = h.next + 1 → OPS P ds rest (act n ((d, .slice (some ⟨h.next, 0, some size⟩) (k + 1) (k + 1)) :: l) D pm ro) h' K) :
    OPS P ds (⟨⟨some d, g, .append e size bytes s x⟩, []⟩ :: rest) (act n l D pm ro) h K := by
  have hle : ∀ {a b : Nat}, a ≤ b → Nat.ble a b = true := fun h => by rw [Nat.ble_eq]; exact h
  have e0 : Nat.add 0 (k + 1) = k + 1 := Nat.zero_add _
  refine s_run hn hg (h' := h.new (.cells xs)) ?_ (next _ (new_agree _ _) (new_at _ _) rfl)
  simp only [COp.run, hx, hxs, hs, appendI, e0]
  rw [hle (show Nat.mul (k + 1) bytes ≤ small from hm.1), hle (show Nat.mul (k + 1) size ≤ small from hm.2.1), hle (show k + 1 ≤ small from hm.2.2)]
  have e1 : firstI size 0 (.slice none 0 0) h = some [] := by
    show (match (0 : Nat) with | 0 => some ([] : List Value) | _ => none) = _
    rfl
  have e2 : Nat.ble (k + 1) 0 = false := rfl
  simp only [Bool.and_self, cond_true, e2, cond_false, e1, lapp_eq, List.nil_append]


theorem At.cellsAt {b o m : Nat} {cs r : List Value} (a : At h b (.cells cs)) (hr : ltake (ldrop cs o) m = some r) : h.cellsAt b o m = some r := by
  simp only [IH.cellsAt, a.2, hr]

theorem zeros_one (x : Value) : ∀ n, zeros [x] n = List.replicate n x
  | 0 => rfl
  | n + 1 => by
    show lapp [x] (zeros [x] n) = _
    rw [zeros_one x n, lapp_eq]; rfl

theorem At.readAt {b o m : Nat} {cs r : List Value} (a : At h b (.cells cs)) (hr : ltake (ldrop cs o) m = some r) : h.readAt b o m = some r := by
  rw [a.c.readAt, hr]

/-! ### Ends -/
def fgt (ds : List Tmp) (n : Nat) (l : List (Nat × Value)) : List (Nat × Value) :=
  match ds with
  | [] => l
  | d :: ds => fgt ds n (cond (Nat.blt d n) ((d, unk) :: l) l)

theorem forget_act : ∀ (ds : List Tmp) (l : List (Nat × Value)), forget ds (act n l D pm ro) = act n (fgt ds n l) D pm ro
  | [], l => rfl
  | d :: ds, l => by
    show forget ds ((act n l D pm ro).set d unk) = _
    simp only [fgt]
    cases hb : Nat.blt d n with
    | true =>
      rw [show (act n l D pm ro).set d unk = act n ((d, unk) :: l) D pm ro from put_act hb]
      exact forget_act ds _
    | false =>
      rw [show (act n l D pm ro).set d unk = act n l D pm ro by simp only [IAct.set, act, hb, cond]]
      exact forget_act ds _

theorem s_panic {x : Operand} {t : TypeId} {v : Value} {dst : Option Tmp} {re : List CStep} (hg : gok l g = true) (hx : ev l x = .iface t v)
    (hk : K (.panic [{ v := .iface t v, recovered := false }]) (act n (fgt ds n l) D pm ro) h) : OPS P ds (⟨⟨dst, g, .panic x⟩, re⟩ :: rest) (act n l D pm ro) h K :=
  .panic (wants_gok hg) x rfl t v (by rw [eval_act]; exact hx) (by rw [forget_act]; exact hk)

theorem s_dcall {f : Operand} {args : List Operand} {fn : Fn} {first captured : List Value} (hg : gok l g = true) (hro : ro = none) (hf : ev l f = .func fn ⟨first⟩ ⟨captured⟩)
    (next : OPS P ds rest (act n l ({ target := .fn fn ⟨captured⟩, args := ⟨first ++ args.map (ev l)⟩ } :: D) pm ro) h K) : OPS P ds (⟨⟨none, g, .dcall f args⟩, []⟩ :: rest) (act n l D pm ro) h K := by
  refine .defer (wants_gok hg) f args rfl rfl hro fn first captured (by rw [eval_act]; exact hf) ?_
  rw [eval_act]
  rw [← lapp_eq, ← lmap_eq] at next
  exact next

theorem s_recover {m : FrameMode} (hn : Nat.blt d n = true) (hg : gok l g = true) (hro : ro = none)
    (next : OPS P ds rest (act n ((d, (recoverI m).1) :: l) D (some (recoverI m).2) ro) h K) : OPS P ds (⟨⟨some d, g, .recover⟩, []⟩ :: rest) (act n l D (some m) ro) h K := by
  refine .recoverD (wants_gok hg) rfl rfl m rfl hro ?_
  have : ({ act n l D (some m) ro with pm := some (recoverI m).2 } : IAct) = act n l D (some (recoverI m).2) ro := rfl
  rw [this, put_act hn]
  exact next

theorem s_tassert {t : TypeId} {zero v : Value} {x : Operand} (hn : Nat.blt d n = true) (hg : gok l g = true) (hx : ev l x = .iface t v)
    (next : OPS P ds rest (act n ((d, v) :: l) D pm ro) h K) : OPS P ds (⟨⟨some d, g, .tassert t zero false x⟩, []⟩ :: rest) (act n l D pm ro) h K :=
  s_run hn hg (by simp only [COp.run, hx]; show cond (Nat.beq t t) _ _ = _; rw [Nat.beq_refl]; rfl) next

theorem s_nilck {x : Operand} {a : Addr} (hn : Nat.blt d n = true) (hg : gok l g = true) (hx : ev l x = .pointer (some a))
    (next : OPS P ds rest (act n ((d, .pointer (some a)) :: l) D pm ro) h K) : OPS P ds (⟨⟨some d, g, .nilck x⟩, []⟩ :: rest) (act n l D pm ro) h K :=
  s_run hn hg (by simp only [COp.run, hx]) next

theorem s_bin {op : BinOp} {t : TypeId} {x y : Operand} {a b v : Value} (hn : Nat.blt d n = true) (hg : gok l g = true) (hx : ev l x = a) (hy : ev l y = b) (hv : binI P op t x y a b = some v)
    (next : OPS P ds rest (act n ((d, v) :: l) D pm ro) h K) : OPS P ds (⟨⟨some d, g, .bin op t x y⟩, []⟩ :: rest) (act n l D pm ro) h K :=
  s_run hn hg (by simp only [COp.run, hx, hy, hv]) next

/-- a function that defers -/
theorem c_defers {f : FuncId} {args cap : List Value} {pm : Option FrameMode} {h : IH} {K : KR} (cf : CFunc) (fn : Func) (hf : P.funcs[f]? = some fn) (hcf : cfunc P fn = some cf)
    (hb : EV P cf.body (initAct cf.ntmps (args ++ cap) pm) h (fun o a h' => match modeOf o with
      | none => False
      | some m => LEAVE P cf a.tmps a.defers m h' fun r h'' => K r a.pm h'')) : CALL P ⟨.func f, args, cap, pm⟩ h K := by
  refine .enter f (args ++ cap) (by simp only [target, lapp_eq]) fn hf cf hcf _ hb ?_ ?_
  · intro o a h hm e; rw [e] at hm; exact hm
  · intro o a h' m hm he; rw [he] at hm; exact hm

theorem r_none {cf : CFunc} {K : KR} (hr : cf.results = []) (hk : K (.ok (.tuple ⟨[]⟩)) pm h) : retK cf K .normal (act n l [] pm ro) h :=
  ⟨.tuple ⟨[]⟩, by rw [hr]; rfl, rfl, hk⟩

theorem r_pan {cf : CFunc} {K : KR} {ch : List PanicEntry} (hk : K (.pan ch) pm h) : retK cf K (.panic ch) (act n l [] pm ro) h := ⟨rfl, hk⟩
end
end Go.Ideal

/-
  The ideal machine, 42: a call in a world.
-/
set_option linter.unusedSimpArgs false
set_option linter.unusedVariables false
namespace Go.Ideal
open Go.RowKit
variable {P : Program}

/-- blocks that are read alone (none: one that stands for nothing), from id i on -/
noncomputable def rowT : Nat → List (Option (List Value)) → T IObj
  | _, [] => .leaf
  | i, c :: l => (rowT (i + 1) l).set i (c.map .roc)

theorem rowT_get : ∀ (l : List (Option (List Value))) (i j : Nat), (rowT i l).get j = if i ≤ j then (l[j - i]?).bind (fun c => c.map .roc) else none
  | [], i, j => by simp [rowT, T.get_leaf]
  | c :: l, i, j => by
    simp only [rowT, T.get_set]
    by_cases e : j = i
    · subst e; simp
    · rw [if_neg e, rowT_get l (i + 1) j]
      by_cases h : i ≤ j
      · rw [if_pos (by omega), if_pos h]
        obtain ⟨k, hk⟩ : ∃ k, j - i = k + 1 := ⟨j - i - 1, by omega⟩
        rw [hk, List.getElem?_cons_succ, show j - (i + 1) = k by omega]
      · rw [if_neg (by omega), if_neg h]

abbrev Lay := List (Option Img × Option (List Value))
noncomputable def heapL (L : Lay) : IH := ⟨rowT 0 (L.map (·.2)), L.length, L.length⟩
def injL (L : Lay) : Inj := fun i => (L[i]?).bind (·.1)

theorem heapL_get (L : Lay) (i : Nat) : (heapL L).get i = (L[i]?).bind fun p => p.2.map .roc := by
  show (rowT 0 (L.map (·.2))).get i = _
  rw [rowT_get, if_pos (Nat.zero_le _), Nat.sub_zero, List.getElem?_map]
  cases L[i]? <;> rfl

theorem heapL_cells {L : Lay} {i : Nat} {g : Option Img} {cs : List Value} (h : L[i]? = some (g, some cs)) : Cells (heapL L) i cs :=
  ⟨(List.getElem?_eq_some_iff.1 h).1, .inr (by rw [heapL_get, h]; rfl)⟩

structure LeafOK (L : Lay) (w : World) (g : Img) (cs : List Value) : Prop where
  block : ∃ c t fz, w.heap[g.b]? = some (.cells c t fz)
  sz : g.sz = 0
  all : cs.all cellV = true
  cell : ∀ (j : Nat) v, cs[j]? = some v → ∃ v', w.cell? ⟨g.b, g.off + j, none⟩ = some v' ∧ VR (injL L) v v'

theorem heapL_WR {L : Lay} {w : World} (hL : ∀ (i : Nat) g cs, L[i]? = some (some g, some cs) → LeafOK L w g cs) : WR P (injL L) (heapL L) w := by
  have hb : ∀ i g, injL L i = some g → ∃ cs, L[i]? = some (some g, cs) := fun i g h => by
    unfold injL at h
    cases e : L[i]? with
    | none => rw [e] at h; cases h
    | some p =>
      rw [e] at h
      obtain ⟨a, cs⟩ := p
      have h : a = some g := h
      subst h
      exact ⟨cs, rfl⟩
  have hlive : ∀ i o, (heapL L).get i = some o → ∃ g cs, L[i]? = some (g, some cs) ∧ o = .roc cs := fun i o h => by
    rw [heapL_get] at h
    cases e : L[i]? with
    | none => rw [e] at h; cases h
    | some p =>
      obtain ⟨g, c⟩ := p
      rw [e] at h
      cases c with
      | none => cases h
      | some cs => cases h; exact ⟨g, cs, rfl, rfl⟩
  refine ⟨?_, ?_, ?_, ?_⟩
  · intro i g h
    obtain ⟨cs, e⟩ := hb i g h
    exact (List.getElem?_eq_some_iff.1 e).1
  · intro i o h
    obtain ⟨g, cs, e, _⟩ := hlive i o h
    exact (List.getElem?_eq_some_iff.1 e).1
  · intro i g o h ho
    obtain ⟨c, e⟩ := hb i g h
    obtain ⟨g', cs, e', rfl⟩ := hlive i o ho
    rw [e] at e'
    cases e'
    have k := hL i g cs e
    exact ⟨k.block, k.sz, k.all, k.cell⟩
  · intro i j g k hi hj hgi hgj hr he
    exfalso
    rcases hr with q | q
    · cases e : (heapL L).get i with
      | none => exact hgi e
      | some o =>
        obtain ⟨_, cs, _, rfl⟩ := hlive i o e
        exact q cs e
    · cases e : (heapL L).get j with
      | none => exact hgj e
      | some o =>
        obtain ⟨_, cs, _, rfl⟩ := hlive j o e
        exact q cs e

/-- a call on the ideal machine is a call in the world -/
theorem world_call (hmix : P.follows .mixedOrders = true) (hgl : P.globals.size = 0) {f : FuncId} (fn : Func) (hfn : P.funcs[f]? = some fn) (hbody : fn.body.isNone = false) (hname : (fn.name == "runtime.NumGoroutine") = false) {args args' : List Value} {L : Lay} {w : World} {v : Value}
    (hL : ∀ (i : Nat) g cs, L[i]? = some (some g, some cs) → LeafOK L w g cs) (hargs : VRs (injL L) args args') (hv : addrFree v = true)
    (hc : CALL P ⟨.func f, args, [], none⟩ (heapL L) (fun r pm h' => pm = none ∧ r = .ok v ∧ Agree (heapL L) h')) :
    Calls P f ⟨args'⟩ w (fun e w' => e = .returned v ∧ Below w.heap.size w w') := by
  have hM := call_sound hmix hc
  have hW : WR P (injL L) (heapL L) w := heapL_WR hL
  obtain ⟨nx, F0, n1, n2, n3⟩ := hM (injL L) w (.func f) args' [] (fun g hg => by rw [hgl] at hg; omega) hW (.func f) hargs .nil
  have hnx : nx = .enter f ⟨args'⟩ := by
    have hcall : (callFunc f ⟨args'⟩).run P w = .ok (.enter f ⟨args'⟩) w := by
      simp only [callFunc, Sem.run_bind, run_program, Result.andThen_ok, hfn, hname, hbody, Bool.false_eq_true, if_false, Sem.run_pure]
    have e : (⟨args'⟩ : Array Value) ++ (⟨[]⟩ : Array Value) = ⟨args'⟩ := by apply Array.ext'; simp
    have n1 : (invoke (.fn (.func f) ⟨[]⟩) ⟨args'⟩).run P w = .ok nx w := n1
    simp only [invoke, e] at n1
    rw [hcall] at n1
    cases n1
    rfl
  subst hnx
  have hF0 : F0 = Frame.enter P f ⟨args'⟩ .normal := by
    have : entry P .normal (.enter f ⟨args'⟩) = some (Frame.enter P f ⟨args'⟩ .normal) := rfl
    have n2 : entry P .normal (.enter f ⟨args'⟩) = some F0 := n2
    rw [this] at n2
    exact (Option.some.inj n2).symm
  subst hF0
  intro cs
  obtain ⟨r, pm', h', β', w', r', cs1, q1, q2, q3, q4, q5, q6⟩ := n3 cs (by intro m hm; cases hm)
  obtain ⟨hp, rfl, hag⟩ := q1
  cases q5
  cases q4 with
  | @ok v v' hvr =>
    have := hvr.eq_of_free hv
    subst this
    rcases q6 with ⟨f1, a1, F1, e1, e2, e3, e4, e5⟩ | ⟨⟨_, l, e1⟩, _⟩
    · cases e1
      refine ⟨.returned v', w', F1, ⟨rfl, ?_⟩, e2, e3, ?_⟩
      · refine ⟨q3.os, q3.tape, q3.output, q3.size, fun k hk => ?_⟩
        by_cases hx : ∀ i g, injL L i = some g → (heapL L).get i ≠ none → g.b ≠ k
        · exact q3.keep k hk hx
        · have hx : ∃ i g, injL L i = some g ∧ (heapL L).get i ≠ none ∧ g.b = k := by
            apply Classical.byContradiction
            intro hc
            exact hx fun i g hi hg hb => hc ⟨i, g, hi, hg, hb⟩
          obtain ⟨i, g, hi, hg, rfl⟩ := hx
          have hin := hW.dom i g hi
          exact q3.lowk i g (by rw [hag.low (Nat.le_refl _)]; exact hin) hin hi hg hk
      · obtain ⟨t1, t2, fn, t3, t4⟩ := e5
        exact ⟨t1, t2, e4, fn, t3, t4⟩
    · cases e1

/-! ### What is read behind the call -/
open Go.WideShapes Go.ChangeShapes
section
variable {H : Type} {enc : TypeId × Value → H}

theorem below_cell {w w' : World} (hb : Below w.heap.size w w') {a : Addr} (ha : a.block < w.heap.size) : w'.cell? a = w.cell? a := by
  simp only [World.cell?, hb.block _ ha]

theorem below_same {w w' : World} (hb : Below w.heap.size w w') {p : MemPlace} (hp : p.block < w.heap.size) : w.sameAt w' p := by
  cases p with
  | cell b off => exact below_cell hb hp
  | map b => exact hb.block b hp

theorem trodAll_stays {T : TypeId → Prop} (K : Kids P T) (hsz : ∀ {t e : TypeId}, T t → P.underlying t = some (.slice e) → 0 < P.cellsOf e) {w w' : World} (hb : Below w.heap.size w w') {sp : Nat → Bool} : ∀ {ts : List TypeId} {vs : List Value} {ds : List (DataW H)} {ps : List MemPlace},
    (∀ t ∈ ts, T t) → DataW.TrodAll enc P w 0 (fun _ => true) true ts vs ds ps → (∀ p ∈ ps, sp p.block = true) → DataW.TrodAll enc P w' 0 sp true ts vs ds ps
  | [], [], [], _, _, h, _ => h
  | t :: _, v :: _, d :: _, _, hT, ⟨p, q, ⟨n, h1⟩, h2, e⟩, hs => by
    refine ⟨p, q, ⟨n, ?_⟩, trodAll_stays K hsz hb (fun t ht => hT t (List.mem_cons.2 (.inr ht))) h2 (fun x hx => hs x (by rw [e]; exact List.mem_append_right _ hx)), e⟩
    exact DataW.trod_stays K hsz (fun h => by cases h) (hT t (List.mem_cons.2 (.inl rfl))) h1 (fun x hx => below_same hb (DataW.trod_lt n _ _ _ h1 x hx)) (fun x hx => hs x (by rw [e]; exact List.mem_append_left _ hx))

theorem below_kept {w w' : World} (hb : Below w.heap.size w w') (may : MemPlace → Prop) : w.keptBut w' may := by
  refine ⟨hb.os, hb.output, fun i hi => ?_⟩
  rw [hb.block i hi]
  cases h : w.heap[i]? with
  | none => rfl
  | some o => cases o <;> simp

/-- a law that gives true, and turns nothing that lay there -/
theorem post_law {f : Func} {s : ChangeSpec} {apart fresh handsOn again : Bool} {W W' : World} {args : Array Value} {v : Value} {ds gs : List (DataW H)} {before pa pv : List MemPlace}
    (hW : DataW.Whole enc P f.params.toList s.vars apart W args.toList ds gs before)
    (hres : ∀ (b : Nat) (sp : Nat → Bool) (hd : Bool), DataW.TrodAll enc P W' b sp hd f.resultTypes.toList (v.resultList f.resultTypes.size) (s.fn H (ds ++ gs)).results [])
    (hargs : ∀ sp : Nat → Bool, (∀ p ∈ before, sp p.block = true) → DataW.TrodAll enc P W' 0 sp true f.params.toList args.toList (s.fn H (ds ++ gs)).args pa)
    (hvars : ∀ sp : Nat → Bool, (∀ p ∈ before, sp p.block = true) → DataW.TrodVars enc P W' sp s.vars (s.fn H (ds ++ gs)).vars pv)
    (hps : before = pa ++ pv) (hb : Below W.heap.size W W')
    (hok : ∀ (j : Nat) (t : TypeId) (r : Value), f.resultTypes[j]? = some t → (v.resultList f.resultTypes.size)[j]? = some r → Value.okWide P W' .any 0 t r) :
    s.post enc P f apart fresh handsOn again W args v W' := by
  have hlt := hW.lt
  have hold : ∀ p ∈ before, (fun b => decide (b < W.heap.size)) p.block = true := fun p hp => decide_eq_true (hlt p hp)
  refine ⟨ds, gs, before, [], pa, pv, hW, hres _ _ _, hargs _ hold, hvars _ hold, below_kept hb _, fun _ => ?_⟩
  obtain ⟨_, _, _, _, _, hz, hn⟩ := hW
  refine ⟨hok, _, _, ([] ++ pa) ++ pv, ⟨[] ++ pa, pv, trodAll_append (hargs _ (fun _ _ => rfl)) (hres _ _ _), hvars _ (fun _ _ => rfl), rfl, ?_, ?_⟩, ?_⟩
  · intro b off hp
    have hm : MemPlace.cell b off ∈ before := by rw [hps]; simpa using hp
    have h1 : b < W.heap.size := hlt _ hm
    have := hz b off hm
    simp only [World.frozen?, hb.block b h1] at this ⊢
    exact this
  · intro ha
    have := hn ha
    rw [hps] at this
    simpa using this
  · intro p hp _
    rw [hps]
    simpa using hp
end
end Go.Ideal

/-
  The ideal machine, 43: what arguments read as, laid for the ideal machine.
-/
set_option linter.unusedSimpArgs false
set_option linter.unusedVariables false
namespace Go.Ideal
open Go.ChangeShapes Go.WideShapes Go.ChangeAt Go.RowKit

/-- a slice of numbers in a world -/
def LeafInt (W : World) (c : Value) (xs : List Int) : Prop :=
  (c = .slice none 0 0 ∧ xs = []) ∨
  ∃ a cap, c = .slice (some a) xs.length cap ∧ xs.length ≤ cap ∧ a.spot = none ∧ (∃ b t fz, W.heap[a.block]? = some (.cells b t fz)) ∧ ∀ (j : Nat) x, xs[j]? = some x → W.cell? ⟨a.block, a.off + j, none⟩ = some (.int .i64 x)

section
variable {H : Type} {enc : TypeId × Value → H} {P : Program} {W : World} {t e : TypeId}

theorem slice_form {c : Value} (ht : P.underlying t = some (.slice e)) (h : Cell.okWide P W .any 0 t c) : c = .slice none 0 0 ∨ ∃ a n k, c = .slice (some a) n k ∧ n ≤ k ∧ a.spot = none ∧ ∃ b t fz, W.heap[a.block]? = some (.cells b t fz) := by
  have h : Cell.ok P W .any 0 t c := by
    unfold Cell.okWide at h
    rw [ht] at h
    cases c <;> exact h
  unfold Cell.ok at h
  rw [ht] at h
  cases c with
  | slice a n k =>
    cases a with
    | none =>
      left
      cases n with
      | zero => cases k with
        | zero => rfl
        | succ k => cases h
      | succ n => cases h
    | some a =>
      right
      obtain ⟨h1, h2, _, h3, row, cells, h4, _⟩ := h
      refine ⟨a, n, k, rfl, h1, h3, ?_⟩
      unfold World.shape? at h4
      split at h4
      · rename_i c e' fz hb; exact ⟨c, e', fz, hb⟩
      · cases h4
  | _ => cases h

theorem leaf_int {c : Value} {n : Nat} {x : DataW H × List MemPlace} (ht : P.underlying t = some (.slice e)) (he : P.underlying e = some (.int .i64)) (hc : P.cellsOf e = 1) (hok : Cell.okWide P W .any 0 t c)
    (h : DataW.trod enc P W 0 (fun _ => true) true n t [c] = some x) : ∃ xs, LeafInt W c xs := by
  rcases open_ints ht he hc h with ⟨e1, _⟩ | ⟨a, len, cap, zs, e1, _, hl, _, hz, _, hcell, _⟩
  · refine ⟨[], .inl ⟨?_, rfl⟩⟩
    injection e1
  · injection e1 with e1
    subst e1
    rcases slice_form ht hok with e2 | ⟨a', n', k', e2, _, hs, hb⟩
    · cases e2
    · cases e2
      simp only [if_true] at hz
      have hlen : (zs.take len).length = len := by rw [List.length_take]; omega
      refine ⟨zs.take len, .inr ⟨a, cap, by rw [hlen], by rw [hlen]; exact hl, hs, hb, fun j y hj => ?_⟩⟩
      rw [List.getElem?_take] at hj
      split at hj
      · rename_i hjl
        have := hcell j (by omega)
        rw [List.getD_eq_getElem?_getD, hj, Option.getD_some] at this
        obtain ⟨ab, ao, as⟩ := a
        simp only at hs
        subst hs
        rw [← this]
        congr 1
        by_cases h0 : j = 0
        · subst h0; simp [Addr.add]
        · simp [Addr.add, h0]
      · cases hj

/-- how it stands on the ideal machine, as block i -/
def leafV (i : Nat) (c : Value) : Value :=
  match c with
  | .slice (some a) n k => .slice (some ⟨i, 0, some 0⟩) n k
  | c => c

def leafG (c : Value) (n : Nat) : Option Img :=
  match c with
  | .slice (some a) _ _ => some ⟨a.block, a.off, n, 0, 0⟩
  | _ => none

def leafP (c : Value) (xs : List Int) : Option Img × Option (List Value) := (leafG c xs.length, some (xs.map (.int .i64 ·)))

theorem leaf_ok {L : Lay} {c : Value} {xs : List Int} (hl : LeafInt W c xs) {g : Img} (hg : leafG c xs.length = some g) : LeafOK L W g (xs.map (.int .i64 ·)) := by
  rcases hl with ⟨rfl, rfl⟩ | ⟨a, cap, rfl, h1, h2, h3, h4⟩
  · cases hg
  · cases hg
    refine ⟨h3, rfl, ?_, ?_⟩
    · rw [List.all_eq_true]
      intro v hv
      obtain ⟨x, _, rfl⟩ := List.mem_map.1 hv
      rfl
    · intro j v hj
      rw [List.getElem?_map] at hj
      cases hx : xs[j]? with
      | none => rw [hx] at hj; cases hj
      | some x =>
        rw [hx] at hj
        cases hj
        exact ⟨_, h4 j x hx, .int _ _⟩

theorem leaf_VR {L : Lay} {c : Value} {xs : List Int} (hl : LeafInt W c xs) {i : Nat} (hi : L[i]? = some (leafP c xs)) : VR (injL L) (leafV i c) c := by
  rcases hl with ⟨rfl, rfl⟩ | ⟨a, cap, rfl, h1, h2, h3, h4⟩
  · exact .sl0 0 0
  · refine .slE (g := ⟨a.block, a.off, xs.length, 0, 0⟩) ?_ rfl h1 (.inr ⟨rfl, h2⟩)
    show (L[i]?).bind (·.1) = _
    rw [hi]; rfl

theorem leaf_ints {L : Lay} {c : Value} {xs : List Int} (hl : LeafInt W c xs) {i : Nat} (hi : L[i]? = some (leafP c xs)) : IntsAt (heapL L) (leafV i c) xs := by
  rcases hl with ⟨rfl, rfl⟩ | ⟨a, cap, rfl, h1, h2, h3, h4⟩
  · exact .inl ⟨rfl, none, 0, 0, rfl, rfl⟩
  · refine .inr ⟨i, 0, 0, cap, _, rfl, heapL_cells hi, fun k x hk => ?_⟩
    rw [Nat.zero_add]
    show (xs.map (fun x => Value.int .i64 x))[k]? = _
    rw [List.getElem?_map, hk]; rfl

theorem leafV_cell {W : World} {c : Value} {xs : List Int} (hl : LeafInt W c xs) (i : Nat) : cellV (leafV i c) = true := by
  rcases hl with ⟨rfl, rfl⟩ | ⟨a, cap, rfl, h1, h2, h3, h4⟩ <;> rfl

/-- a struct of two slices of numbers -/
theorem two_leaves {s : TypeId} {f0 f1 : Field} {v : Value} {d : DataW H} {p : List MemPlace} (hs : P.underlying s = some (.struct #[f0, f1])) (h0 : f0.type = t ∧ f0.offset = 0) (h1 : f1.type = t ∧ f1.offset = 1)
    (ht : P.underlying t = some (.slice e)) (he : P.underlying e = some (.int .i64)) (hce : P.cellsOf e = 1) (hct : P.cellsOf t = 1) (hcs : P.cellsOf s = 2) (hts : P.cellTypes P.depth s = some [t, t])
    (hok : Value.okWide P W .any 0 s v) (h : DataW.Trod enc P W 0 (fun _ => true) true s v d p) : ∃ c0 c1 xs ys, v = .agg ⟨[c0, c1]⟩ ∧ LeafInt W c0 xs ∧ LeafInt W c1 ys := by
  unfold Value.okWide at hok
  rw [hs] at hok
  obtain ⟨cs, rfl, hsz, ts, h2, _, h3⟩ := hok
  rw [hts] at h2
  cases h2
  obtain ⟨n, hn⟩ := h
  obtain ⟨y0, y1, m, _, hlen, k0, k1⟩ := trod_struct2 hs hn
  obtain ⟨l⟩ := cs
  rw [hcs] at hsz
  have hl : l.length = 2 := hsz
  match l, hl with
  | [c0, c1], _ =>
    have e0 : Cell.okWide P W .any 0 t c0 := by
      obtain ⟨u, q1, q2⟩ := h3 0 c0 rfl
      have : u = t := by simpa using q1.symm
      rw [← this]; exact q2
    have e1 : Cell.okWide P W .any 0 t c1 := by
      obtain ⟨u, q1, q2⟩ := h3 1 c1 rfl
      have : u = t := by simpa using q1.symm
      rw [← this]; exact q2
    rw [h0.1, h0.2, hct] at k0
    rw [h1.1, h1.2, hct] at k1
    obtain ⟨xs, hx⟩ := leaf_int ht he hce e0 (by simpa [Value.cells] using k0)
    obtain ⟨ys, hy⟩ := leaf_int ht he hce e1 (by simpa [Value.cells] using k1)
    exact ⟨c0, c1, xs, ys, rfl, hx, hy⟩
end
end Go.Ideal


/-
  The ideal machine, 40: single steps, as laws.
-/
import Derived.Test.YtoohgkkmdnbnfaaGreatDoorIdealG
import Derived.ChangeStays
import Derived.ChangeSame
import Derived.Below
import Derived.ChangeSlices
import Derived.ProofKit
set_option linter.unusedSimpArgs false
set_option linter.unusedVariables false
namespace Go.Ideal
variable {P : Program}
def At (h : IH) (b : Nat) (o : IObj) : Prop := b < h.next ∧ h.get b = some o
structure Agree (h h' : IH) : Prop where
 next : h.next ≤ h'.next
 get : ∀ i, i < h.next → h'.get i = h.get i
 low : h.low ≤ h.next → h'.low = h.low
theorem Agree.refl (h : IH) : Agree h h := ⟨Nat.le_refl _, fun _ _ => rfl, fun _ => rfl⟩
theorem Agree.trans {h h1 h2 : IH} (a : Agree h h1) (b : Agree h1 h2) : Agree h h2 :=
 ⟨Nat.le_trans a.next b.next, fun i hi => (b.get i (Nat.lt_of_lt_of_le hi a.next)).trans (a.get i hi), fun hl => (b.low (by rw [a.low hl]; exact Nat.le_trans hl a.next)).trans (a.low hl)⟩
theorem At.agree {h h' : IH} {b : Nat} {o : IObj} (a : At h b o) (g : Agree h h') : At h' b o := ⟨Nat.lt_of_lt_of_le a.1 g.next, (g.get b a.1).trans a.2⟩
theorem new_agree (h : IH) (o : IObj) : Agree h (h.new o) := ⟨Nat.le_succ _, fun i hi => by rw [IH.get_new, if_neg (by omega)], fun _ => rfl⟩
theorem new_at (h : IH) (o : IObj) : At (h.new o) h.next o := ⟨Nat.lt_succ_self _, by rw [IH.get_new, if_pos rfl]⟩
structure Turn (h h' : IH) (b : Nat) (o : IObj) : Prop where
 next : h'.next = h.next
 get : ∀ i, i ≠ b → h'.get i = h.get i
 at_ : At h' b o
 low : h.low ≤ b → h'.low = h.low
theorem At.turn {h h' : IH} {b c : Nat} {o o' : IObj} (a : At h c o') (t : Turn h h' b o) (hn : c ≠ b) : At h' c o' := ⟨by rw [t.next]; exact a.1, (t.get c hn).trans a.2⟩
theorem Agree.turn {h0 h h' : IH} {b : Nat} {o : IObj} (a : Agree h0 h) (t : Turn h h' b o) (hn : h0.next ≤ b) : Agree h0 h' :=
 ⟨by rw [t.next]; exact a.next, fun i hi => (t.get i (by omega)).trans (a.get i hi), fun hl => (t.low (by rw [a.low hl]; omega)).trans (a.low hl)⟩
def Cells (h : IH) (b : Nat) (cs : List Value) : Prop := b < h.next ∧ (h.get b = some (.cells cs) ∨ h.get b = some (.roc cs))
theorem At.c {h : IH} {b : Nat} {cs : List Value} (a : At h b (.cells cs)) : Cells h b cs := ⟨a.1, .inl a.2⟩
theorem Cells.agree {h h' : IH} {b : Nat} {cs : List Value} (a : Cells h b cs) (g : Agree h h') : Cells h' b cs := ⟨Nat.lt_of_lt_of_le a.1 g.next, by rw [g.get b a.1]; exact a.2⟩
theorem Cells.turn {h h' : IH} {b c : Nat} {o : IObj} {cs : List Value} (a : Cells h c cs) (t : Turn h h' b o) (hn : c ≠ b) : Cells h' c cs := ⟨by rw [t.next]; exact a.1, by rw [t.get c hn]; exact a.2⟩
theorem Cells.read1 {h : IH} {b : Nat} {cs : List Value} (a : Cells h b cs) (o : Nat) : h.read1 b o = cs[o]? := by
 rcases a.2 with e | e <;> simp only [IH.read1, e, lget_eq]
theorem Cells.readAt {h : IH} {b : Nat} {cs : List Value} (a : Cells h b cs) (o m : Nat) : h.readAt b o m = ltake (ldrop cs o) m := by
 rcases a.2 with e | e <;> simp only [IH.readAt, e]
def IntsAt (h : IH) (v : Value) (xs : List Int) : Prop :=
 (xs = [] ∧ ∃ a m c, v = .slice a m c ∧ m = 0) ∨
 ∃ i o f c cs, v = .slice (some ⟨i, o, some f⟩) xs.length c ∧ Cells h i cs ∧ ∀ (k : Nat) x, xs[k]? = some x → cs[o + k]? = some (.int .i64 x)
theorem IntsAt.agree {h h' : IH} {v : Value} {xs : List Int} (a : IntsAt h v xs) (g : Agree h h') : IntsAt h' v xs := by
 rcases a with h1 | ⟨i, o, f, c, cs, h1, h2, h3⟩
 · exact .inl h1
 · exact .inr ⟨i, o, f, c, cs, h1, h2.agree g, h3⟩
def gok (l : List (Nat × Value)) (g : Option (Tmp × Bool)) : Bool :=
 match g with
 | none => true
 | some (t, w) => match lk l t with
   | .bool b => cond w b (!b)
   | _ => false
def gskip (l : List (Nat × Value)) (g : Option (Tmp × Bool)) : Bool :=
 match g with
 | none => false
 | some (t, w) => match lk l t with
   | .bool b => cond w (!b) b
   | .chan _ => true
   | _ => false
theorem goInt_ofNat (n : Nat) : goInt n = .int .i64 (n : Int) := rfl
section
variable {ds : List Tmp} {rest : List PStep} {n : Nat} {l : List (Nat × Value)} {D : List Deferred} {pm : Option FrameMode} {ro : Option Nat} {h : IH} {K : KO} {d : Nat} {g : Option (Tmp × Bool)}
theorem wants_gok (hg : gok l g = true) : (act n l D pm ro).wants g = some true := by
 cases g with
 | none => rfl
 | some p =>
   obtain ⟨t, w⟩ := p
   rw [wants_act]
   simp only [gok] at hg
   split at hg
   · rename_i b hb; rw [hb]; simp only [hg]
   · cases hg
theorem s_skip (hn : Nat.blt d n = true) (hg : gskip l g = true) {op : COp} {re : List CStep} (next : OPS P ds rest (act n ((d, skipV) :: l) D pm ro) h K) : OPS P ds (⟨⟨some d, g, op⟩, re⟩ :: rest) (act n l D pm ro) h K := by
 refine .skip ?_ (by rw [put_act hn]; exact next)
 show (act n l D pm ro).wants g = some false
 cases g with
 | none => cases hg
 | some p =>
   obtain ⟨t, w⟩ := p
   rw [wants_act]
   simp only [gskip] at hg
   split at hg
   · rename_i b hb
     rw [hb]
     cases w <;> cases b <;> simp_all
   · rename_i b hb; rw [hb]
   · cases hg
theorem s_run {op : COp} {v : Value} {h' : IH} (hn : Nat.blt d n = true) (hg : gok l g = true) (hr : op.run P (ev l) h = some (v, h'))
 (next : OPS P ds rest (act n ((d, v) :: l) D pm ro) h' K) : OPS P ds (⟨⟨some d, g, op⟩, []⟩ :: rest) (act n l D pm ro) h K :=
 .det (wants_gok hg) v h' (by rw [eval_act]; exact hr) (by intro r hr; cases hr) (by rw [put_act hn]; exact next)
theorem s_run0 {op : COp} {v : Value} {h' : IH} (hg : gok l g = true) (hr : op.run P (ev l) h = some (v, h'))
 (next : OPS P ds rest (act n l D pm ro) h' K) : OPS P ds (⟨⟨none, g, op⟩, []⟩ :: rest) (act n l D pm ro) h K :=
 .det (wants_gok hg) v h' (by rw [eval_act]; exact hr) (by intro r hr; cases hr) next
theorem s_len {x : Operand} {a : Option Addr} {m c : Nat} (hn : Nat.blt d n = true) (hg : gok l g = true) (hx : ev l x = .slice a m c)
 (next : OPS P ds rest (act n ((d, .int .i64 (m : Int)) :: l) D pm ro) h K) : OPS P ds (⟨⟨some d, g, .lenSl x⟩, []⟩ :: rest) (act n l D pm ro) h K :=
 s_run hn hg (by simp only [COp.run, hx, goInt_ofNat]) next
theorem binI_int (op : BinOp) (t : TypeId) (x y : Operand) (a b : Int) (v : Value) (hv : intI op .i64 a b = some v) : binI P op t x y (.int .i64 a) (.int .i64 b) = some v := by
 simp only [binI, sameK, cond, hv]
theorem wrap_in {m : Int} (h1 : -9223372036854775808 ≤ m) (h2 : m < 9223372036854775808) : wrapI .i64 m = m := by
 rw [wrapI_eq]
 exact IntWalk.i64_in m ⟨h1, by omega⟩
theorem blt_t {a b : Nat} (h : a < b) : Nat.blt a b = true := by simp only [Nat.blt_eq]; exact h
theorem s_idxSl {x i : Operand} {size b o m c : Nat} {f : Option Nat} {k : Int} {kk : IntKind} (hn : Nat.blt d n = true) (hg : gok l g = true) (hx : ev l x = .slice (some ⟨b, o, f⟩) m c) (hi : ev l i = .int kk k)
 (h0 : 0 ≤ k) (h1 : k < m) (next : OPS P ds rest (act n ((d, .pointer (some ⟨b, o + k.toNat * size, none⟩)) :: l) D pm ro) h K) : OPS P ds (⟨⟨some d, g, .idxSl size x i⟩, []⟩ :: rest) (act n l D pm ro) h K := by
 obtain ⟨j, rfl⟩ := Int.eq_ofNat_of_zero_le h0
 refine s_run hn hg ?_ next
 simp only [COp.run, hx, hi]
 show cond (Nat.blt j m) _ _ = _
 rw [blt_t (by omega)]; rfl
theorem s_load1 {x : Operand} {b o : Nat} {cs : List Value} {v : Value} (hn : Nat.blt d n = true) (hg : gok l g = true) (hx : ev l x = .pointer (some ⟨b, o, none⟩)) (ha : At h b (.cells cs)) (hv : cs[o]? = some v)
 (next : OPS P ds rest (act n ((d, v) :: l) D pm ro) h K) : OPS P ds (⟨⟨some d, g, .load1 x⟩, []⟩ :: rest) (act n l D pm ro) h K :=
 s_run hn hg (by simp only [COp.run, hx, ha.c.read1, hv]) next
theorem s_loadN {x : Operand} {b o m : Nat} {cs r : List Value} (hn : Nat.blt d n = true) (hg : gok l g = true) (hx : ev l x = .pointer (some ⟨b, o, none⟩)) (ha : At h b (.cells cs)) (hv : ltake (ldrop cs o) m = some r)
 (next : OPS P ds rest (act n ((d, .agg ⟨r⟩) :: l) D pm ro) h K) : OPS P ds (⟨⟨some d, g, .loadN m x⟩, []⟩ :: rest) (act n l D pm ro) h K :=
 s_run hn hg (by simp only [COp.run, hx, ha.c.readAt, hv]) next
theorem s_call {f : Operand} {args : List Operand} {re : List CStep} (hn : Nat.blt d n = true) (hg : gok l g = true) (fn : Fn) {first captured : List Value} (hf : ev l f = .func fn ⟨first⟩ ⟨captured⟩) (M : KR)
 (hc : CALL P ⟨fn, first ++ args.map (ev l), captured, none⟩ h M)
 (hs : ∀ v h', M (.ok v) none h' → ∀ r ∈ re, ∃ u h2, r.op.run P (ev ((d, v) :: l)) h' = some (u, h2) ∧ ∀ d', r.dst = some d' → lk ((d, v) :: l) d' = u)
 (hok : ∀ v h', M (.ok v) none h' → OPS P ds rest (act n ((d, v) :: l) D pm ro) h' K)
 (hpan : ∀ ch h', M (.pan ch) none h' → K (.panic ch) (forget ds (act n l D pm ro)) h') (hno : ∀ r p h', M r p h' → p = none) : OPS P ds (⟨⟨some d, g, .call f args⟩, re⟩ :: rest) (act n l D pm ro) h K := by
 refine .call (wants_gok hg) ⟨fn, first ++ args.map (ev l), captured, none⟩ (by simp only [reqOf, eval_act, hf, lapp_eq, lmap_eq]) M hc ?_ ?_ ?_
 · intro v p h' hm r hr _
   have := hno _ _ _ hm; subst this
   obtain ⟨u, h2, e1, e2⟩ := hs v h' hm r hr
   rw [put_act hn]
   exact ⟨u, h2, by rw [eval_act]; exact e1, fun d' hd => by rw [← e2 d' hd]; exact tget_envT _ _⟩
 · intro v p h' hm
   have := hno _ _ _ hm; subst this
   rw [put_act hn]; exact hok v h' hm
 · intro ch p h' hm
   have := hno _ _ _ hm; subst this
   exact hpan ch h' hm
section
variable {a : IAct} {x y : CCode} {i j m0 : Nat} {I : Nat → IAct → IH → Prop} {ch : List PanicEntry}
theorem k_be (e : Nat.beq j i = true) (k : K .normal a h) : blockK i K (.exit j) a h := by
 have : j = i := beq_t e
 subst this
 show K (inBlock j (.exit j)) a h
 simp only [inBlock]
 rw [e]; exact k
theorem k_bf (e : Nat.beq j i = false) (k : K (.exit j) a h) : blockK i K (.exit j) a h := by
 show K (inBlock i (.exit j)) a h
 simp only [inBlock]
 rw [e]; exact k
end
theorem k_ln {l0 : List (Nat × Value)} {I : Nat → IAct → IH → Prop} {m0 : Nat} (m' : Nat) (hlt : m' < m0) (hs : sub l0 l) (k : I m' (act n l0 D pm ro) h) : loopK I m0 K .normal (act n l D pm ro) h :=
 ⟨m', _, hlt, weaker_act hs, k⟩
end
end Go.Ideal
namespace Go.Ideal
variable {P : Program}
section
variable {ds : List Tmp} {rest : List PStep} {n : Nat} {l : List (Nat × Value)} {D : List Deferred} {pm : Option FrameMode} {ro : Option Nat} {h : IH} {K : KO} {d : Nat} {g : Option (Tmp × Bool)}
structure Moved (h h' : IH) (b : Nat) (o : IObj) : Prop where
 next : h'.next = h.next + 1
 get : ∀ i, i < h.next → i ≠ b → h'.get i = h.get i
 at_ : At h' h.next o
 low : h.low ≤ b → h'.low = h.low
theorem s_append {e : TypeId} {size bytes b o m k : Nat} {f : Option Nat} {s x : Operand} {old xs : List Value} (hn : Nat.blt d n = true) (hg : gok l g = true)
 (hs : ev l s = .slice (some ⟨b, o, f⟩) m m) (hx : lenI (ev l x) = some (k + 1)) (hxs : firstI size (k + 1) (ev l x) h = some xs) (hold : h.readAt b o (m * size) = some old)
 (hf : f = some 0 ∨ f = some size) (hm : (m + (k + 1)) * bytes ≤ 1073741824 ∧ (m + (k + 1)) * size ≤ 1073741824 ∧ m + (k + 1) ≤ 1073741824)
 (next : ∀ h', Moved h h' b (.cells (old ++ xs)) → OPS P ds rest (act n ((d, .slice (some ⟨h.next, 0, some size⟩) (m + (k + 1)) (m + (k + 1))) :: l) D pm ro) h' K) :
 OPS P ds (⟨⟨some d, g, .append e size bytes s x⟩, []⟩ :: rest) (act n l D pm ro) h K := by
 have hle : ∀ {a b : Nat}, a ≤ b → Nat.ble a b = true := fun h => by rw [Nat.ble_eq]; exact h
 have hlt : Nat.ble (m + (k + 1)) m = false := by
  cases hb : Nat.ble (m + (k + 1)) m with
  | false => rfl
  | true => have := Nat.le_of_ble_eq_true hb; omega
 have hc : (Nat.ble (Nat.mul (m + (k + 1)) bytes) small && Nat.ble (Nat.mul (m + (k + 1)) size) small && Nat.ble (m + (k + 1)) small) = true := by
  rw [hle (show Nat.mul (m + (k + 1)) bytes ≤ small from hm.1), hle (show Nat.mul (m + (k + 1)) size ≤ small from hm.2.1), hle (show m + (k + 1) ≤ small from hm.2.2)]; rfl
 have hrun : ∃ h', (COp.append e size bytes s x).run P (ev l) h = some (.slice (some ⟨h.next, 0, some size⟩) (m + (k + 1)) (m + (k + 1)), h') ∧ Moved h h' b (.cells (old ++ xs)) := by
  have hxs' : firstX size (k + 1) (ev l x) h = some xs := hxs
  simp only [COp.run, hx, hxs', hs, appendI]
  have e1 : firstI size m (.slice (some ⟨b, o, f⟩) m m) h = some old := hold
  show ∃ h', (cond (Nat.ble (Nat.mul (m + (k + 1)) bytes) small && Nat.ble (Nat.mul (m + (k + 1)) size) small && Nat.ble (m + (k + 1)) small) _ _) = _ ∧ _
  rw [hc]
  show ∃ h', (cond (Nat.ble (m + (k + 1)) m) _ _) = _ ∧ _
  rw [hlt]
  simp only [cond, e1]
  rcases hf with rfl | rfl
  · refine ⟨_, rfl, ?_⟩
    exact ⟨rfl, fun i hi _ => by rw [IH.get_new, if_neg (by omega)], ⟨Nat.lt_succ_self _, by rw [IH.get_new, if_pos rfl, lapp_eq]⟩, fun _ => rfl⟩
  · cases size with
    | zero =>
      refine ⟨_, rfl, ?_⟩
      exact ⟨rfl, fun i hi _ => by rw [IH.get_new, if_neg (by omega)], ⟨Nat.lt_succ_self _, by rw [IH.get_new, if_pos rfl, lapp_eq]⟩, fun _ => rfl⟩
    | succ j =>
      have hj : Nat.beq (Nat.succ j) (j + 1) = true := Nat.beq_refl _
      refine ⟨(h.kill b).new (.cells (old ++ xs)), ?_, ?_⟩
      · show cond (Nat.beq (Nat.succ j) (j + 1)) _ _ = _
        rw [hj, lapp_eq]; rfl
      · exact ⟨rfl, fun i hi hb => by rw [IH.get_new, if_neg (by show i ≠ h.next; omega), IH.get_kill, if_neg hb], ⟨Nat.lt_succ_self _, by rw [IH.get_new]; exact if_pos rfl⟩, fun hl => by rw [IH.low_new, IH.low_kill]; omega⟩
 obtain ⟨h', hr, hM⟩ := hrun
 exact s_run hn hg hr (next h' hM)
theorem s_append0 {e : TypeId} {size bytes k c : Nat} {s x : Operand} {xs : List Value} (hn : Nat.blt d n = true) (hg : gok l g = true)
 (hs : ev l s = .slice none 0 0) (hx : lenI (ev l x) = some (k + 1)) (hxs : firstI size (k + 1) (ev l x) h = some xs)
 (hm : (k + 1) * bytes ≤ 1073741824 ∧ (k + 1) * size ≤ 1073741824 ∧ (k + 1) ≤ 1073741824)
 (next : ∀ h', Agree h h' → At h' h.next (.cells xs) → h'.next = h.next + 1 → OPS P ds rest (act n ((d, .slice (some ⟨h.next, 0, some size⟩) (k + 1) (k + 1)) :: l) D pm ro) h' K) :
 OPS P ds (⟨⟨some d, g, .append e size bytes s x⟩, []⟩ :: rest) (act n l D pm ro) h K := by
 have hle : ∀ {a b : Nat}, a ≤ b → Nat.ble a b = true := fun h => by rw [Nat.ble_eq]; exact h
 have e0 : Nat.add 0 (k + 1) = k + 1 := Nat.zero_add _
 refine s_run hn hg (h' := h.new (.cells xs)) ?_ (next _ (new_agree _ _) (new_at _ _) rfl)
 have hxs' : firstX size (k + 1) (ev l x) h = some xs := hxs
 simp only [COp.run, hx, hxs', hs, appendI, e0]
 rw [hle (show Nat.mul (k + 1) bytes ≤ small from hm.1), hle (show Nat.mul (k + 1) size ≤ small from hm.2.1), hle (show k + 1 ≤ small from hm.2.2)]
 have e1 : firstI size 0 (.slice none 0 0) h = some [] := by
  show (match (0 : Nat) with | 0 => some ([] : List Value) | _ => none) = _
  rfl
 have e2 : Nat.ble (k + 1) 0 = false := rfl
 simp only [Bool.and_self, cond_true, e2, cond_false, e1, lapp_eq, List.nil_append]
theorem At.cellsAt {b o m : Nat} {cs r : List Value} (a : At h b (.cells cs)) (hr : ltake (ldrop cs o) m = some r) : h.cellsAt b o m = some r := by
 simp only [IH.cellsAt, a.2, hr]
theorem At.readAt {b o m : Nat} {cs r : List Value} (a : At h b (.cells cs)) (hr : ltake (ldrop cs o) m = some r) : h.readAt b o m = some r := by
 rw [a.c.readAt, hr]
theorem c_defers {f : FuncId} {args cap : List Value} {pm : Option FrameMode} {h : IH} {K : KR} (cf : CFunc) (fn : Func) (hf : P.funcs[f]? = some fn) (hcf : cfunc P fn = some cf)
 (hb : EV P cf.body (initAct cf.ntmps (args ++ cap) pm) h (fun o a h' => match modeOf o with
   | none => False
   | some m => LEAVE P cf a.tmps a.defers m h' fun r h'' => K r a.pm h'')) : CALL P ⟨.func f, args, cap, pm⟩ h K := by
 refine .enter f (args ++ cap) (by simp only [target, lapp_eq]) fn hf cf hcf _ hb ?_ ?_
 · intro o a h hm e; rw [e] at hm; exact hm
 · intro o a h' m hm he; rw [he] at hm; exact hm
end
end Go.Ideal
namespace Go.Ideal
open Go.RowKit
variable {P : Program}
noncomputable def rowT : Nat → List (Option (List Value)) → T IObj
 | _, [] => .leaf
 | i, c :: l => (rowT (i + 1) l).set i (c.map .roc)
theorem rowT_get : ∀ (l : List (Option (List Value))) (i j : Nat), (rowT i l).get j = if i ≤ j then (l[j - i]?).bind (fun c => c.map .roc) else none
 | [], i, j => by simp [rowT, T.get_leaf]
 | c :: l, i, j => by
   simp only [rowT, T.get_set]
   by_cases e : j = i
   · subst e; simp
   · rw [if_neg e, rowT_get l (i + 1) j]
     by_cases h : i ≤ j
     · rw [if_pos (by omega), if_pos h]
       obtain ⟨k, hk⟩ : ∃ k, j - i = k + 1 := ⟨j - i - 1, by omega⟩
       rw [hk, List.getElem?_cons_succ, show j - (i + 1) = k by omega]
     · rw [if_neg (by omega), if_neg h]
abbrev Lay := List (Option Img × Option (List Value))
noncomputable def heapL (L : Lay) : IH := ⟨rowT 0 (L.map (·.2)), L.length, L.length⟩
def injL (L : Lay) : Inj := fun i => (L[i]?).bind (·.1)
theorem heapL_get (L : Lay) (i : Nat) : (heapL L).get i = (L[i]?).bind fun p => p.2.map .roc := by
 show (rowT 0 (L.map (·.2))).get i = _
 rw [rowT_get, if_pos (Nat.zero_le _), Nat.sub_zero, List.getElem?_map]
 cases L[i]? <;> rfl
theorem heapL_cells {L : Lay} {i : Nat} {g : Option Img} {cs : List Value} (h : L[i]? = some (g, some cs)) : Cells (heapL L) i cs :=
 ⟨(List.getElem?_eq_some_iff.1 h).1, .inr (by rw [heapL_get, h]; rfl)⟩
structure LeafOK (L : Lay) (w : World) (g : Img) (cs : List Value) : Prop where
 block : ∃ c t fz, w.heap[g.b]? = some (.cells c t fz)
 sz : g.sz = 0
 all : cs.all cellV = true
 cell : ∀ (j : Nat) v, cs[j]? = some v → ∃ v', w.cell? ⟨g.b, g.off + j, none⟩ = some v' ∧ VR (injL L) v v'
theorem heapL_WR {L : Lay} {w : World} (hL : ∀ (i : Nat) g cs, L[i]? = some (some g, some cs) → LeafOK L w g cs) : WR P (injL L) (heapL L) w := by
 have hb : ∀ i g, injL L i = some g → ∃ cs, L[i]? = some (some g, cs) := fun i g h => by
  unfold injL at h
  cases e : L[i]? with
  | none => rw [e] at h; cases h
  | some p =>
    rw [e] at h
    obtain ⟨a, cs⟩ := p
    have h : a = some g := h
    subst h
    exact ⟨cs, rfl⟩
 have hlive : ∀ i o, (heapL L).get i = some o → ∃ g cs, L[i]? = some (g, some cs) ∧ o = .roc cs := fun i o h => by
  rw [heapL_get] at h
  cases e : L[i]? with
  | none => rw [e] at h; cases h
  | some p =>
    obtain ⟨g, c⟩ := p
    rw [e] at h
    cases c with
    | none => cases h
    | some cs => cases h; exact ⟨g, cs, rfl, rfl⟩
 refine ⟨?_, ?_, ?_, ?_⟩
 · intro i g h
   obtain ⟨cs, e⟩ := hb i g h
   exact (List.getElem?_eq_some_iff.1 e).1
 · intro i o h
   obtain ⟨g, cs, e, _⟩ := hlive i o h
   exact (List.getElem?_eq_some_iff.1 e).1
 · intro i g o h ho
   obtain ⟨c, e⟩ := hb i g h
   obtain ⟨g', cs, e', rfl⟩ := hlive i o ho
   rw [e] at e'
   cases e'
   have k := hL i g cs e
   exact ⟨k.block, k.sz, k.all, k.cell⟩
 · intro i j g k hi hj hgi hgj hr he
   exfalso
   rcases hr with q | q
   · cases e : (heapL L).get i with
     | none => exact hgi e
     | some o =>
       obtain ⟨_, cs, _, rfl⟩ := hlive i o e
       exact q cs e
   · cases e : (heapL L).get j with
     | none => exact hgj e
     | some o =>
       obtain ⟨_, cs, _, rfl⟩ := hlive j o e
       exact q cs e
open Go.WideShapes Go.ChangeShapes
section
variable {H : Type} {enc : TypeId × Value → H}
theorem below_cell {w w' : World} (hb : Below w.heap.size w w') {a : Addr} (ha : a.block < w.heap.size) : w'.cell? a = w.cell? a := by
 simp only [World.cell?, hb.block _ ha]
theorem below_same {w w' : World} (hb : Below w.heap.size w w') {p : MemPlace} (hp : p.block < w.heap.size) : w.sameAt w' p := by
 cases p with
 | cell b off => exact below_cell hb hp
 | map b => exact hb.block b hp
theorem trodAll_stays {T : TypeId → Prop} (K : Kids P T) (hsz : ∀ {t e : TypeId}, T t → P.underlying t = some (.slice e) → 0 < P.cellsOf e) {w w' : World} (hb : Below w.heap.size w w') {sp : Nat → Bool} : ∀ {ts : List TypeId} {vs : List Value} {ds : List (DataW H)} {ps : List MemPlace},
 (∀ t ∈ ts, T t) → DataW.TrodAll enc P w 0 (fun _ => true) true ts vs ds ps → (∀ p ∈ ps, sp p.block = true) → DataW.TrodAll enc P w' 0 sp true ts vs ds ps
 | [], [], [], _, _, h, _ => h
 | t :: _, v :: _, d :: _, _, hT, ⟨p, q, ⟨n, h1⟩, h2, e⟩, hs => by
   refine ⟨p, q, ⟨n, ?_⟩, trodAll_stays K hsz hb (fun t ht => hT t (List.mem_cons.2 (.inr ht))) h2 (fun x hx => hs x (by rw [e]; exact List.mem_append_right _ hx)), e⟩
   exact DataW.trod_stays K hsz (fun h => by cases h) (hT t (List.mem_cons.2 (.inl rfl))) h1 (fun x hx => below_same hb (DataW.trod_lt n _ _ _ h1 x hx)) (fun x hx => hs x (by rw [e]; exact List.mem_append_left _ hx))
theorem below_kept {w w' : World} (hb : Below w.heap.size w w') (may : MemPlace → Prop) : w.keptBut w' may := by
 refine ⟨hb.os, hb.output, fun i hi => ?_⟩
 rw [hb.block i hi]
 cases h : w.heap[i]? with
 | none => rfl
 | some o => cases o <;> simp
theorem post_law {f : Func} {s : ChangeSpec} {apart fresh handsOn again : Bool} {W W' : World} {args : Array Value} {v : Value} {ds gs : List (DataW H)} {before pa pv : List MemPlace}
 (hW : DataW.Whole enc P f.params.toList s.vars apart W args.toList ds gs before)
 (hres : ∀ (b : Nat) (sp : Nat → Bool) (hd : Bool), DataW.TrodAll enc P W' b sp hd f.resultTypes.toList (v.resultList f.resultTypes.size) (s.fn H (ds ++ gs)).results [])
 (hargs : ∀ sp : Nat → Bool, (∀ p ∈ before, sp p.block = true) → DataW.TrodAll enc P W' 0 sp true f.params.toList args.toList (s.fn H (ds ++ gs)).args pa)
 (hvars : ∀ sp : Nat → Bool, (∀ p ∈ before, sp p.block = true) → DataW.TrodVars enc P W' sp s.vars (s.fn H (ds ++ gs)).vars pv)
 (hps : before = pa ++ pv) (hb : Below W.heap.size W W')
 (hok : ∀ (j : Nat) (t : TypeId) (r : Value), f.resultTypes[j]? = some t → (v.resultList f.resultTypes.size)[j]? = some r → Value.okWide P W' .any 0 t r) :
 s.post enc P f apart fresh handsOn again W args v W' := by
 have hlt := hW.lt
 have hold : ∀ p ∈ before, (fun b => decide (b < W.heap.size)) p.block = true := fun p hp => decide_eq_true (hlt p hp)
 refine ⟨ds, gs, before, [], pa, pv, hW, hres _ _ _, hargs _ hold, hvars _ hold, below_kept hb _, fun _ => ?_⟩
 obtain ⟨_, _, _, _, _, hz, hn⟩ := hW
 refine ⟨hok, _, _, ([] ++ pa) ++ pv, ⟨[] ++ pa, pv, trodAll_append (hargs _ (fun _ _ => rfl)) (hres _ _ _), hvars _ (fun _ _ => rfl), rfl, ?_, ?_⟩, ?_⟩
 · intro b off hp
   have hm : MemPlace.cell b off ∈ before := by rw [hps]; simpa using hp
   have h1 : b < W.heap.size := hlt _ hm
   have := hz b off hm
   simp only [World.frozen?, hb.block b h1] at this ⊢
   exact this
 · intro ha
   have := hn ha
   rw [hps] at this
   simpa using this
 · intro p hp _
   rw [hps]
   simpa using hp
end
end Go.Ideal
namespace Go.Ideal
open Go.ChangeShapes Go.WideShapes Go.ChangeAt Go.RowKit
section
variable {H : Type} {enc : TypeId × Value → H} {P : Program} {W : World} {t e : TypeId}
end
end Go.Ideal

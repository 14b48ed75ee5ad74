/-
  The ideal machine, 72: conversions between integers, shifts of unsigned ones; arrays of numbers as keys.
-/
import Derived.Test.YtpkieeggilkagaaGreatIdealN
set_option linter.unusedSimpArgs false
set_option linter.unusedVariables false
set_option linter.unusedSectionVars false
namespace Go.Ideal
variable {P : Program}
theorem zHm {ρ : Operand → Value} {src dst : TypeId} {x : Operand} {kk k : IntKind} {n m : Int} {ds : TypeDesc} (hs : P.underlying src = some ds) (hd : P.underlying dst = some (.int k)) (hx : ρ x = .int kk n) (hw : k.wrap n = m) : Pu P ρ (.conv src dst x) (.int k m) := fun h => by
 have h1 : zF P (convert src dst (.int kk n)) = some (.int k m) := by
  unfold convert
  rw [zD, zAD hs]
  simp only [Option.bind_some]
  rw [zD, zAD hd]
  simp only [Option.bind_some]
  rw [← hw]; rfl
 simp only [COp.run, hx, zAs, h1]; rfl
theorem zSQ {a : Nat} (h : a < 18446744073709551616) : IntKind.u64.wrap (a : Int) = a := by
 show (let m := (a : Int) % (2 ^ 64 : Int); if false && m ≥ (2 ^ 63 : Int) then m - (2 ^ 64 : Int) else m) = _
 simp only [Bool.false_and, Bool.false_eq_true, if_false]
 rw [Int.emod_eq_of_lt (by omega) (by simpa using (by omega : (a : Int) < 18446744073709551616))]
theorem zQ4 {ρ : Operand → Value} {x y : Operand} {t : TypeId} {a b : Nat} (hx : ρ x = .int .u64 (a : Int)) (hy : ρ y = .int .u64 (b : Int)) (hb : b < 64) : Pu P ρ (.bin .shr t x y) (.int .u64 ((a >>> b : Nat) : Int)) := fun h => by
 have hv : zF P (binOp .shr t (.int .u64 (a : Int)) (.int .u64 (b : Int))) = some (.int .u64 ((a >>> b : Nat) : Int)) := by
  show zF P (Op.shift .shr .u64 a .u64 b) = _
  unfold Op.shift
  rw [if_neg (by omega)]
  show some (Value.int .u64 ((a : Int).fdiv (2 ^ (min (b : Int).toNat 64)))) = _
  rw [show min (b : Int).toNat 64 = b by simp; omega, Nat.shiftRight_eq_div_pow]
  congr 2
  rw [show ((2 : Int) ^ b) = ((2 ^ b : Nat) : Int) by simp, Int.fdiv_eq_ediv_of_nonneg _ (Int.natCast_nonneg _)]
  simp
 have h1 : zAs P (do eqGuard .shr t x y (.int .u64 (a : Int)) (.int .u64 (b : Int)); binOp .shr t (.int .u64 (a : Int)) (.int .u64 (b : Int))) = some (.int .u64 ((a >>> b : Nat) : Int)) := by
  unfold zAs
  rw [zD, zAv (by intro c e; cases e) (by intro e; cases e)]
  simp only [Option.bind_some, hv]; rfl
 have h2 : zE3 P .shr t x y (.int .u64 (a : Int)) (.int .u64 (b : Int)) = some (.int .u64 ((a >>> b : Nat) : Int)) := by
  unfold zE3
  have : (match sameK .u64 .u64 with | true => zHw .shr .u64 (a : Int) (b : Int) | false => none) = none := rfl
  simp only [sameK, zB, Bool.and_self, cond]
  exact h1
 simp only [COp.run, hx, hy, h2]
theorem zKU {α : Type} [DecidableEq α] {toV : α → Value} {kt : TypeId} {d : TypeDesc} (hu : P.underlying kt = some d) (hn : ∀ a b, Instr.sameNow d (toV a) (toV b) = none) (he : ∀ a b, zF P (Op.equal kt (toV a) (toV b)) = some (decide (a = b))) (a : α) (kvs : List (α × Value)) (es : List MapEntry) (h : zCG toV kvs es) : zDo P kt (toV a) es = some (fnd a kvs 0) := by
 have hask : ∀ (kvs : List (α × Value)) (es : List MapEntry) (i : Nat), zCG toV kvs es → zF P (Instr.findAsking kt (toV a) es i) = some (fnd a kvs i) := by
  intro kvs
  induction kvs with
  | nil =>
    intro es i h
    cases es with
    | nil => rfl
    | cons e es => cases h
  | cons p kvs ih =>
    intro es i h
    obtain ⟨e, es', rfl, h1, h2, h3⟩ := zDV h
    unfold Instr.findAsking
    rw [zD, h1, he]
    simp only [Option.bind_some]
    unfold fnd
    by_cases hab : a = p.1
    · rw [decide_eq_true hab, if_pos hab, h2]; rfl
    · rw [decide_eq_false hab, if_neg hab]
      exact ih es' (i + 1) h3
 unfold zDo Instr.findKey
 rw [zD, zAD hu]
 simp only [Option.bind_some]
 cases kvs with
 | nil =>
   cases es with
   | nil => rfl
   | cons e es => cases h
 | cons p kvs =>
   have h' := h
   obtain ⟨e, es', rfl, h1, h2, h3⟩ := zDV h
   have : Instr.findNow d (toV a) (e :: es') 0 = none := by
    show (match Instr.sameNow d (toV a) e.key with
    | some true => some (some (0, e.val))
    | some false => Instr.findNow d (toV a) es' 1
    | none => none) = _
    rw [h1, hn]
   rw [this]
   exact hask _ _ _ h'
abbrev zEL : Int × Int → Value := fun p => .agg ⟨[.int .i64 p.1, .int .i64 p.2]⟩
theorem zJ0 {kt e : TypeId} (hu : P.underlying kt = some (.array 2 e)) (he : P.underlying e = some (.int .i64)) (hs : P.info? e |>.map (·.size) |> (· = some 1)) (hc : ∀ a b : Int, zBS P kt (.agg ⟨[.int .i64 a, .int .i64 b]⟩) = true) : zI7 P kt zEL where
 chk a := hc a.1 a.2
 find a kvs es h := zKU hu (fun a b => rfl) (fun a b => by
  have := zIP (d := 9998) (xs := [a.1, a.2]) (ys := [b.1, b.2]) hu he hs rfl rfl
  rw [show decide (a = b) = decide ([a.1, a.2] = [b.1, b.2]) from decide_eq_decide.2 ⟨fun h => by rw [h], fun h => by
   injection h with h1 h2
   injection h2 with h2
   exact Prod.ext h1 h2⟩]
  exact this) a kvs es h
 same a := by
  show ((⟨[Value.int .i64 a.1, .int .i64 a.2]⟩ : Array Value).size == (⟨[Value.int .i64 a.1, .int .i64 a.2]⟩ : Array Value).size && (List.zip [Value.int .i64 a.1, .int .i64 a.2] [Value.int .i64 a.1, .int .i64 a.2]).all fun (x, y) => Instr.sameBits 9999 x y) = true
  simp [Instr.sameBits]
end Go.Ideal
namespace Go.Ideal
section
variable {P : Program}
variable {ds : List Tmp} {rest : List zM} {n : Nat} {l : List (Nat × Value)} {D : List Deferred} {pm : Option FrameMode} {ro : Option Nat} {h : IH} {K : KO} {d : Nat} {g : Option (Tmp × Bool)}
theorem zOY {op : COp} {v : Value} {h' : IH} {re : List zq} (hn : Nat.blt d n = true) (hg : gok l g = true) (hr : op.run P (ev l) h = some (v, h'))
 (hsm : ∀ q ∈ re, ∃ u h2, q.op.run P (ev ((d, v) :: l)) h' = some (u, h2) ∧ ∀ d', q.dst = some d' → lk ((d, v) :: l) d' = u)
 (next : OPS P ds rest (act n ((d, v) :: l) D pm ro) h' K) : OPS P ds (⟨⟨some d, g, op⟩, re⟩ :: rest) (act n l D pm ro) h K :=
 .det (zAF hg) v h' (by rw [zf]; exact hr) (fun q hq _ => by
  obtain ⟨u, h2, e1, e2⟩ := hsm q hq
  rw [put_act hn]
  exact ⟨u, h2, by rw [zf]; exact e1, fun d' hd => by rw [← e2 d' hd]; exact z7 _ _⟩) (by rw [put_act hn]; exact next)
theorem zK3 {re : List zq} {e : TypeId} {size bytes b o m k : Nat} {f : Option Nat} {s x : Operand} {old xs : List Value} (hn : Nat.blt d n = true) (hg : gok l g = true)
 (hs : ev l s = .slice (some ⟨b, o, f⟩) m m) (hx : zG6 (ev l x) = some (k + 1)) (hxs : zAS size (k + 1) (ev l x) h = some xs) (hold : h.readAt b o (m * size) = some old)
 (hf : f = some 0 ∨ f = some size) (hm : (m + (k + 1)) * bytes ≤ 1073741824 ∧ (m + (k + 1)) * size ≤ 1073741824 ∧ m + (k + 1) ≤ 1073741824)
 (hsm : ∀ h', zH2 h h' b (.cells (old ++ xs)) → ∀ q ∈ re, ∃ u h2, q.op.run P (ev ((d, .slice (some ⟨h.next, 0, some size⟩) (m + (k + 1)) (m + (k + 1))) :: l)) h' = some (u, h2) ∧ ∀ d', q.dst = some d' → lk ((d, .slice (some ⟨h.next, 0, some size⟩) (m + (k + 1)) (m + (k + 1))) :: l) d' = u)
 (next : ∀ h', zH2 h h' b (.cells (old ++ xs)) → OPS P ds rest (act n ((d, .slice (some ⟨h.next, 0, some size⟩) (m + (k + 1)) (m + (k + 1))) :: l) D pm ro) h' K) :
 OPS P ds (⟨⟨some d, g, .append e size bytes s x⟩, re⟩ :: rest) (act n l D pm ro) h K := by
 have hle : ∀ {a b : Nat}, a ≤ b → Nat.ble a b = true := fun h => by rw [Nat.ble_eq]; exact h
 have hlt : Nat.ble (m + (k + 1)) m = false := by
  cases hb : Nat.ble (m + (k + 1)) m with
  | false => rfl
  | true => have := Nat.le_of_ble_eq_true hb; omega
 have hc : (Nat.ble (Nat.mul (m + (k + 1)) bytes) small && Nat.ble (Nat.mul (m + (k + 1)) size) small && Nat.ble (m + (k + 1)) small) = true := by
  rw [hle (show Nat.mul (m + (k + 1)) bytes ≤ small from hm.1), hle (show Nat.mul (m + (k + 1)) size ≤ small from hm.2.1), hle (show m + (k + 1) ≤ small from hm.2.2)]; rfl
 have hrun : ∃ h', (COp.append e size bytes s x).run P (ev l) h = some (.slice (some ⟨h.next, 0, some size⟩) (m + (k + 1)) (m + (k + 1)), h') ∧ zH2 h h' b (.cells (old ++ xs)) := by
  have hxs' : zC8 size (k + 1) (ev l x) h = some xs := hxs
  simp only [COp.run, hx, hxs', hs, zAn]
  have e1 : zAS size m (.slice (some ⟨b, o, f⟩) m m) h = some old := hold
  show ∃ h', (cond (Nat.ble (Nat.mul (m + (k + 1)) bytes) small && Nat.ble (Nat.mul (m + (k + 1)) size) small && Nat.ble (m + (k + 1)) small) _ _) = _ ∧ _
  rw [hc]
  show ∃ h', (cond (Nat.ble (m + (k + 1)) m) _ _) = _ ∧ _
  rw [hlt]
  simp only [cond, e1]
  rcases hf with rfl | rfl
  · refine ⟨_, rfl, ?_⟩
    exact ⟨rfl, fun i hi _ => by rw [IH.get_new, if_neg (by omega)], ⟨Nat.lt_succ_self _, by rw [IH.get_new, if_pos rfl, zZ]⟩, fun _ => rfl⟩
  · cases size with
    | zero =>
      refine ⟨_, rfl, ?_⟩
      exact ⟨rfl, fun i hi _ => by rw [IH.get_new, if_neg (by omega)], ⟨Nat.lt_succ_self _, by rw [IH.get_new, if_pos rfl, zZ]⟩, fun _ => rfl⟩
    | succ j =>
      have hj : Nat.beq (Nat.succ j) (j + 1) = true := Nat.beq_refl _
      refine ⟨(h.kill b).new (.cells (old ++ xs)), ?_, ?_⟩
      · show cond (Nat.beq (Nat.succ j) (j + 1)) _ _ = _
        rw [hj, zZ]; rfl
      · exact ⟨rfl, fun i hi hb => by rw [IH.get_new, if_neg (by show i ≠ h.next; omega), IH.get_kill, if_neg hb], ⟨Nat.lt_succ_self _, by rw [IH.get_new]; exact if_pos rfl⟩, fun hl => by rw [IH.low_new, IH.low_kill]; omega⟩
 obtain ⟨h', hr, hM⟩ := hrun
 exact zOY hn hg hr (hsm h' hM) (next h' hM)
theorem zJF {re : List zq} {e : TypeId} {size bytes k c : Nat} {s x : Operand} {xs : List Value} (hn : Nat.blt d n = true) (hg : gok l g = true)
 (hs : ev l s = .slice none 0 0) (hx : zG6 (ev l x) = some (k + 1)) (hxs : zAS size (k + 1) (ev l x) h = some xs)
 (hm : (k + 1) * bytes ≤ 1073741824 ∧ (k + 1) * size ≤ 1073741824 ∧ (k + 1) ≤ 1073741824)
 (hsm : ∀ h', Agree h h' → At h' h.next (.cells xs) → h'.next = h.next + 1 → ∀ q ∈ re, ∃ u h2, q.op.run P (ev ((d, .slice (some ⟨h.next, 0, some size⟩) (k + 1) (k + 1)) :: l)) h' = some (u, h2) ∧ ∀ d', q.dst = some d' → lk ((d, .slice (some ⟨h.next, 0, some size⟩) (k + 1) (k + 1)) :: l) d' = u)
 (next : ∀ h', Agree h h' → At h' h.next (.cells xs) → h'.next = h.next + 1 → OPS P ds rest (act n ((d, .slice (some ⟨h.next, 0, some size⟩) (k + 1) (k + 1)) :: l) D pm ro) h' K) :
 OPS P ds (⟨⟨some d, g, .append e size bytes s x⟩, re⟩ :: rest) (act n l D pm ro) h K := by
 have hle : ∀ {a b : Nat}, a ≤ b → Nat.ble a b = true := fun h => by rw [Nat.ble_eq]; exact h
 have e0 : Nat.add 0 (k + 1) = k + 1 := Nat.zero_add _
 refine zOY hn hg (h' := h.new (.cells xs)) ?_ (hsm _ (zEH _ _) (zLl _ _) rfl) (next _ (zEH _ _) (zLl _ _) rfl)
 have hxs' : zC8 size (k + 1) (ev l x) h = some xs := hxs
 simp only [COp.run, hx, hxs', hs, zAn, e0]
 rw [hle (show Nat.mul (k + 1) bytes ≤ small from hm.1), hle (show Nat.mul (k + 1) size ≤ small from hm.2.1), hle (show k + 1 ≤ small from hm.2.2)]
 have e1 : zAS size 0 (.slice none 0 0) h = some [] := by
  show (match (0 : Nat) with | 0 => some ([] : List Value) | _ => none) = _
  rfl
 have e2 : Nat.ble (k + 1) 0 = false := rfl
 simp only [Bool.and_self, cond_true, e2, cond_false, e1, zZ, List.nil_append]
end
section
variable {P : Program}
variable {ρ : Operand → Value}
variable {B : List Nat} {w0 : Wd} {kl kl' : List OA} {F : List zK} {a : zT} {K : KO}
variable {y : zP} {i j m0 : Nat} {I : Nat → zT → IH → Prop} {ch : List PanicEntry}
variable {B : List Nat} {w0 : Wd} {kl kl' : List OA} {F : List zK} {K : KO} {ds : List Tmp} {rest : List zM} {n : Nat} {l : List (Nat × Value)} {D : List Deferred} {pm : Option FrameMode} {ro : Option Nat} {d : Nat} {g : Option (Tmp × Bool)}
theorem zQc {re : List zq} {α : Type} {E : Enc α} {e : TypeId} {size bytes b' : Nat} {s x : Operand} {v : Value} {xs : List α} {a : α} {y : E.Y} {cs : List Value} {k1 k2 : List OA} (hn : Nat.blt d n = true) (hg : gok l g = true)
 (hs : ev l s = v) (hx : ev l x = .slice (some ⟨b', 0, some 0⟩) 1 1) (hk : Sel (ap E v xs) kl k1) (hc : Sel (pt b' (.cells cs)) k1 k2) (hp : cs = E.pat a y) (hF : Sub (E.fs a y) F) (hz : E.n = size)
 (hm : (xs.length + 1) * bytes ≤ 1073741824 ∧ (xs.length + 1) * size ≤ 1073741824 ∧ xs.length + 1 ≤ 1073741824)
 (hsm : ∀ ad, Same P re (ev ((d, .slice ad (xs.length + 1) (xs.length + 1)) :: l)) ((d, .slice ad (xs.length + 1) (xs.length + 1)) :: l) B w0 (ap E (.slice ad (xs.length + 1) (xs.length + 1)) (xs ++ [a]) :: k2) F)
 (r : ∀ ad, R (fun h => OPS P ds rest (act n ((d, .slice ad (xs.length + 1) (xs.length + 1)) :: l) D pm ro) h K) B w0 (ap E (.slice ad (xs.length + 1) (xs.length + 1)) (xs ++ [a]) :: k2) F) :
 R (fun h => OPS P ds (⟨⟨some d, g, .append e size bytes s x⟩, re⟩ :: rest) (act n l D pm ro) h K) B w0 kl F := by
 intro w st
 subst hp hz
 have hlen := E.len a y
 have st2 : St B w0 (ap E v xs :: pt b' (.cells (E.pat a y)) :: k2) F w := st.selL (.cons hk (.cons hc .nil))
 have hat : At w.h b' (.cells (E.pat a y)) := st2.at_ (.there .here)
 have st3 : St B w0 (ap E v xs :: k2) F w := (st2.sel (.there .here)).tail
 have hfs : ∀ f ∈ E.fs a y, f.p w := fun f hf => st.facts f (hF.mem f hf)
 have hread : w.h.readAt b' 0 (1 * E.n) = some (E.pat a y) := by
  rw [hat.c.readAt, zx, zy, Nat.one_mul, List.drop_zero, if_pos (by omega), ← hlen, List.take_length]
 have hx1 : zG6 (ev l x) = some (0 + 1) := by rw [hx]; rfl
 have hx2 : zAS E.n (0 + 1) (ev l x) w.h = some (E.pat a y) := by rw [hx]; exact hread
 -- what lies there afterwards
 have put : ∀ (w' : Wd) (c : Nat) (f : Nat) (cells : List Value), cells.length = xs.length * E.n → (∀ (k : Nat) z, xs[k]? = some z → ∃ y, (∀ (j : Nat) u, (E.pat z y)[j]? = some u → cells[k * E.n + j]? = some u) ∧ ∀ f ∈ E.fs z y, f.p w') → (∀ f ∈ E.fs a y, f.p w') →
  (f = 0 ∨ f = E.n) → ∀ S, (pt c (.cells (cells ++ E.pat a y))).p w' S → (ap E (.slice (some ⟨c, 0, some f⟩) (xs.length + 1) (xs.length + 1)) (xs ++ [a])).p w' S := by
  intro w' c f cells h1 h2 h3 h4 S hp
  refine .inr ⟨c, 0, f, _, by rw [List.length_append]; rfl, h4, hp.1, hp.2, by rw [List.length_append, List.length_append, h1, hlen, List.length_singleton, Nat.add_mul, Nat.one_mul, Nat.zero_add], fun k z hk => ?_⟩
  by_cases hlt : k < xs.length
  · rw [List.getElem?_append_left hlt] at hk
    obtain ⟨y', q1, q2⟩ := h2 k z hk
    refine ⟨y', fun j u hj => ?_, q2⟩
    rw [Nat.zero_add]
    have := q1 j u hj
    rw [List.getElem?_append_left (List.getElem?_eq_some_iff.1 this).1]; exact this
  · rw [List.getElem?_append_right (by omega)] at hk
    have hk0 : k = xs.length := by
     have := (List.getElem?_eq_some_iff.1 hk).1
     simp at this; omega
    subst hk0
    simp at hk
    subst hk
    refine ⟨y, fun j u hj => ?_, h3⟩
    rw [Nat.zero_add, List.getElem?_append_right (by omega), h1, Nat.add_sub_cancel_left]; exact hj
 obtain ⟨S, ⟨S1, S2, q, q2, e1⟩, hnd, hown⟩ := st3.own
 rcases q with ⟨rfl, rfl, rfl⟩ | ⟨b, o, f, cells, rfl, hf, rfl, hb, hcl, hel⟩
 · have key : ∀ h', Agree w.h h' → At h' w.h.next (.cells (E.pat a y)) → h'.next = w.h.next + 1 → ∃ w' : Wd, w'.h = h' ∧ St B w0 (ap E (.slice (some ⟨w.h.next, 0, some E.n⟩) (([] : List α).length + 1) (([] : List α).length + 1)) ([] ++ [a]) :: k2) F w' := fun h' ag at1 hnx => by
    obtain ⟨w', rfl, st4⟩ := st3.tail.fresh ag at1 hnx
    refine ⟨w', rfl, ?_⟩
    have hle : ∀ f ∈ E.fs a y, f.p w' := fun f hf => st4.facts f (hF.mem f hf)
    exact st4.turnA' fun S hp => put w' _ E.n [] (by simp) (fun k z hk => by cases hk) hle (.inr rfl) S hp
   refine zJF (c := 0) hn hg hs hx1 hx2 (by simpa using hm) (fun h' ag at1 hnx => ?_) fun h' ag at1 hnx => ?_
   · obtain ⟨w', rfl, st4⟩ := key h' ag at1 hnx
     exact hsm _ w' st4
   · obtain ⟨w', rfl, st4⟩ := key h' ag at1 hnx
     exact r _ w' st4
 · have st5 : St B w0 (pt b (.cells cells) :: k2) F w := ⟨st3.agree, st3.le, st3.zold, ⟨S, ⟨_, S2, ⟨rfl, hb⟩, q2, e1⟩, hnd, hown⟩, st3.facts⟩
   have hbat : At w.h b (.cells cells) := st5.at_ .here
   have key : ∀ h', zH2 w.h h' b (.cells (cells.drop o ++ E.pat a y)) → ∃ w' : Wd, w'.h = h' ∧ St B w0 (ap E (.slice (some ⟨w.h.next, 0, some E.n⟩) (xs.length + 1) (xs.length + 1)) (xs ++ [a]) :: k2) F w' := fun h' mv => by
    obtain ⟨w', rfl, st4, hwle⟩ := st5.move mv
    refine ⟨w', rfl, st4.turnA' fun S hp => ?_⟩
    have hle : ∀ f ∈ E.fs a y, f.p w' := fun f hf => st4.facts f (hF.mem f hf)
    refine put w' _ E.n (cells.drop o) (by rw [List.length_drop]; omega) (fun k z hk => ?_) hle (.inr rfl) S hp
    obtain ⟨y', u1, u2⟩ := hel k z hk
    exact ⟨y', fun j u hj => by rw [List.getElem?_drop, ← Nat.add_assoc]; exact u1 j u hj, fun f hf => f.mono hwle (u2 f hf)⟩
   refine zK3 (old := cells.drop o) (xs := E.pat a y) hn hg hs hx1 hx2 ?_ (hf.elim (fun e => .inl (by rw [e])) fun e => .inr (by rw [e])) hm (fun h' mv => ?_) fun h' mv => ?_
   · have hdl : (cells.drop o).length = xs.length * E.n := by rw [List.length_drop]; omega
     rw [hbat.c.readAt, zx, zy, if_pos (by omega), ← hdl, List.take_length]
   · obtain ⟨w', rfl, st4⟩ := key h' mv
     exact hsm _ w' st4
   · obtain ⟨w', rfl, st4⟩ := key h' mv
     exact r _ w' st4
end
section
variable {P : Program} {B : List Nat} {w0 : Wd} {kl kl' klr : List OA} {F : List zK} {K : KO} {n : Nat} {l : List (Nat × Value)} {D : List Deferred} {pm : Option FrameMode} {ro : Option Nat}
theorem zOX {re : List zq} {α : Type} (E : Enc α) {ds : List Tmp} {rest : List zM} {d : Nat} {g : Option (Tmp × Bool)} {e : TypeId} {size bytes b' : Nat} {s x : Operand} {v : Value} {xs : List α} (a : α) (y : E.Y) {cs : List Value} {k1 k2 : List OA}
 (hm : (xs.length + 1) * bytes ≤ 1073741824 ∧ (xs.length + 1) * size ≤ 1073741824 ∧ xs.length + 1 ≤ 1073741824)
 (next : ∀ ad, R (fun h => OPS P ds rest (act n ((d, .slice ad (xs.length + 1) (xs.length + 1)) :: l) D pm ro) h K) B w0 (ap E (.slice ad (xs.length + 1) (xs.length + 1)) (xs ++ [a]) :: k2) F)
 (hn : Nat.blt d n = true := by rfl) (hg : gok l g = true := by rfl)
 (hs : ev l s = v := by conv => lhs; whnf) (hx : ev l x = .slice (some ⟨b', 0, some 0⟩) 1 1 := by rfl) (hk : autoParam (Sel (ap E v xs) kl k1) zA9._auto_1) (hc : autoParam (Sel (pt b' (.cells cs)) k1 k2) zA9._auto_1) (hp : cs = E.pat a y := by rfl) (hF : autoParam (Sub (E.fs a y) F) zE8._auto_1) (hz : E.n = size := by rfl)
 (hsm : ∀ ad, Same P re (ev ((d, .slice ad (xs.length + 1) (xs.length + 1)) :: l)) ((d, .slice ad (xs.length + 1) (xs.length + 1)) :: l) B w0 (ap E (.slice ad (xs.length + 1) (xs.length + 1)) (xs ++ [a]) :: k2) F := by intro _; repeat (first | exact same_nil | refine same_load rfl (by repeat (first | with_reducible exact Sel.here | with_reducible apply Sel.there | with_reducible apply Sel.app)) (by first | exact rfl | (conv => lhs; whnf)) rfl ?_ | refine same_loadF rfl (by (repeat (first | with_reducible exact List.mem_cons_self .. | with_reducible apply List.mem_cons_of_mem)); first | done | fail) (by first | exact rfl | (conv => lhs; whnf)) rfl ?_ | refine same_loadFj rfl (by (repeat (first | with_reducible exact List.mem_cons_self .. | with_reducible apply List.mem_cons_of_mem)); first | done | fail) (by first | exact rfl | (conv => lhs; whnf)) rfl ?_ | refine same_loadN rfl (by repeat (first | with_reducible exact Sel.here | with_reducible apply Sel.there | with_reducible apply Sel.app)) (by first | exact rfl | (conv => lhs; whnf)) rfl ?_ | refine same_loadNF rfl (by (repeat (first | with_reducible exact List.mem_cons_self .. | with_reducible apply List.mem_cons_of_mem)); first | done | fail) (by first | exact rfl | (conv => lhs; whnf)) rfl ?_ | refine same_loadNFj rfl (by (repeat (first | with_reducible exact List.mem_cons_self .. | with_reducible apply List.mem_cons_of_mem)); first | done | fail) (by first | exact rfl | (conv => lhs; whnf)) rfl ?_ | refine same_p (by first | ((with_reducible apply p_mv); (focus ((conv => lhs; whnf); (first | done | fail)))) | ((with_reducible apply p_asg); (focus ((conv => lhs; whnf); (first | done | fail)))) | ((with_reducible apply p_len); (focus exact rfl)) | ((with_reducible apply p_lss); (focus exact rfl); (focus exact rfl)) | ((with_reducible apply p_leq); (focus exact rfl); (focus exact rfl)) | ((with_reducible apply p_gtr); (focus exact rfl); (focus exact rfl)) | ((with_reducible apply p_geq); (focus exact rfl); (focus exact rfl)) | ((with_reducible apply p_eql); (focus exact rfl); (focus exact rfl)) | ((with_reducible apply p_neq); (focus exact rfl); (focus exact rfl)) | ((with_reducible apply p_not); (focus exact rfl)) | ((with_reducible apply p_pickT); (focus exact rfl); (focus ((conv => lhs; whnf); (first | done | fail)))) | ((with_reducible apply p_pickF); (focus exact rfl); (focus ((conv => lhs; whnf); (first | done | fail)))) | ((with_reducible apply p_extract); (focus exact rfl); (focus ((conv => lhs; whnf); (first | done | fail)))) | ((with_reducible apply p_fieldA); (focus exact rfl)) | ((with_reducible apply p_field1); (focus exact rfl); (focus ((conv => lhs; whnf); (first | done | fail)))) | ((with_reducible apply p_fieldN); (focus exact rfl); (focus ((conv => lhs; whnf); (first | done | fail)))) | ((with_reducible apply p_iface); (focus ((conv => lhs; whnf); (first | done | fail)))) | ((with_reducible apply p_tassert); (focus exact rfl)) | ((with_reducible apply p_nilck); (focus exact rfl)) | ((with_reducible apply p_nilckF); (focus exact rfl)) | with_reducible exact p_lenArr | ((with_reducible apply p_idxK); (focus exact rfl); (focus exact rfl); (focus exact rfl)) | ((with_reducible apply p_idxN); (focus exact rfl); (focus exact rfl); (focus ((omega); (first | done | fail)))) | ((with_reducible apply p_idx); (focus exact rfl); (focus exact rfl); (focus ((omega); (first | done | fail))); (focus ((omega); (first | done | fail)))) | ((with_reducible apply p_idxArr); (focus exact rfl); (focus exact rfl); (focus ((omega); (first | done | fail))); (focus ((omega); (first | done | fail)))) | ((with_reducible apply p_add); (focus exact rfl); (focus exact rfl); (focus ((omega); (first | done | fail))); (focus ((omega); (first | done | fail)))) | ((with_reducible apply p_sub); (focus exact rfl); (focus exact rfl); (focus ((omega); (first | done | fail))); (focus ((omega); (first | done | fail)))) | ((with_reducible apply p_eqlB); (focus exact rfl); (focus exact rfl); (focus ((first | assumption | kernel_rfl); (first | done | fail)))) | ((with_reducible apply p_neqB); (focus exact rfl); (focus exact rfl); (focus ((first | assumption | kernel_rfl); (first | done | fail)))) | ((with_reducible apply p_eqlS); (focus exact rfl); (focus exact rfl)) | ((with_reducible apply p_neqS); (focus exact rfl); (focus exact rfl)) | ((with_reducible apply p_mul); (focus exact rfl); (focus exact rfl); (focus ((omega); (first | done | fail))); (focus ((omega); (first | done | fail))))) rfl ?_)) :
 R (fun h => OPS P ds (⟨⟨some d, g, .append e size bytes s x⟩, re⟩ :: rest) (act n l D pm ro) h K) B w0 kl F :=
 zQc hn hg hs hx hk hc hp hF hz hm hsm next
end
end Go.Ideal
namespace Go.Ideal
variable {P : Program}
section
variable {α κ : Type} [DecidableEq κ] {toV : κ → Value} {E : Enc α}
def mlL (E : Enc α) : List (κ × Value) → List (κ × List α) → List OA
 | p :: kvs, q :: m => ap E p.2 q.2 :: mlL E kvs m
 | _, _ => []
def mlO (E : Enc α) (n : κ) : List (κ × Value) → List (κ × List α) → List OA
 | p :: kvs, q :: m => if n = p.1 then mlL E kvs m else ap E p.2 q.2 :: mlO E n kvs m
 | _, _ => []
def mlA (toV : κ → Value) (E : Enc α) (b : Nat) (m : List (κ × List α)) : OA :=
 ⟨fun w S => ∃ kvs : List (κ × Value), kvs.map (·.1) = m.map (·.1) ∧ zAO w (mpA toV b kvs :: mlL E kvs m) S, fun a h ⟨kvs, h1, h2⟩ => ⟨kvs, h1, zAO.loc a h h2⟩⟩
def mlR (E : Enc α) (n : κ) (kvs : List (κ × Value)) (m : List (κ × List α)) : OA := ⟨fun w S => zAO w (mlO E n kvs m) S, fun a h hp => zAO.loc a h hp⟩
def mlB (E : Enc α) (kvs : List (κ × Value)) (m : List (κ × List α)) : OA := ⟨fun w S => zAO w (mlL E kvs m) S, fun a h hp => zAO.loc a h hp⟩
def fML (E : Enc α) (kvs : List (κ × Value)) (m : List (κ × List α)) : zK :=
 ⟨fun w => ∀ n v xs, lkp n kvs = some v → lkp n m = some xs → (fSl E v xs).p w, fun a h n v xs h1 h2 => (fSl E v xs).mono a (h n v xs h1 h2)⟩
theorem zGA {β γ : Type} {n : κ} : ∀ {kvs : List (κ × β)} {m : List (κ × γ)}, kvs.map (·.1) = m.map (·.1) → (lkp n kvs = none ↔ lkp n m = none)
 | [], [], _ => ⟨fun _ => rfl, fun _ => rfl⟩
 | (a, u) :: kvs, (b, x) :: m, h => by
   rw [List.map_cons, List.map_cons] at h
   injection h with h1 h2
   have h1 : a = b := h1
   subst h1
   unfold lkp
   by_cases e : n = a
   · rw [if_pos e, if_pos e]; exact ⟨fun h => (nomatch h), fun h => (nomatch h)⟩
   · rw [if_neg e, if_neg e]; exact zGA h2
 | [], _ :: _, h => by cases h
 | _ :: _, [], h => by cases h
theorem zIh {n : κ} : ∀ {kvs : List (κ × Value)} {m : List (κ × List α)}, lkp n kvs = none → mlO E n kvs m = mlL E kvs m
 | [], _, _ => by unfold mlO mlL; rfl
 | _ :: _, [], _ => by unfold mlO mlL; rfl
 | (a, u) :: kvs, (b, x) :: m, h => by
   unfold lkp at h
   by_cases e : n = a
   · rw [if_pos e] at h; cases h
   · rw [if_neg e] at h
     unfold mlO mlL
     rw [if_neg e, zIh h]
theorem zHl {n : κ} {v : Value} {xs : List α} : ∀ {kvs : List (κ × Value)} {m : List (κ × List α)}, kvs.map (·.1) = m.map (·.1) → lkp n kvs = some v → lkp n m = some xs → Sel (ap E v xs) (mlL E kvs m) (mlO E n kvs m)
 | [], _, _, h, _ => by cases h
 | _ :: _, [], h, _, _ => by cases h
 | (a, u) :: kvs, (b, x) :: m, h, h1, h2 => by
   rw [List.map_cons, List.map_cons] at h
   injection h with e1 e2
   have e1 : a = b := e1
   subst e1
   unfold lkp at h1 h2
   unfold mlL mlO
   by_cases e : n = a
   · rw [if_pos e] at h1 h2 ⊢
     cases h1; cases h2; exact .here
   · rw [if_neg e] at h1 h2 ⊢
     exact .there (zHl e2 h1 h2)
theorem zKD {n : κ} {v : Value} {xs : List α} : ∀ {kvs : List (κ × Value)} {m : List (κ × List α)}, kvs.map (·.1) = m.map (·.1) → Sel (ap E v xs) (mlL E (upd n v kvs) (upd n xs m)) (mlO E n kvs m)
 | [], [], _ => by unfold upd mlO mlL mlL; exact .here
 | [], _ :: _, h => by cases h
 | _ :: _, [], h => by cases h
 | (a, u) :: kvs, (b, x) :: m, h => by
   rw [List.map_cons, List.map_cons] at h
   injection h with e1 e2
   have e1 : a = b := e1
   subst e1
   unfold upd mlO
   by_cases e : n = a
   · rw [if_pos e, if_pos e, if_pos e]
     rw [show mlL E ((n, v) :: kvs) ((n, xs) :: m) = ap E v xs :: mlL E kvs m from rfl]; exact .here
   · rw [if_neg e, if_neg e, if_neg e]
     rw [show mlL E ((a, u) :: upd n v kvs) ((a, x) :: upd n xs m) = ap E u x :: mlL E (upd n v kvs) (upd n xs m) from rfl]; exact .there (zKD e2)
theorem zIk {β γ : Type} {n : κ} {v : β} {x : γ} : ∀ {kvs : List (κ × β)} {m : List (κ × γ)}, kvs.map (·.1) = m.map (·.1) → (upd n v kvs).map (·.1) = (upd n x m).map (·.1)
 | [], [], _ => rfl
 | [], _ :: _, h => by cases h
 | _ :: _, [], h => by cases h
 | (a, u) :: kvs, (b, y) :: m, h => by
   rw [List.map_cons, List.map_cons] at h
   injection h with e1 e2
   have e1 : a = b := e1
   subst e1
   unfold upd
   by_cases e : n = a
   · rw [if_pos e, if_pos e, List.map_cons, List.map_cons, e2]
   · rw [if_neg e, if_neg e, List.map_cons, List.map_cons, zIk e2]
variable {B : List Nat} {w0 : Wd} {kl kl' klr k1 k2 : List OA} {F : List zK} {Q : IH → Prop} {b : Nat} {m : List (κ × List α)}
theorem zQd (E : Enc α) (h : R Q B w0 (mlA toV E b ([] : List (κ × List α)) :: kl') F) (hk : autoParam (Sel (mpA toV b []) kl kl') zA9._auto_1) : R Q B w0 kl F :=
 .perm (fun w S hS => by
  obtain ⟨S', ⟨T1, T2, u1, u2, e⟩, hp⟩ := hS.sel hk
  exact ⟨S', ⟨T1, T2, ⟨[], rfl, T1, [], u1, rfl, by simp⟩, u2, e⟩, hp⟩) h
theorem zR4 (n : κ) (hk : autoParam (Sel (mlA toV E b m) kl kl') zA9._auto_1)
 (h : ∀ (kvs : List (κ × Value)) (v : Value), kvs.map (·.1) = m.map (·.1) → lkV false (.slice none 0 0) n kvs = v → R Q B w0 (mpA toV b kvs :: ap E v ((lkp n m).getD []) :: mlR E n kvs m :: kl') F) : R Q B w0 kl F := fun w s => by
 obtain ⟨S, ⟨S1, S2, ⟨kvs, hkeys, T1, T2, u1, u2, e1⟩, q2, e⟩, hnd, hall⟩ := (s.sel hk).own
 have key : ∃ T', zAO w (ap E (lkV false (.slice none 0 0) n kvs) ((lkp n m).getD []) :: mlO E n kvs m) T' ∧ T2.Perm T' := by
  cases hl : lkp n kvs with
  | none =>
    have hm := (zGA (n := n) hkeys).1 hl
    have e1 : lkV false (.slice none 0 0) n kvs = .slice none 0 0 := by unfold lkV; rw [hl]; rfl
    rw [e1, hm, zIh hl]
    exact ⟨T2, ⟨[], T2, .inl ⟨rfl, rfl, rfl⟩, u2, rfl⟩, .refl _⟩
  | some v =>
    cases hm : lkp n m with
    | none => rw [(zGA (n := n) hkeys).2 hm] at hl; cases hl
    | some xs =>
      have e1 : lkV false (.slice none 0 0) n kvs = v := by unfold lkV; rw [hl]; rfl
      rw [e1]
      exact u2.sel (zHl hkeys hl hm)
 obtain ⟨T', ⟨T3, T4, u3, u4, e3⟩, hp⟩ := key
 subst e e1 e3
 have hperm : ((T1 ++ T2) ++ S2).Perm (T1 ++ (T3 ++ (T4 ++ S2))) := by
  rw [List.append_assoc]
  refine List.Perm.append_left T1 ?_
  rw [← List.append_assoc]
  exact List.Perm.append_right S2 hp
 exact h kvs _ hkeys rfl w ⟨s.agree, s.le, s.zold, ⟨_, ⟨T1, _, u1, ⟨T3, _, u3, ⟨T4, S2, u4, q2, rfl⟩, rfl⟩, rfl⟩, hperm.nodup hnd, fun i hi => hall i (hperm.mem_iff.2 hi)⟩, s.facts⟩
theorem zSl (n : κ) {kvs : List (κ × Value)} {v : Value} {xs : List α} (hkeys : kvs.map (·.1) = m.map (·.1)) (h : R Q B w0 (mlA toV E b (upd n xs m) :: klr) F)
 (h1 : autoParam (Sel (mpA toV b (upd n v kvs)) kl k1) zA9._auto_1) (h2 : autoParam (Sel (ap E v xs) k1 k2) zA9._auto_1) (h3 : autoParam (Sel (mlR E n kvs m) k2 klr) zA9._auto_1) : R Q B w0 kl F :=
 .perm (fun w S hS => by
  obtain ⟨S1, S2, q1, q2, hp⟩ := hS.selL (.cons h1 (.cons h2 (.cons h3 .nil)))
  obtain ⟨T1, U1, u1, ⟨T2, U2, u2, ⟨T3, U3, u3, u4, e3⟩, e2⟩, e1⟩ := q1
  have u4 : U3 = [] := u4
  subst u4 e3 e2 e1
  obtain ⟨V, v1, v2⟩ := zAO.unsel (zKD (E := E) (n := n) (v := v) (xs := xs) hkeys) (S := T2 ++ T3) (w := w) ⟨T2, T3, u2, u3, rfl⟩
  refine ⟨(T1 ++ V) ++ S2, ⟨T1 ++ V, S2, ⟨upd n v kvs, zIk hkeys, ⟨T1, V, u1, v1, rfl⟩⟩, q2, rfl⟩, hp.trans ?_⟩
  rw [List.append_nil]
  exact List.Perm.append_right S2 (List.Perm.append_left T1 v2)) h
theorem zSc (h : ∀ kvs : List (κ × Value), kvs.map (·.1) = m.map (·.1) → R Q B w0 (mpA toV b kvs :: mlB E kvs m :: kl') F) (hk : autoParam (Sel (mlA toV E b m) kl kl') zA9._auto_1) : R Q B w0 kl F := fun w s => by
 obtain ⟨S, ⟨S1, S2, ⟨kvs, hkeys, T1, T2, u1, u2, e1⟩, q2, e⟩, hnd, hall⟩ := (s.sel hk).own
 subst e e1
 refine h kvs hkeys w ⟨s.agree, s.le, s.zold, ⟨T1 ++ (T2 ++ S2), ⟨T1, _, u1, ⟨T2, S2, u2, q2, rfl⟩, rfl⟩, ?_, fun i hi => hall i ?_⟩, s.facts⟩
 · rw [← List.append_assoc]; exact hnd
 · rw [List.append_assoc]; exact hi
theorem zPG {kvs : List (κ × Value)} (hkeys : kvs.map (·.1) = m.map (·.1)) : Frz (mlB E kvs m) [fML E kvs m] := by
 intro w w' S hS hle hh hz f hf
 rw [List.mem_singleton.1 hf]
 have hS : zAO w (mlL E kvs m) S := hS
 clear hf
 intro n v xs h1 h2
 obtain ⟨S', ⟨T1, T2, u1, _, e⟩, hp⟩ := hS.sel (zHl hkeys h1 h2)
 subst e
 exact zAE w w' T1 u1 hle hh (fun i hi => hz i (hp.mem_iff.2 (List.mem_append_left _ hi))) _ (List.mem_singleton.2 rfl)
end
end Go.Ideal
namespace Go.Ideal
variable {P : Program} {B : List Nat} {w0 : Wd} {kl kl' klr : List OA} {F : List zK} {K : KO} {ds : List Tmp} {rest : List zM} {n : Nat} {l : List (Nat × Value)} {D : List Deferred} {pm : Option FrameMode} {ro : Option Nat} {d : Nat} {g : Option (Tmp × Bool)}
theorem zKG {α : Type} (E : Enc α) {x i : Operand} {v : Value} {xss : List (List α)} (k : Nat) (xs : List α) {kk : IntKind} {d2 : Nat} {g2 : Option (Tmp × Bool)} (hz : xss[k]? = some xs)
 (next : ∀ b o u, R (fun h => OPS P ds rest (act n ((d2, u) :: (d, .pointer (some ⟨b, o, none⟩)) :: l) D pm ro) h K) B w0 kl (fSl E u xs :: F))
 (hn : Nat.blt d n = true := by rfl) (hg : gok l g = true := by rfl) (hn2 : Nat.blt d2 n = true := by rfl) (hg2 : ∀ u, gok ((d, u) :: l) g2 = true := by intro _; rfl) (hx : ev l x = v := by conv => lhs; whnf) (hi : ev l i = .int kk (k : Int) := by rfl)
 (hk : autoParam (Sel (ap (slE E) v xss) kl kl') zA9._auto_1) :
 R (fun h => OPS P ds (⟨⟨some d, g, .idxSl 1 x i⟩, []⟩ :: ⟨⟨some d2, g2, .load1 (.tmp d)⟩, []⟩ :: rest) (act n l D pm ro) h K) B w0 kl F := by
 intro w s
 have s1 := s.sel hk
 obtain ⟨S, ⟨S1, S2, p, p2, e⟩, h2, h3⟩ := s1.own
 have hlt := (List.getElem?_eq_some_iff.1 hz).1
 rcases p with ⟨h, _⟩ | ⟨b, o, f, cells, e1, hf, e2, hb, hcl, hel⟩
 · rw [h] at hz; cases hz
 · subst e1
   obtain ⟨y, u1, u2⟩ := hel k xs hz
   have hc : cells[o + (k : Int).toNat * 1]? = some y := by
    have := u1 0 y rfl
    simpa [slE] using this
   refine zHu hn hg hx hi (by omega) (by omega) ?_
   have hbS : b ∈ S := by rw [e, e2]; simp
   refine zGI hn2 (hg2 _) (by show lk _ d = _; simp [lk]) ⟨(h3 b hbS).2.1, hb⟩ hc (next _ _ y w ⟨s.agree, s.le, s.zold, s.own, fun f hf => ?_⟩)
   rcases List.mem_cons.1 hf with rfl | hf
   · exact u2 _ (List.mem_singleton.2 rfl)
   · exact s.facts f hf
end Go.Ideal
namespace Go.Ideal
variable {P : Program} {B : List Nat} {w0 : Wd} {kl kl' klr k1 k2 : List OA} {F : List zK} {Q : IH → Prop}
section
variable {β : Type} (A : Value → β → OA)
def zJy (vs : List Value) (xss : List β) : List OA := (vs.zip xss).map fun p => A p.1 p.2
def zGS (b : Nat) (xss : List β) : OA :=
 ⟨fun w S => ∃ vs : List Value, vs.length = xss.length ∧ zAO w (pt b (.cells vs) :: zJy A vs xss) S, fun a h ⟨vs, h1, h2⟩ => ⟨vs, h1, zAO.loc a h h2⟩⟩
def zS3 (vs : List Value) (xss : List β) (k : Nat) : OA :=
 ⟨fun w S => zAO w ((zJy A vs xss).eraseIdx k) S, fun a h hp => zAO.loc a h hp⟩
theorem zIo {vs : List Value} {xss : List β} {k : Nat} {v : Value} {xs : β} (hv : vs[k]? = some v) (hx : xss[k]? = some xs) : (zJy A vs xss)[k]? = some (A v xs) := by
 simp [zJy, List.zip, List.getElem?_map, List.getElem?_zipWith, hv, hx]
theorem zOW {b : Nat} {xss : List β} {k : Nat} {xs : β} (hx : xss[k]? = some xs) (hk : autoParam (Sel (zGS A b xss) kl kl') zA9._auto_1)
 (h : ∀ (vs : List Value) (v : Value), vs.length = xss.length → vs[k]? = some v → R Q B w0 (pt b (.cells vs) :: A v xs :: zS3 A vs xss k :: kl') F) : R Q B w0 kl F := fun w s => by
 obtain ⟨S, ⟨S1, S2, ⟨vs, h1, h2⟩, q2, e⟩, hnd, hall⟩ := (s.sel hk).own
 subst e
 have hlt := (List.getElem?_eq_some_iff.1 hx).1
 have hv : vs[k]? = some (vs[k]'(by omega)) := List.getElem?_eq_getElem (by omega)
 refine h vs _ h1 hv w ?_
 have hg : (zJy A vs xss)[k]? = some (A (vs[k]'(by omega)) xs) := zIo A hv hx
 obtain ⟨T1, T2, u1, u2, e⟩ := h2
 obtain ⟨T3, ⟨T4, T5, u4, u5, e5⟩, u6⟩ := u2.sel (Sel.at hg)
 subst e5 e
 have hperm : ((T1 ++ T2) ++ S2).Perm (T1 ++ (T4 ++ (T5 ++ S2))) := by
  rw [List.append_assoc]
  refine List.Perm.append_left T1 ?_
  rw [← List.append_assoc]
  exact List.Perm.append_right S2 u6
 exact ⟨s.agree, s.le, s.zold, ⟨T1 ++ (T4 ++ (T5 ++ S2)), ⟨T1, _, u1, ⟨T4, _, u4, ⟨T5, S2, u5, q2, rfl⟩, rfl⟩, rfl⟩, hperm.nodup hnd, fun i hi => hall i (hperm.mem_iff.2 hi)⟩, s.facts⟩
theorem zMw {vs : List Value} {xss : List β} {k : Nat} {v : Value} {xs : β} : zJy A (vs.set k v) (xss.set k xs) = (zJy A vs xss).set k (A v xs) := by
 apply List.ext_getElem?
 intro j
 simp only [zJy, List.getElem?_map, List.getElem?_set, List.zip, List.getElem?_zipWith]
 by_cases e : k = j
 · subst e
   by_cases h1 : k < vs.length
   · by_cases h2 : k < xss.length
     · simp [h1, h2]; omega
     · simp [h1, h2]; omega
   · simp [h1]; omega
 · simp [e]
theorem zOx {b : Nat} {xss : List β} {vs : List Value} {k : Nat} {v : Value} {xs : β} (hlen : vs.length = xss.length) (hk : k < xss.length) (h1 : autoParam (Sel (pt b (.cells (vs.set k v))) kl k1) zA9._auto_1)
 (h2 : autoParam (Sel (A v xs) k1 k2) zA9._auto_1) (h3 : autoParam (Sel (zS3 A vs xss k) k2 klr) zA9._auto_1) (h : R Q B w0 (zGS A b (xss.set k xs) :: klr) F) : R Q B w0 kl F :=
 .perm (fun w S hS => by
  obtain ⟨S1, S2, q1, q2, hp⟩ := hS.selL (.cons h1 (.cons h2 (.cons h3 .nil)))
  obtain ⟨T1, U1, u1, ⟨T2, U2, u2, ⟨T3, U3, u3, u4, e3⟩, e2⟩, e1⟩ := q1
  have u4 : U3 = [] := u4
  subst u4 e3 e2 e1
  have hl : ((zJy A vs xss).set k (A v xs))[k]? = some (A v xs) := by
   rw [List.getElem?_set, if_pos rfl, if_pos (by simp [zJy]; omega)]
  obtain ⟨V, v1, v2⟩ := zAO.unsel (Sel.at hl) (S := T2 ++ T3) (w := w) ⟨T2, T3, u2, by rw [zEd]; exact u3, rfl⟩
  refine ⟨(T1 ++ V) ++ S2, ⟨T1 ++ V, S2, ⟨vs.set k v, by simp [hlen], ⟨T1, V, u1, by rw [zMw]; exact v1, rfl⟩⟩, q2, rfl⟩, hp.trans ?_⟩
  rw [List.append_nil]
  exact List.Perm.append_right S2 (List.Perm.append_left T1 v2)) h
theorem zP5 {b m : Nat} {v0 : Value} {x0 : β} (h0 : ∀ w, (A v0 x0).p w []) (hk : autoParam (Sel (pt b (.cells (List.replicate m v0))) kl kl') zA9._auto_1) (h : R Q B w0 (zGS A b (List.replicate m x0) :: kl') F) : R Q B w0 kl F :=
 .perm (fun w S hS => by
  obtain ⟨S', ⟨T1, T2, u1, u2, e⟩, hp⟩ := hS.sel hk
  refine ⟨S', ⟨T1, T2, ⟨List.replicate m v0, by simp, ⟨T1, [], u1, ?_, by simp⟩⟩, u2, e⟩, hp⟩
  have : ∀ m, zAO w (zJy A (List.replicate m v0) (List.replicate m x0)) [] := by
   intro m
   induction m with
   | zero => rfl
   | succ m ih => exact ⟨[], [], h0 w, ih, rfl⟩
  exact this m) h
theorem zPe {E : Enc β} {b c : Nat} {xss : List β} (fv : Value → E.Y) (hn : E.n = 1) (hpat : ∀ x v, E.pat x (fv v) = [v]) (hA : ∀ v xs, Frz (A v xs) (E.fs xs (fv v))) (hc : xss.length ≤ c := by first | exact Nat.le_refl _ | omega) : Frz (zGS A b xss) [fSl E (.slice (some ⟨b, 0, some 0⟩) xss.length c) xss] := by
 intro w w' S ⟨vs, hlen, T1, T2, ⟨h1, h2⟩, u2, e⟩ hle hh hz f hf
 subst e
 rw [List.mem_singleton.1 hf]
 refine .inr ⟨b, 0, 0, c, vs, ⟨rfl, hc, .inl rfl⟩, ⟨hz b (by rw [h1]; simp), .inl (by rw [hh]; exact h2)⟩, fun k xs hk => ?_⟩
 have hlt := (List.getElem?_eq_some_iff.1 hk).1
 have hv : vs[k]? = some (vs[k]'(by omega)) := List.getElem?_eq_getElem (by omega)
 have hg : (zJy A vs xss)[k]? = some (A (vs[k]'(by omega)) xs) := zIo A hv hk
 obtain ⟨T3, ⟨T4, T5, u4, u5, e5⟩, u6⟩ := u2.sel (Sel.at hg)
 subst e5
 refine ⟨fv (vs[k]'(by omega)), fun j u hj => ?_, fun g hgm => ?_⟩
 · rw [hpat] at hj
   match j, hj with
   | 0, hj =>
     cases hj
     show vs[0 + k * E.n + 0]? = _
     rw [hn]; simp
 · exact hA _ _ w w' T4 u4 hle hh (fun i hi => hz i (List.mem_append_right _ (u6.mem_iff.2 (List.mem_append_left _ hi)))) g hgm
end
def fNZ {α : Type} (v : Value) (xs : List α) : zK := ⟨fun _ => xs = [] → v = .slice none 0 0, fun _ h => h⟩
def apN {α : Type} (E : Enc α) (v : Value) (xs : List α) : OA := ⟨fun w S => (ap E v xs).p w S ∧ (xs = [] → v = .slice none 0 0), fun a h hp => ⟨(ap E v xs).loc a h hp.1, hp.2⟩⟩
def slZ {α : Type} (E : Enc α) : Enc (List α) := ⟨1, Value, fun _ v => [v], fun xs v => [fSl E v xs, fNZ v xs], fun _ _ => rfl⟩
theorem zPH {α : Type} {E : Enc α} {v : Value} {xs : List α} : Frz (apN E v xs) [fSl E v xs, fNZ v xs] := by
 intro w w' S hp hle hh hz f hf
 rcases List.mem_cons.1 hf with rfl | hf
 · exact zAE w w' S hp.1 hle hh hz _ (List.mem_singleton.2 rfl)
 · rw [List.mem_singleton.1 hf]; exact hp.2
theorem zOb {α : Type} (E : Enc α) (v : Value) (xs : List α) (h : (xs = [] → v = .slice none 0 0) → R Q B w0 (ap E v xs :: kl') F) (hk : autoParam (Sel (apN E v xs) kl kl') zA9._auto_1) : R Q B w0 kl F := fun w s => by
 obtain ⟨S, ⟨S1, S2, q1, q2, e⟩, h2, h3⟩ := (s.sel hk).own
 exact h q1.2 w ⟨s.agree, s.le, s.zold, ⟨S, ⟨S1, S2, q1.1, q2, e⟩, h2, h3⟩, s.facts⟩
theorem zOV {α : Type} (E : Enc α) (v : Value) (xs : List α) (hz : xs = [] → v = .slice none 0 0) (h : R Q B w0 (apN E v xs :: kl') F) (hk : autoParam (Sel (ap E v xs) kl kl') zA9._auto_1) : R Q B w0 kl F := fun w s =>
 h w ((s.sel hk).turnA (A := ap E v xs) fun w S hp => ⟨hp, hz⟩)
theorem zHG {α : Type} {E : Enc α} {v : Value} {xss : List (List α)} {w : Wd} (h : (fSl (slZ E) v xss).p w) : (fSl (slE E) v xss).p w := by
 rcases h with h | ⟨i, o, f, c, cells, h1, h2, h3⟩
 · exact .inl h
 · refine .inr ⟨i, o, f, c, cells, h1, h2, fun k x hk => ?_⟩
   obtain ⟨y, q1, q2⟩ := h3 k x hk
   exact ⟨y, q1, fun f hf => q2 f (by rw [List.mem_singleton.1 hf]; exact List.mem_cons_self ..)⟩
theorem zIp {A A' : OA} (e : A = A') (h : R Q B w0 (A' :: kl') F) (hk : autoParam (Sel A kl kl') zA9._auto_1) : R Q B w0 kl F := by
 subst e
 exact fun w s => h w (s.sel hk)
theorem St.arAp {α : Type} {E : Enc α} {v : Value} {xys : List (α × E.Y)} {w : Wd} (h0 : 0 < xys.length) (hall : (fAll E xys).p w) (s : St B w0 (ar E v xys :: kl') F w) : St B w0 (ap E v (xys.map (·.1)) :: kl') F w := by
 obtain ⟨S, ⟨S1, S2, q1, q2, e⟩, h2, h3⟩ := s.own
 refine ⟨s.agree, s.le, s.zold, ⟨S, ⟨S1, S2, ?_, q2, e⟩, h2, h3⟩, s.facts⟩
 rcases q1 with ⟨h4, _⟩ | ⟨b, f, h4, h5, h6, h7⟩
 · rw [h4] at h0; simp at h0
 · refine .inr ⟨b, 0, f, _, by rw [List.length_map]; exact h4, h5, h6, h7, by rw [zAi, List.length_map, Nat.zero_add], fun k x hk => ?_⟩
   rw [List.getElem?_map] at hk
   cases hp : xys[k]? with
   | none => rw [hp] at hk; cases hk
   | some p =>
     rw [hp] at hk
     cases hk
     exact ⟨p.2, fun j u hj => by rw [Nat.zero_add]; exact zAj hp hj, fun f hf => hall p (List.mem_of_getElem? hp) f hf⟩
end Go.Ideal
namespace Go.Ideal
variable {P : Program}
def zPx {α : Type} (P : Program) (vals : α → List Value) (fe : α → List zK) (fn : Fn) (first cap : List Value) (F : List zK) (X : List α → Prop) : Prop :=
 ∀ (S : Type) (inv : S → List OA) (ok : List α → S → Prop) (step : S → α → S × Bool) (s0 : S) (yfn : Fn) (y1 y2 : List Value) (F' : List zK), ok [] s0 →
  (∀ vs s x rest, ok vs s → X (vs ++ x :: rest) → (step s x).2 = true → ok (vs ++ [x]) (step s x).1) →
  (∀ vs s x rest, ok vs s → X (vs ++ x :: rest) → FnC P yfn (y1 ++ vals x) y2 (inv s) (fe x ++ F') (fun _ : Unit => .bool (step s x).2) (fun _ => inv (step s x).1) (fun _ => []) (fun _ => True)) →
  FnC P fn (first ++ [.func yfn ⟨y1⟩ ⟨y2⟩]) cap (inv s0) (F ++ F') (fun _ : List α => .tuple ⟨[]⟩) (fun xs => inv (zAy step s0 xs)) (fun _ => []) X
theorem FnC.facts {Y : Type} {fn : Fn} {args cap : List Value} {kl : List OA} {F F2 : List zK} {val : Y → Value} {kl' : Y → List OA} {fs : Y → List zK} {pr : Y → Prop} (h : FnC P fn args cap kl F val kl' fs pr) (hF : ∀ f ∈ F, f ∈ F2) : FnC P fn args cap kl F2 val kl' fs pr :=
 fun B w s => h B w ⟨s.agree, s.le, s.zold, s.own, fun f hf => s.facts f (hF f hf)⟩
section
variable {B : List Nat} {w0 : Wd} {kl kl' klr : List OA} {F : List zK} {K : KO} {n : Nat} {l : List (Nat × Value)} {D : List Deferred} {pm : Option FrameMode} {ro : Option Nat}
theorem zMa {S α Z : Type} {f : Operand} {ps : List Tmp} {assign body : zP} {fn : Fn} {first captured : List Value} {vals : α → List Value} {fe : α → List zK} {F1 : List zK} {X : List α → Prop} (step : S → α → S × Out) (inv : S → List OA) (ok : List α → S → Prop) (s0 : S) (h0 : ok [] s0)
 (hok : ∀ vs s x rest, ok vs s → X (vs ++ x :: rest) → (step s x).2 = .normal → ok (vs ++ [x]) (step s x).1) (hit : zPx P vals fe fn first captured F1 X)
 (hf : ev l f = .func fn ⟨first⟩ ⟨captured⟩) (hps : ps.all (fun p => Nat.blt p n) = true) (hlen : ∀ x, ps.length = (vals x).length) (hk : SelL (inv s0) kl klr) (hF : Sub F1 F) (hpan : ∀ s x, zE6 (step s x).2)
 (l3 : α → Z → List (Nat × Value)) (k3 : α → Z → List OA)
 (ha : ∀ (s : S) (x : α) (lo : Nat) (o : zu) B w0, R (fun h => EV P assign (act n ((ps.zip (vals x)).reverse ++ l) [] none (some lo)) h (zQX B w0 n (l3 x) lo o (fun z => k3 x z ++ inv s) (fe x ++ F))) B w0 (pt lo o :: inv s) (fe x ++ F))
 (hb : ∀ (vs : List α) (s : S) (x : α) (rest : List α) (z : Z) (lo : Nat) (L : zBJ) B w0, ok vs s → X (vs ++ x :: rest) → R (fun h => EV P body (act n (l3 x z) [] none (some lo)) h (zCH B w0 lo L (fun _ : Unit => (step s x).2) (fun _ => inv (step s x).1) (fun _ => []) (fun _ => True))) B w0 (pt lo (.loop (zCN L)) :: (k3 x z ++ inv s)) (fe x ++ F))
 (next : ∀ r xs, X xs → R (fun h => K (zBe step s0 xs).2 (act n l ({ target := .collected r, args := #[] } :: D) pm none) h) B w0 (inv (zBe step s0 xs).1 ++ (pt r (.defs true) :: klr)) F) :
 R (fun h => EV P (.rangeFunc f ps assign body) (act n l D pm none) h K) B w0 kl F := by
 refine zHZ (Y := List α) (k1 := inv s0) (F1 := F1 ++ F) (valI := fun _ => .tuple ⟨[]⟩) (out := fun xs => (zBe step s0 xs).2) (k1' := fun xs => inv (zBe step s0 xs).1) (fs := fun _ => []) (pr := X) hf ?_ hk (hF.app (Sub.refl' F [])) (fun r y hy => next r y hy)
 intro lo r
 have := hit (S × Out) (fun so => pt lo (.loop (zDJ ⟨.ready, none, zBE l, n, ps, assign, body, r⟩ so.2)) :: inv so.1) (fun vs so => so.2 = .normal ∧ ok vs so.1) (fun so x => (step so.1 x, isN (step so.1 x).2)) (s0, .normal) (.yield lo) [] [] F ⟨rfl, h0⟩
  (fun vs so x rest ho hx h => by
    have h : isN (step so.1 x).2 = true := h
    have hn : (step so.1 x).2 = .normal := by
     cases e : (step so.1 x).2 with
     | normal => rfl
     | _ => rw [e] at h; cases h
    exact ⟨hn, hok vs so.1 x rest ho.2 hx hn⟩)
  (fun vs so x rest ho hx => by
    obtain ⟨s, o⟩ := so
    obtain ⟨hn, ho⟩ := ho
    have hn : o = .normal := hn
    subst hn
    exact zGX (Y := Unit) (L := ⟨.ready, none, zBE l, n, ps, assign, body, r⟩) (args := vals x) (k1 := inv s) (out := fun _ => (step s x).2) (k1' := fun _ => inv (step s x).1) (fs := fun _ => []) (pr := fun _ => True) l (l3 x) (fun z => k3 x z ++ inv s) rfl rfl hps (hlen x)
     (fun B w0 => ha s x lo _ B w0) (fun z B w0 => hb vs s x rest z lo _ B w0 ho hx))
 have e : (fun xs : List α => pt lo (.loop (zDJ ⟨.ready, none, zBE l, n, ps, assign, body, r⟩ (zAy (fun (so : S × Out) x => (step so.1 x, isN (step so.1 x).2)) (s0, .normal) xs).2)) :: inv (zAy (fun (so : S × Out) x => (step so.1 x, isN (step so.1 x).2)) (s0, .normal) xs).1) = fun xs => pt lo (.loop (zDJ ⟨.ready, none, zBE l, n, ps, assign, body, r⟩ (zBe step s0 xs).2)) :: inv (zBe step s0 xs).1 := by
  funext xs
  rw [zCj]
 have h2 : FnC P fn (first ++ [.func (.yield lo) ⟨[]⟩ ⟨[]⟩]) captured (pt lo (.loop ⟨.ready, none, zBE l, n, ps, assign, body, r⟩) :: inv s0) (F1 ++ F) (fun _ : List α => .tuple ⟨[]⟩) (fun xs => pt lo (.loop (zDJ ⟨.ready, none, zBE l, n, ps, assign, body, r⟩ (zAy (fun (so : S × Out) x => (step so.1 x, isN (step so.1 x).2)) (s0, .normal) xs).2)) :: inv (zAy (fun (so : S × Out) x => (step so.1 x, isN (step so.1 x).2)) (s0, .normal) xs).1) (fun _ => []) X := this
 rw [e] at h2
 exact h2
theorem zQv {S α Z : Type} {f : Operand} {ps : List Tmp} {assign body : zP} {fn : Fn} {first captured : List Value} {vals : α → List Value} {fe : α → List zK} {F1 : List zK} {X : List α → Prop} (step : S → α → S × Out) (inv : S → List OA) (ok : List α → S → Prop) (s0 : S) (l3 : α → Z → List (Nat × Value)) (k3 : α → Z → List OA) (h0 : ok [] s0)
 (hok : ∀ vs s x rest, ok vs s → X (vs ++ x :: rest) → (step s x).2 = .normal → ok (vs ++ [x]) (step s x).1) (hit : zPx P vals fe fn first captured F1 X)
 (ha : ∀ (s : S) (x : α) (lo : Nat) (o : zu) B w0, R (fun h => EV P assign (act n ((ps.zip (vals x)).reverse ++ l) [] none (some lo)) h (zQX B w0 n (l3 x) lo o (fun z => k3 x z ++ inv s) (fe x ++ F))) B w0 (pt lo o :: inv s) (fe x ++ F))
 (hb : ∀ (vs : List α) (s : S) (x : α) (rest : List α) (z : Z) (lo : Nat) (L : zBJ) B w0, ok vs s → X (vs ++ x :: rest) → R (fun h => EV P body (act n (l3 x z) [] none (some lo)) h (zCH B w0 lo L (fun _ : Unit => (step s x).2) (fun _ => inv (step s x).1) (fun _ => []) (fun _ => True))) B w0 (pt lo (.loop (zCN L)) :: (k3 x z ++ inv s)) (fe x ++ F))
 (next : ∀ r xs, X xs → R (fun h => K (zBe step s0 xs).2 (act n l ({ target := .collected r, args := #[] } :: D) pm none) h) B w0 (inv (zBe step s0 xs).1 ++ (pt r (.defs true) :: klr)) F)
 (hpan : ∀ s x, zE6 (step s x).2)
 (hf : ev l f = .func fn ⟨first⟩ ⟨captured⟩ := by rfl) (hps : ps.all (fun p => Nat.blt p n) = true := by rfl) (hlen : ∀ x, ps.length = (vals x).length := by intro _; rfl)
 (hk : autoParam (SelL (inv s0) kl klr) zBK._auto_1) (hF : autoParam (Sub F1 F) zE8._auto_1) :
 R (fun h => EV P (.rangeFunc f ps assign body) (act n l D pm none) h K) B w0 kl F :=
 zMa step inv ok s0 h0 hok hit hf hps hlen hk hF hpan l3 k3 ha hb next
end
theorem zM3 {b o : Nat} {cs : List Value} {w : Wd} (m : Nat) (h : (fRaw b o cs).p w) : (fRaw b (o + m) (cs.drop m)).p w := by
 obtain ⟨cells, h1, h2⟩ := h
 exact ⟨cells, h1, fun j u hu => by rw [List.getElem?_drop] at hu; rw [Nat.add_assoc]; exact h2 _ u hu⟩
section
variable {B : List Nat} {w0 : Wd} {kl : List OA} {F : List zK}
theorem zSN {b : Nat} {cs ds : List Value} {Q : IH → Prop} (m : Nat) (hd : cs.drop m = ds) (h : R Q B w0 kl (fRaw b m ds :: F)) (hf : autoParam (fRaw b 0 cs ∈ F) zJk._auto_1) : R Q B w0 kl F :=
 zg _ (fun w hw => by have := zM3 m (hw _ hf); rw [Nat.zero_add, hd] at this; exact this) h
theorem zR7 {α : Type} (E : Enc α) {v : Value} {xs : List α} {k : Nat} {x : α} {Q : IH → Prop} (n : Nat) (hn : E.n = n) (hx : xs[k]? = some x)
 (h : ∀ b o f c y, v = .slice (some ⟨b, o, some f⟩) xs.length c → R Q B w0 kl (fRaw b (o + k * n) (E.pat x y) :: (E.fs x y ++ F))) (hf : autoParam (fSl E v xs ∈ F) zJk._auto_1) : R Q B w0 kl F := fun w s => by
 subst hn
 rcases s.facts _ hf with ⟨h0, _⟩ | ⟨i, o, f, c, cells, ⟨h1, _⟩, h2, h3⟩
 · rw [h0] at hx; cases hx
 · obtain ⟨y, q1, q2⟩ := h3 k x hx
   refine h i o f c y h1 w ⟨s.agree, s.le, s.zold, s.own, fun g hg => ?_⟩
   rcases List.mem_cons.1 hg with rfl | hg
   · exact ⟨cells, h2, q1⟩
   · rcases List.mem_append.1 hg with hg | hg
     · exact q2 g hg
     · exact s.facts g hg
end
end Go.Ideal
namespace Go.Ideal
variable {P : Program} {B : List Nat} {w0 : Wd} {kl kl' klr : List OA} {F : List zK} {K : KO} {ds : List Tmp} {rest : List zM} {n : Nat} {l : List (Nat × Value)} {D : List Deferred} {pm : Option FrameMode} {ro : Option Nat} {d : Nat} {g : Option (Tmp × Bool)}
theorem zO9 {e : TypeId} {size bytes : Nat} {zero : List Value} {s x : Operand} (m : Nat) (h0 : 0 < m) (hm : m * bytes ≤ 1073741824 ∧ m * size ≤ 1073741824 ∧ m ≤ 1073741824)
 (next : ∀ b, R (fun h => OPS P ds rest (act n ((d, .slice (some ⟨b, 0, some size⟩) m m) :: l) D pm ro) h K) B w0 (pt b (.cells (zeros zero m)) :: kl) F)
 (hs : ev l s = .slice none 0 0 := by rfl) (hx : ev l x = .int .i64 (m : Int) := by rfl) (hn : Nat.blt d n = true := by rfl) (hg : gok l g = true := by rfl) :
 R (fun h => OPS P ds (⟨⟨some d, g, .appendZ e size bytes zero s x⟩, []⟩ :: rest) (act n l D pm ro) h K) B w0 kl F := fun w st => by
 have hle : ∀ {a b : Nat}, a ≤ b → Nat.ble a b = true := fun h => by rw [Nat.ble_eq]; exact h
 refine zAk hn hg (v := .slice (some ⟨w.h.next, 0, some size⟩) m m) (h' := w.h.new (.cells (zeros zero m))) ?_ (next w.h.next (w.new _) (st.new _))
 obtain ⟨k, rfl⟩ : ∃ k, m = k + 1 := ⟨m - 1, by omega⟩
 have hx' : ev l x = .int .i64 (.ofNat (k + 1)) := hx
 simp only [COp.run, hx', hs]
 have e1 : (Nat.ble (Nat.mul (k + 1) bytes) small && Nat.ble (Nat.mul (k + 1) size) small && Nat.ble (k + 1) small) = true := by
  rw [hle (show Nat.mul (k + 1) bytes ≤ small from hm.1), hle (show Nat.mul (k + 1) size ≤ small from hm.2.1), hle (show k + 1 ≤ small from hm.2.2)]; rfl
 rw [e1]; rfl
theorem zK0 {cs1 cs2 xs : List Value} (h : xs.length ≤ cs2.length) : zAX (cs1 ++ cs2) cs1.length xs = some (cs1 ++ (xs ++ cs2.drop xs.length)) := by
 obtain ⟨r, hr⟩ := zCn (cs1 ++ cs2) cs1.length xs (by rw [List.length_append]; omega)
 obtain ⟨h1, h2, h3⟩ := zCC hr
 rw [hr]
 congr 1
 apply List.ext_getElem?
 intro j
 rw [h3 j]
 by_cases c1 : j < cs1.length
 · rw [if_neg (by omega), List.getElem?_append_left c1, List.getElem?_append_left c1]
 · by_cases c2 : j < cs1.length + xs.length
   · rw [if_pos ⟨by omega, c2⟩, List.getElem?_append_right (by omega), List.getElem?_append_left (by omega)]
   · rw [if_neg (by omega), List.getElem?_append_right (by omega), List.getElem?_append_right (by omega), List.getElem?_append_right (by omega), List.getElem?_drop]
     congr 1; omega
theorem zMU {α : Type} {E : Enc α} {v : Value} {xys : List (α × E.Y)} {w : Wd} (h : (fEl E v xys).p w) : zG6 v = some xys.length ∧ zC8 E.n xys.length v w.h = some (zU E xys) := by
 rcases h with ⟨rfl, a, c, rfl, _⟩ | ⟨i, o, f, c, cells, ⟨e1, hc⟩, q2, q3⟩
 · exact ⟨rfl, rfl⟩
 subst e1
 refine ⟨rfl, ?_⟩
 by_cases hne : xys = []
 · subst hne; rfl
 obtain ⟨k, hk'⟩ : ∃ k, xys.length = k + 1 := ⟨xys.length - 1, by have := List.length_pos_iff.2 hne; omega⟩
 have hfl := zAi xys
 have hcells : ∀ j, j < xys.length * E.n → cells[o + j]? = (zU E xys)[j]? := fun j hj => by
  have hn0 : 0 < E.n := by
   rcases Nat.eq_zero_or_pos E.n with h0 | h0
   · rw [h0] at hj; omega
   · exact h0
  have hd : j / E.n < xys.length := by rw [Nat.div_lt_iff_lt_mul hn0]; exact hj
  have hmod := Nat.mod_lt j hn0
  have hpk := List.getElem?_eq_getElem hd
  have hu : (E.pat (xys[j / E.n]).1 (xys[j / E.n]).2)[j % E.n]? = some ((E.pat (xys[j / E.n]).1 (xys[j / E.n]).2)[j % E.n]'(by rw [E.len]; exact hmod)) := List.getElem?_eq_getElem _
  have h1 := (q3 (j / E.n) _ hpk).1 (j % E.n) _ hu
  have h2 := zAj hpk hu
  have hdm : j / E.n * E.n + j % E.n = j := by rw [Nat.mul_comm]; exact Nat.div_add_mod j E.n
  rw [Nat.add_assoc, hdm] at h1
  rw [hdm] at h2
  rw [h1, h2]
 have hlen : o + xys.length * E.n ≤ cells.length ∨ xys.length * E.n = 0 := by
  rcases Nat.eq_zero_or_pos (xys.length * E.n) with h0 | h0
  · exact .inr h0
  · left
    have h1 := hcells (xys.length * E.n - 1) (by omega)
    have hx0 : (zU E xys)[xys.length * E.n - 1]? = some ((zU E xys)[xys.length * E.n - 1]'(by omega)) := List.getElem?_eq_getElem _
    rw [hx0] at h1
    have := (List.getElem?_eq_some_iff.1 h1).1
    omega
 have hread : w.h.readAt i o (xys.length * E.n) = some (zU E xys) ∨ (xys.length * E.n = 0) := by
  rcases hlen with hlen | hlen
  · left
    rw [q2.cells.readAt, zx, zy, if_pos (by rw [List.length_drop]; omega)]
    congr 1
    apply List.ext_getElem?
    intro j
    rw [List.getElem?_take]
    by_cases hj : j < xys.length * E.n
    · rw [if_pos hj, List.getElem?_drop]; exact hcells j hj
    · rw [if_neg hj, List.getElem?_eq_none (by omega)]
  · exact .inr hlen
 have hread : w.h.readAt i o (xys.length * E.n) = some (zU E xys) := by
  rcases hread with h | h
  · exact h
  · have hf0 : zU E xys = [] := List.length_eq_zero_iff.1 (by omega)
    rw [h, q2.cells.readAt, zy, if_pos (Nat.zero_le _), hf0]; rfl
 rw [hk'] at hread ⊢
 exact hread
theorem zL9 {α : Type} {e : TypeId} {size bytes b m cap : Nat} {f : Option Nat} {s x : Operand} {v : Value} (E : Enc α) (xys : List (α × E.Y)) (cs1 cs2 : List Value) (h1 : cs1.length = m * E.n) (h2 : xys.length * E.n ≤ cs2.length) (hc : m + xys.length ≤ cap)
 (hm : (m + xys.length) * bytes ≤ 1073741824 ∧ (m + xys.length) * size ≤ 1073741824 ∧ (m + xys.length) ≤ 1073741824)
 (next : R (fun h => OPS P ds rest (act n ((d, .slice (some ⟨b, 0, f⟩) (m + xys.length) cap) :: l) D pm ro) h K) B w0 (pt b (.cells (cs1 ++ (zU E xys ++ cs2.drop (xys.length * E.n)))) :: kl') F)
 (hs : ev l s = .slice (some ⟨b, 0, f⟩) m cap := by rfl) (hx : ev l x = v := by conv => lhs; whnf) (hf : autoParam (fEl E v xys ∈ F) zJk._auto_1) (hz : E.n = size := by rfl) (hk : autoParam (Sel (pt b (.cells (cs1 ++ cs2))) kl kl') zA9._auto_1) (hn : Nat.blt d n = true := by rfl) (hg : gok l g = true := by rfl) :
 R (fun h => OPS P ds (⟨⟨some d, g, .append e size bytes s x⟩, []⟩ :: rest) (act n l D pm ro) h K) B w0 kl F := fun w st => by
 subst hz
 have hle : ∀ {a b : Nat}, a ≤ b → Nat.ble a b = true := fun h => by rw [Nat.ble_eq]; exact h
 have st1 := st.sel hk
 obtain ⟨r1, r2⟩ := zMU (st.facts _ hf)
 have hfl := zAi xys
 have hlv : zAX (cs1 ++ cs2) cs1.length (zU E xys) = some (cs1 ++ (zU E xys ++ cs2.drop (xys.length * E.n))) := by
  rw [zK0 (by omega), hfl]
 refine zAk hn hg (v := .slice (some ⟨b, 0, f⟩) (m + xys.length) cap) (h' := w.h.set b (.cells (cs1 ++ (zU E xys ++ cs2.drop (xys.length * E.n))))) ?_ (next ⟨w.h.set b _, w.z, fun i hi => w.zlt i hi⟩ st1.write)
 have e1 : w.h.storeAt b (Nat.add 0 (Nat.mul m E.n)) (zU E xys) = some (w.h.set b (.cells (cs1 ++ (zU E xys ++ cs2.drop (xys.length * E.n))))) := by
  unfold IH.storeAt
  simp only [st1.get.1]
  rw [show Nat.add 0 (Nat.mul m E.n) = cs1.length by rw [h1]; exact Nat.zero_add _, hlv]
 simp only [COp.run, hx, hs, r1, r2, zAn]
 show cond (Nat.ble (Nat.mul (m + xys.length) bytes) small && Nat.ble (Nat.mul (m + xys.length) E.n) small && Nat.ble (m + xys.length) small) (cond (Nat.ble (m + xys.length) cap) (match w.h.storeAt b (Nat.add 0 (Nat.mul m E.n)) (zU E xys) with | some h => some (Value.slice (some ⟨b, 0, f⟩) (m + xys.length) cap, h) | none => none) _) none = _
 rw [hle (show Nat.mul (m + xys.length) bytes ≤ small from hm.1), hle (show Nat.mul (m + xys.length) E.n ≤ small from hm.2.1), hle (show m + xys.length ≤ small from hm.2.2), hle hc, e1]
 rfl
theorem zSG {ρ : Operand → Value} {x hi : Operand} {b m c k : Nat} (hx : ρ x = .slice (some ⟨b, 0, some (k + 1)⟩) m c) (hh : ρ hi = .int .i64 (0 : Int)) : Pu P ρ (.slSl (k + 1) x none (some hi) none) (.slice (some ⟨b, 0, some (k + 1)⟩) 0 c) := fun h => by
 simp only [COp.run, hx]
 show (match zw m c none (some (ρ hi)) none with | some (l, hh, m) => cond (Nat.beq (Nat.succ k) (k + 1)) (some (Value.slice (some ⟨b, Nat.add 0 (Nat.mul l (k + 1)), some (Nat.succ k)⟩) (Nat.sub hh l) (Nat.sub m l), h)) none | none => none) = _
 rw [hh]
 have e1 : zw m c none (some (.int .i64 (0 : Int))) none = some (0, 0, c) := rfl
 rw [e1]
 show cond (Nat.beq (Nat.succ k) (k + 1)) (some (Value.slice (some ⟨b, Nat.add 0 (Nat.mul 0 (k + 1)), some (Nat.succ k)⟩) (Nat.sub 0 0) (Nat.sub c 0), h)) none = _
 rw [show Nat.beq (Nat.succ k) (k + 1) = true from Nat.beq_refl _, show Nat.mul 0 (k + 1) = 0 from Nat.zero_mul _]
 rfl
theorem zSS {ρ : Operand → Value} {x hi : Operand} {k c : Nat} (hx : ρ x = .slice none 0 c) (hh : ρ hi = .int .i64 (0 : Int)) : Pu P ρ (.slSl k x none (some hi) none) (.slice none 0 c) := fun h => by
 simp only [COp.run, hx]
 show (match zw 0 c none (some (ρ hi)) none with | some (l, hh, m) => some (Value.slice none (Nat.sub hh l) (Nat.sub m l), h) | none => none) = _
 rw [hh]
 have e1 : zw 0 c none (some (.int .i64 (0 : Int))) none = some (0, 0, c) := rfl
 rw [e1]; rfl
theorem zO0 {ρ : Operand → Value} {s x : Operand} {e : TypeId} {size bytes c : Nat} {a : Option Addr} (hs : ρ s = .slice none 0 0) (hx : ρ x = .slice a 0 c) : Pu P ρ (.append e size bytes s x) (.slice none 0 0) := fun h => by
 simp only [COp.run, hx, hs]
 show zAn size bytes (.slice none 0 0) 0 [] h = _
 unfold zAn
 have h0 : ∀ m, Nat.mul (Nat.add 0 0) m = 0 := fun m => Nat.zero_mul m
 show cond (Nat.ble (Nat.mul (Nat.add 0 0) bytes) small && Nat.ble (Nat.mul (Nat.add 0 0) size) small && Nat.ble (Nat.add 0 0) small) (cond (Nat.ble (Nat.add 0 0) 0) (some (Value.slice none (Nat.add 0 0) 0, h)) _) none = _
 rw [h0, h0]
 rfl
theorem zLv {ρ : Operand → Value} {x : Operand} (hx : ρ x = .slice none 0 0) : Pu P ρ (.capSl x) (.int .i64 0) := fun h => by
 simp only [COp.run, hx]; rfl
end Go.Ideal

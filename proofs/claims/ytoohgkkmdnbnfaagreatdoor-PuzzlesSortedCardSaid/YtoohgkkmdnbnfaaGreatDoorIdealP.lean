/-
  The ideal machine, 82: a call from a heap that is known to the letter, over package variables.
-/
import Derived.Test.YtoohgkkmdnbnfaaGreatDoorIdealM
import Derived.Test.YtoohgkkmdnbnfaaGreatDoorIdealO
import Derived.Lib.Bytealg
import Derived.Lib.Atoi
import Derived.Lib.ConvBytes
import Derived.Test.YtoohgkkmdnbnfaaGreatDoorIdealN
import Derived.Shelf.SlSortCmp.WholeK
import Derived.Sort.EncStr
set_option linter.unusedSimpArgs false
set_option linter.unusedVariables false
namespace Go.Ideal
noncomputable def noO (g : Nat) (h : IH) : Bool := lall (fun i => (h.get i).isNone) (List.range g)
theorem noO_get {g : Nat} {h : IH} (hh : noO g h = true) {i : Nat} (hi : i < g) : h.get i = none := by
 unfold noO at hh
 rw [lall_eq, List.all_eq_true] at hh
 have := hh i (List.mem_range.2 hi)
 cases e : h.get i with
 | none => rfl
 | some o => rw [e] at this; cases this
noncomputable def leavesG (g : Nat) (l : List (Nat × IObj)) (n : Nat) (v : Value) : BR := fun r pm h =>
 match pm with
 | some _ => false
 | none => match r with
   | .ok v' => sameV 50 v v' && (Nat.beq h.next n && (Nat.beq h.low g && (hasO l h && noO g h)))
   | .pan _ => false
noncomputable def firstCallG (g : Nat) (h0 : IH) (l : List (Nat × IObj)) (n : Nat) (fn : Nat) (args : List Value) (v : Value) : Req → IH → Option (Value × IH) := fun q h =>
 match q with
 | ⟨.func f, ags, [], none⟩ => cond (Nat.beq f fn && (sameV 5 (.tuple ⟨args⟩) (.tuple ⟨ags⟩) && (Nat.beq h0.next h.next && (Nat.beq h0.low h.low && sameT 30 h0.t h.t)))) (some (v, ⟨heapT l, n, g⟩)) none
 | _ => none
theorem firstCallG_ok {P : Program} {g : Nat} {h0 : IH} {l : List (Nat × IObj)} {n fn : Nat} {args : List Value} {v : Value} (hall : (List.range h0.next).all (fun i => Nat.blt i g || ((heapT l).get i).isSome) = true)
 (hc : CALL P ⟨.func fn, args, [], none⟩ h0 (fun r pm h' => leavesG g l n v r pm h' = true))
 {q : Req} {h : IH} {v' : Value} {h' : IH} (hk : firstCallG g h0 l n fn args v q h = some (v', h')) : CALL P q h (fun r pm h2 => r = .ok v' ∧ pm = none ∧ h2 = h') := by
 unfold firstCallG at hk
 split at hk
 · rename_i f ags
   cases hcd : (Nat.beq f fn && (sameV 5 (.tuple ⟨args⟩) (.tuple ⟨ags⟩) && (Nat.beq h0.next h.next && (Nat.beq h0.low h.low && sameT 30 h0.t h.t)))) with
   | false => rw [hcd] at hk; cases hk
   | true =>
     rw [hcd] at hk
     simp only [cond, Option.some.injEq, Prod.mk.injEq] at hk
     obtain ⟨rfl, rfl⟩ := hk
     simp only [Bool.and_eq_true] at hcd
     obtain ⟨h1, h2, h3, h4, h5⟩ := hcd
     have h1 := beq_t h1
     subst h1
     have h2 := sameV_eq _ _ _ h2
     injection h2 with h2
     injection h2 with h2
     subst h2
     have e3 := beq_t h3
     have e4 := beq_t h4
     have e5 := sameT_eq _ h5
     clear h3 h4 h5
     obtain ⟨t0, n0, l0⟩ := h0
     obtain ⟨t1, n1, l1⟩ := h
     dsimp only at e3 e4 e5
     subst e3 e4 e5
     refine .forget _ hc ?_
     intro r pm h' hl
     unfold leavesG at hl
     split at hl
     · cases hl
     · split at hl
       · rename_i v'
         simp only [Bool.and_eq_true] at hl
         obtain ⟨h1, h2, h3, h4, h5⟩ := hl
         refine ⟨⟨heapT l, n, g⟩, (beq_t h2).symm, (beq_t h3).symm, ?_, ?_, rfl, rfl⟩
         · intro i
           rcases heapT_get l i with e | ⟨o, e1, e2⟩
           · by_cases hig : i < g
             · left
               rw [noO_get h5 hig]; exact e
             refine .inr ⟨?_, e⟩
             apply Classical.byContradiction
             intro hno
             rw [List.all_eq_true] at hall
             have := hall i (List.mem_range.2 (Nat.lt_of_not_le hno))
             rw [e, Bool.or_eq_true] at this
             rcases this with h | h
             · exact hig (Nat.le_of_ble_eq_true h)
             · cases h
           · left; exact e2.trans (hasO_get h4 i o e1).symm
         · rw [sameV_eq _ _ _ h1]
       · cases hl
 · cases hk
theorem mcall_val {P : Program} {f : FuncId} {fn : Func} (hfn : P.funcs[f]? = some fn) {body : Code} (hb : fn.body = some body) (hname : fn.name ≠ "runtime.NumGoroutine") {args : List Value} {v : Value} (hv : addrFree v = true) (ha : args.all addrFree = true)
 (hC : ∀ w, Calls P f ⟨args⟩ w fun e w' => e = .returned v ∧ w' = w) {h : IH} : MCALL P ⟨.func f, args, [], none⟩ h (fun r pm h2 => pm = none ∧ r = .ok v ∧ h2 = h) := by
 intro β w fn' args' cap' hG hW hf ha' hcap
 obtain ⟨args2, t1, t2⟩ := target_ok (P := P) (q := ⟨.func f, args, [], none⟩) (f := f) (args := args) (by simp only [target, lapp_eq, List.append_nil]) hf ha' hcap hfn hb hname w
 have e2 := VRs.eq_all t2 ha
 subst e2
 refine ⟨_, Frame.enter P f ⟨_⟩ .normal, t1, rfl, fun cs0 hcs0 => ?_⟩
 obtain ⟨e, w', fr, ⟨he, hw'⟩, hcomes, hfr, hlv⟩ := hC w cs0
 subst he hw'
 exact ⟨.ok v, none, h, β, _, .returned v, cs0, ⟨rfl, rfl, rfl⟩, hW, Eff.refl _ _ _ hW.dom, .ok (VR.free hv), .none cs0, .inl ⟨f, _, fr, rfl, hcomes, hfr, hlv.2.2.1, hlv.1, hlv.2.1, hlv.2.2.2⟩⟩
noncomputable def ixK (fn : Nat) : Req → IH → Option (Value × IH) := fun q h =>
 match q with
 | ⟨.func f, [.string s, .int .u8 c], [], none⟩ => cond (Nat.beq f fn) (some (.int .i64 (Lib.indexByte s.data.toList c.toNat.toUInt8), h)) none
 | _ => none
theorem ixK_ok {P : Program} {f : FuncId} {fn : Func} (hfn : P.funcs[f]? = some fn) {body : Code} (hb : fn.body = some body) (hname : fn.name ≠ "runtime.NumGoroutine")
 (hC : ∀ s c w, Calls P f #[.string s, .int .u8 c] w fun e w' => e = .returned (.int .i64 (Lib.indexByte s.data.toList c.toNat.toUInt8)) ∧ w' = w)
 {q : Req} {h : IH} {v' : Value} {h' : IH} (hk : ixK f q h = some (v', h')) : CALL P q h (fun r pm h2 => r = .ok v' ∧ pm = none ∧ h2 = h') := by
 unfold ixK at hk
 split at hk
 · rename_i g s c
   cases hcd : Nat.beq g f with
   | false => rw [hcd] at hk; cases hk
   | true =>
     rw [hcd] at hk
     have e := beq_t hcd
     subst e
     injection hk with hk
     injection hk with h1 h2
     subst h1 h2
     refine .conseq _ (.real (mcall_val hfn hb hname rfl rfl fun w => hC s c w)) ?_
     rintro r pm h2 ⟨a, b, c⟩
     exact ⟨b, a, c⟩
 · cases hk
structure Beyond (w w' : World) : Prop where
 heap : ∀ b, b < w.heap.size → w'.heap[b]? = w.heap[b]?
 size : w.heap.size ≤ w'.heap.size
 os : w'.os = w.os
 tape : w'.tape = w.tape
 output : w'.output = w.output
 drawn : w.drawn ≤ w'.drawn
theorem WR.beyond {P : Program} {β : Inj} {h : IH} {w w' : World} (hW : WR P β h w) (hb : Beyond w w') : WR P β h w' ∧ Eff β h w β h w' :=
 ⟨⟨hW.dom, hW.live, fun i g o h1 h2 => (hW.obj i g o h1 h2).congr (hb.heap _ (hW.obj i g o h1 h2).lt), hW.inj⟩,
  ⟨fun _ _ => rfl, Nat.le_refl _, fun _ _ h => h, fun _ _ _ => rfl, Nat.le_refl _, fun _ _ _ => rfl, hb.os, hb.tape, hb.output, hb.size, fun b hb' _ => hb.heap b hb', fun i g hg hi => absurd (hW.dom _ _ hg) (by omega), fun i g _ _ _ _ hb' => hb.heap _ hb', hb.drawn⟩⟩
theorem beyond_bytes (w : World) (e : TypeId) (s : ByteArray) : Beyond w (Lib.bytesWorld w e s) := by
 refine ⟨fun b hb => ?_, ?_, rfl, rfl, rfl, Nat.le_succ _⟩
 · show ((w.heap.push _).modify w.heap.size _)[b]? = _
   rw [Array.getElem?_modify, if_neg (by omega), Array.getElem?_push, if_neg (by omega)]
 · show w.heap.size ≤ ((w.heap.push _).modify w.heap.size _).size
   rw [Array.size_modify, Array.size_push]; omega
theorem mcall_valT {P : Program} {f : FuncId} {fn : Func} (hfn : P.funcs[f]? = some fn) {body : Code} (hb : fn.body = some body) (hname : fn.name ≠ "runtime.NumGoroutine") {args : List Value} {v : Value} (hv : addrFreeT v = true) (ha : args.all addrFree = true)
 (hC : ∀ w, Calls P f ⟨args⟩ w fun e w' => e = .returned v ∧ Beyond w w') {h : IH} : MCALL P ⟨.func f, args, [], none⟩ h (fun r pm h2 => pm = none ∧ r = .ok v ∧ h2 = h) := by
 intro β w fn' args' cap' hG hW hf ha' hcap
 obtain ⟨args2, t1, t2⟩ := target_ok (P := P) (q := ⟨.func f, args, [], none⟩) (f := f) (args := args) (by simp only [target, lapp_eq, List.append_nil]) hf ha' hcap hfn hb hname w
 have e2 := VRs.eq_all t2 ha
 subst e2
 refine ⟨_, Frame.enter P f ⟨_⟩ .normal, t1, rfl, fun cs0 hcs0 => ?_⟩
 obtain ⟨e, w', fr, ⟨he, hw'⟩, hcomes, hfr, hlv⟩ := hC w cs0
 subst he
 obtain ⟨w1, w2⟩ := hW.beyond hw'
 exact ⟨.ok v, none, h, β, _, .returned v, cs0, ⟨rfl, rfl, rfl⟩, w1, w2, .ok (VR.freeT hv), .none cs0, .inl ⟨f, _, fr, rfl, hcomes, hfr, hlv.2.2.1, hlv.1, hlv.2.1, hlv.2.2.2⟩⟩
noncomputable def atoiK (fn : Nat) : Req → IH → Option (Value × IH) := fun q h =>
 match q with
 | ⟨.func f, [.string s], [], none⟩ => cond (Nat.beq f fn && Nat.ble s.data.toList.length 18) (match Lib.atoi s.data.toList with
   | some n => some (.tuple ⟨[.int .i64 n, .nilIface]⟩, h)
   | none => none) none
 | _ => none
theorem atoiK_ok {P : Program} {f : FuncId} {fn : Func} (hfn : P.funcs[f]? = some fn) {body : Code} (hb : fn.body = some body) (hname : fn.name ≠ "runtime.NumGoroutine")
 (hC : ∀ (s : ByteArray) (n : Int), s.size ≤ 18 → Lib.atoi s.data.toList = some n → ∀ w, Calls P f #[.string s] w fun e w' => e = .returned (.tuple #[.int .i64 n, .nilIface]) ∧ Beyond w w')
 {q : Req} {h : IH} {v' : Value} {h' : IH} (hk : atoiK f q h = some (v', h')) : CALL P q h (fun r pm h2 => r = .ok v' ∧ pm = none ∧ h2 = h') := by
 unfold atoiK at hk
 split at hk
 · rename_i g s
   cases hcd : (Nat.beq g f && Nat.ble s.data.toList.length 18) with
   | false => rw [hcd] at hk; cases hk
   | true =>
     rw [hcd] at hk
     rw [Bool.and_eq_true] at hcd
     have e := beq_t hcd.1
     have hl : s.size ≤ 18 := by
      have h2 := Nat.le_of_ble_eq_true hcd.2
      rw [Array.length_toList] at h2
      exact h2
     subst e
     dsimp only [cond] at hk
     split at hk
     · rename_i n hn
       injection hk with hk
       injection hk with h1 h2
       subst h1 h2
       refine .conseq _ (.real (mcall_valT hfn hb hname rfl rfl fun w => hC s n hl hn w)) ?_
       rintro r pm h2 ⟨a, b, c⟩
       exact ⟨b, a, c⟩
     · cases hk
 · cases hk
end Go.Ideal
namespace Go.Ideal
open Go.Sort Go.Proofs Go.RowKit Go.Lib Go.Shelf
variable {P : Program}
theorem Beyond.grown {w w' : World} (h : Beyond w w') : ∃ q os, w' = Go.Sort.grow (w.drewN q) os := by
 refine ⟨w'.drawn - w.drawn, w'.heap.extract w.heap.size w'.heap.size, ?_⟩
 obtain ⟨heap, tape, drawn, os, output⟩ := w
 obtain ⟨heap', tape', drawn', os', output'⟩ := w'
 obtain ⟨h1, h2, h3, h4, h5, h6⟩ := h
 dsimp only at h1 h2 h3 h4 h5 h6
 subst h3 h4 h5
 have e1 : heap' = heap ++ heap'.extract heap.size heap'.size := by
  apply Array.ext_getElem?
  intro i
  rw [Array.getElem?_append]
  split
  · rename_i hi; exact h1 i hi
  · rename_i hi
    rw [Array.getElem?_extract]
    by_cases hl : i < heap'.size
    · rw [if_pos (by omega), show heap.size + (i - heap.size) = i by omega]
    · rw [if_neg (by omega), Array.getElem?_eq_none (by omega)]
 have e2 : drawn' = drawn + (drawn' - drawn) := by omega
 show World.mk heap' tape' drawn' os' output' = World.mk (heap ++ heap'.extract heap.size heap'.size) tape' (drawn + (drawn' - drawn)) os' output'
 rw [← e1, ← e2]
theorem Eff.beyond {β β' : Inj} {h h' : IH} {w w' : World} (hW : WR P β h w) (he : Eff β h w β' h' w') (hl : h'.low = h.next) : Beyond w w' := by
 refine ⟨fun k hk => ?_, he.size, he.os, he.tape, he.output, he.drawn⟩
 by_cases hx : ∀ i g, β i = some g → h.get i ≠ none → g.b ≠ k
 · exact he.keep k hk hx
 · have hx : ∃ i g, β i = some g ∧ h.get i ≠ none ∧ g.b = k := by
    apply Classical.byContradiction
    intro hc
    exact hx fun i g hi hg hb => hc ⟨i, g, hi, hg, hb⟩
   obtain ⟨i, g, hi, hg, rfl⟩ := hx
   have hin := hW.dom i g hi
   exact he.lowk i g (by rw [hl]; exact hin) hin hi hg hk
theorem callFunc_enter {f : FuncId} {fn : Func} (hfn : P.funcs[f]? = some fn) {body : Code} (hb : fn.body = some body) (hname : fn.name ≠ "runtime.NumGoroutine") (xs : Array Value) (w : World) : (callFunc f xs).run P w = .ok (.enter f xs) w := by
 have hn : (fn.name == "runtime.NumGoroutine") = false := by simpa using hname
 simp only [callFunc, Sem.run_bind, run_program, Result.andThen_ok, hfn, hn, hb, Option.isNone_some, Bool.false_eq_true, if_false, Sem.run_pure]
theorem calls_pure (hmix : P.follows .mixedOrders = true) {g : FuncId} {fn : Func} (hfn : P.funcs[g]? = some fn) {body : Code} (hb : fn.body = some body) (hname : fn.name ≠ "runtime.NumGoroutine") {args args' cap cap' : List Value} {F : List Fact} {n : Int}
 (hC : FnC P (.func g) args cap [] F (fun _ : Unit => .int .i64 n) (fun _ => []) (fun _ => []) (fun _ => True)) {β : Inj} {w : World} {d : Wd} (hlow : d.h.low = d.h.next) (hF : ∀ f ∈ F, f.p d) (hG : GOK P β) (hW : WR P β d.h w) (ha : VRs β args args') (hc : VRs β cap cap') :
 Calls P g ((⟨args'⟩ : Array Value) ++ (⟨cap'⟩ : Array Value)) w fun e w' => e = .returned (.int .i64 n) ∧ ∃ q os, w' = Go.Sort.grow (w.drewN q) os := by
 have hst : St [] d [] F d := ⟨⟨Nat.le_refl _, fun _ _ _ => rfl, fun _ _ => rfl⟩, Wd.Le.refl d, fun i hi hz => .inl hz, ⟨[], rfl, List.nodup_nil, by simp⟩, hF⟩
 have hM := call_sound hmix (hC [] d hst)
 obtain ⟨nx, F0, n1, n2, n3⟩ := hM β w (.func g) args' cap' hG hW (.func g) ha hc
 have hnx : nx = .enter g ((⟨args'⟩ : Array Value) ++ (⟨cap'⟩ : Array Value)) := by
  have n1 : (invoke (.fn (.func g) ⟨cap'⟩) ⟨args'⟩).run P w = .ok nx w := n1
  simp only [invoke] at n1
  rw [callFunc_enter hfn hb hname] at n1
  cases n1
  rfl
 subst hnx
 have hF0 : F0 = Frame.enter P g ((⟨args'⟩ : Array Value) ++ (⟨cap'⟩ : Array Value)) .normal := by
  have : entry P .normal (.enter g ((⟨args'⟩ : Array Value) ++ (⟨cap'⟩ : Array Value))) = some (Frame.enter P g ((⟨args'⟩ : Array Value) ++ (⟨cap'⟩ : Array Value)) .normal) := rfl
  have n2 : entry P .normal (.enter g ((⟨args'⟩ : Array Value) ++ (⟨cap'⟩ : Array Value))) = some F0 := n2
  rw [this] at n2
  exact (Option.some.inj n2).symm
 subst hF0
 intro cs
 obtain ⟨r, pm', h', β', w', r', cs1, q1, q2, q3, q4, q5, q6⟩ := n3 cs (by intro m hm; cases hm)
 obtain ⟨hp, d2, _, rfl, hs2, rfl, _⟩ := q1
 have hlow2 := hs2.agree.low (by rw [hlow]; exact Nat.le_refl _) (by simp)
 cases q5
 cases q4 with
 | @ok v v' hvr =>
   have := hvr.int_inv
   subst this
   rcases q6 with ⟨f1, a1, F1, e1, e2, e3, e4, e5⟩ | ⟨⟨_, l, e1⟩, _⟩
   · cases e1
     refine ⟨.returned _, w', F1, ⟨rfl, (q3.beyond hW (hlow2.trans hlow)).grown⟩, e2, e3, ?_⟩
     obtain ⟨t1, t2, fn, t3, t4⟩ := e5
     exact ⟨t1, t2, e4, fn, t3, t4⟩
   · cases e1
def SortsK (P : Program) (f : FuncId) (k : Nat) : Prop := ∀ (α : Type) [Inhabited α] (enc : α → List Value) (cf : α → α → Int) (g : FuncId) (cb : Array Value) (blk off cap : Nat) (d : Array α) (w : World),
 (∀ x, (enc x).length = k) → (∀ x, ∀ v ∈ enc x, v.oneCell' = true) → SWO (ltOf cf) → (∀ args w, (callFunc g args).run P w = .ok (.enter g args) w) → CmpLays P g cb enc k cf blk off d.size w → HoldsK enc k w blk off d → blk < w.heap.size → d.size < 4611686018427387904 →
 Calls P f #[.slice (some ⟨blk, off, none⟩) d.size cap, .func (.func g) #[] cb] w fun e w' => e = .returned (.tuple #[]) ∧ ∃ d' n os, PermIn 0 d.size d d' ∧ SortedIn (ltOf cf) 0 d.size d' ∧ w' = sortWorldK enc k w blk off n d' os
structure El {X : Type} (β : Inj) (E : Enc X) (xs : List X) (d : Wd) where
 x : X
 y : E.Y
 v : List Value
 mem : x ∈ xs
 rel : VRs β (E.pat x y) v
 cell : (E.pat x y).all cellV = true
 fs : ∀ f ∈ E.fs x y, f.p d
theorem VRs.oneCell {β : Inj} {vs vs' : List Value} (hv : VRs β vs vs') (hall : vs.all cellV = true) : ∀ v ∈ vs', v.oneCell' = true := fun v hv' => by
 obtain ⟨j, hj⟩ := List.getElem?_of_mem hv'
 have hjl : j < vs.length := by
  have := (List.getElem?_eq_some_iff.1 hj).1
  rw [hv.length] at this; exact this
 obtain ⟨v2, hv2, hr⟩ := hv.get (List.getElem?_eq_getElem hjl)
 rw [hv2] at hj; cases hj
 have hc := (List.all_eq_true.1 hall) _ (List.getElem_mem hjl)
 obtain ⟨a, b⟩ := hr.cellV hc
 cases v <;> first | rfl | exact absurd rfl (a _) | exact absurd rfl (b _)
noncomputable def Wd.but (d : Wd) (b : Nat) : Wd := ⟨⟨(d.h.kill b).t, d.h.next, d.h.next⟩, d.z, d.zlt⟩
theorem Wd.but_get (d : Wd) (b i : Nat) : (d.but b).h.get i = if i = b then none else d.h.get i := by
 show (d.h.kill b).get i = _
 exact IH.get_kill _ _ _
theorem Wd.but_le {d : Wd} {b : Nat} (hz : ¬ d.z b) : d.Le (d.but b) := ⟨Nat.le_refl _, fun _ h => h, fun i hi => by rw [Wd.but_get, if_neg (fun e : i = b => hz (e ▸ hi))]⟩
theorem sortWorldK_heap {α : Type} [Inhabited α] (enc : α → List Value) (k : Nat) (w : World) (blk off m : Nat) (dk : Array α) (os : Array Obj) {b : Nat} (hb : b < w.heap.size) (hne : b ≠ blk) : (sortWorldK enc k w blk off m dk os).heap[b]? = w.heap[b]? := by
 show ((w.heap.modify blk _) ++ os)[b]? = _
 rw [Array.getElem?_append_left (by rw [Array.size_modify]; exact hb), Array.getElem?_modify, if_neg (fun e => hne e.symm)]
theorem WR.sorting {α : Type} [Inhabited α] {β : Inj} {d : Wd} {w : World} (hW : WR P β d.h w) {b : Nat} {g : Img} {cs : List Value} (hi : β b = some g) (hg : d.h.get b = some (.cells cs)) (enc : α → List Value) (k off m : Nat) (dk : Array α) (os : Array Obj) :
 WR P β (d.but b).h (sortWorldK enc k w g.b off m dk os) := by
 refine ⟨hW.dom, fun i o h => ?_, fun i g' o h1 h2 => ?_, fun i j g1 g2 h1 h2 h3 h4 h5 h6 => ?_⟩
 · rw [Wd.but_get] at h
   split at h
   · cases h
   · exact hW.live i o h
 · rw [Wd.but_get] at h2
   split at h2
   · cases h2
   · rename_i hib
     have hO := hW.obj i g' o h1 h2
     refine hO.congr (sortWorldK_heap enc k w g.b off m dk os hO.lt fun e => hib ?_)
     exact hW.inj i b g' g h1 hi (by rw [h2]; simp) (by rw [hg]; simp) (.inr fun cs2 => by rw [hg]; simp) e
 · rw [Wd.but_get] at h3 h4
   rw [Wd.but_get, Wd.but_get] at h5
   split at h3
   · exact absurd rfl h3
   split at h4
   · exact absurd rfl h4
   rename_i n1 n2
   rw [if_neg n1, if_neg n2] at h5
   exact hW.inj i j g1 g2 h1 h2 h3 h4 h5 h6
theorem List.pairwise_of_get {α : Type} {R : α → α → Prop} {l : List α} (h : ∀ (i j : Nat) x y, i < j → l[i]? = some x → l[j]? = some y → R x y) : l.Pairwise R :=
 List.pairwise_iff_getElem.2 fun i j hi hj hij => h i j _ _ hij (List.getElem?_eq_getElem hi) (List.getElem?_eq_getElem hj)
theorem mcall_sortK (hmix : P.follows .mixedOrders = true) {f g : FuncId} {k : Nat} (hS : SortsK P f k) {fn : Func} (hfn : P.funcs[f]? = some fn) {body : Code} (hb : fn.body = some body) (hname : fn.name ≠ "runtime.NumGoroutine") {gn : Func} (hgn : P.funcs[g]? = some gn) {gbody : Code} (hgb : gn.body = some gbody) (hgname : gn.name ≠ "runtime.NumGoroutine")
 {X : Type} {E : Enc X} (hE : E.n = k) (hk0 : 0 < k) {xs : List X} {cf : X → X → Int} (hO : SWO (ltOf cf)) {cap : List Value} {F : List Fact}
 (hC : ∀ x ∈ xs, ∀ y ∈ xs, ∀ a b, FnC P (.func g) [.agg ⟨E.pat x a⟩, .agg ⟨E.pat y b⟩] cap [] (E.fs x a ++ (E.fs y b ++ F)) (fun _ : Unit => .int .i64 (cf x y)) (fun _ => []) (fun _ => []) (fun _ => True))
 {d : Wd} {b o c : Nat} {fl : Option Nat} {cs : List Value} (hg : d.h.get b = some (.cells cs)) (hz : ¬ d.z b) (hF : ∀ f ∈ F, f.p d)
 (hel : ∀ (j : Nat) x, xs[j]? = some x → ∃ y, (∀ (t : Nat) u, (E.pat x y)[t]? = some u → cs[o + j * E.n + t]? = some u) ∧ ∀ f ∈ E.fs x y, f.p d) (hcs : cs.length = o + xs.length * E.n) (hne : 0 < xs.length) (hlen : xs.length < 4611686018427387904) :
 MCALL P ⟨.func f, [.slice (some ⟨b, o, fl⟩) xs.length c, .func (.func g) ⟨[]⟩ ⟨cap⟩], [], none⟩ d.h (fun r pm h2 => pm = none ∧ r = .ok (.tuple ⟨[]⟩) ∧ ∃ (zs : List (X × E.Y)) (cs2 : List Value), (zs.map (·.1)).Perm xs ∧ (zs.map (·.1)).Pairwise (fun x y => ¬ cf y x < 0) ∧ cs2.length = cs.length ∧
  (∀ (j : Nat) p, zs[j]? = some p → (∀ (t : Nat) u, (E.pat p.1 p.2)[t]? = some u → cs2[o + j * E.n + t]? = some u) ∧ ∀ f ∈ E.fs p.1 p.2, f.p d) ∧ h2 = d.h.set b (.cells cs2)) := by
 subst hE
 intro β w fn' args' cap' hG hW hf ha hcap
 obtain ⟨args2, t1, t2⟩ := target_ok (P := P) (q := ⟨.func f, [.slice (some ⟨b, o, fl⟩) xs.length c, .func (.func g) ⟨[]⟩ ⟨cap⟩], [], none⟩) (f := f) (args := [.slice (some ⟨b, o, fl⟩) xs.length c, .func (.func g) ⟨[]⟩ ⟨cap⟩]) (by simp only [target, lapp_eq, List.append_nil]) hf ha hcap hfn hb hname w
 cases t2 with | cons hv tl =>
 cases tl with | cons hv2 tl =>
 cases tl
 obtain ⟨gi, a, c', hi, rfl, hab, _, hn, hcc, hao, _⟩ := hv.slice_inv
 obtain ⟨fn2, f2, cb, hfr2, hf2, hcb, rfl⟩ := hv2.func_inv
 cases hfr2
 cases hf2
 have hao : a.off = gi.off + o ∧ a.spot = none := by
  rcases hao with e | e
  · omega
  · exact e
 obtain ⟨⟨c0, t0, fz0, hh⟩, q2, q3, q4, q5, q6⟩ := hW.obj b gi _ hi hg
 have ea : a = ⟨gi.b, gi.off + o, none⟩ := by
  obtain ⟨ab, ao, asp⟩ := a
  simp only at hab hao
  rw [hab, hao.1, hao.2]
 subst ea
 have hlt : gi.b < w.heap.size := (Array.getElem?_eq_some_iff.1 hh).1
 have hbnd : ∀ j t, j < xs.length → t < E.n → o + j * E.n + t < cs.length := fun j t hj ht => by
  have := Nat.mul_le_mul_right E.n (show j + 1 ≤ xs.length from hj)
  rw [Nat.add_mul, Nat.one_mul] at this
  omega
 let cellOf : Nat → Value := fun t => (w.cell? ⟨gi.b, gi.off + o + t, none⟩).getD .nilFunc
 have hcell : ∀ t, t < xs.length * E.n → w.cell? ⟨gi.b, gi.off + o + t, none⟩ = some (cellOf t) ∧ w.frozen? ⟨gi.b, gi.off + o + t, none⟩ = false := fun t ht => by
  obtain ⟨r1, r2⟩ := q4 (gi.off + o + t) (by omega)
  refine ⟨?_, r2⟩
  obtain ⟨v, hv⟩ := Option.isSome_iff_exists.1 r1
  show _ = some ((w.cell? ⟨gi.b, gi.off + o + t, none⟩).getD .nilFunc)
  rw [hv]; rfl
 have hex : ∀ j, j < xs.length → ∃ e : El β E xs d, xs[j]? = some e.x ∧ e.v = (List.range E.n).map fun t => cellOf (j * E.n + t) := fun j hj => by
  have hx : xs[j]? = some xs[j] := List.getElem?_eq_getElem hj
  obtain ⟨y, h1, h2⟩ := hel j _ hx
  refine ⟨⟨xs[j], y, (List.range E.n).map fun t => cellOf (j * E.n + t), List.getElem_mem hj, ?_, ?_, h2⟩, hx, rfl⟩
  · refine VRs.of_get (by rw [List.length_map, List.length_range, E.len]) fun t v ht => ?_
    have htn : t < E.n := by have := (List.getElem?_eq_some_iff.1 ht).1; rw [E.len] at this; exact this
    obtain ⟨v', r1, r2⟩ := q6 _ v (h1 t v ht)
    refine ⟨v', ?_, r2⟩
    rw [List.getElem?_map, List.getElem?_range htn, Option.map_some]
    show some ((w.cell? ⟨gi.b, gi.off + o + (j * E.n + t), none⟩).getD .nilFunc) = _
    rw [show gi.off + o + (j * E.n + t) = gi.off + (o + j * E.n + t) by omega, r1]; rfl
  · rw [List.all_eq_true] at q5 ⊢
    intro v hv
    obtain ⟨t, ht⟩ := List.getElem?_of_mem hv
    exact q5 v (List.mem_of_getElem? (h1 t v ht))
 have e0 : El β E xs d := Classical.choice (by obtain ⟨e, _⟩ := hex 0 hne; exact ⟨e⟩)
 haveI : Inhabited (El β E xs d) := ⟨e0⟩
 obtain ⟨el, hel2⟩ : ∃ el : Nat → El β E xs d, ∀ j, j < xs.length → xs[j]? = some (el j).x ∧ (el j).v = (List.range E.n).map fun t => cellOf (j * E.n + t) :=
  ⟨fun j => if h : j < xs.length then Classical.choose (hex j h) else e0, fun j hj => by dsimp only; rw [dif_pos hj]; exact Classical.choose_spec (hex j hj)⟩
 let D : Array (El β E xs d) := ((List.range xs.length).map el).toArray
 have hDs : D.size = xs.length := by simp [D]
 have hDg : ∀ j, j < xs.length → D[j]! = el j := fun j hj => by
  rw [getElem!_pos D j (by rw [hDs]; exact hj)]; simp [D]
 have hDx : D.toList.map (·.x) = xs := by
  apply List.ext_getElem?
  intro j
  by_cases hj : j < xs.length
  · rw [(hel2 j hj).1]
    simp [D, hj]
  · rw [List.getElem?_eq_none (l := xs) (by omega), List.getElem?_eq_none (by simp [D]; omega)]
 have hlv : ∀ e : El β E xs d, e.v.length = E.n := fun e => by rw [e.rel.length, E.len]
 have hH : HoldsK (fun e : El β E xs d => e.v) E.n w gi.b (gi.off + o) D := fun t ht => by
  have ht : t < xs.length * E.n := by rw [size_flatK, hDs] at ht; exact ht
  rw [get_flatK _ _ _ _ (by rw [hDs]; exact ht)]
  have hq : t / E.n < xs.length := (Nat.div_lt_iff_lt_mul hk0).2 ht
  have hr : t % E.n < E.n := Nat.mod_lt _ hk0
  rw [hDg _ hq, (hel2 _ hq).2]
  have : ((List.range E.n).map fun t' => cellOf (t / E.n * E.n + t'))[t % E.n]! = cellOf t := by
   rw [getElem!_pos _ _ (by simpa using hr)]
   simp only [List.getElem_map, List.getElem_range]
   rw [Nat.mul_comm, Nat.div_add_mod]
  rw [this]
  exact hcell t ht
 have hO2 : SWO (ltOf fun a b : El β E xs d => cf a.x b.x) := ⟨fun a => hO.irrefl a.x, fun a b c => hO.trans a.x b.x c.x, fun a b c => hO.ntrans a.x b.x c.x⟩
 have hcmp : CmpLays P g ⟨cb⟩ (fun e : El β E xs d => e.v) E.n (fun a b => cf a.x b.x) gi.b (gi.off + o) D.size w := fun m os dk _ x y => by
  have hle := Wd.but_le hz
  exact calls_pure hmix hgn hgb hgname (hC x.x x.mem y.x y.mem x.y y.y) (d := d.but b) rfl (fun fa hfa => by
   rcases List.mem_append.1 hfa with h | h
   · exact fa.mono hle (x.fs fa h)
   · rcases List.mem_append.1 h with h | h
     · exact fa.mono hle (y.fs fa h)
     · exact fa.mono hle (hF fa h)) hG (hW.sorting hi hg _ _ _ m dk os) (.cons (.agg x.cell x.rel) (.cons (.agg y.cell y.rel) .nil)) hcb
 have hK := hS (El β E xs d) (fun e => e.v) (fun a b => cf a.x b.x) g ⟨cb⟩ gi.b (gi.off + o) c' D w hlv (fun e => VRs.oneCell e.rel e.cell) hO2 (fun xs w => callFunc_enter hgn hgb hgname xs w) hcmp hH hlt (by rw [hDs]; exact hlen)
 refine ⟨_, Frame.enter P f ⟨_⟩ .normal, t1, rfl, fun cs0 hcs0 => ?_⟩
 rw [hDs] at hK
 obtain ⟨e, w', fr, ⟨he, d2, n2, os, hpm, hsd, hw'⟩, hcomes, hfr, hlv2⟩ := hK cs0
 subst he
 have hd2 : d2.size = xs.length := hpm.1.trans hDs
 have hdg : ∀ (j : Nat) e, d2.toList[j]? = some e → j < xs.length ∧ d2[j]! = e := fun j e h => by
  rw [Array.getElem?_toList] at h
  obtain ⟨hj, he⟩ := Array.getElem?_eq_some_iff.1 h
  exact ⟨by omega, by rw [getElem!_pos d2 j hj]; exact he⟩
 let zs : List (X × E.Y) := d2.toList.map fun e => (e.x, e.y)
 let L : List Value := (List.range (xs.length * E.n)).map fun t => (E.pat (d2[t / E.n]!).x (d2[t / E.n]!).y).getD (t % E.n) .nilFunc
 let L' : List Value := (flatK (fun e : El β E xs d => e.v) E.n d2).toList
 have hLl : L.length = xs.length * E.n := by simp [L]
 have hLg : ∀ t, t < xs.length * E.n → L[t]? = some ((E.pat (d2[t / E.n]!).x (d2[t / E.n]!).y).getD (t % E.n) .nilFunc) := fun t ht => by
  show ((List.range (xs.length * E.n)).map _)[t]? = _
  rw [List.getElem?_map, List.getElem?_range ht]; rfl
 have hL'l : L'.length = xs.length * E.n := by simp [L', hd2]
 have hpatg : ∀ (e : El β E xs d) t, t < E.n → (E.pat e.x e.y)[t]? = some ((E.pat e.x e.y).getD t .nilFunc) := fun e t ht => by
  rw [List.getD_eq_getElem?_getD, List.getElem?_eq_getElem (by rw [E.len]; exact ht)]; rfl
 have hLin : ∀ (t : Nat) v, L[t]? = some v → t < xs.length * E.n := fun t v ht => by
  have := (List.getElem?_eq_some_iff.1 ht).1
  rwa [hLl] at this
 have hrel : VRs β L L' := VRs.of_get (by rw [hL'l, hLl]) fun t v ht => by
  have htn := hLin t v ht
  rw [hLg t htn] at ht
  cases ht
  have hr := Nat.mod_lt t hk0
  obtain ⟨v', r1, r2⟩ := (d2[t / E.n]!).rel.get (hpatg _ _ hr)
  refine ⟨v', ?_, r2⟩
  have h1 : L'[t]? = some (flatK (fun e : El β E xs d => e.v) E.n d2)[t]! := by
   show (flatK (fun e : El β E xs d => e.v) E.n d2).toList[t]? = _
   rw [Array.getElem?_toList, Array.getElem?_eq_getElem (by rw [size_flatK, hd2]; exact htn), getElem!_pos _ _ (by rw [size_flatK, hd2]; exact htn)]
  rw [h1, get_flatK _ _ _ _ (by rw [hd2]; exact htn)]
  show some ((d2[t / E.n]!).v)[t % E.n]! = _
  rw [getElem!_pos _ _ (by rw [hlv]; exact hr), ← List.getElem?_eq_getElem]
  exact r1
 have hall : L.all cellV = true := by
  rw [List.all_eq_true]
  intro v hv
  obtain ⟨t, ht⟩ := List.getElem?_of_mem hv
  have htn := hLin t v ht
  rw [hLg t htn] at ht
  cases ht
  exact List.all_eq_true.1 (d2[t / E.n]!).cell _ (List.mem_of_getElem? (hpatg _ _ (Nat.mod_lt t hk0)))
 obtain ⟨cs2, hl⟩ := lover_tot cs o L (by rw [hLl]; omega)
 obtain ⟨l1, l2, l3⟩ := lover_some hl
 have hs : d.h.storeAt b o L = some (d.h.set b (.cells cs2)) := by unfold IH.storeAt; simp only [hg, hl]
 obtain ⟨_, w1, w2⟩ := mem_write hW hi hs hrel hall
 have hw1 : sortWorldK (fun e : El β E xs d => e.v) E.n w gi.b (gi.off + o) n2 d2 os = Go.Sort.grow (Sort.ahead (w.setCells gi.b (gi.off + o) L') n2) os := by
  have := Go.Ideal.setCells_putRow (id : Value → Value) w gi.b (gi.off + o) (flatK (fun e : El β E xs d => e.v) E.n d2)
  rw [List.map_id] at this
  rw [show w.setCells gi.b (gi.off + o) L' = _ from this]; rfl
 rw [hw1] at hw'
 have w3 : WR P β (d.h.set b (.cells cs2)) (Sort.ahead (w.setCells gi.b (gi.off + o) L') n2) := w1.same_heap rfl
 have w4 := w2.trans (Eff.same_heap (w' := Sort.ahead (w.setCells gi.b (gi.off + o) L') n2) w1.dom rfl rfl rfl rfl (Nat.le_add_right _ _))
 obtain ⟨w5, w6⟩ := w3.grow os
 rw [← hw'] at w5 w6
 refine ⟨.ok (.tuple ⟨[]⟩), none, _, β, w', .returned (.tuple #[]), cs0, ⟨rfl, rfl, zs, cs2, ?_, ?_, l2, ?_, rfl⟩, w5, w4.trans w6, .ok (.unk _), .none cs0, .inl ⟨f, _, fr, rfl, hcomes, hfr, hlv2.2.2.1, hlv2.1, hlv2.2.1, hlv2.2.2.2⟩⟩
 · have hp := hpm.2.2
   rw [show d2.extract 0 xs.length = d2 by rw [← hd2]; simp, show D.extract 0 xs.length = D by rw [← hDs]; simp] at hp
   have h1 := hp.map (·.x)
   rw [hDx] at h1
   show ((d2.toList.map fun e => (e.x, e.y)).map (·.1)).Perm xs
   rw [List.map_map]; exact h1
 · show ((d2.toList.map fun e => (e.x, e.y)).map (·.1)).Pairwise _
   rw [List.map_map]
   refine List.pairwise_of_get fun i j x y hij hx hy => ?_
   rw [List.getElem?_map, Option.map_eq_some_iff] at hx hy
   obtain ⟨e1, hx, rfl⟩ := hx
   obtain ⟨e2, hy, rfl⟩ := hy
   have h1 := hdg i e1 hx
   have h2 := hdg j e2 hy
   have := hsd i j (Nat.zero_le _) hij h2.1
   rw [h1.2, h2.2] at this
   exact of_decide_eq_false this
 · intro j p hj
   have hj : (d2.toList.map fun e => (e.x, e.y))[j]? = some p := hj
   rw [List.getElem?_map, Option.map_eq_some_iff] at hj
   obtain ⟨e, he0, rfl⟩ := hj
   obtain ⟨hjn, he⟩ := hdg j e he0
   refine ⟨fun t u ht => ?_, e.fs⟩
   have htn : t < E.n := by have := (List.getElem?_eq_some_iff.1 ht).1; rw [E.len] at this; exact this
   have hb2 := hbnd j t hjn htn
   rw [l3, if_pos ⟨by omega, by rw [hLl]; omega⟩, show o + j * E.n + t - o = j * E.n + t by omega, hLg _ (by omega)]
   have d1 : (j * E.n + t) / E.n = j := by rw [Nat.mul_comm, Nat.mul_add_div hk0, Nat.div_eq_of_lt htn, Nat.add_zero]
   have d3 : (j * E.n + t) % E.n = t := by rw [Nat.mul_comm, Nat.mul_add_mod, Nat.mod_eq_of_lt htn]
   rw [d1, d3, he, ← hpatg e t htn]
   exact ht
def SortsN (P : Program) (f : FuncId) : Prop := ∀ (p : Option Addr) (cap : Nat) (fv : Value) (w : World), Calls P f #[.slice p 0 cap, fv] w fun e w' => e = .returned (.tuple #[]) ∧ w' = w
theorem VR.slice_n {β : Inj} {a : Option Addr} {n c : Nat} {v : Value} (h : VR β (.slice a n c) v) : ∃ p c', v = .slice p n c' := by
 cases h <;> exact ⟨_, _, rfl⟩
theorem mcall_sortN {f : FuncId} (hS : SortsN P f) {fn : Func} (hfn : P.funcs[f]? = some fn) {body : Code} (hb : fn.body = some body) (hname : fn.name ≠ "runtime.NumGoroutine") {a : Option Addr} {c : Nat} {fv : Value} {h : IH} :
 MCALL P ⟨.func f, [.slice a 0 c, fv], [], none⟩ h (fun r pm h2 => pm = none ∧ r = .ok (.tuple ⟨[]⟩) ∧ h2 = h) := by
 intro β w fn' args' cap' hG hW hf ha' hcap
 obtain ⟨args2, t1, t2⟩ := target_ok (P := P) (q := ⟨.func f, [.slice a 0 c, fv], [], none⟩) (f := f) (args := [.slice a 0 c, fv]) (by simp only [target, lapp_eq, List.append_nil]) hf ha' hcap hfn hb hname w
 cases t2 with | cons hv tl =>
 cases tl with | cons hv2 tl =>
 cases tl
 obtain ⟨p, c', rfl⟩ := hv.slice_n
 refine ⟨_, Frame.enter P f ⟨_⟩ .normal, t1, rfl, fun cs0 hcs0 => ?_⟩
 obtain ⟨e, w', fr, ⟨he, hw'⟩, hcomes, hfr, hlv⟩ := hS p c' _ w cs0
 subst he hw'
 exact ⟨.ok (.tuple ⟨[]⟩), none, h, β, _, .returned (.tuple #[]), cs0, ⟨rfl, rfl, rfl⟩, hW, Eff.refl _ _ _ hW.dom, .ok (.unk _), .none cs0, .inl ⟨f, _, fr, rfl, hcomes, hfr, hlv.2.2.1, hlv.1, hlv.2.1, hlv.2.2.2⟩⟩
theorem fn_sortK (hmix : P.follows .mixedOrders = true) {f g : FuncId} {k : Nat} (hS : SortsK P f k) (hN : SortsN P f) {fn : Func} (hfn : P.funcs[f]? = some fn) {body : Code} (hb : fn.body = some body) (hname : fn.name ≠ "runtime.NumGoroutine") {gn : Func} (hgn : P.funcs[g]? = some gn) {gbody : Code} (hgb : gn.body = some gbody) (hgname : gn.name ≠ "runtime.NumGoroutine")
 {X : Type} {E : Enc X} (hE : E.n = k) (hk0 : 0 < k) {xs : List X} {cf : X → X → Int} (hO : SWO (ltOf cf)) {cap : List Value} {F : List Fact} {a : Option Addr}
 (hC : ∀ x ∈ xs, ∀ y ∈ xs, ∀ a b, FnC P (.func g) [.agg ⟨E.pat x a⟩, .agg ⟨E.pat y b⟩] cap [] (E.fs x a ++ (E.fs y b ++ F)) (fun _ : Unit => .int .i64 (cf x y)) (fun _ => []) (fun _ => []) (fun _ => True))
 (hlen : xs.length < 4611686018427387904) :
 FnC P (.func f) [.slice a xs.length xs.length, .func (.func g) ⟨[]⟩ ⟨cap⟩] [] [ap E (.slice a xs.length xs.length) xs] F (fun _ : List X => .tuple ⟨[]⟩) (fun ys => [ap E (.slice a xs.length xs.length) ys]) (fun _ => []) (fun ys => ys.Perm xs ∧ ys.Pairwise fun x y => ¬ cf y x < 0) := by
 intro B w s
 by_cases hx : xs = []
 · subst hx
   refine .real (call_conseq _ (mcall_sortN hN hfn hb hname) ?_)
   rintro r pm h' ⟨rfl, rfl, rfl⟩
   exact ⟨rfl, w, [], rfl, ⟨s.agree, s.le, s.zold, s.own, fun f hf => by cases hf⟩, rfl, .refl _, .nil⟩
 have hne : 0 < xs.length := List.length_pos_iff.2 hx
 obtain ⟨S, ⟨S1, S2, q1, q2, e⟩, h2, h3⟩ := s.own
 rcases q1 with ⟨h, _⟩ | ⟨b, o, fl, cells, e1, hf, e2, hb', hcl, hel⟩
 · exact absurd h hx
 injection e1 with e1 e1'
 subst e1 e2 e
 have hzb : ¬ w.z b := (h3 b (by simp)).2.2
 refine .real (call_conseq _ (mcall_sortK hmix hS hfn hb hname hgn hgb hgname hE hk0 hO hC hb' hzb s.facts hel hcl hne hlen) ?_)
 rintro r pm h' ⟨rfl, rfl, zs, cs2, hp, hpw, hl2, hlay, rfl⟩
 have s1 : St B w [pt b (.cells cells)] [] w := ⟨s.agree, s.le, s.zold, ⟨[b] ++ S2, ⟨[b], S2, ⟨rfl, hb'⟩, q2, rfl⟩, h2, h3⟩, fun f hf => by cases hf⟩
 have s2 := s1.write (o' := .cells cs2)
 have hle : w.Le ⟨w.h.set b (.cells cs2), w.z, fun i hi => w.zlt i hi⟩ := s2.le
 have hzl : zs.length = xs.length := by have := hp.length_eq; rwa [List.length_map] at this
 refine ⟨rfl, ⟨w.h.set b (.cells cs2), w.z, fun i hi => w.zlt i hi⟩, zs.map (·.1), rfl, ?_, rfl, hp, hpw⟩
 refine s2.turnA' (A' := ap E (.slice (some ⟨b, o, some fl⟩) xs.length xs.length) (zs.map (·.1))) fun S' hp' => ?_
 refine .inr ⟨b, o, fl, cs2, by rw [List.length_map, hzl], hf, hp'.1, hp'.2, by rw [hl2, hcl, List.length_map, hzl], fun j x hj => ?_⟩
 rw [List.getElem?_map, Option.map_eq_some_iff] at hj
 obtain ⟨p, hj, rfl⟩ := hj
 obtain ⟨r1, r2⟩ := hlay j p hj
 exact ⟨p.2, r1, fun f hf => f.mono hle (r2 f hf)⟩
end Go.Ideal
namespace Go.Ideal
open Go.Sort Go.RowKit Go.Proofs
variable {P : Program}
def SortsStrs (P : Program) (f : FuncId) : Prop := ∀ (blk off cap : Nat) (zs : List ByteArray) (w : World), Holds encStr w blk off (zs.map fun z => z.data.toList).toArray → blk < w.heap.size → zs.length < 4611686018427387904 →
 Calls P f #[.slice (some ⟨blk, off, none⟩) zs.length cap] w fun e w' => e = .returned (.tuple #[]) ∧ ∃ n os, w' = Go.Sort.grow (putRow encStr (Sort.ahead w n) blk off ((zs.map fun z => z.data.toList).mergeSort fun x y => decide (x ≤ y)).toArray) os
def sortL (zs : List ByteArray) : List (List UInt8) := (zs.map fun z => z.data.toList).mergeSort fun x y => decide (x ≤ y)
def sortB (zs : List ByteArray) : List ByteArray := (sortL zs).map fun l => ⟨⟨l⟩⟩
theorem sortB_len (zs : List ByteArray) : (sortB zs).length = zs.length := by unfold sortB sortL; rw [List.length_map, List.length_mergeSort, List.length_map]
theorem mcall_sortS {f : FuncId} (hS : SortsStrs P f) {fn : Func} (hfn : P.funcs[f]? = some fn) {body : Code} (hb : fn.body = some body) (hname : fn.name ≠ "runtime.NumGoroutine") {b o c : Nat} {fl : Option Nat} {zs : List ByteArray} {h h' : IH} {cs : List Value}
 (hg : h.get b = some (.cells cs)) (hz : ∀ (j : Nat) z, zs[j]? = some z → cs[o + j]? = some (.string z)) (hne : 0 < zs.length) (hlen : zs.length < 4611686018427387904) (hs : h.storeAt b o ((sortB zs).map .string) = some h') :
 MCALL P ⟨.func f, [.slice (some ⟨b, o, fl⟩) zs.length c], [], none⟩ h (fun r pm h2 => pm = none ∧ r = .ok (.tuple ⟨[]⟩) ∧ h2 = h') := by
 intro β w fn' args' cap' hG hW hf ha hcap
 obtain ⟨args2, t1, t2⟩ := target_ok (P := P) (q := ⟨.func f, [.slice (some ⟨b, o, fl⟩) zs.length c], [], none⟩) (f := f) (args := [.slice (some ⟨b, o, fl⟩) zs.length c]) (by simp only [target, lapp_eq, List.append_nil]) hf ha hcap hfn hb hname w
 cases t2 with | cons hv tl =>
 cases tl
 obtain ⟨g, a, c', hi, rfl, hab, _, hn, hcc, hao, _⟩ := hv.slice_inv
 have hao : a.off = g.off + o ∧ a.spot = none := by
  rcases hao with e | e
  · omega
  · exact e
 obtain ⟨⟨c0, t0, fz0, hh⟩, q2, q3, q4, q5, q6⟩ := hW.obj b g _ hi hg
 have ea : a = ⟨g.b, g.off + o, none⟩ := by
  obtain ⟨ab, ao, ags⟩ := a
  simp only at hab hao
  rw [hab, hao.1, hao.2]
 subst ea
 have hin : ∀ j, j < zs.length → o + j < cs.length := fun j hj => (List.getElem?_eq_some_iff.1 (hz j _ (List.getElem?_eq_getElem hj))).1
 have hH : Holds encStr w g.b (g.off + o) (zs.map fun z => z.data.toList).toArray := fun j hj => by
  have hj : j < zs.length := by simpa using hj
  obtain ⟨v', h1, h2⟩ := q6 (o + j) _ (hz j _ (List.getElem?_eq_getElem hj))
  have := h2.string_inv
  subst this
  refine ⟨?_, (q4 _ (by have := hin j hj; omega)).2⟩
  rw [Nat.add_assoc, h1]
  congr 1
  rw [getElem!_pos _ j (by simpa using hj)]
  simp
 have hlt : g.b < w.heap.size := (Array.getElem?_eq_some_iff.1 hh).1
 have hC := hS g.b (g.off + o) c' zs w hH hlt hlen
 obtain ⟨_, w1, w2⟩ := mem_write hW hi hs (vs' := (sortB zs).map .string) (VRs.free (by
  have : ∀ l : List ByteArray, addrFrees (l.map Value.string) = true := by
   intro l
   induction l with
   | nil => rfl
   | cons x l ih => rw [List.map_cons]; simp [addrFrees, addrFree, Ideal.cellV, ih]
  exact this _)) (by
  rw [List.all_eq_true]
  intro x hx
  obtain ⟨z, _, rfl⟩ := List.mem_map.1 hx
  rfl)
 refine ⟨_, Frame.enter P f ⟨_⟩ .normal, t1, rfl, fun cs0 hcs0 => ?_⟩
 obtain ⟨e, w', fr, ⟨he, k, os, hw'⟩, hcomes, hfr, hlv⟩ := hC cs0
 subst he
 have hw1 : putRow encStr (Sort.ahead w k) g.b (g.off + o) ((zs.map fun z => z.data.toList).mergeSort fun x y => decide (x ≤ y)).toArray = Sort.ahead (w.setCells g.b (g.off + o) ((sortB zs).map .string)) k := by
  have := setCells_putRow encStr w g.b (g.off + o) (sortL zs).toArray
  rw [show (sortL zs).toArray.toList.map encStr = (sortB zs).map .string by unfold sortB; rw [List.map_map]; rfl] at this
  rw [this]; rfl
 rw [hw1] at hw'
 have w3 : WR P β h' (Sort.ahead (w.setCells g.b (g.off + o) ((sortB zs).map .string)) k) := w1.same_heap rfl
 have w4 := w2.trans (Eff.same_heap (w' := Sort.ahead (w.setCells g.b (g.off + o) ((sortB zs).map .string)) k) w1.dom rfl rfl rfl rfl (Nat.le_add_right _ _))
 obtain ⟨w5, w6⟩ := w3.grow os
 rw [← hw'] at w5 w6
 refine ⟨.ok (.tuple ⟨[]⟩), none, h', β, w', .returned (.tuple #[]), cs0, ⟨rfl, rfl, rfl⟩, w5, w4.trans w6, .ok (.unk _), .none cs0, .inl ⟨f, _, fr, rfl, hcomes, hfr, hlv.2.2.1, hlv.1, hlv.2.1, hlv.2.2.2⟩⟩
theorem fn_sortS {f : FuncId} (hS : SortsStrs P f) {fn : Func} (hfn : P.funcs[f]? = some fn) {body : Code} (hb : fn.body = some body) (hname : fn.name ≠ "runtime.NumGoroutine") {a : Option Addr} {zs : List ByteArray} (hne : 0 < zs.length) (hlen : zs.length < 4611686018427387904) :
 FnC P (.func f) [.slice a zs.length zs.length] [] [ap strE (.slice a zs.length zs.length) zs] [] (fun _ : Unit => .tuple ⟨[]⟩) (fun _ => [ap strE (.slice a zs.length zs.length) (sortB zs)]) (fun _ => []) (fun _ => True) := by
 intro B w s
 obtain ⟨S, ⟨S1, S2, q1, q2, e⟩, h2, h3⟩ := s.own
 rcases q1 with ⟨h, _⟩ | ⟨b, o, fl, cells, e1, hf, e2, hb', hcl, hel⟩
 · rw [h] at hne; simp at hne
 injection e1 with e1 e1'
 subst e1
 have hcl : cells.length = o + zs.length := by rw [hcl]; simp [strE]
 have hz : ∀ (j : Nat) z, zs[j]? = some z → cells[o + j]? = some (.string z) := fun j z hj => by
  obtain ⟨y, u1, _⟩ := hel j z hj
  have := u1 0 (.string z) rfl
  simpa [strE] using this
 have hst : ∃ cs2, w.h.storeAt b o ((sortB zs).map .string) = some (w.h.set b (.cells cs2)) ∧ cs2.length = cells.length ∧ ∀ (k : Nat) z, (sortB zs)[k]? = some z → cs2[o + k]? = some (.string z) := by
  have hov : ∃ cs2, lover cells o ((sortB zs).map .string) = some cs2 := lover_tot _ _ _ (by rw [List.length_map, sortB_len]; omega)
  obtain ⟨cs2, hl⟩ := hov
  obtain ⟨l1, l2, l3⟩ := lover_some hl
  refine ⟨cs2, ?_, l2, fun k z hk => ?_⟩
  · unfold IH.storeAt
    simp only [hb', hl]
  · rw [l3, if_pos ⟨by omega, by have := (List.getElem?_eq_some_iff.1 hk).1; rw [List.length_map]; omega⟩, Nat.add_sub_cancel_left, List.getElem?_map, hk]; rfl
 obtain ⟨cs2, hst, hl2, hel2⟩ := hst
 refine .real (call_conseq _ (mcall_sortS hS hfn hb hname hb' hz hne hlen hst) ?_)
 rintro r pm h' ⟨rfl, rfl, rfl⟩
 have s1 : St B w [pt b (.cells cells)] [] w := ⟨s.agree, s.le, s.zold, ⟨S, ⟨S1, S2, ⟨e2, hb'⟩, q2, e⟩, h2, h3⟩, fun f hf => by cases hf⟩
 refine ⟨rfl, ⟨w.h.set b (.cells cs2), w.z, fun i hi => w.zlt i hi⟩, (), rfl, ?_, rfl, trivial⟩
 refine (s1.write (o' := .cells cs2)).turnA (A := pt b (.cells cs2)) fun w' S' hp => ?_
 refine .inr ⟨b, o, fl, cs2, by rw [sortB_len], hf, hp.1, hp.2, by rw [hl2, hcl, sortB_len]; simp [strE], fun k x hk => ⟨(), fun j u hj => ?_, fun f hf => by cases hf⟩⟩
 match j, hj with
 | 0, hj =>
   cases hj
   have := hel2 k x hk
   simpa [strE] using this
end Go.Ideal
namespace Go.Ideal
variable {P : Program}
section
variable {B : List Nat} {w0 : Wd} {kl kl' : List OA} {F : List Fact} {K : KO} {ds : List Tmp} {rest : List PStep} {n : Nat} {l : List (Nat × Value)} {D : List Deferred} {pm : Option FrameMode} {ro : Option Nat} {d : Nat} {g : Option (Tmp × Bool)}
theorem d_app1G {α : Type} {E : Enc α} {e : TypeId} {size bytes b' : Nat} {s x : Operand} {v : Value} {xs : List α} {a : α} {y : E.Y} {cs : List Value} {k1 k2 : List OA} (hn : Nat.blt d n = true) (hg : gok l g = true)
 (hs : ev l s = v) (hx : ev l x = .slice (some ⟨b', 0, some 0⟩) 1 1) (hk : Sel (ap E v xs) kl k1) (hc : Sel (pt b' (.cells cs)) k1 k2) (hp : cs = E.pat a y) (hF : Sub (E.fs a y) F) (hz : E.n = size)
 (hm : (xs.length + 1) * bytes ≤ 1073741824 ∧ (xs.length + 1) * size ≤ 1073741824 ∧ xs.length + 1 ≤ 1073741824) :
 Red (R (fun h => OPS P ds (⟨⟨some d, g, .append e size bytes s x⟩, []⟩ :: rest) (act n l D pm ro) h K) B w0 kl F)
  (∀ c, R (fun h => OPS P ds rest (act n ((d, .slice (some ⟨c, 0, some E.n⟩) (xs.length + 1) (xs.length + 1)) :: l) D pm ro) h K) B w0 (ap E (.slice (some ⟨c, 0, some E.n⟩) (xs.length + 1) (xs.length + 1)) (xs ++ [a]) :: k2) F) := by
 refine ⟨fun r w st => ?_⟩
 subst hp hz
 have hlen := E.len a y
 have st2 : St B w0 (ap E v xs :: pt b' (.cells (E.pat a y)) :: k2) F w := st.selL (.cons hk (.cons hc .nil))
 have hat : At w.h b' (.cells (E.pat a y)) := st2.at_ (.there .here)
 have st3 : St B w0 (ap E v xs :: k2) F w := (st2.sel (.there .here)).tail
 have hfs : ∀ f ∈ E.fs a y, f.p w := fun f hf => st.facts f (hF.mem f hf)
 have hread : w.h.readAt b' 0 (1 * E.n) = some (E.pat a y) := by
  rw [hat.c.readAt, ldrop_eq, ltake_eq, Nat.one_mul, List.drop_zero, if_pos (by omega), ← hlen, List.take_length]
 have hx1 : lenI (ev l x) = some (0 + 1) := by rw [hx]; rfl
 have hx2 : firstI E.n (0 + 1) (ev l x) w.h = some (E.pat a y) := by rw [hx]; exact hread
 -- what lies there afterwards
 have put : ∀ (w' : Wd) (c : Nat) (f : Nat) (cells : List Value), cells.length = xs.length * E.n → (∀ (k : Nat) z, xs[k]? = some z → ∃ y, (∀ (j : Nat) u, (E.pat z y)[j]? = some u → cells[k * E.n + j]? = some u) ∧ ∀ f ∈ E.fs z y, f.p w') → (∀ f ∈ E.fs a y, f.p w') →
  (f = 0 ∨ f = E.n) → ∀ S, (pt c (.cells (cells ++ E.pat a y))).p w' S → (ap E (.slice (some ⟨c, 0, some f⟩) (xs.length + 1) (xs.length + 1)) (xs ++ [a])).p w' S := by
  intro w' c f cells h1 h2 h3 h4 S hp
  refine .inr ⟨c, 0, f, _, by rw [List.length_append]; rfl, h4, hp.1, hp.2, by rw [List.length_append, List.length_append, h1, hlen, List.length_singleton, Nat.add_mul, Nat.one_mul, Nat.zero_add], fun k z hk => ?_⟩
  by_cases hlt : k < xs.length
  · rw [List.getElem?_append_left hlt] at hk
    obtain ⟨y', q1, q2⟩ := h2 k z hk
    refine ⟨y', fun j u hj => ?_, q2⟩
    rw [Nat.zero_add]
    have := q1 j u hj
    rw [List.getElem?_append_left (List.getElem?_eq_some_iff.1 this).1]; exact this
  · rw [List.getElem?_append_right (by omega)] at hk
    have hk0 : k = xs.length := by
     have := (List.getElem?_eq_some_iff.1 hk).1
     simp at this; omega
    subst hk0
    simp at hk
    subst hk
    refine ⟨y, fun j u hj => ?_, h3⟩
    rw [Nat.zero_add, List.getElem?_append_right (by omega), h1, Nat.add_sub_cancel_left]; exact hj
 obtain ⟨S, ⟨S1, S2, q, q2, e1⟩, hnd, hown⟩ := st3.own
 rcases q with ⟨rfl, rfl, rfl⟩ | ⟨b, o, f, cells, rfl, hf, rfl, hb, hcl, hel⟩
 · refine s_append0 (c := 0) hn hg hs hx1 hx2 (by simpa using hm) fun h' ag at1 hnx => ?_
   obtain ⟨w', rfl, st4⟩ := st3.tail.fresh ag at1 hnx
   refine r _ w' (st4.turnA' fun S hp => ?_)
   have hle : ∀ f ∈ E.fs a y, f.p w' := fun f hf => st4.facts f (hF.mem f hf)
   exact put w' _ E.n [] (by simp) (fun k z hk => by cases hk) hle (.inr rfl) S hp
 · have st5 : St B w0 (pt b (.cells cells) :: k2) F w := ⟨st3.agree, st3.le, st3.zold, ⟨S, ⟨_, S2, ⟨rfl, hb⟩, q2, e1⟩, hnd, hown⟩, st3.facts⟩
   have hbat : At w.h b (.cells cells) := st5.at_ .here
   refine s_append (old := cells.drop o) (xs := E.pat a y) hn hg hs hx1 hx2 ?_ (hf.elim (fun e => .inl (by rw [e])) fun e => .inr (by rw [e])) hm fun h' mv => ?_
   · have hdl : (cells.drop o).length = xs.length * E.n := by rw [List.length_drop]; omega
     rw [hbat.c.readAt, ldrop_eq, ltake_eq, if_pos (by omega), ← hdl, List.take_length]
   obtain ⟨w', rfl, st4, hwle⟩ := st5.move mv
   refine r _ w' (st4.turnA' fun S hp => ?_)
   have hle : ∀ f ∈ E.fs a y, f.p w' := fun f hf => st4.facts f (hF.mem f hf)
   refine put w' _ E.n (cells.drop o) (by rw [List.length_drop]; omega) (fun k z hk => ?_) hle (.inr rfl) S hp
   obtain ⟨y', u1, u2⟩ := hel k z hk
   exact ⟨y', fun j u hj => by rw [List.getElem?_drop, ← Nat.add_assoc]; exact u1 j u hj, fun f hf => f.mono hwle (u2 f hf)⟩
theorem q_appG {α : Type} (E : Enc α) {e : TypeId} {size bytes b' : Nat} {s x : Operand} {v : Value} {xs : List α} (a : α) (y : E.Y) {cs : List Value} {k1 k2 : List OA}
 (hm : (xs.length + 1) * bytes ≤ 1073741824 ∧ (xs.length + 1) * size ≤ 1073741824 ∧ xs.length + 1 ≤ 1073741824)
 (next : ∀ c, R (fun h => OPS P ds rest (act n ((d, .slice (some ⟨c, 0, some E.n⟩) (xs.length + 1) (xs.length + 1)) :: l) D pm ro) h K) B w0 (ap E (.slice (some ⟨c, 0, some E.n⟩) (xs.length + 1) (xs.length + 1)) (xs ++ [a]) :: k2) F)
 (hn : Nat.blt d n = true := by rfl) (hg : gok l g = true := by rfl)
 (hs : ev l s = v := by conv => lhs; whnf) (hx : ev l x = .slice (some ⟨b', 0, some 0⟩) 1 1 := by rfl) (hk : autoParam (Sel (ap E v xs) kl k1) aSel._auto_1) (hc : autoParam (Sel (pt b' (.cells cs)) k1 k2) aSel._auto_1) (hp : cs = E.pat a y := by rfl) (hF : autoParam (Sub (E.fs a y) F) aSub._auto_1) (hz : E.n = size := by rfl) :
 R (fun h => OPS P ds (⟨⟨some d, g, .append e size bytes s x⟩, []⟩ :: rest) (act n l D pm ro) h K) B w0 kl F :=
 (d_app1G hn hg hs hx hk hc hp hF hz hm).h next
def gv (f : Nat) : Option Nat → Nat → Value
 | none, _ => .slice none 0 0
 | some c, n => .slice (some ⟨c, 0, some f⟩) n n
theorem ap_gv {α : Type} {E : Enc α} {c : Option Nat} {xs : List α} {w : Wd} {S : List Nat} (h : (ap E (gv E.n c xs.length) xs).p w S) (h0 : 0 < xs.length) : ∃ b cells, gv E.n c xs.length = .slice (some ⟨b, 0, some E.n⟩) xs.length xs.length ∧ S = [b] ∧ w.h.get b = some (.cells cells) ∧ cells.length = xs.length * E.n ∧
 ∀ (k : Nat) x, xs[k]? = some x → ∃ y, (∀ (j : Nat) u, (E.pat x y)[j]? = some u → cells[k * E.n + j]? = some u) ∧ ∀ f ∈ E.fs x y, f.p w := by
 rcases h with ⟨h, _⟩ | ⟨b, o, f, cells, h1, h2, h3, h4, h5, h6⟩
 · rw [h] at h0; simp at h0
 · cases c with
   | none => simp [gv] at h1
   | some c =>
     simp only [gv, Value.slice.injEq, Option.some.injEq, Addr.mk.injEq] at h1
     obtain ⟨⟨rfl, rfl, h1⟩, _⟩ := h1
     refine ⟨c, cells, rfl, h3, h4, by rw [h5, Nat.zero_add], fun k x hk => ?_⟩
     obtain ⟨y, q1, q2⟩ := h6 k x hk
     exact ⟨y, fun j u hj => by have := q1 j u hj; rwa [Nat.zero_add] at this, q2⟩
theorem q_apNone {α : Type} {E : Enc α} {xs : List α} {Q : IH → Prop} (h0 : 0 < xs.length) (hk : autoParam (Sel (ap E (.slice none 0 0) xs) kl kl') aSel._auto_1) : R Q B w0 kl F := fun w s => by
 obtain ⟨S, ⟨S1, S2, q1, q2, e⟩, h2, h3⟩ := (s.sel hk).own
 obtain ⟨b, cells, h, _⟩ := ap_gv (c := none) q1 h0
 simp [gv] at h
end
end Go.Ideal
namespace Go.Ideal
variable {P : Program} {B : List Nat} {w0 : Wd} {kl kl' klr : List OA} {F : List Fact} {K : KO} {ds : List Tmp} {rest : List PStep} {n : Nat} {l : List (Nat × Value)} {D : List Deferred} {pm : Option FrameMode} {ro : Option Nat} {d : Nat} {g : Option (Tmp × Bool)}
theorem flatP_read {α : Type} {E : Enc α} {xys : List (α × E.Y)} {k : Nat} {p : α × E.Y} (hp : xys[k]? = some p) : ltake (ldrop (flatP E xys) (k * E.n)) E.n = some (E.pat p.1 p.2) := by
 have hk := (List.getElem?_eq_some_iff.1 hp).1
 have hl := flatP_len xys
 have hm : (k + 1) * E.n ≤ xys.length * E.n := Nat.mul_le_mul_right _ hk
 rw [Nat.add_mul, Nat.one_mul] at hm
 rw [ldrop_eq, ltake_eq, if_pos (by rw [List.length_drop]; omega)]
 congr 1
 apply List.ext_getElem?
 intro j
 rw [List.getElem?_take]
 by_cases hj : j < E.n
 · have hu : (E.pat p.1 p.2)[j]? = some ((E.pat p.1 p.2)[j]'(by rw [E.len]; exact hj)) := List.getElem?_eq_getElem _
   rw [if_pos hj, List.getElem?_drop, hu]
   exact flatP_get hp hu
 · rw [if_neg hj, List.getElem?_eq_none (by rw [E.len]; omega)]
theorem flatP_append {α : Type} {E : Enc α} (a b : List (α × E.Y)) : flatP E (a ++ b) = flatP E a ++ flatP E b := by unfold flatP; rw [List.flatMap_append]
theorem flatP_over {α : Type} {E : Enc α} {xys : List (α × E.Y)} {k : Nat} {p : α × E.Y} (hk : k < xys.length) : lover (flatP E xys) (k * E.n) (E.pat p.1 p.2) = some (flatP E (xys.set k p)) := by
 have h1 : xys = xys.take k ++ xys.drop k := (List.take_append_drop k xys).symm
 have hd : xys.drop k = xys[k] :: xys.drop (k + 1) := List.drop_eq_getElem_cons hk
 have h2 : flatP E xys = flatP E (xys.take k) ++ (E.pat xys[k].1 xys[k].2 ++ flatP E (xys.drop (k + 1))) := by
  conv => lhs; rw [h1, hd, flatP_append]
  rfl
 have h3 : k * E.n = (flatP E (xys.take k)).length := by rw [flatP_len, List.length_take, Nat.min_eq_left (by omega)]
 rw [h2, h3, lover_mid (by rw [E.len, List.length_append, E.len]; omega), E.len, List.drop_append_of_le_length (by rw [E.len]; exact Nat.le_refl _), List.drop_of_length_le (by rw [E.len]; exact Nat.le_refl _), List.nil_append]
 congr 1
 have h4 : xys.set k p = xys.take k ++ p :: xys.drop (k + 1) := by
  conv => lhs; rw [h1]
  rw [List.set_append_right _ _ (by rw [List.length_take]; omega), List.length_take, Nat.min_eq_left (by omega), Nat.sub_self, hd]; rfl
 rw [h4, flatP_append]; rfl
theorem q_ldE {α : Type} (E : Enc α) {xys : List (α × E.Y)} {k o b m : Nat} {p : α × E.Y} {x : Operand} (hp : xys[k]? = some p) (ho : o = k * E.n)
 (next : R (fun h => OPS P ds rest (act n ((d, .agg ⟨E.pat p.1 p.2⟩) :: l) D pm ro) h K) B w0 kl F)
 (hx : ev l x = .pointer (some ⟨b, o, none⟩) := by rfl) (hk : autoParam (Sel (pt b (.cells (flatP E xys))) kl kl') aSel._auto_1) (hz : E.n = m := by rfl) (hn : Nat.blt d n = true := by rfl) (hg : gok l g = true := by rfl) :
 R (fun h => OPS P ds (⟨⟨some d, g, .loadN m x⟩, []⟩ :: rest) (act n l D pm ro) h K) B w0 kl F := by
 subst ho hz
 exact (d_loadN hn hg hx hk (flatP_read hp)).h next
theorem q_stE {α : Type} (E : Enc α) {xys : List (α × E.Y)} {k o b m : Nat} (p : α × E.Y) {x y : Operand} (hlt : k < xys.length) (ho : o = k * E.n)
 (next : R (fun h => OPS P ds rest (act n l D pm ro) h K) B w0 (pt b (.cells (flatP E (xys.set k p))) :: kl') F)
 (hx : ev l x = .pointer (some ⟨b, o, none⟩) := by rfl) (hy : ev l y = .agg ⟨E.pat p.1 p.2⟩ := by rfl) (hk : autoParam (Sel (pt b (.cells (flatP E xys))) kl kl') aSel._auto_1) (hz : E.n = m := by rfl) (hg : gok l g = true := by rfl) :
 R (fun h => OPS P ds (⟨⟨none, g, .store m x y⟩, []⟩ :: rest) (act n l D pm ro) h K) B w0 kl F := by
 subst ho hz
 exact (d_store (vs := E.pat p.1 p.2) hg hx (by rw [hy]; rfl) (by rw [llen_eq, E.len]; exact Nat.beq_refl _) hk (flatP_over hlt)).h next
theorem p_slG {ρ : Operand → Value} {x : Operand} {olo ohi : Option Operand} {b o f m c lo hi : Nat} {size : Nat} (hx : ρ x = .slice (some ⟨b, o, some f⟩) m c) (hf : f = 0 ∨ f = size) (hs : 0 < size) (hlo : olo = none ∧ lo = 0 ∨ ∃ t, olo = some t ∧ ρ t = .int .i64 (lo : Int)) (hhi : ohi = none ∧ hi = m ∨ ∃ t, ohi = some t ∧ ρ t = .int .i64 (hi : Int)) (h1 : lo ≤ hi) (h2 : hi ≤ c) :
 Pu P ρ (.slSl size x olo ohi none) (.slice (some ⟨b, o + lo * size, some f⟩) (hi - lo) (c - lo)) := fun h => by
 have e3 : upTo c (.int .i64 (hi : Int)) = some hi := upTo_nat h2
 have e4 : upTo hi (.int .i64 (lo : Int)) = some lo := upTo_nat h1
 have hbd : bounds? m c (mapOpt ρ olo) (mapOpt ρ ohi) none = some (lo, hi, c) := by
  rcases hlo with ⟨rfl, rfl⟩ | ⟨t, rfl, ht⟩ <;> rcases hhi with ⟨rfl, hm⟩ | ⟨t', rfl, ht'⟩
  · rw [hm]; rfl
  · show bounds? m c none (some (ρ t')) none = _
    rw [ht']
    show (match upTo c (.int .i64 (hi : Int)) with | none => none | some h => match some 0 with | none => none | some l => some (l, h, c)) = _
    rw [e3]
  · rw [hm] at e4 ⊢
    show bounds? m c (some (ρ t)) none none = _
    rw [ht]
    show (match upTo m (.int .i64 (lo : Int)) with | none => none | some l => some (l, m, c)) = _
    rw [e4]
  · show bounds? m c (some (ρ t)) (some (ρ t')) none = _
    rw [ht, ht']
    show (match upTo c (.int .i64 (hi : Int)) with | none => none | some h => match upTo h (.int .i64 (lo : Int)) with | none => none | some l => some (l, h, c)) = _
    rw [e3]
    show (match upTo hi (.int .i64 (lo : Int)) with | none => none | some l => some (l, hi, c)) = _
    rw [e4]
 have h3 : mapOpt ρ none = none := rfl
 simp only [COp.run, hx, h3, hbd]
 match f, hf with
 | 0, _ => rfl
 | k + 1, hf =>
   have hk : k + 1 = size := by
    rcases hf with h | h
    · cases h
    · exact h
   show cond (Nat.beq (Nat.succ k) size) (some (Value.slice (some ⟨b, Nat.add o (Nat.mul lo size), some (Nat.succ k)⟩) (hi - lo) (c - lo), h)) none = _
   rw [show Nat.beq (Nat.succ k) size = true by rw [show Nat.succ k = size from hk]; exact Nat.beq_refl _]
   rfl
theorem q_clear {zero : List Value} {x : Operand} {b o f m c : Nat} {cs cs' : List Value} (hv : lover cs o (zeros zero m) = some cs') (h0 : 0 < m)
 (next : R (fun h => OPS P ds rest (act n l D pm ro) h K) B w0 (pt b (.cells cs') :: kl') F)
 (hx : ev l x = .slice (some ⟨b, o, some f⟩) m c := by rfl) (hk : autoParam (Sel (pt b (.cells cs)) kl kl') aSel._auto_1) (hg : gok l g = true := by rfl) :
 R (fun h => OPS P ds (⟨⟨none, g, .clear zero x⟩, []⟩ :: rest) (act n l D pm ro) h K) B w0 kl F := fun w s => by
 obtain ⟨k, rfl⟩ : ∃ k, m = k + 1 := ⟨m - 1, by omega⟩
 exact s_run0 hg (v := .tuple #[]) (h' := w.h.set b (.cells cs')) (by simp only [COp.run, hx]; simp only [IH.storeAt, (s.at_ hk).2, hv]) (next _ ((s.sel hk).write))
theorem lover_end (cs : List Value) : lover cs cs.length [] = some cs := by
 have := lover_mid (cs1 := cs) (cs2 := []) (xs := []) (Nat.zero_le _)
 simpa using this
theorem q_appP {re : List CStep} {α : Type} {e : TypeId} {size bytes b f m : Nat} {s x : Operand} {v : Value} (E : Enc α) (xys zzs : List (α × E.Y)) (hmx : m = xys.length) (hf0 : f = 0 ∨ f = E.n) (hm : (m + zzs.length) * bytes ≤ 1073741824 ∧ (m + zzs.length) * size ≤ 1073741824 ∧ m + zzs.length ≤ 1073741824)
 (next : ∀ b' f' m', m' = (xys ++ zzs).length → (f' = 0 ∨ f' = E.n) → R (fun h => OPS P ds rest (act n ((d, .slice (some ⟨b', 0, some f'⟩) m' m') :: l) D pm ro) h K) B w0 (pt b' (.cells (flatP E (xys ++ zzs))) :: kl') F)
 (hs : ev l s = .slice (some ⟨b, 0, some f⟩) m m := by rfl) (hx : ev l x = v := by conv => lhs; whnf) (hf : autoParam (fEl E v zzs ∈ F) aMem._auto_1) (hz : E.n = size := by rfl) (hk : autoParam (Sel (pt b (.cells (flatP E xys))) kl kl') aSel._auto_1) (hn : Nat.blt d n = true := by rfl) (hg : gok l g = true := by rfl)
 (hsm : ∀ b' f' m', Same P re (ev ((d, .slice (some ⟨b', 0, some f'⟩) m' m') :: l)) ((d, .slice (some ⟨b', 0, some f'⟩) m' m') :: l) B w0 (pt b' (.cells (flatP E (xys ++ zzs))) :: kl') F := by intro _ _ _; repeat (first | exact same_nil | refine same_load rfl (by repeat (first | with_reducible exact Sel.here | with_reducible apply Sel.there | with_reducible apply Sel.app)) (by first | exact rfl | (conv => lhs; whnf)) rfl ?_ | refine same_loadF rfl (by (repeat (first | with_reducible exact List.mem_cons_self .. | with_reducible apply List.mem_cons_of_mem)); first | done | fail) (by first | exact rfl | (conv => lhs; whnf)) rfl ?_ | refine same_loadFj rfl (by (repeat (first | with_reducible exact List.mem_cons_self .. | with_reducible apply List.mem_cons_of_mem)); first | done | fail) (by first | exact rfl | (conv => lhs; whnf)) rfl ?_ | refine same_loadN rfl (by repeat (first | with_reducible exact Sel.here | with_reducible apply Sel.there | with_reducible apply Sel.app)) (by first | exact rfl | (conv => lhs; whnf)) rfl ?_ | refine same_loadNF rfl (by (repeat (first | with_reducible exact List.mem_cons_self .. | with_reducible apply List.mem_cons_of_mem)); first | done | fail) (by first | exact rfl | (conv => lhs; whnf)) rfl ?_ | refine same_loadNFj rfl (by (repeat (first | with_reducible exact List.mem_cons_self .. | with_reducible apply List.mem_cons_of_mem)); first | done | fail) (by first | exact rfl | (conv => lhs; whnf)) rfl ?_ | refine same_p (by first | ((with_reducible apply p_mv); (focus ((conv => lhs; whnf); (first | done | fail)))) | ((with_reducible apply p_asg); (focus ((conv => lhs; whnf); (first | done | fail)))) | ((with_reducible apply p_len); (focus exact rfl)) | ((with_reducible apply p_lss); (focus exact rfl); (focus exact rfl)) | ((with_reducible apply p_leq); (focus exact rfl); (focus exact rfl)) | ((with_reducible apply p_gtr); (focus exact rfl); (focus exact rfl)) | ((with_reducible apply p_geq); (focus exact rfl); (focus exact rfl)) | ((with_reducible apply p_eql); (focus exact rfl); (focus exact rfl)) | ((with_reducible apply p_neq); (focus exact rfl); (focus exact rfl)) | ((with_reducible apply p_not); (focus exact rfl)) | ((with_reducible apply p_pickT); (focus exact rfl); (focus ((conv => lhs; whnf); (first | done | fail)))) | ((with_reducible apply p_pickF); (focus exact rfl); (focus ((conv => lhs; whnf); (first | done | fail)))) | ((with_reducible apply p_extract); (focus exact rfl); (focus ((conv => lhs; whnf); (first | done | fail)))) | ((with_reducible apply p_fieldA); (focus exact rfl)) | ((with_reducible apply p_field1); (focus exact rfl); (focus ((conv => lhs; whnf); (first | done | fail)))) | ((with_reducible apply p_fieldN); (focus exact rfl); (focus ((conv => lhs; whnf); (first | done | fail)))) | ((with_reducible apply p_iface); (focus ((conv => lhs; whnf); (first | done | fail)))) | ((with_reducible apply p_tassert); (focus exact rfl)) | ((with_reducible apply p_nilck); (focus exact rfl)) | ((with_reducible apply p_nilckF); (focus exact rfl)) | with_reducible exact p_lenArr | ((with_reducible apply p_idxK); (focus exact rfl); (focus exact rfl); (focus exact rfl)) | ((with_reducible apply p_idxN); (focus exact rfl); (focus exact rfl); (focus ((omega); (first | done | fail)))) | ((with_reducible apply p_idx); (focus exact rfl); (focus exact rfl); (focus ((omega); (first | done | fail))); (focus ((omega); (first | done | fail)))) | ((with_reducible apply p_idxArr); (focus exact rfl); (focus exact rfl); (focus ((omega); (first | done | fail))); (focus ((omega); (first | done | fail)))) | ((with_reducible apply p_add); (focus exact rfl); (focus exact rfl); (focus ((omega); (first | done | fail))); (focus ((omega); (first | done | fail)))) | ((with_reducible apply p_sub); (focus exact rfl); (focus exact rfl); (focus ((omega); (first | done | fail))); (focus ((omega); (first | done | fail)))) | ((with_reducible apply p_eqlB); (focus exact rfl); (focus exact rfl); (focus ((first | assumption | kernel_rfl); (first | done | fail)))) | ((with_reducible apply p_neqB); (focus exact rfl); (focus exact rfl); (focus ((first | assumption | kernel_rfl); (first | done | fail)))) | ((with_reducible apply p_eqlS); (focus exact rfl); (focus exact rfl)) | ((with_reducible apply p_neqS); (focus exact rfl); (focus exact rfl)) | ((with_reducible apply p_mul); (focus exact rfl); (focus exact rfl); (focus ((omega); (first | done | fail))); (focus ((omega); (first | done | fail))))) rfl ?_)) :
 R (fun h => OPS P ds (⟨⟨some d, g, .append e size bytes s x⟩, re⟩ :: rest) (act n l D pm ro) h K) B w0 kl F := fun w st => by
 subst hz hmx
 have st1 := st.sel hk
 have hat : At w.h b (.cells (flatP E xys)) := st.at_ hk
 have hfl := flatP_len xys
 obtain ⟨r1, r2⟩ := fEl_read (st.facts _ hf)
 by_cases hne : zzs = []
 · subst hne
   rw [List.append_nil] at next
   rw [List.length_nil, Nat.add_zero] at hm
   have hle : ∀ {a b : Nat}, a ≤ b → Nat.ble a b = true := fun h => by rw [Nat.ble_eq]; exact h
   rw [List.append_nil] at hsm
   refine s_runR hn hg (v := .slice (some ⟨b, 0, some f⟩) xys.length xys.length) (h' := w.h.set b (.cells (flatP E xys))) ?_ (hsm b f _ ⟨w.h.set b (.cells (flatP E xys)), w.z, fun i hi => w.zlt i hi⟩ st1.write) (next b f _ rfl hf0 ⟨w.h.set b (.cells (flatP E xys)), w.z, fun i hi => w.zlt i hi⟩ st1.write)
   have e1 : w.h.storeAt b (Nat.add 0 (Nat.mul xys.length E.n)) [] = some (w.h.set b (.cells (flatP E xys))) := by
    have e2 : lover (flatP E xys) (Nat.add 0 (Nat.mul xys.length E.n)) [] = some (flatP E xys) := by
     rw [show Nat.add 0 (Nat.mul xys.length E.n) = (flatP E xys).length by rw [hfl]; exact Nat.zero_add _]
     exact lover_end _
    unfold IH.storeAt
    simp only [st1.get.1, e2]
   simp only [COp.run, hx, hs, r1, r2, appendI]
   rw [show Nat.add xys.length (List.length ([] : List (α × E.Y))) = xys.length from rfl, show flatP E ([] : List (α × E.Y)) = [] from rfl]
   rw [hle (show Nat.mul xys.length bytes ≤ small from hm.1), hle (show Nat.mul xys.length E.n ≤ small from hm.2.1), hle (show xys.length ≤ small from hm.2.2), hle (Nat.le_refl xys.length)]
   simp only [Bool.and_self, cond_true, e1]
 · obtain ⟨k, hk'⟩ : ∃ k, zzs.length = k + 1 := ⟨zzs.length - 1, by have := List.length_pos_iff.2 hne; omega⟩
   rw [hk'] at r1 r2 hm
   refine s_appendR (b := b) (o := 0) (m := xys.length) (k := k) (f := some f) (old := flatP E xys) (xs := flatP E zzs) hn hg hs (by rw [hx]; exact r1) (by rw [hx]; exact r2) ?_ (by rcases hf0 with h | h <;> rw [h]; exact .inl rfl; exact .inr rfl) hm (fun h' mv => ?_) fun h' mv => ?_
   · rw [hat.c.readAt, ldrop_eq, List.drop_zero, ltake_eq, if_pos (by omega), List.take_of_length_le (by omega)]
   · obtain ⟨w', rfl, st4, hwle⟩ := st1.move mv
     have := hsm w.h.next E.n (xys.length + (k + 1))
     rw [flatP_append] at this
     exact this w' st4
   obtain ⟨w', rfl, st4, hwle⟩ := st1.move mv
   have := next w.h.next E.n (xys.length + (k + 1)) (by rw [List.length_append, hk']) (.inr rfl)
   rw [flatP_append] at this
   exact this w' st4
theorem q_apFlat {α : Type} (E : Enc α) {xs : List α} {b f m : Nat} {Q : IH → Prop} (h : ∀ xys : List (α × E.Y), xys.map (·.1) = xs → m = xs.length → (f = 0 ∨ f = E.n) → R Q B w0 (pt b (.cells (flatP E xys)) :: kl') (fAll E xys :: F))
 (hk : autoParam (Sel (ap E (.slice (some ⟨b, 0, some f⟩) m m) xs) kl kl') aSel._auto_1) : R Q B w0 kl F := fun w s => by
 have s1 := s.sel hk
 obtain ⟨S, ⟨S1, S2, q1, q2, e⟩, h2, h3⟩ := s1.own
 rcases q1 with ⟨_, h0, _⟩ | ⟨b', o', f', cells, h4, h5, h6, h7, h8, h9⟩
 · cases h0
 injection h4 with e1 e2 e3
 injection e1 with e1
 injection e1 with e1 e4 e5
 injection e5 with e5
 subst e1 e4 e5 e2
 rw [Nat.zero_add] at h8
 obtain ⟨l, hl, hp⟩ := list_of (p := fun k (p : α × E.Y) => xs[k]? = some p.1 ∧ (∀ (j : Nat) u, (E.pat p.1 p.2)[j]? = some u → cells[0 + k * E.n + j]? = some u) ∧ ∀ f ∈ E.fs p.1 p.2, f.p w) xs.length (fun k hk => by
  obtain ⟨y, q1, q2⟩ := h9 k xs[k] (List.getElem?_eq_getElem hk)
  exact ⟨(xs[k], y), List.getElem?_eq_getElem hk, q1, q2⟩)
 have hm : l.map (·.1) = xs := by
  apply List.ext_getElem?
  intro k
  rw [List.getElem?_map]
  by_cases hk : k < xs.length
  · have hk' : k < l.length := by omega
    rw [List.getElem?_eq_getElem hk', Option.map_some, (hp k l[k] (List.getElem?_eq_getElem hk')).1]
  · rw [List.getElem?_eq_none (by omega), List.getElem?_eq_none (by omega)]; rfl
 have hfl := flatP_len (E := E) l
 have hcells : cells = flatP E l := by
  apply List.ext_getElem?
  intro j
  by_cases hj : j < l.length * E.n
  · have hn0 : 0 < E.n := by
     rcases Nat.eq_zero_or_pos E.n with h0 | h0
     · rw [h0] at hj; omega
     · exact h0
    have hd : j / E.n < l.length := by rw [Nat.div_lt_iff_lt_mul hn0]; exact hj
    have hmod := Nat.mod_lt j hn0
    have hpk := List.getElem?_eq_getElem hd
    have hu : (E.pat (l[j / E.n]).1 (l[j / E.n]).2)[j % E.n]? = some ((E.pat (l[j / E.n]).1 (l[j / E.n]).2)[j % E.n]'(by rw [E.len]; exact hmod)) := List.getElem?_eq_getElem _
    have u1 := (hp _ _ hpk).2.1 (j % E.n) _ hu
    have u2 := flatP_get hpk hu
    have hdm : j / E.n * E.n + j % E.n = j := by rw [Nat.mul_comm]; exact Nat.div_add_mod j E.n
    rw [Nat.zero_add, hdm] at u1
    rw [hdm] at u2
    rw [u1, u2]
  · rw [List.getElem?_eq_none (by rw [h8, ← hl]; omega), List.getElem?_eq_none (by omega)]
 refine h l hm rfl h5 w ⟨s1.agree, s1.le, s1.zold, ⟨S, ⟨S1, S2, ⟨h6, by rw [← hcells]; exact h7⟩, q2, e⟩, h2, h3⟩, fun g hg => ?_⟩
 rcases List.mem_cons.1 hg with rfl | hg
 · intro p hp' g hg
   obtain ⟨k, hk⟩ := List.mem_iff_getElem?.1 hp'
   exact (hp k p hk).2.2 g hg
 · exact s1.facts g hg
theorem q_frzFlat {α : Type} (E : Enc α) {xys : List (α × E.Y)} {rest' : List Value} {b f c : Nat} {Q : IH → Prop} (hf : f = 0 ∨ f = E.n) (hc : xys.length ≤ c) (h : R Q B w0 kl' (fSl E (.slice (some ⟨b, 0, some f⟩) xys.length c) (xys.map (·.1)) :: F))
 (ha : ∀ w, (∀ f ∈ F, f.p w) → (fAll E xys).p w) (hk : autoParam (Sel (pt b (.cells (flatP E xys ++ rest'))) kl kl') aSel._auto_1) : R Q B w0 kl F := fun w s => by
 have hall := ha w s.facts
 obtain ⟨w', hw, s'⟩ := (s.sel hk).freeze (fs := [⟨fun w => Fz w b (flatP E xys ++ rest'), fun a h => h.mono a⟩]) (fun w w' S hp hle hh hz g hg => by
  rw [List.mem_singleton.1 hg]
  exact ⟨hz b (by rw [hp.1]; exact List.mem_singleton.2 rfl), .inl (by rw [hh]; exact hp.2)⟩)
 have hfz : Fz w' b (flatP E xys ++ rest') := s'.facts _ (List.mem_cons_self ..)
 have hall' := ha w' fun f hf => s'.facts f (List.mem_append_right _ hf)
 rw [← hw]
 refine h w' ⟨s'.agree, s'.le, s'.zold, s'.own, fun g hg => ?_⟩
 rcases List.mem_cons.1 hg with rfl | hg
 · refine .inr ⟨b, 0, f, c, _, ⟨by rw [List.length_map], by rw [List.length_map]; exact hc, hf⟩, hfz, fun k x hk => ?_⟩
   rw [List.getElem?_map] at hk
   cases hp : xys[k]? with
   | none => rw [hp] at hk; cases hk
   | some p =>
     rw [hp] at hk
     cases hk
     refine ⟨p.2, fun j u hj => ?_, hall' p (List.mem_of_getElem? hp)⟩
     have := flatP_get hp hj
     rw [Nat.zero_add, List.getElem?_append_left (List.getElem?_eq_some_iff.1 this).1]
     exact this
 · exact s'.facts g (List.mem_append_right _ hg)
theorem q_formEr {α : Type} (E : Enc α) {v : Value} {xys : List (α × E.Y)} {Q : IH → Prop} (h0 : xys = [] → ∀ c, v = .slice none 0 c → R Q B w0 kl F) (h1 : xys = [] → ∀ i o f c, v = .slice (some ⟨i, o, some f⟩) 0 c → R Q B w0 kl F)
 (h2 : 0 < xys.length → ∀ i o f c, v = .slice (some ⟨i, o, some f⟩) xys.length c → R Q B w0 kl F) (hf : autoParam (fEl E v xys ∈ F) aMem._auto_1) : R Q B w0 kl F := fun w s => by
 rcases s.facts _ hf with ⟨e, a, c, hv, hg⟩ | ⟨i, o, f, c, cells, ⟨hv, _⟩, _⟩
 · match a, hv, hg with
   | none, hv, _ => exact h0 e c hv w s
   | some ⟨i, o, some f⟩, hv, _ => exact h1 e i o f c hv w s
 · by_cases hx : xys = []
   · subst hx; exact h1 rfl i o f c hv w s
   · exact h2 (List.length_pos_iff.2 hx) i o f c hv w s
theorem q_apForm {α : Type} {E : Enc α} {v : Value} {xs : List α} {Q : IH → Prop} (h : ∀ a, v = .slice a xs.length xs.length → (xs = [] → a = none ∨ ∃ b o, a = some ⟨b, o, some 0⟩ ∨ a = some ⟨b, o, some E.n⟩) → R Q B w0 kl F) (hk : autoParam (Sel (ap E v xs) kl kl') aSel._auto_1) : R Q B w0 kl F := fun w s => by
 obtain ⟨S, ⟨S1, S2, q1, q2, e⟩, h2, h3⟩ := (s.sel hk).own
 rcases q1 with ⟨rfl, h1, _⟩ | ⟨b, o, f, cells, h4, h5, _⟩
 · exact h none h1 (fun _ => .inl rfl) w s
 · refine h _ h4 (fun _ => .inr ⟨b, o, ?_⟩) w s
   rcases h5 with h5 | h5
   · subst h5; exact .inl rfl
   · subst h5; exact .inr rfl
theorem q_peekE {α : Type} (E : Enc α) {x i : Operand} {v : Value} {xs : List α} (k : Nat) (z : α) {kk : IntKind} {d2 m : Nat} {g2 : Option (Tmp × Bool)} (hz : xs[k]? = some z)
 (next : ∀ b o (y : E.Y), R (fun h => OPS P ds rest (act n ((d2, .agg ⟨E.pat z y⟩) :: (d, .pointer (some ⟨b, o, none⟩)) :: l) D pm ro) h K) B w0 kl (E.fs z y ++ F))
 (hn : Nat.blt d n = true := by rfl) (hg : gok l g = true := by rfl) (hn2 : Nat.blt d2 n = true := by rfl) (hg2 : ∀ u, gok ((d, u) :: l) g2 = true := by intro _; rfl) (hx : ev l x = v := by conv => lhs; whnf) (hi : ev l i = .int kk (k : Int) := by rfl)
 (hk : autoParam (Sel (ap E v xs) kl kl') aSel._auto_1) (hm : E.n = m := by rfl) :
 R (fun h => OPS P ds (⟨⟨some d, g, .idxSl m x i⟩, []⟩ :: ⟨⟨some d2, g2, .loadN m (.tmp d)⟩, []⟩ :: rest) (act n l D pm ro) h K) B w0 kl F := by
 subst hm
 intro w s
 have s1 := s.sel hk
 obtain ⟨S, ⟨S1, S2, p, p2, e⟩, h2, h3⟩ := s1.own
 have hlt := (List.getElem?_eq_some_iff.1 hz).1
 rcases p with ⟨h, _⟩ | ⟨b, o, f, cells, e1, hf, e2, hb, hcl, hel⟩
 · rw [h] at hz; cases hz
 · subst e1
   obtain ⟨y, u1, u2⟩ := hel k z hz
   have hm : (k + 1) * E.n ≤ xs.length * E.n := Nat.mul_le_mul_right _ hlt
   rw [Nat.add_mul, Nat.one_mul] at hm
   have hc : ltake (ldrop cells (o + (k : Int).toNat * E.n)) E.n = some (E.pat z y) := by
    rw [Int.toNat_natCast, ldrop_eq, ltake_eq, if_pos (by rw [List.length_drop]; omega)]
    congr 1
    apply List.ext_getElem?
    intro j
    rw [List.getElem?_take]
    by_cases hj : j < E.n
    · have hu : (E.pat z y)[j]? = some ((E.pat z y)[j]'(by rw [E.len]; exact hj)) := List.getElem?_eq_getElem _
      rw [if_pos hj, List.getElem?_drop, hu]
      exact u1 j _ hu
    · rw [if_neg hj, List.getElem?_eq_none (by rw [E.len]; omega)]
   refine s_idxSl hn hg hx hi (by omega) (by omega) ?_
   have hbS : b ∈ S := by rw [e, e2]; simp
   refine s_loadN hn2 (hg2 _) (by show lk _ d = _; simp [lk]) ⟨(h3 b hbS).2.1, hb⟩ hc (next _ _ y w ⟨s.agree, s.le, s.zold, s.own, fun f hf => ?_⟩)
   rcases List.mem_append.1 hf with hf | hf
   · exact u2 f hf
   · exact s.facts f hf
theorem p_remU {ρ : Operand → Value} {x y : Operand} {t : TypeId} {a b : Nat} (hx : ρ x = .int .u64 (a : Int)) (hy : ρ y = .int .u64 (b : Int)) (hb : 0 < b) : Pu P ρ (.bin .rem t x y) (.int .u64 ((a % b : Nat) : Int)) := fun h => by
 have hv : pureRun P (binOp .rem t (.int .u64 (a : Int)) (.int .u64 (b : Int))) = some (.int .u64 ((a % b : Nat) : Int)) := by
  show pureRun P (Op.intDiv .rem .u64 a b) = _
  unfold Op.intDiv
  rw [if_neg (by omega)]
  show some (Value.int .u64 ((a : Int).tmod (b : Int))) = _
  rw [show (a : Int).tmod (b : Int) = ((a % b : Nat) : Int) from (Int.ofNat_tmod a b).symm]
 have h1 : pureV P (do eqGuard .rem t x y (.int .u64 (a : Int)) (.int .u64 (b : Int)); binOp .rem t (.int .u64 (a : Int)) (.int .u64 (b : Int))) = some (.int .u64 ((a % b : Nat) : Int)) := by
  unfold pureV
  rw [pureRun_bind, guard_pure (by intro c e; cases e) (by intro e; cases e)]
  simp only [Option.bind_some, hv]; rfl
 have h2 : binI P .rem t x y (.int .u64 (a : Int)) (.int .u64 (b : Int)) = some (.int .u64 ((a % b : Nat) : Int)) := by
  unfold binI
  have : (match sameK .u64 .u64 with | true => intI .rem .u64 (a : Int) (b : Int) | false => none) = none := rfl
  simp only [sameK, addrFree, Bool.and_self, cond]
  exact h1
 simp only [COp.run, hx, hy, h2]
end Go.Ideal

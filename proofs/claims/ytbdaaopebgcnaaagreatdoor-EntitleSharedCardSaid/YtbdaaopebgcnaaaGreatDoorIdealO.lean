/-
  The ideal machine, 72: conversions between integers, shifts of unsigned ones; arrays of numbers as keys.
-/
import Derived.Test.YtbdaaopebgcnaaaGreatDoorIdealN
import Derived.Test.YtbdaaopebgcnaaaGreatDoorIdealK
import Derived.Test.YtbdaaopebgcnaaaGreatDoorIdealG
import Derived.Test.YtbdaaopebgcnaaaGreatDoorIdealF
set_option linter.unusedSimpArgs false
set_option linter.unusedVariables false
set_option linter.unusedSectionVars false
namespace Go.Ideal
variable {P : Program}
end Go.Ideal
namespace Go.Ideal
section
variable {P : Program}
variable {ds : List Tmp} {rest : List PStep} {n : Nat} {l : List (Nat × Value)} {D : List Deferred} {pm : Option FrameMode} {ro : Option Nat} {h : IH} {K : KO} {d : Nat} {g : Option (Tmp × Bool)}
end
section
variable {P : Program}
variable {ρ : Operand → Value}
variable {B : List Nat} {w0 : Wd} {kl kl' : List OA} {F : List Fact} {a : IAct} {K : KO}
variable {y : CCode} {i j m0 : Nat} {I : Nat → IAct → IH → Prop} {ch : List PanicEntry}
variable {B : List Nat} {w0 : Wd} {kl kl' : List OA} {F : List Fact} {K : KO} {ds : List Tmp} {rest : List PStep} {n : Nat} {l : List (Nat × Value)} {D : List Deferred} {pm : Option FrameMode} {ro : Option Nat} {d : Nat} {g : Option (Tmp × Bool)}
end
section
variable {P : Program} {B : List Nat} {w0 : Wd} {kl kl' klr : List OA} {F : List Fact} {K : KO} {n : Nat} {l : List (Nat × Value)} {D : List Deferred} {pm : Option FrameMode} {ro : Option Nat}
end
end Go.Ideal
namespace Go.Ideal
variable {P : Program}
section
variable {α κ : Type} [DecidableEq κ] {toV : κ → Value} {E : Enc α}
variable {B : List Nat} {w0 : Wd} {kl kl' klr k1 k2 : List OA} {F : List Fact} {Q : IH → Prop} {b : Nat} {m : List (κ × List α)}
end
end Go.Ideal
namespace Go.Ideal
variable {P : Program} {B : List Nat} {w0 : Wd} {kl kl' klr : List OA} {F : List Fact} {K : KO} {ds : List Tmp} {rest : List PStep} {n : Nat} {l : List (Nat × Value)} {D : List Deferred} {pm : Option FrameMode} {ro : Option Nat} {d : Nat} {g : Option (Tmp × Bool)}
end Go.Ideal
namespace Go.Ideal
variable {P : Program} {B : List Nat} {w0 : Wd} {kl kl' klr k1 k2 : List OA} {F : List Fact} {Q : IH → Prop}
section
variable {β : Type} (A : Value → β → OA)
end
end Go.Ideal
namespace Go.Ideal
variable {P : Program}
theorem FnC.facts {Y : Type} {fn : Fn} {args cap : List Value} {kl : List OA} {F F2 : List Fact} {val : Y → Value} {kl' : Y → List OA} {fs : Y → List Fact} {pr : Y → Prop} (h : FnC P fn args cap kl F val kl' fs pr) (hF : ∀ f ∈ F, f ∈ F2) : FnC P fn args cap kl F2 val kl' fs pr :=
 fun B w s => h B w ⟨s.agree, s.le, s.zold, s.own, fun f hf => s.facts f (hF f hf)⟩
section
variable {B : List Nat} {w0 : Wd} {kl kl' klr : List OA} {F : List Fact} {K : KO} {n : Nat} {l : List (Nat × Value)} {D : List Deferred} {pm : Option FrameMode} {ro : Option Nat}
end
section
variable {B : List Nat} {w0 : Wd} {kl : List OA} {F : List Fact}
end
end Go.Ideal
namespace Go.Ideal
variable {P : Program} {B : List Nat} {w0 : Wd} {kl kl' klr : List OA} {F : List Fact} {K : KO} {ds : List Tmp} {rest : List PStep} {n : Nat} {l : List (Nat × Value)} {D : List Deferred} {pm : Option FrameMode} {ro : Option Nat} {d : Nat} {g : Option (Tmp × Bool)}
end Go.Ideal
namespace Go.Ideal
open Go.RowKit Go.WideShapes Go.ChangeShapes
variable {P : Program}
def globL (n : Nat) : Lay := (List.range n).map fun g => (some ⟨g, 0, 0, 0, 0⟩, none)
theorem globL_get {n i : Nat} (h : i < n) : (globL n)[i]? = some (some ⟨i, 0, 0, 0, 0⟩, none) := by
 unfold globL
 rw [List.getElem?_map, List.getElem?_range h]; rfl
theorem globL_len (n : Nat) : (globL n).length = n := by unfold globL; rw [List.length_map, List.length_range]
theorem world_callG (hmix : P.follows .mixedOrders = true) {f : FuncId} (fn : Func) (hfn : P.funcs[f]? = some fn) (hbody : fn.body.isNone = false) (hname : (fn.name == "runtime.NumGoroutine") = false) {args args' : List Value} {L : Lay} {w : World} {v : Value} (hgok : GOK P (injL L))
 (hL : ∀ (i : Nat) g cs, L[i]? = some (some g, some cs) → LeafOK L w g cs) (hargs : VRs (injL L) args args') (hv : addrFree v = true)
 (hc : CALL P ⟨.func f, args, [], none⟩ (heapL L) (fun r pm h' => pm = none ∧ r = .ok v ∧ Agree (heapL L) h')) :
 Calls P f ⟨args'⟩ w (fun e w' => e = .returned v ∧ Below w.heap.size w w') := by
 have hM := call_sound hmix hc
 have hW : WR P (injL L) (heapL L) w := heapL_WR hL
 obtain ⟨nx, F0, n1, n2, n3⟩ := hM (injL L) w (.func f) args' [] hgok hW (.func f) hargs .nil
 have hnx : nx = .enter f ⟨args'⟩ := by
  have hcall : (callFunc f ⟨args'⟩).run P w = .ok (.enter f ⟨args'⟩) w := by
   simp only [callFunc, Sem.run_bind, run_program, Result.andThen_ok, hfn, hname, hbody, Bool.false_eq_true, if_false, Sem.run_pure]
  have e : (⟨args'⟩ : Array Value) ++ (⟨[]⟩ : Array Value) = ⟨args'⟩ := by apply Array.ext'; simp
  have n1 : (invoke (.fn (.func f) ⟨[]⟩) ⟨args'⟩).run P w = .ok nx w := n1
  simp only [invoke, e] at n1
  rw [hcall] at n1
  cases n1
  rfl
 subst hnx
 have hF0 : F0 = Frame.enter P f ⟨args'⟩ .normal := by
  have : entry P .normal (.enter f ⟨args'⟩) = some (Frame.enter P f ⟨args'⟩ .normal) := rfl
  have n2 : entry P .normal (.enter f ⟨args'⟩) = some F0 := n2
  rw [this] at n2
  exact (Option.some.inj n2).symm
 subst hF0
 intro cs
 obtain ⟨r, pm', h', β', w', r', cs1, q1, q2, q3, q4, q5, q6⟩ := n3 cs (by intro m hm; cases hm)
 obtain ⟨hp, rfl, hag⟩ := q1
 cases q5
 cases q4 with
 | @ok v v' hvr =>
   have := hvr.eq_of_free hv
   subst this
   rcases q6 with ⟨f1, a1, F1, e1, e2, e3, e4, e5⟩ | ⟨⟨_, l, e1⟩, _⟩
   · cases e1
     refine ⟨.returned v', w', F1, ⟨rfl, ?_⟩, e2, e3, ?_⟩
     · refine ⟨q3.os, q3.tape, q3.output, q3.size, fun k hk => ?_⟩
       by_cases hx : ∀ i g, injL L i = some g → (heapL L).get i ≠ none → g.b ≠ k
       · exact q3.keep k hk hx
       · have hx : ∃ i g, injL L i = some g ∧ (heapL L).get i ≠ none ∧ g.b = k := by
          apply Classical.byContradiction
          intro hc
          exact hx fun i g hi hg hb => hc ⟨i, g, hi, hg, hb⟩
         obtain ⟨i, g, hi, hg, rfl⟩ := hx
         have hin := hW.dom i g hi
         exact q3.lowk i g (by rw [hag.low (Nat.le_refl _)]; exact hin) hin hi hg hk
     · obtain ⟨t1, t2, fn, t3, t4⟩ := e5
       exact ⟨t1, t2, e4, fn, t3, t4⟩
   · cases e1
section
variable {H : Type} {enc : TypeId × Value → H} {W : World}
theorem law_callsG (hmix : P.follows .mixedOrders = true) {f : FuncId} (fn : Func) (hfn : P.funcs[f]? = some fn) (hbody : fn.body.isNone = false) (hname : (fn.name == "runtime.NumGoroutine") = false) {K : TypeId → Prop}
 (hK : ∀ t, K t → PlainT P K t) {ts : List TypeId} {vs : List Value} {ds : List (DataW H)} {ps : List MemPlace} (hT : ∀ t ∈ ts, K t) (hok : ∀ (j : Nat) t v, ts[j]? = some t → vs[j]? = some v → Value.okWide P W .any 0 t v)
 (hA : DataW.TrodAll enc P W 0 (fun _ => true) true ts vs ds ps)
 (hlaw : ∀ (w : Wd) (vs' : List Value), P.globals.size ≤ w.h.next → (∀ i, i < w.h.next → w.z i) → vs'.length = vs.length → (∀ (j : Nat) t v d, ts[j]? = some t → vs'[j]? = some v → ds[j]? = some d → ArgE P w t v d) → ∃ F, (∀ f ∈ F, f.p w) ∧ FnP P f vs' F (.bool true)) :
 Calls P f ⟨vs⟩ W (fun e w' => e = .returned (.bool true) ∧ Below W.heap.size W w') := by
 obtain ⟨M, vs', h1, h2, h3⟩ := args_ok hK hT hok hA (globL P.globals.size)
 have hlG := globL_len P.globals.size
 refine world_callG hmix fn hfn hbody hname (L := globL P.globals.size ++ M) (args := vs') (fun g hg => ⟨⟨g, 0, 0, 0, 0⟩, ?_, rfl, rfl⟩) (fun i g cs hi => ?_) h1 rfl ?_
 · unfold injL
   rw [List.getElem?_append_left (by omega), globL_get hg]; rfl
 · by_cases hlt : i < P.globals.size
   · rw [List.getElem?_append_left (by omega), globL_get hlt] at hi
     cases hi
   · exact h3 i g cs (by omega) hi
 have hlen : vs'.length = vs.length := by
  have : ∀ {a b : List Value}, VRs (injL (globL P.globals.size ++ M)) a b → a.length = b.length := by
   intro a
   induction a with
   | nil => intro b h; cases h; rfl
   | cons x a ih => intro b h; cases h with | cons q r => simp [ih r]
  exact this h1
 obtain ⟨F, hF, hfn'⟩ := hlaw (wdL (globL P.globals.size ++ M)) vs' (by show _ ≤ (globL P.globals.size ++ M).length; rw [List.length_append]; omega) (fun i hi => hi) hlen (fun j t v d ht hv hd => by
  obtain ⟨v0, e, hvr⟩ := argEs (ts := ts) h1 j v hv
  exact argE_of rfl (h2 j t v d ht hv hd) hvr (hok j t v0 ht e))
 have st : St [] (wdL (globL P.globals.size ++ M)) [] F (wdL (globL P.globals.size ++ M)) := ⟨⟨Nat.le_refl _, fun _ _ _ => rfl, fun _ _ => rfl⟩, Wd.Le.refl _, fun i _ hz => .inl hz, ⟨[], rfl, List.nodup_nil, fun i hi => by cases hi⟩, hF⟩
 refine .conseq _ (hfn' [] (wdL (globL P.globals.size ++ M)) st) ?_
 rintro r pm h' ⟨rfl, w', y, rfl, s, rfl, _⟩
 exact ⟨rfl, rfl, ⟨s.agree.next, fun i hi => s.agree.get i hi (by simp), fun hl => s.agree.low hl (by simp)⟩⟩
end
def fNxt (n : Nat) : Fact := ⟨fun w => n ≤ w.h.next, fun a h => Nat.le_trans h a.next⟩
theorem fn_closedN {f : FuncId} {v : Value} {n : Nat} (hs : ∀ h : IH, n ≤ h.next → CALL P ⟨.func f, [], [], none⟩ h (fun r pm h' => pm = none ∧ r = .ok v ∧ h' = h)) : FnP P f [] [fNxt n] v := fun B w s =>
 .conseq _ (hs w.h (s.facts (fNxt n) (List.mem_singleton.2 rfl))) (by rintro r pm h' ⟨rfl, rfl, rfl⟩; exact ⟨rfl, w, (), rfl, ⟨s.agree, s.le, s.zold, s.own, fun f h => by cases h⟩, rfl, trivial⟩)
end Go.Ideal
namespace Go.Ideal
variable {P : Program}
def addrFreeT : Value → Bool
 | .tuple ⟨c :: cs⟩ => addrFree c && cs.all addrFree
 | .tuple _ => false
 | v => addrFree v
theorem VRs.free_all {β : Inj} : ∀ {l : List Value}, l.all addrFree = true → VRs β l l
 | [], _ => .nil
 | v :: l, h => by
   rw [List.all_cons, Bool.and_eq_true] at h
   exact .cons (VR.free h.1) (VRs.free_all h.2)
theorem VRs.eq_all {β : Inj} : ∀ {l l' : List Value}, VRs β l l' → l.all addrFree = true → l' = l
 | _, _, .nil, _ => rfl
 | _, _, .cons h1 h2, h => by
   rw [List.all_cons, Bool.and_eq_true] at h
   rw [h1.eq_of_free h.1, VRs.eq_all h2 h.2]
theorem VR.freeT {β : Inj} {v : Value} (h : addrFreeT v = true) : VR β v v := by
 unfold addrFreeT at h
 split at h
 · rename_i c cs
   exact .tuple (VRs.free_all (by rw [List.all_cons]; exact h))
 · cases h
 · exact VR.free h
theorem VR.eq_of_freeT {β : Inj} {v v' : Value} (hr : VR β v v') (h : addrFreeT v = true) : v' = v := by
 unfold addrFreeT at h
 split at h
 · rename_i c cs
   cases hr with
   | tuple hl => rw [VRs.eq_all hl (by rw [List.all_cons]; exact h)]
 · cases h
 · exact hr.eq_of_free h
theorem call_memoT {q : Req} {h : IH} {K : KR} (h0 : IH) (v : Value) (hv : addrFreeT v = true) (hq : q.pm = none) (hfn : belowV h0.next (.func q.fn ⟨q.args⟩ ⟨q.captured⟩) = true)
 (hgl : P.globals.size ≤ h0.next)
 (hsub : ∀ i o, h0.get i = some o → i < h0.next ∧ h.get i = some o ∧ belowO h0.next o = true)
 (M : KR) (hc : MCALL P q h0 M) (h1 : ∀ r pm h', M r pm h' → pm = none ∧ r = .ok v ∧ h'.low = h0.next)
 (hk : K (.ok v) none h) : MCALL P q h K := by
 intro β w fn' args' cap' hG hW hfr ha hcap
 have hb0 : ∀ i g, β.cut h0.next i = some g → i < h0.next ∧ β i = some g := fun i g hg => by
  simp only [Inj.cut] at hg
  split at hg
  · rename_i hi; exact ⟨hi, hg⟩
  · cases hg
 have hb1 : ∀ i, i < h0.next → β.cut h0.next i = β i := fun i hi => Inj.cut_lt hi
 have hG0 : GOK P (β.cut h0.next) := fun g hg => by
  obtain ⟨i, h1, h2⟩ := hG g hg
  exact ⟨i, by rw [hb1 g (Nat.lt_of_lt_of_le hg hgl)]; exact h1, h2⟩
 have hlive : ∀ i, h0.get i ≠ none → h.get i ≠ none := fun i hi => by
  cases e : h0.get i with
  | none => exact absurd e hi
  | some o => rw [(hsub i o e).2.1]; simp
 have hW0 : WR P (β.cut h0.next) h0 w := by
  refine ⟨fun i g hg => (hb0 i g hg).1, fun i o ho => (hsub i o ho).1, ?_, ?_⟩
  · intro i g o hg ho
    obtain ⟨_, hget, hcl⟩ := hsub i o ho
    exact (hW.obj i g _ (hb0 i g hg).2 hget).cut hcl
  · intro i j g k hg hk hi hj hr he
    have pass : ∀ x, h0.get x ≠ none → (∀ cs, h0.get x ≠ some (.roc cs)) → ∀ cs, h.get x ≠ some (.roc cs) := fun x hx q cs e => by
     cases e0 : h0.get x with
     | none => exact hx e0
     | some o => rw [(hsub x o e0).2.1] at e; exact q cs (by rw [e0]; exact e)
    exact hW.inj i j g k (hb0 i g hg).2 (hb0 j k hk).2 (hlive i hi) (hlive j hj) (hr.imp (pass _ hi) (pass _ hj)) he
 have hfv := (VR.func hfr ha hcap).cut hfn
 cases hfv with
 | func hfr0 ha0 hcap0 =>
 obtain ⟨nx, F0, n1, n2, n3⟩ := hc (β.cut h0.next) w fn' args' cap' hG0 hW0 hfr0 ha0 hcap0
 refine ⟨nx, F0, n1, n2, fun cs0 hcs0 => ?_⟩
 obtain ⟨r, pm', h', β', w', r', cs1, q1, q2, q3, q4, q5, q6⟩ := n3 cs0 (by intro m hm; rw [hq] at hm; cases hm)
 obtain ⟨hpm, rfl, hlow'⟩ := h1 r pm' h' q1
 subst hpm
 cases q4 with
 | @ok v v' hvr =>
   have hvv := VR.eq_of_freeT hvr hv
   subst hvv
   have hWn : WR P β h w' := by
    refine ⟨hW.dom, hW.live, ?_, hW.inj⟩
    intro i g o hg ho
    have hor := hW.obj i g o hg ho
    by_cases hb : ∀ j k, β.cut h0.next j = some k → h0.get j ≠ none → k.b ≠ g.b
    · exact hor.congr (q3.keep g.b hor.lt hb)
    · have hb : ∃ j k, β.cut h0.next j = some k ∧ h0.get j ≠ none ∧ k.b = g.b := by
       apply Classical.byContradiction
       intro hc
       exact hb fun j k hk hj hkb => hc ⟨j, k, hk, hj, hkb⟩
      obtain ⟨j, k, hk, hj, hkb⟩ := hb
      cases e : h0.get j with
      | none => exact absurd e hj
      | some o0 =>
        obtain ⟨hjn, hget, hcl⟩ := hsub j o0 e
        have hij : i = j := hW.inj i j g k hg (hb0 j k hk).2 (by rw [ho]; simp) (by rw [hget]; simp) (.inr (by rw [hget]; intro cs e; cases e; cases hcl)) hkb.symm
        subst hij
        rw [hget] at ho
        cases ho
        have hgk : g = k := by have := (hb0 i k hk).2; rw [hg] at this; cases this; rfl
        subst hgk
        have hk' : h'.get i = some o := by rw [q3.kept i (by rw [hlow']; exact hjn) hjn]; exact e
        have hor' := q2.obj i g _ (by rw [q3.agree i hjn]; exact hk) hk'
        exact ((hor.cut hcl).restrict (q3.le hW0.dom) hor').mono (Inj.cut_le _ _)
   have hE : Eff β h w β h w' :=
    { agree := fun _ _ => rfl
      next := Nat.le_refl _
      alive := fun _ _ hn => hn
      hid := fun _ _ _ => rfl
      low := Nat.le_refl _
      kept := fun _ _ _ => rfl
      os := q3.os, tape := q3.tape, output := q3.output, size := q3.size
      keep := fun b hb hno => q3.keep b hb fun i g hg hn => hno i g (hb0 i g hg).2 (hlive i hn)
      fresh := fun i g hg hi => absurd (hW.dom i g hg) (by omega)
      lowk := fun i g _ hi hg hn hgb => by
       by_cases hb : ∀ j k, β.cut h0.next j = some k → h0.get j ≠ none → k.b ≠ g.b
       · exact q3.keep g.b hgb hb
       · have hb : ∃ j k, β.cut h0.next j = some k ∧ h0.get j ≠ none ∧ k.b = g.b := by
          apply Classical.byContradiction
          intro hc
          exact hb fun j k hk hj hkb => hc ⟨j, k, hk, hj, hkb⟩
         obtain ⟨j, k, hk, hj, hkb⟩ := hb
         have hjn := (hb0 j k hk).1
         rw [← hkb]
         exact q3.lowk j k (by rw [hlow']; exact hjn) hjn hk hj (by rw [hkb]; exact hgb) }
   exact ⟨_, none, h, β, w', .returned v', cs1, hk, hWn, hE, .ok (VR.freeT hv), by rw [hq] at q5 ⊢; cases q5; exact .none _, by
    rcases q6 with h6 | h6
    · exact .inl h6
    · exact .inr h6⟩
theorem known_okT {P : Program} (hmix : P.follows .mixedOrders = true) {l : List (Nat × IObj)} {n fn : Nat} {args : List Value} {v : Value} (hv : addrFreeT v = true) (hb : belowVs n args = true) (hl : l.all (fun p => Nat.blt p.1 n && belowO n p.2) = true)
 (hgl : P.globals.size ≤ n) (hc : CALL P ⟨.func fn, args, [], none⟩ ⟨heapT l, n, n⟩ (fun r pm h' => pm = none ∧ r = .ok v ∧ h'.low = n))
 {q : Req} {h : IH} {v' : Value} {h' : IH} (hk : known l n fn args v q h = some (v', h')) : CALL P q h (fun r pm h2 => r = .ok v' ∧ pm = none ∧ h2 = h') := by
 unfold known at hk
 split at hk
 · rename_i f as
   cases hcd : (Nat.beq f fn && sameV 5 (.tuple ⟨args⟩) (.tuple ⟨as⟩) && Nat.ble n h.next && hasO l h) with
   | false => rw [hcd] at hk; cases hk
   | true =>
     rw [hcd] at hk
     simp only [cond, Option.some.injEq, Prod.mk.injEq] at hk
     obtain ⟨rfl, rfl⟩ := hk
     simp only [Bool.and_eq_true] at hcd
     obtain ⟨⟨⟨h1, h2⟩, h3⟩, h4⟩ := hcd
     have h1 := beq_t h1
     subst h1
     have h2 := sameV_eq _ _ _ h2
     injection h2 with h2
     injection h2 with h2
     subst h2
     refine .real (call_memoT ⟨heapT l, n, n⟩ v hv rfl ?_ hgl ?_ _ (call_sound hmix hc) (fun r pm h' h => h) ⟨rfl, rfl, rfl⟩)
     · show belowV n (.func (.func f) ⟨args⟩ ⟨[]⟩) = true
       simp [belowV, belowVs, hb]
     · intro i o ho
       rcases heapT_get l i with e | ⟨o', e1, e2⟩
       · exact absurd (ho.symm.trans e) (by simp)
       · have : o' = o := by have := e2.symm.trans ho; simpa using this
         subst this
         rw [List.all_eq_true] at hl
         have := hl _ e1
         simp only [Bool.and_eq_true] at this
         exact ⟨blt_lt this.1, hasO_get h4 i o' e1, this.2⟩
 · cases hk
end Go.Ideal

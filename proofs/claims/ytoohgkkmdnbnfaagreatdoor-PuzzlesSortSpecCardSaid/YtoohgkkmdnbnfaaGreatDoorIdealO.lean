/-
  The ideal machine, 72: conversions between integers, shifts of unsigned ones; arrays of numbers as keys.
-/
import Derived.Test.YtoohgkkmdnbnfaaGreatDoorIdealN
import Derived.Test.YtoohgkkmdnbnfaaGreatDoorIdealK
import Derived.Test.YtoohgkkmdnbnfaaGreatDoorIdealG
import Derived.Test.YtoohgkkmdnbnfaaGreatDoorIdealF
set_option linter.unusedSimpArgs false
set_option linter.unusedVariables false
set_option linter.unusedSectionVars false
namespace Go.Ideal
variable {P : Program}
theorem p_convI {ρ : Operand → Value} {src dst : TypeId} {x : Operand} {kk k : IntKind} {n m : Int} {ds : TypeDesc} (hs : P.underlying src = some ds) (hd : P.underlying dst = some (.int k)) (hx : ρ x = .int kk n) (hw : k.wrap n = m) : Pu P ρ (.conv src dst x) (.int k m) := fun h => by
 have h1 : pureRun P (convert src dst (.int kk n)) = some (.int k m) := by
  unfold convert
  rw [pureRun_bind, pr_under hs]
  simp only [Option.bind_some]
  rw [pureRun_bind, pr_under hd]
  simp only [Option.bind_some]
  rw [← hw]; rfl
 simp only [COp.run, hx, pureV, h1]; rfl
theorem wrapU {a : Nat} (h : a < 18446744073709551616) : IntKind.u64.wrap (a : Int) = a := by
 show (let m := (a : Int) % (2 ^ 64 : Int); if false && m ≥ (2 ^ 63 : Int) then m - (2 ^ 64 : Int) else m) = _
 simp only [Bool.false_and, Bool.false_eq_true, if_false]
 rw [Int.emod_eq_of_lt (by omega) (by simpa using (by omega : (a : Int) < 18446744073709551616))]
end Go.Ideal
namespace Go.Ideal
section
variable {P : Program}
variable {ds : List Tmp} {rest : List PStep} {n : Nat} {l : List (Nat × Value)} {D : List Deferred} {pm : Option FrameMode} {ro : Option Nat} {h : IH} {K : KO} {d : Nat} {g : Option (Tmp × Bool)}
theorem s_runR {op : COp} {v : Value} {h' : IH} {re : List CStep} (hn : Nat.blt d n = true) (hg : gok l g = true) (hr : op.run P (ev l) h = some (v, h'))
 (hsm : ∀ q ∈ re, ∃ u h2, q.op.run P (ev ((d, v) :: l)) h' = some (u, h2) ∧ ∀ d', q.dst = some d' → lk ((d, v) :: l) d' = u)
 (next : OPS P ds rest (act n ((d, v) :: l) D pm ro) h' K) : OPS P ds (⟨⟨some d, g, op⟩, re⟩ :: rest) (act n l D pm ro) h K :=
 .det (wants_gok hg) v h' (by rw [eval_act]; exact hr) (fun q hq _ => by
  obtain ⟨u, h2, e1, e2⟩ := hsm q hq
  rw [put_act hn]
  exact ⟨u, h2, by rw [eval_act]; exact e1, fun d' hd => by rw [← e2 d' hd]; exact tget_envT _ _⟩) (by rw [put_act hn]; exact next)
theorem s_appendR {re : List CStep} {e : TypeId} {size bytes b o m k : Nat} {f : Option Nat} {s x : Operand} {old xs : List Value} (hn : Nat.blt d n = true) (hg : gok l g = true)
 (hs : ev l s = .slice (some ⟨b, o, f⟩) m m) (hx : lenI (ev l x) = some (k + 1)) (hxs : firstI size (k + 1) (ev l x) h = some xs) (hold : h.readAt b o (m * size) = some old)
 (hf : f = some 0 ∨ f = some size) (hm : (m + (k + 1)) * bytes ≤ 1073741824 ∧ (m + (k + 1)) * size ≤ 1073741824 ∧ m + (k + 1) ≤ 1073741824)
 (hsm : ∀ h', Moved h h' b (.cells (old ++ xs)) → ∀ q ∈ re, ∃ u h2, q.op.run P (ev ((d, .slice (some ⟨h.next, 0, some size⟩) (m + (k + 1)) (m + (k + 1))) :: l)) h' = some (u, h2) ∧ ∀ d', q.dst = some d' → lk ((d, .slice (some ⟨h.next, 0, some size⟩) (m + (k + 1)) (m + (k + 1))) :: l) d' = u)
 (next : ∀ h', Moved h h' b (.cells (old ++ xs)) → OPS P ds rest (act n ((d, .slice (some ⟨h.next, 0, some size⟩) (m + (k + 1)) (m + (k + 1))) :: l) D pm ro) h' K) :
 OPS P ds (⟨⟨some d, g, .append e size bytes s x⟩, re⟩ :: rest) (act n l D pm ro) h K := by
 have hle : ∀ {a b : Nat}, a ≤ b → Nat.ble a b = true := fun h => by rw [Nat.ble_eq]; exact h
 have hlt : Nat.ble (m + (k + 1)) m = false := by
  cases hb : Nat.ble (m + (k + 1)) m with
  | false => rfl
  | true => have := Nat.le_of_ble_eq_true hb; omega
 have hc : (Nat.ble (Nat.mul (m + (k + 1)) bytes) small && Nat.ble (Nat.mul (m + (k + 1)) size) small && Nat.ble (m + (k + 1)) small) = true := by
  rw [hle (show Nat.mul (m + (k + 1)) bytes ≤ small from hm.1), hle (show Nat.mul (m + (k + 1)) size ≤ small from hm.2.1), hle (show m + (k + 1) ≤ small from hm.2.2)]; rfl
 have hrun : ∃ h', (COp.append e size bytes s x).run P (ev l) h = some (.slice (some ⟨h.next, 0, some size⟩) (m + (k + 1)) (m + (k + 1)), h') ∧ Moved h h' b (.cells (old ++ xs)) := by
  have hxs' : firstX size (k + 1) (ev l x) h = some xs := hxs
  simp only [COp.run, hx, hxs', hs, appendI]
  have e1 : firstI size m (.slice (some ⟨b, o, f⟩) m m) h = some old := hold
  show ∃ h', (cond (Nat.ble (Nat.mul (m + (k + 1)) bytes) small && Nat.ble (Nat.mul (m + (k + 1)) size) small && Nat.ble (m + (k + 1)) small) _ _) = _ ∧ _
  rw [hc]
  show ∃ h', (cond (Nat.ble (m + (k + 1)) m) _ _) = _ ∧ _
  rw [hlt]
  simp only [cond, e1]
  rcases hf with rfl | rfl
  · refine ⟨_, rfl, ?_⟩
    exact ⟨rfl, fun i hi _ => by rw [IH.get_new, if_neg (by omega)], ⟨Nat.lt_succ_self _, by rw [IH.get_new, if_pos rfl, lapp_eq]⟩, fun _ => rfl⟩
  · cases size with
    | zero =>
      refine ⟨_, rfl, ?_⟩
      exact ⟨rfl, fun i hi _ => by rw [IH.get_new, if_neg (by omega)], ⟨Nat.lt_succ_self _, by rw [IH.get_new, if_pos rfl, lapp_eq]⟩, fun _ => rfl⟩
    | succ j =>
      have hj : Nat.beq (Nat.succ j) (j + 1) = true := Nat.beq_refl _
      refine ⟨(h.kill b).new (.cells (old ++ xs)), ?_, ?_⟩
      · show cond (Nat.beq (Nat.succ j) (j + 1)) _ _ = _
        rw [hj, lapp_eq]; rfl
      · exact ⟨rfl, fun i hi hb => by rw [IH.get_new, if_neg (by show i ≠ h.next; omega), IH.get_kill, if_neg hb], ⟨Nat.lt_succ_self _, by rw [IH.get_new]; exact if_pos rfl⟩, fun hl => by rw [IH.low_new, IH.low_kill]; omega⟩
 obtain ⟨h', hr, hM⟩ := hrun
 exact s_runR hn hg hr (hsm h' hM) (next h' hM)
end
section
variable {P : Program}
variable {ρ : Operand → Value}
variable {B : List Nat} {w0 : Wd} {kl kl' : List OA} {F : List Fact} {a : IAct} {K : KO}
variable {y : CCode} {i j m0 : Nat} {I : Nat → IAct → IH → Prop} {ch : List PanicEntry}
variable {B : List Nat} {w0 : Wd} {kl kl' : List OA} {F : List Fact} {K : KO} {ds : List Tmp} {rest : List PStep} {n : Nat} {l : List (Nat × Value)} {D : List Deferred} {pm : Option FrameMode} {ro : Option Nat} {d : Nat} {g : Option (Tmp × Bool)}
end
section
variable {P : Program} {B : List Nat} {w0 : Wd} {kl kl' klr : List OA} {F : List Fact} {K : KO} {n : Nat} {l : List (Nat × Value)} {D : List Deferred} {pm : Option FrameMode} {ro : Option Nat}
end
end Go.Ideal
namespace Go.Ideal
variable {P : Program}
section
variable {α κ : Type} [DecidableEq κ] {toV : κ → Value} {E : Enc α}
variable {B : List Nat} {w0 : Wd} {kl kl' klr k1 k2 : List OA} {F : List Fact} {Q : IH → Prop} {b : Nat} {m : List (κ × List α)}
end
end Go.Ideal
namespace Go.Ideal
variable {P : Program} {B : List Nat} {w0 : Wd} {kl kl' klr : List OA} {F : List Fact} {K : KO} {ds : List Tmp} {rest : List PStep} {n : Nat} {l : List (Nat × Value)} {D : List Deferred} {pm : Option FrameMode} {ro : Option Nat} {d : Nat} {g : Option (Tmp × Bool)}
end Go.Ideal
namespace Go.Ideal
variable {P : Program} {B : List Nat} {w0 : Wd} {kl kl' klr k1 k2 : List OA} {F : List Fact} {Q : IH → Prop}
section
variable {β : Type} (A : Value → β → OA)
end
theorem q_oaEq {A A' : OA} (e : A = A') (h : R Q B w0 (A' :: kl') F) (hk : autoParam (Sel A kl kl') aSel._auto_1) : R Q B w0 kl F := by
 subst e
 exact fun w s => h w (s.sel hk)
theorem St.arAp {α : Type} {E : Enc α} {v : Value} {xys : List (α × E.Y)} {w : Wd} (h0 : 0 < xys.length) (hall : (fAll E xys).p w) (s : St B w0 (ar E v xys :: kl') F w) : St B w0 (ap E v (xys.map (·.1)) :: kl') F w := by
 obtain ⟨S, ⟨S1, S2, q1, q2, e⟩, h2, h3⟩ := s.own
 refine ⟨s.agree, s.le, s.zold, ⟨S, ⟨S1, S2, ?_, q2, e⟩, h2, h3⟩, s.facts⟩
 rcases q1 with ⟨h4, _⟩ | ⟨b, f, h4, h5, h6, h7⟩
 · rw [h4] at h0; simp at h0
 · refine .inr ⟨b, 0, f, _, by rw [List.length_map]; exact h4, h5, h6, h7, by rw [flatP_len, List.length_map, Nat.zero_add], fun k x hk => ?_⟩
   rw [List.getElem?_map] at hk
   cases hp : xys[k]? with
   | none => rw [hp] at hk; cases hk
   | some p =>
     rw [hp] at hk
     cases hk
     exact ⟨p.2, fun j u hj => by rw [Nat.zero_add]; exact flatP_get hp hj, fun f hf => hall p (List.mem_of_getElem? hp) f hf⟩
theorem q_arAp {α : Type} {E : Enc α} {v : Value} {xys : List (α × E.Y)} (h0 : 0 < xys.length) (h : R Q B w0 (ap E v (xys.map (·.1)) :: kl') F) (hfs : ∀ w, (∀ f ∈ F, f.p w) → (fAll E xys).p w) (hk : autoParam (Sel (ar E v xys) kl kl') aSel._auto_1) : R Q B w0 kl F := fun w s =>
 h w (St.arAp h0 (hfs w s.facts) (s.sel hk))
end Go.Ideal
namespace Go.Ideal
variable {P : Program}
theorem FnC.facts {Y : Type} {fn : Fn} {args cap : List Value} {kl : List OA} {F F2 : List Fact} {val : Y → Value} {kl' : Y → List OA} {fs : Y → List Fact} {pr : Y → Prop} (h : FnC P fn args cap kl F val kl' fs pr) (hF : ∀ f ∈ F, f ∈ F2) : FnC P fn args cap kl F2 val kl' fs pr :=
 fun B w s => h B w ⟨s.agree, s.le, s.zold, s.own, fun f hf => s.facts f (hF f hf)⟩
section
variable {B : List Nat} {w0 : Wd} {kl kl' klr : List OA} {F : List Fact} {K : KO} {n : Nat} {l : List (Nat × Value)} {D : List Deferred} {pm : Option FrameMode} {ro : Option Nat}
end
section
variable {B : List Nat} {w0 : Wd} {kl : List OA} {F : List Fact}
end
end Go.Ideal
namespace Go.Ideal
variable {P : Program} {B : List Nat} {w0 : Wd} {kl kl' klr : List OA} {F : List Fact} {K : KO} {ds : List Tmp} {rest : List PStep} {n : Nat} {l : List (Nat × Value)} {D : List Deferred} {pm : Option FrameMode} {ro : Option Nat} {d : Nat} {g : Option (Tmp × Bool)}
theorem lover_mid {cs1 cs2 xs : List Value} (h : xs.length ≤ cs2.length) : lover (cs1 ++ cs2) cs1.length xs = some (cs1 ++ (xs ++ cs2.drop xs.length)) := by
 obtain ⟨r, hr⟩ := lover_tot (cs1 ++ cs2) cs1.length xs (by rw [List.length_append]; omega)
 obtain ⟨h1, h2, h3⟩ := lover_some hr
 rw [hr]
 congr 1
 apply List.ext_getElem?
 intro j
 rw [h3 j]
 by_cases c1 : j < cs1.length
 · rw [if_neg (by omega), List.getElem?_append_left c1, List.getElem?_append_left c1]
 · by_cases c2 : j < cs1.length + xs.length
   · rw [if_pos ⟨by omega, c2⟩, List.getElem?_append_right (by omega), List.getElem?_append_left (by omega)]
   · rw [if_neg (by omega), List.getElem?_append_right (by omega), List.getElem?_append_right (by omega), List.getElem?_append_right (by omega), List.getElem?_drop]
     congr 1; omega
theorem fEl_read {α : Type} {E : Enc α} {v : Value} {xys : List (α × E.Y)} {w : Wd} (h : (fEl E v xys).p w) : lenI v = some xys.length ∧ firstX E.n xys.length v w.h = some (flatP E xys) := by
 rcases h with ⟨rfl, a, c, rfl, _⟩ | ⟨i, o, f, c, cells, ⟨e1, hc⟩, q2, q3⟩
 · exact ⟨rfl, rfl⟩
 subst e1
 refine ⟨rfl, ?_⟩
 by_cases hne : xys = []
 · subst hne; rfl
 obtain ⟨k, hk'⟩ : ∃ k, xys.length = k + 1 := ⟨xys.length - 1, by have := List.length_pos_iff.2 hne; omega⟩
 have hfl := flatP_len xys
 have hcells : ∀ j, j < xys.length * E.n → cells[o + j]? = (flatP E xys)[j]? := fun j hj => by
  have hn0 : 0 < E.n := by
   rcases Nat.eq_zero_or_pos E.n with h0 | h0
   · rw [h0] at hj; omega
   · exact h0
  have hd : j / E.n < xys.length := by rw [Nat.div_lt_iff_lt_mul hn0]; exact hj
  have hmod := Nat.mod_lt j hn0
  have hpk := List.getElem?_eq_getElem hd
  have hu : (E.pat (xys[j / E.n]).1 (xys[j / E.n]).2)[j % E.n]? = some ((E.pat (xys[j / E.n]).1 (xys[j / E.n]).2)[j % E.n]'(by rw [E.len]; exact hmod)) := List.getElem?_eq_getElem _
  have h1 := (q3 (j / E.n) _ hpk).1 (j % E.n) _ hu
  have h2 := flatP_get hpk hu
  have hdm : j / E.n * E.n + j % E.n = j := by rw [Nat.mul_comm]; exact Nat.div_add_mod j E.n
  rw [Nat.add_assoc, hdm] at h1
  rw [hdm] at h2
  rw [h1, h2]
 have hlen : o + xys.length * E.n ≤ cells.length ∨ xys.length * E.n = 0 := by
  rcases Nat.eq_zero_or_pos (xys.length * E.n) with h0 | h0
  · exact .inr h0
  · left
    have h1 := hcells (xys.length * E.n - 1) (by omega)
    have hx0 : (flatP E xys)[xys.length * E.n - 1]? = some ((flatP E xys)[xys.length * E.n - 1]'(by omega)) := List.getElem?_eq_getElem _
    rw [hx0] at h1
    have := (List.getElem?_eq_some_iff.1 h1).1
    omega
 have hread : w.h.readAt i o (xys.length * E.n) = some (flatP E xys) ∨ (xys.length * E.n = 0) := by
  rcases hlen with hlen | hlen
  · left
    rw [q2.cells.readAt, ldrop_eq, ltake_eq, if_pos (by rw [List.length_drop]; omega)]
    congr 1
    apply List.ext_getElem?
    intro j
    rw [List.getElem?_take]
    by_cases hj : j < xys.length * E.n
    · rw [if_pos hj, List.getElem?_drop]; exact hcells j hj
    · rw [if_neg hj, List.getElem?_eq_none (by omega)]
  · exact .inr hlen
 have hread : w.h.readAt i o (xys.length * E.n) = some (flatP E xys) := by
  rcases hread with h | h
  · exact h
  · have hf0 : flatP E xys = [] := List.length_eq_zero_iff.1 (by omega)
    rw [h, q2.cells.readAt, ltake_eq, if_pos (Nat.zero_le _), hf0]; rfl
 rw [hk'] at hread ⊢
 exact hread
end Go.Ideal
namespace Go.Ideal
open Go.RowKit Go.WideShapes Go.ChangeShapes
variable {P : Program}
def globL (n : Nat) : Lay := (List.range n).map fun g => (some ⟨g, 0, 0, 0, 0⟩, none)
theorem globL_get {n i : Nat} (h : i < n) : (globL n)[i]? = some (some ⟨i, 0, 0, 0, 0⟩, none) := by
 unfold globL
 rw [List.getElem?_map, List.getElem?_range h]; rfl
theorem globL_len (n : Nat) : (globL n).length = n := by unfold globL; rw [List.length_map, List.length_range]
theorem world_callG (hmix : P.follows .mixedOrders = true) {f : FuncId} (fn : Func) (hfn : P.funcs[f]? = some fn) (hbody : fn.body.isNone = false) (hname : (fn.name == "runtime.NumGoroutine") = false) {args args' : List Value} {L : Lay} {w : World} {v : Value} (hgok : GOK P (injL L))
 (hL : ∀ (i : Nat) g cs, L[i]? = some (some g, some cs) → LeafOK L w g cs) (hargs : VRs (injL L) args args') (hv : addrFree v = true)
 (hc : CALL P ⟨.func f, args, [], none⟩ (heapL L) (fun r pm h' => pm = none ∧ r = .ok v ∧ Agree (heapL L) h')) :
 Calls P f ⟨args'⟩ w (fun e w' => e = .returned v ∧ Below w.heap.size w w') := by
 have hM := call_sound hmix hc
 have hW : WR P (injL L) (heapL L) w := heapL_WR hL
 obtain ⟨nx, F0, n1, n2, n3⟩ := hM (injL L) w (.func f) args' [] hgok hW (.func f) hargs .nil
 have hnx : nx = .enter f ⟨args'⟩ := by
  have hcall : (callFunc f ⟨args'⟩).run P w = .ok (.enter f ⟨args'⟩) w := by
   simp only [callFunc, Sem.run_bind, run_program, Result.andThen_ok, hfn, hname, hbody, Bool.false_eq_true, if_false, Sem.run_pure]
  have e : (⟨args'⟩ : Array Value) ++ (⟨[]⟩ : Array Value) = ⟨args'⟩ := by apply Array.ext'; simp
  have n1 : (invoke (.fn (.func f) ⟨[]⟩) ⟨args'⟩).run P w = .ok nx w := n1
  simp only [invoke, e] at n1
  rw [hcall] at n1
  cases n1
  rfl
 subst hnx
 have hF0 : F0 = Frame.enter P f ⟨args'⟩ .normal := by
  have : entry P .normal (.enter f ⟨args'⟩) = some (Frame.enter P f ⟨args'⟩ .normal) := rfl
  have n2 : entry P .normal (.enter f ⟨args'⟩) = some F0 := n2
  rw [this] at n2
  exact (Option.some.inj n2).symm
 subst hF0
 intro cs
 obtain ⟨r, pm', h', β', w', r', cs1, q1, q2, q3, q4, q5, q6⟩ := n3 cs (by intro m hm; cases hm)
 obtain ⟨hp, rfl, hag⟩ := q1
 cases q5
 cases q4 with
 | @ok v v' hvr =>
   have := hvr.eq_of_free hv
   subst this
   rcases q6 with ⟨f1, a1, F1, e1, e2, e3, e4, e5⟩ | ⟨⟨_, l, e1⟩, _⟩
   · cases e1
     refine ⟨.returned v', w', F1, ⟨rfl, ?_⟩, e2, e3, ?_⟩
     · refine ⟨q3.os, q3.tape, q3.output, q3.size, fun k hk => ?_⟩
       by_cases hx : ∀ i g, injL L i = some g → (heapL L).get i ≠ none → g.b ≠ k
       · exact q3.keep k hk hx
       · have hx : ∃ i g, injL L i = some g ∧ (heapL L).get i ≠ none ∧ g.b = k := by
          apply Classical.byContradiction
          intro hc
          exact hx fun i g hi hg hb => hc ⟨i, g, hi, hg, hb⟩
         obtain ⟨i, g, hi, hg, rfl⟩ := hx
         have hin := hW.dom i g hi
         exact q3.lowk i g (by rw [hag.low (Nat.le_refl _)]; exact hin) hin hi hg hk
     · obtain ⟨t1, t2, fn, t3, t4⟩ := e5
       exact ⟨t1, t2, e4, fn, t3, t4⟩
   · cases e1
section
variable {H : Type} {enc : TypeId × Value → H} {W : World}
theorem law_callsG (hmix : P.follows .mixedOrders = true) {f : FuncId} (fn : Func) (hfn : P.funcs[f]? = some fn) (hbody : fn.body.isNone = false) (hname : (fn.name == "runtime.NumGoroutine") = false) {K : TypeId → Prop}
 (hK : ∀ t, K t → PlainT P K t) {ts : List TypeId} {vs : List Value} {ds : List (DataW H)} {ps : List MemPlace} (hT : ∀ t ∈ ts, K t) (hok : ∀ (j : Nat) t v, ts[j]? = some t → vs[j]? = some v → Value.okWide P W .any 0 t v)
 (hA : DataW.TrodAll enc P W 0 (fun _ => true) true ts vs ds ps)
 (hlaw : ∀ (w : Wd) (vs' : List Value), P.globals.size ≤ w.h.next → (∀ i, i < w.h.next → w.z i) → vs'.length = vs.length → (∀ (j : Nat) t v d, ts[j]? = some t → vs'[j]? = some v → ds[j]? = some d → ArgE P w t v d) → ∃ F, (∀ f ∈ F, f.p w) ∧ FnP P f vs' F (.bool true)) :
 Calls P f ⟨vs⟩ W (fun e w' => e = .returned (.bool true) ∧ Below W.heap.size W w') := by
 obtain ⟨M, vs', h1, h2, h3⟩ := args_ok hK hT hok hA (globL P.globals.size)
 have hlG := globL_len P.globals.size
 refine world_callG hmix fn hfn hbody hname (L := globL P.globals.size ++ M) (args := vs') (fun g hg => ⟨⟨g, 0, 0, 0, 0⟩, ?_, rfl, rfl⟩) (fun i g cs hi => ?_) h1 rfl ?_
 · unfold injL
   rw [List.getElem?_append_left (by omega), globL_get hg]; rfl
 · by_cases hlt : i < P.globals.size
   · rw [List.getElem?_append_left (by omega), globL_get hlt] at hi
     cases hi
   · exact h3 i g cs (by omega) hi
 have hlen : vs'.length = vs.length := by
  have : ∀ {a b : List Value}, VRs (injL (globL P.globals.size ++ M)) a b → a.length = b.length := by
   intro a
   induction a with
   | nil => intro b h; cases h; rfl
   | cons x a ih => intro b h; cases h with | cons q r => simp [ih r]
  exact this h1
 obtain ⟨F, hF, hfn'⟩ := hlaw (wdL (globL P.globals.size ++ M)) vs' (by show _ ≤ (globL P.globals.size ++ M).length; rw [List.length_append]; omega) (fun i hi => hi) hlen (fun j t v d ht hv hd => by
  obtain ⟨v0, e, hvr⟩ := argEs (ts := ts) h1 j v hv
  exact argE_of rfl (h2 j t v d ht hv hd) hvr (hok j t v0 ht e))
 have st : St [] (wdL (globL P.globals.size ++ M)) [] F (wdL (globL P.globals.size ++ M)) := ⟨⟨Nat.le_refl _, fun _ _ _ => rfl, fun _ _ => rfl⟩, Wd.Le.refl _, fun i _ hz => .inl hz, ⟨[], rfl, List.nodup_nil, fun i hi => by cases hi⟩, hF⟩
 refine .conseq _ (hfn' [] (wdL (globL P.globals.size ++ M)) st) ?_
 rintro r pm h' ⟨rfl, w', y, rfl, s, rfl, _⟩
 exact ⟨rfl, rfl, ⟨s.agree.next, fun i hi => s.agree.get i hi (by simp), fun hl => s.agree.low hl (by simp)⟩⟩
end
def fNxt (n : Nat) : Fact := ⟨fun w => n ≤ w.h.next, fun a h => Nat.le_trans h a.next⟩
theorem fn_closedN {f : FuncId} {v : Value} {n : Nat} (hs : ∀ h : IH, n ≤ h.next → CALL P ⟨.func f, [], [], none⟩ h (fun r pm h' => pm = none ∧ r = .ok v ∧ h' = h)) : FnP P f [] [fNxt n] v := fun B w s =>
 .conseq _ (hs w.h (s.facts (fNxt n) (List.mem_singleton.2 rfl))) (by rintro r pm h' ⟨rfl, rfl, rfl⟩; exact ⟨rfl, w, (), rfl, ⟨s.agree, s.le, s.zold, s.own, fun f h => by cases h⟩, rfl, trivial⟩)
end Go.Ideal
namespace Go.Ideal
variable {P : Program}
def addrFreeT : Value → Bool
 | .tuple ⟨c :: cs⟩ => addrFree c && cs.all addrFree
 | .tuple _ => false
 | v => addrFree v
theorem VRs.free_all {β : Inj} : ∀ {l : List Value}, l.all addrFree = true → VRs β l l
 | [], _ => .nil
 | v :: l, h => by
   rw [List.all_cons, Bool.and_eq_true] at h
   exact .cons (VR.free h.1) (VRs.free_all h.2)
theorem VRs.eq_all {β : Inj} : ∀ {l l' : List Value}, VRs β l l' → l.all addrFree = true → l' = l
 | _, _, .nil, _ => rfl
 | _, _, .cons h1 h2, h => by
   rw [List.all_cons, Bool.and_eq_true] at h
   rw [h1.eq_of_free h.1, VRs.eq_all h2 h.2]
theorem VR.freeT {β : Inj} {v : Value} (h : addrFreeT v = true) : VR β v v := by
 unfold addrFreeT at h
 split at h
 · rename_i c cs
   exact .tuple (VRs.free_all (by rw [List.all_cons]; exact h))
 · cases h
 · exact VR.free h
end Go.Ideal

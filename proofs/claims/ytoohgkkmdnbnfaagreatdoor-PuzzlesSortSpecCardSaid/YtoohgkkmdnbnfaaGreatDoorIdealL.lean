/-
  The ideal machine, 57: loops over functions, seen from all states of a kind; functions that leave collected ends behind.
-/
import Derived.Test.YtoohgkkmdnbnfaaGreatDoorIdealK
set_option linter.unusedSimpArgs false
set_option linter.unusedVariables false
namespace Go.Ideal
variable {P : Program}
def retD (P : Program) (cf : CFunc) (K : KR) : KO := fun o a h => match modeOf o with
 | none => False
 | some m => LEAVE P cf a.tmps a.defers m h fun r h'' => K r a.pm h''
theorem fn_startD {Y : Type} {f : FuncId} {args cap : List Value} {kl : List OA} {F : List Fact} {val : Y → Value} {kl' : Y → List OA} {fs : Y → List Fact} {pr : Y → Prop} {c : CCode} {m : Nat} {l0 : List (Nat × Value)} (cf : CFunc) (hF : (envOf P noCut noMemo).F f = some cf)
 (hb : ∀ B w0, R (fun h => EV P c (act m l0 [] none none) h (retD P cf (Left B w0 val kl' fs pr))) B w0 kl F)
 (h1 : cf.body = c := by conv => lhs; (reduce; (try simp only [Int.reduceOfNat, Int.reduceNegSucc]))) (h2 : maxN cf.ntmps (llen (args ++ cap)) = m := by conv => lhs; whnf) (h3 : argL 0 (args ++ cap) [] = l0 := by dsimp only [argL, Nat.reduceAdd, List.append_nil, List.cons_append, List.nil_append]) : FnC P (.func f) args cap kl F val kl' fs pr := by
 intro B w s
 obtain ⟨fn, e1, e2⟩ := (envOf_ok P noCut noMemo (fun f q h v h' hm => by cases hm)).fn f cf hF
 refine c_defers cf fn e1 e2 ?_
 rw [initAct_act, h1, h2, h3]
 exact hb B w w s
section
variable {B : List Nat} {w0 : Wd} {kl kl' klr : List OA} {F : List Fact} {K : KO} {n : Nat} {l : List (Nat × Value)} {D : List Deferred} {pm : Option FrameMode} {ro : Option Nat}
inductive Coll : List OA → List Deferred → List OA → Prop
 | nil {kl : List OA} : Coll kl [] kl
 | cons {kl kl' kl2 : List OA} {r : Nat} {args : Array Value} {D : List Deferred} (h : Sel (pt r (.defs true)) kl kl') (t : Coll kl' D kl2) : Coll kl ({ target := .collected r, args } :: D) kl2
theorem Coll.leave {cf : CFunc} {ts : T Value} {Kr : Ret → IH → Prop} : ∀ {D : List Deferred} {kl kl2 : List OA}, Coll kl D kl2 → (∀ w', St B w0 kl2 F w' → ∃ v, resultsI cf.results ts w'.h = some v ∧ Kr (.ok v) w'.h) → ∀ w, St B w0 kl F w → LEAVE P cf ts D .returning w.h Kr
 | _, _, _, .nil, hk, w, s => by
   obtain ⟨v, h1, h2⟩ := hk w s
   exact .ret v h1 h2
 | _, _, _, .cons (r := r) h t, hk, w, s => by
   have s1 := s.sel h
   refine .coll (by intro e; cases e) r s1.get.1 ?_
   exact Coll.leave t hk _ (s1.write (o' := .defs false)).tail
theorem k_endD {Y : Type} {o : Out} {cf : CFunc} {vs : List Value} {val : Y → Value} {k1 : Y → List OA} {fs : Y → List Fact} {pr : Y → Prop} {kl2 : List OA} (y : Y) (hD : Coll kl D kl2) (hr : RS l kl2 cf.results vs) (hv : retV vs = val y) (hp : pr y) (hk : SelL (k1 y) kl2 klr) (hF : Sub (fs y) F)
 (ho : o = .normal ∨ o = .ret) : R (fun h => retD P cf (Left B w0 val k1 fs pr) o (act n l D none ro) h) B w0 kl F := by
 intro w s
 have key : LEAVE P cf (envT l) D .returning w.h fun r h'' => Left B w0 val k1 fs pr r none h'' := by
  refine Coll.leave hD (fun w' s' => ⟨val y, ?_, rfl, w', y, rfl, ((s'.selL hk).drop).sub hF, rfl, hp⟩) w s
  unfold resultsI
  rw [hr.all s', ← hv]
  match vs with
  | [] => rfl
  | [v] => rfl
  | _ :: _ :: _ => rfl
 rcases ho with rfl | rfl
 · exact key
 · exact key
def busyL (L : ILoop) : ILoop := { L with state := .busy }
def endL (L : ILoop) (o : Out) : ILoop := match o with
 | .normal => { L with state := .ready, pending := none }
 | o => { L with state := .done, pending := some o }
def isN (o : Out) : Bool := match o with
 | .normal => true
 | _ => false
def noPan (o : Out) : Prop := match o with
 | .panic _ => False
 | _ => True
def roundK {Y : Type} (B : List Nat) (w0 : Wd) (lo : Nat) (L : ILoop) (out : Y → Out) (k1 : Y → List OA) (fs : Y → List Fact) (pr : Y → Prop) : KO := fun o a h =>
 a.defers = [] ∧ ∃ (w : Wd) (y : Y), w.h = h ∧ o = out y ∧ noPan o ∧ St B w0 (pt lo (.loop (busyL L)) :: k1 y) (fs y) w ∧ pr y
theorem round_end {Y : Type} {lo : Nat} {L : ILoop} {out : Y → Out} {k1 : Y → List OA} {fs : Y → List Fact} {pr : Y → Prop} {o : Out} {kl2 : List OA} (y : Y) (ho : o = out y) (hn : noPan o) (hp : pr y) (hk : SelL (pt lo (.loop (busyL L)) :: k1 y) kl kl2) (hF : Sub (fs y) F) :
 R (fun h => roundK B w0 lo L out k1 fs pr o (act n l [] none ro) h) B w0 kl F := fun w s => ⟨rfl, w, y, rfl, ho, hn, ((s.selL hk).drop).sub hF, hp⟩
theorem roundTmps_envT (n : Nat) : ∀ (ps : List Tmp) (args : List Value) (l : List (Nat × Value)), ps.all (fun p => Nat.blt p n) = true → ps.length = args.length → ∃ l2, roundTmps n ps args (envT l) = envT l2 ∧ l2 = (ps.zip args).reverse ++ l
 | [], [], l, _, _ => ⟨l, rfl, rfl⟩
 | p :: ps, v :: args, l, h, e => by
   simp only [List.all_cons, Bool.and_eq_true] at h
   obtain ⟨l2, h1, h2⟩ := roundTmps_envT n ps args ((p, v) :: l) h.2 (by simpa using e)
   refine ⟨l2, ?_, by rw [h2]; simp⟩
   rw [← h1]
   show roundTmps n ps args (cond (Nat.blt p n) ((envT l).set p (some v)) (envT l)) = _
   rw [h.1]; rfl
theorem r_range {Y : Type} {f : Operand} {ps : List Tmp} {assign body : CCode} {fn : Fn} {first captured : List Value} {k1 : List OA} {F1 : List Fact} {valI : Y → Value} {out : Y → Out} {k1' : Y → List OA} {fs : Y → List Fact} {pr : Y → Prop}
 (hf : ev l f = .func fn ⟨first⟩ ⟨captured⟩)
 (it : ∀ lo r, FnC P fn (first ++ [.func (.yield lo) #[] #[]]) captured (pt lo (.loop ⟨.ready, none, envT l, n, ps, assign, body, r⟩) :: k1) F1 valI (fun y => pt lo (.loop (endL ⟨.ready, none, envT l, n, ps, assign, body, r⟩ (out y))) :: k1' y) fs pr)
 (hk : SelL k1 kl klr) (hF : Sub F1 F)
 (next : ∀ r y, pr y → R (fun h => K (out y) (act n l ({ target := .collected r, args := #[] } :: D) pm none) h) B w0 (k1' y ++ (pt r (.defs true) :: klr)) (fs y ++ F)) :
 R (fun h => EV P (.rangeFunc f ps assign body) (act n l D pm none) h K) B w0 kl F := by
 intro w s
 let L : Nat → ILoop := fun r => ⟨.ready, none, envT l, n, ps, assign, body, r⟩
 let r := w.h.next
 let w1 := w.new (.defs true)
 have s1 : St B w0 (pt r (.defs true) :: kl) F w1 := s.new _
 let lo := w1.h.next
 let w2 := w1.new (.loop (L r))
 have s2 : St B w0 (pt lo (.loop (L r)) :: pt r (.defs true) :: kl) F w2 := s1.new _
 have s3 : St B w0 ((pt lo (.loop (L r)) :: k1) ++ (pt r (.defs true) :: klr)) F w2 := s2.selL (k := pt lo (.loop (L r)) :: k1) (kl' := pt r (.defs true) :: klr) (.cons .here (by
  have : ∀ {k kl klr : List OA} (A : OA), SelL k kl klr → SelL k (A :: kl) (A :: klr) := by
   intro k kl klr A h
   induction h with
   | nil => exact .nil
   | cons h1 _ ih => exact .cons (.there h1) ih
  exact this _ hk))
 obtain ⟨S, h1, h2, h3⟩ := s3.own
 obtain ⟨S1, S2, q1, q2, hp⟩ := h1.selL (k := pt lo (.loop (L r)) :: k1) (kl' := pt r (.defs true) :: klr) (by
  have : ∀ (k kr : List OA), SelL k (k ++ kr) kr := by
   intro k kr
   induction k with
   | nil => exact .nil
   | cons A k ih => exact .cons .here ih
  exact this _ _)
 have hsub : ∀ i ∈ S1, i ∈ S := fun i hi => hp.mem_iff.2 (List.mem_append_left _ hi)
 have st1 : St S1 w2 (pt lo (.loop (L r)) :: k1) F1 w2 := ⟨⟨Nat.le_refl _, fun _ _ _ => rfl, fun _ _ => rfl⟩, Wd.Le.refl w2, fun i _ hz => .inl hz, ⟨S1, q1, (List.nodup_append.1 (hp.nodup h2)).1, fun i hi => ⟨.inr hi, (h3 i (hsub i hi)).2⟩⟩, fun f hf => s2.facts f (hF.mem f hf)⟩
 have hc := it lo r S1 w2 st1
 refine .rangeFunc fn first captured (by rw [eval_act]; exact hf) (act n l ({ target := .collected r, args := #[] } :: D) pm none) w1.h r (.inl ⟨rfl, rfl, rfl, rfl⟩) (Left S1 w2 valI (fun y => pt lo (.loop (endL (L r) (out y))) :: k1' y) fs pr) ?_ ?_ ?_
 · rw [lapp_eq]; exact hc
 · rintro v pm' h' ⟨rfl, w', y, rfl, c, hv, hpr⟩
   have sc : St B w0 ((pt lo (.loop (endL (L r) (out y))) :: k1' y) ++ (pt r (.defs true) :: klr)) (fs y ++ F) w' := s3.call (k1 := pt lo (.loop (L r)) :: k1) (F1 := F1) ⟨S, hp, h2, h3⟩ q2 c
   have hg := (show St B w0 (pt lo (.loop (endL (L r) (out y))) :: (k1' y ++ (pt r (.defs true) :: klr))) (fs y ++ F) w' from sc).get
   refine ⟨endL (L r) (out y), hg.1, ?_, ?_⟩
   · cases out y <;> simp [endL]
   · have e : (endL (L r) (out y)).pending.getD .normal = out y := by cases out y <;> rfl
     rw [e]
     exact next r y hpr _ (St.write (o' := .loop { endL (L r) (out y) with state := .exhausted }) sc).tail
 · rintro ch pm' h' ⟨rfl, w', y, rfl, c, hv, hpr⟩
   cases hv
end
end Go.Ideal
namespace Go.Ideal
variable {P : Program}
def runI {S α : Type} (step : S → α → S × Bool) : S → List α → S
 | s, [] => s
 | s, x :: xs => match step s x with
   | (s', true) => runI step s' xs
   | (s', false) => s'
def runO {S α : Type} (step : S → α → S × Out) : S → List α → S × Out
 | s, [] => (s, .normal)
 | s, x :: xs => match step s x with
   | (s', .normal) => runO step s' xs
   | (s', o) => (s', o)
theorem Sub.refl' {α : Type} : ∀ (l k : List α), Sub l (k ++ l)
 | [], _ => .nil
 | a :: l, k => .cons (List.mem_append_right _ (List.mem_cons_self ..)) (by have := Sub.refl' l (k ++ [a]); rwa [List.append_assoc] at this)
theorem Sub.app {α : Type} : ∀ {k1 k2 l : List α}, Sub k1 l → Sub k2 l → Sub (k1 ++ k2) l
 | _, _, _, .nil, h => h
 | _, _, _, .cons h h1, h2 => .cons h (h1.app h2)
section
variable {B : List Nat} {w0 : Wd} {kl kl' klr : List OA} {F : List Fact} {K : KO} {n : Nat} {l : List (Nat × Value)} {D : List Deferred} {pm : Option FrameMode} {ro : Option Nat}
theorem runI_runO {S α : Type} {step : S → α → S × Out} : ∀ (xs : List α) (s : S), runI (fun (so : S × Out) x => (step so.1 x, isN (step so.1 x).2)) (s, Out.normal) xs = runO step s xs
 | [], s => rfl
 | x :: xs, s => by
   have ih := runI_runO (step := step) xs
   simp only [runI, runO]
   cases h : step s x with
   | mk s' o =>
     cases o with
     | normal => simp only [isN]; exact ih s'
     | _ => simp only [isN]
end
end Go.Ideal
namespace Go.Ideal
variable {P : Program} {ρ : Operand → Value}
theorem wrapN {m : Nat} (h : m < 9223372036854775808) : IntKind.i64.wrap (m : Int) = m := wrap64 (by omega) (by omega)
end Go.Ideal
namespace Go.Ideal
variable {P : Program}
def exA {X : Type} (f : X → List OA) : OA := ⟨fun w S => ∃ x, OwnL w (f x) S, fun a h ⟨x, hx⟩ => ⟨x, OwnL.loc a h hx⟩⟩
section
variable {B : List Nat} {w0 : Wd} {kl kl' klr : List OA} {F : List Fact} {K : KO} {n : Nat} {l : List (Nat × Value)} {D : List Deferred} {pm : Option FrameMode} {ro : Option Nat}
theorem q_open {X : Type} {f : X → List OA} {kl2 : X → List OA} {Q : IH → Prop} (hk : autoParam (Sel (exA f) kl kl') aSel._auto_1) (ha : ∀ x, AppR (f x) kl' (kl2 x) := by intro x; repeat (first | exact AppR.nil | apply AppR.cons | exact AppR.self | exact AppR.app)) (h : ∀ x, R Q B w0 (kl2 x) F) : R Q B w0 kl F := fun w s => by
 obtain ⟨S, ⟨S1, S2, ⟨x, q1⟩, q2, e⟩, h2, h3⟩ := (s.sel hk).own
 refine h x w ?_
 rw [← (ha x).eq]
 exact ⟨s.agree, s.le, s.zold, ⟨S, by rw [e]; exact q1.app q2, h2, h3⟩, s.facts⟩
theorem q_close {X : Type} (f : X → List OA) (x : X) {Q : IH → Prop} (hk : autoParam (SelL (f x) kl klr) aSelL._auto_1) (h : R Q B w0 (exA f :: klr) F) : R Q B w0 kl F := fun w s => by
 obtain ⟨S, h1, h2, h3⟩ := s.own
 obtain ⟨S1, S2, q1, q2, hp⟩ := h1.selL hk
 exact h w ⟨s.agree, s.le, s.zold, ⟨S1 ++ S2, ⟨S1, S2, ⟨x, q1⟩, q2, rfl⟩, hp.nodup h2, fun i hi => h3 i (hp.mem_iff.2 hi)⟩, s.facts⟩
theorem q_fact {Q : IH → Prop} (g : Fact) (hg : ∀ w : Wd, (∀ f ∈ F, f.p w) → g.p w) (h : R Q B w0 kl (g :: F)) : R Q B w0 kl F := fun w s =>
 h w ⟨s.agree, s.le, s.zold, s.own, fun f hf => by
  rcases List.mem_cons.1 hf with rfl | hf
  · exact hg w s.facts
  · exact s.facts f hf⟩
theorem q_begD {Y : Type} {f : FuncId} {args cap : List Value} {kl : List OA} {F : List Fact} {val : Y → Value} {kl' : Y → List OA} {fs : Y → List Fact} {pr : Y → Prop} {c : CCode} {m : Nat} {l0 : List (Nat × Value)} (cf : CFunc) (hF : (envOf P noCut noMemo).F f = some cf)
 (hb : ∀ B w0, R (fun h => EV P c (act m l0 [] none none) h (retD P cf (Left B w0 val kl' fs pr))) B w0 kl F)
 (h1 : cf.body = c := by conv => lhs; (reduce; (try simp only [Int.reduceOfNat, Int.reduceNegSucc]))) (h2 : maxN cf.ntmps (llen (args ++ cap)) = m := by conv => lhs; whnf) (h3 : argL 0 (args ++ cap) [] = l0 := by dsimp only [argL, Nat.reduceAdd, List.append_nil, List.cons_append, List.nil_append]) : FnC P (.func f) args cap kl F val kl' fs pr :=
 fn_startD cf hF hb h1 h2 h3
theorem q_finD {Y : Type} {o : Out} {cf : CFunc} {vs : List Value} {val : Y → Value} {k1 : Y → List OA} {fs : Y → List Fact} {pr : Y → Prop} {kl2 : List OA} (y : Y) (hD : Coll kl D kl2 := by repeat (first | exact Coll.nil | (apply Coll.cons; (focus (repeat (first | with_reducible exact Sel.here | with_reducible apply Sel.there | with_reducible apply Sel.app))))))
 (hr : autoParam (RS l kl2 cf.results vs) aRS._auto_1) (hv : retV vs = val y) (hp : pr y)
 (hk : autoParam (SelL (k1 y) kl2 klr) aSelL._auto_1) (hF : autoParam (Sub (fs y) F) aSub._auto_1)
 (ho : o = .normal ∨ o = .ret := by first | exact .inl rfl | exact .inr rfl) : R (fun h => retD P cf (Left B w0 val k1 fs pr) o (act n l D none ro) h) B w0 kl F :=
 k_endD y hD hr hv hp hk hF ho
theorem q_rend {Y : Type} {lo : Nat} {L : ILoop} {out : Y → Out} {k1 : Y → List OA} {fs : Y → List Fact} {pr : Y → Prop} {o : Out} {kl2 : List OA} (y : Y) (ho : o = out y) (hn : noPan o) (hp : pr y)
 (hk : autoParam (SelL (pt lo (.loop (busyL L)) :: k1 y) kl kl2) aSelL._auto_1) (hF : autoParam (Sub (fs y) F) aSub._auto_1) :
 R (fun h => roundK B w0 lo L out k1 fs pr o (act n l [] none ro) h) B w0 kl F := round_end y ho hn hp hk hF
theorem q_app {α : Type} (E : Enc α) {ds : List Tmp} {rest : List PStep} {d : Nat} {g : Option (Tmp × Bool)} {e : TypeId} {size bytes b' : Nat} {s x : Operand} {v : Value} {xs : List α} (a : α) (y : E.Y) {cs : List Value} {k1 k2 : List OA}
 (hm : (xs.length + 1) * bytes ≤ 1073741824 ∧ (xs.length + 1) * size ≤ 1073741824 ∧ xs.length + 1 ≤ 1073741824)
 (next : ∀ ad, R (fun h => OPS P ds rest (act n ((d, .slice ad (xs.length + 1) (xs.length + 1)) :: l) D pm ro) h K) B w0 (ap E (.slice ad (xs.length + 1) (xs.length + 1)) (xs ++ [a]) :: k2) F)
 (hn : Nat.blt d n = true := by rfl) (hg : gok l g = true := by rfl)
 (hs : ev l s = v := by conv => lhs; whnf) (hx : ev l x = .slice (some ⟨b', 0, some 0⟩) 1 1 := by rfl) (hk : autoParam (Sel (ap E v xs) kl k1) aSel._auto_1) (hc : autoParam (Sel (pt b' (.cells cs)) k1 k2) aSel._auto_1) (hp : cs = E.pat a y := by rfl) (hF : autoParam (Sub (E.fs a y) F) aSub._auto_1) (hz : E.n = size := by rfl) :
 R (fun h => OPS P ds (⟨⟨some d, g, .append e size bytes s x⟩, []⟩ :: rest) (act n l D pm ro) h K) B w0 kl F :=
 (d_app1 hn hg hs hx hk hc hp hF hz hm).h fun v' w st => by
   obtain ⟨S, ⟨S1, S2, q, _⟩, _⟩ := st.own
   obtain ⟨ad, e⟩ := ap_form q
   rw [List.length_append, List.length_singleton] at e
   subst e
   exact next ad w st
section
variable {ds : List Tmp} {rest : List PStep} {d : Nat} {g : Option (Tmp × Bool)}
end
end
end Go.Ideal

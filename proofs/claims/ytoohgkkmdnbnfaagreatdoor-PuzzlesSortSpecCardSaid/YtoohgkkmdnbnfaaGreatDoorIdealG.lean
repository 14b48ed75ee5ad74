/-
  The ideal machine, 37: the reckoning is right: what it says true of, the rules give.
-/
import Derived.Test.YtoohgkkmdnbnfaaGreatDoorIdealF
import Derived.Test.YtoohgkkmdnbnfaaGreatDoorIdealA
set_option linter.unusedSimpArgs false
set_option linter.unusedVariables false
namespace Go.Ideal
theorem beq_t {a b : Nat} (h : Nat.beq a b = true) : a = b := Nat.eq_of_beq_eq_true h
def altL {α : Type} (l : List α) (b : Bool) : List α :=
 match l with
 | [] => []
 | y :: l => match b with
   | true => y :: altL l false
   | false => altL l true
theorem alt_eq {α : Type} (l : List α) : ∀ b, (List.rec (motive := fun _ => Bool → List α) (fun _ => []) (fun y _ r b => Bool.rec (motive := fun _ => List α) (r true) (y :: r false) b) l : Bool → List α) b = altL l b := by
 induction l with
 | nil => intro b; rfl
 | cons y l ih => intro b; cases b
                  · simp only [altL]; exact ih true
                  · simp only [altL]; exact congrArg (y :: ·) (ih false)
theorem alt_get {α : Type} : ∀ (l : List α) (k : Nat), (altL l true)[k]? = l[2 * k]? ∧ (altL l false)[k]? = l[2 * k + 1]?
 | [], k => by simp [altL]
 | y :: l, k => by
   simp only [altL]
   refine ⟨?_, ?_⟩
   · cases k with
     | zero => rfl
     | succ k => rw [List.getElem?_cons_succ, (alt_get l k).2, show 2 * (k + 1) = (2 * k + 1) + 1 by omega, List.getElem?_cons_succ]
   · rw [(alt_get l k).1, List.getElem?_cons_succ]
theorem treeF_get {α : Type} : ∀ (f : Nat) (l : List α) (i : Nat) (x : α), (treeF f l).get i = some x → l[i]? = some x
 | 0, l, i, x, h => by cases h
 | f + 1, [], i, x, h => by cases h
 | f + 1, y :: l, i, x, h => by
   have e : treeF (f + 1) (y :: l) = .node (some y) (treeF f (altL l true)) (treeF f (altL l false)) := by
    rw [← alt_eq l true, ← alt_eq l false]; rfl
   rw [e] at h
   cases i with
   | zero => exact h
   | succ m =>
     rw [T.get_succ] at h
     rw [List.getElem?_cons_succ]
     split at h
     · rename_i hm
       have := treeF_get f _ _ _ h
       rw [(alt_get l _).1] at this
       rwa [show 2 * (m / 2) = m by omega] at this
     · rename_i hm
       have := treeF_get f _ _ _ h
       rw [(alt_get l _).2] at this
       rwa [show 2 * (m / 2) + 1 = m by omega] at this
theorem sameL_eq {p : Value → Value → Bool} (hp : ∀ x y, p x y = true → x = y) : ∀ (a b : List Value),
 (List.rec (motive := fun _ => List Value → Bool) (fun b => match b with | [] => true | _ => false) (fun x _ r b => match b with | y :: b => cond (p x y) (r b) false | [] => false) a : List Value → Bool) b = true → a = b
 | [], [], _ => rfl
 | [], _ :: _, h => by cases h
 | x :: a, [], h => by cases h
 | x :: a, y :: b, h => by
   dsimp only at h
   cases hc : p x y with
   | false => rw [hc] at h; cases h
   | true => rw [hc] at h; rw [hp x y hc, sameL_eq hp a b h]
theorem sameV_eq : ∀ (f : Nat) (v u : Value), sameV f v u = true → v = u
 | 0, v, u, h => by cases h
 | f + 1, v, u, h => by
   have ih := sameV_eq f
   change (match (generalizing := false) v, u with
    | .bool a, .bool b => a == b
    | .int .i64 a, .int .i64 b => eqZ a b
    | .int j a, .int k b => j == k && a == b
    | .string a, .string b => a.data.toList == b.data.toList
    | .pointer none, .pointer none => true
    | .pointer (some ⟨i, o, none⟩), .pointer (some ⟨j, p, none⟩) => Nat.beq i j && Nat.beq o p
    | .slice none n c, .slice none m d => Nat.beq n m && Nat.beq c d
    | .slice (some ⟨i, o, some f⟩) n c, .slice (some ⟨j, p, some g⟩) m d => Nat.beq i j && Nat.beq o p && Nat.beq f g && Nat.beq n m && Nat.beq c d
    | .map none, .map none => true
    | .map (some i), .map (some j) => Nat.beq i j
    | .nilIface, .nilIface => true
    | .nilFunc, .nilFunc => true
    | .iface t v, .iface s u => Nat.beq t s && sameV f v u
    | .agg ⟨a⟩, .agg ⟨b⟩ => (List.rec (motive := fun _ => List Value → Bool) (fun b => match b with | [] => true | _ => false) (fun x _ r b => match b with | y :: b => cond (sameV f x y) (r b) false | [] => false) a : List Value → Bool) b
    | .tuple ⟨a⟩, .tuple ⟨b⟩ => (List.rec (motive := fun _ => List Value → Bool) (fun b => match b with | [] => true | _ => false) (fun x _ r b => match b with | y :: b => cond (sameV f x y) (r b) false | [] => false) a : List Value → Bool) b
    | .func f' ⟨a⟩ ⟨c⟩, .func g ⟨b⟩ ⟨d⟩ => f' == g &&
       (List.rec (motive := fun _ => List Value → Bool) (fun b => match b with | [] => true | _ => false) (fun x _ r b => match b with | y :: b => cond (sameV f x y) (r b) false | [] => false) a : List Value → Bool) b &&
       (List.rec (motive := fun _ => List Value → Bool) (fun b => match b with | [] => true | _ => false) (fun x _ r b => match b with | y :: b => cond (sameV f x y) (r b) false | [] => false) c : List Value → Bool) d
    | _, _ => false) = true at h
   split at h
   · rw [eq_of_beq h]
   · rw [eqZ_iff] at h; rw [eq_of_beq h]
   · simp only [Bool.and_eq_true] at h; rw [eq_of_beq h.1, eq_of_beq h.2]
   · rename_i a b
     have := eq_of_beq h
     cases a with | mk a => cases b with | mk b => simp only at this; congr 2; exact Array.toList_inj.mp this
   · rfl
   · simp only [Bool.and_eq_true] at h; rw [beq_t h.1, beq_t h.2]
   · simp only [Bool.and_eq_true] at h; rw [beq_t h.1, beq_t h.2]
   · simp only [Bool.and_eq_true] at h; rw [beq_t h.1.1.1.1, beq_t h.1.1.1.2, beq_t h.1.1.2, beq_t h.1.2, beq_t h.2]
   · rfl
   · rw [beq_t h]
   · rfl
   · rfl
   · simp only [Bool.and_eq_true] at h; rw [beq_t h.1, ih _ _ h.2]
   · rw [sameL_eq ih _ _ h]
   · rw [sameL_eq ih _ _ h]
   · simp only [Bool.and_eq_true] at h; rw [eq_of_beq h.1.1, sameL_eq ih _ _ h.1.2, sameL_eq ih _ _ h.2]
   · cases h
theorem still_ok {P : Program} {a : IAct} {h : IH} : ∀ {re : List CStep}, stillB P re a h = true →
 ∀ r ∈ re, a.wants r.guard ≠ some false → ∃ u h2, r.op.run P a.eval h = some (u, h2) ∧ ∀ d, r.dst = some d → tget a.tmps d = u
 | [], _, r, hr, _ => by cases hr
 | r0 :: re, hs, r, hr, hw => by
   have e : stillB P (r0 :: re) a h = cond (match a.wants r0.guard with
    | some false => true
    | _ => match r0.op.run P a.eval h with
      | some (u, _) => match r0.dst with
        | some d => sameV 50 (tget a.tmps d) u
        | none => true
      | none => false) (stillB P re a h) false := rfl
   rw [e] at hs
   cases hc : (match a.wants r0.guard with
    | some false => true
    | _ => match r0.op.run P a.eval h with
      | some (u, _) => match r0.dst with
        | some d => sameV 50 (tget a.tmps d) u
        | none => true
      | none => false) with
   | false => rw [hc] at hs; cases hs
   | true =>
     rw [hc] at hs
     cases hr with
     | tail _ hr => exact still_ok hs r hr hw
     | head =>
       split at hc
       · rename_i hg; exact absurd hg hw
       · split at hc
         · rename_i u h2 hrun
           refine ⟨u, h2, hrun, fun d hd => ?_⟩
           rw [hd] at hc
           exact sameV_eq _ _ _ hc
         · cases hc
theorem ev_mono {P : Program} {c : CCode} {a : IAct} {h : IH} {K : KO} (e : EV P c a h K) : ∀ K' : KO, (∀ o a h, K o a h → K' o a h) → EV P c a h K' := by
 refine EV.rec (P := P) (motive_1 := fun c a h K _ => ∀ K' : KO, (∀ o a h, K o a h → K' o a h) → EV P c a h K')
  (motive_2 := fun ds l a h K _ => ∀ K' : KO, (∀ o a h, K o a h → K' o a h) → OPS P ds l a h K')
  (motive_3 := fun _ _ _ _ _ _ _ => True) (motive_4 := fun _ _ _ _ => True)
  ?_ ?_ ?_ ?_ ?_ ?_ ?_ ?_ ?_ ?_ ?_ ?_ ?_ ?_ ?_ ?_ ?_ ?_ ?_ ?_ ?_ ?_ ?_ ?_ ?_ ?_ ?_ ?_ ?_ ?_ ?_ ?_ e
 · intro a h K hk K' hK; exact .skip (hK _ _ _ hk)
 · intro ds l a h K ho i K' hK; exact .ops (i K' hK)
 · intro x y a h K M h1 h2 h3 i1 i2 K' hK; exact .seq M h1 (fun a' h' hm => i2 a' h' hm K' hK) (fun o a' h' hm hn => hK _ _ _ (h3 o a' h' hm hn))
 · intro c x y a h K hc h1 i1 K' hK; exact .condT hc (i1 K' hK)
 · intro c x y a h K hc h1 i1 K' hK; exact .condF hc (i1 K' hK)
 · intro id c a h K M h1 h2 i1 K' hK; exact .block M h1 (fun o a' h' hm => hK _ _ _ (h2 o a' h' hm))
 · intro c a h K M h1 h2 h3 i1 i2 K' hK; exact .loop M h1 (fun a' h' hm => i2 a' h' hm K' hK) (fun o a' h' hm hn => hK _ _ _ (h3 o a' h' hm hn))
 · intro c a h K h1 i1 K' hK; exact .scope (i1 K' hK)
 · intro id a h K hk K' hK; exact .exit (hK _ _ _ hk)
 · intro a h K hk K' hK; exact .ret (hK _ _ _ hk)
 · intro f ps assign body a h K fn first captured hf a1 h1 r hr M hc hok hpan i1 K' hK
   exact .rangeFunc fn first captured hf a1 h1 r hr M hc (fun v pm h2 hm => by
    obtain ⟨lp, q1, q2, q3⟩ := hok v pm h2 hm
    exact ⟨lp, q1, q2, hK _ _ _ q3⟩) (fun ch pm h2 hm => hK _ _ _ (hpan ch pm h2 hm))
 · intro c a h K a0 hw hn h1 i1 K' hK; exact .weaken a0 hw hn (i1 K' hK)
 · intro ds a h K hk K' hK; exact .nil (hK _ _ _ hk)
 · intro ds s l a h K hw h1 i1 K' hK; exact .skip hw (i1 K' hK)
 · intro ds s l a h K hw v h' hr hs h1 i1 K' hK; exact .det hw v h' hr hs (i1 K' hK)
 · intro ds s l a h K hw q hq M hc hs hok hpan i1 i2 K' hK; exact .call hw q hq M hc hs (fun v pm h' hm => i2 v pm h' hm K' hK) (fun ch pm h' hm => hK _ _ _ (hpan ch pm h' hm))
 · intro ds s l a h K hw ho hre hm hro h1 i1 K' hK; exact .recoverN hw ho hre hm hro (i1 K' hK)
 · intro ds s l a h K hw ho hre m hm hro h1 i1 K' hK; exact .recoverD hw ho hre m hm hro (i1 K' hK)
 · intro ds s l a h K hw x ho t v hx hk K' hK; exact .panic hw x ho t v hx (hK _ _ _ hk)
 · intro ds s l a h K hw f args ho hre hro fn first captured hf h1 i1 K' hK; exact .defer hw f args ho hre hro fn first captured hf (i1 K' hK)
 · intro ds s l a h K hw x ho hre alts ha h1 i1 K' hK; exact .next hw x ho hre alts ha (fun vh hv => i1 vh hv K' hK)
 all_goals intros; trivial
structure EvOK (V : Env) (E : Ev) : Prop where
 code : ∀ c a h K, E.code c a h K = true → EV V.P c a h (fun o a h => K o a h = true)
 call : ∀ q h K, E.call q h K = true → CALL V.P q h (fun r pm h => K r pm h = true)
structure EnvOK (V : Env) : Prop where
 memo : ∀ f q h v h', (V.memo f).bind (fun g => g q h) = some (v, h') → q.pm = none → (∃ args, target V.P q = some (f, args)) → CALL V.P q h (fun r pm h2 => r = .ok v ∧ pm = none ∧ h2 = h')
 fn : ∀ f cf, V.F f = some cf → ∃ fn, V.P.funcs[f]? = some fn ∧ cfunc V.P fn = some cf
theorem cond_t {a b : Bool} (h : cond a b false = true) : a = true ∧ b = true := by
 cases a with
 | false => cases h
 | true => exact ⟨rfl, h⟩
section
variable {V : Env} {E : Ev} (hE : EvOK V E)
include hE
theorem callB_ok {ds : List Tmp} {s : PStep} {l : List PStep} {a : IAct} {h : IH} {next : IAct → IH → Bool} {k : BO} (hw : a.wants s.s.guard = some true)
 (hn : ∀ a h, next a h = true → OPS V.P ds l a h (fun o a h => k o a h = true)) (hb : callB V.P E ds s a h next k = true) : OPS V.P ds (s :: l) a h (fun o a h => k o a h = true) := by
 unfold callB at hb
 cases hq : reqOf s.s.op a.eval with
 | none => rw [hq] at hb; cases hb
 | some q =>
   rw [hq] at hb
   have hc := hE.call _ _ _ hb
   refine .call hw q hq _ hc ?_ ?_ ?_
   · intro v pm h' hm; exact still_ok (cond_t hm).1
   · intro v pm h' hm; exact hn _ _ (cond_t hm).2
   · intro ch pm h' hm; exact hm
omit hE in
theorem noRe_t {s : PStep} {b : Bool} (h : noRe s b = true) : s.re = [] ∧ b = true := by
 unfold noRe at h
 split at h
 · rename_i e; exact ⟨e, h⟩
 · cases h
omit hE in
theorem detB_ok {ds : List Tmp} {s : PStep} {l : List PStep} {a : IAct} {h : IH} {next : IAct → IH → Bool} {k : BO} (hw : a.wants s.s.guard = some true)
 (hn : ∀ a h, next a h = true → OPS V.P ds l a h (fun o a h => k o a h = true)) (hb : detB V.P s a h next = true) : OPS V.P ds (s :: l) a h (fun o a h => k o a h = true) := by
 unfold detB at hb
 split at hb
 · rename_i v h' hr
   split at hb
   · rename_i e
     exact .det hw v h' hr (by rw [e]; intro r hr; cases hr) (hn _ _ hb)
   · exact .det hw v h' hr (still_ok (cond_t hb).1) (hn _ _ (cond_t hb).2)
 · cases hb
theorem stepB_ok {ds : List Tmp} {s : PStep} {l : List PStep} {a : IAct} {h : IH} {next : IAct → IH → Bool} {k : BO} (hw : a.wants s.s.guard = some true)
 (hn : ∀ a h, next a h = true → OPS V.P ds l a h (fun o a h => k o a h = true)) (hb : stepB V.P E ds s a h next k = true) : OPS V.P ds (s :: l) a h (fun o a h => k o a h = true) := by
 unfold stepB at hb
 split at hb
 · exact callB_ok hE hw hn hb
 · exact callB_ok hE hw hn hb
 · rename_i ho
   obtain ⟨hre, hb⟩ := noRe_t hb
   split at hb
   · cases hb
   · rename_i hro
     split at hb
     · rename_i hm; exact .recoverN hw ho hre hm hro (hn _ _ hb)
     · rename_i m hm; exact .recoverD hw ho hre m hm hro (hn _ _ hb)
 · rename_i x ho
   split at hb
   · rename_i t v hx; exact .panic hw x ho t v hx hb
   · cases hb
 · rename_i f args ho
   obtain ⟨hre, hb⟩ := noRe_t hb
   split at hb
   · cases hb
   · rename_i hro
     split at hb
     · rename_i fn first captured hf
       exact .defer hw f args ho hre hro fn first captured hf (hn _ _ hb)
     · cases hb
 · rename_i x ho
   obtain ⟨hre, hb⟩ := noRe_t hb
   split at hb
   · rename_i alts ha
     refine .next hw x ho hre alts ha fun vh hv => ?_
     rw [lall_eq, List.all_eq_true] at hb
     exact hn _ _ (hb vh hv)
   · cases hb
 · exact detB_ok hw hn hb
theorem opsB_ok {ds : List Tmp} {k : BO} : ∀ {l : List PStep} {a : IAct} {h : IH}, opsB V.P E ds l a h k = true → OPS V.P ds l a h (fun o a h => k o a h = true)
 | [], a, h, hb => .nil hb
 | s :: l, a, h, hb => by
   have e : opsB V.P E ds (s :: l) a h k = (match a.wants s.s.guard with
    | some true => stepB V.P E ds s a h (fun a h => opsB V.P E ds l a h k) k
    | some false => opsB V.P E ds l (a.put s.s.dst skipV) h k
    | none => false) := rfl
   rw [e] at hb
   split at hb
   · rename_i hw; exact stepB_ok hE hw (fun a h h1 => opsB_ok h1) hb
   · rename_i hw; exact .skip hw (opsB_ok hb)
   · cases hb
theorem leaveB_ok {cf : CFunc} {ts : T Value} : ∀ {ds : List Deferred} {m : FrameMode} {h : IH} {k : Ret → IH → Bool}, leaveB E cf ts ds m h k = true → LEAVE V.P cf ts ds m h (fun r h => k r h = true)
 | [], m, h, k, hb => by
   have e : leaveB E cf ts [] m h k = (match (generalizing := false) m with
    | .returning => match resultsI cf.results ts h with
      | some v => k (.ok v) h
      | none => false
    | .panicking ch => k (.pan ch) h
    | .run => false) := rfl
   rw [e] at hb
   split at hb
   · split at hb
     · rename_i v hv; exact .ret v hv hb
     · cases hb
   · rename_i ch; exact .pan ch hb
   · cases hb
 | d :: ds, m, h, k, hb => by
   have e : leaveB E cf ts (d :: ds) m h k = (match (generalizing := false) m with
    | .run => false
    | m => match (generalizing := false) d with
      | { target := .collected r, .. } => match h.get r with
        | some (.defs true) => leaveB E cf ts ds m (h.set r (.defs false)) k
        | _ => false
      | { target := .fn fn ⟨captured⟩, args := ⟨args⟩ } => E.call ⟨fn, args, captured, some m⟩ h fun r pm h => match pm with
        | none => false
        | some m' => match r with
          | .ok _ => leaveB E cf ts ds (settleI m') h k
          | .pan ch => leaveB E cf ts ds (raisedI m' ch) h k
      | _ => false) := rfl
   rw [e] at hb
   split at hb
   · cases hb
   · rename_i hm
     have hm' : m ≠ .run := by intro e; exact hm e
     split at hb
     · rename_i r args
       split at hb
       · rename_i hr; exact .coll hm' r hr (leaveB_ok hb)
       · cases hb
     · rename_i fn captured args
       have hc := hE.call _ _ _ hb
       refine .call hm' _ hc ?_ ?_ ?_
       · intro r pm h' hM e; rw [e] at hM; cases hM
       · intro v m' h' hM; exact leaveB_ok hM
       · intro ch m' h' hM; exact leaveB_ok hM
     · cases hb
variable (hV : EnvOK V)
include hV
theorem enterB_ok {q : Req} {f : FuncId} {args : List Value} {h : IH} {k : BR} (ht : target V.P q = some (f, args)) (hb : enterB V E f args q.pm h k = true) : CALL V.P q h (fun r pm h => k r pm h = true) := by
 unfold enterB at hb
 split at hb
 · cases hb
 · rename_i cf hcf
   obtain ⟨fn, hf, hfn⟩ := hV.fn f cf hcf
   have hc := hE.code _ _ _ _ hb
   refine .enter f args ht fn hf cf hfn _ hc ?_ ?_
   · intro o a' h' hM e; rw [e] at hM; cases hM
   · intro o a' h' m hM e; rw [e] at hM; exact leaveB_ok hE hM
omit hV in
theorem roundB_ok {q : Req} {l : Nat} {h : IH} {k : BR} (hq : q.fn = .yield l) (hpm : q.pm = none) (hb : roundB E l q.args h k = true) : CALL V.P q h (fun r pm h => k r pm h = true) := by
 unfold roundB at hb
 split at hb
 · rename_i r hr
   obtain ⟨ha, hb⟩ := cond_t hb
   have ha := beq_t ha
   rw [llen_eq, llen_eq] at ha
   have hc := hE.code _ _ _ _ hb
   refine .round l hq hpm r hr ha _ hc ?_ ?_
   · intro o a' h' hM
     split at hM
     · split at hM
       · rename_i r1 hr1
         split at hM
         · rename_i hs; exact ⟨rfl, r1, hr1, hs⟩
         · cases hM
       · cases hM
     · cases hM
   · intro a' h' r1 hM hr1
     simp only [hr1] at hM
     split at hM
     · have hc2 := hE.code _ _ _ _ hM
       refine ev_mono hc2 _ ?_
       intro o a2 h2 hK
       unfold endRoundB at hK
       split at hK
       · rename_i hd
         split at hK
         · rename_i r2 hr2
           refine ⟨r2, hr2, hd, ?_⟩
           cases o <;> exact hK
         · cases hK
       · cases hK
     · cases hM
 · cases hb
omit hE in
theorem memoB_ok {q : Req} {h : IH} {k : BR} {f : Nat} {args : List Value} {other : Bool} (ht : target V.P q = some (f, args)) (ho : other = true → CALL V.P q h (fun r pm h => k r pm h = true))
 (hb : memoB V f q h k other = true) : CALL V.P q h (fun r pm h => k r pm h = true) := by
 unfold memoB at hb
 split at hb
 · exact ho hb
 · rename_i g hg
   split at hb
   · exact ho hb
   · rename_i hpm
     split at hb
     · rename_i v h' hv
       refine .conseq _ (hV.memo f q h v h' (by rw [hg]; exact hv) hpm ⟨args, ht⟩) ?_
       rintro r pm h2 ⟨rfl, rfl, rfl⟩
       exact hb
     · exact ho hb
theorem callB'_ok (q : Req) (h : IH) (k : BR) (hb : callB' V E q h k = true) : CALL V.P q h (fun r pm h => k r pm h = true) := by
 unfold callB' at hb
 split at hb
 · rename_i l hq
   split at hb
   · rename_i hpm; exact roundB_ok hE hq hpm hb
   · cases hb
 · split at hb
   · cases hb
   · rename_i f' args ht
     refine memoB_ok hV ht (fun hb => ?_) hb
     split at hb
     · exact enterB_ok hE hV ht hb
     · rename_i g hg
       split at hb
       · cases hb
       · rename_i hpm
         have hent : ∀ h k, enterB V E f' args none h k = true → CALL V.P q h (fun r pm h => k r pm h = true) := by
          intro h k hh; exact enterB_ok hE hV ht (by rw [hpm]; exact hh)
         split at hb
         · rw [hpm] at hb; exact hent _ _ hb
         · rw [hpm] at hb; exact hent _ _ hb
         · rename_i cs n f hne hgq
           obtain ⟨h1, hb⟩ := cond_t hb
           obtain ⟨h2, hb⟩ := cond_t hb
           simp only [Bool.and_eq_true, Bool.or_eq_true] at h1
           have hne' : cs ≠ [] := by
            intro e
            subst e
            exact hne rfl
           refine .cut cs n f h1.1 hne' ?_ _ (hent _ _ h2) hpm ?_ hb
           · rcases h1.2 with e | e
             · exact .inl (beq_t e)
             · right; have := beq_t e; rw [llen_eq] at this; exact this
           · intro r pm h' hM
             unfold cutB at hM
             split at hM
             · cases hM
             · split at hM
               · rename_i i o f'' n' c
                 obtain ⟨h3, h4⟩ := cond_t hM
                 simp only [Bool.and_eq_true, Bool.or_eq_true, Bool.not_eq_true'] at h3
                 obtain ⟨⟨⟨⟨e1, e2⟩, e3⟩, e4⟩, e5⟩ := h3
                 have e1 := beq_t e1
                 have e2 := beq_t e2
                 subst e1
                 subst e2
                 refine ⟨rfl, beq_t e5, i, o, c, rfl, Nat.le_of_ble_eq_true e4, ?_, ?_⟩
                 · intro e
                   rcases e3 with e3 | e3
                   · subst e; cases e3
                   · exact beq_t e3
                 · split at h4
                   · rename_i l hl
                     rw [sameL_eq (sameV_eq 5) _ _ h4] at hl
                     rw [llen_eq] at hl
                     rw [hl]
                   · cases h4
               · cases hM
omit hV in
theorem codeB_ok (c : CCode) (a : IAct) (h : IH) (k : BO) (hb : codeB V E c a h k = true) : EV V.P c a h (fun o a h => k o a h = true) := by
 cases c with
 | skip => exact .skip hb
 | ops ds l => exact .ops (opsB_ok hE hb)
 | seq x y =>
   refine .seq _ (hE.code _ _ _ _ hb) ?_ ?_
   · intro a' h' hm; exact hE.code _ _ _ _ hm
   · intro o a' h' hm hn
     cases o with
     | normal => exact absurd rfl hn
     | exit _ => exact hm
     | ret => exact hm
     | panic _ => exact hm
 | cond c x y =>
   simp only [codeB] at hb
   split at hb
   · rename_i hc; exact .condT hc (hE.code _ _ _ _ hb)
   · rename_i hc; exact .condF hc (hE.code _ _ _ _ hb)
   · cases hb
 | block id c => exact .block _ (hE.code _ _ _ _ hb) (fun o a' h' hm => hm)
 | loop c =>
   refine .loop _ (hE.code _ _ _ _ hb) ?_ ?_
   · intro a' h' hm; exact hE.code _ _ _ _ hm
   · intro o a' h' hm hn
     cases o with
     | normal => exact absurd rfl hn
     | exit _ => exact hm
     | ret => exact hm
     | panic _ => exact hm
 | scope c => exact .scope (hE.code _ _ _ _ hb)
 | exit id => exact .exit hb
 | ret => exact .ret hb
 | fail => cases hb
 | rangeFunc f ps assign body =>
   simp only [codeB] at hb
   split at hb
   · rename_i fn first captured hf
     split at hb
     · rename_i hro
       refine .rangeFunc fn first captured hf _ _ h.next (.inl ⟨hro, rfl, rfl, rfl⟩) _ (hE.call _ _ _ hb) ?_ ?_
       · intro v pm h2 hm
         dsimp only at hm
         split at hm
         · rename_i lp hlp
           split at hm
           · cases hm
           · rename_i hs; exact ⟨lp, hlp, fun e => hs e, hm⟩
         · cases hm
       · intro ch pm h2 hm; exact hm
     · rename_i l0 hro
       split at hb
       · rename_i r0 hr0
         refine .rangeFunc fn first captured hf _ _ r0.defers (.inr ⟨l0, r0, hro, rfl, rfl, hr0, rfl⟩) _ (hE.call _ _ _ hb) ?_ ?_
         · intro v pm h2 hm
           dsimp only at hm
           split at hm
           · rename_i lp hlp
             split at hm
             · cases hm
             · rename_i hs; exact ⟨lp, hlp, fun e => hs e, hm⟩
           · cases hm
         · intro ch pm h2 hm; exact hm
       · cases hb
   · cases hb
end
theorem evB_ok {V : Env} (hV : EnvOK V) : ∀ n, EvOK V (evB V n)
 | 0 => ⟨(fun _ _ _ _ h => by cases h), (fun _ _ _ h => by cases h)⟩
 | n + 1 => ⟨fun c a h k hb => codeB_ok (evB_ok hV n) c a h k hb, fun q h k hb => callB'_ok (evB_ok hV n) hV q h k hb⟩
theorem envOf_ok (P : Program) (cut memo) (hm : ∀ f q h v h', (memo f).bind (fun g => g q h) = some (v, h') → q.pm = none → (∃ args, target P q = some (f, args)) → CALL P q h (fun r pm h2 => r = .ok v ∧ pm = none ∧ h2 = h')) : EnvOK (envOf P cut memo) where
 memo := hm
 fn f cf h := by
  have e : (envOf P cut memo).F f = (match (treeF 100000 P.funcs.toList).get f with
   | some fn => cfunc P fn
   | none => none) := rfl
  rw [e] at h
  split at h
  · rename_i fn hf
    refine ⟨fn, ?_, h⟩
    have := treeF_get _ _ _ _ hf
    rw [Array.getElem?_toList] at this
    exact this
  · cases h
end Go.Ideal
namespace Go.Ideal
variable {P : Program}
def lk (l : List (Nat × Value)) (k : Nat) : Value :=
 match l with
 | [] => unk
 | (j, v) :: l => cond (Nat.beq k j) v (lk l k)
noncomputable def envT : List (Nat × Value) → T Value
 | [] => .leaf
 | (j, v) :: l => (envT l).set j (some v)
theorem tget_envT : ∀ (l : List (Nat × Value)) (k : Nat), tget (envT l) k = lk l k
 | [], k => rfl
 | (j, v) :: l, k => by
   have ih := tget_envT l k
   unfold tget at ih ⊢
   simp only [envT, lk, T.get_set]
   by_cases e : k = j
   · subst e; simp
   · have : Nat.beq k j = false := by
      cases hb : Nat.beq k j with
      | false => rfl
      | true => exact absurd (Nat.eq_of_beq_eq_true hb) e
     rw [if_neg e, this]; exact ih
noncomputable def act (n : Nat) (l : List (Nat × Value)) (D : List Deferred) (pm : Option FrameMode) (ro : Option Nat) : IAct := ⟨n, envT l, D, pm, ro⟩
def ev (l : List (Nat × Value)) (x : Operand) : Value :=
 match x with
 | .tmp t => lk l t
 | .const v => v
 | .global g => .pointer (some ⟨g, 0, none⟩)
 | .func f => .func (.func f) #[] #[]
section
variable {n : Nat} {l : List (Nat × Value)} {D : List Deferred} {pm : Option FrameMode} {ro : Option Nat}
theorem eval_act : (act n l D pm ro).eval = ev l := by
 funext x
 cases x with
 | tmp t => exact tget_envT l t
 | _ => rfl
theorem put_act {d : Nat} {v : Value} (h : Nat.blt d n = true) : (act n l D pm ro).put (some d) v = act n ((d, v) :: l) D pm ro := by
 simp only [act, IAct.put, IAct.set, h, cond]; rfl
theorem wants_act (t : Nat) (want : Bool) : (act n l D pm ro).wants (some (t, want)) = match lk l t with
 | .bool b => some (cond want b (!b))
 | .chan _ => some false
 | _ => none := by
 unfold IAct.wants; simp only [act, tget_envT]; cases lk l t <;> rfl
def weaker (a0 a : IAct) : Prop := (∀ i, tget a0.tmps i = unk ∨ tget a0.tmps i = tget a.tmps i) ∧ a0.n = a.n ∧ a0.defers = a.defers ∧ a0.pm = a.pm ∧ a0.ro = a.ro
def sub : List (Nat × Value) → List (Nat × Value) → Prop
 | [], _ => True
 | (k, v) :: l0, l => lk l k = v ∧ sub l0 l
theorem lk_sub : ∀ {l0 l : List (Nat × Value)}, sub l0 l → ∀ i, lk l0 i = unk ∨ lk l0 i = lk l i
 | [], l, _, i => .inl rfl
 | (k, v) :: l0, l, h, i => by
   simp only [lk]
   cases hb : Nat.beq i k with
   | true => right; rw [Nat.eq_of_beq_eq_true hb]; exact h.1.symm
   | false => exact lk_sub h.2 i
theorem weaker_act {l0 : List (Nat × Value)} (h : sub l0 l) : weaker (act n l0 D pm ro) (act n l D pm ro) :=
 ⟨fun i => by simp only [act, tget_envT]; exact lk_sub h i, rfl, rfl, rfl, rfl⟩
def seqK (P : Program) (y : CCode) (K : KO) : KO := fun o a h => match o with
 | .normal => EV P y a h K
 | o => K o a h
theorem w_seq {x y : CCode} {a : IAct} {h : IH} {K : KO} (h1 : EV P x a h (seqK P y K)) : EV P (.seq x y) a h K :=
 .seq _ h1 (fun _ _ hm => hm) (fun o a' h' hm hn => by
  cases o with
  | normal => exact absurd rfl hn
  | _ => exact hm)
def blockK (id : Nat) (K : KO) : KO := fun o a h => K (inBlock id o) a h
theorem w_block {id : Nat} {c : CCode} {a : IAct} {h : IH} {K : KO} (h1 : EV P c a h (blockK id K)) : EV P (.block id c) a h K := .block _ h1 (fun _ _ _ hm => hm)
theorem w_cond {c : Operand} {x y : CCode} {h : IH} {K : KO} (b : Bool) (hc : ev l c = .bool b) (h1 : b = true → EV P x (act n l D pm ro) h K) (h2 : b = false → EV P y (act n l D pm ro) h K) : EV P (.cond c x y) (act n l D pm ro) h K := by
 cases b with
 | true => exact .condT (by rw [eval_act]; exact hc) (h1 rfl)
 | false => exact .condF (by rw [eval_act]; exact hc) (h2 rfl)
def loopK (I : Nat → IAct → IH → Prop) (m : Nat) (K : KO) : KO := fun o a h => match o with
 | .normal => ∃ m' a0, m' < m ∧ weaker a0 a ∧ I m' a0 h
 | o => K o a h
theorem w_loop {c : CCode} {K : KO} (I : Nat → IAct → IH → Prop) (hb : ∀ m a h, I m a h → EV P c a h (loopK I m K)) : ∀ m a h, I m a h → EV P (.loop c) a h K := by
 intro m
 induction m using Nat.strongRecOn with
 | ind m ih =>
   intro a h hI
   refine .loop _ (hb m a h hI) ?_ ?_
   · rintro a' h' ⟨m', a0, hlt, hw, hI'⟩
     exact .weaken a0 hw.1 hw.2 (ih m' hlt a0 h' hI')
   · intro o a' h' hm hn
     cases o with
     | normal => exact absurd rfl hn
     | _ => exact hm
theorem w_weak {c : CCode} {a : IAct} {h : IH} {K : KO} {a0 : IAct} (hw : weaker a0 a) (h1 : EV P c a0 h K) : EV P c a h K := .weaken a0 hw.1 hw.2 h1
section
variable {ds : List Tmp} {rest : List PStep} {h : IH} {K : KO}
theorem step {d : Nat} {op : COp} {v : Value} {h' : IH} (hn : Nat.blt d n = true) (hr : op.run P (ev l) h = some (v, h'))
 (next : OPS P ds rest (act n ((d, v) :: l) D pm ro) h' K) : OPS P ds (⟨⟨some d, none, op⟩, []⟩ :: rest) (act n l D pm ro) h K :=
 .det rfl v h' (by rw [eval_act]; exact hr) (by intro r hr; cases hr) (by rw [put_act hn]; exact next)
theorem stepG {d t : Nat} {want : Bool} {op : COp} (hn : Nat.blt d n = true) (b : Bool) (ht : lk l t = .bool b)
 (h1 : b = want → ∃ v h', op.run P (ev l) h = some (v, h') ∧ OPS P ds rest (act n ((d, v) :: l) D pm ro) h' K)
 (h2 : b ≠ want → OPS P ds rest (act n ((d, skipV) :: l) D pm ro) h K) : OPS P ds (⟨⟨some d, some (t, want), op⟩, []⟩ :: rest) (act n l D pm ro) h K := by
 by_cases e : b = want
 · obtain ⟨v, h', hr, hnx⟩ := h1 e
   refine .det ?_ v h' (by rw [eval_act]; exact hr) (by intro r hr; cases hr) (by rw [put_act hn]; exact hnx)
   show (act n l D pm ro).wants (some (t, want)) = some true
   rw [wants_act, ht, e]; cases want <;> rfl
 · refine .skip ?_ (by rw [put_act hn]; exact h2 e)
   show (act n l D pm ro).wants (some (t, want)) = some false
   rw [wants_act, ht]; cases want <;> cases b <;> first | rfl | exact absurd rfl e
end
end
def retK (cf : CFunc) (K : KR) : KO := fun o a h =>
 match o with
 | .normal | .ret => ∃ v, resultsI cf.results a.tmps h = some v ∧ LEAVE0 a ∧ K (.ok v) a.pm h
 | .panic ch => LEAVE0 a ∧ K (.pan ch) a.pm h
 | .exit _ => False
where LEAVE0 (a : IAct) : Prop := a.defers = []
theorem c_plain {f : FuncId} {args cap : List Value} {pm : Option FrameMode} {h : IH} {K : KR} (fn : Func) (hf : P.funcs[f]? = some fn) (cf : CFunc) (hcf : cfunc P fn = some cf)
 (hb : EV P cf.body (initAct cf.ntmps (args ++ cap) pm) h (retK cf K)) : CALL P ⟨.func f, args, cap, pm⟩ h K := by
 refine .enter f (args ++ cap) (by simp only [target, lapp_eq]) fn hf cf hcf _ hb ?_ ?_
 · intro o a h hm e
   cases o with
   | exit _ => exact hm
   | _ => cases e
 · intro o a h' m hm he
   cases o with
   | exit _ => cases hm
   | normal =>
     obtain ⟨v, h1, h2, h3⟩ := hm
     cases he
     have h2 : a.defers = [] := h2
     rw [h2]; exact .ret v h1 h3
   | ret =>
     obtain ⟨v, h1, h2, h3⟩ := hm
     cases he
     have h2 : a.defers = [] := h2
     rw [h2]; exact .ret v h1 h3
   | panic ch =>
     obtain ⟨h2, h3⟩ := hm
     cases he
     have h2 : a.defers = [] := h2
     rw [h2]; exact .pan ch h3
end Go.Ideal
namespace Go.Ideal
noncomputable def insZ (k : Int) (l : List Int) : List Int :=
 List.rec (motive := fun _ => List Int) [k] (fun x l ih => cond (leZ k x) (k :: x :: l) (x :: ih)) l
noncomputable def intsOf (l : List MapEntry) : Option (List Int) :=
 List.rec (motive := fun _ => Option (List Int)) (some []) (fun e _ ih => match e.key, ih with
  | .int .i64 k, some r => some (insZ k r)
  | _, _ => none) l
noncomputable def cutKeys (s f : Nat) : Nat → Option (Req → IH → Option (List Value × Nat × Nat)) := fun g =>
 cond (Nat.beq g s) (some fun q h => match q.args with
  | [.func (.func f') ⟨[]⟩ ⟨[.pointer (some ⟨b, o, none⟩)]⟩] => cond (Nat.beq f' f) (match h.cellsAt b o 1 with
    | some [.map (some m)] => match h.get m with
      | some (.map es _) => match intsOf es with
        | some l => some (lmap (fun k => .int .i64 k) l, llen l, 1)
        | none => none
      | _ => none
    | _ => none) none
  | _ => none) none
noncomputable def sameO (a b : IObj) : Bool :=
 match a, b with
 | .cells x, .cells y => sameV 5 (.agg ⟨x⟩) (.agg ⟨y⟩)
 | _, _ => false
theorem sameO_eq {a b : IObj} (h : sameO a b = true) : a = b := by
 unfold sameO at h
 split at h
 · have := sameV_eq _ _ _ h
   injection this with this
   injection this with this
   rw [this]
 · cases h
noncomputable def hasO (l : List (Nat × IObj)) (h : IH) : Bool :=
 lall (fun p => match h.get p.1 with
  | some o => sameO p.2 o
  | none => false) l
noncomputable def heapT : List (Nat × IObj) → T IObj
 | [] => .leaf
 | (i, o) :: l => (heapT l).set i (some o)
theorem heapT_get : ∀ (l : List (Nat × IObj)) (i : Nat), (heapT l).get i = none ∨ ∃ o, (i, o) ∈ l ∧ (heapT l).get i = some o
 | [], i => .inl rfl
 | (j, o) :: l, i => by
   simp only [heapT, T.get_set]
   by_cases e : i = j
   · subst e; right; exact ⟨o, List.mem_cons_self .., by simp⟩
   · rw [if_neg e]
     rcases heapT_get l i with h | ⟨o', h1, h2⟩
     · exact .inl h
     · exact .inr ⟨o', List.mem_cons_of_mem _ h1, h2⟩
theorem hasO_get {l : List (Nat × IObj)} {h : IH} (hh : hasO l h = true) : ∀ i o, (i, o) ∈ l → h.get i = some o := by
 intro i o hm
 unfold hasO at hh
 rw [lall_eq, List.all_eq_true] at hh
 have := hh _ hm
 dsimp only at this
 split at this
 · rename_i o' he; rw [he, sameO_eq this]
 · cases this
noncomputable def known (l : List (Nat × IObj)) (n : Nat) (fn : Nat) (args : List Value) (v : Value) : Req → IH → Option (Value × IH) := fun q h =>
 match q with
 | ⟨.func f, as, [], none⟩ => cond (Nat.beq f fn && sameV 5 (.tuple ⟨args⟩) (.tuple ⟨as⟩) && Nat.ble n h.next && hasO l h) (some (v, h)) none
 | _ => none
theorem known_ok {P : Program} {l : List (Nat × IObj)} {n fn : Nat} {args : List Value} {v : Value} (hv : addrFree v = true) (hb : belowVs n args = true) (hl : l.all (fun p => Nat.blt p.1 n && belowO n p.2) = true)
 (hgl : P.globals.size ≤ n) (hc : CALL P ⟨.func fn, args, [], none⟩ ⟨heapT l, n, n⟩ (fun r pm h' => pm = none ∧ r = .ok v ∧ h'.low = n))
 {q : Req} {h : IH} {v' : Value} {h' : IH} (hk : known l n fn args v q h = some (v', h')) : CALL P q h (fun r pm h2 => r = .ok v' ∧ pm = none ∧ h2 = h') := by
 unfold known at hk
 split at hk
 · rename_i f as
   cases hcd : (Nat.beq f fn && sameV 5 (.tuple ⟨args⟩) (.tuple ⟨as⟩) && Nat.ble n h.next && hasO l h) with
   | false => rw [hcd] at hk; cases hk
   | true =>
     rw [hcd] at hk
     simp only [cond, Option.some.injEq, Prod.mk.injEq] at hk
     obtain ⟨rfl, rfl⟩ := hk
     simp only [Bool.and_eq_true] at hcd
     obtain ⟨⟨⟨h1, h2⟩, h3⟩, h4⟩ := hcd
     have h1 := beq_t h1
     subst h1
     have h2 := sameV_eq _ _ _ h2
     injection h2 with h2
     injection h2 with h2
     subst h2
     refine .memo ⟨heapT l, n, n⟩ v hv rfl ?_ (Nat.le_of_ble_eq_true h3) hgl ?_ _ hc (fun r pm h' h => h) ⟨rfl, rfl, rfl⟩
     · show belowV n (.func (.func f) ⟨args⟩ ⟨[]⟩) = true
       simp [belowV, belowVs, hb]
     · intro i o ho
       rcases heapT_get l i with e | ⟨o', e1, e2⟩
       · exact absurd (ho.symm.trans e) (by simp)
       · have : o' = o := by have := e2.symm.trans ho; simpa using this
         subst this
         rw [List.all_eq_true] at hl
         have := hl _ e1
         simp only [Bool.and_eq_true] at this
         exact ⟨blt_lt this.1, hasO_get h4 i o' e1, this.2⟩
 · cases hk
theorem closed_call {V : Env} (hV : EnvOK V) {n : Nat} {q : Req} {h : IH} {K : BR} (hb : (evB V n).call q h K = true) : CALL V.P q h (fun r pm h => K r pm h = true) :=
 (evB_ok hV n).call q h K hb
noncomputable def gives (v : Value) (n : Nat) : BR := fun r pm h => match pm with
 | some _ => false
 | none => match r with
   | .ok v' => sameV 5 v v' && Nat.beq h.low n
   | .pan _ => false
theorem gives_ok {v : Value} {n : Nat} {r : Ret} {pm : Option FrameMode} {h : IH} (hg : gives v n r pm h = true) : pm = none ∧ r = .ok v ∧ h.low = n := by
 unfold gives at hg
 split at hg
 · cases hg
 · split at hg
   · simp only [Bool.and_eq_true] at hg
     exact ⟨rfl, by rw [sameV_eq _ _ _ hg.1], beq_t hg.2⟩
   · cases hg
end Go.Ideal

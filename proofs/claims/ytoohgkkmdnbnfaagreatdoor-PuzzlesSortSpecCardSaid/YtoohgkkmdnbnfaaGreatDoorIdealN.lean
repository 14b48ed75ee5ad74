/-
  The ideal machine, 66: functions that may panic; deferred functions that recover.
-/
import Derived.Test.YtoohgkkmdnbnfaaGreatDoorIdealM
import Derived.Sort.Row
import Derived.Sort.Grow
import Derived.Test.YtoohgkkmdnbnfaaGreatDoorIdealK
import Derived.Laws.StructEq
set_option linter.unusedSimpArgs false
set_option linter.unusedVariables false
set_option linter.unusedSectionVars false
namespace Go.Ideal
variable {P : Program}
section
variable {B : List Nat} {w0 : Wd} {kl kl' klr : List OA} {F : List Fact} {K : KO} {ds : List Tmp} {rest : List PStep} {n : Nat} {l : List (Nat × Value)} {D : List Deferred} {pm : Option FrameMode} {ro : Option Nat} {d : Nat} {g : Option (Tmp × Bool)}
variable {cf : CFunc} {Kr : Ret → IH → Prop}
end
end Go.Ideal
namespace Go.Ideal
variable {P : Program}
theorem perm_inj {α β : Type} (f : α → β) (hf : ∀ a b, f a = f b → a = b) {l1 l2 : List α} (h : (l1.map f).Perm (l2.map f)) : l1.Perm l2 := by
 classical
 rw [List.perm_iff_count]
 intro a
 have := h.count_eq (f a)
 have key : ∀ l : List α, (l.map f).count (f a) = l.count a := by
  intro l
  induction l with
  | nil => rfl
  | cons x l ih =>
    rw [List.map_cons, List.count_cons, List.count_cons, ih]
    by_cases e : x = a
    · subst e; simp
    · have : ¬ f x = f a := fun h => e (hf _ _ h)
      simp [e, this]
 rw [key, key] at this
 exact this
theorem nodup_map_inj {α β : Type} {f : α → β} : ∀ {l : List α}, (l.map f).Nodup → ∀ {a b : α}, a ∈ l → b ∈ l → f a = f b → a = b
 | [], _, a, b, ha, _, _ => by cases ha
 | x :: l, h, a, b, ha, hb, e => by
   rw [List.map_cons, List.nodup_cons] at h
   obtain ⟨hx, hl⟩ := h
   rcases List.mem_cons.1 ha with h1 | ha <;> rcases List.mem_cons.1 hb with h2 | hb
   · rw [h1, h2]
   · rw [← h1, e] at hx; exact absurd (List.mem_map_of_mem hb) hx
   · rw [← h2, ← e] at hx; exact absurd (List.mem_map_of_mem ha) hx
   · exact nodup_map_inj hl ha hb e
def fnd {α : Type} [DecidableEq α] (a : α) : List (α × Value) → Nat → Option (Nat × Value)
 | [], _ => none
 | (b, v) :: l, i => if a = b then some (i, v) else fnd a l (i + 1)
def EntOf {α : Type} (toV : α → Value) (kvs : List (α × Value)) (es : List MapEntry) : Prop := es.map (fun e => (e.key, e.val)) = kvs.map fun p => (toV p.1, p.2)
structure KeyT (P : Program) (kt : TypeId) {α : Type} [DecidableEq α] (toV : α → Value) : Prop where
 chk : ∀ a, checkK P kt (toV a) = true
 find : ∀ a kvs es, EntOf toV kvs es → findK P kt (toV a) es = some (fnd a kvs 0)
 same : ∀ a, Instr.sameBits 10000 (toV a) (toV a) = true
structure MapOK {α : Type} (toV : α → Value) (kvs : List (α × Value)) (es : List MapEntry) (clock : Nat) : Prop where
 ent : EntOf toV kvs es
 lt : ∀ e ∈ es, e.born < clock
 nd : (es.map (·.born)).Nodup
 keys : (kvs.map (·.1)).Nodup
def fMap {α : Type} (toV : α → Value) (b : Nat) (kvs : List (α × Value)) : Fact := ⟨fun w => w.z b ∧ ∃ es clock, w.h.get b = some (.map es clock) ∧ MapOK toV kvs es clock, fun a ⟨h1, es, clock, h2, h3⟩ => ⟨a.z b h1, es, clock, by rw [a.get b h1]; exact h2, h3⟩⟩
section
variable {B : List Nat} {w0 : Wd} {kl kl' klr : List OA} {F : List Fact} {K : KO} {ds : List Tmp} {rest : List PStep} {n : Nat} {l : List (Nat × Value)} {D : List Deferred} {pm : Option FrameMode} {ro : Option Nat} {d : Nat} {g : Option (Tmp × Bool)}
variable {α : Type} [DecidableEq α] {toV : α → Value}
theorem mapOK_len {kvs : List (α × Value)} {es : List MapEntry} {clock : Nat} (h : MapOK toV kvs es clock) : es.length = kvs.length := by
 have := congrArg List.length h.ent
 simpa using this
def itA {α : Type} (toV : α → Value) (r b : Nat) (kvs vis : List (α × Value)) : OA := ⟨fun w S => S = [r] ∧ ∃ es clock seen last, w.h.get b = some (.map es clock) ∧ w.z b ∧ MapOK toV kvs es clock ∧ w.h.get r = some (.mapIter (some b) clock seen last) ∧ last = clock ∧
 (∃ ve rem : List MapEntry, EntOf toV vis ve ∧ ve.map (·.born) = seen ∧ (ve ++ rem).Perm es),
 fun a h ⟨h1, es, clock, seen, last, h2, h3, h4, h5, h6, h7⟩ => ⟨h1, es, clock, seen, last, by rw [a.get b h3]; exact h2, a.z b h3, h4, by rw [h r (by rw [h1]; exact List.mem_singleton.2 rfl)]; exact h5, h6, h7⟩⟩
theorem q_rangeMap {m : Operand} {b : Nat} {kvs : List (α × Value)}
 (next : ∀ r, R (fun h => OPS P ds rest (act n ((d, .pointer (some ⟨r, 0, none⟩)) :: l) D pm ro) h K) B w0 (itA toV r b kvs [] :: kl) F)
 (hm : ev l m = .map (some b) := by rfl) (hf : autoParam (fMap toV b kvs ∈ F) aMem._auto_1) (hn : Nat.blt d n = true := by rfl) (hg : gok l g = true := by rfl) :
 R (fun h => OPS P ds (⟨⟨some d, g, .rangeMap m⟩, []⟩ :: rest) (act n l D pm ro) h K) B w0 kl F := fun w s => by
 obtain ⟨hz, es, clock, h1, h2⟩ := s.facts _ hf
 refine s_run hn hg (h' := w.h.new (.mapIter (some b) clock [] clock)) (by simp only [COp.run, hm, h1]) (next w.h.next (w.new _) ?_)
 have s1 := s.new (.mapIter (some b) clock [] clock)
 obtain ⟨hz', es', clock', h1', h2'⟩ := s1.facts _ hf
 refine s1.turnA' fun S hp => ⟨hp.1, es', clock', [], clock, h1', hz', h2', ?_, ?_, [], es', rfl, rfl, .refl _⟩
 · have : clock' = clock := by
    have e : (w.new (.mapIter (some b) clock [] clock)).h.get b = w.h.get b := by
     show (w.h.new _).get b = _
     rw [IH.get_new, if_neg (by have := w.zlt b hz; omega)]
    rw [e, h1] at h1'
    injection h1' with h1'
    injection h1' with _ h1'
    exact h1'.symm
   rw [this]; exact hp.2
 · have e : (w.new (.mapIter (some b) clock [] clock)).h.get b = w.h.get b := by
    show (w.h.new _).get b = _
    rw [IH.get_new, if_neg (by have := w.zlt b hz; omega)]
   rw [e, h1] at h1'
   injection h1' with h1'
   injection h1' with _ h1'
theorem perm_left {es ve rem : List MapEntry} (hp : (ve ++ rem).Perm es) (hn : (es.map (·.born)).Nodup) : (es.filter fun e => !(ve.map (·.born)).contains e.born).Perm rem := by
 have hp2 : ((ve ++ rem).filter fun e => !(ve.map (·.born)).contains e.born).Perm (es.filter fun e => !(ve.map (·.born)).contains e.born) := hp.filter _
 rw [List.filter_append] at hp2
 have h1 : ve.filter (fun e => !(ve.map (·.born)).contains e.born) = [] := by
  rw [List.filter_eq_nil_iff]
  intro e he
  simp only [Bool.not_eq_true', Bool.not_eq_false', List.contains_eq_mem, decide_eq_true_eq]
  simp
  exact ⟨e, he, rfl⟩
 have hnd : ((ve ++ rem).map (·.born)).Nodup := (hp.map _).nodup_iff.2 hn
 rw [List.map_append, List.nodup_append] at hnd
 have h2 : rem.filter (fun e => !(ve.map (·.born)).contains e.born) = rem := by
  rw [List.filter_eq_self]
  intro e he
  simp only [Bool.not_eq_true', List.contains_eq_mem, decide_eq_false_iff_not]
  intro hm
  exact hnd.2.2 _ hm _ (List.mem_map_of_mem he) rfl
 rw [h1, h2, List.nil_append] at hp2
 exact hp2.symm
theorem q_next {x : Operand} {r b : Nat} {kvs vis : List (α × Value)}
 (more : ∀ p rem, (vis ++ p :: rem).Perm kvs → R (fun h => OPS P ds rest (act n ((d, .tuple #[.bool true, toV p.1, p.2]) :: l) D pm ro) h K) B w0 (itA toV r b kvs (vis ++ [p]) :: kl') F)
 (done : vis.Perm kvs → R (fun h => OPS P ds rest (act n ((d, .tuple #[.bool false]) :: l) D pm ro) h K) B w0 (itA toV r b kvs vis :: kl') F)
 (inj : ∀ a c, toV a = toV c → a = c)
 (hx : ev l x = .pointer (some ⟨r, 0, none⟩) := by rfl) (hs : autoParam (Sel (itA toV r b kvs vis) kl kl') aSel._auto_1) (hn : Nat.blt d n = true := by rfl) (hg : gok l g = true := by rfl) :
 R (fun h => OPS P ds (⟨⟨some d, g, .nextMap x⟩, []⟩ :: rest) (act n l D pm ro) h K) B w0 kl F := fun w s0 => by
 have s := s0.sel hs
 obtain ⟨S, ⟨S1, S2, ⟨q1, es, clock, seen, last, h1, hz, h2, h3, h4, ve, rem, h5, h6, h7⟩, q2, eS⟩, hnd, hown⟩ := s.own
 subst h4 h6
 have hpl := perm_left h7 h2.nd
 have hold : ((es.filter fun e => !(ve.map (·.born)).contains e.born).filter fun e => Nat.blt e.born last) = es.filter fun e => !(ve.map (·.born)).contains e.born := by
  rw [List.filter_eq_self]
  intro e he
  have := h2.lt e (List.mem_filter.1 he).1
  rw [Nat.blt_eq]; exact this
 have hnew : ((es.filter fun e => !(ve.map (·.born)).contains e.born).filter fun e => Nat.ble last e.born) = [] := by
  rw [List.filter_eq_nil_iff]
  intro e he
  have := h2.lt e (List.mem_filter.1 he).1
  rw [Nat.ble_eq]; omega
 have hcl : (!(ve.map (·.born)).isEmpty && !es.isEmpty && es.all (fun e => Nat.ble last e.born)) = false := by
  cases es with
  | nil => simp
  | cons e es =>
    have := h2.lt e (List.mem_cons_self ..)
    have : Nat.ble last e.born = false := by
     cases hb : Nat.ble last e.born with
     | false => rfl
     | true => rw [Nat.ble_eq] at hb; omega
    simp [this]
 have halts : nextI (ev l x) w.h = some ((if (es.filter fun e => !(ve.map (·.born)).contains e.born).isEmpty then [(.tuple #[.bool false], w.h)] else []) ++
  (es.filter fun e => !(ve.map (·.born)).contains e.born).map fun e => (.tuple #[.bool true, e.key, e.val], w.h.set r (.mapIter (some b) last (ve.map (·.born) ++ [e.born]) last))) := by
  rw [hx]
  unfold nextI
  simp only [h3, h1]
  rw [hcl]
  simp only [cond_false, hold, hnew, List.append_nil]
 -- a pair for an entry
 have pairOf : ∀ (rem0 : List MapEntry) (vis0 : List (α × Value)), True := fun _ _ => trivial
 refine .next (wants_gok hg) x rfl rfl _ (by rw [eval_act]; exact halts) ?_
 intro vh hm
 rcases List.mem_append.1 hm with hm | hm
 · split at hm
   · rename_i hemp
     rw [List.mem_singleton.1 hm, put_act hn]
     have hrem : rem = [] := by
      have : (es.filter fun e => !(ve.map (·.born)).contains e.born) = [] := by simpa using hemp
      rw [this] at hpl
      exact List.nil_perm.1 hpl |> fun h => h
     refine done ?_ w s
     subst hrem
     rw [List.append_nil] at h7
     have hm1 := h7.map (fun e => (e.key, e.val))
     rw [h5, h2.ent] at hm1
     exact perm_inj (fun p : α × Value => (toV p.1, p.2)) (fun p q hpq => by
      injection hpq with e1 e2
      exact Prod.ext (inj _ _ e1) e2) hm1
   · cases hm
 · obtain ⟨e, he, rfl⟩ := List.mem_map.1 hm
   have hr : e ∈ rem := hpl.mem_iff.1 he
   obtain ⟨r1, r2, hr12⟩ := List.append_of_mem hr
   -- the pair
   obtain ⟨i, hi, hie⟩ : ∃ i, i < kvs.length ∧ es[i]? = some e := by
    obtain ⟨i, hi⟩ := List.mem_iff_getElem?.1 (List.mem_filter.1 he).1
    have := (List.getElem?_eq_some_iff.1 hi).1
    rw [mapOK_len h2] at this
    exact ⟨i, this, hi⟩
   have hpe : (e.key, e.val) = (toV kvs[i].1, kvs[i].2) := by
    have := congrArg (fun l => l[i]?) h2.ent
    simp only [List.getElem?_map, hie, List.getElem?_eq_getElem hi, Option.map_some] at this
    injection this
   injection hpe with hpk hpv
   rw [put_act hn, hpk, hpv]
   have hperm : (ve ++ [e] ++ (r1 ++ r2)).Perm es := by
    refine List.Perm.trans ?_ h7
    rw [hr12, List.append_assoc]
    refine List.Perm.append_left _ ?_
    exact (List.perm_middle (l₁ := r1) (l₂ := r2) (a := e)).symm
   have hve : EntOf toV (vis ++ [kvs[i]]) (ve ++ [e]) := by
    unfold EntOf
    rw [List.map_append, List.map_append, h5]
    simp [hpk, hpv]
   obtain ⟨rem', hrem'⟩ : ∃ rem' : List (α × Value), (vis ++ kvs[i] :: rem').Perm kvs := by
    have hm1 := hperm.map (fun e => (e.key, e.val))
    rw [List.map_append, hve, h2.ent] at hm1
    have hex : ∀ ls : List MapEntry, (∀ x ∈ ls, ∃ p : α × Value, (x.key, x.val) = (toV p.1, p.2)) → ∃ ps : List (α × Value), ls.map (fun e => (e.key, e.val)) = ps.map fun p => (toV p.1, p.2) := by
     intro ls
     induction ls with
     | nil => intro _; exact ⟨[], rfl⟩
     | cons x ls ih =>
       intro h
       obtain ⟨p, hp⟩ := h x (List.mem_cons_self ..)
       obtain ⟨ps, hps⟩ := ih fun y hy => h y (List.mem_cons_of_mem _ hy)
       exact ⟨p :: ps, by rw [List.map_cons, List.map_cons, hp, hps]⟩
    obtain ⟨ps, hps⟩ := hex (r1 ++ r2) (fun y hy => by
     have hy' : y ∈ es := hperm.mem_iff.1 (List.mem_append_right _ hy)
     obtain ⟨j, hj⟩ := List.mem_iff_getElem?.1 hy'
     have hj' := (List.getElem?_eq_some_iff.1 hj).1
     rw [mapOK_len h2] at hj'
     have := congrArg (fun l => l[j]?) h2.ent
     simp only [List.getElem?_map, hj, List.getElem?_eq_getElem hj', Option.map_some] at this
     injection this with this
     exact ⟨_, this⟩)
    rw [hps, ← List.map_append] at hm1
    refine ⟨ps, ?_⟩
    have := perm_inj (fun p : α × Value => (toV p.1, p.2)) (fun p q hpq => by
     injection hpq with e1 e2
     exact Prod.ext (inj _ _ e1) e2) hm1
    rwa [List.append_assoc] at this
   refine more kvs[i] rem' hrem' ⟨w.h.set r (.mapIter (some b) last (ve.map (·.born) ++ [e.born]) last), w.z, fun i hi => w.zlt i hi⟩ ?_
   -- the state behind the step
   have s2 : St B w0 (pt r (.mapIter (some b) last (ve.map (·.born)) last) :: kl') F w := ⟨s.agree, s.le, s.zold, ⟨S, ⟨S1, S2, ⟨q1, h3⟩, q2, eS⟩, hnd, hown⟩, s.facts⟩
   have s3 := s2.write (o' := .mapIter (some b) last (ve.map (·.born) ++ [e.born]) last)
   refine s3.turnA' fun S' hp => ⟨hp.1, es, last, _, last, ?_, hz, h2, hp.2, rfl, ve ++ [e], r1 ++ r2, hve, by rw [List.map_append]; rfl, hperm⟩
   have hrb : r ≠ b := fun er => by
    have := s2.own
    obtain ⟨S0, ⟨T1, T2, ⟨u1, _⟩, _, ue⟩, _, ho⟩ := this
    exact (ho r (by rw [ue, u1]; simp)).2.2 (er ▸ hz)
   show (w.h.set r _).get b = _
   rw [IH.get_set, if_neg (fun er => hrb er.symm)]; exact h1
theorem q_entry {x : Operand} {r b : Nat} {kvs vis : List (α × Value)} {p : α × Value}
 (next : R (fun h => OPS P ds rest (act n ((d, .tuple #[toV p.1, p.2]) :: l) D pm ro) h K) B w0 kl F)
 (hx : ev l x = .pointer (some ⟨r, 0, none⟩) := by rfl) (hs : autoParam (Sel (itA toV r b kvs (vis ++ [p])) kl kl') aSel._auto_1) (hn : Nat.blt d n = true := by rfl) (hg : gok l g = true := by rfl) :
 R (fun h => OPS P ds (⟨⟨some d, g, .entry x⟩, []⟩ :: rest) (act n l D pm ro) h K) B w0 kl F := fun w s0 => by
 have s := s0.sel hs
 obtain ⟨S, ⟨S1, S2, ⟨q1, es, clock, seen, last, h1, hz, h2, h3, h4, ve, rem, h5, h6, h7⟩, q2, e⟩, hnd, hown⟩ := s.own
 subst h4 h6
 obtain ⟨ve0, x0, hve, hx0, hx1⟩ : ∃ ve0 x0, ve = ve0 ++ [x0] ∧ x0.key = toV p.1 ∧ x0.val = p.2 := by
  unfold EntOf at h5
  rw [List.map_append] at h5
  obtain ⟨a1, a2, e1, e2, e3⟩ := List.map_eq_append_iff.1 h5
  obtain ⟨x0, a3, e4, e5, e6⟩ := List.map_eq_cons_iff.1 e3
  have : a3 = [] := by simpa using e6
  subst this
  injection e5 with e5 e7
  exact ⟨a1, x0, by rw [e1, e4], e5, e7⟩
 have hfind : es.find? (fun y => Nat.beq y.born x0.born) = some x0 := by
  have hm : x0 ∈ es := h7.mem_iff.1 (List.mem_append_left _ (by rw [hve]; simp))
  cases hf : es.find? (fun y => Nat.beq y.born x0.born) with
  | none =>
    have := List.find?_eq_none.1 hf x0 hm
    simp [Nat.beq_refl] at this
  | some y =>
    have hy := List.find?_some hf
    have hym := List.mem_of_find?_eq_some hf
    have hb : y.born = x0.born := Nat.eq_of_beq_eq_true hy
    congr 1
    exact nodup_map_inj h2.nd hym hm hb
 refine s_run hn hg (v := .tuple #[toV p.1, p.2]) ?_ (next w s0)
 simp only [COp.run, hx, h3, h1]
 rw [hve]
 simp only [List.map_append, List.map_cons, List.map_nil, List.getLast?_append, List.getLast?_singleton, Option.some_or, Nat.beq_refl, cond_true, hfind, hx0, hx1]
end
end Go.Ideal
namespace Go.Ideal
open Go.Sort
variable {P : Program}
theorem WR.grow {β : Inj} {h : IH} {w : World} (hW : WR P β h w) (os : Array Obj) : WR P β h (grow w os) ∧ Eff β h w β h (grow w os) := by
 have hold : ∀ b, b < w.heap.size → (Go.Sort.grow w os).heap[b]? = w.heap[b]? := fun b hb => by
  show (w.heap ++ os)[b]? = _
  rw [Array.getElem?_append_left hb]
 refine ⟨⟨hW.dom, hW.live, fun i g o h1 h2 => ?_, hW.inj⟩, ⟨fun _ _ => rfl, Nat.le_refl _, fun _ _ h => h, fun _ _ _ => rfl, Nat.le_refl _, fun _ _ _ => rfl, rfl, rfl, rfl, ?_, fun b hb _ => hold b hb, fun i g hg hi => absurd (hW.dom _ _ hg) (by omega), fun i g _ _ _ _ hb => hold _ hb, Nat.le_refl _⟩⟩
 · have hO := hW.obj i g o h1 h2
   exact hO.congr (hold _ hO.lt)
 · show w.heap.size ≤ (w.heap ++ os).size
   rw [Array.size_append]; omega
def setL (o : Nat) : List Value → Array Value → Array Value
 | [], c => c
 | v :: vs, c => setL (o + 1) vs (c.setIfInBounds o v)
theorem setCells_map (b : Nat) : ∀ (vs : List Value) (o : Nat) (w : World), w.setCells b o vs = mapBlock w b (setL o vs)
 | [], o, w => (mapBlock_id w b _ fun c e fr h => rfl).symm
 | v :: vs, o, w => by
   show (w.setCell ⟨b, o, none⟩ v).setCells b (o + 1) vs = _
   rw [setCells_map b vs (o + 1), setCell_eq, mapBlock_mapBlock]; rfl
theorem setL_get : ∀ (vs : List Value) (o : Nat) (c : Array Value) (k : Nat), (setL o vs c)[k]? = if o ≤ k ∧ k < o + vs.length ∧ k < c.size then vs[k - o]? else c[k]?
 | [], o, c, k => by
   rw [if_neg (by rw [List.length_nil]; omega)]; rfl
 | v :: vs, o, c, k => by
   show (setL (o + 1) vs (c.setIfInBounds o v))[k]? = _
   rw [setL_get vs (o + 1), Array.size_setIfInBounds, List.length_cons]
   by_cases h1 : o + 1 ≤ k ∧ k < o + 1 + vs.length ∧ k < c.size
   · rw [if_pos h1, if_pos ⟨by omega, by omega, h1.2.2⟩]
     rw [show k - o = (k - (o + 1)) + 1 by omega, List.getElem?_cons_succ]
   · rw [if_neg h1, Array.getElem?_setIfInBounds]
     by_cases h2 : o = k
     · subst h2
       rw [if_pos rfl]
       by_cases h3 : o < c.size
       · rw [if_pos h3, if_pos ⟨Nat.le_refl _, by omega, h3⟩, Nat.sub_self]; rfl
       · rw [if_neg h3, if_neg (by omega)]
         exact (Array.getElem?_eq_none (by omega)).symm
     · rw [if_neg h2, if_neg (by omega)]
theorem setCells_putRow {α : Type} [Inhabited α] (enc : α → Value) (w : World) (b o : Nat) (d : Array α) : w.setCells b o (d.toList.map enc) = putRow enc w b o d := by
 rw [setCells_map]
 unfold putRow
 refine mapBlock_congr w b _ _ fun c e fr hc => ?_
 apply Array.ext_getElem?
 intro k
 rw [setL_get, putCells, Array.getElem?_mapIdx, List.length_map, Array.length_toList]
 by_cases hk : k < c.size
 · by_cases h : o ≤ k ∧ k < o + d.size
   · rw [if_pos ⟨h.1, h.2, hk⟩, Array.getElem?_eq_getElem hk, Option.map_some, if_pos h, List.getElem?_map, Array.getElem?_toList, Array.getElem?_eq_getElem (by omega)]
     rw [Option.map_some, getElem!_pos d _ (by omega)]
   · rw [if_neg (fun q => h ⟨q.1, q.2.1⟩), Array.getElem?_eq_getElem hk, Option.map_some, if_neg h]
 · rw [if_neg (by omega), Array.getElem?_eq_none (by omega)]; rfl
theorem lover_tot {α : Type} : ∀ (l : List α) (o : Nat) (xs : List α), o + xs.length ≤ l.length → ∃ r, lover l o xs = some r
 | [], o, xs, h => by
   have h1 : xs = [] := List.length_eq_zero_iff.1 (by rw [List.length_nil] at h; omega)
   have h2 : o = 0 := by rw [List.length_nil] at h; omega
   exact ⟨[], by rw [lover_nil, if_pos ⟨h1, h2⟩]⟩
 | c :: l, 0, [], h => ⟨_, lover_zero c l⟩
 | c :: l, 0, x :: xs, h => by
   obtain ⟨r, hr⟩ := lover_tot l 0 xs (by simp only [List.length_cons] at h; omega)
   exact ⟨x :: r, by rw [lover_cons, hr]; rfl⟩
 | c :: l, o + 1, xs, h => by
   obtain ⟨r, hr⟩ := lover_tot l o xs (by simp only [List.length_cons] at h; omega)
   exact ⟨c :: r, by rw [lover_succ, hr]; rfl⟩
end Go.Ideal
namespace Go.Ideal
variable {P : Program}
def IterX {α : Type} (P : Program) (vals : α → List Value) (fn : Fn) (first cap : List Value) (F : List Fact) (X : List α → Prop) : Prop :=
 ∀ (S : Type) (inv : S → List OA) (ok : List α → S → Prop) (step : S → α → S × Bool) (s0 : S) (yfn : Fn) (y1 y2 : List Value) (F' : List Fact), ok [] s0 →
  (∀ vs s x rest, ok vs s → X (vs ++ x :: rest) → (step s x).2 = true → ok (vs ++ [x]) (step s x).1) →
  (∀ vs s x rest, ok vs s → X (vs ++ x :: rest) → FnC P yfn (y1 ++ vals x) y2 (inv s) F' (fun _ : Unit => .bool (step s x).2) (fun _ => inv (step s x).1) (fun _ => []) (fun _ => True)) →
  FnC P fn (first ++ [.func yfn ⟨y1⟩ ⟨y2⟩]) cap (inv s0) (F ++ F') (fun _ : List α => .tuple ⟨[]⟩) (fun xs => inv (runI step s0 xs)) (fun _ => []) X
section
variable {B : List Nat} {w0 : Wd} {kl kl' klr : List OA} {F : List Fact} {K : KO} {n : Nat} {l : List (Nat × Value)} {D : List Deferred} {pm : Option FrameMode} {ro : Option Nat}
def asgZ {Z : Type} (B : List Nat) (w0 : Wd) (n : Nat) (l3 : Z → List (Nat × Value)) (lo : Nat) (o : IObj) (kl : Z → List OA) (F : List Fact) : KO := fun oo a h =>
 oo = .normal ∧ ∃ z, a = act n (l3 z) [] none (some lo) ∧ ∃ w : Wd, w.h = h ∧ St B w0 (pt lo o :: kl z) F w
theorem asgZ_end {Z : Type} {l3 : Z → List (Nat × Value)} {lo : Nat} {o : IObj} {k3 : Z → List OA} (z : Z) (hl : l3 z = l) (hk : autoParam (SelL (pt lo o :: k3 z) kl klr) aSelL._auto_1) : R (fun h => asgZ B w0 n l3 lo o k3 F .normal (act n l [] none (some lo)) h) B w0 kl F := fun w s =>
 ⟨rfl, z, by rw [hl], w, rfl, (s.selL hk).drop⟩
theorem yield_fnZ {Y Z : Type} {lo : Nat} {L : ILoop} {args : List Value} {k1 : List OA} {out : Y → Out} {k1' : Y → List OA} {fs : Y → List Fact} {pr : Y → Prop} (l : List (Nat × Value)) (l3 : Z → List (Nat × Value)) (k3 : Z → List OA) (hl : L.tmps = envT l) (hst : L.state = .ready) (hps : L.params.all (fun p => Nat.blt p L.n) = true) (hlen : L.params.length = args.length)
 (ha : ∀ B w0, R (fun h => EV P L.assign (act L.n ((L.params.zip args).reverse ++ l) [] none (some lo)) h (asgZ B w0 L.n l3 lo (.loop L) k3 F)) B w0 (pt lo (.loop L) :: k1) F)
 (hb : ∀ z B w0, R (fun h => EV P L.body (act L.n (l3 z) [] none (some lo)) h (roundK B w0 lo L out k1' fs pr)) B w0 (pt lo (.loop (busyL L)) :: k3 z) F) :
 FnC P (.yield lo) args [] (pt lo (.loop L) :: k1) F (fun y : Y => .bool (isN (out y))) (fun y => pt lo (.loop (endL L (out y))) :: k1' y) fs pr := by
 intro B w s
 obtain ⟨l2, e1, e2⟩ := roundTmps_envT L.n L.params args l hps hlen
 refine .round lo rfl rfl L s.get.1 hlen.symm _ (by
  rw [hl]
  show EV P L.assign (IAct.mk L.n (roundTmps L.n L.params args (envT l)) [] none (some lo)) w.h _
  rw [e1, e2]
  exact ha B w w s) ?_ ?_
 · rintro o a h ⟨rfl, z, rfl, w1, rfl, s1⟩
   exact ⟨rfl, L, s1.get.1, hst⟩
 · rintro a h r1 ⟨_, z, rfl, w1, rfl, s1⟩ hr
   have hr1 : r1 = L := by
    have := s1.get.1
    rw [hr] at this
    injection this with this
    injection this
   subst hr1
   have hb := hb z B w _ (s1.write (o' := .loop (busyL r1)))
   refine ev_mono hb _ ?_
   rintro o a h ⟨hd, w2, y, rfl, rfl, hn, s2, hp⟩
   refine ⟨busyL r1, s2.get.1, hd, ?_⟩
   have fin : ∀ o', isN o' = isN (out y) → endL r1 o' = endL r1 (out y) → Left B w (fun y : Y => .bool (isN (out y))) (fun y => pt lo (.loop (endL r1 (out y))) :: k1' y) fs pr (.ok (.bool (isN (out y)))) none (w2.h.set lo (.loop (endL r1 (out y)))) := fun o' _ _ =>
    ⟨rfl, _, y, rfl, s2.write, rfl, hp⟩
   cases ho : out y with
   | normal => have := fin .normal (by rw [ho]) (by rw [ho]); rw [ho] at this; exact this
   | exit j => have := fin (.exit j) (by rw [ho]) (by rw [ho]); rw [ho] at this; exact this
   | ret => have := fin .ret (by rw [ho]) (by rw [ho]); rw [ho] at this; exact this
   | panic ch => rw [ho] at hn; exact hn.elim
theorem q_rangeX {S α Z : Type} {f : Operand} {ps : List Tmp} {assign body : CCode} {fn : Fn} {first captured : List Value} {vals : α → List Value} {F1 : List Fact} {X : List α → Prop} (step : S → α → S × Out) (inv : S → List OA) (ok : List α → S → Prop) (s0 : S) (h0 : ok [] s0)
 (hok : ∀ vs s x rest, ok vs s → X (vs ++ x :: rest) → (step s x).2 = .normal → ok (vs ++ [x]) (step s x).1) (hit : IterX P vals fn first captured F1 X)
 (hf : ev l f = .func fn ⟨first⟩ ⟨captured⟩) (hps : ps.all (fun p => Nat.blt p n) = true) (hlen : ∀ x, ps.length = (vals x).length) (hk : SelL (inv s0) kl klr) (hF : Sub F1 F) (hpan : ∀ s x, noPan (step s x).2)
 (l3 : α → Z → List (Nat × Value)) (k3 : α → Z → List OA)
 (ha : ∀ (s : S) (x : α) (lo : Nat) (o : IObj) B w0, R (fun h => EV P assign (act n ((ps.zip (vals x)).reverse ++ l) [] none (some lo)) h (asgZ B w0 n (l3 x) lo o (fun z => k3 x z ++ inv s) F)) B w0 (pt lo o :: inv s) F)
 (hb : ∀ (vs : List α) (s : S) (x : α) (rest : List α) (z : Z) (lo : Nat) (L : ILoop) B w0, ok vs s → X (vs ++ x :: rest) → R (fun h => EV P body (act n (l3 x z) [] none (some lo)) h (roundK B w0 lo L (fun _ : Unit => (step s x).2) (fun _ => inv (step s x).1) (fun _ => []) (fun _ => True))) B w0 (pt lo (.loop (busyL L)) :: (k3 x z ++ inv s)) F)
 (next : ∀ r xs, X xs → R (fun h => K (runO step s0 xs).2 (act n l ({ target := .collected r, args := #[] } :: D) pm none) h) B w0 (inv (runO step s0 xs).1 ++ (pt r (.defs true) :: klr)) F) :
 R (fun h => EV P (.rangeFunc f ps assign body) (act n l D pm none) h K) B w0 kl F := by
 refine r_range (Y := List α) (k1 := inv s0) (F1 := F1 ++ F) (valI := fun _ => .tuple ⟨[]⟩) (out := fun xs => (runO step s0 xs).2) (k1' := fun xs => inv (runO step s0 xs).1) (fs := fun _ => []) (pr := X) hf ?_ hk (hF.app (Sub.refl' F [])) (fun r y hy => next r y hy)
 intro lo r
 have := hit (S × Out) (fun so => pt lo (.loop (endL ⟨.ready, none, envT l, n, ps, assign, body, r⟩ so.2)) :: inv so.1) (fun vs so => so.2 = .normal ∧ ok vs so.1) (fun so x => (step so.1 x, isN (step so.1 x).2)) (s0, .normal) (.yield lo) [] [] F ⟨rfl, h0⟩
  (fun vs so x rest ho hx h => by
    have h : isN (step so.1 x).2 = true := h
    have hn : (step so.1 x).2 = .normal := by
     cases e : (step so.1 x).2 with
     | normal => rfl
     | _ => rw [e] at h; cases h
    exact ⟨hn, hok vs so.1 x rest ho.2 hx hn⟩)
  (fun vs so x rest ho hx => by
    obtain ⟨s, o⟩ := so
    obtain ⟨hn, ho⟩ := ho
    have hn : o = .normal := hn
    subst hn
    exact yield_fnZ (Y := Unit) (L := ⟨.ready, none, envT l, n, ps, assign, body, r⟩) (args := vals x) (k1 := inv s) (out := fun _ => (step s x).2) (k1' := fun _ => inv (step s x).1) (fs := fun _ => []) (pr := fun _ => True) l (l3 x) (fun z => k3 x z ++ inv s) rfl rfl hps (hlen x)
     (fun B w0 => ha s x lo _ B w0) (fun z B w0 => hb vs s x rest z lo _ B w0 ho hx))
 have e : (fun xs : List α => pt lo (.loop (endL ⟨.ready, none, envT l, n, ps, assign, body, r⟩ (runI (fun (so : S × Out) x => (step so.1 x, isN (step so.1 x).2)) (s0, .normal) xs).2)) :: inv (runI (fun (so : S × Out) x => (step so.1 x, isN (step so.1 x).2)) (s0, .normal) xs).1) = fun xs => pt lo (.loop (endL ⟨.ready, none, envT l, n, ps, assign, body, r⟩ (runO step s0 xs).2)) :: inv (runO step s0 xs).1 := by
  funext xs
  rw [runI_runO]
 have h2 : FnC P fn (first ++ [.func (.yield lo) ⟨[]⟩ ⟨[]⟩]) captured (pt lo (.loop ⟨.ready, none, envT l, n, ps, assign, body, r⟩) :: inv s0) (F1 ++ F) (fun _ : List α => .tuple ⟨[]⟩) (fun xs => pt lo (.loop (endL ⟨.ready, none, envT l, n, ps, assign, body, r⟩ (runI (fun (so : S × Out) x => (step so.1 x, isN (step so.1 x).2)) (s0, .normal) xs).2)) :: inv (runI (fun (so : S × Out) x => (step so.1 x, isN (step so.1 x).2)) (s0, .normal) xs).1) (fun _ => []) X := this
 rw [e] at h2
 exact h2
theorem q_rngX {S α Z : Type} {f : Operand} {ps : List Tmp} {assign body : CCode} {fn : Fn} {first captured : List Value} {vals : α → List Value} {F1 : List Fact} {X : List α → Prop} (step : S → α → S × Out) (inv : S → List OA) (ok : List α → S → Prop) (s0 : S) (l3 : α → Z → List (Nat × Value)) (k3 : α → Z → List OA) (h0 : ok [] s0)
 (hok : ∀ vs s x rest, ok vs s → X (vs ++ x :: rest) → (step s x).2 = .normal → ok (vs ++ [x]) (step s x).1) (hit : IterX P vals fn first captured F1 X)
 (ha : ∀ (s : S) (x : α) (lo : Nat) (o : IObj) B w0, R (fun h => EV P assign (act n ((ps.zip (vals x)).reverse ++ l) [] none (some lo)) h (asgZ B w0 n (l3 x) lo o (fun z => k3 x z ++ inv s) F)) B w0 (pt lo o :: inv s) F)
 (hb : ∀ (vs : List α) (s : S) (x : α) (rest : List α) (z : Z) (lo : Nat) (L : ILoop) B w0, ok vs s → X (vs ++ x :: rest) → R (fun h => EV P body (act n (l3 x z) [] none (some lo)) h (roundK B w0 lo L (fun _ : Unit => (step s x).2) (fun _ => inv (step s x).1) (fun _ => []) (fun _ => True))) B w0 (pt lo (.loop (busyL L)) :: (k3 x z ++ inv s)) F)
 (next : ∀ r xs, X xs → R (fun h => K (runO step s0 xs).2 (act n l ({ target := .collected r, args := #[] } :: D) pm none) h) B w0 (inv (runO step s0 xs).1 ++ (pt r (.defs true) :: klr)) F)
 (hpan : ∀ s x, noPan (step s x).2)
 (hf : ev l f = .func fn ⟨first⟩ ⟨captured⟩ := by rfl) (hps : ps.all (fun p => Nat.blt p n) = true := by rfl) (hlen : ∀ x, ps.length = (vals x).length := by intro _; rfl)
 (hk : autoParam (SelL (inv s0) kl klr) aSelL._auto_1) (hF : autoParam (Sub F1 F) aSub._auto_1) :
 R (fun h => EV P (.rangeFunc f ps assign body) (act n l D pm none) h K) B w0 kl F :=
 q_rangeX step inv ok s0 h0 hok hit hf hps hlen hk hF hpan l3 k3 ha hb next
end
end Go.Ideal
namespace Go.Ideal
variable {P : Program}
def flatP {α : Type} (E : Enc α) (xys : List (α × E.Y)) : List Value := xys.flatMap fun p => E.pat p.1 p.2
theorem flatP_len {α : Type} {E : Enc α} : ∀ xys : List (α × E.Y), (flatP E xys).length = xys.length * E.n
 | [] => by simp [flatP]
 | p :: l => by
   have ih := flatP_len l
   unfold flatP at ih ⊢
   rw [List.flatMap_cons, List.length_append, ih, E.len, List.length_cons, Nat.add_mul]; omega
theorem flatP_get {α : Type} {E : Enc α} : ∀ {xys : List (α × E.Y)} {k : Nat} {p : α × E.Y} {j : Nat} {u : Value}, xys[k]? = some p → (E.pat p.1 p.2)[j]? = some u → (flatP E xys)[k * E.n + j]? = some u
 | [], k, p, j, u, h, _ => by cases h
 | q :: l, 0, p, j, u, h, hj => by
   cases h
   unfold flatP
   rw [List.flatMap_cons, Nat.zero_mul, Nat.zero_add, List.getElem?_append_left (List.getElem?_eq_some_iff.1 hj).1]; exact hj
 | q :: l, k + 1, p, j, u, h, hj => by
   have ih := flatP_get (xys := l) (k := k) (by simpa using h) hj
   unfold flatP at ih ⊢
   rw [List.flatMap_cons, List.getElem?_append_right (by rw [E.len, Nat.add_mul]; omega), E.len, show (k + 1) * E.n + j - E.n = k * E.n + j by rw [Nat.add_mul]; omega]; exact ih
def fEl {α : Type} (E : Enc α) (v : Value) (xys : List (α × E.Y)) : Fact :=
 ⟨fun w => (xys = [] ∧ ∃ a c, v = .slice a 0 c ∧ GoodA E.n a) ∨ ∃ i o f c cells, (v = .slice (some ⟨i, o, some f⟩) xys.length c ∧ xys.length ≤ c ∧ (f = 0 ∨ f = E.n)) ∧ Fz w i cells ∧
  ∀ (k : Nat) p, xys[k]? = some p → (∀ (j : Nat) u, (E.pat p.1 p.2)[j]? = some u → cells[o + k * E.n + j]? = some u) ∧ ∀ f ∈ E.fs p.1 p.2, f.p w,
  fun a h => by
   rcases h with h | ⟨i, o, f, c, cells, h1, h2, h3⟩
   · exact .inl h
   · refine .inr ⟨i, o, f, c, cells, h1, h2.mono a, fun k x hk => ?_⟩
     obtain ⟨q1, q2⟩ := h3 k x hk
     exact ⟨q1, fun f hf => f.mono a (q2 f hf)⟩⟩
def fAll {α : Type} (E : Enc α) (xys : List (α × E.Y)) : Fact := ⟨fun w => ∀ p ∈ xys, ∀ f ∈ E.fs p.1 p.2, f.p w, fun a h p hp f hf => f.mono a (h p hp f hf)⟩
theorem fEl_all {α : Type} {E : Enc α} {v : Value} {xys : List (α × E.Y)} {w : Wd} (h : (fEl E v xys).p w) : (fAll E xys).p w := by
 intro p hp f hf
 rcases h with ⟨rfl, _⟩ | ⟨i, o, fl, c, cells, _, _, h3⟩
 · cases hp
 · obtain ⟨k, hk⟩ := List.mem_iff_getElem?.1 hp
   exact (h3 k p hk).2 f hf
theorem elems_of {α : Type} {E : Enc α} {v : Value} {xs : List α} {w : Wd} (h : (fSl E v xs).p w) : ∃ xys : List (α × E.Y), xys.map (·.1) = xs ∧ (fEl E v xys).p w := by
 rcases h with ⟨rfl, h⟩ | ⟨i, o, f, c, cells, h1, h2, h3⟩
 · exact ⟨[], rfl, .inl ⟨rfl, h⟩⟩
 · obtain ⟨l, hl, hp⟩ := list_of (p := fun k (p : α × E.Y) => xs[k]? = some p.1 ∧ (∀ (j : Nat) u, (E.pat p.1 p.2)[j]? = some u → cells[o + k * E.n + j]? = some u) ∧ ∀ f ∈ E.fs p.1 p.2, f.p w) xs.length (fun k hk => by
    obtain ⟨y, q1, q2⟩ := h3 k xs[k] (List.getElem?_eq_getElem hk)
    exact ⟨(xs[k], y), List.getElem?_eq_getElem hk, q1, q2⟩)
   have hm : l.map (·.1) = xs := by
    apply List.ext_getElem?
    intro k
    rw [List.getElem?_map]
    by_cases hk : k < xs.length
    · have hk' : k < l.length := by omega
      rw [List.getElem?_eq_getElem hk', Option.map_some, (hp k l[k] (List.getElem?_eq_getElem hk')).1]
    · rw [List.getElem?_eq_none (by omega), List.getElem?_eq_none (by omega)]; rfl
   exact ⟨l, hm, .inr ⟨i, o, f, c, cells, by rw [hl]; exact h1, h2, fun k p hk => (hp k p hk).2⟩⟩
def ar {α : Type} (E : Enc α) (v : Value) (xys : List (α × E.Y)) : OA :=
 ⟨fun w S => (xys = [] ∧ (∃ a, v = .slice a 0 0 ∧ GoodA E.n a) ∧ S = []) ∨ ∃ b f, v = .slice (some ⟨b, 0, some f⟩) xys.length xys.length ∧ (f = 0 ∨ f = E.n) ∧ S = [b] ∧ w.h.get b = some (.cells (flatP E xys)),
  fun a h hp => by
   rcases hp with hp | ⟨b, f, h1, h2, h3, h4⟩
   · exact .inl hp
   · exact .inr ⟨b, f, h1, h2, h3, by rw [h b (by rw [h3]; exact List.mem_singleton.2 rfl)]; exact h4⟩⟩
section
variable {B : List Nat} {w0 : Wd} {kl kl' klr : List OA} {F : List Fact} {K : KO} {ds : List Tmp} {rest : List PStep} {n : Nat} {l : List (Nat × Value)} {D : List Deferred} {pm : Option FrameMode} {ro : Option Nat} {d : Nat} {g : Option (Tmp × Bool)}
variable {α : Type} {E : Enc α} {v : Value}
theorem q_elems {xs : List α} {Q : IH → Prop} (E : Enc α) (v : Value) (h : ∀ xys : List (α × E.Y), xys.map (·.1) = xs → R Q B w0 kl (fEl E v xys :: F)) (hf : autoParam (fSl E v xs ∈ F) aMem._auto_1) : R Q B w0 kl F := fun w s => by
 obtain ⟨xys, h1, h2⟩ := elems_of (s.facts _ hf)
 exact h xys h1 w ⟨s.agree, s.le, s.zold, s.own, fun f hf => by
  rcases List.mem_cons.1 hf with rfl | hf
  · exact h2
  · exact s.facts f hf⟩
theorem q_all {xys : List (α × E.Y)} {Q : IH → Prop} (h : R Q B w0 kl (fAll E xys :: F)) (hf : autoParam (fEl E v xys ∈ F) aMem._auto_1) : R Q B w0 kl F := fun w s =>
 h w ⟨s.agree, s.le, s.zold, s.own, fun f hf' => by
  rcases List.mem_cons.1 hf' with rfl | hf'
  · exact fEl_all (s.facts _ hf)
  · exact s.facts f hf'⟩
theorem q_closeAr {α : Type} (E : Enc α) {xys : List (α × E.Y)} {Q : IH → Prop} {b f m : Nat} (hm : m = xys.length) (hf : f = 0 ∨ f = E.n) (h : R Q B w0 (ar E (.slice (some ⟨b, 0, some f⟩) m m) xys :: kl') F) (hk : autoParam (Sel (pt b (.cells (flatP E xys))) kl kl') aSel._auto_1) : R Q B w0 kl F := fun w s => by
 refine h w ((s.sel hk).turnA (A := pt b (.cells (flatP E xys))) fun w S hp => .inr ⟨b, f, by rw [hm], hf, hp.1, hp.2⟩)
theorem p_nilT {x : Operand} {t e : TypeId} {m c : Nat} (hu : P.underlying t = some (.slice e)) (hx : ev l x = .slice none m c) : Pu P (ev l) (.bin .eql t x (.const (.slice none 0 0))) (.bool true) := fun h => by
 have he : pureRun P (Op.equal t (.slice none m c) (.slice none 0 0)) = some true := by
  show pureRun P (Op.equalIn (9999 + 1) t (.slice none m c) (.slice none 0 0)) = _
  unfold Op.equalIn
  rw [pureRun_bind, pr_under hu]; rfl
 have h1 : pureV P (do eqGuard .eql t x (.const (.slice none 0 0)) (.slice none m c) (.slice none 0 0); binOp .eql t (.slice none m c) (.slice none 0 0)) = some (.bool true) := by
  unfold pureV
  rw [pureRun_bind, guard_pure (by intro c e; cases e) (by intro e; cases e)]
  simp only [Option.bind_some, binOp]
  rw [pureRun_bind, he]; rfl
 have h2 : binI P .eql t x (.const (.slice none 0 0)) (.slice none m c) (.slice none 0 0) = some (.bool true) := by
  by_cases hmc : m = 0 ∧ c = 0
  · show cond (addrFree (Value.slice none m c) && addrFree (Value.slice none 0 0)) (pureV P (do eqGuard .eql t x (.const (.slice none 0 0)) (.slice none m c) (.slice none 0 0); binOp .eql t (.slice none m c) (.slice none 0 0))) _ = _
    rw [h1]
    obtain ⟨rfl, rfl⟩ := hmc
    simp [addrFree]
  · have e0 : addrFree (Value.slice none m c) = false := by
     cases hb : addrFree (Value.slice none m c) with
     | false => rfl
     | true => exact absurd (by simpa [addrFree] using hb) hmc
    have e1 : eqlI P t (.slice none m c) (.slice none 0 0) = some true := by
     unfold eqlI
     rw [hu]
    show cond (addrFree (Value.slice none m c) && addrFree (Value.slice none 0 0)) _ (match eqlI P t (.slice none m c) (.slice none 0 0) with | some b => some (Value.bool b) | none => none) = _
    rw [e0, e1]; rfl
 simp only [COp.run, hx]
 show (match binI P .eql t x (.const (.slice none 0 0)) (.slice none m c) (.slice none 0 0) with | some v => some (v, h) | none => none) = _
 rw [h2]
theorem p_nilF {x : Operand} {t e : TypeId} {a : Addr} {m c : Nat} (hu : P.underlying t = some (.slice e)) (hx : ev l x = .slice (some a) m c) : Pu P (ev l) (.bin .eql t x (.const (.slice none 0 0))) (.bool false) := fun h => by
 have h2 : binI P .eql t x (.const (.slice none 0 0)) (.slice (some a) m c) (.slice none 0 0) = some (.bool false) := by
  have : eqlI P t (.slice (some a) m c) (.slice none 0 0) = some false := by
   unfold eqlI
   rw [hu]
  show (match eqlI P t (.slice (some a) m c) (.slice none 0 0) with | some b => some (Value.bool b) | none => none) = _
  rw [this]
 simp only [COp.run, hx]
 show (match binI P .eql t x (.const (.slice none 0 0)) (.slice (some a) m c) (.slice none 0 0) with | some v => some (v, h) | none => none) = _
 rw [h2]
theorem q_app00 {e : TypeId} {size bytes b c : Nat} {a : Option Addr} {s x : Operand}
 (next : R (fun h => OPS P ds rest (act n ((d, .slice (some ⟨b, 0, some 0⟩) 0 0) :: l) D pm ro) h K) B w0 (pt b (.cells []) :: kl') F)
 (hs : ev l s = .slice (some ⟨b, 0, some 0⟩) 0 0 := by rfl) (hx : ev l x = .slice a 0 c := by rfl) (hk : autoParam (Sel (pt b (.cells [])) kl kl') aSel._auto_1) (hn : Nat.blt d n = true := by rfl) (hg : gok l g = true := by rfl) :
 R (fun h => OPS P ds (⟨⟨some d, g, .append e size bytes s x⟩, []⟩ :: rest) (act n l D pm ro) h K) B w0 kl F := fun w st => by
 have st1 := st.sel hk
 refine s_run hn hg (v := .slice (some ⟨b, 0, some 0⟩) 0 0) (h' := w.h.set b (.cells [])) ?_ (next ⟨w.h.set b (.cells []), w.z, fun i hi => w.zlt i hi⟩ st1.write)
 have h0 : ∀ m, Nat.mul 0 m = 0 := fun m => Nat.zero_mul m
 have e1 : w.h.storeAt b 0 [] = some (w.h.set b (.cells [])) := by
  unfold IH.storeAt
  simp only [st1.get.1]; rfl
 simp only [COp.run, hx, hs, lenI, firstX, appendI]
 show cond (Nat.ble (Nat.mul (Nat.add 0 0) bytes) small && Nat.ble (Nat.mul (Nat.add 0 0) size) small && Nat.ble (Nat.add 0 0) small) (cond (Nat.ble (Nat.add 0 0) 0) (match w.h.storeAt b (Nat.add 0 (Nat.mul 0 size)) [] with | some h => some (Value.slice (some ⟨b, 0, some 0⟩) (Nat.add 0 0) 0, h) | none => none) _) none = _
 rw [show Nat.add 0 0 = 0 from rfl, h0, h0, show Nat.add 0 0 = 0 from rfl, e1]
 have : (Nat.ble 0 small && Nat.ble 0 small && Nat.ble 0 small) = true := rfl
 rw [this]; rfl
theorem q_appE {α : Type} {e : TypeId} {size bytes b : Nat} {s x : Operand} (E : Enc α) (xys : List (α × E.Y)) (hne : 0 < xys.length) (hm : xys.length * bytes ≤ 1073741824 ∧ xys.length * size ≤ 1073741824 ∧ xys.length ≤ 1073741824)
 (next : ∀ b', R (fun h => OPS P ds rest (act n ((d, .slice (some ⟨b', 0, some size⟩) xys.length xys.length) :: l) D pm ro) h K) B w0 (pt b' (.cells (flatP E xys)) :: kl') F)
 (hs : ev l s = .slice (some ⟨b, 0, some 0⟩) 0 0 := by rfl) (hx : ev l x = v := by conv => lhs; whnf) (hf : autoParam (fEl E v xys ∈ F) aMem._auto_1) (hz : E.n = size := by rfl) (hk : autoParam (Sel (pt b (.cells [])) kl kl') aSel._auto_1) (hn : Nat.blt d n = true := by rfl) (hg : gok l g = true := by rfl) :
 R (fun h => OPS P ds (⟨⟨some d, g, .append e size bytes s x⟩, []⟩ :: rest) (act n l D pm ro) h K) B w0 kl F := fun w st => by
 subst hz
 have st1 := st.sel hk
 have hat : At w.h b (.cells []) := st.at_ hk
 obtain ⟨k, hk'⟩ : ∃ k, xys.length = k + 1 := ⟨xys.length - 1, by omega⟩
 rcases st.facts _ hf with ⟨rfl, _⟩ | ⟨i, o, f, c, cells, ⟨e1, hc⟩, q2, q3⟩
 · simp at hne
 have hfl := flatP_len xys
 have hcells : ∀ j, j < xys.length * E.n → cells[o + j]? = (flatP E xys)[j]? := fun j hj => by
  have hn0 : 0 < E.n := by
   rcases Nat.eq_zero_or_pos E.n with h0 | h0
   · rw [h0] at hj; omega
   · exact h0
  have hd : j / E.n < xys.length := by rw [Nat.div_lt_iff_lt_mul hn0]; exact hj
  have hmod := Nat.mod_lt j hn0
  have hpk := List.getElem?_eq_getElem hd
  have hu : (E.pat (xys[j / E.n]).1 (xys[j / E.n]).2)[j % E.n]? = some ((E.pat (xys[j / E.n]).1 (xys[j / E.n]).2)[j % E.n]'(by rw [E.len]; exact hmod)) := List.getElem?_eq_getElem _
  have h1 := (q3 (j / E.n) _ hpk).1 (j % E.n) _ hu
  have h2 := flatP_get hpk hu
  have hdm : j / E.n * E.n + j % E.n = j := by rw [Nat.mul_comm]; exact Nat.div_add_mod j E.n
  rw [Nat.add_assoc, hdm] at h1
  rw [hdm] at h2
  rw [h1, h2]
 have hlen : o + xys.length * E.n ≤ cells.length ∨ xys.length * E.n = 0 := by
  rcases Nat.eq_zero_or_pos (xys.length * E.n) with h0 | h0
  · exact .inr h0
  · left
    have h1 := hcells (xys.length * E.n - 1) (by omega)
    have hx0 : (flatP E xys)[xys.length * E.n - 1]? = some ((flatP E xys)[xys.length * E.n - 1]'(by omega)) := List.getElem?_eq_getElem _
    rw [hx0] at h1
    have := (List.getElem?_eq_some_iff.1 h1).1
    omega
 have hpos : 0 < E.n ∨ E.n = 0 := by omega
 have hread : w.h.readAt i o (xys.length * E.n) = some (flatP E xys) := by
  rw [q2.cells.readAt, ldrop_eq, ltake_eq, if_pos (by rw [List.length_drop]; omega)]
  congr 1
  apply List.ext_getElem?
  intro j
  rw [List.getElem?_take]
  by_cases hj : j < xys.length * E.n
  · rw [if_pos hj, List.getElem?_drop]; exact hcells j hj
  · rw [if_neg hj, List.getElem?_eq_none (by omega)]
 refine s_append (b := b) (o := 0) (m := 0) (k := k) (f := some 0) (old := []) (xs := flatP E xys) hn hg hs (by rw [hx, e1, hk']; rfl) ?_ ?_ (.inl rfl) ?_ fun h' mv => ?_
 · rw [hx, e1, ← hk']; exact hread
 · rw [hat.c.readAt, Nat.zero_mul]; rfl
 · rw [Nat.zero_add, ← hk']; omega
 obtain ⟨w', rfl, st4, hwle⟩ := st1.move mv
 rw [List.nil_append] at st4
 have := next w.h.next w' st4
 rw [hk'] at this
 rw [Nat.zero_add]; exact this
end
end Go.Ideal
namespace Go.Ideal
variable {P : Program}
inductive CellEq (P : Program) (ty : TypeId) : Value → Value → Bool → Prop
 | int {a b : Int} (h : P.underlying ty = some (.int .i64)) : CellEq P ty (.int .i64 a) (.int .i64 b) (decide (a = b))
 | str {a b : ByteArray} (h : P.underlying ty = some .string) : CellEq P ty (.string a) (.string b) (decide (a = b))
inductive RowEq (P : Program) (xs ys : List Value) : List Field → Bool → Prop
 | nil : RowEq P xs ys [] true
 | cons {f : Field} {fs : List Field} {a b : Value} {r r' : Bool} (hn : (f.name == "_") = false) (hx : xs[f.offset]? = some a) (hy : ys[f.offset]? = some b) (c : CellEq P f.type a b r) (t : RowEq P xs ys fs r') : RowEq P xs ys (f :: fs) (r && r')
section
variable {l : List (Nat × Value)}
end
end Go.Ideal

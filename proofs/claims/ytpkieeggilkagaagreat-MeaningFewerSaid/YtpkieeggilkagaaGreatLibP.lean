/-
  Kinds, puzzles and grids that are small.
-/
import Derived.Test.YtpkieeggilkagaaGreatLibO
import Derived.Test.YtpkieeggilkagaaGreatPlainC
import Derived.Test.YtpkieeggilkagaaGreatIdealO
set_option linter.unusedSimpArgs false
set_option linter.unusedVariables false
set_option maxRecDepth 10000
set_option maxHeartbeats 4000000
namespace Go.Proofs.YtpkieeggilkagaaGreat
open Go.Ideal Kd Canon
structure zRk (k : Knd) : Prop where
 dw : I64 k.decl.w
 dh : I64 k.decl.h
 gw : I64 k.grid.w
 gh : I64 k.grid.h
 holes : k.decl.holes.length < 9223372036854775808
 syms : k.decl.symbols.length < 9223372036854775808
 regs : k.decl.regions.length < 9223372036854775808
 regl : ∀ r ∈ k.decl.regions, r.lists.length < 9223372036854775808 ∧ ∀ l ∈ r.lists, l.length < 9223372036854775808
 clus : k.decl.clues.length < 9223372036854775808
 ruls : k.decl.rules.length < 9223372036854775808
 rnames : ∀ r ∈ k.decl.rules, r.names.length < 9223372036854775808 ∧ r.others.length < 9223372036854775808
 gholes : k.grid.holes.length < 9223372036854775808
 cells : k.grid.cells.length < 9223372036854775808
 nbs : k.nbs.length < 9223372036854775808 ∧ ∀ l ∈ k.nbs, l.length < 9223372036854775808
 lists : k.lists.length < 9223372036854775808 ∧ ∀ l ∈ k.lists, l.length < 9223372036854775808 ∧ ∀ m ∈ l, m.length < 9223372036854775808
structure zSp (k : Knd) : Prop where
 cells : k.grid.cells.length ≤ 16
 gholes : k.grid.holes.length ≤ 256
 nbs : k.nbs.length ≤ 20
 lists : k.lists.length ≤ 12
 syms : k.decl.symbols.length ≤ 6
 regs : k.decl.regions.length ≤ 6
 clus : k.decl.clues.length ≤ 6
 ruls : k.decl.rules.length ≤ 10
 holes : k.decl.holes.length ≤ 256
 each : ∀ l ∈ k.lists, l.length ≤ 40
 reg : ∀ r ∈ k.decl.regions, r.lists.length ≤ 20
theorem zIW.of {k : Knd} (hB : zRk k) (hF : zSp k) : zIW k := by
 have f1 := hF.cells
 have f2 := hF.gholes
 have f5 := hF.syms
 have f6 := hF.regs
 have f7 := hF.clus
 have f8 := hF.ruls
 have f9 := hF.holes
 exact ⟨⟨⟨by omega, by omega, by omega, by omega, hB.rnames, hB.holes, hB.regl⟩, hB.dw, hB.dh, by omega⟩, ⟨hB.gw, hB.gh, by omega, by omega⟩, hB.nbs, hB.lists⟩
theorem zPR {k : Knd} {vh vs vr vc vu gh gc vn vl : Value} (hB : zRk k) : FnC Tryz.prog (.func 33) [.agg ⟨zHe k vh vs vr vc vu gh gc vn vl⟩] [] [] (zGR k vh vs vr vc vu gh gc vn vl []) (fun b : Bool => .bool b) (fun _ => []) (fun _ => []) (fun b => b = true → zSp k) := by
 refine zE _ (isC 33) fun B w0 => ?_
 dsimp only [zGR]
 refine go ?_
 intro b1
 refine go ?_
 first | with_reducible refine g_d (fun h1 => ?_) (fun h1 => ?_) | with_reducible refine g_n (fun h1 => ?_) (fun h1 => ?_) | with_reducible refine g_b (fun h1 => ?_) (fun h1 => ?_)
 rotate_left
 · refine go ?_
   exact q_fin false (hv := rfl) (hp := fun h => by cases h)
 refine go ?_
 first | with_reducible refine g_d (fun h2 => ?_) (fun h2 => ?_) | with_reducible refine g_n (fun h2 => ?_) (fun h2 => ?_) | with_reducible refine g_b (fun h2 => ?_) (fun h2 => ?_)
 rotate_left
 · refine go ?_
   exact q_fin false (hv := rfl) (hp := fun h => by cases h)
 refine go ?_
 first | with_reducible refine g_d (fun h3 => ?_) (fun h3 => ?_) | with_reducible refine g_n (fun h3 => ?_) (fun h3 => ?_) | with_reducible refine g_b (fun h3 => ?_) (fun h3 => ?_)
 rotate_left
 · refine go ?_
   exact q_fin false (hv := rfl) (hp := fun h => by cases h)
 refine go ?_
 first | with_reducible refine g_d (fun h4 => ?_) (fun h4 => ?_) | with_reducible refine g_n (fun h4 => ?_) (fun h4 => ?_) | with_reducible refine g_b (fun h4 => ?_) (fun h4 => ?_)
 rotate_left
 · refine go ?_
   exact q_fin false (hv := rfl) (hp := fun h => by cases h)
 refine go ?_
 first | with_reducible refine g_d (fun h5 => ?_) (fun h5 => ?_) | with_reducible refine g_n (fun h5 => ?_) (fun h5 => ?_) | with_reducible refine g_b (fun h5 => ?_) (fun h5 => ?_)
 rotate_left
 · refine go ?_
   exact q_fin false (hv := rfl) (hp := fun h => by cases h)
 refine go ?_
 first | with_reducible refine g_d (fun h6 => ?_) (fun h6 => ?_) | with_reducible refine g_n (fun h6 => ?_) (fun h6 => ?_) | with_reducible refine g_b (fun h6 => ?_) (fun h6 => ?_)
 rotate_left
 · refine go ?_
   exact q_fin false (hv := rfl) (hp := fun h => by cases h)
 refine go ?_
 first | with_reducible refine g_d (fun h7 => ?_) (fun h7 => ?_) | with_reducible refine g_n (fun h7 => ?_) (fun h7 => ?_) | with_reducible refine g_b (fun h7 => ?_) (fun h7 => ?_)
 rotate_left
 · refine go ?_
   exact q_fin false (hv := rfl) (hp := fun h => by cases h)
 refine go ?_
 first | with_reducible refine g_d (fun h8 => ?_) (fun h8 => ?_) | with_reducible refine g_n (fun h8 => ?_) (fun h8 => ?_) | with_reducible refine g_b (fun h8 => ?_) (fun h8 => ?_)
 rotate_left
 · refine go ?_
   exact q_fin false (hv := rfl) (hp := fun h => by cases h)
 refine go ?_
 refine if_d rfl (fun h9 => ?_) (fun h9 => ?_)
 · refine go ?_
   exact q_fin false (hv := rfl) (hp := fun h => by cases h)
 refine go ?_
 refine zH (fun j : Nat => k.lists.length - j) (fun j => [(3, .int .i64 (j : Int))]) (fun _ => []) (fun _ => []) (fun j => j ≤ k.lists.length ∧ ∀ l ∈ k.lists.take j, l.length ≤ 40) 0 ⟨Nat.zero_le _, by simp⟩ (body := ?_)
 rintro j ⟨hj, hall⟩
 refine go ?_
 refine if_d rfl (fun a1 => ?_) (fun a1 => ?_)
 · refine go ?_
   refine zd (slE (slE intE)) (xs := k.lists) (next := fun _ _ l (vl2 : Value) hl => ?_)
   refine go ?_
   refine if_d rfl (fun a2 => ?_) (fun a2 => ?_)
   · refine go ?_
     exact q_fin false (hv := rfl) (hp := fun h => by cases h)
   · refine go ?_
     refine zC (j + 1) (by show k.lists.length - (j + 1) < k.lists.length - j; omega) ⟨by omega, ?_⟩
     rw [zN hl]
     intro x hx
     rcases List.mem_append.1 hx with hx | hx
     · exact hall x hx
     · rw [List.mem_singleton.1 hx]; omega
 have hje : j = k.lists.length := by omega
 subst hje
 rw [List.take_length] at hall
 refine go ?_
 refine zH (fun j : Nat => k.decl.regions.length - j) (fun j => [(4, .int .i64 (j : Int))]) (fun _ => []) (fun _ => []) (fun j => j ≤ k.decl.regions.length ∧ ∀ r ∈ k.decl.regions.take j, r.lists.length ≤ 20) 0 ⟨Nat.zero_le _, by simp⟩ (body := ?_)
 rintro j ⟨hj, hall2⟩
 refine go ?_
 refine if_d rfl (fun a1 => ?_) (fun a1 => ?_)
 · have hr : k.decl.regions[j]? = some (k.decl.regions[j]'(by omega)) := List.getElem?_eq_getElem _
   generalize k.decl.regions[j]'(by omega) = r at hr
   refine go ?_
   refine zd zD1 (xs := k.decl.regions) (next := fun _ _ r2 (vl2 : Value) hr2 => ?_)
   rw [hr] at hr2
   obtain rfl : r = r2 := Option.some.inj hr2
   refine go ?_
   refine if_d rfl (fun a2 => ?_) (fun a2 => ?_)
   · refine go ?_
     exact q_fin false (hv := rfl) (hp := fun h => by cases h)
   · refine go ?_
     refine zC (j + 1) (by show k.decl.regions.length - (j + 1) < k.decl.regions.length - j; omega) ⟨by omega, ?_⟩
     rw [zN hr]
     intro x hx
     rcases List.mem_append.1 hx with hx | hx
     · exact hall2 x hx
     · rw [List.mem_singleton.1 hx]; omega
 have hje : j = k.decl.regions.length := by omega
 subst hje
 rw [List.take_length] at hall2
 refine go ?_
 exact q_fin true (hv := rfl) (hp := fun _ => ⟨by omega, by omega, by omega, by omega, by omega, by omega, by omega, by omega, by omega, hall, hall2⟩)
theorem zNt {k : Knd} {p : List zAW} {grid : List Int} {vh vs vr vc vu gh gc vn vl vp vg : Value} (hB : zRk k) :
 FnC Tryz.prog (.func 12) [.agg ⟨zHe k vh vs vr vc vu gh gc vn vl⟩, .agg ⟨[vp]⟩, vg] [] [] (fSl gvnE vp p :: fSl intE vg grid :: zGR k vh vs vr vc vu gh gc vn vl []) (fun b : Bool => .bool b) (fun _ => []) (fun _ => []) (fun b => b = true → zSp k ∧ p.length ≤ 60 ∧ grid.length ≤ 20) := by
 refine zE _ (isC 12) fun B w0 => ?_
 dsimp only [zGR]
 refine go ?_
 intro b3 b4
 refine go ?_
 refine zA (zPR (k := k) (vh := vh) (vs := vs) (vr := vr) (vc := vc) (vu := vu) (gh := gh) (gc := gc) (vn := vn) (vl := vl) hB) (next := fun b hb => ?_)
 cases b with
 | false =>
   refine go ?_
   exact q_fin false (hv := rfl) (hp := fun h => by cases h)
 | true =>
 have hk := hb rfl
 refine go ?_
 first | with_reducible refine g_d (fun h1 => ?_) (fun h1 => ?_) | with_reducible refine g_n (fun h1 => ?_) (fun h1 => ?_) | with_reducible refine g_b (fun h1 => ?_) (fun h1 => ?_)
 · refine go ?_
   exact q_fin false (hv := rfl) (hp := fun h => by cases h)
 refine go ?_
 refine q_fin (decide ((grid.length : Int) ≤ 20)) (hv := rfl) (hp := fun h => ?_)
 have h := of_decide_eq_true h
 exact ⟨hk, by omega, by omega⟩
theorem zMi {v : Value} {xs : List Int} {x : Int} (hl : xs.length < 9223372036854775808) : FnP Tryz.prog 29 [v, .int .i64 x] [fSl intE v xs] (.bool (decide (x ∈ xs))) := by
 refine zE _ (isC 29) fun B w0 => ?_
 refine go ?_
 refine zH (fun j : Nat => xs.length - j) (fun j => [(5, .int .i64 (j : Int))]) (fun _ => []) (fun _ => []) (fun j => j ≤ xs.length ∧ x ∉ xs.take j) 0 ⟨Nat.zero_le _, by simp⟩ (body := ?_)
 rintro j ⟨hj, hno⟩
 refine go ?_
 refine if_d rfl (fun a1 => ?_) (fun a1 => ?_)
 · refine go ?_
   intro _ _ y hy
   refine go ?_
   refine if_d rfl (fun a2 => ?_) (fun a2 => ?_)
   · refine go ?_
     refine q_fin () (hv := ?_) (hp := trivial)
     rw [decide_eq_true (show x ∈ xs by rw [← a2]; exact List.mem_of_getElem? hy)]; rfl
   · refine go ?_
     refine zC (j + 1) (by show xs.length - (j + 1) < xs.length - j; omega) ⟨by omega, ?_⟩
     rw [zN hy]
     intro hx
     rcases List.mem_append.1 hx with hx | hx
     · exact hno hx
     · exact a2 (List.mem_singleton.1 hx).symm
 have hje : j = xs.length := by omega
 subst hje
 rw [List.take_length] at hno
 refine go ?_
 refine q_fin () (hv := ?_) (hp := trivial)
 rw [decide_eq_false hno]; rfl
end Go.Proofs.YtpkieeggilkagaaGreat
namespace Go.Proofs.YtpkieeggilkagaaGreat
open Go.Ideal Kd Canon
theorem zMZ {k : Int} (h : (shpOf k).read = true) : 1 ≤ k ∧ k ≤ 11 := by
 apply Classical.byContradiction
 intro hn
 have hc : (k < 0 ∨ 14 ≤ k) ∨ k = 0 ∨ k = 12 ∨ k = 13 := by omega
 rcases hc with hc | rfl | rfl | rfl
 · rw [zC0 hc] at h; cases h
 · cases h
 · cases h
 · cases h
theorem zIU {syms : List ByteArray} (hs : syms.length ≤ 16) : ∀ (l : List ByteArray), (∀ s ∈ l, s ∈ syms) → setN syms l < 2 ^ 16 := by
 have h : ∀ (l : List ByteArray) (m : Nat), m < 2 ^ 16 → (∀ s ∈ l, s ∈ syms) → l.foldl (fun m s => m ||| 1 <<< posn s syms) m < 2 ^ 16 := by
  intro l
  induction l with
  | nil => intro m hm _; exact hm
  | cons s l ih =>
    intro m hm hl
    rw [List.foldl_cons]
    refine ih _ (Nat.or_lt_two_pow hm ?_) (fun t ht => hl t (List.mem_cons_of_mem _ ht))
    have := zCa (hl s (List.mem_cons_self ..))
    rw [Nat.one_shiftLeft]
    exact Nat.pow_lt_pow_right (by omega) (by omega)
 intro l hl
 exact h l 0 (by decide) hl
theorem zV.rul {k : Knd} (h : zV k) {r : Rul} (hr : r ∈ k.decl.rules) : ∃ q ∈ k.decl.rules, r = zKs (zBg k.decl) (zBC k.decl) (zDz k.decl) q := by
 have h1 : r ∈ (Kd.rslv k.decl).rules := by rw [← h.decl]; exact hr
 obtain ⟨q, hq, e⟩ := List.mem_map.1 (show r ∈ k.decl.rules.map (zKs (zBg k.decl) (zBC k.decl) (zDz k.decl)) from h1)
 exact ⟨q, hq, e.symm⟩
theorem zV.llen {k : Knd} (h : zV k) : k.lists.length = 8 + k.decl.regions.length := by
 rw [h.lists]
 unfold listsOf
 rw [List.length_append, List.length_map, List.length_map, List.length_range]
theorem zV.gok {k : Knd} (h : zV k) : zAQ (zJ k.decl) := ⟨h.typ.mke, rfl⟩
theorem zV.inr {k : Knd} (h : zV k) {r : Rul} (hr : r ∈ k.decl.rules) : zMB k r := by
 obtain ⟨q, hq, rfl⟩ := h.rul hr
 have hro := h.b.rs.rul q hq
 have hl := h.llen
 have hfl : (zBC k.decl).length = 8 + k.decl.regions.length := by
  unfold zBC
  rw [List.length_append, List.length_map]; rfl
 refine ⟨?_, ?_⟩
 · show 0 ≤ (if q.on = ⟨⟨[]⟩⟩ then (0 : Int) else (posn q.on (zBC k.decl) : Int)) ∧ (if q.on = ⟨⟨[]⟩⟩ then (0 : Int) else (posn q.on (zBC k.decl) : Int)) < _
   by_cases e : q.on = ⟨⟨[]⟩⟩
   · rw [if_pos e]; omega
   · rw [if_neg e]
     have := zCa (hro.on.resolve_left e)
     omega
 · show (if q.by_ = ⟨⟨[]⟩⟩ then (-1 : Int) else (posn q.by_ (zDz k.decl) : Int)) < _
   by_cases e : q.by_ = ⟨⟨[]⟩⟩
   · rw [if_pos e]; omega
   · rw [if_neg e]
     have h1 := zCa (hro.by_.resolve_left e)
     have h2 : (zDz k.decl).length = k.decl.clues.length := by unfold zDz; rw [List.length_map]
     omega
theorem zRA {k : Knd} {p : List zAW} {r : Rul} (hr : zMB k r) (hp : ∀ g ∈ p, zBm k g) {x : List Int × List Int} (hx : x ∈ rlsOf k p r) : ∃ l ∈ k.lists, x.1 ∈ l := by
 unfold rlsOf at hx
 obtain ⟨hf0, hf1⟩ := hr.fam
 split at hx
 · have hl : k.lists[r.family.toNat]? = some (k.lists[r.family.toNat]'(by omega)) := List.getElem?_eq_getElem _
   rw [zBw hl] at hx
   obtain ⟨l, hl2, rfl⟩ := List.mem_map.1 hx
   exact ⟨_, List.getElem_mem _, hl2⟩
 · obtain ⟨g, hg, rfl⟩ := List.mem_map.1 hx
   obtain ⟨c, l, ps, h1, h2, h3, _, _, _, h4⟩ := (hp g (List.mem_filter.1 hg).1).cells
   exact ⟨l, List.mem_of_getElem? h2, by rw [h4]; exact List.mem_of_getElem? h3⟩
theorem zRQ {k : Knd} {p : List zAW} {grid : List Int} (hS : zIW k) (hP : zJv p) (hgl : grid.length ≤ 1000000) : zQf k p grid := by
 intro hK hFin hQ r hr
 have hty := hK.typ
 have hgo := hK.gok
 have hin := hK.inr hr
 obtain ⟨q, hq, hre⟩ := hK.rul hr
 have hro := hK.b.rs.rul q hq
 have hrx := hty.form.ruls r hr
 have hsl := hty.lim.s1
 have hkd : 1 ≤ r.kind ∧ r.kind ≤ 11 := by
  refine zMZ ?_
  have := hty.read
  unfold zBL at this
  rw [List.filterMap_eq_nil_iff] at this
  obtain ⟨j, hj⟩ := List.getElem?_of_mem hr
  have := this (r, j) (List.mk_mem_zipIdx_iff_getElem?.2 hj)
  cases h : (shpOf r.kind).read with
  | true => rfl
  | false => simp [h] at this
 have hgc : k.grid.cells.length = (zJ k.decl).cells.length := by rw [hK.grid]
 obtain ⟨hf1, hf2⟩ := hFin
 have hlin : ∀ l ∈ k.lists, ∀ ps ∈ l, InN (zJ k.decl).cells.length ps := by
  rw [hK.lists]
  exact zI6 hgo (fun r hr => (hty.rgn r hr).1.2)
 have hxin : ∀ x ∈ rlsOf k p r, InN (zJ k.decl).cells.length x.1 := fun x hx => by
  obtain ⟨l, hl, hxl⟩ := zRA hin hQ.right hx
  exact hlin l hl _ hxl
 have hset1 : r.set = ((setN (zBg k.decl) q.names : Nat) : Int) := by rw [hre]; rfl
 have hset2 : r.other = ((setN (zBg k.decl) q.others : Nat) : Int) := by rw [hre]; rfl
 have hsn : (zBg k.decl).length ≤ 16 := by unfold zBg; rw [List.length_map]; exact hsl
 have hl1 := zIU hsn q.names hro.names
 have hl2 := zIU hsn q.others hro.others
 have hneed : ∀ need : Int, need ≠ 0 → (∀ n2 : Int, n2 = (if (shpOf r.kind).op = true ∧ r.by_ ≠ zGl then 2 else (shpOf r.kind).clue) → n2 = 0 ∨ n2 = need) → 0 ≤ r.clue → ∃ c, k.decl.clues[r.clue.toNat]? = some c ∧ c.type = need := by
  intro need hn h2 hc
  rcases hrx.clu _ rfl with ⟨a1, _, a2⟩ | ⟨a1, _, _, c, a2, a3, _⟩
  · omega
  · rcases h2 _ rfl with h | h
    · exact absurd h a1
    · exact ⟨c, a2, by rw [a3]; exact h⟩
 have htype : r.kind = 2 ∨ r.kind = 3 ∨ r.kind = 11 → 0 ≤ r.clue → ∃ c, k.decl.clues[r.clue.toNat]? = some c ∧ (c.type = 1 ∨ c.type = 2) := by
  intro h hc
  rcases h with h | h | h
  · obtain ⟨c, h1, h2⟩ := hneed 2 (by omega) (fun n2 hn2 => by rw [h] at hn2; rw [hn2]; split; exact .inr rfl; exact .inl rfl) hc
    exact ⟨c, h1, .inr h2⟩
  · obtain ⟨c, h1, h2⟩ := hneed 2 (by omega) (fun n2 hn2 => by rw [h] at hn2; rw [hn2]; split; exact .inr rfl; exact .inl rfl) hc
    exact ⟨c, h1, .inr h2⟩
  · obtain ⟨c, h1, h2⟩ := hneed 1 (by omega) (fun n2 hn2 => by
     rw [h] at hn2
     have e : (shpOf 11).op = false := rfl
     rw [e, if_neg (by simp)] at hn2
     exact .inr hn2) hc
    exact ⟨c, h1, .inl h2⟩
 refine ⟨hS, hP, hK.fam, hin, hQ.right, ⟨hgl, fun x hx => ?_⟩, fun x hx => ⟨?_, fun c hc => ?_⟩, ⟨fun v hv => ?_, fun x hx => ?_⟩, ?_, ?_, ⟨by rw [hset1]; omega, by rw [hset1]; omega⟩, ⟨by rw [hset2]; omega, by rw [hset2]; omega⟩, hkd, fun hk x hx => ?_, fun x hx => (hxin x hx).1, fun hk x hx => ?_⟩
 · have := hf2 x hx; omega
 · have := (hxin x hx).1; omega
 · have := (hxin x hx).2 c hc; omega
 · obtain ⟨s, hs, rfl⟩ := List.mem_map.1 hv
   exact hty.form.syms s hs
 · have := hf2 x hx
   have : (zAM k).length = k.decl.symbols.length := by unfold zAM; rw [List.length_map]
   omega
 · rw [hK.nbs]
   refine ⟨by rw [zBR]; exact hgo.len, fun i l hl j n hn => ?_⟩
   exact zLC hgo i l hl j n hn
 · rw [hK.nbs, zBR]; omega
 · unfold rlsOf at hx
   by_cases hc : r.clue < 0
   · rw [if_pos hc] at hx
     obtain ⟨l, _, rfl⟩ := List.mem_map.1 hx
     simp
   · rw [if_neg hc] at hx
     obtain ⟨g, hg, rfl⟩ := List.mem_map.1 hx
     obtain ⟨hg1, hg2⟩ := List.mem_filter.1 hg
     have hg2 := of_decide_eq_true hg2
     obtain ⟨c, h1, h2⟩ := htype hk (by omega)
     obtain ⟨c', l, _, b1, _, _, _, b2⟩ := hQ.right g hg1
     rw [hg2, h1] at b1
     cases b1
     show 0 < g.values.length
     rcases b2 with b2 | b2 | b2
     · omega
     · omega
     · rcases h2 with h2 | h2
       · exact absurd h2 b2.1
       · exact absurd h2 b2.2.1
 · have hc : 0 ≤ r.clue := by
    rcases hrx.clu _ rfl with ⟨a1, _, _⟩ | ⟨_, a, _⟩
    · rw [hk] at a1
      have e : (shpOf 11).op = false := rfl
      rw [e, if_neg (by simp)] at a1
      cases a1
    · exact a
   obtain ⟨c, h1, h2⟩ := hneed 1 (by omega) (fun n2 hn2 => by
    rw [hk] at hn2
    have e : (shpOf 11).op = false := rfl
    rw [e, if_neg (by simp)] at hn2
    exact .inr hn2) hc
   have hcp := (hty.form.clus _ c h1).2
   have hfam : c.family = 0 := by unfold CluP at hcp; omega
   unfold rlsOf at hx
   rw [if_neg (by omega)] at hx
   obtain ⟨g, hg, rfl⟩ := List.mem_map.1 hx
   obtain ⟨hg1, hg2⟩ := List.mem_filter.1 hg
   have hg2 := of_decide_eq_true hg2
   obtain ⟨c', l, ps, b1, b2, b3, _, _, _, b4⟩ := (hQ.right g hg1).cells
   rw [hg2, h1] at b1
   cases b1
   rw [hfam, hK.lists] at b2
   have hl0 : (listsOf k.decl)[(0 : Int).toNat]? = some (famOf (zJ k.decl) 0) := rfl
   rw [hl0] at b2
   cases b2
   show 0 < (cellsAt k g).length
   rw [b4]
   have hps := List.mem_of_getElem? b3
   have : famOf (zJ k.decl) 0 = zIA (zJ k.decl).cells.length := by simp [famOf]
   rw [this] at hps
   unfold zIA at hps
   obtain ⟨i, _, rfl⟩ := List.mem_map.1 hps
   simp
end Go.Proofs.YtpkieeggilkagaaGreat
namespace Go.Proofs.YtpkieeggilkagaaGreat
open Go.Ideal Kd Canon
noncomputable def zHf : zn := ⟨27, [(.tmp 4)], (.seq (.ops [4] [⟨⟨(some 4), none, (.asg (.const (.slice none 0 0)))⟩, []⟩]) (.seq (.seq (.ops [5, 6] [⟨⟨(some 5), none, (.mv (.tmp 1))⟩, []⟩, ⟨⟨(some 6), none, (.bin .lss 3 (.tmp 5) (.const (.int .i64 0)))⟩, []⟩]) (.cond (.tmp 6) (.ops [7] [⟨⟨(some 7), none, (.iface 9 (.const (.string ⟨⟨[99, 97, 110, 110, 111, 116, 32, 98, 101, 32, 110, 101, 103, 97, 116, 105, 118, 101]⟩⟩)))⟩, []⟩, ⟨⟨none, none, (.panic (.tmp 7))⟩, []⟩]) .skip)) (.seq (.seq (.ops [8, 9, 10, 11, 12, 13, 14, 1] [⟨⟨(some 8), none, (.mv (.tmp 1))⟩, []⟩, ⟨⟨(some 9), none, (.mv (.tmp 0))⟩, []⟩, ⟨⟨(some 10), none, (.capSl (.tmp 9))⟩, []⟩, ⟨⟨(some 11), none, (.mv (.tmp 0))⟩, []⟩, ⟨⟨(some 12), none, (.lenSl (.tmp 11))⟩, []⟩, ⟨⟨(some 13), none, (.bin .sub 3 (.tmp 10) (.tmp 12))⟩, []⟩, ⟨⟨(some 14), none, (.bin .sub 3 (.tmp 8) (.tmp 13))⟩, []⟩, ⟨⟨(some 1), none, (.asg (.tmp 14))⟩, []⟩]) (.seq (.ops [15, 16] [⟨⟨(some 15), none, (.mv (.tmp 1))⟩, []⟩, ⟨⟨(some 16), none, (.bin .gtr 3 (.tmp 15) (.const (.int .i64 0)))⟩, []⟩]) (.cond (.tmp 16) (.ops [17, 18, 19, 20, 21, 22, 23, 24, 25, 0] [⟨⟨(some 17), none, (.mv (.tmp 0))⟩, []⟩, ⟨⟨(some 18), none, (.mv (.tmp 0))⟩, []⟩, ⟨⟨(some 19), none, (.capSl (.tmp 18))⟩, []⟩, ⟨⟨(some 20), none, (.slSl 3 (.tmp 17) none (some (.tmp 19)) none)⟩, []⟩, ⟨⟨(some 21), none, (.mv (.tmp 1))⟩, []⟩, ⟨⟨(some 22), none, (.appendZ 74 3 40 [(.int .i64 0), (.int .i64 0), (.slice none 0 0)] (.tmp 20) (.tmp 21))⟩, []⟩, ⟨⟨(some 23), none, (.mv (.tmp 0))⟩, []⟩, ⟨⟨(some 24), none, (.lenSl (.tmp 23))⟩, []⟩, ⟨⟨(some 25), none, (.slSl 3 (.tmp 22) none (some (.tmp 24)) none)⟩, []⟩, ⟨⟨(some 0), none, (.asg (.tmp 25))⟩, []⟩]) .skip))) (.seq (.ops [26, 4] [⟨⟨(some 26), none, (.mv (.tmp 0))⟩, []⟩, ⟨⟨(some 4), none, (.asg (.tmp 26))⟩, []⟩]) .ret))))⟩
theorem f_growG : enF Tryz.prog 113 = some zHf := by kernel_rfl
noncomputable def zK2 : zn := ⟨36, [(.tmp 2)], (.seq (.ops [2] [⟨⟨(some 2), none, (.asg (.const (.slice none 0 0)))⟩, []⟩]) (.seq (.ops [3] [⟨⟨(some 3), none, (.asg (.const (.int .i64 0)))⟩, []⟩]) (.seq (.seq (.ops [9, 10, 11] [⟨⟨(some 9), none, (.mv (.tmp 0))⟩, []⟩, ⟨⟨(some 10), none, (.lenSl (.tmp 9))⟩, []⟩, ⟨⟨(some 11), none, (.mv (.const (.int .i64 0)))⟩, []⟩]) (.block 0 (.loop (.seq (.ops [12] [⟨⟨(some 12), none, (.bin .lss 3 (.tmp 11) (.tmp 10))⟩, []⟩]) (.seq (.cond (.tmp 12) .skip (.exit 0)) (.seq (.block 1 (.seq (.ops [13, 14, 5] [⟨⟨(some 13), none, (.idxSl 1 (.tmp 9) (.tmp 11))⟩, []⟩, ⟨⟨(some 14), none, (.load1 (.tmp 13))⟩, []⟩, ⟨⟨(some 5), none, (.asg (.tmp 14))⟩, []⟩]) (.seq (.ops [15, 16, 17, 18, 3] [⟨⟨(some 15), none, (.mv (.tmp 3))⟩, []⟩, ⟨⟨(some 16), none, (.mv (.tmp 5))⟩, []⟩, ⟨⟨(some 17), none, (.lenSl (.tmp 16))⟩, []⟩, ⟨⟨(some 18), none, (.bin .add 3 (.tmp 15) (.tmp 17))⟩, []⟩, ⟨⟨(some 3), none, (.asg (.tmp 18))⟩, []⟩]) (.seq (.ops [19, 20] [⟨⟨(some 19), none, (.mv (.tmp 3))⟩, []⟩, ⟨⟨(some 20), none, (.bin .lss 3 (.tmp 19) (.const (.int .i64 0)))⟩, []⟩]) (.cond (.tmp 20) (.ops [21] [⟨⟨(some 21), none, (.iface 9 (.const (.string ⟨⟨[108, 101, 110, 32, 111, 117, 116, 32, 111, 102, 32, 114, 97, 110, 103, 101]⟩⟩)))⟩, []⟩, ⟨⟨none, none, (.panic (.tmp 21))⟩, []⟩]) .skip))))) (.ops [22, 11] [⟨⟨(some 22), none, (.bin .add 3 (.tmp 11) (.const (.int .i64 1)))⟩, []⟩, ⟨⟨(some 11), none, (.mv (.tmp 22))⟩, []⟩]))))))) (.seq (.ops [23, 24, 6] [⟨⟨(some 23), none, (.mv (.tmp 3))⟩, []⟩, ⟨⟨(some 24), none, (.call (.func 113) [(.const (.slice none 0 0)), (.tmp 23)])⟩, []⟩, ⟨⟨(some 6), none, (.asg (.tmp 24))⟩, []⟩]) (.seq (.seq (.ops [25, 26, 27] [⟨⟨(some 25), none, (.mv (.tmp 0))⟩, []⟩, ⟨⟨(some 26), none, (.lenSl (.tmp 25))⟩, []⟩, ⟨⟨(some 27), none, (.mv (.const (.int .i64 0)))⟩, []⟩]) (.block 2 (.loop (.seq (.ops [28] [⟨⟨(some 28), none, (.bin .lss 3 (.tmp 27) (.tmp 26))⟩, []⟩]) (.seq (.cond (.tmp 28) .skip (.exit 2)) (.seq (.block 3 (.seq (.ops [29, 30, 8] [⟨⟨(some 29), none, (.idxSl 1 (.tmp 25) (.tmp 27))⟩, []⟩, ⟨⟨(some 30), none, (.load1 (.tmp 29))⟩, []⟩, ⟨⟨(some 8), none, (.asg (.tmp 30))⟩, []⟩]) (.ops [31, 32, 33, 6] [⟨⟨(some 31), none, (.mv (.tmp 6))⟩, []⟩, ⟨⟨(some 32), none, (.mv (.tmp 8))⟩, []⟩, ⟨⟨(some 33), none, (.append 74 3 40 (.tmp 31) (.tmp 32))⟩, []⟩, ⟨⟨(some 6), none, (.asg (.tmp 33))⟩, []⟩]))) (.ops [34, 27] [⟨⟨(some 34), none, (.bin .add 3 (.tmp 27) (.const (.int .i64 1)))⟩, []⟩, ⟨⟨(some 27), none, (.mv (.tmp 34))⟩, []⟩]))))))) (.seq (.ops [35, 2] [⟨⟨(some 35), none, (.mv (.tmp 6))⟩, []⟩, ⟨⟨(some 2), none, (.asg (.tmp 35))⟩, []⟩]) .ret))))))⟩
theorem f_concG : enF Tryz.prog 52 = some zK2 := by kernel_rfl
abbrev zOK : List Value := [.int .i64 0, .int .i64 0, .slice none 0 0]
theorem zN6 : FnP Tryz.prog 113 [.slice none 0 0, .int .i64 0] [] (.slice none 0 0) := by
 refine zE zHf f_growG fun B w0 => ?_
 refine go ?_
 refine (d_p rfl rfl (zLv rfl)).h ?_
 refine go ?_
 exact q_fin () (hv := rfl) (hp := trivial)
theorem zOS {m : Nat} (h0 : 0 < m) (hm : m ≤ 4096) : FnC Tryz.prog (.func 113) [.slice none 0 0, .int .i64 (m : Int)] [] [] [] (fun b : Nat => .slice (some ⟨b, 0, some 3⟩) 0 m) (fun b => [pt b (.cells (zeros zOK m))]) (fun _ => []) (fun _ => True) := by
 refine zE zHf f_growG fun B w0 => ?_
 refine go ?_
 refine (d_p rfl rfl (zLv rfl)).h ?_
 refine go ?_
 refine if_d rfl (fun h1 => ?_) (fun h1 => ?_)
 rotate_left
 · omega
 refine go ?_
 refine (d_p rfl rfl (zLv rfl)).h ?_
 refine (d_p rfl rfl (zSS rfl rfl)).h ?_
 refine go ?_
 refine zO9 m h0 ⟨by omega, by omega, by omega⟩ (next := fun b => ?_) (hx := by show Value.int .i64 _ = Value.int .i64 _; congr 1)
 refine go ?_
 refine (d_p rfl rfl (zSG (k := 2) rfl rfl)).h ?_
 refine go ?_
 exact q_fin b (hv := rfl) (hp := trivial)
theorem zNC {b : Nat} {v1 v2 : Value} {ys1 ys2 : List zAW} (hl : ys1.length + ys2.length ≤ 4096) :
 FnC Tryz.prog (.func 52) [.slice (some ⟨b, 0, some 0⟩) 2 2] [] [] [fRaw b 0 [v1, v2], fSl gvnE v1 ys1, fSl gvnE v2 ys2] (fun v : Value => v) (fun _ => []) (fun v => [fSl gvnE v (ys1 ++ ys2)]) (fun _ => True) := by
 have hgn : gvnE.n = 3 := rfl
 refine zE zK2 f_concG fun B w0 => ?_
 refine zEW gvnE v1 (xs := ys1) (fun xs1 e1 => ?_)
 refine zEW gvnE v2 (xs := ys2) (fun xs2 e2 => ?_)
 have hx1 : xs1.length = ys1.length := by rw [← e1, List.length_map]
 have hx2 : xs2.length = ys2.length := by rw [← e2, List.length_map]
 refine zPs (xys := xs1) (v := v1) (E := gvnE) ?_
 refine zPs (xys := xs2) (v := v2) (E := gvnE) ?_
 refine zQ (E := gvnE) (v := v1) (xs := ys1) (by simp) fun a1 c1 f1 => ?_
 subst f1
 refine zQ (E := gvnE) (v := v2) (xs := ys2) (by simp) fun a2 c2 f2 => ?_
 subst f2
 refine go ?_
 refine ze ?_
 refine go ?_
 refine ze ?_
 refine go ?_
 refine ze ?_
 refine go ?_
 by_cases hz : ys1.length + ys2.length = 0
 · have z1 : ys1.length = 0 := by omega
   have z2 : ys2.length = 0 := by omega
   have n1 : ys1 = [] := List.length_eq_zero_iff.1 z1
   have n2 : ys2 = [] := List.length_eq_zero_iff.1 z2
   rw [z1, z2]
   refine zA zN6 (next := fun _ _ => ?_)
   refine go ?_
   refine ze ?_
   refine go ?_
   refine (d_p rfl rfl (zO0 rfl rfl)).h ?_
   refine go ?_
   refine ze ?_
   refine go ?_
   refine (d_p rfl rfl (zO0 rfl rfl)).h ?_
   refine go ?_
   refine ze ?_
   refine go ?_
   refine zg (fSl gvnE (.slice none 0 0) (ys1 ++ ys2)) (fun w hw => .inl ⟨by rw [n1, n2]; rfl, none, 0, rfl, trivial⟩) ?_
   exact q_fin (.slice none 0 0) (hv := rfl) (hp := trivial)
 · rw [show (0 : Int) + (ys1.length : Int) + (ys2.length : Int) = ((ys1.length + ys2.length : Nat) : Int) by omega]
   refine zA (zOS (m := ys1.length + ys2.length) (by omega) hl) (next := fun bg _ => ?_)
   have hzl := zeros_length zOK (ys1.length + ys2.length)
   rw [show zOK.length = 3 from rfl] at hzl
   generalize hzz : zeros zOK (ys1.length + ys2.length) = zs at hzl ⊢
   refine go ?_
   refine ze ?_
   refine go ?_
   rw [show zs = [] ++ zs from rfl]
   refine zL9 (m := 0) (f := some 3) (cap := ys1.length + ys2.length) (b := bg) gvnE xs1 [] zs rfl (by rw [hgn]; omega) (by omega) ⟨by omega, by omega, by omega⟩ ?_
   rw [List.nil_append]
   refine go ?_
   refine ze ?_
   refine go ?_
   have hd1 : (zs.drop (xs1.length * gvnE.n)).length = ys2.length * 3 := by rw [List.length_drop, hzl, hgn, hx1]; omega
   refine zL9 (m := 0 + xs1.length) (f := some 3) (cap := ys1.length + ys2.length) (b := bg) gvnE xs2 (zU gvnE xs1) (zs.drop (xs1.length * gvnE.n)) (by rw [zAi, Nat.zero_add]) (by rw [hd1, hgn]; omega) (by omega) ⟨by omega, by omega, by omega⟩ ?_
   rw [show (zs.drop (xs1.length * gvnE.n)).drop (xs2.length * gvnE.n) = [] from List.drop_eq_nil_of_le (by rw [hgn] at hd1 ⊢; omega), List.append_nil, show zU gvnE xs1 ++ zU gvnE xs2 = zU gvnE (xs1 ++ xs2) by unfold zU; rw [List.flatMap_append]]
   rw [show 0 + xs1.length + xs2.length = ys1.length + ys2.length by omega]
   refine z8 gvnE (xys := xs1 ++ xs2) (b := bg) (f := 3) (m := ys1.length + ys2.length) (by rw [List.length_append]; omega) (.inr rfl) ?_
   refine zED (E := gvnE) (v := .slice (some ⟨bg, 0, some 3⟩) (ys1.length + ys2.length) (ys1.length + ys2.length)) (xys := xs1 ++ xs2) ?_ (fun w h p hp f hf => ?_)
   rotate_left
   · rcases List.mem_append.1 hp with hp | hp
     · exact h (fAll gvnE xs1) (by simp) p hp f hf
     · exact h (fAll gvnE xs2) (by simp) p hp f hf
   rw [List.map_append, e1, e2]
   refine go ?_
   refine ze ?_
   refine go ?_
   exact q_fin (.slice (some ⟨bg, 0, some 3⟩) (ys1.length + ys2.length) (ys1.length + ys2.length)) (hv := rfl) (hp := trivial)
def woOf (p : List zAW) (n : Int) : List zAW := p.take n.toNat ++ p.drop (n.toNat + 1)
structure WoY where
 v : Value
 e : Int
theorem zOT {p : List zAW} {vp : Value} {at_ : Int} (hl : p.length ≤ 4096) : FnC Tryz.prog (.func 28) [.agg ⟨[vp]⟩, .int .i64 at_] [] [] [fSl gvnE vp p] (fun y : WoY => .tuple ⟨[.agg ⟨[y.v]⟩, .int .i64 y.e]⟩) (fun _ => [])
 (fun y => [fIf (y.e = 0) (fSl gvnE y.v (woOf p at_))]) (fun y => y.e = 0 ↔ 0 ≤ at_ ∧ at_ < p.length) := by
 refine zE _ (isC 28) fun B w0 => ?_
 refine zQ (E := gvnE) (v := vp) (xs := p) (by simp) fun ap1 cp ep => ?_
 subst ep
 refine go ?_
 intro b2 b4
 refine go ?_
 first | with_reducible refine g_d (fun h1 => ?_) (fun h1 => ?_) | with_reducible refine g_n (fun h1 => ?_) (fun h1 => ?_) | with_reducible refine g_b (fun h1 => ?_) (fun h1 => ?_)
 rotate_left
 · refine go ?_
   refine zER (c := (1 : Int) = 0) (f := fSl gvnE (.slice none 0 0) (woOf p at_)) (by omega) ?_
   exact q_fin ⟨.slice none 0 0, 1⟩ (hv := rfl) (hp := ⟨(fun h => by cases h), fun h => by exfalso; omega⟩)
 refine go ?_
 refine if_d rfl (fun h2 => ?_) (fun h2 => ?_)
 · refine go ?_
   refine zER (c := (1 : Int) = 0) (f := fSl gvnE (.slice none 0 0) (woOf p at_)) (by omega) ?_
   exact q_fin ⟨.slice none 0 0, 1⟩ (hv := rfl) (hp := ⟨(fun h => by cases h), fun h => by exfalso; omega⟩)
 obtain ⟨n, rfl⟩ := Int.eq_ofNat_of_zero_le (show 0 ≤ at_ by omega)
 refine go ?_
 refine zTQ gvnE (xs := p) n (by omega) (next := fun a1 m1 => ?_)
 refine go ?_
 refine zRc gvnE (xs := p) (n + 1) (by omega) (next := fun a2 m2 => ?_) (hlo := rfl)
 refine go ?_
 intro b25
 refine zO (zS (b := b25)) (h := ?_)
 refine go ?_
 have htl : (p.take n).length = n := by rw [List.length_take]; omega
 have hdl : (p.drop (n + 1)).length = p.length - (n + 1) := List.length_drop
 refine zA (zNC (b := b25) (ys1 := p.take n) (ys2 := p.drop (n + 1)) (by omega)) (next := fun v _ => ?_)
 refine zQ (E := gvnE) (v := v) (xs := p.take n ++ p.drop (n + 1)) (by simp) fun av cv ev1 => ?_
 subst ev1
 refine go ?_
 refine zDs (c := (0 : Int) = 0) (f := fSl gvnE (.slice av (p.take n ++ p.drop (n + 1)).length cv) (woOf p (n : Int))) (by show fSl gvnE _ (p.take n ++ p.drop (n + 1)) ∈ _; simp) ?_
 exact q_fin ⟨.slice av (p.take n ++ p.drop (n + 1)).length cv, 0⟩ (hv := rfl) (hp := ⟨fun _ => ⟨by omega, by omega⟩, fun _ => rfl⟩)
end Go.Proofs.YtpkieeggilkagaaGreat

/-
  The laws PuzzlesSortSpec and PuzzlesSorted on the ideal machine.
-/
import Derived.Test.YtoohgkkmdnbnfaaGreatDoorLibE
import Derived.Test.YtoohgkkmdnbnfaaGreatDoorSaneE
set_option linter.unusedSimpArgs false
set_option linter.unusedVariables false
set_option maxRecDepth 10000
set_option maxHeartbeats 4000000
namespace Go.Proofs.YtoohgkkmdnbnfaaGreatDoor
open Go.Ideal Kd Canon
theorem lawSort_ok {v : Value} {xs : List Clue} (hl : xs.length < 9223372036854775808) : FnP Tryz.prog 4 [v] [fNxt 6, fSl gvnE v xs] (.bool true) := by
 refine q_beg _ (isC 4) fun B w0 => ?_
 refine q_form (E := gvnE) (v := v) (xs := xs) (by simp) fun av cv ev1 => ?_
 subst ev1
 refine go ?_
 refine q_call sane_ok (next := fun _ _ => ?_)
 refine go ?_
 refine q_call (few19_ok (xs := xs) hl) (next := fun b hb => ?_)
 refine go ?_
 cases b with
 | false =>
   refine go ?_
   exact q_fin () (hv := rfl) (hp := trivial)
 | true =>
   obtain ⟨h1, h2⟩ := hb rfl
   have hv : ∀ x ∈ xs, x.values.length ≤ 1000000 := fun x hx => by have := h2 x hx; omega
   refine go ?_
   refine q_call (pSort_ok (xs := xs) (by omega) hv) (next := fun y hy => ?_)
   obtain ⟨v1, r1⟩ := y
   refine go ?_
   refine q_call (rSort_ok (xs := xs) (by omega) hv) (next := fun y hy2 => ?_)
   obtain ⟨v2, r2⟩ := y
   dsimp only at hy hy2 ⊢
   have hs : ∀ {r : List Clue}, SortOK xs r → short r := fun h g hg => hv g (h.sub g hg)
   have hlen : r1.length ≤ 1000000 := by have := len_inc hy; omega
   refine go ?_
   refine q_call (rSame_ok (xs := r1) (ys := r2) hlen (hs hy) (hs hy2)) (next := fun _ _ => ?_)
   rw [decide_eq_true (hy.uniq hy2)]
   refine go ?_
   exact q_fin () (hv := rfl) (hp := trivial)
theorem inc_get {rs : List Clue} (h : rs.Pairwise fun a b => plc a b < 0) {i : Nat} {z x : Clue} (hi : 0 < i) (hz : rs[i - 1]? = some z) (hx : rs[i]? = some x) : plc z x < 0 := by
 obtain ⟨h1, e1⟩ := List.getElem?_eq_some_iff.1 hz
 obtain ⟨h2, e2⟩ := List.getElem?_eq_some_iff.1 hx
 have := List.pairwise_iff_getElem.1 h (i - 1) i h1 h2 (by omega)
 rwa [e1, e2] at this
theorem wrapZ (n : Int) : IntKind.u64.wrap n = ((n % 18446744073709551616).toNat : Int) := by
 show (let m := n % (2 ^ 64 : Int); if false && m ≥ (2 ^ 63 : Int) then m - (2 ^ 64 : Int) else m) = _
 simp only [Bool.false_and, Bool.false_eq_true, if_false]
 rw [show ((2 : Int) ^ 64) = 18446744073709551616 from rfl]
 have := Int.emod_nonneg n (show (18446744073709551616 : Int) ≠ 0 by decide)
 omega
theorem lawSorted_ok {v : Value} {xs : List Clue} {turn : Int} (hl : xs.length < 9223372036854775808) (ht : I64 turn) : FnP Tryz.prog 7 [v, .int .i64 turn] [fNxt 6, fSl gvnE v xs] (.bool true) := by
 refine q_beg _ (isC 7) fun B w0 => ?_
 refine q_form (E := gvnE) (v := v) (xs := xs) (by simp) fun av cv ev1 => ?_
 subst ev1
 refine go ?_
 refine q_call sane_ok (next := fun _ _ => ?_)
 refine go ?_
 refine q_call (few19_ok (xs := xs) hl) (next := fun b hb => ?_)
 refine go ?_
 cases b with
 | false =>
   refine go ?_
   exact q_fin () (hv := rfl) (hp := trivial)
 | true =>
 obtain ⟨hl1, hl2⟩ := hb rfl
 have hv : ∀ x ∈ xs, x.values.length ≤ 1000000 := fun x hx => by have := hl2 x hx; omega
 refine go ?_
 refine q_call (pSort_ok (xs := xs) (by omega) hv) (next := fun y hy => ?_)
 obtain ⟨v1, rs⟩ := y
 dsimp only at hy ⊢
 have hrl : rs.length ≤ 60 := by have := len_inc hy; omega
 have hvr : ∀ x ∈ rs, x.values.length ≤ 1000000 := fun x hx => hv x (hy.sub x hx)
 have hO := ordL_ok ordI_ok
 refine q_form (E := gvnE) (v := v1) (xs := rs) (by simp) fun ar1 cr er1 => ?_
 subst er1
 refine go ?_
 intro b5
 refine go ?_
 refine q_frz (frz_pt (b := b5)) (h := ?_)
 refine q_loop (fun i => rs.length - i) (fun i : Nat => [(29, .int .i64 (i : Int))]) (fun _ => []) (fun _ => []) (fun i => i ≤ rs.length) 0 (Nat.zero_le _) (body := ?_)
 intro i hi
 refine go ?_
 refine if_d rfl (fun h1 => ?_) (fun h1 => ?_)
 · have hil : i < rs.length := by omega
   refine go ?_
   refine q_idx gvnE (xs := rs) (next := fun _ _ x (vx : Value) hx => ?_)
   refine go ?_
   intro b7
   refine go ?_
   refine q_loop (fun s : Nat × Bool => xs.length - s.1) (fun s => [(36, .int .i64 (s.1 : Int)), (8, .bool s.2)]) (fun _ => []) (fun _ => []) (fun s => s.1 ≤ xs.length ∧ (s.2 = true ↔ x ∈ xs.take s.1)) (0, false) ⟨Nat.zero_le _, by simp⟩ (body := ?_)
   rintro ⟨j, own⟩ ⟨hj, hown⟩
   dsimp only at hj hown ⊢
   refine go ?_
   refine if_d rfl (fun h2 => ?_) (fun h2 => ?_)
   · have hjl : j < xs.length := by omega
     refine go ?_
     refine q_idx gvnE (xs := xs) (next := fun _ _ y (vy : Value) hyj => ?_)
     refine go ?_
     intro b10
     refine go ?_
     cases own with
     | true =>
       have hx1 : x ∈ xs.take (j + 1) := by rw [take_succ_get hyj]; exact List.mem_append_left _ (hown.1 rfl)
       refine go ?_
       refine q_call (rPlace_ok (a := x) (b := y) (va := vx) (vb := vy)) (next := fun _ _ => ?_)
       rw [← plc_eq]
       refine go ?_
       first | with_reducible refine g_d (fun h5 => ?_) (fun h5 => ?_) | with_reducible refine g_n (fun h5 => ?_) (fun h5 => ?_) | with_reducible refine g_b (fun h5 => ?_) (fun h5 => ?_)
       · refine go ?_
         refine q_again (j + 1, true) (by show xs.length - (j + 1) < xs.length - j; omega) ⟨by dsimp only; omega, ⟨fun _ => hx1, fun _ => rfl⟩⟩
       refine go ?_
       refine q_call (rOrd19_ok (xs := x.values) (ys := y.values) (hvr x (List.mem_of_getElem? hx)) (hv y (List.mem_of_getElem? hyj))) (next := fun _ _ => ?_)
       refine go ?_
       refine if_d rfl (fun h6 => ?_) (fun h6 => ?_)
       · exfalso
         obtain ⟨r, r1, r2, r3⟩ := hy.all y (List.mem_of_getElem? hyj)
         have e1 : x = r := pair_eq hy.inc (List.mem_of_getElem? hx) r1 (by rw [plc_zero] at *; omega)
         subst e1
         have := hO.neg y.values x.values
         omega
       refine go ?_
       refine q_again (j + 1, true) (by show xs.length - (j + 1) < xs.length - j; omega) ⟨by dsimp only; omega, ⟨fun _ => hx1, fun _ => rfl⟩⟩
     | false =>
       have hn : ¬ x ∈ xs.take j := fun h => by have := hown.2 h; cases this
       have hx1 : decide (x = y) = true ↔ x ∈ xs.take (j + 1) := by
        rw [take_succ_get hyj, List.mem_append, List.mem_singleton, decide_eq_true_iff]
        exact ⟨fun h => .inr h, fun h => h.resolve_left hn⟩
       refine go ?_
       refine q_call (rSameG_ok (a := x) (b := y) (va := vx) (vb := vy) (hvr x (List.mem_of_getElem? hx)) (hv y (List.mem_of_getElem? hyj))) (next := fun _ _ => ?_)
       refine go ?_
       refine q_call (rPlace_ok (a := x) (b := y) (va := vx) (vb := vy)) (next := fun _ _ => ?_)
       rw [← plc_eq]
       refine go ?_
       first | with_reducible refine g_d (fun h5 => ?_) (fun h5 => ?_) | with_reducible refine g_n (fun h5 => ?_) (fun h5 => ?_) | with_reducible refine g_b (fun h5 => ?_) (fun h5 => ?_)
       · refine go ?_
         refine q_again (j + 1, decide (x = y)) (by show xs.length - (j + 1) < xs.length - j; omega) ⟨by dsimp only; omega, hx1⟩
       refine go ?_
       refine q_call (rOrd19_ok (xs := x.values) (ys := y.values) (hvr x (List.mem_of_getElem? hx)) (hv y (List.mem_of_getElem? hyj))) (next := fun _ _ => ?_)
       refine go ?_
       refine if_d rfl (fun h6 => ?_) (fun h6 => ?_)
       · exfalso
         obtain ⟨r, r1, r2, r3⟩ := hy.all y (List.mem_of_getElem? hyj)
         have e1 : x = r := pair_eq hy.inc (List.mem_of_getElem? hx) r1 (by rw [plc_zero] at *; omega)
         subst e1
         have := hO.neg y.values x.values
         omega
       refine go ?_
       refine q_again (j + 1, decide (x = y)) (by show xs.length - (j + 1) < xs.length - j; omega) ⟨by dsimp only; omega, hx1⟩
   have hjx : j = xs.length := by omega
   rw [hjx, List.take_length] at hown
   have hot : own = true := hown.2 (hy.sub x (List.mem_of_getElem? hx))
   subst hot
   refine go ?_
   first | with_reducible refine g_d (fun h3 => ?_) (fun h3 => ?_) | with_reducible refine g_n (fun h3 => ?_) (fun h3 => ?_) | with_reducible refine g_b (fun h3 => ?_) (fun h3 => ?_)
   · refine go ?_
     exact q_again (i + 1) (by show rs.length - (i + 1) < rs.length - i; omega) (by show i + 1 ≤ _; omega)
   · obtain ⟨z, hz⟩ : ∃ z, rs[i - 1]? = some z := ⟨_, List.getElem?_eq_getElem (by omega)⟩
     have hlt := inc_get hy.inc (by omega) hz hx
     refine go ?_
     rw [show ((i : Nat) : Int) - 1 = ((i - 1 : Nat) : Int) by omega]
     refine q_idx gvnE (xs := rs) (next := fun _ _ z' (vz : Value) hz' => ?_)
     cases hz.symm.trans hz'
     refine go ?_
     refine q_call (rPlace_ok (a := z) (b := x) (va := vz) (vb := vx)) (next := fun _ _ => ?_)
     rw [← plc_eq]
     refine go ?_
     refine if_d rfl (fun h4 => ?_) (fun h4 => ?_)
     · omega
     refine go ?_
     exact q_again (i + 1) (by show rs.length - (i + 1) < rs.length - i; omega) (by show i + 1 ≤ _; omega)
 refine go ?_
 refine q_loop (fun i => xs.length - i) (fun i : Nat => [(79, .int .i64 (i : Int))]) (fun _ => []) (fun _ => []) (fun i => i ≤ xs.length) 0 (Nat.zero_le _) (body := ?_)
 intro i hi
 refine go ?_
 refine if_d rfl (fun h1 => ?_) (fun h1 => ?_)
 · have hil : i < xs.length := by omega
   refine go ?_
   refine q_idx gvnE (xs := xs) (next := fun _ _ y (vy : Value) hyi => ?_)
   refine go ?_
   intro b12
   refine go ?_
   refine q_loop (fun s : Nat × Bool => rs.length - s.1) (fun s => [(86, .int .i64 (s.1 : Int)), (13, .bool s.2)]) (fun _ => []) (fun _ => []) (fun s => s.1 ≤ rs.length ∧ (s.2 = true ↔ ∃ r ∈ rs.take s.1, plc r y = 0)) (0, false) ⟨Nat.zero_le _, by simp⟩ (body := ?_)
   rintro ⟨j, met⟩ ⟨hj, hmet⟩
   dsimp only at hj hmet ⊢
   refine go ?_
   refine if_d rfl (fun h2 => ?_) (fun h2 => ?_)
   · have hjl : j < rs.length := by omega
     refine go ?_
     refine q_idx gvnE (xs := rs) (next := fun _ _ x (vx : Value) hxj => ?_)
     refine go ?_
     intro b15
     refine go ?_
     cases met with
     | true =>
       obtain ⟨r, r1, r2⟩ := hmet.1 rfl
       refine go ?_
       exact q_again (j + 1, true) (by show rs.length - (j + 1) < rs.length - j; omega) ⟨by dsimp only; omega, ⟨fun _ => ⟨r, by rw [take_succ_get hxj]; exact List.mem_append_left _ r1, r2⟩, fun _ => rfl⟩⟩
     | false =>
       refine go ?_
       refine q_call (rPlace_ok (a := x) (b := y) (va := vx) (vb := vy)) (next := fun _ _ => ?_)
       rw [← plc_eq]
       refine go ?_
       refine q_again (j + 1, decide (plc x y = 0)) (by show rs.length - (j + 1) < rs.length - j; omega) ⟨by dsimp only; omega, ?_⟩
       dsimp only
       rw [take_succ_get hxj, decide_eq_true_iff]
       refine ⟨fun h => ⟨x, by simp, h⟩, fun ⟨r, r1, r2⟩ => ?_⟩
       rcases List.mem_append.1 r1 with r1 | r1
       · have := hmet.2 ⟨r, r1, r2⟩; cases this
       · rw [List.mem_singleton.1 r1] at r2; exact r2
   have hjx : j = rs.length := by omega
   rw [hjx, List.take_length] at hmet
   obtain ⟨r, r1, r2, _⟩ := hy.all y (List.mem_of_getElem? hyi)
   have hot : met = true := hmet.2 ⟨r, r1, by rw [plc_zero] at *; omega⟩
   subst hot
   refine go ?_
   exact q_again (i + 1) (by show xs.length - (i + 1) < xs.length - i; omega) (by show i + 1 ≤ _; omega)
 refine go ?_
 refine if_d rfl (fun h2 => ?_) (fun h2 => ?_)
 · have hx0 : xs = [] := List.length_eq_zero_iff.1 (by omega)
   have hr0 : rs.length = 0 := by have := len_inc hy; rw [hx0] at this; simpa using this
   refine go ?_
   refine q_fin () (hv := ?_) (hp := trivial)
   rw [hr0]; rfl
 have hx0 : 0 < xs.length := by omega
 generalize hk : (turn % 18446744073709551616).toNat % xs.length = k
 have hkl : k < xs.length := by rw [← hk]; exact Nat.mod_lt _ hx0
 refine go ?_
 refine (d_p rfl rfl (p_convI (k := .u64) (m := ((turn % 18446744073709551616).toNat : Int)) (by kernel_rfl : Tryz.prog.underlying 3 = some (.int .i64)) (by kernel_rfl) rfl (wrapZ turn))).h ?_
 refine go ?_
 refine (d_p rfl rfl (p_convI (k := .u64) (m := (xs.length : Int)) (by kernel_rfl : Tryz.prog.underlying 3 = some (.int .i64)) (by kernel_rfl) rfl (wrapU (by omega)))).h ?_
 refine go ?_
 refine (d_p rfl rfl (p_remU rfl rfl hx0)).h ?_
 rw [hk]
 refine go ?_
 refine (d_p rfl rfl (p_convI (k := .i64) (m := (k : Int)) (by kernel_rfl : Tryz.prog.underlying 63 = some (.int .u64)) (by kernel_rfl) rfl (wrapN (by omega)))).h ?_
 refine go ?_
 intro b115
 refine go ?_
 refine q_from gvnE (xs := xs) k (by omega) (next := fun a1 c1 => ?_)
 refine go ?_
 refine q_to gvnE (xs := xs) k (by omega) (next := fun a2 c2 => ?_)
 refine go ?_
 refine q_elems gvnE (.slice a1 (xs.length - k) c1) (xs := xs.drop k) fun y1 e1 => ?_
 refine q_elems gvnE (.slice a2 k c2) (xs := xs.take k) fun y2 e2 => ?_
 refine q_elems gvnE (.slice ar1 rs.length cr) (xs := rs) fun y3 e3 => ?_
 refine q_all (E := gvnE) (v := .slice a1 (xs.length - k) c1) (xys := y1) ?_
 refine q_all (E := gvnE) (v := .slice a2 k c2) (xys := y2) ?_
 refine q_all (E := gvnE) (v := .slice ar1 rs.length cr) (xys := y3) ?_
 have l1 : y1.length = xs.length - k := by rw [← List.length_drop, ← e1, List.length_map]
 have l2 : y2.length = k := by rw [← List.length_map (f := fun p : CV => p.1), e2, List.length_take]; omega
 have l3 : y3.length = rs.length := by rw [← e3, List.length_map]
 refine q_appP (b := b115) (f := 0) (m := 0) gvnE [] y1 rfl (.inl rfl) ⟨by omega, by omega, by omega⟩ (fun b1 f1 m1 hm1 hf1 => ?_) (hk := Sel.here)
 rw [List.nil_append] at hm1 ⊢
 refine go ?_
 refine q_appP (b := b1) (f := f1) (m := m1) gvnE y1 y2 hm1 hf1 ⟨by omega, by omega, by omega⟩ (fun b2 f2 m2 hm2 hf2 => ?_)
 rw [List.length_append] at hm2
 refine go ?_
 refine q_appP (b := b2) (f := f2) (m := m2) gvnE (y1 ++ y2) y3 (by rw [List.length_append]; exact hm2) hf2 ⟨by omega, by omega, by omega⟩ (fun b3 f3 m3 hm3 hf3 => ?_)
 have hmap : (y1 ++ y2 ++ y3).map (·.1) = xs.drop k ++ xs.take k ++ rs := by rw [List.map_append, List.map_append, e1, e2, e3]
 subst hm3
 rw [show flatP gvnE (y1 ++ y2 ++ y3) = flatP gvnE (y1 ++ y2 ++ y3) ++ [] from (List.append_nil _).symm]
 refine q_frzFlat gvnE (xys := y1 ++ y2 ++ y3) hf3 (Nat.le_refl _) ?_ (fun w hw => ?_)
 rotate_left
 · intro p hp f hf
   rcases List.mem_append.1 hp with hp | hp
   · rcases List.mem_append.1 hp with hp | hp
     · exact hw (fAll gvnE y1) (by simp) p hp f hf
     · exact hw (fAll gvnE y2) (by simp) p hp f hf
   · exact hw (fAll gvnE y3) (by simp) p hp f hf
 rw [hmap]
 generalize hzs : xs.drop k ++ xs.take k ++ rs = zs
 have hzm : ∀ x, x ∈ zs ↔ x ∈ xs := fun x => by
  rw [← hzs, List.mem_append, List.mem_append]
  constructor
  · rintro ((h | h) | h)
    · exact List.mem_of_mem_drop h
    · exact List.mem_of_mem_take h
    · exact hy.sub x h
  · intro h
    rw [← List.take_append_drop k xs] at h
    rcases List.mem_append.1 h with h | h
    · exact .inl (.inr h)
    · exact .inl (.inl h)
 have hzl : zs.length ≤ 1000000 := by rw [← hzs, List.length_append, List.length_append, List.length_drop, List.length_take]; omega
 have hyz : SortOK zs rs := hy.of_mem hzm
 have hvz : ∀ x ∈ zs, x.values.length ≤ 1000000 := fun x hx => hv x ((hzm x).1 hx)
 refine go ?_
 refine q_call (pSort_ok (xs := zs) hzl hvz) (next := fun y hy2 => ?_)
 obtain ⟨v4, r4⟩ := y
 dsimp only at hy2 ⊢
 have e4 := hy2.uniq hyz
 subst e4
 have hsr : short r4 := fun g hg => hvr g hg
 refine go ?_
 refine q_call (rSame_ok (xs := r4) (ys := r4) (by omega) hsr hsr) (next := fun _ _ => ?_)
 rw [decide_eq_true rfl]
 refine go ?_
 refine q_call (pSort_ok (xs := r4) (by omega) hvr) (next := fun y hy3 => ?_)
 obtain ⟨v5, r5⟩ := y
 dsimp only at hy3 ⊢
 have e5 := hy3.uniq hy.self
 subst e5
 refine go ?_
 refine q_call (rSame_ok (xs := r5) (ys := r5) (by omega) hsr hsr) (next := fun _ _ => ?_)
 rw [decide_eq_true rfl]
 refine go ?_
 exact q_fin () (hv := rfl) (hp := trivial)
end Go.Proofs.YtoohgkkmdnbnfaaGreatDoor

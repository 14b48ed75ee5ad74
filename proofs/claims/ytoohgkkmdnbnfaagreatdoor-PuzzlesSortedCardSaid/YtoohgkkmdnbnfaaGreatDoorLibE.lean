/-
  The reference's comparing and sorting of clues.
-/
import Derived.Test.YtoohgkkmdnbnfaaGreatDoorLibD
set_option linter.unusedSimpArgs false
set_option linter.unusedVariables false
set_option maxRecDepth 10000
set_option maxHeartbeats 4000000
namespace Go.Proofs.YtoohgkkmdnbnfaaGreatDoor
open Go.Ideal Kd Canon
theorem rOrd19_ok {va vb : Value} {xs ys : List Int} (hal : xs.length ≤ 1000000) (hbl : ys.length ≤ 1000000) :
 FnP Tryz.prog 29 [va, vb] [fSl intE va xs, fSl intE vb ys] (.int .i64 (ordL ordI xs ys)) := by
 refine q_beg _ (isC 29) fun B w0 => ?_
 refine go ?_
 refine q_loop (fun k => xs.length - k) (fun k : Nat => [(5, .int .i64 (k : Int))]) (fun _ => []) (fun _ => []) (fun k => k ≤ xs.length ∧ k ≤ ys.length ∧ ordL ordI xs ys = ordL ordI (xs.drop k) (ys.drop k)) 0 ⟨by omega, by omega, rfl⟩ (body := ?_)
 rintro k ⟨hkx, hky, hord⟩
 refine go ?_
 first | with_reducible refine g_d (fun h1 => ?_) (fun h1 => ?_) | with_reducible refine g_n (fun h1 => ?_) (fun h1 => ?_) | with_reducible refine g_b (fun h1 => ?_) (fun h1 => ?_)
 · refine go ?_
   refine if_d rfl (fun h3 => ?_) (fun h3 => ?_)
   · refine go ?_
     refine q_fin () (hv := ?_) (hp := trivial)
     rw [hord, ord_end hkx hky (by omega), if_pos (by omega)]; rfl
   refine go ?_
   refine if_d rfl (fun h4 => ?_) (fun h4 => ?_)
   · refine go ?_
     refine q_fin () (hv := ?_) (hp := trivial)
     rw [hord, ord_end hkx hky (by omega), if_neg (by omega), if_pos (by omega)]; rfl
   refine go ?_
   refine q_fin () (hv := ?_) (hp := trivial)
   rw [hord, ord_end hkx hky (by omega), if_neg (by omega), if_neg (by omega)]; rfl
 refine go ?_
 refine if_d rfl (fun h2 => ?_) (fun h2 => ?_)
 rotate_left
 · refine go ?_
   refine if_d rfl (fun h3 => ?_) (fun h3 => ?_)
   · refine go ?_
     refine q_fin () (hv := ?_) (hp := trivial)
     rw [hord, ord_end hkx hky (by omega), if_pos (by omega)]; rfl
   refine go ?_
   refine if_d rfl (fun h4 => ?_) (fun h4 => ?_)
   · refine go ?_
     refine q_fin () (hv := ?_) (hp := trivial)
     rw [hord, ord_end hkx hky (by omega), if_neg (by omega), if_pos (by omega)]; rfl
   refine go ?_
   refine q_fin () (hv := ?_) (hp := trivial)
   rw [hord, ord_end hkx hky (by omega), if_neg (by omega), if_neg (by omega)]; rfl
 refine go ?_
 intro _ _ x hx _ _ y hy
 refine if_d rfl (fun h3 => ?_) (fun h3 => ?_)
 · refine go ?_
   refine q_fin () (hv := ?_) (hp := trivial)
   rw [hord, drop_cons hx, drop_cons hy, ordL, ordI, if_pos h3]; rfl
 refine go ?_
 intro _ _ x' hx' _ _ y' hy'
 cases hx.symm.trans hx'
 cases hy.symm.trans hy'
 refine if_d rfl (fun h4 => ?_) (fun h4 => ?_)
 · refine go ?_
   refine q_fin () (hv := ?_) (hp := trivial)
   rw [hord, drop_cons hx, drop_cons hy, ordL, ordI, if_neg h3, if_pos h4]; rfl
 refine go ?_
 refine q_again (k + 1) (by omega) ⟨by omega, by omega, ?_⟩
 rw [hord, drop_cons hx, drop_cons hy, ordL, ordI, if_neg h3, if_neg h4]
 rfl
theorem frz_two {b : Nat} {x y : Int} : Frz (pt b (.cells [.int .i64 x, .int .i64 y])) [fSl intE (.slice (some ⟨b, 0, some 0⟩) 2 2) [x, y]] := frz_ints (xs := [x, y])
def short (l : List Clue) : Prop := ∀ g ∈ l, g.values.length ≤ 1000000
theorem rPlace_ok {va vb : Value} {a b : Clue} : FnP Tryz.prog 28 [gvnV a va, gvnV b vb] [] (.int .i64 (ordL ordI [a.clue, a.at_] [b.clue, b.at_])) := by
 refine q_beg _ (isC 28) fun B w0 => ?_
 refine go ?_
 intro b1 b2 b3 b4
 refine q_frz (frz_two) (h := ?_)
 refine q_frz (frz_two) (h := ?_)
 refine q_call (rOrd19_ok (xs := [a.clue, a.at_]) (ys := [b.clue, b.at_]) (by simp) (by simp)) (next := fun _ _ => ?_)
 refine go ?_
 exact q_fin () (hv := rfl) (hp := trivial)
theorem rSameG_ok {va vb : Value} {a b : Clue} (hal : a.values.length ≤ 1000000) (hbl : b.values.length ≤ 1000000) :
 FnP Tryz.prog 27 [gvnV a va, gvnV b vb] [fSl intE va a.values, fSl intE vb b.values] (.bool (decide (a = b))) := by
 refine q_beg _ (isC 27) fun B w0 => ?_
 refine go ?_
 intro b1 b2
 refine q_call (rPlace_ok (a := a) (b := b)) (next := fun _ _ => ?_)
 refine go ?_
 have hz := (ordL_ok ordI_ok).zero [a.clue, a.at_] [b.clue, b.at_]
 first | with_reducible refine g_d (fun h1 => ?_) (fun h1 => ?_) | with_reducible refine g_n (fun h1 => ?_) (fun h1 => ?_) | with_reducible refine g_b (fun h1 => ?_) (fun h1 => ?_)
 · refine go ?_
   refine q_fin () (hv := ?_) (hp := trivial)
   rw [decide_eq_false (fun e => h1 (hz.2 (by rw [e])))]; rfl
 refine go ?_
 refine q_call (rOrd19_ok hal hbl) (next := fun _ _ => ?_)
 refine go ?_
 refine q_fin () (hv := ?_) (hp := trivial)
 have e1 := hz.1 h1
 simp only [List.cons.injEq, and_true] at e1
 have : decide (ordL ordI a.values b.values = 0) = decide (a = b) := by
  rw [decide_eq_decide, (ordL_ok ordI_ok).zero]
  obtain ⟨c, p, l⟩ := a
  obtain ⟨d, q, m⟩ := b
  simp only [Clue.mk.injEq] at e1 ⊢
  exact ⟨fun e => ⟨e1.1, e1.2, e⟩, fun e => e.2.2⟩
 rw [← this]; rfl
theorem rSame_ok {va vb : Value} {xs ys : List Clue} (hal : xs.length ≤ 1000000) (hx : short xs) (hy : short ys) :
 FnP Tryz.prog 17 [.agg ⟨[va]⟩, .agg ⟨[vb]⟩] [fSl gvnE va xs, fSl gvnE vb ys] (.bool (decide (xs = ys))) := by
 refine q_beg _ (isC 17) fun B w0 => ?_
 refine go ?_
 intro b2 b3
 refine if_d rfl (fun h1 => ?_) (fun h1 => ?_)
 · refine go ?_
   refine q_fin () (hv := ?_) (hp := trivial)
   rw [decide_eq_false (fun e => h1 (by rw [e]))]; rfl
 have hlen : xs.length = ys.length := by omega
 refine go ?_
 refine q_loop (fun k => xs.length - k) (fun k : Nat => [(5, .int .i64 (k : Int))]) (fun _ => []) (fun _ => []) (fun k => k ≤ xs.length ∧ ∀ j, j < k → xs[j]? = ys[j]?) 0 ⟨by omega, fun j hj => by omega⟩ (body := ?_)
 rintro k ⟨hkx, hsame⟩
 refine go ?_
 refine if_d rfl (fun h2 => ?_) (fun h2 => ?_)
 · refine go ?_
   refine q_idx gvnE (next := fun _ _ x (vx : Value) hxk => ?_)
   refine go ?_
   refine q_idx gvnE (next := fun _ _ y (vy : Value) hyk => ?_)
   refine go ?_
   refine q_call (rSameG_ok (a := x) (b := y) (hx x (List.mem_of_getElem? hxk)) (hy y (List.mem_of_getElem? hyk))) (next := fun _ _ => ?_)
   refine go ?_
   refine if_n rfl (fun h3 => ?_) (fun h3 => ?_)
   · refine go ?_
     refine q_fin () (hv := ?_) (hp := trivial)
     rw [decide_eq_false (fun e => h3 (by rw [e, hyk] at hxk; cases hxk; rfl))]; rfl
   refine go ?_
   refine q_again (k + 1) (by omega) ⟨by omega, fun j hj => ?_⟩
   by_cases e : j = k
   · subst e; rw [hxk, hyk, h3]
   · exact hsame j (by omega)
 refine go ?_
 refine q_fin () (hv := ?_) (hp := trivial)
 have : xs = ys := by
  apply List.ext_getElem?
  intro j
  by_cases hj : j < k
  · exact hsame j hj
  · rw [List.getElem?_eq_none (by omega), List.getElem?_eq_none (by omega)]
 rw [decide_eq_true this]; rfl
theorem few19_ok {va : Value} {xs : List Clue} (hl : xs.length < 9223372036854775808) : FnC Tryz.prog (.func 12) [.agg ⟨[va]⟩] [] [] [fSl gvnE va xs] (fun b : Bool => .bool b) (fun _ => []) (fun _ => []) (fun b => b = true → xs.length ≤ 60 ∧ ∀ g ∈ xs, g.values.length ≤ 20) := by
 refine q_beg _ (isC 12) fun B w0 => ?_
 refine q_form (E := gvnE) (v := va) (xs := xs) (by simp) fun av cv ev1 => ?_
 subst ev1
 refine go ?_
 intro b1
 refine q_loop (fun k => xs.length - k) (fun k : Nat => [(3, .int .i64 (k : Int))]) (fun _ => []) (fun _ => []) (fun k => k ≤ xs.length ∧ ∀ j g, j < k → xs[j]? = some g → g.values.length ≤ 20) 0 ⟨by omega, fun j g hj => by omega⟩ (body := ?_)
 rintro k ⟨hkx, hall⟩
 refine go ?_
 refine if_d rfl (fun h1 => ?_) (fun h1 => ?_)
 rotate_left
 · refine go ?_
   refine q_fin _ (hv := rfl) (hp := fun h => ?_)
   have h := of_decide_eq_true h
   refine ⟨by omega, fun g hg => ?_⟩
   obtain ⟨j, hj⟩ := List.getElem?_of_mem hg
   exact hall j g (by have := (List.getElem?_eq_some_iff.1 hj).1; omega) hj
 refine go ?_
 refine q_idx gvnE (next := fun _ _ x (vx : Value) hxk => ?_)
 refine go ?_
 refine if_d rfl (fun h3 => ?_) (fun h3 => ?_)
 · refine go ?_
   exact q_fin false (hv := rfl) (hp := fun h => by cases h)
 refine go ?_
 refine q_again (k + 1) (by omega) ⟨by omega, fun j g hj hg => ?_⟩
 by_cases e : j = k
 · subst e; rw [hxk] at hg; cases hg; omega
 · exact hall j g (by omega) hg
def BestOK (l rs : List Clue) (i : Nat) (best : Int) : Prop := (best = -1 ∧ ∀ x ∈ l.take i, opn rs x = false) ∨ ∃ (b : Nat) (y : Clue), best = (b : Int) ∧ l[b]? = some y ∧ opn rs y = true ∧ ∀ x ∈ l.take i, opn rs x = true → ¬ ordC x y < 0
theorem BestOK.skip {l rs : List Clue} {i : Nat} {best : Int} {x : Clue} (h : BestOK l rs i best) (hx : l[i]? = some x) (ho : opn rs x = false) : BestOK l rs (i + 1) best := by
 have hm : ∀ z ∈ l.take (i + 1), z ∈ l.take i ∨ z = x := fun z hz => by
  rw [take_succ_get hx] at hz
  rcases List.mem_append.1 hz with h | h
  · exact .inl h
  · exact .inr (List.mem_singleton.1 h)
 rcases h with ⟨h1, h2⟩ | ⟨b, y, h1, h2, h3, h4⟩
 · refine .inl ⟨h1, fun z hz => ?_⟩
   rcases hm z hz with h | h
   · exact h2 z h
   · rw [h]; exact ho
 · refine .inr ⟨b, y, h1, h2, h3, fun z hz hoz => ?_⟩
   rcases hm z hz with h | h
   · exact h4 z h hoz
   · rw [h, ho] at hoz; cases hoz
theorem BestOK.take {l rs : List Clue} {i : Nat} {best : Int} {x : Clue} (h : BestOK l rs i best) (hx : l[i]? = some x) (ho : opn rs x = true) (hb : best = -1 ∨ ∃ (b : Nat) (y : Clue), best = (b : Int) ∧ l[b]? = some y ∧ ordC x y < 0) : BestOK l rs (i + 1) (i : Int) := by
 have hO := ordC_ok
 refine .inr ⟨i, x, rfl, hx, ho, fun z hz hoz hlt => ?_⟩
 rw [take_succ_get hx] at hz
 rcases List.mem_append.1 hz with hz | hz
 · rcases h with ⟨h1, h2⟩ | ⟨b, y, h1, h2, h3, h4⟩
   · rw [h2 z hz] at hoz; cases hoz
   · rcases hb with hb | ⟨b', y', e1, e2, e3⟩
     · omega
     · have : b' = b := by omega
       subst this
       cases h2.symm.trans e2
       exact h4 z hz hoz (hO.trans z x y hlt e3)
 · rw [List.mem_singleton.1 hz] at hlt
   have := (hO.zero x x).2 rfl
   omega
theorem BestOK.keep {l rs : List Clue} {i b : Nat} {x y : Clue} (h : BestOK l rs i (b : Int)) (hx : l[i]? = some x) (hy : l[b]? = some y) (hn : ¬ ordC x y < 0) : BestOK l rs (i + 1) (b : Int) := by
 rcases h with ⟨h1, h2⟩ | ⟨b', y', h1, h2, h3, h4⟩
 · omega
 · have : b' = b := by omega
   subst this
   cases h2.symm.trans hy
   refine .inr ⟨b', y, rfl, hy, h3, fun z hz hoz => ?_⟩
   rw [take_succ_get hx] at hz
   rcases List.mem_append.1 hz with hz | hz
   · exact h4 z hz hoz
   · rw [List.mem_singleton.1 hz]; exact hn
theorem rSort_ok {v : Value} {xs : List Clue} (hl : xs.length ≤ 1000000) (hv : ∀ x ∈ xs, x.values.length ≤ 1000000) : FnC Tryz.prog (.func 20) [v] [] [] [fSl gvnE v xs] (fun y : Value × List Clue => .agg ⟨[y.1]⟩) (fun _ => []) (fun y => [fSl gvnE y.1 y.2]) (fun y => SortOK xs y.2) := by
 refine q_beg _ (isC 20) fun B w0 => ?_
 refine q_form (E := gvnE) (v := v) (xs := xs) (by simp) fun av cv ev1 => ?_
 subst ev1
 refine go ?_
 intro b2 b3
 refine go ?_
 refine st_ap0 gvnE ?_
 refine q_loop (fun x : Nat × Value × List Clue => xs.length - x.1) (fun x => [(4, .int .i64 (x.1 : Int))]) (fun x => [pt b3 (.cells [x.2.1]), ap gvnE x.2.1 x.2.2]) (fun _ => []) (fun x => x.1 ≤ xs.length ∧ SelOK xs x.2.2 x.1 ∧ x.2.2.length = x.1) (0, .slice none 0 0, []) ⟨Nat.zero_le _, selOK_nil, rfl⟩ (body := ?_)
 rintro ⟨n, vr, rs⟩ ⟨hn, hsel, hlen⟩
 dsimp only at hn hsel hlen ⊢
 refine q_apForm (E := gvnE) (v := vr) (xs := rs) fun ar1 hr1 _ => ?_
 subst hr1
 refine go ?_
 refine if_d rfl (fun h1 => ?_) (fun h1 => ?_)
 rotate_left
 · have hnx : n = xs.length := by omega
   subst hnx
   refine go ?_
   refine q_frz (A := ap gvnE (.slice ar1 rs.length rs.length) rs) (fs := [fSl gvnE (.slice ar1 rs.length rs.length) rs]) frz_ap (h := ?_)
   exact q_fin (.slice ar1 rs.length rs.length, rs) (hv := rfl) (hp := hsel.full)
 refine go ?_
 refine q_loop (fun x : Nat × Int => xs.length - x.1) (fun x => [(6, .int .i64 (x.1 : Int)), (5, .int .i64 x.2)]) (fun _ => []) (fun _ => []) (fun x => x.1 ≤ xs.length ∧ BestOK xs rs x.1 x.2) (0, -1) ⟨Nat.zero_le _, .inl ⟨rfl, by simp⟩⟩ (body := ?_)
 rintro ⟨i, best⟩ ⟨hi, hb⟩
 dsimp only at hi hb ⊢
 refine go ?_
 refine if_d rfl (fun h2 => ?_) (fun h2 => ?_)
 rotate_left
 · have hix : i = xs.length := by omega
   rw [hix] at hb
   unfold BestOK at hb
   rw [List.take_length] at hb
   refine go ?_
   rcases hb with ⟨rfl, hb⟩ | ⟨b, y, rfl, hy, ho, hb⟩
   · refine go ?_
     refine q_frz (A := ap gvnE (.slice ar1 rs.length rs.length) rs) (fs := [fSl gvnE (.slice ar1 rs.length rs.length) rs]) frz_ap (h := ?_)
     exact q_fin (.slice ar1 rs.length rs.length, rs) (hv := rfl) (hp := hsel.stop hb)
   · refine if_d rfl (fun h3 => ?_) (fun h3 => ?_)
     · omega
     have hbl := (List.getElem?_eq_some_iff.1 hy).1
     refine go ?_
     refine q_idx gvnE (xs := xs) (next := fun _ _ y' (vy : Value) hy' => ?_)
     cases hy.symm.trans hy'
     refine go ?_
     intro b90
     refine go ?_
     refine q_app gvnE (xs := rs) y vy (by omega) (fun ad => ?_)
     refine go ?_
     refine q_again (n + 1, .slice ad (rs.length + 1) (rs.length + 1), rs ++ [y]) (by show xs.length - (n + 1) < xs.length - n; omega) ⟨by dsimp only; omega, hsel.step (List.mem_of_getElem? hy) ho hb, by dsimp only; rw [List.length_append, hlen]; rfl⟩
 have hil : i < xs.length := by omega
 refine go ?_
 obtain ⟨x, hx⟩ : ∃ x, xs[i]? = some x := ⟨_, List.getElem?_eq_getElem hil⟩
 first | with_reducible refine g_d (fun h3 => ?_) (fun h3 => ?_) | with_reducible refine g_n (fun h3 => ?_) (fun h3 => ?_) | with_reducible refine g_b (fun h3 => ?_) (fun h3 => ?_)
 · have hr0 : rs = [] := List.length_eq_zero_iff.1 (by omega)
   have hox : opn rs x = true := by rw [hr0]; rfl
   refine go ?_
   have hb0 := hb
   rcases hb with ⟨rfl, _⟩ | ⟨b, y, rfl, hy, _, _⟩
   · refine go ?_
     refine q_again (i + 1, (i : Int)) (by show xs.length - (i + 1) < xs.length - i; omega) ⟨by dsimp only; omega, hb0.take hx hox (.inl rfl)⟩
   have hbl := (List.getElem?_eq_some_iff.1 hy).1
   rw [show decide ((b : Int) < 0) = false from decide_eq_false (by omega)]
   refine go ?_
   refine q_idx gvnE (xs := xs) (next := fun _ _ x1 (vx1 : Value) hx1 => ?_)
   cases hx.symm.trans hx1
   refine go ?_
   refine q_idx gvnE (xs := xs) (next := fun _ _ y1 (vy1 : Value) hy1 => ?_)
   cases hy.symm.trans hy1
   refine go ?_
   refine q_call (rPlace_ok (a := x) (b := y) (va := vx1) (vb := vy1)) (next := fun _ _ => ?_)
   rw [← plc_eq]
   refine go ?_
   first | with_reducible refine g_d (fun h5 => ?_) (fun h5 => ?_) | with_reducible refine g_n (fun h5 => ?_) (fun h5 => ?_) | with_reducible refine g_b (fun h5 => ?_) (fun h5 => ?_)
   rotate_left
   · refine go ?_
     refine q_again (i + 1, (i : Int)) (by show xs.length - (i + 1) < xs.length - i; omega) ⟨by dsimp only; omega, hb0.take hx hox (.inr ⟨b, y, rfl, hy, ordC_lt.2 (.inl h5)⟩)⟩
   refine go ?_
   refine q_idx gvnE (xs := xs) (next := fun _ _ x2 (vx2 : Value) hx2 => ?_)
   cases hx.symm.trans hx2
   refine go ?_
   refine q_idx gvnE (xs := xs) (next := fun _ _ y2 (vy2 : Value) hy2 => ?_)
   cases hy.symm.trans hy2
   refine go ?_
   refine q_call (rPlace_ok (a := x) (b := y) (va := vx2) (vb := vy2)) (next := fun _ _ => ?_)
   rw [← plc_eq]
   refine go ?_
   first | with_reducible refine g_d (fun h6 => ?_) (fun h6 => ?_) | with_reducible refine g_n (fun h6 => ?_) (fun h6 => ?_) | with_reducible refine g_b (fun h6 => ?_) (fun h6 => ?_)
   · refine go ?_
     refine q_again (i + 1, (b : Int)) (by show xs.length - (i + 1) < xs.length - i; omega) ⟨by dsimp only; omega, hb0.keep hx hy (fun h => (ordC_lt.1 h).elim h5 fun h => h6 h.1)⟩
   refine go ?_
   refine q_idx gvnE (xs := xs) (next := fun _ _ x3 (vx3 : Value) hx3 => ?_)
   cases hx.symm.trans hx3
   refine go ?_
   refine q_idx gvnE (xs := xs) (next := fun _ _ y3 (vy3 : Value) hy3 => ?_)
   cases hy.symm.trans hy3
   refine go ?_
   refine q_call (rOrd19_ok (xs := x.values) (ys := y.values) (hv x (List.mem_of_getElem? hx)) (hv y (List.mem_of_getElem? hy))) (next := fun _ _ => ?_)
   refine go ?_
   refine if_d rfl (fun h7 => ?_) (fun h7 => ?_)
   · refine go ?_
     refine q_again (i + 1, (i : Int)) (by show xs.length - (i + 1) < xs.length - i; omega) ⟨by dsimp only; omega, hb0.take hx hox (.inr ⟨b, y, rfl, hy, ordC_lt.2 (.inr ⟨h6, h7⟩)⟩)⟩
   refine go ?_
   refine q_again (i + 1, (b : Int)) (by show xs.length - (i + 1) < xs.length - i; omega) ⟨by dsimp only; omega, hb0.keep hx hy (fun h => (ordC_lt.1 h).elim h5 fun h => h7 h.2)⟩
 · obtain ⟨z, hz⟩ : ∃ z, rs[rs.length - 1]? = some z := ⟨_, List.getElem?_eq_getElem (by omega)⟩
   have hzl : rs.getLast? = some z := by rw [List.getLast?_eq_getElem?]; exact hz
   have hzo : opn rs x = decide (0 < plc x z) := by unfold opn; rw [hzl]
   refine go ?_
   refine q_idx gvnE (xs := xs) (next := fun _ _ x0 (vx0 : Value) hx0 => ?_)
   cases hx.symm.trans hx0
   refine go ?_
   rw [show ((rs.length : Nat) : Int) - 1 = ((rs.length - 1 : Nat) : Int) by omega]
   refine q_peekE gvnE (xs := rs) (rs.length - 1) z hz (fun _ _ (vz : Value) => ?_)
   rw [show ∀ F : List Fact, gvnE.fs z vz ++ F = fSl intE vz z.values :: F from fun F => rfl]
   refine go ?_
   refine q_call (rPlace_ok (a := x) (b := z) (va := vx0) (vb := vz)) (next := fun _ _ => ?_)
   rw [← plc_eq]
   refine go ?_
   refine if_d rfl (fun h4 => ?_) (fun h4 => ?_)
   · refine go ?_
     refine q_again (i + 1, best) (by show xs.length - (i + 1) < xs.length - i; omega) ⟨by dsimp only; omega, hb.skip hx (by rw [hzo]; exact decide_eq_false (by omega))⟩
   have hox : opn rs x = true := by rw [hzo]; exact decide_eq_true (by omega)
   refine go ?_
   have hb0 := hb
   rcases hb with ⟨rfl, _⟩ | ⟨b, y, rfl, hy, _, _⟩
   · refine go ?_
     refine q_again (i + 1, (i : Int)) (by show xs.length - (i + 1) < xs.length - i; omega) ⟨by dsimp only; omega, hb0.take hx hox (.inl rfl)⟩
   have hbl := (List.getElem?_eq_some_iff.1 hy).1
   rw [show decide ((b : Int) < 0) = false from decide_eq_false (by omega)]
   refine go ?_
   refine q_idx gvnE (xs := xs) (next := fun _ _ x1 (vx1 : Value) hx1 => ?_)
   cases hx.symm.trans hx1
   refine go ?_
   refine q_idx gvnE (xs := xs) (next := fun _ _ y1 (vy1 : Value) hy1 => ?_)
   cases hy.symm.trans hy1
   refine go ?_
   refine q_call (rPlace_ok (a := x) (b := y) (va := vx1) (vb := vy1)) (next := fun _ _ => ?_)
   rw [← plc_eq]
   refine go ?_
   first | with_reducible refine g_d (fun h5 => ?_) (fun h5 => ?_) | with_reducible refine g_n (fun h5 => ?_) (fun h5 => ?_) | with_reducible refine g_b (fun h5 => ?_) (fun h5 => ?_)
   rotate_left
   · refine go ?_
     refine q_again (i + 1, (i : Int)) (by show xs.length - (i + 1) < xs.length - i; omega) ⟨by dsimp only; omega, hb0.take hx hox (.inr ⟨b, y, rfl, hy, ordC_lt.2 (.inl h5)⟩)⟩
   refine go ?_
   refine q_idx gvnE (xs := xs) (next := fun _ _ x2 (vx2 : Value) hx2 => ?_)
   cases hx.symm.trans hx2
   refine go ?_
   refine q_idx gvnE (xs := xs) (next := fun _ _ y2 (vy2 : Value) hy2 => ?_)
   cases hy.symm.trans hy2
   refine go ?_
   refine q_call (rPlace_ok (a := x) (b := y) (va := vx2) (vb := vy2)) (next := fun _ _ => ?_)
   rw [← plc_eq]
   refine go ?_
   first | with_reducible refine g_d (fun h6 => ?_) (fun h6 => ?_) | with_reducible refine g_n (fun h6 => ?_) (fun h6 => ?_) | with_reducible refine g_b (fun h6 => ?_) (fun h6 => ?_)
   · refine go ?_
     refine q_again (i + 1, (b : Int)) (by show xs.length - (i + 1) < xs.length - i; omega) ⟨by dsimp only; omega, hb0.keep hx hy (fun h => (ordC_lt.1 h).elim h5 fun h => h6 h.1)⟩
   refine go ?_
   refine q_idx gvnE (xs := xs) (next := fun _ _ x3 (vx3 : Value) hx3 => ?_)
   cases hx.symm.trans hx3
   refine go ?_
   refine q_idx gvnE (xs := xs) (next := fun _ _ y3 (vy3 : Value) hy3 => ?_)
   cases hy.symm.trans hy3
   refine go ?_
   refine q_call (rOrd19_ok (xs := x.values) (ys := y.values) (hv x (List.mem_of_getElem? hx)) (hv y (List.mem_of_getElem? hy))) (next := fun _ _ => ?_)
   refine go ?_
   refine if_d rfl (fun h7 => ?_) (fun h7 => ?_)
   · refine go ?_
     refine q_again (i + 1, (i : Int)) (by show xs.length - (i + 1) < xs.length - i; omega) ⟨by dsimp only; omega, hb0.take hx hox (.inr ⟨b, y, rfl, hy, ordC_lt.2 (.inr ⟨h6, h7⟩)⟩)⟩
   refine go ?_
   refine q_again (i + 1, (b : Int)) (by show xs.length - (i + 1) < xs.length - i; omega) ⟨by dsimp only; omega, hb0.keep hx hy (fun h => (ordC_lt.1 h).elim h5 fun h => h7 h.2)⟩
end Go.Proofs.YtoohgkkmdnbnfaaGreatDoor

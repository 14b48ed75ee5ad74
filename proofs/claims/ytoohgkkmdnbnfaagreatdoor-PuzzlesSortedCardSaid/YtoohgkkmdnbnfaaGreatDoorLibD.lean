/-
  Comparisons: cmp.Compare and slices.Compare of numbers.
-/
import Derived.Test.YtoohgkkmdnbnfaaGreatDoorIdealK
import Derived.Test.YtoohgkkmdnbnfaaGreatDoorIdealI
import Derived.Test.YtoohgkkmdnbnfaaGreatDoorProg
import Derived.KernelRfl
import Derived.Test.YtoohgkkmdnbnfaaGreatDoorIdealN
import Derived.Test.YtoohgkkmdnbnfaaGreatDoorPlainA
import Derived.Test.YtoohgkkmdnbnfaaGreatDoorShelfS
import Derived.Test.YtoohgkkmdnbnfaaGreatDoorIdealP
set_option linter.unusedSimpArgs false
set_option linter.unusedVariables false
set_option maxRecDepth 10000
set_option maxHeartbeats 1000000
namespace Go.Proofs.YtoohgkkmdnbnfaaGreatDoor
open Go.Ideal Canon
theorem isNaN_ok (x : Int) : FnP Tryz.prog 108 [.int .i64 x] [] (.bool false) := by
 refine q_beg _ (isC 108) fun B w0 => ?_
 refine go ?_
 refine q_fin () (hv := ?_) (hp := trivial)
 simp [retV]
theorem cmpI_ok (x y : Int) : FnP Tryz.prog 69 [.int .i64 x, .int .i64 y] [] (.int .i64 (ordI x y)) := by
 refine q_beg _ (isC 69) fun B w0 => ?_
 refine go ?_
 refine q_call (isNaN_ok x) (next := fun _ _ => ?_)
 refine go ?_
 refine q_call (isNaN_ok y) (next := fun _ _ => ?_)
 refine go ?_
 refine if_d rfl (fun h1 => ?_) (fun h1 => ?_)
 · refine go ?_
   refine q_fin () (hv := ?_) (hp := trivial)
   rw [ordI, if_pos h1]; rfl
 refine go ?_
 refine if_d rfl (fun h2 => ?_) (fun h2 => ?_)
 · refine go ?_
   refine q_fin () (hv := ?_) (hp := trivial)
   rw [ordI, if_neg h1, if_pos h2]; rfl
 refine go ?_
 refine q_fin () (hv := ?_) (hp := trivial)
 rw [ordI, if_neg h1, if_neg h2]; rfl
theorem drop_cons {α : Type} {xs : List α} {k : Nat} {x : α} (h : xs[k]? = some x) : xs.drop k = x :: xs.drop (k + 1) := by
 obtain ⟨hlt, he⟩ := List.getElem?_eq_some_iff.1 h
 rw [List.drop_eq_getElem_cons hlt, he]
theorem ord_end {xs ys : List Int} {k : Nat} (hx : k ≤ xs.length) (hy : k ≤ ys.length) (h : k = xs.length ∨ k = ys.length) :
 ordL ordI (xs.drop k) (ys.drop k) = if xs.length < ys.length then -1 else if ys.length < xs.length then 1 else 0 := by
 rcases h with h | h
 · rw [show xs.drop k = [] from List.drop_eq_nil_of_le (by omega)]
   by_cases e : xs.length < ys.length
   · rw [if_pos e]
     have : k < ys.length := by omega
     rw [List.drop_eq_getElem_cons this]; rfl
   · rw [if_neg e, if_neg (by omega), show ys.drop k = [] from List.drop_eq_nil_of_le (by omega)]; rfl
 · rw [show ys.drop k = [] from List.drop_eq_nil_of_le (by omega)]
   by_cases e : ys.length < xs.length
   · rw [if_neg (by omega), if_pos e]
     have : k < xs.length := by omega
     rw [List.drop_eq_getElem_cons this]; rfl
   · rw [if_neg (by omega), if_neg e, show xs.drop k = [] from List.drop_eq_nil_of_le (by omega)]; rfl
theorem slCmp_ok {va vb : Value} {xs ys : List Int} (hal : xs.length ≤ 1000000) (hbl : ys.length ≤ 1000000) :
 FnP Tryz.prog 71 [va, vb] [fSl intE va xs, fSl intE vb ys] (.int .i64 (ordL ordI xs ys)) := by
 refine q_beg _ (isC 71) fun B w0 => ?_
 refine go ?_
 refine q_loop (fun k => xs.length - k) (fun k : Nat => [(11, .int .i64 (k : Int))]) (fun _ => []) (fun _ => []) (fun k => k ≤ xs.length ∧ k ≤ ys.length ∧ ordL ordI xs ys = ordL ordI (xs.drop k) (ys.drop k)) 0 ⟨by omega, by omega, rfl⟩ (body := ?_)
 rintro k ⟨hkx, hky, hord⟩
 refine go ?_
 refine if_d rfl (fun h1 => ?_) (fun h1 => ?_)
 · refine go ?_
   intro _ _ x hx
   refine if_d rfl (fun h2 => ?_) (fun h2 => ?_)
   · refine go ?_
     refine q_fin () (hv := ?_) (hp := trivial)
     rw [hord, drop_cons hx, show ys.drop k = [] from List.drop_eq_nil_of_le (by omega)]
     rfl
   refine go ?_
   intro _ _ y hy
   refine q_call (cmpI_ok x y) (next := fun _ _ => ?_)
   refine go ?_
   refine if_d rfl (fun h3 => ?_) (fun h3 => ?_)
   · refine go ?_
     refine q_fin () (hv := ?_) (hp := trivial)
     rw [hord, drop_cons hx, drop_cons hy, ordL, if_pos h3]; rfl
   refine go ?_
   refine q_again (k + 1) (by omega) ⟨by omega, by omega, ?_⟩
   rw [hord, drop_cons hx, drop_cons hy, ordL, if_neg (by simpa using h3)]
 refine go ?_
 have hkm : k = xs.length := by omega
 refine if_d rfl (fun h3 => ?_) (fun h3 => ?_)
 · refine go ?_
   refine q_fin () (hv := ?_) (hp := trivial)
   rw [hord, ord_end hkx hky (by omega), if_pos (by omega)]; rfl
 refine go ?_
 refine q_fin () (hv := ?_) (hp := trivial)
 rw [hord, ord_end hkx hky (by omega), if_neg (by omega), if_neg (by omega)]; rfl
end Go.Proofs.YtoohgkkmdnbnfaaGreatDoor
set_option maxHeartbeats 4000000
namespace Go.Proofs.YtoohgkkmdnbnfaaGreatDoor
open Go.Ideal Kd Canon
theorem nanC_ok (x : Int) : FnP Tryz.prog 108 [.int .i64 x] [] (.bool false) := by
 refine q_beg _ (isC 108) fun B w0 => ?_
 refine go ?_
 refine q_fin () (hv := ?_) (hp := trivial)
 simp [retV]
theorem cmpC_ok (x y : Int) : FnP Tryz.prog 69 [.int .i64 x, .int .i64 y] [] (.int .i64 (ordI x y)) := by
 refine q_beg _ (isC 69) fun B w0 => ?_
 refine go ?_
 refine q_call (nanC_ok x) (next := fun _ _ => ?_)
 refine go ?_
 refine q_call (nanC_ok y) (next := fun _ _ => ?_)
 refine go ?_
 refine if_d rfl (fun h1 => ?_) (fun h1 => ?_)
 · refine go ?_
   refine q_fin () (hv := ?_) (hp := trivial)
   rw [ordI, if_pos h1]; rfl
 refine go ?_
 refine if_d rfl (fun h2 => ?_) (fun h2 => ?_)
 · refine go ?_
   refine q_fin () (hv := ?_) (hp := trivial)
   rw [ordI, if_neg h1, if_pos h2]; rfl
 refine go ?_
 refine q_fin () (hv := ?_) (hp := trivial)
 rw [ordI, if_neg h1, if_neg h2]; rfl
theorem drop_c {α : Type} {xs : List α} {k : Nat} {x : α} (h : xs[k]? = some x) : xs.drop k = x :: xs.drop (k + 1) := by
 obtain ⟨hlt, he⟩ := List.getElem?_eq_some_iff.1 h
 rw [List.drop_eq_getElem_cons hlt, he]
theorem cmpOr_ok {v : Value} {xs : List Int} (hl : xs.length < 9223372036854775808) : FnP Tryz.prog 68 [v] [fSl intE v xs] (.int .i64 (firstNZ xs)) := by
 refine q_beg _ (isC 68) fun B w0 => ?_
 refine go ?_
 refine q_loop (fun k => xs.length - k) (fun k : Nat => [(8, .int .i64 (k : Int))]) (fun _ => []) (fun _ => []) (fun k => k ≤ xs.length ∧ firstNZ xs = firstNZ (xs.drop k)) 0 ⟨by omega, rfl⟩ (body := ?_)
 rintro k ⟨hk, hf⟩
 refine go ?_
 refine if_d rfl (fun h1 => ?_) (fun h1 => ?_)
 · refine go ?_
   intro _ _ x hx
   have hd := drop_c hx
   refine go ?_
   refine if_d rfl (fun h2 => ?_) (fun h2 => ?_)
   · refine go ?_
     refine q_fin () (hv := ?_) (hp := trivial)
     rw [hf, hd, firstNZ, if_pos h2]; rfl
   · refine go ?_
     refine q_again (k + 1) (by show xs.length - (k + 1) < xs.length - k; omega) ⟨by omega, ?_⟩
     rw [hf, hd, firstNZ, if_neg h2]
 have hk : k = xs.length := by omega
 refine go ?_
 refine q_fin () (hv := ?_) (hp := trivial)
 rw [hf, hk, List.drop_length]; rfl
theorem place_ok {a b : Clue} {va vb : Value} : FnP Tryz.prog 38 [gvnV a va, gvnV b vb] [] (.int .i64 (plc a b)) := by
 refine q_beg _ (isC 38) fun B w0 => ?_
 refine go ?_
 intro b2 b3
 refine go ?_
 refine q_call (cmpC_ok a.clue b.clue) (next := fun _ _ => ?_)
 refine go ?_
 refine q_call (cmpC_ok a.at_ b.at_) (next := fun _ _ => ?_)
 refine go ?_
 intro b15
 refine q_frz (A := pt b15 (.cells [.int .i64 (ordI a.clue b.clue), .int .i64 (ordI a.at_ b.at_)])) (fs := [fSl intE (.slice (some ⟨b15, 0, some 0⟩) 2 2) [ordI a.clue b.clue, ordI a.at_ b.at_]]) (frz_ints (b := b15) (f := 0) (c := 2) (xs := [ordI a.clue b.clue, ordI a.at_ b.at_])) (h := ?_)
 refine go ?_
 refine q_call (cmpOr_ok (xs := [ordI a.clue b.clue, ordI a.at_ b.at_]) (by simp)) (next := fun _ _ => ?_)
 refine go ?_
 exact q_fin () (hv := rfl) (hp := trivial)
end Go.Proofs.YtoohgkkmdnbnfaaGreatDoor
namespace Go.Proofs.YtoohgkkmdnbnfaaGreatDoor
open Go.Ideal Kd Canon Go.Sort
theorem srtK : SortsK Tryz.prog 44 3 := fun α _ enc cf g cb blk off cap d w hk h1 hO eg hcmp hH hblk hsz => AnyQ.slices_SortFunc Tryz.laysF6 3 Tryz.isAgg59 Tryz.sizeOf59 enc hk h1 cf hO g cb blk off cap d w eg hcmp hH hblk hsz
theorem srtN : SortsN Tryz.prog 44 := fun p cap fv w => AnyF.slices_SortFunc_none Tryz.laysF6 p cap fv w
theorem swo_of {α : Type} {c : α → α → Int} (h : Ord3 c) : SWO (ltOf c) := by
 have hz := h.zero
 have hn := h.neg
 have ht := h.trans
 refine ⟨fun x => ?_, fun x y z h1 h2 => ?_, fun x y z h1 h2 => ?_⟩
 · have := (hz x x).2 rfl
   exact decide_eq_false (by omega)
 · exact decide_eq_true (ht x y z (of_decide_eq_true h1) (of_decide_eq_true h2))
 · have h1 : ¬ c x y < 0 := of_decide_eq_false h1
   have h2 : ¬ c y z < 0 := of_decide_eq_false h2
   refine decide_eq_false fun h3 => ?_
   by_cases e1 : c x y = 0
   · rw [(hz x y).1 e1] at h3; exact h2 h3
   by_cases e2 : c y z = 0
   · rw [← (hz y z).1 e2] at h3; exact h1 h3
   have h4 := (hn z y).2 (by omega)
   have h5 := (hn y x).2 (by omega)
   have h6 := ht z y x h4 h5
   have h7 := (hn z x).1 h6
   omega
theorem gOrd_ok {a b : Clue} {va vb : Value} (ha : a.values.length ≤ 1000000) (hb : b.values.length ≤ 1000000) : FnP Tryz.prog 42 [gvnV a va, gvnV b vb] [fSl intE va a.values, fSl intE vb b.values] (.int .i64 (ordC a b)) := by
 refine q_beg _ (isC 42) fun B w0 => ?_
 refine go ?_
 intro b2 b3
 refine go ?_
 refine q_call (place_ok (a := a) (b := b) (va := va) (vb := vb)) (next := fun _ _ => ?_)
 refine go ?_
 refine q_call (slCmp_ok (xs := a.values) (ys := b.values) ha hb) (next := fun _ _ => ?_)
 refine go ?_
 intro b15
 refine q_frz (A := pt b15 (.cells [.int .i64 (plc a b), .int .i64 (ordL ordI a.values b.values)])) (fs := [fSl intE (.slice (some ⟨b15, 0, some 0⟩) 2 2) [plc a b, ordL ordI a.values b.values]]) (frz_ints (b := b15) (f := 0) (c := 2) (xs := [plc a b, ordL ordI a.values b.values])) (h := ?_)
 refine go ?_
 refine q_call (cmpOr_ok (xs := [plc a b, ordL ordI a.values b.values]) (by simp)) (next := fun _ _ => ?_)
 refine go ?_
 refine q_fin () (hv := ?_) (hp := trivial)
 rw [ordC_eq, ← plc_eq]
 simp only [firstNZ]
 by_cases h1 : plc a b = 0
 · by_cases h2 : ordL ordI a.values b.values = 0
   · simp [h1, h2]; rfl
   · simp [h1, h2]; rfl
 · simp [h1]; rfl
theorem gSort_ok {xs : List Clue} {a : Option Addr} (hlen : xs.length < 4611686018427387904) (hv : ∀ x ∈ xs, x.values.length ≤ 1000000) :
 FnC Tryz.prog (.func 44) [.slice a xs.length xs.length, .func (.func 42) ⟨[]⟩ ⟨[]⟩] [] [ap gvnE (.slice a xs.length xs.length) xs] [] (fun _ : List Clue => .tuple ⟨[]⟩) (fun ys => [ap gvnE (.slice a xs.length xs.length) ys]) (fun _ => []) (fun ys => ys.Perm xs ∧ ys.Pairwise fun x y => ¬ ordC y x < 0) := by
 refine fn_sortK (by kernel_rfl) srtK srtN Tryz.func44 rfl (by decide) Tryz.func42 rfl (by decide) rfl (by decide) (swo_of ordC_ok) (fun x hx y hy u v => ?_) hlen
 exact gOrd_ok (hv x hx) (hv y hy)
end Go.Proofs.YtoohgkkmdnbnfaaGreatDoor
namespace Go.Proofs.YtoohgkkmdnbnfaaGreatDoor
open Go.Ideal Kd Canon
theorem srt1_ok {a b : Clue} {va vb : Value} : FnP Tryz.prog 46 [gvnV a va, gvnV b vb] [] (.bool (samePl a b)) := by
 refine q_beg _ (isC 46) fun B w0 => ?_
 refine go ?_
 intro b2 b3
 refine go ?_
 refine q_call (place_ok (a := a) (b := b) (va := va) (vb := vb)) (next := fun _ _ => ?_)
 refine go ?_
 exact q_fin () (hv := rfl) (hp := trivial)
abbrev CV := Clue × gvnE.Y
abbrev eqCV (p q : CV) : Bool := samePl p.1 q.1
theorem cmpct_short {β : Type} {eq : β → β → Bool} : ∀ {l : List β}, l.length < 2 → cmpct eq l = l
 | [], _ => rfl
 | [_], _ => rfl
 | _ :: _ :: _, h => by simp at h; omega
theorem take_succ_get {α : Type} {l : List α} {k : Nat} {x : α} (h : l[k]? = some x) : l.take (k + 1) = l.take k ++ [x] := by
 rw [List.take_add_one, h]; rfl
theorem cmpG_ok {xs : List Clue} {b f m : Nat} (hl : xs.length ≤ 1000000) : FnC Tryz.prog (.func 45) [.slice (some ⟨b, 0, some f⟩) m m, .func (.func 46) ⟨[]⟩ ⟨[]⟩] [] [ap gvnE (.slice (some ⟨b, 0, some f⟩) m m) xs] [] (fun v : Value => v) (fun _ => []) (fun v => [fSl gvnE v (cmpct samePl xs)]) (fun _ => True) := by
 refine q_beg _ (isC 45) fun B w0 => ?_
 refine q_apFlat gvnE fun xys hxy hm hf => ?_
 have hgn : gvnE.n = 3 := rfl
 have hlen : xys.length = xs.length := by rw [← hxy, List.length_map]
 subst hm
 rw [← hlen]
 have hcm : (cmpct eqCV xys).map (·.1) = cmpct samePl xs := by rw [← hxy]; exact cmpct_map (·.1) (fun _ _ => rfl) xys
 rw [← hcm]
 have hall : ∀ {F : List Fact} {zs : List CV}, fAll gvnE xys ∈ F → (∀ p ∈ zs, p ∈ xys) → ∀ w, (∀ f ∈ F, f.p w) → (fAll gvnE zs).p w := fun hF hz w h p hp f hf => h _ hF p (hz p hp) f hf
 refine go ?_
 refine if_d rfl (fun h1 => ?_) (fun h1 => ?_)
 · rw [cmpct_short (eq := eqCV) (show xys.length < 2 by omega)]
   refine go ?_
   have e0 : flatP gvnE xys = flatP gvnE xys ++ [] := (List.append_nil _).symm
   rw [e0]
   refine q_frzFlat gvnE (xys := xys) hf (Nat.le_refl _) ?_ (hall (by simp) fun p hp => hp)
   exact q_fin (.slice (some ⟨b, 0, some f⟩) xys.length xys.length) (hv := rfl) (hp := trivial)
 refine go ?_
 refine q_loop (fun k => xys.length - k) (fun k : Nat => [(5, .int .i64 (k : Int))]) (fun _ => []) (fun _ => []) (fun k => 1 ≤ k ∧ k ≤ xys.length ∧ ∀ p, xys[k - 1]? = some p → cmpct eqCV xys = xys.take k ++ cgo eqCV p (xys.drop k)) 1 ⟨by omega, by omega, fun p hp => ?_⟩ (body := ?_)
 · cases xys with
   | nil => cases hp
   | cons x l => cases hp; rfl
 rintro k ⟨hk1, hkn, hck⟩
 refine go ?_
 refine if_d rfl (fun h2 => ?_) (fun h2 => ?_)
 rotate_left
 · have hk : k = xys.length := by omega
   obtain ⟨p, hp⟩ : ∃ p, xys[k - 1]? = some p := ⟨_, List.getElem?_eq_getElem (by omega)⟩
   have hck := hck p hp
   rw [hk, List.drop_length, List.take_length, cgo, List.append_nil] at hck
   rw [hck]
   refine go ?_
   have e0 : flatP gvnE xys = flatP gvnE xys ++ [] := (List.append_nil _).symm
   rw [e0]
   refine q_frzFlat gvnE (xys := xys) hf (Nat.le_refl _) ?_ (hall (by simp) fun p hp => hp)
   exact q_fin (.slice (some ⟨b, 0, some f⟩) xys.length xys.length) (hv := rfl) (hp := trivial)
 have hkl : k < xys.length := by omega
 obtain ⟨p, hp⟩ : ∃ p, xys[k - 1]? = some p := ⟨_, List.getElem?_eq_getElem (by omega)⟩
 obtain ⟨y, hy⟩ : ∃ y, xys[k]? = some y := ⟨_, List.getElem?_eq_getElem hkl⟩
 have hck := hck p hp
 rw [drop_cons hy, cgo] at hck
 refine go ?_
 refine q_ldE gvnE (o := 0 + k * 3) hy (by rw [hgn]; omega) ?_
 refine go ?_
 refine q_ldE gvnE (o := 0 + ((k : Int) - 1).toNat * 3) hp (by rw [hgn]; omega) ?_
 refine go ?_
 refine q_call (srt1_ok (a := y.1) (b := p.1) (va := y.2) (vb := p.2)) (next := fun _ _ => ?_)
 refine go ?_
 cases he : samePl y.1 p.1 with
 | false =>
   refine go ?_
   refine q_again (k + 1) (by show xys.length - (k + 1) < xys.length - k; omega) ⟨by omega, by omega, fun p' hp' => ?_⟩
   rw [Nat.add_sub_cancel, hy] at hp'
   cases hp'
   rw [hck, take_succ_get hy, show eqCV y p = false from he, cond_false, List.append_assoc]; rfl
 | true =>
   rw [show eqCV y p = true from he, cond_true] at hck
   refine go ?_
   refine (d_p rfl rfl (p_slG (lo := k) (hi := xys.length) rfl (by rw [← hgn]; exact hf) (by omega) (.inr ⟨_, rfl, rfl⟩) (.inl ⟨rfl, rfl⟩) (by omega) (Nat.le_refl _))).h ?_
   refine go ?_
   refine q_loop (fun x : Nat × Nat × List CV => xys.length - x.2.1) (fun x => [(7, .int .i64 (x.2.1 : Int)), (5, .int .i64 (x.1 : Int))]) (fun x => [pt b (.cells (flatP gvnE x.2.2))]) (fun _ => [])
    (fun x => 1 ≤ x.2.1 ∧ k + x.2.1 ≤ xys.length ∧ k ≤ x.1 ∧ x.1 + 1 ≤ k + x.2.1 ∧ x.2.2.length = xys.length ∧ (∀ j, k + x.2.1 - 1 ≤ j → x.2.2[j]? = xys[j]?) ∧ (∀ p, xys[k + x.2.1 - 1]? = some p → cmpct eqCV xys = x.2.2.take x.1 ++ cgo eqCV p (xys.drop (k + x.2.1))) ∧ ∀ q ∈ x.2.2, q ∈ xys)
    (k, 1, xys) ⟨Nat.le_refl _, by dsimp only; omega, Nat.le_refl _, Nat.le_refl _, rfl, fun _ _ => rfl, fun p' hp' => ?_, fun q hq => hq⟩ (body := ?_)
   · rw [show k + 1 - 1 = k by omega, hy] at hp'
     cases hp'
     exact hck
   rintro ⟨kk, k2, zs⟩ ⟨i1, i2, i3, i4, i5, i6, i7, i8⟩
   dsimp only at i1 i2 i3 i4 i5 i6 i7 i8 ⊢
   obtain ⟨p2, hp2⟩ : ∃ p, xys[k + k2 - 1]? = some p := ⟨_, List.getElem?_eq_getElem (by omega)⟩
   have i7 := i7 p2 hp2
   refine go ?_
   refine if_d rfl (fun h3 => ?_) (fun h3 => ?_)
   rotate_left
   · have hk2 : k + k2 = xys.length := by omega
     rw [hk2, List.drop_length, cgo, List.append_nil] at i7
     have hkk : (zs.take kk).length = kk := by rw [List.length_take]; omega
     refine go ?_
     refine (d_p rfl rfl (p_slG (lo := kk) (hi := xys.length) rfl (by rw [← hgn]; exact hf) (by omega) (.inr ⟨_, rfl, rfl⟩) (.inl ⟨rfl, rfl⟩) (by omega) (Nat.le_refl _))).h ?_
     have hov : lover (flatP gvnE zs) (0 + kk * 3) (zeros [.int .i64 (.ofNat 0), .int .i64 (.ofNat 0), .slice none 0 0] (xys.length - kk)) = some (flatP gvnE (zs.take kk) ++ zeros [.int .i64 (.ofNat 0), .int .i64 (.ofNat 0), .slice none 0 0] (xys.length - kk)) := by
      have hz := zeros_length [.int .i64 (.ofNat 0), .int .i64 (.ofNat 0), .slice none 0 0] (xys.length - kk)
      have e1 : flatP gvnE zs = flatP gvnE (zs.take kk) ++ flatP gvnE (zs.drop kk) := by rw [← flatP_append, List.take_append_drop]
      have e2 : (flatP gvnE (zs.take kk)).length = 0 + kk * 3 := by rw [flatP_len, hkk, hgn]; omega
      have e3 : (flatP gvnE (zs.drop kk)).length = (xys.length - kk) * 3 := by rw [flatP_len, List.length_drop, hgn, i5]
      have hz3 : (zeros [.int .i64 (.ofNat 0), .int .i64 (.ofNat 0), .slice none 0 0] (xys.length - kk)).length = (xys.length - kk) * 3 := by rw [hz]; rfl
      rw [e1, ← e2, lover_mid (by rw [hz3, e3]; exact Nat.le_refl _), List.drop_of_length_le (by rw [hz3, e3]; exact Nat.le_refl _), List.append_nil]
     refine q_clear hov (by omega) ?_
     refine go ?_
     refine (d_p rfl rfl (p_slG (lo := 0) (hi := kk) rfl (by rw [← hgn]; exact hf) (by omega) (.inl ⟨rfl, rfl⟩) (.inr ⟨_, rfl, rfl⟩) (by omega) (by omega))).h ?_
     rw [Nat.zero_mul, Nat.zero_add, Nat.sub_zero, Nat.sub_zero]
     refine go ?_
     refine q_frzFlat gvnE (xys := zs.take kk) (c := xys.length) hf (by omega) ?_ (hall (by simp) fun q hq => i8 q (List.mem_of_mem_take hq))
     rw [i7, hkk]
     exact q_fin (.slice (some ⟨b, 0, some f⟩) kk xys.length) (hv := rfl) (hp := trivial)
   have hlt : k + k2 < xys.length := by omega
   obtain ⟨y2, hy2⟩ : ∃ y, xys[k + k2]? = some y := ⟨_, List.getElem?_eq_getElem hlt⟩
   have hzy : zs[k + k2]? = some y2 := by rw [i6 _ (by omega), hy2]
   have hzp : zs[k + k2 - 1]? = some p2 := by rw [i6 _ (by omega), hp2]
   rw [drop_cons hy2, cgo] at i7
   refine go ?_
   refine q_ldE gvnE (o := 0 + k * 3 + k2 * 3) hzy (by rw [hgn]; omega) ?_
   refine go ?_
   refine q_ldE gvnE (o := 0 + k * 3 + ((k2 : Int) - 1).toNat * 3) hzp (by rw [hgn]; omega) ?_
   refine go ?_
   refine q_call (srt1_ok (a := y2.1) (b := p2.1) (va := y2.2) (vb := p2.2)) (next := fun _ _ => ?_)
   refine go ?_
   cases he2 : samePl y2.1 p2.1 with
   | true =>
     rw [show eqCV y2 p2 = true from he2, cond_true] at i7
     refine go ?_
     refine q_again (kk, k2 + 1, zs) (by show xys.length - (k2 + 1) < xys.length - k2; omega) ⟨by dsimp only; omega, by dsimp only; omega, i3, by dsimp only; omega, i5, fun j hj => i6 j (by dsimp only at hj; omega), fun p' hp' => ?_, i8⟩
     rw [show k + (k2 + 1) - 1 = k + k2 by omega, hy2] at hp'
     cases hp'
     exact i7
   | false =>
     rw [show eqCV y2 p2 = false from he2, cond_false] at i7
     refine go ?_
     refine q_ldE gvnE (o := 0 + k * 3 + k2 * 3) hzy (by rw [hgn]; omega) ?_
     refine go ?_
     refine q_stE gvnE (xys := zs) (k := kk) (o := 0 + kk * 3) y2 (by omega) (by rw [hgn]; omega) ?_
     refine go ?_
     have htk : (zs.set kk y2).take (kk + 1) = zs.take kk ++ [y2] := by
      rw [take_succ_get (x := y2) (by rw [List.getElem?_set_self (by omega)]), List.take_set_of_le (Nat.le_refl _)]
     refine q_again (kk + 1, k2 + 1, zs.set kk y2) (by show xys.length - (k2 + 1) < xys.length - k2; omega) ⟨by dsimp only; omega, by dsimp only; omega, by dsimp only; omega, by dsimp only; omega, by rw [List.length_set]; exact i5, fun j hj => ?_, fun p' hp' => ?_, fun q hq => ?_⟩
     · dsimp only at hj ⊢
       rw [List.getElem?_set_ne (by omega)]; exact i6 j (by omega)
     · rw [show k + (k2 + 1) - 1 = k + k2 by omega, hy2] at hp'
       cases hp'
       rw [htk, i7, List.append_assoc]; rfl
     · rcases List.mem_or_eq_of_mem_set hq with h | h
       · exact i8 q h
       · rw [h]; exact List.mem_of_getElem? hy2
def CloA (a : Option Addr) (n : Nat) : Prop := (a = none ∧ n = 0) ∨ ∃ b f, a = some ⟨b, 0, some f⟩
theorem cloG_ok {v : Value} {xs : List Clue} (hl : xs.length ≤ 1000000) : FnC Tryz.prog (.func 43) [v] [] [] [fSl gvnE v xs] (fun a : Option Addr => .slice a xs.length xs.length) (fun a => [ap gvnE (.slice a xs.length xs.length) xs]) (fun _ => []) (fun a => CloA a xs.length) := by
 refine q_beg _ (isC 43) fun B w0 => ?_
 refine q_elems gvnE v (xs := xs) fun xys hxy => ?_
 have hlen : xys.length = xs.length := by rw [← hxy, List.length_map]
 refine q_all (xys := xys) (v := v) (E := gvnE) ?_
 refine q_formEr (v := v) (xys := xys) gvnE (fun e c ev => ?_) (fun e i o f c ev => ?_) (fun hne i o f c ev => ?_)
 · subst e ev
   have hx : xs = [] := by rw [← hxy]; rfl
   subst hx
   simp only [List.length_nil]
   refine go ?_
   refine (d_p rfl rfl (p_nilT (e := 59) (by kernel_rfl) rfl)).h ?_
   refine go ?_
   refine st_ap0 gvnE ?_
   exact q_fin none (hv := rfl) (hp := .inl ⟨rfl, rfl⟩)
 · subst e ev
   have hx : xs = [] := by rw [← hxy]; rfl
   subst hx
   simp only [List.length_nil]
   refine go ?_
   refine (d_p rfl rfl (p_nilF (e := 59) (by kernel_rfl) rfl)).h ?_
   refine go ?_
   intro b
   refine go ?_
   refine q_app00 (b := b) ?_
   refine go ?_
   refine st_apE gvnE Sel.here ?_
   exact q_fin (some ⟨b, 0, some 0⟩) (hv := rfl) (hp := .inr ⟨b, 0, rfl⟩)
 · subst ev
   refine go ?_
   refine (d_p rfl rfl (p_nilF (e := 59) (by kernel_rfl) rfl)).h ?_
   refine go ?_
   intro b
   refine go ?_
   refine q_appE (b := b) gvnE xys hne (by omega) (fun b' => ?_)
   refine go ?_
   refine q_closeAr (b := b') (m := xys.length) (f := gvnE.n) gvnE (xys := xys) rfl (.inr rfl) ?_ (hk := Sel.here)
   refine q_arAp (xys := xys) hne ?_ (fun w h => h _ (by simp))
   rw [hxy, hlen]
   exact q_fin (some ⟨b', 0, some gvnE.n⟩) (hv := rfl) (hp := .inr ⟨b', _, rfl⟩)
theorem cmpG0_ok : FnC Tryz.prog (.func 45) [.slice none 0 0, .func (.func 46) ⟨[]⟩ ⟨[]⟩] [] [] [] (fun _ : Unit => .slice none 0 0) (fun _ => []) (fun _ => []) (fun _ => True) := by
 refine q_beg _ (isC 45) fun B w0 => ?_
 refine go ?_
 exact q_fin () (hv := rfl) (hp := trivial)
theorem pSort_ok {v : Value} {xs : List Clue} (hl : xs.length ≤ 1000000) (hv : ∀ x ∈ xs, x.values.length ≤ 1000000) : FnC Tryz.prog (.func 19) [v] [] [] [fSl gvnE v xs] (fun y : Value × List Clue => .agg ⟨[y.1]⟩) (fun _ => []) (fun y => [fSl gvnE y.1 y.2]) (fun y => SortOK xs y.2) := by
 refine q_beg _ (isC 19) fun B w0 => ?_
 refine go ?_
 intro b2
 refine go ?_
 refine q_call (cloG_ok (xs := xs) hl) (next := fun a ha => ?_)
 refine go ?_
 refine q_call (gSort_ok (xs := xs) (a := a) (by omega) hv) (next := fun ys hy => ?_)
 have hlen : ys.length = xs.length := hy.1.length_eq
 have hok := sortOK_cmpct hy.1 hy.2
 refine go ?_
 rcases ha with ⟨rfl, h0⟩ | ⟨b, f, rfl⟩
 · have hx : xs = [] := List.length_eq_zero_iff.1 h0
   subst hx
   have hys : ys = [] := List.length_eq_zero_iff.1 (hlen.trans h0)
   subst hys
   refine q_call cmpG0_ok (next := fun _ _ => ?_)
   refine go ?_
   refine q_fact (fSl gvnE (.slice none 0 0) []) (fun w hw => .inl ⟨rfl, none, 0, rfl, trivial⟩) ?_
   exact q_fin (.slice none 0 0, []) (hv := rfl) (hp := hok)
 · refine q_call (cmpG_ok (xs := ys) (b := b) (f := f) (m := xs.length) (by omega)) (next := fun vr _ => ?_)
   refine q_form (E := gvnE) (v := vr) (xs := cmpct samePl ys) (by simp) fun ar1 cr er => ?_
   subst er
   refine go ?_
   exact q_fin (.slice ar1 (cmpct samePl ys).length cr, cmpct samePl ys) (hv := rfl) (hp := hok)
end Go.Proofs.YtoohgkkmdnbnfaaGreatDoor

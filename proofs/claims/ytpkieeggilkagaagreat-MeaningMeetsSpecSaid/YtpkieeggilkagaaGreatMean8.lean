/-
  Cells that hang together.
-/
import Derived.Test.YtpkieeggilkagaaGreatMean7
import Derived.Test.YtpkieeggilkagaaGreatIdealM
set_option linter.unusedSimpArgs false
set_option linter.unusedVariables false
set_option maxHeartbeats 2000000
set_option maxRecDepth 10000
namespace Go.Proofs.YtpkieeggilkagaaGreat
open Go.Ideal Gph

noncomputable def c_joined : CFunc := ⟨56, [(.tmp 10)], (.seq (.ops [6, 8, 10] [⟨⟨(some 6), none, (.box (.tmp 1) 22)⟩, []⟩, ⟨⟨(some 8), none, (.box (.tmp 3) 3)⟩, []⟩, ⟨⟨(some 10), none, (.asg (.const (.bool false)))⟩, []⟩]) (.seq (.ops [19, 20, 21, 11] [⟨⟨(some 19), none, (.load1 (.tmp 6))⟩, []⟩, ⟨⟨(some 20), none, (.lenSl (.tmp 19))⟩, []⟩, ⟨⟨(some 21), none, (.mkslice 4 1 1 [(.bool false)] (.tmp 20) (.tmp 20))⟩, []⟩, ⟨⟨(some 11), none, (.new [(.slice none 0 0)] 59)⟩, []⟩, ⟨⟨none, none, (.store 1 (.tmp 11) (.tmp 21))⟩, []⟩]) (.seq (.ops [22, 12] [⟨⟨(some 22), none, (.mkfunc (.func 132) [] [(.tmp 8), (.tmp 6), (.tmp 11)])⟩, []⟩, ⟨⟨(some 12), none, (.asg (.tmp 22))⟩, []⟩]) (.seq (.seq (.ops [23, 24, 25] [⟨⟨(some 23), none, (.mv (.tmp 2))⟩, []⟩, ⟨⟨(some 24), none, (.lenSl (.tmp 23))⟩, []⟩, ⟨⟨(some 25), none, (.mv (.const (.int .i64 0)))⟩, []⟩]) (.block 0 (.loop (.seq (.ops [26] [⟨⟨(some 26), none, (.bin .lss 3 (.tmp 25) (.tmp 24))⟩, []⟩]) (.seq (.cond (.tmp 26) .skip (.exit 0)) (.seq (.block 1 (.seq (.ops [27, 28, 14] [⟨⟨(some 27), none, (.idxSl 1 (.tmp 23) (.tmp 25))⟩, []⟩, ⟨⟨(some 28), none, (.load1 (.tmp 27))⟩, []⟩, ⟨⟨(some 14), none, (.asg (.tmp 28))⟩, []⟩]) (.ops [29, 30, 31] [⟨⟨(some 29), none, (.mv (.tmp 12))⟩, []⟩, ⟨⟨(some 30), none, (.mv (.tmp 14))⟩, []⟩, ⟨⟨(some 31), none, (.call (.tmp 29) [(.tmp 30)])⟩, []⟩]))) (.ops [32, 25] [⟨⟨(some 32), none, (.bin .add 3 (.tmp 25) (.const (.int .i64 1)))⟩, []⟩, ⟨⟨(some 25), none, (.mv (.tmp 32))⟩, []⟩]))))))) (.seq (.seq (.ops [34, 35, 36, 33, 37, 38, 15, 16] [⟨⟨(some 34), none, (.mv (.tmp 0))⟩, []⟩, ⟨⟨(some 35), none, (.load1 (.tmp 11))⟩, []⟩, ⟨⟨(some 36), none, (.call (.func 26) [(.tmp 34), (.tmp 35)])⟩, []⟩, ⟨⟨(some 33), none, (.mv (.tmp 36))⟩, []⟩, ⟨⟨(some 37), none, (.extract (.tmp 33) 0)⟩, []⟩, ⟨⟨(some 38), none, (.extract (.tmp 33) 1)⟩, []⟩, ⟨⟨(some 15), none, (.asg (.tmp 37))⟩, []⟩, ⟨⟨(some 16), none, (.asg (.tmp 38))⟩, []⟩]) (.seq (.ops [39, 40, 41, 42, 43, 44, 45] [⟨⟨(some 39), none, (.mv (.tmp 4))⟩, []⟩, ⟨⟨(some 40), none, (.un .not (.tmp 39))⟩, []⟩, ⟨⟨(some 41), none, (.mv (.tmp 40))⟩, []⟩, ⟨⟨(some 42), (some ⟨41, false⟩), (.mv (.tmp 15))⟩, []⟩, ⟨⟨(some 43), (some ⟨41, false⟩), (.lenSl (.tmp 42))⟩, []⟩, ⟨⟨(some 44), (some ⟨41, false⟩), (.bin .eql 3 (.tmp 43) (.const (.int .i64 0)))⟩, []⟩, ⟨⟨(some 45), none, (.pick (.tmp 41) (.const (.bool true)) (.tmp 44))⟩, []⟩]) (.cond (.tmp 45) (.seq (.ops [46, 47, 48, 10] [⟨⟨(some 46), none, (.mv (.tmp 15))⟩, []⟩, ⟨⟨(some 47), none, (.lenSl (.tmp 46))⟩, []⟩, ⟨⟨(some 48), none, (.bin .leq 3 (.tmp 47) (.const (.int .i64 1)))⟩, []⟩, ⟨⟨(some 10), none, (.asg (.tmp 48))⟩, []⟩]) .ret) .skip))) (.seq (.ops [50, 51, 52, 49, 53, 54, 17, 18] [⟨⟨(some 50), none, (.mv (.tmp 0))⟩, []⟩, ⟨⟨(some 51), none, (.load1 (.tmp 11))⟩, []⟩, ⟨⟨(some 52), none, (.call (.func 27) [(.tmp 50), (.tmp 51)])⟩, []⟩, ⟨⟨(some 49), none, (.mv (.tmp 52))⟩, []⟩, ⟨⟨(some 53), none, (.extract (.tmp 49) 0)⟩, []⟩, ⟨⟨(some 54), none, (.extract (.tmp 49) 1)⟩, []⟩, ⟨⟨(some 17), none, (.asg (.tmp 53))⟩, []⟩, ⟨⟨(some 18), none, (.asg (.tmp 54))⟩, []⟩]) (.seq (.ops [55, 10] [⟨⟨(some 55), none, (.mv (.tmp 17))⟩, []⟩, ⟨⟨(some 10), none, (.asg (.tmp 55))⟩, []⟩]) .ret)))))))⟩
theorem f_joined : (envOf Tryz.prog noCut noMemo).F 86 = some c_joined := by kernel_rfl
noncomputable def c_joined1 : CFunc := ⟨14, [], (.ops [5, 6, 7, 8, 9, 10, 11, 12, 13] [⟨⟨(some 5), none, (.load1 (.tmp 3))⟩, []⟩, ⟨⟨(some 6), none, (.mv (.tmp 0))⟩, []⟩, ⟨⟨(some 7), none, (.load1 (.tmp 1))⟩, []⟩, ⟨⟨(some 8), none, (.load1 (.tmp 2))⟩, []⟩, ⟨⟨(some 9), none, (.mv (.tmp 0))⟩, []⟩, ⟨⟨(some 10), none, (.idxSl 1 (.tmp 8) (.tmp 9))⟩, []⟩, ⟨⟨(some 11), none, (.load1 (.tmp 10))⟩, []⟩, ⟨⟨(some 12), none, (.call (.func 84) [(.tmp 7), (.tmp 11)])⟩, [⟨(some 5), none, (.load1 (.tmp 3))⟩]⟩, ⟨⟨(some 13), none, (.idxSl 1 (.tmp 5) (.tmp 6))⟩, []⟩, ⟨⟨none, none, (.store 1 (.tmp 13) (.tmp 12))⟩, []⟩])⟩
theorem f_joined1 : (envOf Tryz.prog noCut noMemo).F 132 = some c_joined1 := by kernel_rfl

/-- which cells have a symbol of a set -/
def mkd (grid : List Int) (set : Nat) (cells : List Int) : List Bool := cells.foldl (fun m c => m.set c.toNat (set.testBit (sy grid c))) (List.replicate grid.length false)

theorem mkd_len (grid : List Int) (set : Nat) (cells : List Int) : (mkd grid set cells).length = grid.length := by
  have : ∀ (cells : List Int) (m : List Bool), (cells.foldl (fun m c => m.set c.toNat (set.testBit (sy grid c))) m).length = m.length := by
    intro cells
    induction cells with
    | nil => intro m; rfl
    | cons c cells ih => intro m; rw [List.foldl_cons, ih, List.length_set]
  rw [mkd, this, List.length_replicate]

theorem mkd_take {grid : List Int} {set : Nat} {cells : List Int} {k : Nat} {c : Int} (h : cells[k]? = some c) : mkd grid set (cells.take (k + 1)) = (mkd grid set (cells.take k)).set c.toNat (set.testBit (sy grid c)) := by
  rw [mkd, take_one h, List.foldl_append]; rfl

/-- hang together; a ring -/
noncomputable def joinB (nbs : List (List Int)) (mk : List Bool) (loop : Bool) : Bool := if loop = true ∧ (partsN nbs mk nbs.length).2 ≠ 0 then ringB nbs mk else decide ((partsN nbs mk nbs.length).2 ≤ 1)

theorem joined1_ok {b6 b8 b11 bm : Nat} {vg : Value} {grid : List Int} {set : Nat} {m : List Bool} {c : Nat} (hg : GridOK grid) (hc : c < grid.length) (hm : m.length = grid.length) (hs : set < 9223372036854775808) :
    FnC Tryz.prog (.func 132) [.int .i64 (c : Int)] [ptr' b8, ptr' b6, ptr' b11] [pt bm (.cells (m.map .bool))] [fRaw b8 0 [.int .i64 (set : Int)], fRaw b6 0 [vg], fRaw b11 0 [fullS bm grid.length], fSl intE vg grid]
      (fun _ : Unit => .tuple ⟨[]⟩) (fun _ => [pt bm (.cells ((m.set c (set.testBit (sy grid c))).map .bool))]) (fun _ => []) (fun _ => True) := by
  refine q_beg c_joined1 f_joined1 fun B w0 => ?_
  refine go ?_
  intro _ _ x hx
  have hxx := hg.sym x (List.mem_of_getElem? hx)
  obtain ⟨x, rfl⟩ := Int.eq_ofNat_of_zero_le hxx.1
  refine q_call (mIn_ok (set := set) (sym := x) hs (by omega)) (next := fun _ _ => ?_)
  refine go ?_
  refine q_set (o := 0 + c * 1) (cs := m.map .bool) (v := .bool (set.testBit x)) (cs' := (m.set c (set.testBit (sy grid c))).map .bool) (by rw [List.map_set, sy_of hx]; simp) (by simp; omega) ?_
  refine go ?_
  exact q_fin () (hv := rfl) (hp := trivial)

theorem joined_ok {vn vg vc : Value} {nbs : List (List Int)} {grid cells : List Int} {set : Nat} {loop : Bool} (hG : GOK nbs) (hll : ∀ l ∈ nbs, l.length < 9223372036854775808) (hgl : grid.length = nbs.length) (hg : GridOK grid) (hc : CellsOK grid cells) (hs : set < 9223372036854775808) :
    FnP Tryz.prog 86 [vn, vg, vc, .int .i64 (set : Int), .bool loop] [fSl (slE intE) vn nbs, fSl intE vg grid, fSl intE vc cells] (.bool (joinB nbs (mkd grid set cells) loop)) := by
  refine q_beg c_joined f_joined fun B w0 => ?_
  have hgn := hG.len
  have hcl := hc.len
  refine q_form (E := intE) (v := vg) (xs := grid) (by simp) fun a2 c2 e2 => ?_
  subst e2
  refine go ?_
  intro b6 b8
  refine q_frz (frz_pt (b := b6)) (h := ?_)
  refine q_frz (frz_pt (b := b8)) (h := ?_)
  refine go ?_
  refine q_mks grid.length ⟨by omega, by omega, by omega⟩ fun bm => ?_
  rw [zeros_bool]
  refine go ?_
  intro b11
  refine go ?_
  refine q_frz (frz_pt (b := b11)) (h := ?_)
  refine go ?_
  refine q_loop (fun k => cells.length - k) (fun k : Nat => [(25, .int .i64 (k : Int))]) (fun k => [pt bm (.cells ((mkd grid set (cells.take k)).map .bool))]) (fun _ => []) (fun k => k ≤ cells.length) 0 (Nat.zero_le _)
    (hk := by repeat (first | exact SelL.nil | (apply SelL.cons; (focus (repeat (first | exact Sel.here | apply Sel.there)))))) (body := ?_)
  intro k hk
  have hml := mkd_len grid set (cells.take k)
  refine go ?_
  refine if_d rfl (fun h1 => ?_) (fun h1 => ?_)
  · refine go ?_
    intro _ _ c hck
    have hcc := hc.cell c (List.mem_of_getElem? hck)
    have hmt := mkd_take (grid := grid) (set := set) hck
    obtain ⟨c, rfl⟩ := Int.eq_ofNat_of_zero_le hcc.1
    rw [Int.toNat_natCast] at hmt
    refine go ?_
    refine q_call (joined1_ok (b6 := b6) (b8 := b8) (b11 := b11) (bm := bm) (set := set) (m := mkd grid set (cells.take k)) (c := c) hg (by omega) hml hs) (next := fun _ _ => ?_)
    rw [← hmt]
    refine go ?_
    exact q_again (k + 1) (by omega) (by omega)
  have hkl : k = cells.length := by omega
  subst hkl
  rw [List.take_length] at hml ⊢
  refine q_frz (frz_bools (b := bm) (f := 0) (c := grid.length) (xs := mkd grid set cells)) (h := ?_)
  rw [hml]
  refine go ?_
  refine q_call (comps_ok (g := nbs) (inn := mkd grid set cells) hll) (next := fun y hy => ?_)
  obtain ⟨a, n, e⟩ := y
  have he : e = 0 := hy.1.2 ⟨hG, by rw [hml, hgl]⟩
  subst he
  have hn := hy.2.1 rfl
  dsimp only at hn
  cases loop with
  | false =>
    refine go ?_
    refine q_fin () (hv := ?_) (hp := trivial)
    rw [joinB, if_neg (by simp), ← hn]
    show Value.bool (decide ((n : Int) ≤ 1)) = _
    rw [show decide ((n : Int) ≤ 1) = decide (n ≤ 1) from decide_eq_decide.2 (by omega)]
  | true =>
    refine go ?_
    refine if_d rfl (fun h2 => ?_) (fun h2 => ?_)
    · have h2 : (n : Int) = 0 := h2
      refine go ?_
      refine q_fin () (hv := ?_) (hp := trivial)
      rw [joinB, if_neg (by rw [← hn]; exact fun h => h.2 (by omega)), ← hn]
      show Value.bool (decide ((n : Int) ≤ 1)) = _
      rw [show decide ((n : Int) ≤ 1) = decide (n ≤ 1) from decide_eq_decide.2 (by omega)]
    have h2 : ¬ (n : Int) = 0 := h2
    refine go ?_
    refine q_call (ring_ok (g := nbs) (inn := mkd grid set cells) hll) (next := fun z hz => ?_)
    obtain ⟨r, e⟩ := z
    have he : e = 0 := hz.1.2 ⟨hG, by rw [hml, hgl]⟩
    subst he
    have hr := hz.2.1 rfl
    dsimp only at hr
    subst hr
    refine go ?_
    refine q_fin () (hv := ?_) (hp := trivial)
    rw [joinB, if_pos ⟨rfl, by rw [← hn]; omega⟩]; rfl
end Go.Proofs.YtpkieeggilkagaaGreat

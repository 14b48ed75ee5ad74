/-
  Constraints and problems checked.
-/
import Derived.Test.YtpkieeggilkagaaGreatMean8
import Derived.Test.YtpkieeggilkagaaGreatPgC
set_option linter.unusedSimpArgs false
set_option linter.unusedVariables false
set_option maxHeartbeats 2000000
set_option maxRecDepth 10000
namespace Go.Proofs.YtpkieeggilkagaaGreat
open Go.Ideal Gph

noncomputable def c_fine : CFunc := ⟨95, [(.tmp 4)], (.seq (.ops [2, 3, 4] [⟨⟨(some 2), none, (.box (.tmp 0) 50)⟩, []⟩, ⟨⟨(some 3), none, (.box (.tmp 1) 57)⟩, []⟩, ⟨⟨(some 4), none, (.asg (.const (.bool false)))⟩, []⟩]) (.seq (.ops [5] [⟨⟨(some 5), none, (.new [(.bool false), (.bool false), (.bool false), (.bool false), (.bool false), (.bool false), (.bool false), (.bool false), (.bool false), (.bool false), (.bool false), (.bool false), (.bool false), (.bool false), (.bool false), (.bool false), (.bool false), (.bool false), (.bool false), (.bool false), (.bool false), (.bool false), (.bool false), (.bool false), (.bool false), (.bool false), (.bool false), (.bool false), (.bool false), (.bool false), (.bool false), (.bool false), (.bool false), (.bool false), (.bool false), (.bool false), (.bool false), (.bool false), (.bool false), (.bool false), (.bool false), (.bool false), (.bool false), (.bool false), (.bool false), (.bool false), (.bool false), (.bool false), (.bool false), (.bool false), (.bool false), (.bool false), (.bool false), (.bool false), (.bool false), (.bool false), (.bool false), (.bool false), (.bool false), (.bool false), (.bool false), (.bool false), (.bool false), (.bool false), (.bool false), (.bool false), (.bool false), (.bool false), (.bool false), (.bool false), (.bool false), (.bool false), (.bool false), (.bool false), (.bool false), (.bool false), (.bool false), (.bool false), (.bool false), (.bool false), (.bool false), (.bool false), (.bool false), (.bool false), (.bool false), (.bool false), (.bool false), (.bool false), (.bool false), (.bool false), (.bool false), (.bool false), (.bool false), (.bool false), (.bool false), (.bool false), (.bool false), (.bool false), (.bool false), (.bool false), (.bool false), (.bool false), (.bool false), (.bool false), (.bool false), (.bool false), (.bool false), (.bool false), (.bool false), (.bool false), (.bool false), (.bool false), (.bool false), (.bool false), (.bool false), (.bool false), (.bool false), (.bool false), (.bool false), (.bool false), (.bool false), (.bool false), (.bool false), (.bool false), (.bool false), (.bool false), (.bool false), (.bool false), (.bool false), (.bool false), (.bool false), (.bool false), (.bool false), (.bool false), (.bool false), (.bool false), (.bool false), (.bool false), (.bool false), (.bool false), (.bool false), (.bool false), (.bool false), (.bool false), (.bool false), (.bool false), (.bool false), (.bool false), (.bool false), (.bool false), (.bool false), (.bool false), (.bool false), (.bool false), (.bool false), (.bool false), (.bool false), (.bool false), (.bool false), (.bool false), (.bool false), (.bool false), (.bool false), (.bool false), (.bool false), (.bool false), (.bool false), (.bool false), (.bool false), (.bool false), (.bool false), (.bool false), (.bool false), (.bool false), (.bool false), (.bool false), (.bool false), (.bool false), (.bool false), (.bool false), (.bool false), (.bool false), (.bool false), (.bool false), (.bool false), (.bool false), (.bool false), (.bool false), (.bool false), (.bool false), (.bool false), (.bool false), (.bool false), (.bool false), (.bool false), (.bool false), (.bool false), (.bool false), (.bool false), (.bool false), (.bool false), (.bool false), (.bool false), (.bool false), (.bool false), (.bool false), (.bool false), (.bool false), (.bool false), (.bool false), (.bool false), (.bool false), (.bool false), (.bool false), (.bool false), (.bool false), (.bool false), (.bool false), (.bool false), (.bool false), (.bool false), (.bool false), (.bool false), (.bool false), (.bool false), (.bool false), (.bool false), (.bool false), (.bool false), (.bool false), (.bool false), (.bool false), (.bool false), (.bool false), (.bool false), (.bool false), (.bool false), (.bool false), (.bool false), (.bool false), (.bool false), (.bool false), (.bool false), (.bool false), (.bool false), (.bool false), (.bool false), (.bool false), (.bool false), (.bool false), (.bool false), (.bool false), (.bool false), (.bool false), (.bool false), (.bool false)] 206)⟩, []⟩]) (.seq (.seq (.ops [8, 9, 10, 11] [⟨⟨(some 8), none, (.fieldA 1 (.tmp 3))⟩, []⟩, ⟨⟨(some 9), none, (.load1 (.tmp 8))⟩, []⟩, ⟨⟨(some 10), none, (.lenSl (.tmp 9))⟩, []⟩, ⟨⟨(some 11), none, (.mv (.const (.int .i64 0)))⟩, []⟩]) (.block 0 (.loop (.seq (.ops [12] [⟨⟨(some 12), none, (.bin .lss 3 (.tmp 11) (.tmp 10))⟩, []⟩]) (.seq (.cond (.tmp 12) .skip (.exit 0)) (.seq (.block 1 (.seq (.ops [13, 14, 15, 6, 7] [⟨⟨(some 13), none, (.mv (.tmp 11))⟩, []⟩, ⟨⟨(some 14), none, (.idxSl 1 (.tmp 9) (.tmp 11))⟩, []⟩, ⟨⟨(some 15), none, (.load1 (.tmp 14))⟩, []⟩, ⟨⟨(some 6), none, (.asg (.tmp 13))⟩, []⟩, ⟨⟨(some 7), none, (.asg (.tmp 15))⟩, []⟩]) (.seq (.seq (.ops [16, 17, 18, 19, 20, 21, 22, 23, 24, 25, 26, 27, 28, 29, 30, 31, 32, 33, 34, 35, 36, 37, 38] [⟨⟨(some 16), none, (.mv (.tmp 7))⟩, []⟩, ⟨⟨(some 17), none, (.bin .lss 3 (.tmp 16) (.const (.int .i64 0)))⟩, []⟩, ⟨⟨(some 18), none, (.mv (.tmp 17))⟩, []⟩, ⟨⟨(some 19), (some ⟨18, false⟩), (.mv (.tmp 7))⟩, []⟩, ⟨⟨(some 20), (some ⟨18, false⟩), (.fieldA 0 (.tmp 2))⟩, []⟩, ⟨⟨(some 21), (some ⟨18, false⟩), (.load1 (.tmp 20))⟩, []⟩, ⟨⟨(some 22), (some ⟨18, false⟩), (.bin .geq 3 (.tmp 19) (.tmp 21))⟩, []⟩, ⟨⟨(some 23), none, (.pick (.tmp 18) (.const (.bool true)) (.tmp 22))⟩, []⟩, ⟨⟨(some 24), none, (.mv (.tmp 23))⟩, []⟩, ⟨⟨(some 25), (some ⟨24, false⟩), (.mv (.tmp 7))⟩, []⟩, ⟨⟨(some 26), (some ⟨24, false⟩), (.idxArr 256 1 (.tmp 5) (.tmp 25))⟩, []⟩, ⟨⟨(some 27), (some ⟨24, false⟩), (.load1 (.tmp 26))⟩, []⟩, ⟨⟨(some 28), none, (.pick (.tmp 24) (.const (.bool true)) (.tmp 27))⟩, []⟩, ⟨⟨(some 29), none, (.mv (.tmp 28))⟩, []⟩, ⟨⟨(some 30), (some ⟨29, false⟩), (.fieldA 0 (.tmp 3))⟩, []⟩, ⟨⟨(some 31), (some ⟨29, false⟩), (.load1 (.tmp 30))⟩, []⟩, ⟨⟨(some 32), (some ⟨29, false⟩), (.bin .geq 3 (.tmp 31) (.const (.int .i64 8)))⟩, []⟩, ⟨⟨(some 33), (some ⟨29, false⟩), (.mv (.tmp 32))⟩, []⟩, ⟨⟨(some 34), (some ⟨33, true⟩), (.mv (.tmp 7))⟩, []⟩, ⟨⟨(some 35), (some ⟨33, true⟩), (.mv (.tmp 6))⟩, []⟩, ⟨⟨(some 36), (some ⟨33, true⟩), (.bin .neq 3 (.tmp 34) (.tmp 35))⟩, []⟩, ⟨⟨(some 37), (some ⟨29, false⟩), (.pick (.tmp 33) (.tmp 36) (.const (.bool false)))⟩, []⟩, ⟨⟨(some 38), none, (.pick (.tmp 29) (.const (.bool true)) (.tmp 37))⟩, []⟩]) (.cond (.tmp 38) (.seq (.ops [4] [⟨⟨(some 4), none, (.asg (.const (.bool false)))⟩, []⟩]) .ret) .skip)) (.ops [39, 40] [⟨⟨(some 39), none, (.mv (.tmp 7))⟩, []⟩, ⟨⟨(some 40), none, (.idxArr 256 1 (.tmp 5) (.tmp 39))⟩, []⟩, ⟨⟨none, none, (.store 1 (.tmp 40) (.const (.bool true)))⟩, []⟩])))) (.ops [41, 11] [⟨⟨(some 41), none, (.bin .add 3 (.tmp 11) (.const (.int .i64 1)))⟩, []⟩, ⟨⟨(some 11), none, (.mv (.tmp 41))⟩, []⟩]))))))) (.seq (.seq (.ops [42, 43] [⟨⟨(some 42), none, (.fieldA 0 (.tmp 3))⟩, []⟩, ⟨⟨(some 43), none, (.load1 (.tmp 42))⟩, []⟩]) (.block 2 (.seq (.seq (.ops [45, 44] [⟨⟨(some 45), none, (.bin .eql 3 (.tmp 43) (.const (.int .i64 1)))⟩, []⟩, ⟨⟨(some 44), none, (.asg (.tmp 45))⟩, []⟩]) (.cond (.tmp 44) .skip (.seq (.ops [46, 44] [⟨⟨(some 46), none, (.bin .eql 3 (.tmp 43) (.const (.int .i64 2)))⟩, []⟩, ⟨⟨(some 44), none, (.asg (.tmp 46))⟩, []⟩]) (.cond (.tmp 44) .skip (.seq (.ops [47, 44] [⟨⟨(some 47), none, (.bin .eql 3 (.tmp 43) (.const (.int .i64 3)))⟩, []⟩, ⟨⟨(some 44), none, (.asg (.tmp 47))⟩, []⟩]) (.cond (.tmp 44) .skip (.seq (.ops [48, 44] [⟨⟨(some 48), none, (.bin .eql 3 (.tmp 43) (.const (.int .i64 4)))⟩, []⟩, ⟨⟨(some 44), none, (.asg (.tmp 48))⟩, []⟩]) (.cond (.tmp 44) .skip (.ops [49, 44] [⟨⟨(some 49), none, (.bin .eql 3 (.tmp 43) (.const (.int .i64 5)))⟩, []⟩, ⟨⟨(some 44), none, (.asg (.tmp 49))⟩, []⟩]))))))))) (.cond (.tmp 44) .skip (.seq (.seq (.ops [51, 50] [⟨⟨(some 51), none, (.bin .eql 3 (.tmp 43) (.const (.int .i64 6)))⟩, []⟩, ⟨⟨(some 50), none, (.asg (.tmp 51))⟩, []⟩]) (.cond (.tmp 50) .skip (.ops [52, 50] [⟨⟨(some 52), none, (.bin .eql 3 (.tmp 43) (.const (.int .i64 7)))⟩, []⟩, ⟨⟨(some 50), none, (.asg (.tmp 52))⟩, []⟩]))) (.cond (.tmp 50) (.seq (.ops [53, 54, 55, 56] [⟨⟨(some 53), none, (.fieldA 1 (.tmp 3))⟩, []⟩, ⟨⟨(some 54), none, (.load1 (.tmp 53))⟩, []⟩, ⟨⟨(some 55), none, (.lenSl (.tmp 54))⟩, []⟩, ⟨⟨(some 56), none, (.bin .neq 3 (.tmp 55) (.const (.int .i64 2)))⟩, []⟩]) (.cond (.tmp 56) (.seq (.ops [4] [⟨⟨(some 4), none, (.asg (.const (.bool false)))⟩, []⟩]) .ret) .skip)) (.seq (.seq (.ops [58, 57] [⟨⟨(some 58), none, (.bin .eql 3 (.tmp 43) (.const (.int .i64 8)))⟩, []⟩, ⟨⟨(some 57), none, (.asg (.tmp 58))⟩, []⟩]) (.cond (.tmp 57) .skip (.ops [59, 57] [⟨⟨(some 59), none, (.bin .eql 3 (.tmp 43) (.const (.int .i64 9)))⟩, []⟩, ⟨⟨(some 57), none, (.asg (.tmp 59))⟩, []⟩]))) (.cond (.tmp 57) (.seq (.ops [60, 61, 62, 63, 64, 65] [⟨⟨(some 60), none, (.fieldA 1 (.tmp 3))⟩, []⟩, ⟨⟨(some 61), none, (.load1 (.tmp 60))⟩, []⟩, ⟨⟨(some 62), none, (.lenSl (.tmp 61))⟩, []⟩, ⟨⟨(some 63), none, (.fieldA 0 (.tmp 2))⟩, []⟩, ⟨⟨(some 64), none, (.load1 (.tmp 63))⟩, []⟩, ⟨⟨(some 65), none, (.bin .neq 3 (.tmp 62) (.tmp 64))⟩, []⟩]) (.cond (.tmp 65) (.seq (.ops [4] [⟨⟨(some 4), none, (.asg (.const (.bool false)))⟩, []⟩]) .ret) .skip)) (.seq (.ops [4] [⟨⟨(some 4), none, (.asg (.const (.bool false)))⟩, []⟩]) .ret))))))))) (.seq (.ops [66, 67, 68, 69, 70, 71, 72, 73, 74, 75, 76, 77, 78, 79, 80, 81, 82, 83, 84, 85, 86, 87, 88, 89, 90, 91, 92, 93, 94, 4] [⟨⟨(some 66), none, (.fieldA 2 (.tmp 3))⟩, []⟩, ⟨⟨(some 67), none, (.load1 (.tmp 66))⟩, []⟩, ⟨⟨(some 68), none, (.fieldA 3 (.tmp 3))⟩, []⟩, ⟨⟨(some 69), none, (.load1 (.tmp 68))⟩, []⟩, ⟨⟨(some 70), none, (.bslice 3 2 [(.int .i64 0), (.int .i64 0)] [⟨0, ⟨1, (.tmp 67)⟩⟩, ⟨1, ⟨1, (.tmp 69)⟩⟩])⟩, []⟩, ⟨⟨(some 71), none, (.fieldA 1 (.tmp 2))⟩, []⟩, ⟨⟨(some 72), none, (.load1 (.tmp 71))⟩, []⟩, ⟨⟨(some 73), none, (.bin .shl 3 (.const (.int .i64 1)) (.tmp 72))⟩, []⟩, ⟨⟨(some 74), none, (.bin .sub 3 (.tmp 73) (.const (.int .i64 1)))⟩, []⟩, ⟨⟨(some 75), none, (.call (.func 151) [(.tmp 70), (.const (.int .i64 0)), (.tmp 74)])⟩, []⟩, ⟨⟨(some 76), none, (.mv (.tmp 75))⟩, []⟩, ⟨⟨(some 77), (some ⟨76, true⟩), (.fieldA 4 (.tmp 3))⟩, []⟩, ⟨⟨(some 78), (some ⟨76, true⟩), (.load1 (.tmp 77))⟩, []⟩, ⟨⟨(some 79), (some ⟨76, true⟩), (.fieldA 5 (.tmp 3))⟩, []⟩, ⟨⟨(some 80), (some ⟨76, true⟩), (.load1 (.tmp 79))⟩, []⟩, ⟨⟨(some 81), (some ⟨76, true⟩), (.bslice 3 2 [(.int .i64 0), (.int .i64 0)] [⟨0, ⟨1, (.tmp 78)⟩⟩, ⟨1, ⟨1, (.tmp 80)⟩⟩])⟩, []⟩, ⟨⟨(some 82), (some ⟨76, true⟩), (.call (.func 151) [(.tmp 81), (.const (.int .i64 0)), (.const (.int .i64 65536))])⟩, []⟩, ⟨⟨(some 83), none, (.pick (.tmp 76) (.tmp 82) (.const (.bool false)))⟩, []⟩, ⟨⟨(some 84), none, (.mv (.tmp 83))⟩, []⟩, ⟨⟨(some 85), (some ⟨84, true⟩), (.fieldA 6 (.tmp 3))⟩, []⟩, ⟨⟨(some 86), (some ⟨84, true⟩), (.load1 (.tmp 85))⟩, []⟩, ⟨⟨(some 87), (some ⟨84, true⟩), (.lenSl (.tmp 86))⟩, []⟩, ⟨⟨(some 88), (some ⟨84, true⟩), (.bin .leq 3 (.tmp 87) (.const (.int .i64 8)))⟩, []⟩, ⟨⟨(some 89), none, (.pick (.tmp 84) (.tmp 88) (.const (.bool false)))⟩, []⟩, ⟨⟨(some 90), none, (.mv (.tmp 89))⟩, []⟩, ⟨⟨(some 91), (some ⟨90, true⟩), (.fieldA 6 (.tmp 3))⟩, []⟩, ⟨⟨(some 92), (some ⟨90, true⟩), (.load1 (.tmp 91))⟩, []⟩, ⟨⟨(some 93), (some ⟨90, true⟩), (.call (.func 151) [(.tmp 92), (.const (.int .i64 1)), (.const (.int .i64 256))])⟩, []⟩, ⟨⟨(some 94), none, (.pick (.tmp 90) (.tmp 93) (.const (.bool false)))⟩, []⟩, ⟨⟨(some 4), none, (.asg (.tmp 94))⟩, []⟩]) .ret)))))⟩
theorem f_fine : (envOf Tryz.prog noCut noMemo).F 153 = some c_fine := by kernel_rfl

def consE : Enc Con := ⟨9, Value × Value, fun c y => [.int .i64 c.kind, y.1, .int .i64 c.set, .int .i64 c.other, .int .i64 c.lo, .int .i64 c.hi, y.2, .int .i64 c.rule, .int .i64 c.at_], fun c y => [fSl intE y.1 c.cells, fSl intE y.2 c.runs], fun _ _ => rfl⟩
abbrev consL (c : Con) (v1 v2 : Value) : List Value := [.int .i64 c.kind, v1, .int .i64 c.set, .int .i64 c.other, .int .i64 c.lo, .int .i64 c.hi, v2, .int .i64 c.rule, .int .i64 c.at_]
abbrev probL (q : Prob) (vv vn vc : Value) : List Value := [.int .i64 q.cells, .int .i64 q.symbols, vv, vn, vc]

/-- small enough for what counts in 64 bits -/
structure ConS (c : Con) : Prop where
  cells : c.cells.length < 9223372036854775808
  runs : c.runs.length < 9223372036854775808

theorem nodup_take {l : List Int} {k : Nat} {x : Int} (h : (l.take k).Nodup) (hx : l[k]? = some x) (hn : x ∉ l.take k) : (l.take (k + 1)).Nodup := by
  rw [take_one hx, List.nodup_append]
  exact ⟨h, by simp, by rintro a ha b hb rfl; simp at hb; subst hb; exact hn ha⟩

theorem wit_two {x y lo hi : Int} : wit [x, y] lo hi = true ↔ (lo ≤ x ∧ x ≤ hi) ∧ lo ≤ y ∧ y ≤ hi := by simp [wit]

theorem frz_two {b f c : Nat} {x y : Int} (hc : 2 ≤ c := by first | exact Nat.le_refl _ | omega) (hf : f = 0 ∨ f = 1 := by first | exact .inl rfl | exact .inr rfl) : Frz (pt b (.cells [.int .i64 x, .int .i64 y])) [fSl intE (.slice (some ⟨b, 0, some f⟩) 2 c) [x, y]] := frz_ints (xs := [x, y]) hc hf


set_option maxRecDepth 100000 in
theorem fine_ok {q : Prob} {c : Con} {vv vn vc v1 v2 : Value} (hq : 1 ≤ q.cells ∧ q.cells ≤ 256) (hsy : 1 ≤ q.symbols ∧ q.symbols ≤ 16) (hcs : ConS c) :
    FnC Tryz.prog (.func 153) [.agg ⟨probL q vv vn vc⟩, .agg ⟨consL c v1 v2⟩] [] [] [fSl intE v1 c.cells, fSl intE v2 c.runs] (fun b : Bool => .bool b) (fun _ => []) (fun _ => []) (fun b => (b = true ↔ FineC q.cells q.symbols c)) := by
  obtain ⟨qc, qs, qv, qn, qk⟩ := q
  obtain ⟨kd, cells, cset, cother, clo, chi, runs, crule, cat⟩ := c
  dsimp only at hq hsy
  dsimp only [probL, consL]
  obtain ⟨m, rfl⟩ := Int.eq_ofNat_of_zero_le (show 0 ≤ qs by omega)
  refine q_beg c_fine f_fine fun B w0 => ?_
  have hcl := hcs.cells
  have hrl := hcs.runs
  dsimp only at hcl hrl
  refine go ?_
  intro b2 b3 b5
  refine q_frz (frz_pt (b := b2)) (h := ?_)
  refine q_frz (frz_pt (b := b3)) (h := ?_)
  refine go ?_
  refine q_loop (fun x => cells.length - x.1) (fun x : Nat × List Bool => [(11, .int .i64 (x.1 : Int))]) (fun x => [pt b5 (.cells (x.2.map .bool))]) (fun _ => [])
    (fun x => x.1 ≤ cells.length ∧ x.2.length = 256 ∧ (∀ n : Nat, n < 256 → x.2.getD n false = decide ((n : Int) ∈ cells.take x.1)) ∧ (cells.take x.1).Nodup ∧ ∀ (i : Nat) y, i < x.1 → cells[i]? = some y → 0 ≤ y ∧ y < qc ∧ (8 ≤ kd → y = i))
    (0, List.replicate 256 false) ⟨Nat.zero_le _, by simp, fun n hn => by rw [List.getD_eq_getElem?_getD, List.getElem?_replicate, if_pos hn]; rfl, by simp, fun i y hi => by omega⟩
    (hk := by repeat (first | exact SelL.nil | (apply SelL.cons; (focus (repeat (first | exact Sel.here | apply Sel.there)))))) (body := ?_)
  rintro ⟨k, s⟩ ⟨hk, hsl, hseen, hnd, hall⟩
  dsimp only at hk hsl hseen hnd hall ⊢
  refine go ?_
  refine if_d rfl (fun h1 => ?_) (fun h1 => ?_)
  · refine go ?_
    intro _ _ x hx
    refine go ?_
    first | with_reducible refine g_d (fun h2 => ?_) (fun h2 => ?_) | with_reducible refine g_n (fun h2 => ?_) (fun h2 => ?_) | with_reducible refine g_b (fun h2 => ?_) (fun h2 => ?_)
    rotate_left
    · refine go ?_
      exact q_fin false (hv := rfl) (hp := ⟨(fun h => by cases h), fun h => by have := h.cell k x hx; dsimp only at this; omega⟩)
    refine go ?_
    first | with_reducible refine g_d (fun h3 => ?_) (fun h3 => ?_) | with_reducible refine g_n (fun h3 => ?_) (fun h3 => ?_) | with_reducible refine g_b (fun h3 => ?_) (fun h3 => ?_)
    rotate_left
    · refine go ?_
      exact q_fin false (hv := rfl) (hp := ⟨(fun h => by cases h), fun h => by have := h.cell k x hx; dsimp only at this; omega⟩)
    obtain ⟨x, rfl⟩ := Int.eq_ofNat_of_zero_le (show 0 ≤ x by omega)
    have hxl : x < s.length := by omega
    have hsx := hseen x (by omega)
    have hgx : s.getD x false = s[x] := by rw [List.getD_eq_getElem?_getD, List.getElem?_eq_getElem hxl]; rfl
    rw [hgx] at hsx
    refine go ?_
    refine q_get (o := 0 + (x : Int).toNat * 1) (cs := s.map .bool) (.bool s[x]) (by rw [Nat.zero_add, Nat.mul_one, Int.toNat_natCast, List.getElem?_map, List.getElem?_eq_getElem hxl]; rfl) ?_
    refine go ?_
    first | with_reducible refine g_d (fun h4 => ?_) (fun h4 => ?_) | with_reducible refine g_n (fun h4 => ?_) (fun h4 => ?_) | with_reducible refine g_b (fun h4 => ?_) (fun h4 => ?_)
    rotate_left
    · have hm : (x : Int) ∈ cells.take k := by rw [h4] at hsx; exact of_decide_eq_true hsx.symm
      refine go ?_
      refine q_fin false (hv := rfl) (hp := ⟨(fun h => by cases h), fun h => ?_⟩)
      have hn := List.Nodup.sublist (List.take_sublist (k + 1) cells) h.nd
      rw [take_one hx, List.nodup_append] at hn
      exact absurd rfl (hn.2.2 _ hm (x : Int) (by simp))
    have hm : (x : Int) ∉ cells.take k := by rw [h4] at hsx; exact of_decide_eq_false hsx.symm
    have again : (8 ≤ kd → (x : Int) = k) → (k + 1 ≤ cells.length ∧ (s.set x true).length = 256 ∧ (∀ n : Nat, n < 256 → (s.set x true).getD n false = decide ((n : Int) ∈ cells.take (k + 1))) ∧ (cells.take (k + 1)).Nodup ∧ ∀ (i : Nat) y, i < k + 1 → cells[i]? = some y → 0 ≤ y ∧ y < qc ∧ (8 ≤ kd → y = i)) := fun hord => by
      refine ⟨by omega, by rw [List.length_set]; exact hsl, fun n hn => ?_, nodup_take hnd hx hm, fun i y hi hy => ?_⟩
      · have := hseen n hn
        rw [take_one hx, List.getD_eq_getElem?_getD, List.getElem?_set]
        by_cases e : x = n
        · subst e; simp [hxl]
        · rw [if_neg e, ← List.getD_eq_getElem?_getD, this, decide_eq_decide, List.mem_append]
          exact ⟨.inl, fun h => h.elim id fun h => by simp at h; omega⟩
      · by_cases e : i = k
        · subst e
          rw [hx] at hy
          cases hy
          exact ⟨by omega, by omega, hord⟩
        · exact hall i y (by omega) hy
    refine go ?_
    first | with_reducible refine g_d (fun h5 => ?_) (fun h5 => ?_) | with_reducible refine g_n (fun h5 => ?_) (fun h5 => ?_) | with_reducible refine g_b (fun h5 => ?_) (fun h5 => ?_)
    · refine go ?_
      refine q_set (o := 0 + (x : Int).toNat * 1) (cs := s.map .bool) (v := .bool true) (cs' := (s.set x true).map .bool) (by rw [List.map_set, Nat.zero_add, Nat.mul_one, Int.toNat_natCast]) (by simp; omega) ?_
      refine go ?_
      exact q_again (k + 1, s.set x true) (by show cells.length - (k + 1) < cells.length - k; omega) (again (fun h => absurd h h5))
    refine go ?_
    refine if_d rfl (fun h6 => ?_) (fun h6 => ?_)
    · refine go ?_
      exact q_fin false (hv := rfl) (hp := ⟨(fun h => by cases h), fun h => absurd ((h.cell k x hx).2.2 h5) h6⟩)
    refine go ?_
    refine q_set (o := 0 + (x : Int).toNat * 1) (cs := s.map .bool) (v := .bool true) (cs' := (s.set x true).map .bool) (by rw [List.map_set, Nat.zero_add, Nat.mul_one, Int.toNat_natCast]) (by simp; omega) ?_
    refine go ?_
    exact q_again (k + 1, s.set x true) (by show cells.length - (k + 1) < cells.length - k; omega) (again (fun _ => Decidable.not_not.1 h6))
  have hkl : k = cells.length := by omega
  subst hkl
  rw [List.take_length] at hnd
  have hall : ∀ (i : Nat) y, cells[i]? = some y → 0 ≤ y ∧ y < qc ∧ (8 ≤ kd → y = i) := fun i y hy => hall i y (List.getElem?_eq_some_iff.1 hy).1 hy
  have hsh : 1 <<< m = 2 ^ m := by rw [Nat.shiftLeft_eq, Nat.one_mul]
  have hsm : 2 ^ m ≤ 2 ^ 16 := Nat.pow_le_pow_right (by omega) (by omega)
  have hsp : 0 < 2 ^ m := Nat.two_pow_pos m
  refine goB ?_
  refine q_joinS [44, 50, 57] (fun _ : Unit => []) (fun _ => []) (fun _ => []) (fun _ => (1 ≤ kd ∧ kd ≤ 9) ∧ (kd = 6 ∨ kd = 7 → cells.length = 2) ∧ (8 ≤ kd → (cells.length : Int) = qc)) (hx := ?_) (hy := ?_)
  · refine go ?_
    by_cases k1 : kd = 1
    · rw [decide_eq_true k1]
      refine go ?_
      exact q_jend () ⟨by omega, fun h => by omega, fun h => by omega⟩
    rw [decide_eq_false k1]
    refine go ?_
    by_cases k2 : kd = 2
    · rw [decide_eq_true k2]
      refine go ?_
      exact q_jend () ⟨by omega, fun h => by omega, fun h => by omega⟩
    rw [decide_eq_false k2]
    refine go ?_
    by_cases k3 : kd = 3
    · rw [decide_eq_true k3]
      refine go ?_
      exact q_jend () ⟨by omega, fun h => by omega, fun h => by omega⟩
    rw [decide_eq_false k3]
    refine go ?_
    by_cases k4 : kd = 4
    · rw [decide_eq_true k4]
      refine go ?_
      exact q_jend () ⟨by omega, fun h => by omega, fun h => by omega⟩
    rw [decide_eq_false k4]
    refine go ?_
    by_cases k5 : kd = 5
    · rw [decide_eq_true k5]
      refine go ?_
      exact q_jend () ⟨by omega, fun h => by omega, fun h => by omega⟩
    rw [decide_eq_false k5]
    refine go ?_
    have two : kd = 6 ∨ kd = 7 → cells.length ≠ 2 → ¬ FineC qc (m : Int) ⟨kd, cells, cset, cother, clo, chi, runs, crule, cat⟩ := fun h h2 hF => h2 (hF.two h)
    have all : 8 ≤ kd → (cells.length : Int) ≠ qc → ¬ FineC qc (m : Int) ⟨kd, cells, cset, cother, clo, chi, runs, crule, cat⟩ := fun h h2 hF => h2 (hF.all h)
    by_cases k6 : kd = 6
    · rw [decide_eq_true k6]
      refine go ?_
      refine if_d rfl (fun h2 => ?_) (fun h2 => ?_)
      · refine go ?_
        refine q_jr ?_
        exact q_fin false (hv := rfl) (hp := ⟨(fun h => by cases h), fun h => absurd h (two (.inl k6) (fun e => h2 (by rw [e]; rfl)))⟩)
      refine go ?_
      exact q_jend () ⟨by omega, fun h => by omega, fun h => by omega⟩
    rw [decide_eq_false k6]
    refine go ?_
    by_cases k7 : kd = 7
    · rw [decide_eq_true k7]
      refine go ?_
      refine if_d rfl (fun h2 => ?_) (fun h2 => ?_)
      · refine go ?_
        refine q_jr ?_
        exact q_fin false (hv := rfl) (hp := ⟨(fun h => by cases h), fun h => absurd h (two (.inr k7) (fun e => h2 (by rw [e]; rfl)))⟩)
      refine go ?_
      exact q_jend () ⟨by omega, fun h => by omega, fun h => by omega⟩
    rw [decide_eq_false k7]
    refine go ?_
    by_cases k8 : kd = 8
    · rw [decide_eq_true k8]
      refine go ?_
      refine if_d rfl (fun h2 => ?_) (fun h2 => ?_)
      · refine go ?_
        refine q_jr ?_
        exact q_fin false (hv := rfl) (hp := ⟨(fun h => by cases h), fun h => absurd h (all (by omega) h2)⟩)
      refine go ?_
      exact q_jend () ⟨by omega, fun h => by omega, fun h => by omega⟩
    rw [decide_eq_false k8]
    refine go ?_
    by_cases k9 : kd = 9
    · rw [decide_eq_true k9]
      refine go ?_
      refine if_d rfl (fun h2 => ?_) (fun h2 => ?_)
      · refine go ?_
        refine q_jr ?_
        exact q_fin false (hv := rfl) (hp := ⟨(fun h => by cases h), fun h => absurd h (all (by omega) h2)⟩)
      refine go ?_
      exact q_jend () ⟨by omega, fun h => by omega, fun h => by omega⟩
    rw [decide_eq_false k9]
    refine go ?_
    refine q_jr ?_
    exact q_fin false (hv := rfl) (hp := ⟨(fun h => by cases h), fun h => by have := h.kind; dsimp only at this; omega⟩)
  rintro _ ⟨hkd, htwo, hall2⟩
  have hall' : FineC qc (m : Int) ⟨kd, cells, cset, cother, clo, chi, runs, crule, cat⟩ ↔ wit [cset, cother] 0 ((1 <<< m : Nat) - 1 : Int) = true ∧ wit [clo, chi] 0 65536 = true ∧ runs.length ≤ 8 ∧ wit runs 1 256 = true := by
    constructor
    · intro h
      have h1 := h.set
      have h2 := h.other
      have h3 := h.lo
      have h4 := h.hi
      dsimp only at h1 h2 h3 h4
      rw [Int.toNat_natCast] at h1 h2
      refine ⟨wit_two.2 ⟨⟨h1.1, by omega⟩, h2.1, by omega⟩, wit_two.2 ⟨h3, h4⟩, h.rlen, decide_eq_true h.runs⟩
    · rintro ⟨h1, h2, h3, h4⟩
      rw [wit_two] at h1 h2
      exact { cell := hall, nd := hnd, kind := hkd, two := htwo, all := hall2, set := ⟨h1.1.1, by rw [Int.toNat_natCast]; have := h1.1.2; show cset < ((2 ^ m : Nat) : Int); omega⟩, other := ⟨h1.2.1, by rw [Int.toNat_natCast]; have := h1.2.2; show cother < ((2 ^ m : Nat) : Int); omega⟩, lo := h2.1, hi := h2.2, rlen := h3, runs := of_decide_eq_true h4 }
  refine go ?_
  intro b70
  refine q_frz (frz_two (b := b70) (f := 0) (c := 2)) (h := ?_)
  refine q_p (p_shl (a := 1) (b := m) rfl rfl (by omega) (by omega)) ?_
  refine go ?_
  refine q_call (within_ok (xs := [cset, cother]) (lo := 0) (hi := ((1 <<< m : Nat) : Int) - 1) (by simp)) (next := fun _ _ => ?_)
  refine go ?_
  first | with_reducible refine g_d (fun h1 => ?_) (fun h1 => ?_) | with_reducible refine g_n (fun h1 => ?_) (fun h1 => ?_) | with_reducible refine g_b (fun h1 => ?_) (fun h1 => ?_)
  · refine go ?_
    exact q_fin false (hv := rfl) (hp := ⟨(fun h => by cases h), fun h => by rw [(hall'.1 h).1] at h1; cases h1⟩)
  refine go ?_
  intro b81
  refine q_frz (frz_two (b := b81) (f := 0) (c := 2)) (h := ?_)
  refine q_call (within_ok (xs := [clo, chi]) (lo := 0) (hi := 65536) (by simp)) (next := fun _ _ => ?_)
  refine go ?_
  first | with_reducible refine g_d (fun h2 => ?_) (fun h2 => ?_) | with_reducible refine g_n (fun h2 => ?_) (fun h2 => ?_) | with_reducible refine g_b (fun h2 => ?_) (fun h2 => ?_)
  · refine go ?_
    exact q_fin false (hv := rfl) (hp := ⟨(fun h => by cases h), fun h => by rw [(hall'.1 h).2.1] at h2; cases h2⟩)
  refine go ?_
  first | with_reducible refine g_d (fun h3 => ?_) (fun h3 => ?_) | with_reducible refine g_n (fun h3 => ?_) (fun h3 => ?_) | with_reducible refine g_b (fun h3 => ?_) (fun h3 => ?_)
  · refine go ?_
    exact q_fin false (hv := rfl) (hp := ⟨(fun h => by cases h), fun h => by have := (hall'.1 h).2.2.1; omega⟩)
  refine go ?_
  refine q_call (within_ok (xs := runs) (lo := 1) (hi := 256) hrl) (next := fun _ _ => ?_)
  refine go ?_
  refine q_fin (wit runs 1 256) (hv := rfl) (hp := ?_)
  rw [hall']
  exact ⟨fun h => ⟨h1, h2, by omega, h⟩, fun h => h.2.2.2⟩
end Go.Proofs.YtpkieeggilkagaaGreat

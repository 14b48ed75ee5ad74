/-
  Symmetries: composition and inverse.
-/
import Derived.Test.YtfakljdleblkoaaGreatFnD
set_option linter.unusedSimpArgs false
set_option linter.unusedVariables false
set_option maxHeartbeats 1000000
set_option maxRecDepth 20000
namespace Go.Proofs.YtfakljdleblkoaaGreat
open Go.Ideal

noncomputable def c12 : CFunc := ⟨13, [(.tmp 2)], (.seq (.ops [1, 2] [⟨⟨(some 1), none, (.box (.tmp 0) 36)⟩, []⟩, ⟨⟨(some 2), none, (.asg (.const (.bool false)))⟩, []⟩]) (.seq (.ops [3, 4, 5, 6, 7, 8, 9, 10, 11, 12, 2] [⟨⟨(some 3), none, (.fieldA 0 (.tmp 1))⟩, []⟩, ⟨⟨(some 4), none, (.load1 (.tmp 3))⟩, []⟩, ⟨⟨(some 5), none, (.lenSl (.tmp 4))⟩, []⟩, ⟨⟨(some 6), none, (.bin .leq 3 (.tmp 5) (.const (.int .i64 20)))⟩, []⟩, ⟨⟨(some 7), none, (.mv (.tmp 6))⟩, []⟩, ⟨⟨(some 8), (some ⟨7, true⟩), (.fieldA 1 (.tmp 1))⟩, []⟩, ⟨⟨(some 9), (some ⟨7, true⟩), (.load1 (.tmp 8))⟩, []⟩, ⟨⟨(some 10), (some ⟨7, true⟩), (.lenSl (.tmp 9))⟩, []⟩, ⟨⟨(some 11), (some ⟨7, true⟩), (.bin .leq 3 (.tmp 10) (.const (.int .i64 20)))⟩, []⟩, ⟨⟨(some 12), none, (.pick (.tmp 7) (.tmp 11) (.const (.bool false)))⟩, []⟩, ⟨⟨(some 2), none, (.asg (.tmp 12))⟩, []⟩]) .ret))⟩
theorem f12 : (envOf Tryz.prog noCut noMemo).F 12 = some c12 := by kernel_rfl
noncomputable def c15 : CFunc := ⟨27, [(.cellN 2 4), (.cell1 5)], (.seq (.ops [2, 3, 4, 5] [⟨⟨(some 2), none, (.box (.tmp 0) 36)⟩, []⟩, ⟨⟨(some 3), none, (.box (.tmp 1) 36)⟩, []⟩, ⟨⟨(some 4), none, (.new [(.slice none 0 0), (.slice none 0 0)] 36)⟩, []⟩, ⟨⟨(some 5), none, (.new [(.int .i64 0)] 40)⟩, []⟩]) (.seq (.ops [] [⟨⟨none, none, (.dcall (.func 34) [(.tmp 5)])⟩, []⟩]) (.seq (.ops [8, 9, 10, 11, 12, 13, 14, 15, 16, 17, 18, 19, 20, 21, 22, 23, 6, 7] [⟨⟨(some 8), none, (.fieldA 0 (.tmp 2))⟩, []⟩, ⟨⟨(some 9), none, (.load1 (.tmp 8))⟩, []⟩, ⟨⟨(some 10), none, (.fieldA 0 (.tmp 3))⟩, []⟩, ⟨⟨(some 11), none, (.load1 (.tmp 10))⟩, []⟩, ⟨⟨(some 16), none, (.fieldA 1 (.tmp 2))⟩, []⟩, ⟨⟨(some 17), none, (.load1 (.tmp 16))⟩, []⟩, ⟨⟨(some 18), none, (.fieldA 1 (.tmp 3))⟩, []⟩, ⟨⟨(some 19), none, (.load1 (.tmp 18))⟩, []⟩, ⟨⟨(some 12), none, (.call (.func 36) [(.tmp 9), (.tmp 11)])⟩, [⟨(some 19), none, (.load1 (.tmp 18))⟩, ⟨(some 17), none, (.load1 (.tmp 16))⟩]⟩, ⟨⟨(some 13), none, (.extract (.tmp 12) 0)⟩, []⟩, ⟨⟨(some 14), none, (.extract (.tmp 12) 1)⟩, []⟩, ⟨⟨(some 15), none, (.call (.func 35) [(.tmp 13), (.tmp 14)])⟩, [⟨(some 19), none, (.load1 (.tmp 18))⟩, ⟨(some 17), none, (.load1 (.tmp 16))⟩]⟩, ⟨⟨(some 20), none, (.call (.func 36) [(.tmp 17), (.tmp 19)])⟩, []⟩, ⟨⟨(some 21), none, (.extract (.tmp 20) 0)⟩, []⟩, ⟨⟨(some 22), none, (.extract (.tmp 20) 1)⟩, []⟩, ⟨⟨(some 23), none, (.call (.func 35) [(.tmp 21), (.tmp 22)])⟩, []⟩, ⟨⟨(some 6), none, (.asg (.tmp 15))⟩, []⟩, ⟨⟨(some 7), none, (.asg (.tmp 23))⟩, []⟩]) (.seq (.ops [24, 25, 26] [⟨⟨(some 24), none, (.mv (.tmp 6))⟩, []⟩, ⟨⟨(some 25), none, (.mv (.tmp 7))⟩, []⟩, ⟨⟨(some 26), none, (.build [(.slice none 0 0), (.slice none 0 0)] [⟨0, ⟨1, (.tmp 24)⟩⟩, ⟨1, ⟨1, (.tmp 25)⟩⟩])⟩, []⟩, ⟨⟨none, none, (.store 2 (.tmp 4) (.tmp 26))⟩, []⟩, ⟨⟨none, none, (.store 1 (.tmp 5) (.const (.int .i64 0)))⟩, []⟩]) .ret))))⟩
theorem f15 : (envOf Tryz.prog noCut noMemo).F 15 = some c15 := by kernel_rfl
noncomputable def c16 : CFunc := ⟨36, [(.cellN 2 4), (.tmp 5)], (.seq (.ops [2, 3, 4, 5] [⟨⟨(some 2), none, (.box (.tmp 0) 36)⟩, []⟩, ⟨⟨(some 3), none, (.box (.tmp 1) 36)⟩, []⟩, ⟨⟨(some 4), none, (.new [(.slice none 0 0), (.slice none 0 0)] 36)⟩, []⟩, ⟨⟨(some 5), none, (.asg (.const (.int .i64 0)))⟩, []⟩]) (.seq (.ops [11, 12, 13, 14, 15, 10, 16, 17, 6, 7] [⟨⟨(some 11), none, (.fieldA 0 (.tmp 2))⟩, []⟩, ⟨⟨(some 12), none, (.load1 (.tmp 11))⟩, []⟩, ⟨⟨(some 13), none, (.fieldA 0 (.tmp 3))⟩, []⟩, ⟨⟨(some 14), none, (.load1 (.tmp 13))⟩, []⟩, ⟨⟨(some 15), none, (.call (.func 37) [(.tmp 12), (.tmp 14)])⟩, []⟩, ⟨⟨(some 10), none, (.mv (.tmp 15))⟩, []⟩, ⟨⟨(some 16), none, (.extract (.tmp 10) 0)⟩, []⟩, ⟨⟨(some 17), none, (.extract (.tmp 10) 1)⟩, []⟩, ⟨⟨(some 6), none, (.asg (.tmp 16))⟩, []⟩, ⟨⟨(some 7), none, (.asg (.tmp 17))⟩, []⟩]) (.seq (.ops [19, 20, 21, 22, 23, 18, 24, 25, 8, 9] [⟨⟨(some 19), none, (.fieldA 1 (.tmp 2))⟩, []⟩, ⟨⟨(some 20), none, (.load1 (.tmp 19))⟩, []⟩, ⟨⟨(some 21), none, (.fieldA 1 (.tmp 3))⟩, []⟩, ⟨⟨(some 22), none, (.load1 (.tmp 21))⟩, []⟩, ⟨⟨(some 23), none, (.call (.func 37) [(.tmp 20), (.tmp 22)])⟩, []⟩, ⟨⟨(some 18), none, (.mv (.tmp 23))⟩, []⟩, ⟨⟨(some 24), none, (.extract (.tmp 18) 0)⟩, []⟩, ⟨⟨(some 25), none, (.extract (.tmp 18) 1)⟩, []⟩, ⟨⟨(some 8), none, (.asg (.tmp 24))⟩, []⟩, ⟨⟨(some 9), none, (.asg (.tmp 25))⟩, []⟩]) (.seq (.seq (.ops [26, 27, 28, 29, 30, 31] [⟨⟨(some 26), none, (.mv (.tmp 7))⟩, []⟩, ⟨⟨(some 27), none, (.bin .neq 40 (.tmp 26) (.const (.int .i64 0)))⟩, []⟩, ⟨⟨(some 28), none, (.mv (.tmp 27))⟩, []⟩, ⟨⟨(some 29), (some ⟨28, false⟩), (.mv (.tmp 9))⟩, []⟩, ⟨⟨(some 30), (some ⟨28, false⟩), (.bin .neq 40 (.tmp 29) (.const (.int .i64 0)))⟩, []⟩, ⟨⟨(some 31), none, (.pick (.tmp 28) (.const (.bool true)) (.tmp 30))⟩, []⟩]) (.cond (.tmp 31) (.seq (.ops [32, 5] [⟨⟨(some 32), none, (.build [(.slice none 0 0), (.slice none 0 0)] [])⟩, []⟩, ⟨⟨none, none, (.store 2 (.tmp 4) (.tmp 32))⟩, []⟩, ⟨⟨(some 5), none, (.asg (.const (.int .i64 230)))⟩, []⟩]) .ret) .skip)) (.seq (.ops [33, 34, 35, 5] [⟨⟨(some 33), none, (.mv (.tmp 6))⟩, []⟩, ⟨⟨(some 34), none, (.mv (.tmp 8))⟩, []⟩, ⟨⟨(some 35), none, (.build [(.slice none 0 0), (.slice none 0 0)] [⟨0, ⟨1, (.tmp 33)⟩⟩, ⟨1, ⟨1, (.tmp 34)⟩⟩])⟩, []⟩, ⟨⟨none, none, (.store 2 (.tmp 4) (.tmp 35))⟩, []⟩, ⟨⟨(some 5), none, (.asg (.const (.int .i64 0)))⟩, []⟩]) .ret)))))⟩
theorem f16 : (envOf Tryz.prog noCut noMemo).F 16 = some c16 := by kernel_rfl
noncomputable def c17 : CFunc := ⟨21, [(.cellN 2 2), (.cell1 3)], (.seq (.ops [1, 2, 3] [⟨⟨(some 1), none, (.box (.tmp 0) 36)⟩, []⟩, ⟨⟨(some 2), none, (.new [(.slice none 0 0), (.slice none 0 0)] 36)⟩, []⟩, ⟨⟨(some 3), none, (.new [(.int .i64 0)] 40)⟩, []⟩]) (.seq (.ops [] [⟨⟨none, none, (.dcall (.func 34) [(.tmp 3)])⟩, []⟩]) (.seq (.ops [6, 7, 8, 9, 10, 11, 12, 13, 14, 15, 16, 17, 4, 5] [⟨⟨(some 6), none, (.fieldA 0 (.tmp 1))⟩, []⟩, ⟨⟨(some 7), none, (.load1 (.tmp 6))⟩, []⟩, ⟨⟨(some 12), none, (.fieldA 1 (.tmp 1))⟩, []⟩, ⟨⟨(some 13), none, (.load1 (.tmp 12))⟩, []⟩, ⟨⟨(some 8), none, (.call (.func 38) [(.tmp 7)])⟩, [⟨(some 13), none, (.load1 (.tmp 12))⟩]⟩, ⟨⟨(some 9), none, (.extract (.tmp 8) 0)⟩, []⟩, ⟨⟨(some 10), none, (.extract (.tmp 8) 1)⟩, []⟩, ⟨⟨(some 11), none, (.call (.func 35) [(.tmp 9), (.tmp 10)])⟩, [⟨(some 13), none, (.load1 (.tmp 12))⟩]⟩, ⟨⟨(some 14), none, (.call (.func 38) [(.tmp 13)])⟩, []⟩, ⟨⟨(some 15), none, (.extract (.tmp 14) 0)⟩, []⟩, ⟨⟨(some 16), none, (.extract (.tmp 14) 1)⟩, []⟩, ⟨⟨(some 17), none, (.call (.func 35) [(.tmp 15), (.tmp 16)])⟩, []⟩, ⟨⟨(some 4), none, (.asg (.tmp 11))⟩, []⟩, ⟨⟨(some 5), none, (.asg (.tmp 17))⟩, []⟩]) (.seq (.ops [18, 19, 20] [⟨⟨(some 18), none, (.mv (.tmp 4))⟩, []⟩, ⟨⟨(some 19), none, (.mv (.tmp 5))⟩, []⟩, ⟨⟨(some 20), none, (.build [(.slice none 0 0), (.slice none 0 0)] [⟨0, ⟨1, (.tmp 18)⟩⟩, ⟨1, ⟨1, (.tmp 19)⟩⟩])⟩, []⟩, ⟨⟨none, none, (.store 2 (.tmp 2) (.tmp 20))⟩, []⟩, ⟨⟨none, none, (.store 1 (.tmp 3) (.const (.int .i64 0)))⟩, []⟩]) .ret))))⟩
theorem f17 : (envOf Tryz.prog noCut noMemo).F 17 = some c17 := by kernel_rfl
noncomputable def c18 : CFunc := ⟨30, [(.cellN 2 2), (.tmp 3)], (.seq (.ops [1, 2, 3] [⟨⟨(some 1), none, (.box (.tmp 0) 36)⟩, []⟩, ⟨⟨(some 2), none, (.new [(.slice none 0 0), (.slice none 0 0)] 36)⟩, []⟩, ⟨⟨(some 3), none, (.asg (.const (.int .i64 0)))⟩, []⟩]) (.seq (.ops [9, 10, 11, 8, 12, 13, 4, 5] [⟨⟨(some 9), none, (.fieldA 0 (.tmp 1))⟩, []⟩, ⟨⟨(some 10), none, (.load1 (.tmp 9))⟩, []⟩, ⟨⟨(some 11), none, (.call (.func 39) [(.tmp 10)])⟩, []⟩, ⟨⟨(some 8), none, (.mv (.tmp 11))⟩, []⟩, ⟨⟨(some 12), none, (.extract (.tmp 8) 0)⟩, []⟩, ⟨⟨(some 13), none, (.extract (.tmp 8) 1)⟩, []⟩, ⟨⟨(some 4), none, (.asg (.tmp 12))⟩, []⟩, ⟨⟨(some 5), none, (.asg (.tmp 13))⟩, []⟩]) (.seq (.ops [15, 16, 17, 14, 18, 19, 6, 7] [⟨⟨(some 15), none, (.fieldA 1 (.tmp 1))⟩, []⟩, ⟨⟨(some 16), none, (.load1 (.tmp 15))⟩, []⟩, ⟨⟨(some 17), none, (.call (.func 39) [(.tmp 16)])⟩, []⟩, ⟨⟨(some 14), none, (.mv (.tmp 17))⟩, []⟩, ⟨⟨(some 18), none, (.extract (.tmp 14) 0)⟩, []⟩, ⟨⟨(some 19), none, (.extract (.tmp 14) 1)⟩, []⟩, ⟨⟨(some 6), none, (.asg (.tmp 18))⟩, []⟩, ⟨⟨(some 7), none, (.asg (.tmp 19))⟩, []⟩]) (.seq (.seq (.ops [20, 21, 22, 23, 24, 25] [⟨⟨(some 20), none, (.mv (.tmp 5))⟩, []⟩, ⟨⟨(some 21), none, (.bin .neq 40 (.tmp 20) (.const (.int .i64 0)))⟩, []⟩, ⟨⟨(some 22), none, (.mv (.tmp 21))⟩, []⟩, ⟨⟨(some 23), (some ⟨22, false⟩), (.mv (.tmp 7))⟩, []⟩, ⟨⟨(some 24), (some ⟨22, false⟩), (.bin .neq 40 (.tmp 23) (.const (.int .i64 0)))⟩, []⟩, ⟨⟨(some 25), none, (.pick (.tmp 22) (.const (.bool true)) (.tmp 24))⟩, []⟩]) (.cond (.tmp 25) (.seq (.ops [26, 3] [⟨⟨(some 26), none, (.build [(.slice none 0 0), (.slice none 0 0)] [])⟩, []⟩, ⟨⟨none, none, (.store 2 (.tmp 2) (.tmp 26))⟩, []⟩, ⟨⟨(some 3), none, (.asg (.const (.int .i64 230)))⟩, []⟩]) .ret) .skip)) (.seq (.ops [27, 28, 29, 3] [⟨⟨(some 27), none, (.mv (.tmp 4))⟩, []⟩, ⟨⟨(some 28), none, (.mv (.tmp 6))⟩, []⟩, ⟨⟨(some 29), none, (.build [(.slice none 0 0), (.slice none 0 0)] [⟨0, ⟨1, (.tmp 27)⟩⟩, ⟨1, ⟨1, (.tmp 28)⟩⟩])⟩, []⟩, ⟨⟨none, none, (.store 2 (.tmp 2) (.tmp 29))⟩, []⟩, ⟨⟨(some 3), none, (.asg (.const (.int .i64 0)))⟩, []⟩]) .ret)))))⟩
theorem f18 : (envOf Tryz.prog noCut noMemo).F 18 = some c18 := by kernel_rfl
noncomputable def c19 : CFunc := ⟨17, [(.tmp 4)], (.seq (.ops [2, 3, 4] [⟨⟨(some 2), none, (.box (.tmp 0) 36)⟩, []⟩, ⟨⟨(some 3), none, (.box (.tmp 1) 36)⟩, []⟩, ⟨⟨(some 4), none, (.asg (.const (.bool false)))⟩, []⟩]) (.seq (.ops [5, 6, 7, 8, 9, 10, 11, 12, 13, 14, 15, 16, 4] [⟨⟨(some 5), none, (.fieldA 0 (.tmp 2))⟩, []⟩, ⟨⟨(some 6), none, (.load1 (.tmp 5))⟩, []⟩, ⟨⟨(some 7), none, (.fieldA 0 (.tmp 3))⟩, []⟩, ⟨⟨(some 8), none, (.load1 (.tmp 7))⟩, []⟩, ⟨⟨(some 9), none, (.call (.func 25) [(.tmp 6), (.tmp 8)])⟩, []⟩, ⟨⟨(some 10), none, (.mv (.tmp 9))⟩, []⟩, ⟨⟨(some 11), (some ⟨10, true⟩), (.fieldA 1 (.tmp 2))⟩, []⟩, ⟨⟨(some 12), (some ⟨10, true⟩), (.load1 (.tmp 11))⟩, []⟩, ⟨⟨(some 13), (some ⟨10, true⟩), (.fieldA 1 (.tmp 3))⟩, []⟩, ⟨⟨(some 14), (some ⟨10, true⟩), (.load1 (.tmp 13))⟩, []⟩, ⟨⟨(some 15), (some ⟨10, true⟩), (.call (.func 25) [(.tmp 12), (.tmp 14)])⟩, []⟩, ⟨⟨(some 16), none, (.pick (.tmp 10) (.tmp 15) (.const (.bool false)))⟩, []⟩, ⟨⟨(some 4), none, (.asg (.tmp 16))⟩, []⟩]) .ret))⟩
theorem f19 : (envOf Tryz.prog noCut noMemo).F 19 = some c19 := by kernel_rfl

abbrev ptr (b : Nat) : Value := .pointer (some ⟨b, 0, none⟩)

theorem resI_cellN {l : List (Nat × Value)} {h : IH} {a b m : Nat} {cs : List Value} (hl : lk l a = ptr b) (hat : At h b (.cells cs)) (hc : ltake (ldrop cs 0) m = some cs) : resI (envT l) h (.cellN m a) = some (.agg ⟨cs⟩) := by
  simp only [resI, tget_envT, hl]
  rw [hat.cellsAt hc]
theorem resI_cell1 {l : List (Nat × Value)} {h : IH} {a b : Nat} {v : Value} (hl : lk l a = ptr b) (hat : At h b (.cells [v])) : resI (envT l) h (.cell1 a) = some v := by
  simp only [resI, tget_envT, hl, hat.2]; rfl
theorem resI_tmp {l : List (Nat × Value)} {h : IH} {a : Nat} : resI (envT l) h (.tmp a) = some (lk l a) := by
  simp only [resI, tget_envT]
theorem results2 {ts : T Value} {h : IH} {r1 r2 : CRes} {v1 v2 : Value} (h1 : resI ts h r1 = some v1) (h2 : resI ts h r2 = some v2) : resultsI [r1, r2] ts h = some (.tuple ⟨[v1, v2]⟩) := by
  have e : resAll ts h [r1, r2] = some [v1, v2] := by
    show (match resI ts h r1, (match resI ts h r2, (some [] : Option (List Value)) with
      | some v, some vs => some (v :: vs)
      | _, _ => none) with
      | some v, some vs => some (v :: vs)
      | _, _ => none) = _
    rw [h1, h2]
  simp only [resultsI, e]

theorem leave_pan2 {cf : CFunc} {a e b4 b5 : Nat} {l' : List (Nat × Value)} {h' : IH} {v1 v2 : Value} {e0 : Int} (hr : cf.results = [.cellN 2 a, .cell1 e]) (h4 : lk l' a = ptr b4) (h5 : lk l' e = ptr b5)
    (A4 : At h' b4 (.cells [v1, v2])) (A5 : At h' b5 (.cells [.int .i64 e0])) (hne : b4 ≠ b5) {K : Ret → IH → Prop}
    (hk : ∀ h'', Turn h' h'' b5 (.cells [.int .i64 230]) → K (.ok (.tuple ⟨[.agg ⟨[v1, v2]⟩, .int .i64 230]⟩)) h'') :
    LEAVE Tryz.prog cf (envT l') [{ target := .fn (.func 34) ⟨[]⟩, args := ⟨[ptr b5]⟩ }] (.panicking [{ v := .iface 40 (.int .i64 230), recovered := false }]) h' K := by
  refine .call (by simp) _ (caught_pan A5) ?_ ?_ ?_
  · rintro r pm h2 ⟨rfl, _⟩; simp
  · rintro v m2 h2 ⟨hm, hT, _⟩
    cases hm
    refine .ret _ ?_ (hk h2 hT)
    rw [hr]
    exact results2 (resI_cellN h4 (A4.turn hT hne) rfl) (resI_cell1 h5 hT.at_)
  · rintro ch m2 h2 ⟨_, _, v, hv⟩; cases hv

theorem leave_ret2 {cf : CFunc} {a e b4 b5 : Nat} {l' : List (Nat × Value)} {h' : IH} {v1 v2 : Value} {e0 : Int} (hr : cf.results = [.cellN 2 a, .cell1 e]) (h4 : lk l' a = ptr b4) (h5 : lk l' e = ptr b5)
    (A4 : At h' b4 (.cells [v1, v2])) (A5 : At h' b5 (.cells [.int .i64 e0])) {K : Ret → IH → Prop}
    (hk : K (.ok (.tuple ⟨[.agg ⟨[v1, v2]⟩, .int .i64 e0]⟩)) h') :
    LEAVE Tryz.prog cf (envT l') [{ target := .fn (.func 34) ⟨[]⟩, args := ⟨[ptr b5]⟩ }] .returning h' K := by
  refine .call (by simp) _ caught_ret ?_ ?_ ?_
  · rintro r pm h2 ⟨rfl, _⟩; simp
  · rintro v m2 h2 ⟨hm, rfl, _⟩
    cases hm
    refine .ret _ ?_ hk
    rw [hr]
    exact results2 (resI_cellN h4 A4 rfl) (resI_cell1 h5 A5)
  · rintro ch m2 h2 ⟨_, _, v, hv⟩; cases hv

theorem run_load1 {P : Program} {l : List (Nat × Value)} {h : IH} {x : Operand} {b o : Nat} {cs : List Value} {v : Value} (hx : ev l x = .pointer (some ⟨b, o, none⟩)) (ha : At h b (.cells cs)) (hv : cs[o]? = some v) :
    (COp.load1 x).run P (ev l) h = some (v, h) := by simp only [COp.run, hx, ha.c.read1, hv]

def leaveK (P : Program) (cf : CFunc) (K : KR) : KO := fun o a h' => match modeOf o with
  | none => False
  | some m => LEAVE P cf a.tmps a.defers m h' fun r h'' => K r a.pm h''

theorem c_defersF {f : FuncId} {args : List Value} {h : IH} {K : KR} (cf : CFunc) (hF : (envOf Tryz.prog noCut noMemo).F f = some cf)
    (hb : EV Tryz.prog cf.body (initAct cf.ntmps (args ++ []) none) h (leaveK Tryz.prog cf K)) : CALL Tryz.prog ⟨.func f, args, [], none⟩ h K := by
  obtain ⟨fn, h1, h2⟩ := (envOf_ok Tryz.prog noCut noMemo (fun f q h v h' hm => by cases hm)).fn f cf hF
  exact c_defers cf fn h1 h2 hb

theorem l_ret {cf : CFunc} {K : KR} {n : Nat} {l : List (Nat × Value)} {D : List Deferred} {h : IH} (k : LEAVE Tryz.prog cf (envT l) D .returning h fun r h'' => K r none h'') : leaveK Tryz.prog cf K .ret (act n l D none none) h := k
theorem l_pan {cf : CFunc} {K : KR} {n : Nat} {l : List (Nat × Value)} {D : List Deferred} {h : IH} {ch : List PanicEntry} (k : LEAVE Tryz.prog cf (envT l) D (.panicking ch) h fun r h'' => K r none h'') : leaveK Tryz.prog cf K (.panic ch) (act n l D none none) h := k

/-- a symmetry: cells and symbols -/
def SymAt (h : IH) (v : Value) (c s : List Int) : Prop := ∃ vc vs, v = .agg ⟨[vc, vs]⟩ ∧ IntsAt h vc c ∧ IntsAt h vs s

theorem SymAt.agree {h h' : IH} {v : Value} {c s : List Int} (a : SymAt h v c s) (g : Agree h h') : SymAt h' v c s := by
  obtain ⟨vc, vs, e, h1, h2⟩ := a
  exact ⟨vc, vs, e, h1.agree g, h2.agree g⟩

def SymK (h : IH) (res : (List Int × List Int) × Int) : KR := fun r pm h' => pm = none ∧ (∃ v, r = .ok (.tuple ⟨[v, .int .i64 res.2]⟩) ∧ SymAt h' v res.1.1 res.1.2) ∧ Agree h h'

def both (c d : List Int × Int) : (List Int × List Int) × Int := if c.2 = 0 ∧ d.2 = 0 then ((c.1, d.1), 0) else (([], []), 230)

theorem few_ok {h : IH} {v : Value} {c s : List Int} (hs : SymAt h v c s) :
    CALL Tryz.prog ⟨.func 12, [v], [], none⟩ h (fun r pm h' => pm = none ∧ r = .ok (.bool (decide (c.length ≤ 20 ∧ s.length ≤ 20))) ∧ Agree h h') := by
  obtain ⟨vc, vs, rfl, hc, hsy⟩ := hs
  obtain ⟨a0, c0, rfl⟩ := hc.form
  obtain ⟨b0, d0, rfl⟩ := hsy.form
  refine c_fn c12 f12 ?_
  show EV _ _ (act 13 [(0, .agg ⟨[.slice a0 c.length c0, .slice b0 s.length d0]⟩)] [] none none) h _
  refine w_seq (.ops ?_)
  refine s_box rfl rfl rfl ?_
  intro h1 hA1 hb1 hn1
  repeat (first | refine s_skip rfl rfl ?_ | refine s_mv rfl rfl (by conv => lhs; whnf) ?_ | refine s_asg rfl rfl (by conv => lhs; whnf) ?_ | refine s_len rfl rfl rfl ?_ | refine s_lss rfl rfl rfl rfl ?_ | refine s_leq rfl rfl rfl rfl ?_ | refine s_gtr rfl rfl rfl rfl ?_ | refine s_geq rfl rfl rfl rfl ?_ | refine s_eql rfl rfl rfl rfl ?_ | refine s_neq rfl rfl rfl rfl ?_ | refine s_not rfl rfl rfl ?_ | refine s_pickT rfl rfl rfl (by conv => lhs; whnf) ?_ | refine s_pickF rfl rfl rfl (by conv => lhs; whnf) ?_ | refine s_extract rfl rfl rfl rfl ?_ | refine s_fieldA rfl rfl rfl ?_ | refine s_iface rfl rfl (by conv => lhs; whnf) ?_ | refine s_build rfl rfl rfl ?_)
  refine OPS.nil ?_
  repeat (first | with_reducible refine k_sn ?_ | with_reducible refine k_sr ?_ | with_reducible refine k_se ?_ | with_reducible refine k_bn ?_ | with_reducible refine k_br ?_ | with_reducible refine k_lr ?_ | with_reducible refine k_le ?_ | with_reducible refine k_sp ?_ | with_reducible refine k_bp ?_ | with_reducible refine k_lp ?_ | (with_reducible refine k_be ?_ ?_; exact rfl) | (with_reducible refine k_bf ?_ ?_; exact rfl))
  refine w_seq (.ops ?_)
  repeat (first | refine s_skip rfl rfl ?_ | refine s_mv rfl rfl (by conv => lhs; whnf) ?_ | refine s_asg rfl rfl (by conv => lhs; whnf) ?_ | refine s_len rfl rfl rfl ?_ | refine s_lss rfl rfl rfl rfl ?_ | refine s_leq rfl rfl rfl rfl ?_ | refine s_gtr rfl rfl rfl rfl ?_ | refine s_geq rfl rfl rfl rfl ?_ | refine s_eql rfl rfl rfl rfl ?_ | refine s_neq rfl rfl rfl rfl ?_ | refine s_not rfl rfl rfl ?_ | refine s_pickT rfl rfl rfl (by conv => lhs; whnf) ?_ | refine s_pickF rfl rfl rfl (by conv => lhs; whnf) ?_ | refine s_extract rfl rfl rfl rfl ?_ | refine s_fieldA rfl rfl rfl ?_ | refine s_iface rfl rfl (by conv => lhs; whnf) ?_ | refine s_build rfl rfl rfl ?_)
  refine s_load1 rfl rfl rfl hb1 rfl ?_
  repeat (first | refine s_skip rfl rfl ?_ | refine s_mv rfl rfl (by conv => lhs; whnf) ?_ | refine s_asg rfl rfl (by conv => lhs; whnf) ?_ | refine s_len rfl rfl rfl ?_ | refine s_lss rfl rfl rfl rfl ?_ | refine s_leq rfl rfl rfl rfl ?_ | refine s_gtr rfl rfl rfl rfl ?_ | refine s_geq rfl rfl rfl rfl ?_ | refine s_eql rfl rfl rfl rfl ?_ | refine s_neq rfl rfl rfl rfl ?_ | refine s_not rfl rfl rfl ?_ | refine s_pickT rfl rfl rfl (by conv => lhs; whnf) ?_ | refine s_pickF rfl rfl rfl (by conv => lhs; whnf) ?_ | refine s_extract rfl rfl rfl rfl ?_ | refine s_fieldA rfl rfl rfl ?_ | refine s_iface rfl rfl (by conv => lhs; whnf) ?_ | refine s_build rfl rfl rfl ?_)
  by_cases h0 : (c.length : Int) ≤ 20
  · rw [decide_eq_true h0]
    repeat (first | refine s_skip rfl rfl ?_ | refine s_mv rfl rfl (by conv => lhs; whnf) ?_ | refine s_asg rfl rfl (by conv => lhs; whnf) ?_ | refine s_len rfl rfl rfl ?_ | refine s_lss rfl rfl rfl rfl ?_ | refine s_leq rfl rfl rfl rfl ?_ | refine s_gtr rfl rfl rfl rfl ?_ | refine s_geq rfl rfl rfl rfl ?_ | refine s_eql rfl rfl rfl rfl ?_ | refine s_neq rfl rfl rfl rfl ?_ | refine s_not rfl rfl rfl ?_ | refine s_pickT rfl rfl rfl (by conv => lhs; whnf) ?_ | refine s_pickF rfl rfl rfl (by conv => lhs; whnf) ?_ | refine s_extract rfl rfl rfl rfl ?_ | refine s_fieldA rfl rfl rfl ?_ | refine s_iface rfl rfl (by conv => lhs; whnf) ?_ | refine s_build rfl rfl rfl ?_)
    refine s_load1 rfl rfl rfl hb1 rfl ?_
    repeat (first | refine s_skip rfl rfl ?_ | refine s_mv rfl rfl (by conv => lhs; whnf) ?_ | refine s_asg rfl rfl (by conv => lhs; whnf) ?_ | refine s_len rfl rfl rfl ?_ | refine s_lss rfl rfl rfl rfl ?_ | refine s_leq rfl rfl rfl rfl ?_ | refine s_gtr rfl rfl rfl rfl ?_ | refine s_geq rfl rfl rfl rfl ?_ | refine s_eql rfl rfl rfl rfl ?_ | refine s_neq rfl rfl rfl rfl ?_ | refine s_not rfl rfl rfl ?_ | refine s_pickT rfl rfl rfl (by conv => lhs; whnf) ?_ | refine s_pickF rfl rfl rfl (by conv => lhs; whnf) ?_ | refine s_extract rfl rfl rfl rfl ?_ | refine s_fieldA rfl rfl rfl ?_ | refine s_iface rfl rfl (by conv => lhs; whnf) ?_ | refine s_build rfl rfl rfl ?_)
    refine OPS.nil ?_
    repeat (first | with_reducible refine k_sn ?_ | with_reducible refine k_sr ?_ | with_reducible refine k_se ?_ | with_reducible refine k_bn ?_ | with_reducible refine k_br ?_ | with_reducible refine k_lr ?_ | with_reducible refine k_le ?_ | with_reducible refine k_sp ?_ | with_reducible refine k_bp ?_ | with_reducible refine k_lp ?_ | (with_reducible refine k_be ?_ ?_; exact rfl) | (with_reducible refine k_bf ?_ ?_; exact rfl))
    refine EV.ret ?_
    repeat (first | with_reducible refine k_sn ?_ | with_reducible refine k_sr ?_ | with_reducible refine k_se ?_ | with_reducible refine k_bn ?_ | with_reducible refine k_br ?_ | with_reducible refine k_lr ?_ | with_reducible refine k_le ?_ | with_reducible refine k_sp ?_ | with_reducible refine k_bp ?_ | with_reducible refine k_lp ?_ | (with_reducible refine k_be ?_ ?_; exact rfl) | (with_reducible refine k_bf ?_ ?_; exact rfl))
    refine r_tmp 2 rfl (by conv => lhs; whnf) ⟨rfl, ?_, hA1⟩
    have : decide ((s.length : Int) ≤ 20) = decide (c.length ≤ 20 ∧ s.length ≤ 20) := by rw [decide_eq_decide]; omega
    rw [this]
  · rw [decide_eq_false h0]
    repeat (first | refine s_skip rfl rfl ?_ | refine s_mv rfl rfl (by conv => lhs; whnf) ?_ | refine s_asg rfl rfl (by conv => lhs; whnf) ?_ | refine s_len rfl rfl rfl ?_ | refine s_lss rfl rfl rfl rfl ?_ | refine s_leq rfl rfl rfl rfl ?_ | refine s_gtr rfl rfl rfl rfl ?_ | refine s_geq rfl rfl rfl rfl ?_ | refine s_eql rfl rfl rfl rfl ?_ | refine s_neq rfl rfl rfl rfl ?_ | refine s_not rfl rfl rfl ?_ | refine s_pickT rfl rfl rfl (by conv => lhs; whnf) ?_ | refine s_pickF rfl rfl rfl (by conv => lhs; whnf) ?_ | refine s_extract rfl rfl rfl rfl ?_ | refine s_fieldA rfl rfl rfl ?_ | refine s_iface rfl rfl (by conv => lhs; whnf) ?_ | refine s_build rfl rfl rfl ?_)
    refine OPS.nil ?_
    repeat (first | with_reducible refine k_sn ?_ | with_reducible refine k_sr ?_ | with_reducible refine k_se ?_ | with_reducible refine k_bn ?_ | with_reducible refine k_br ?_ | with_reducible refine k_lr ?_ | with_reducible refine k_le ?_ | with_reducible refine k_sp ?_ | with_reducible refine k_bp ?_ | with_reducible refine k_lp ?_ | (with_reducible refine k_be ?_ ?_; exact rfl) | (with_reducible refine k_bf ?_ ?_; exact rfl))
    refine EV.ret ?_
    repeat (first | with_reducible refine k_sn ?_ | with_reducible refine k_sr ?_ | with_reducible refine k_se ?_ | with_reducible refine k_bn ?_ | with_reducible refine k_br ?_ | with_reducible refine k_lr ?_ | with_reducible refine k_le ?_ | with_reducible refine k_sp ?_ | with_reducible refine k_bp ?_ | with_reducible refine k_lp ?_ | (with_reducible refine k_be ?_ ?_; exact rfl) | (with_reducible refine k_bf ?_ ?_; exact rfl))
    refine r_tmp 2 rfl (by conv => lhs; whnf) ⟨rfl, ?_, hA1⟩
    rw [show decide (c.length ≤ 20 ∧ s.length ≤ 20) = false from decide_eq_false (by omega)]

theorem symsame_ok {h : IH} {v w : Value} {c s c' s' : List Int} (hv : SymAt h v c s) (hw : SymAt h w c' s') (hc : c.length ≤ 1000000) (hs : s.length ≤ 1000000) :
    CALL Tryz.prog ⟨.func 19, [v, w], [], none⟩ h (fun r pm h' => pm = none ∧ r = .ok (.bool (decide (c = c' ∧ s = s'))) ∧ Agree h h') := by
  obtain ⟨vc, vs, rfl, hvc, hvs⟩ := hv
  obtain ⟨wc, ws, rfl, hwc, hws⟩ := hw
  refine c_fn c19 f19 ?_
  show EV _ _ (act 17 [(1, .agg ⟨[wc, ws]⟩), (0, .agg ⟨[vc, vs]⟩)] [] none none) h _
  refine w_seq (.ops ?_)
  refine s_box rfl rfl rfl ?_
  intro h1 hA1 hb1 hn1
  refine s_box rfl rfl rfl ?_
  intro h2 hA2 hb2 hn2
  repeat (first | refine s_skip rfl rfl ?_ | refine s_mv rfl rfl (by conv => lhs; whnf) ?_ | refine s_asg rfl rfl (by conv => lhs; whnf) ?_ | refine s_len rfl rfl rfl ?_ | refine s_lss rfl rfl rfl rfl ?_ | refine s_leq rfl rfl rfl rfl ?_ | refine s_gtr rfl rfl rfl rfl ?_ | refine s_geq rfl rfl rfl rfl ?_ | refine s_eql rfl rfl rfl rfl ?_ | refine s_neq rfl rfl rfl rfl ?_ | refine s_not rfl rfl rfl ?_ | refine s_pickT rfl rfl rfl (by conv => lhs; whnf) ?_ | refine s_pickF rfl rfl rfl (by conv => lhs; whnf) ?_ | refine s_extract rfl rfl rfl rfl ?_ | refine s_fieldA rfl rfl rfl ?_ | refine s_iface rfl rfl (by conv => lhs; whnf) ?_ | refine s_build rfl rfl rfl ?_)
  refine OPS.nil ?_
  repeat (first | with_reducible refine k_sn ?_ | with_reducible refine k_sr ?_ | with_reducible refine k_se ?_ | with_reducible refine k_bn ?_ | with_reducible refine k_br ?_ | with_reducible refine k_lr ?_ | with_reducible refine k_le ?_ | with_reducible refine k_sp ?_ | with_reducible refine k_bp ?_ | with_reducible refine k_lp ?_ | (with_reducible refine k_be ?_ ?_; exact rfl) | (with_reducible refine k_bf ?_ ?_; exact rfl))
  have G := hA1.trans hA2
  refine w_seq (.ops ?_)
  repeat (first | refine s_skip rfl rfl ?_ | refine s_mv rfl rfl (by conv => lhs; whnf) ?_ | refine s_asg rfl rfl (by conv => lhs; whnf) ?_ | refine s_len rfl rfl rfl ?_ | refine s_lss rfl rfl rfl rfl ?_ | refine s_leq rfl rfl rfl rfl ?_ | refine s_gtr rfl rfl rfl rfl ?_ | refine s_geq rfl rfl rfl rfl ?_ | refine s_eql rfl rfl rfl rfl ?_ | refine s_neq rfl rfl rfl rfl ?_ | refine s_not rfl rfl rfl ?_ | refine s_pickT rfl rfl rfl (by conv => lhs; whnf) ?_ | refine s_pickF rfl rfl rfl (by conv => lhs; whnf) ?_ | refine s_extract rfl rfl rfl rfl ?_ | refine s_fieldA rfl rfl rfl ?_ | refine s_iface rfl rfl (by conv => lhs; whnf) ?_ | refine s_build rfl rfl rfl ?_)
  refine s_load1 rfl rfl rfl (hb1.agree hA2) rfl ?_
  repeat (first | refine s_skip rfl rfl ?_ | refine s_mv rfl rfl (by conv => lhs; whnf) ?_ | refine s_asg rfl rfl (by conv => lhs; whnf) ?_ | refine s_len rfl rfl rfl ?_ | refine s_lss rfl rfl rfl rfl ?_ | refine s_leq rfl rfl rfl rfl ?_ | refine s_gtr rfl rfl rfl rfl ?_ | refine s_geq rfl rfl rfl rfl ?_ | refine s_eql rfl rfl rfl rfl ?_ | refine s_neq rfl rfl rfl rfl ?_ | refine s_not rfl rfl rfl ?_ | refine s_pickT rfl rfl rfl (by conv => lhs; whnf) ?_ | refine s_pickF rfl rfl rfl (by conv => lhs; whnf) ?_ | refine s_extract rfl rfl rfl rfl ?_ | refine s_fieldA rfl rfl rfl ?_ | refine s_iface rfl rfl (by conv => lhs; whnf) ?_ | refine s_build rfl rfl rfl ?_)
  refine s_load1 rfl rfl rfl hb2 rfl ?_
  refine s_call rfl rfl (.func 25) rfl _ (same_ok (hvc.agree G) (hwc.agree G) hc) (fun _ _ _ r hr => by cases hr) ?_ (fun ch h' hm => by cases hm.2.1) (fun r p h' hm => hm.1)
  rintro v h3 ⟨_, hv, rfl⟩
  cases hv
  repeat (first | refine s_skip rfl rfl ?_ | refine s_mv rfl rfl (by conv => lhs; whnf) ?_ | refine s_asg rfl rfl (by conv => lhs; whnf) ?_ | refine s_len rfl rfl rfl ?_ | refine s_lss rfl rfl rfl rfl ?_ | refine s_leq rfl rfl rfl rfl ?_ | refine s_gtr rfl rfl rfl rfl ?_ | refine s_geq rfl rfl rfl rfl ?_ | refine s_eql rfl rfl rfl rfl ?_ | refine s_neq rfl rfl rfl rfl ?_ | refine s_not rfl rfl rfl ?_ | refine s_pickT rfl rfl rfl (by conv => lhs; whnf) ?_ | refine s_pickF rfl rfl rfl (by conv => lhs; whnf) ?_ | refine s_extract rfl rfl rfl rfl ?_ | refine s_fieldA rfl rfl rfl ?_ | refine s_iface rfl rfl (by conv => lhs; whnf) ?_ | refine s_build rfl rfl rfl ?_)
  by_cases e : c = c'
  · rw [decide_eq_true e]
    repeat (first | refine s_skip rfl rfl ?_ | refine s_mv rfl rfl (by conv => lhs; whnf) ?_ | refine s_asg rfl rfl (by conv => lhs; whnf) ?_ | refine s_len rfl rfl rfl ?_ | refine s_lss rfl rfl rfl rfl ?_ | refine s_leq rfl rfl rfl rfl ?_ | refine s_gtr rfl rfl rfl rfl ?_ | refine s_geq rfl rfl rfl rfl ?_ | refine s_eql rfl rfl rfl rfl ?_ | refine s_neq rfl rfl rfl rfl ?_ | refine s_not rfl rfl rfl ?_ | refine s_pickT rfl rfl rfl (by conv => lhs; whnf) ?_ | refine s_pickF rfl rfl rfl (by conv => lhs; whnf) ?_ | refine s_extract rfl rfl rfl rfl ?_ | refine s_fieldA rfl rfl rfl ?_ | refine s_iface rfl rfl (by conv => lhs; whnf) ?_ | refine s_build rfl rfl rfl ?_)
    refine s_load1 rfl rfl rfl (hb1.agree hA2) rfl ?_
    repeat (first | refine s_skip rfl rfl ?_ | refine s_mv rfl rfl (by conv => lhs; whnf) ?_ | refine s_asg rfl rfl (by conv => lhs; whnf) ?_ | refine s_len rfl rfl rfl ?_ | refine s_lss rfl rfl rfl rfl ?_ | refine s_leq rfl rfl rfl rfl ?_ | refine s_gtr rfl rfl rfl rfl ?_ | refine s_geq rfl rfl rfl rfl ?_ | refine s_eql rfl rfl rfl rfl ?_ | refine s_neq rfl rfl rfl rfl ?_ | refine s_not rfl rfl rfl ?_ | refine s_pickT rfl rfl rfl (by conv => lhs; whnf) ?_ | refine s_pickF rfl rfl rfl (by conv => lhs; whnf) ?_ | refine s_extract rfl rfl rfl rfl ?_ | refine s_fieldA rfl rfl rfl ?_ | refine s_iface rfl rfl (by conv => lhs; whnf) ?_ | refine s_build rfl rfl rfl ?_)
    refine s_load1 rfl rfl rfl hb2 rfl ?_
    refine s_call rfl rfl (.func 25) rfl _ (same_ok (hvs.agree G) (hws.agree G) hs) (fun _ _ _ r hr => by cases hr) ?_ (fun ch h' hm => by cases hm.2.1) (fun r p h' hm => hm.1)
    rintro v h3 ⟨_, hv, rfl⟩
    cases hv
    repeat (first | refine s_skip rfl rfl ?_ | refine s_mv rfl rfl (by conv => lhs; whnf) ?_ | refine s_asg rfl rfl (by conv => lhs; whnf) ?_ | refine s_len rfl rfl rfl ?_ | refine s_lss rfl rfl rfl rfl ?_ | refine s_leq rfl rfl rfl rfl ?_ | refine s_gtr rfl rfl rfl rfl ?_ | refine s_geq rfl rfl rfl rfl ?_ | refine s_eql rfl rfl rfl rfl ?_ | refine s_neq rfl rfl rfl rfl ?_ | refine s_not rfl rfl rfl ?_ | refine s_pickT rfl rfl rfl (by conv => lhs; whnf) ?_ | refine s_pickF rfl rfl rfl (by conv => lhs; whnf) ?_ | refine s_extract rfl rfl rfl rfl ?_ | refine s_fieldA rfl rfl rfl ?_ | refine s_iface rfl rfl (by conv => lhs; whnf) ?_ | refine s_build rfl rfl rfl ?_)
    refine OPS.nil ?_
    repeat (first | with_reducible refine k_sn ?_ | with_reducible refine k_sr ?_ | with_reducible refine k_se ?_ | with_reducible refine k_bn ?_ | with_reducible refine k_br ?_ | with_reducible refine k_lr ?_ | with_reducible refine k_le ?_ | with_reducible refine k_sp ?_ | with_reducible refine k_bp ?_ | with_reducible refine k_lp ?_ | (with_reducible refine k_be ?_ ?_; exact rfl) | (with_reducible refine k_bf ?_ ?_; exact rfl))
    refine EV.ret ?_
    repeat (first | with_reducible refine k_sn ?_ | with_reducible refine k_sr ?_ | with_reducible refine k_se ?_ | with_reducible refine k_bn ?_ | with_reducible refine k_br ?_ | with_reducible refine k_lr ?_ | with_reducible refine k_le ?_ | with_reducible refine k_sp ?_ | with_reducible refine k_bp ?_ | with_reducible refine k_lp ?_ | (with_reducible refine k_be ?_ ?_; exact rfl) | (with_reducible refine k_bf ?_ ?_; exact rfl))
    refine r_tmp 4 rfl (by conv => lhs; whnf) ⟨rfl, ?_, G⟩
    have : decide (s = s') = decide (c = c' ∧ s = s') := by rw [decide_eq_decide]; exact ⟨fun q => ⟨e, q⟩, fun q => q.2⟩
    rw [this]
  · rw [decide_eq_false e]
    repeat (first | refine s_skip rfl rfl ?_ | refine s_mv rfl rfl (by conv => lhs; whnf) ?_ | refine s_asg rfl rfl (by conv => lhs; whnf) ?_ | refine s_len rfl rfl rfl ?_ | refine s_lss rfl rfl rfl rfl ?_ | refine s_leq rfl rfl rfl rfl ?_ | refine s_gtr rfl rfl rfl rfl ?_ | refine s_geq rfl rfl rfl rfl ?_ | refine s_eql rfl rfl rfl rfl ?_ | refine s_neq rfl rfl rfl rfl ?_ | refine s_not rfl rfl rfl ?_ | refine s_pickT rfl rfl rfl (by conv => lhs; whnf) ?_ | refine s_pickF rfl rfl rfl (by conv => lhs; whnf) ?_ | refine s_extract rfl rfl rfl rfl ?_ | refine s_fieldA rfl rfl rfl ?_ | refine s_iface rfl rfl (by conv => lhs; whnf) ?_ | refine s_build rfl rfl rfl ?_)
    refine OPS.nil ?_
    repeat (first | with_reducible refine k_sn ?_ | with_reducible refine k_sr ?_ | with_reducible refine k_se ?_ | with_reducible refine k_bn ?_ | with_reducible refine k_br ?_ | with_reducible refine k_lr ?_ | with_reducible refine k_le ?_ | with_reducible refine k_sp ?_ | with_reducible refine k_bp ?_ | with_reducible refine k_lp ?_ | (with_reducible refine k_be ?_ ?_; exact rfl) | (with_reducible refine k_bf ?_ ?_; exact rfl))
    refine EV.ret ?_
    repeat (first | with_reducible refine k_sn ?_ | with_reducible refine k_sr ?_ | with_reducible refine k_se ?_ | with_reducible refine k_bn ?_ | with_reducible refine k_br ?_ | with_reducible refine k_lr ?_ | with_reducible refine k_le ?_ | with_reducible refine k_sp ?_ | with_reducible refine k_bp ?_ | with_reducible refine k_lp ?_ | (with_reducible refine k_be ?_ ?_; exact rfl) | (with_reducible refine k_bf ?_ ?_; exact rfl))
    refine r_tmp 4 rfl (by conv => lhs; whnf) ⟨rfl, ?_, G⟩
    rw [show decide (c = c' ∧ s = s') = false from decide_eq_false (fun q => e q.1)]
end Go.Proofs.YtfakljdleblkoaaGreat

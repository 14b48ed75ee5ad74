/-
  Constraints met.
-/
import Derived.Test.YtpkieeggilkagaaGreatMean10
set_option linter.unusedSimpArgs false
set_option linter.unusedVariables false
set_option maxHeartbeats 2000000
set_option maxRecDepth 10000
namespace Go.Proofs.YtpkieeggilkagaaGreat
open Go.Ideal Gph

noncomputable def c_meets : CFunc := ⟨136, [(.tmp 6)], (.seq (.ops [3, 4, 6] [⟨⟨(some 3), none, (.box (.tmp 0) 50)⟩, []⟩, ⟨⟨(some 4), none, (.box (.tmp 1) 57)⟩, []⟩, ⟨⟨(some 6), none, (.asg (.const (.bool false)))⟩, []⟩]) (.seq (.ops [10, 7] [⟨⟨(some 10), none, (.mkfunc (.func 104) [] [(.tmp 4)])⟩, []⟩, ⟨⟨(some 7), none, (.asg (.tmp 10))⟩, []⟩]) (.seq (.seq (.ops [11, 12] [⟨⟨(some 11), none, (.fieldA 0 (.tmp 4))⟩, []⟩, ⟨⟨(some 12), none, (.load1 (.tmp 11))⟩, []⟩]) (.block 0 (.seq (.ops [14, 13] [⟨⟨(some 14), none, (.bin .eql 3 (.tmp 12) (.const (.int .i64 1)))⟩, []⟩, ⟨⟨(some 13), none, (.asg (.tmp 14))⟩, []⟩]) (.cond (.tmp 13) (.seq (.ops [15, 16, 17, 18, 6] [⟨⟨(some 15), none, (.mv (.tmp 2))⟩, []⟩, ⟨⟨(some 16), none, (.fieldA 1 (.tmp 4))⟩, []⟩, ⟨⟨(some 17), none, (.load1 (.tmp 16))⟩, []⟩, ⟨⟨(some 18), none, (.call (.func 60) [(.tmp 15), (.tmp 17)])⟩, []⟩, ⟨⟨(some 6), none, (.asg (.tmp 18))⟩, []⟩]) .ret) (.seq (.ops [20, 19] [⟨⟨(some 20), none, (.bin .eql 3 (.tmp 12) (.const (.int .i64 2)))⟩, []⟩, ⟨⟨(some 19), none, (.asg (.tmp 20))⟩, []⟩]) (.cond (.tmp 19) (.seq (.ops [21, 22, 23, 24, 25, 26, 27, 28, 6] [⟨⟨(some 21), none, (.mv (.tmp 7))⟩, []⟩, ⟨⟨(some 22), none, (.mv (.tmp 2))⟩, []⟩, ⟨⟨(some 23), none, (.fieldA 1 (.tmp 4))⟩, []⟩, ⟨⟨(some 24), none, (.load1 (.tmp 23))⟩, []⟩, ⟨⟨(some 25), none, (.fieldA 2 (.tmp 4))⟩, []⟩, ⟨⟨(some 26), none, (.load1 (.tmp 25))⟩, []⟩, ⟨⟨(some 27), none, (.call (.func 64) [(.tmp 22), (.tmp 24), (.tmp 26)])⟩, []⟩, ⟨⟨(some 28), none, (.call (.tmp 21) [(.tmp 27)])⟩, []⟩, ⟨⟨(some 6), none, (.asg (.tmp 28))⟩, []⟩]) .ret) (.seq (.ops [30, 29] [⟨⟨(some 30), none, (.bin .eql 3 (.tmp 12) (.const (.int .i64 3)))⟩, []⟩, ⟨⟨(some 29), none, (.asg (.tmp 30))⟩, []⟩]) (.cond (.tmp 29) (.seq (.ops [31, 32, 33, 34, 35, 36, 37, 38, 6] [⟨⟨(some 31), none, (.mv (.tmp 7))⟩, []⟩, ⟨⟨(some 32), none, (.fieldA 2 (.tmp 3))⟩, []⟩, ⟨⟨(some 33), none, (.load1 (.tmp 32))⟩, []⟩, ⟨⟨(some 34), none, (.mv (.tmp 2))⟩, []⟩, ⟨⟨(some 35), none, (.fieldA 1 (.tmp 4))⟩, []⟩, ⟨⟨(some 36), none, (.load1 (.tmp 35))⟩, []⟩, ⟨⟨(some 37), none, (.call (.func 67) [(.tmp 33), (.tmp 34), (.tmp 36)])⟩, []⟩, ⟨⟨(some 38), none, (.call (.tmp 31) [(.tmp 37)])⟩, []⟩, ⟨⟨(some 6), none, (.asg (.tmp 38))⟩, []⟩]) .ret) (.seq (.ops [40, 39] [⟨⟨(some 40), none, (.bin .eql 3 (.tmp 12) (.const (.int .i64 4)))⟩, []⟩, ⟨⟨(some 39), none, (.asg (.tmp 40))⟩, []⟩]) (.cond (.tmp 39) (.seq (.ops [41, 42, 43, 44, 45, 46, 6] [⟨⟨(some 41), none, (.fieldA 2 (.tmp 3))⟩, []⟩, ⟨⟨(some 42), none, (.load1 (.tmp 41))⟩, []⟩, ⟨⟨(some 43), none, (.mv (.tmp 2))⟩, []⟩, ⟨⟨(some 44), none, (.fieldA 1 (.tmp 4))⟩, []⟩, ⟨⟨(some 45), none, (.load1 (.tmp 44))⟩, []⟩, ⟨⟨(some 46), none, (.call (.func 70) [(.tmp 42), (.tmp 43), (.tmp 45)])⟩, []⟩, ⟨⟨(some 6), none, (.asg (.tmp 46))⟩, []⟩]) .ret) (.seq (.ops [48, 47] [⟨⟨(some 48), none, (.bin .eql 3 (.tmp 12) (.const (.int .i64 5)))⟩, []⟩, ⟨⟨(some 47), none, (.asg (.tmp 48))⟩, []⟩]) (.cond (.tmp 47) (.seq (.ops [49, 50, 51, 52, 53, 54, 55, 56, 57, 58, 6] [⟨⟨(some 49), none, (.mv (.tmp 2))⟩, []⟩, ⟨⟨(some 50), none, (.fieldA 1 (.tmp 4))⟩, []⟩, ⟨⟨(some 51), none, (.load1 (.tmp 50))⟩, []⟩, ⟨⟨(some 52), none, (.fieldA 2 (.tmp 4))⟩, []⟩, ⟨⟨(some 53), none, (.load1 (.tmp 52))⟩, []⟩, ⟨⟨(some 56), none, (.fieldA 6 (.tmp 4))⟩, []⟩, ⟨⟨(some 57), none, (.load1 (.tmp 56))⟩, []⟩, ⟨⟨(some 54), none, (.call (.func 75) [(.tmp 49), (.tmp 51), (.tmp 53)])⟩, [⟨(some 57), none, (.load1 (.tmp 56))⟩]⟩, ⟨⟨(some 55), none, (.call (.func 74) [(.tmp 54)])⟩, [⟨(some 57), none, (.load1 (.tmp 56))⟩]⟩, ⟨⟨(some 58), none, (.call (.func 73) [(.tmp 55), (.tmp 57)])⟩, []⟩, ⟨⟨(some 6), none, (.asg (.tmp 58))⟩, []⟩]) .ret) (.seq (.ops [60, 59] [⟨⟨(some 60), none, (.bin .eql 3 (.tmp 12) (.const (.int .i64 6)))⟩, []⟩, ⟨⟨(some 59), none, (.asg (.tmp 60))⟩, []⟩]) (.cond (.tmp 59) (.seq (.ops [61, 62, 63, 64, 65, 66, 67, 68, 69, 70, 71, 72, 73, 74, 75, 76, 77, 78, 79, 80, 81, 82, 83, 84, 85, 6] [⟨⟨(some 61), none, (.fieldA 2 (.tmp 3))⟩, []⟩, ⟨⟨(some 62), none, (.load1 (.tmp 61))⟩, []⟩, ⟨⟨(some 63), none, (.mv (.tmp 2))⟩, []⟩, ⟨⟨(some 64), none, (.fieldA 1 (.tmp 4))⟩, []⟩, ⟨⟨(some 65), none, (.load1 (.tmp 64))⟩, []⟩, ⟨⟨(some 66), none, (.idxSl 1 (.tmp 65) (.const (.int .i64 0)))⟩, []⟩, ⟨⟨(some 67), none, (.load1 (.tmp 66))⟩, []⟩, ⟨⟨(some 68), none, (.idxSl 1 (.tmp 63) (.tmp 67))⟩, []⟩, ⟨⟨(some 69), none, (.load1 (.tmp 68))⟩, []⟩, ⟨⟨(some 70), none, (.idxSl 1 (.tmp 62) (.tmp 69))⟩, []⟩, ⟨⟨(some 71), none, (.load1 (.tmp 70))⟩, []⟩, ⟨⟨(some 72), none, (.fieldA 2 (.tmp 3))⟩, []⟩, ⟨⟨(some 73), none, (.load1 (.tmp 72))⟩, []⟩, ⟨⟨(some 74), none, (.mv (.tmp 2))⟩, []⟩, ⟨⟨(some 75), none, (.fieldA 1 (.tmp 4))⟩, []⟩, ⟨⟨(some 76), none, (.load1 (.tmp 75))⟩, []⟩, ⟨⟨(some 77), none, (.idxSl 1 (.tmp 76) (.const (.int .i64 1)))⟩, []⟩, ⟨⟨(some 78), none, (.load1 (.tmp 77))⟩, []⟩, ⟨⟨(some 79), none, (.idxSl 1 (.tmp 74) (.tmp 78))⟩, []⟩, ⟨⟨(some 80), none, (.load1 (.tmp 79))⟩, []⟩, ⟨⟨(some 81), none, (.idxSl 1 (.tmp 73) (.tmp 80))⟩, []⟩, ⟨⟨(some 82), none, (.load1 (.tmp 81))⟩, []⟩, ⟨⟨(some 83), none, (.fieldA 4 (.tmp 4))⟩, []⟩, ⟨⟨(some 84), none, (.load1 (.tmp 83))⟩, []⟩, ⟨⟨(some 85), none, (.call (.func 81) [(.tmp 71), (.tmp 82), (.tmp 84)])⟩, []⟩, ⟨⟨(some 6), none, (.asg (.tmp 85))⟩, []⟩]) .ret) (.seq (.ops [87, 86] [⟨⟨(some 87), none, (.bin .eql 3 (.tmp 12) (.const (.int .i64 7)))⟩, []⟩, ⟨⟨(some 86), none, (.asg (.tmp 87))⟩, []⟩]) (.cond (.tmp 86) (.seq (.ops [88, 89, 90, 91, 92, 93, 94, 95, 96, 97, 98, 99, 100, 101, 8, 9] [⟨⟨(some 88), none, (.mv (.tmp 2))⟩, []⟩, ⟨⟨(some 89), none, (.fieldA 1 (.tmp 4))⟩, []⟩, ⟨⟨(some 90), none, (.load1 (.tmp 89))⟩, []⟩, ⟨⟨(some 91), none, (.idxSl 1 (.tmp 90) (.const (.int .i64 0)))⟩, []⟩, ⟨⟨(some 92), none, (.load1 (.tmp 91))⟩, []⟩, ⟨⟨(some 93), none, (.idxSl 1 (.tmp 88) (.tmp 92))⟩, []⟩, ⟨⟨(some 94), none, (.load1 (.tmp 93))⟩, []⟩, ⟨⟨(some 95), none, (.mv (.tmp 2))⟩, []⟩, ⟨⟨(some 96), none, (.fieldA 1 (.tmp 4))⟩, []⟩, ⟨⟨(some 97), none, (.load1 (.tmp 96))⟩, []⟩, ⟨⟨(some 98), none, (.idxSl 1 (.tmp 97) (.const (.int .i64 1)))⟩, []⟩, ⟨⟨(some 99), none, (.load1 (.tmp 98))⟩, []⟩, ⟨⟨(some 100), none, (.idxSl 1 (.tmp 95) (.tmp 99))⟩, []⟩, ⟨⟨(some 101), none, (.load1 (.tmp 100))⟩, []⟩, ⟨⟨(some 8), none, (.asg (.tmp 94))⟩, [⟨(some 101), none, (.load1 (.tmp 100))⟩, ⟨(some 99), none, (.load1 (.tmp 98))⟩, ⟨(some 97), none, (.load1 (.tmp 96))⟩]⟩, ⟨⟨(some 9), none, (.asg (.tmp 101))⟩, []⟩]) (.seq (.ops [102, 103, 104, 105, 106, 107, 108, 109, 110, 111, 112, 113, 114, 115, 116, 117, 118, 119, 120, 121, 122, 123, 124, 6] [⟨⟨(some 102), none, (.fieldA 2 (.tmp 4))⟩, []⟩, ⟨⟨(some 103), none, (.load1 (.tmp 102))⟩, []⟩, ⟨⟨(some 104), none, (.mv (.tmp 8))⟩, []⟩, ⟨⟨(some 105), none, (.call (.func 84) [(.tmp 103), (.tmp 104)])⟩, []⟩, ⟨⟨(some 106), none, (.mv (.tmp 105))⟩, []⟩, ⟨⟨(some 107), (some ⟨106, true⟩), (.fieldA 3 (.tmp 4))⟩, []⟩, ⟨⟨(some 108), (some ⟨106, true⟩), (.load1 (.tmp 107))⟩, []⟩, ⟨⟨(some 109), (some ⟨106, true⟩), (.mv (.tmp 9))⟩, []⟩, ⟨⟨(some 110), (some ⟨106, true⟩), (.call (.func 84) [(.tmp 108), (.tmp 109)])⟩, []⟩, ⟨⟨(some 111), none, (.pick (.tmp 106) (.tmp 110) (.const (.bool false)))⟩, []⟩, ⟨⟨(some 112), none, (.mv (.tmp 111))⟩, []⟩, ⟨⟨(some 113), (some ⟨112, false⟩), (.fieldA 2 (.tmp 4))⟩, []⟩, ⟨⟨(some 114), (some ⟨112, false⟩), (.load1 (.tmp 113))⟩, []⟩, ⟨⟨(some 115), (some ⟨112, false⟩), (.mv (.tmp 9))⟩, []⟩, ⟨⟨(some 116), (some ⟨112, false⟩), (.call (.func 84) [(.tmp 114), (.tmp 115)])⟩, []⟩, ⟨⟨(some 117), (some ⟨112, false⟩), (.mv (.tmp 116))⟩, []⟩, ⟨⟨(some 118), (some ⟨117, true⟩), (.fieldA 3 (.tmp 4))⟩, []⟩, ⟨⟨(some 119), (some ⟨117, true⟩), (.load1 (.tmp 118))⟩, []⟩, ⟨⟨(some 120), (some ⟨117, true⟩), (.mv (.tmp 8))⟩, []⟩, ⟨⟨(some 121), (some ⟨117, true⟩), (.call (.func 84) [(.tmp 119), (.tmp 120)])⟩, []⟩, ⟨⟨(some 122), (some ⟨112, false⟩), (.pick (.tmp 117) (.tmp 121) (.const (.bool false)))⟩, []⟩, ⟨⟨(some 123), none, (.pick (.tmp 112) (.const (.bool true)) (.tmp 122))⟩, []⟩, ⟨⟨(some 124), none, (.un .not (.tmp 123))⟩, []⟩, ⟨⟨(some 6), none, (.asg (.tmp 124))⟩, []⟩]) .ret)) .skip)))))))))))))))) (.seq (.ops [125, 126, 127, 128, 129, 130, 131, 132, 133, 134, 135, 6] [⟨⟨(some 125), none, (.fieldA 3 (.tmp 3))⟩, []⟩, ⟨⟨(some 126), none, (.load1 (.tmp 125))⟩, []⟩, ⟨⟨(some 127), none, (.mv (.tmp 2))⟩, []⟩, ⟨⟨(some 128), none, (.fieldA 1 (.tmp 4))⟩, []⟩, ⟨⟨(some 129), none, (.load1 (.tmp 128))⟩, []⟩, ⟨⟨(some 130), none, (.fieldA 2 (.tmp 4))⟩, []⟩, ⟨⟨(some 131), none, (.load1 (.tmp 130))⟩, []⟩, ⟨⟨(some 132), none, (.fieldA 0 (.tmp 4))⟩, []⟩, ⟨⟨(some 133), none, (.load1 (.tmp 132))⟩, []⟩, ⟨⟨(some 134), none, (.bin .eql 3 (.tmp 133) (.const (.int .i64 9)))⟩, []⟩, ⟨⟨(some 135), none, (.call (.func 86) [(.tmp 126), (.tmp 127), (.tmp 129), (.tmp 131), (.tmp 134)])⟩, []⟩, ⟨⟨(some 6), none, (.asg (.tmp 135))⟩, []⟩]) .ret))))⟩
theorem f_meets : (envOf Tryz.prog noCut noMemo).F 46 = some c_meets := by kernel_rfl
noncomputable def c_meets1 : CFunc := ⟨14, [(.tmp 3)], (.seq (.ops [3] [⟨⟨(some 3), none, (.asg (.const (.bool false)))⟩, []⟩]) (.seq (.ops [4, 5, 6, 7, 8, 9, 10, 11, 12, 13, 3] [⟨⟨(some 4), none, (.fieldA 4 (.tmp 1))⟩, []⟩, ⟨⟨(some 5), none, (.load1 (.tmp 4))⟩, []⟩, ⟨⟨(some 6), none, (.mv (.tmp 0))⟩, []⟩, ⟨⟨(some 7), none, (.bin .leq 3 (.tmp 5) (.tmp 6))⟩, []⟩, ⟨⟨(some 8), none, (.mv (.tmp 7))⟩, []⟩, ⟨⟨(some 9), (some ⟨8, true⟩), (.mv (.tmp 0))⟩, []⟩, ⟨⟨(some 10), (some ⟨8, true⟩), (.fieldA 5 (.tmp 1))⟩, []⟩, ⟨⟨(some 11), (some ⟨8, true⟩), (.load1 (.tmp 10))⟩, []⟩, ⟨⟨(some 12), (some ⟨8, true⟩), (.bin .leq 3 (.tmp 9) (.tmp 11))⟩, []⟩, ⟨⟨(some 13), none, (.pick (.tmp 8) (.tmp 12) (.const (.bool false)))⟩, []⟩, ⟨⟨(some 3), none, (.asg (.tmp 13))⟩, []⟩]) .ret))⟩
theorem f_meets1 : (envOf Tryz.prog noCut noMemo).F 104 = some c_meets1 := by kernel_rfl

/-- whether a grid meets a constraint -/
noncomputable def metB (q : Prob) (c : Con) (grid : List Int) : Bool :=
  if c.kind = 1 then dif grid c.cells
  else if c.kind = 2 then decide (c.lo ≤ (cnt grid c.set.toNat c.cells : Int) ∧ (cnt grid c.set.toNat c.cells : Int) ≤ c.hi)
  else if c.kind = 3 then decide (c.lo ≤ smm q.values grid c.cells ∧ smm q.values grid c.cells ≤ c.hi)
  else if c.kind = 4 then ris q.values grid c.cells
  else if c.kind = 5 then decide (rn grid c.set.toNat 0 c.cells = c.runs)
  else if c.kind = 6 then decide (c.lo ≤ max (va q.values grid (c.cells.getD 0 0) - va q.values grid (c.cells.getD 1 0)) (va q.values grid (c.cells.getD 1 0) - va q.values grid (c.cells.getD 0 0)))
  else if c.kind = 7 then !((c.set.toNat.testBit (sy grid (c.cells.getD 0 0)) && c.other.toNat.testBit (sy grid (c.cells.getD 1 0))) || (c.set.toNat.testBit (sy grid (c.cells.getD 1 0)) && c.other.toNat.testBit (sy grid (c.cells.getD 0 0))))
  else joinB q.nbs (mkd grid c.set.toNat c.cells) (decide (c.kind = 9))

theorem rn_len (grid : List Int) (set : Nat) : ∀ (cells : List Int) (n : Nat), (rn grid set n cells).length ≤ cells.length + 1
  | [], n => by rw [rn]; split <;> simp
  | c :: cs, n => by
    rw [rn]
    split
    · have := rn_len grid set cs (n + 1); simp; omega
    · split
      · have := rn_len grid set cs 0; simp; omega
      · have := rn_len grid set cs 0; simp; omega

theorem meets1_ok {b4 : Nat} {c : Con} {v1 v2 : Value} {n : Int} : FnC Tryz.prog (.func 104) [.int .i64 n] [ptr' b4] [] [fRaw b4 0 (consL c v1 v2)] (fun _ : Unit => .bool (decide (c.lo ≤ n ∧ n ≤ c.hi))) (fun _ => []) (fun _ => []) (fun _ => True) := by
  refine q_beg c_meets1 f_meets1 fun B w0 => ?_
  refine go ?_
  first | with_reducible refine g_d (fun h1 => ?_) (fun h1 => ?_) | with_reducible refine g_n (fun h1 => ?_) (fun h1 => ?_) | with_reducible refine g_b (fun h1 => ?_) (fun h1 => ?_)
  · refine go ?_
    refine q_fin () (hv := ?_) (hp := trivial)
    rw [decide_eq_false (fun h => h1 h.1)]; rfl
  refine go ?_
  refine q_fin () (hv := ?_) (hp := trivial)
  rw [show decide (c.lo ≤ n ∧ n ≤ c.hi) = decide (n ≤ c.hi) from decide_eq_decide.2 ⟨fun h => h.2, fun h => ⟨h1, h⟩⟩]; rfl

/-- what a valid problem and a finished grid say -/
structure Sides (q : Prob) (c : Con) (grid : List Int) : Prop where
  gr : GridOK grid
  ce : CellsOK grid c.cells
  vs : ValsOK q.values grid
  st : 0 ≤ c.set ∧ c.set < 65537
  ot : 0 ≤ c.other ∧ c.other < 65537

theorem sides {q : Prob} {c : Con} {grid : List Int} (hok : ProbOK q) (hc : FineC q.cells q.symbols c) (hf : Fin q.cells q.symbols grid) : Sides q c grid := by
  have h1 := hok.cells
  have h2 := hok.symbols
  have h3 := hok.vlen
  have hp : (2 : Nat) ^ q.symbols.toNat ≤ 2 ^ 16 := Nat.pow_le_pow_right (by omega) (by omega)
  refine ⟨⟨by have := hf.1; omega, fun x hx => by have := hf.2 x hx; omega⟩, ⟨?_, fun x hx => ?_⟩, ⟨hok.vals, fun x hx => by have := hf.2 x hx; omega⟩, ⟨hc.set.1, by have := hc.set.2; omega⟩, ⟨hc.other.1, by have := hc.other.2; omega⟩⟩
  · rcases hc.len with h | h
    · omega
    · rw [h]; simp
  · obtain ⟨i, hi⟩ := List.getElem?_of_mem hx
    have := hc.cell i x hi
    have := hf.1
    omega


set_option maxRecDepth 100000 in
theorem meets_ok {q : Prob} {c : Con} {vv vn vc v1 v2 vg : Value} {grid : List Int} (hok : ProbOK q) (hs : ProbS q) (hc : FineC q.cells q.symbols c) (hf : Fin q.cells q.symbols grid) :
    FnP Tryz.prog 46 [.agg ⟨probL q vv vn vc⟩, .agg ⟨consL c v1 v2⟩, vg] [fSl intE vv q.values, fSl (slE intE) vn q.nbs, fSl intE v1 c.cells, fSl intE v2 c.runs, fSl intE vg grid] (.bool (metB q c grid)) := by
  have sd := sides hok hc hf
  have hgl : grid.length = q.nbs.length := by have := hok.nlen; have := hf.1; omega
  obtain ⟨kd, cells, cset, cother, clo, chi, runs, crule, cat⟩ := c
  obtain ⟨set, rfl⟩ := Int.eq_ofNat_of_zero_le sd.st.1
  obtain ⟨other, rfl⟩ := Int.eq_ofNat_of_zero_le sd.ot.1
  have hset : set < 9223372036854775808 := by have := sd.st.2; dsimp only at this; omega
  have hother : other < 9223372036854775808 := by have := sd.ot.2; dsimp only at this; omega
  have hg := sd.gr
  have hcl := sd.ce
  have hv := sd.vs
  dsimp only at hcl
  have hcll : cells.length ≤ 256 := by
    have := hok.cells
    rcases hc.len with h | h
    · dsimp only at h; omega
    · dsimp only at h; rw [h]; simp
  dsimp only [consL]
  refine q_beg c_meets f_meets fun B w0 => ?_
  refine go ?_
  intro b3 b4
  refine q_frz (frz_pt (b := b3)) (h := ?_)
  refine q_frz (frz_pt (b := b4)) (h := ?_)
  refine go ?_
  by_cases k1 : kd = 1
  · rw [decide_eq_true k1]
    refine go ?_
    refine q_call (mDiff_ok (cells := cells) hg hcl) (next := fun _ _ => ?_)
    refine go ?_
    refine q_fin () (hv := ?_) (hp := trivial)
    rw [metB, if_pos k1]; rfl
  rw [decide_eq_false k1]
  refine go ?_
  by_cases k2 : kd = 2
  · rw [decide_eq_true k2]
    refine go ?_
    refine q_call (mCount_ok (cells := cells) (set := set) hg hcl hset) (next := fun _ _ => ?_)
    refine go ?_
    refine q_call (meets1_ok (b4 := b4) (c := ⟨kd, cells, set, other, clo, chi, runs, crule, cat⟩) (n := (cnt grid set cells : Int))) (next := fun _ _ => ?_)
    refine go ?_
    refine q_fin () (hv := ?_) (hp := trivial)
    rw [metB, if_neg k1, if_pos k2]; rfl
  rw [decide_eq_false k2]
  refine go ?_
  by_cases k3 : kd = 3
  · rw [decide_eq_true k3]
    refine go ?_
    refine q_call (mSum_ok (cells := cells) hg hcl hv) (next := fun _ _ => ?_)
    refine go ?_
    refine q_call (meets1_ok (b4 := b4) (c := ⟨kd, cells, set, other, clo, chi, runs, crule, cat⟩) (n := smm q.values grid cells)) (next := fun _ _ => ?_)
    refine go ?_
    refine q_fin () (hv := ?_) (hp := trivial)
    rw [metB, if_neg k1, if_neg k2, if_pos k3]; rfl
  rw [decide_eq_false k3]
  refine go ?_
  by_cases k4 : kd = 4
  · rw [decide_eq_true k4]
    refine go ?_
    refine q_call (mRise_ok (cells := cells) hg hcl hv) (next := fun _ _ => ?_)
    refine go ?_
    refine q_fin () (hv := ?_) (hp := trivial)
    rw [metB, if_neg k1, if_neg k2, if_neg k3, if_pos k4]; rfl
  rw [decide_eq_false k4]
  refine go ?_
  by_cases k5 : kd = 5
  · rw [decide_eq_true k5]
    refine go ?_
    refine q_call (mRuns_ok (grid := grid) (cells := cells) (set := set)) (next := fun y _ => ?_)
    refine go ?_
    have hrl := rn_len grid set cells 0
    refine q_call (collect_ok (mRuns1_ok (b3 := y.1) (b4 := y.2.1) (b5 := y.2.2) hg hcl hset) (by omega)) (next := fun v _ => ?_)
    refine go ?_
    refine q_call (slEq_ok (xs := rn grid set 0 cells) (ys := runs) (by omega)) (next := fun _ _ => ?_)
    refine go ?_
    refine q_fin () (hv := ?_) (hp := trivial)
    rw [metB, if_neg k1, if_neg k2, if_neg k3, if_neg k4, if_pos k5]; rfl
  rw [decide_eq_false k5]
  refine go ?_
  have two : kd = 6 ∨ kd = 7 → ∃ x y : Nat, cells = [(x : Int), (y : Int)] := fun h => by
    have h2 := hc.two h
    dsimp only at h2
    match cells, h2, hcl with
    | [x, y], _, hcl =>
      have hx := hcl.cell x (by simp)
      have hy := hcl.cell y (by simp)
      obtain ⟨x, rfl⟩ := Int.eq_ofNat_of_zero_le hx.1
      obtain ⟨y, rfl⟩ := Int.eq_ofNat_of_zero_le hy.1
      exact ⟨x, y, rfl⟩
  by_cases k6 : kd = 6
  · rw [decide_eq_true k6]
    obtain ⟨x, y, rfl⟩ := two (.inl k6)
    have hx := hcl.cell x (by simp)
    have hy := hcl.cell y (by simp)
    have hl2 : 1 < [(x : Int), (y : Int)].length := by simp
    refine go ?_
    intro _ _ x' hx'
    obtain rfl : (x : Int) = x' := by simpa using hx'
    refine go ?_
    intro _ _ s hs'
    have hss := hg.sym s (List.mem_of_getElem? hs')
    have hsv := hv.sym s (List.mem_of_getElem? hs')
    obtain ⟨s, rfl⟩ := Int.eq_ofNat_of_zero_le hss.1
    refine go ?_
    intro _ _ v hv1
    have hvv := hv.val v (List.mem_of_getElem? hv1)
    refine go ?_
    intro _ _ y' hy'
    obtain rfl : (y : Int) = y' := by simpa using hy'
    refine go ?_
    intro _ _ u hu'
    have huu := hg.sym u (List.mem_of_getElem? hu')
    have huv := hv.sym u (List.mem_of_getElem? hu')
    obtain ⟨u, rfl⟩ := Int.eq_ofNat_of_zero_le huu.1
    refine go ?_
    intro _ _ w hw1
    have hww := hv.val w (List.mem_of_getElem? hw1)
    refine go ?_
    refine q_call (mApart_ok (a := v) (b := w) (n := clo) ⟨by omega, by omega⟩ ⟨by omega, by omega⟩) (next := fun _ _ => ?_)
    refine go ?_
    refine q_fin () (hv := ?_) (hp := trivial)
    have hm : metB q ⟨kd, [(x : Int), (y : Int)], set, other, clo, chi, runs, crule, cat⟩ grid = decide (clo ≤ max (v - w) (w - v)) := by
      rw [metB, if_neg k1, if_neg k2, if_neg k3, if_neg k4, if_neg k5, if_pos k6]
      show decide (clo ≤ max (va q.values grid (x : Int) - va q.values grid (y : Int)) (va q.values grid (y : Int) - va q.values grid (x : Int))) = _
      rw [va_of hs' hv1, va_of hu' hw1]
    rw [hm]; rfl
  rw [decide_eq_false k6]
  refine go ?_
  by_cases k7 : kd = 7
  · rw [decide_eq_true k7]
    obtain ⟨x, y, rfl⟩ := two (.inr k7)
    have hx := hcl.cell x (by simp)
    have hy := hcl.cell y (by simp)
    have hl2 : 1 < [(x : Int), (y : Int)].length := by simp
    refine go ?_
    intro _ _ x' hx'
    obtain rfl : (x : Int) = x' := by simpa using hx'
    refine go ?_
    intro _ _ s hs'
    have hss := hg.sym s (List.mem_of_getElem? hs')
    obtain ⟨s, rfl⟩ := Int.eq_ofNat_of_zero_le hss.1
    refine go ?_
    intro _ _ y' hy'
    obtain rfl : (y : Int) = y' := by simpa using hy'
    refine go ?_
    intro _ _ u hu'
    have huu := hg.sym u (List.mem_of_getElem? hu')
    obtain ⟨u, rfl⟩ := Int.eq_ofNat_of_zero_le huu.1
    have hm : metB q ⟨kd, [(x : Int), (y : Int)], set, other, clo, chi, runs, crule, cat⟩ grid = !((set.testBit s && other.testBit u) || (set.testBit u && other.testBit s)) := by
      rw [metB, if_neg k1, if_neg k2, if_neg k3, if_neg k4, if_neg k5, if_neg k6, if_pos k7]
      show (!((set.testBit (sy grid (x : Int)) && other.testBit (sy grid (y : Int))) || (set.testBit (sy grid (y : Int)) && other.testBit (sy grid (x : Int))))) = _
      rw [sy_of hs', sy_of hu']
    refine go ?_
    refine q_call (mIn_ok (set := set) (sym := s) hset (by omega)) (next := fun _ _ => ?_)
    cases e1 : set.testBit s with
    | true =>
      refine go ?_
      refine q_call (mIn_ok (set := other) (sym := u) hother (by omega)) (next := fun _ _ => ?_)
      cases e2 : other.testBit u with
      | true =>
        refine go ?_
        refine q_fin () (hv := ?_) (hp := trivial)
        rw [hm, e1, e2]; rfl
      | false =>
        refine go ?_
        refine q_call (mIn_ok (set := set) (sym := u) hset (by omega)) (next := fun _ _ => ?_)
        cases e3 : set.testBit u with
        | true =>
          refine go ?_
          refine q_call (mIn_ok (set := other) (sym := s) hother (by omega)) (next := fun _ _ => ?_)
          refine go ?_
          refine q_fin () (hv := ?_) (hp := trivial)
          rw [hm, e1, e2, e3]
          cases other.testBit s <;> first | rfl | (cases other.testBit u <;> rfl)
        | false =>
          refine go ?_
          refine q_fin () (hv := ?_) (hp := trivial)
          rw [hm, e1, e2, e3]
          cases other.testBit s <;> first | rfl | (cases other.testBit u <;> rfl)
    | false =>
      refine go ?_
      refine q_call (mIn_ok (set := set) (sym := u) hset (by omega)) (next := fun _ _ => ?_)
      cases e3 : set.testBit u with
      | true =>
        refine go ?_
        refine q_call (mIn_ok (set := other) (sym := s) hother (by omega)) (next := fun _ _ => ?_)
        refine go ?_
        refine q_fin () (hv := ?_) (hp := trivial)
        rw [hm, e1, e3]
        cases other.testBit s <;> first | rfl | (cases other.testBit u <;> rfl)
      | false =>
        refine go ?_
        refine q_fin () (hv := ?_) (hp := trivial)
        rw [hm, e1, e3]
        cases other.testBit s <;> first | rfl | (cases other.testBit u <;> rfl)
  rw [decide_eq_false k7]
  refine go ?_
  refine q_call (joined_ok (nbs := q.nbs) (grid := grid) (cells := cells) (set := set) (loop := decide (kd = 9)) hok.graph hs.nbs hgl hg hcl hset) (next := fun _ _ => ?_)
  refine go ?_
  refine q_fin () (hv := ?_) (hp := trivial)
  rw [metB, if_neg k1, if_neg k2, if_neg k3, if_neg k4, if_neg k5, if_neg k6, if_neg k7]; rfl
end Go.Proofs.YtpkieeggilkagaaGreat

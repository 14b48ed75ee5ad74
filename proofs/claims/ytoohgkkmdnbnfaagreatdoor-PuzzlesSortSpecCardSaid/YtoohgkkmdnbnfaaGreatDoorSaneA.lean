/-
  The heap in which lex.Lex is called first.
-/
import Derived.Test.YtoohgkkmdnbnfaaGreatDoorChecked
import Derived.Test.YtoohgkkmdnbnfaaGreatDoorIdealG
import Derived.Test.YtoohgkkmdnbnfaaGreatDoorIdealP
import Derived.Test.YtoohgkkmdnbnfaaGreatDoorShelf
import Derived.KernelRfl
set_option linter.unusedSimpArgs false
set_option linter.unusedVariables false
namespace Go.Proofs.YtoohgkkmdnbnfaaGreatDoor
open Go.Ideal
def sV0 (l : List Nat) : Value := .string ⟨⟨l.map UInt8.ofNat⟩⟩
def zDcl : List Value := [sV0 [], .int .i64 0, .int .i64 0, .int .i64 0, .int .i64 0, .slice none 0 0, .slice none 0 0, .slice none 0 0, .slice none 0 0, .slice none 0 0]
def zKnd : List Value := zDcl ++ [.int .i64 0, .int .i64 0, .int .i64 0, .slice none 0 0, .slice none 0 0, .slice none 0 0, .slice none 0 0]
def srcV : Value := sV0 [107, 105, 110, 100, 32, 107, 32, 118, 101, 114, 115, 105, 111, 110, 32, 49, 32, 123, 32, 103, 114, 105, 100, 32, 115, 113, 117, 97, 114, 101, 32, 50, 32, 98, 121, 32, 50, 59, 32, 115, 121, 109, 98, 111, 108, 115, 32, 97, 32, 61, 32, 49, 44, 32, 98, 32, 61, 32, 50, 59, 32, 99, 108, 117, 101, 32, 99, 32, 111, 110, 32, 99, 101, 108, 108, 115, 32, 115, 121, 109, 98, 111, 108, 59, 32, 114, 117, 108, 101, 32, 114, 58, 32, 101, 97, 99, 104, 32, 114, 111, 119, 115, 32, 100, 105, 102, 102, 101, 114, 101, 110, 116, 59, 32, 114, 117, 108, 101, 32, 103, 58, 32, 103, 105, 118, 101, 110, 32, 99, 59, 32, 125]
noncomputable def lexH : IH := ((⟨.leaf, 6, 6⟩ : IH).new (.cells zKnd)).new (.cells zDcl)
noncomputable def compH : IH := ⟨.leaf, 6, 6⟩
theorem follows : Tryz.prog.follows .mixedOrders = true := by kernel_rfl
theorem globals : Tryz.prog.globals.size = 6 := by kernel_rfl
theorem fnAt {k : Nat} (h3 : (Tryz.prog.funcs[k]?).map (fun f => (f.body.isSome && !(f.name == "runtime.NumGoroutine"))) = some true) : ∃ fn body, Tryz.prog.funcs[k]? = some fn ∧ fn.body = some body ∧ fn.name ≠ "runtime.NumGoroutine" := by
 cases e : Tryz.prog.funcs[k]? with
 | none => rw [e] at h3; cases h3
 | some fn =>
   rw [e] at h3
   have h3 := Option.some.inj h3
   rw [Bool.and_eq_true] at h3
   obtain ⟨body, hb⟩ := Option.isSome_iff_exists.1 h3.1
   exact ⟨fn, body, rfl, hb, by simpa using h3.2⟩
theorem ix_ok {q : Req} {h : IH} {v : Value} {h' : IH} (hm : ixK 189 q h = some (v, h')) : CALL Tryz.prog q h (fun r pm h2 => r = .ok v ∧ pm = none ∧ h2 = h') := by
 obtain ⟨fn, body, h1, h2, h3⟩ := fnAt (k := 189) (by kernel_rfl)
 exact ixK_ok h1 h2 h3 (fun s c w => Any.strings_IndexByte Tryz.lays137 s c w) hm
theorem at_ok {q : Req} {h : IH} {v : Value} {h' : IH} (hm : atoiK 244 q h = some (v, h')) : CALL Tryz.prog q h (fun r pm h2 => r = .ok v ∧ pm = none ∧ h2 = h') := by
 obtain ⟨fn, body, h1, h2, h3⟩ := fnAt (k := 244) (by kernel_rfl)
 exact atoiK_ok h1 h2 h3 (fun s n hl hn w => (Any.internal_strconv_Atoi Tryz.lays244 s n hl hn w).mono fun e w' ⟨he, t, hw⟩ => ⟨he, by rw [hw]; exact beyond_bytes w _ t⟩) hm
noncomputable def memo0 : Nat → Option (Req → IH → Option (Value × IH)) := fun f => cond (Nat.beq f 189) (some (ixK 189)) (cond (Nat.beq f 244) (some (atoiK 244)) none)
theorem memo0_ok {f : Nat} {g : Req → IH → Option (Value × IH)} (hm : memo0 f = some g) {q : Req} {h : IH} {v : Value} {h' : IH} (ht : g q h = some (v, h')) : CALL Tryz.prog q h (fun r pm h2 => r = .ok v ∧ pm = none ∧ h2 = h') := by
 simp only [memo0] at hm
 cases h1 : Nat.beq f 189 with
 | true => rw [h1] at hm; cases hm; exact ix_ok ht
 | false =>
   rw [h1] at hm
   cases h2 : Nat.beq f 244 with
   | true => rw [h2] at hm; cases hm; exact at_ok ht
   | false => rw [h2] at hm; cases hm
noncomputable def env0 : Env := envOf Tryz.prog (cutKeys 254 301) memo0
theorem env0_ok : EnvOK env0 := envOf_ok _ _ _ (by
 intro f q h v h' hm _ _
 cases e : memo0 f with
 | none => rw [e] at hm; cases hm
 | some g => rw [e] at hm; exact memo0_ok e hm)
end Go.Proofs.YtoohgkkmdnbnfaaGreatDoor
namespace Go.Proofs.YtoohgkkmdnbnfaaGreatDoor
open Go.Ideal
noncomputable def lexV : Value := .tuple ⟨[.slice (some ⟨231, 0, some 4⟩) 40 40, .int .i64 (.ofNat 0), .int .i64 (.ofNat 0)]⟩
def lexN : Nat := 232
noncomputable def lexO : List (Nat × IObj) := [
 (6, .cells [sV0 [], .int .i64 (.ofNat 0), .int .i64 (.ofNat 0), .int .i64 (.ofNat 0), .int .i64 (.ofNat 0), .slice none 0 0, .slice none 0 0, .slice none 0 0, .slice none 0 0, .slice none 0 0, .int .i64 (.ofNat 0), .int .i64 (.ofNat 0), .int .i64 (.ofNat 0), .slice none 0 0, .slice none 0 0, .slice none 0 0, .slice none 0 0]),
 (7, .cells [sV0 [], .int .i64 (.ofNat 0), .int .i64 (.ofNat 0), .int .i64 (.ofNat 0), .int .i64 (.ofNat 0), .slice none 0 0, .slice none 0 0, .slice none 0 0, .slice none 0 0, .slice none 0 0]),
 (231, .cells [.int .i64 (.ofNat 1), sV0 [107, 105, 110, 100], .int .i64 (.ofNat 0), .int .i64 (.ofNat 0), .int .i64 (.ofNat 1), sV0 [107], .int .i64 (.ofNat 0), .int .i64 (.ofNat 5), .int .i64 (.ofNat 1), sV0 [118, 101, 114, 115, 105, 111, 110], .int .i64 (.ofNat 0), .int .i64 (.ofNat 7), .int .i64 (.ofNat 2), sV0 [], .int .i64 (.ofNat 1), .int .i64 (.ofNat 15), .int .i64 (.ofNat 3), sV0 [123], .int .i64 (.ofNat 0), .int .i64 (.ofNat 17), .int .i64 (.ofNat 1), sV0 [103, 114, 105, 100], .int .i64 (.ofNat 0), .int .i64 (.ofNat 19), .int .i64 (.ofNat 1), sV0 [115, 113, 117, 97, 114, 101], .int .i64 (.ofNat 0), .int .i64 (.ofNat 24), .int .i64 (.ofNat 2), sV0 [], .int .i64 (.ofNat 2), .int .i64 (.ofNat 31), .int .i64 (.ofNat 1), sV0 [98, 121], .int .i64 (.ofNat 0), .int .i64 (.ofNat 33), .int .i64 (.ofNat 2), sV0 [], .int .i64 (.ofNat 2), .int .i64 (.ofNat 36), .int .i64 (.ofNat 3), sV0 [59], .int .i64 (.ofNat 0), .int .i64 (.ofNat 37), .int .i64 (.ofNat 1), sV0 [115, 121, 109, 98, 111, 108, 115], .int .i64 (.ofNat 0), .int .i64 (.ofNat 39), .int .i64 (.ofNat 1), sV0 [97], .int .i64 (.ofNat 0), .int .i64 (.ofNat 47), .int .i64 (.ofNat 3), sV0 [61], .int .i64 (.ofNat 0), .int .i64 (.ofNat 49), .int .i64 (.ofNat 2), sV0 [], .int .i64 (.ofNat 1), .int .i64 (.ofNat 51), .int .i64 (.ofNat 3), sV0 [44], .int .i64 (.ofNat 0), .int .i64 (.ofNat 52), .int .i64 (.ofNat 1), sV0 [98], .int .i64 (.ofNat 0), .int .i64 (.ofNat 54), .int .i64 (.ofNat 3), sV0 [61], .int .i64 (.ofNat 0), .int .i64 (.ofNat 56), .int .i64 (.ofNat 2), sV0 [], .int .i64 (.ofNat 2), .int .i64 (.ofNat 58), .int .i64 (.ofNat 3), sV0 [59], .int .i64 (.ofNat 0), .int .i64 (.ofNat 59), .int .i64 (.ofNat 1), sV0 [99, 108, 117, 101], .int .i64 (.ofNat 0), .int .i64 (.ofNat 61), .int .i64 (.ofNat 1), sV0 [99], .int .i64 (.ofNat 0), .int .i64 (.ofNat 66), .int .i64 (.ofNat 1), sV0 [111, 110], .int .i64 (.ofNat 0), .int .i64 (.ofNat 68), .int .i64 (.ofNat 1), sV0 [99, 101, 108, 108, 115], .int .i64 (.ofNat 0), .int .i64 (.ofNat 71), .int .i64 (.ofNat 1), sV0 [115, 121, 109, 98, 111, 108], .int .i64 (.ofNat 0), .int .i64 (.ofNat 77), .int .i64 (.ofNat 3), sV0 [59], .int .i64 (.ofNat 0), .int .i64 (.ofNat 83), .int .i64 (.ofNat 1), sV0 [114, 117, 108, 101], .int .i64 (.ofNat 0), .int .i64 (.ofNat 85), .int .i64 (.ofNat 1), sV0 [114], .int .i64 (.ofNat 0), .int .i64 (.ofNat 90), .int .i64 (.ofNat 3), sV0 [58], .int .i64 (.ofNat 0), .int .i64 (.ofNat 91), .int .i64 (.ofNat 1), sV0 [101, 97, 99, 104], .int .i64 (.ofNat 0), .int .i64 (.ofNat 93), .int .i64 (.ofNat 1), sV0 [114, 111, 119, 115], .int .i64 (.ofNat 0), .int .i64 (.ofNat 98), .int .i64 (.ofNat 1), sV0 [100, 105, 102, 102, 101, 114, 101, 110, 116], .int .i64 (.ofNat 0), .int .i64 (.ofNat 103), .int .i64 (.ofNat 3), sV0 [59], .int .i64 (.ofNat 0), .int .i64 (.ofNat 112), .int .i64 (.ofNat 1), sV0 [114, 117, 108, 101], .int .i64 (.ofNat 0), .int .i64 (.ofNat 114), .int .i64 (.ofNat 1), sV0 [103], .int .i64 (.ofNat 0), .int .i64 (.ofNat 119), .int .i64 (.ofNat 3), sV0 [58], .int .i64 (.ofNat 0), .int .i64 (.ofNat 120), .int .i64 (.ofNat 1), sV0 [103, 105, 118, 101, 110], .int .i64 (.ofNat 0), .int .i64 (.ofNat 122), .int .i64 (.ofNat 1), sV0 [99], .int .i64 (.ofNat 0), .int .i64 (.ofNat 128), .int .i64 (.ofNat 3), sV0 [59], .int .i64 (.ofNat 0), .int .i64 (.ofNat 129), .int .i64 (.ofNat 3), sV0 [125], .int .i64 (.ofNat 0), .int .i64 (.ofNat 131)])]
theorem lex_run : (evB env0 1000000).call ⟨.func 98, [srcV], [], none⟩ lexH (leavesG 6 lexO lexN lexV) = true := by kernel_rfl
end Go.Proofs.YtoohgkkmdnbnfaaGreatDoor
namespace Go.Proofs.YtoohgkkmdnbnfaaGreatDoor
open Go.Ideal
noncomputable def memo1 : Nat → Option (Req → IH → Option (Value × IH)) := fun f => cond (Nat.beq f 98) (some (firstCallG 6 lexH lexO lexN 98 [srcV] lexV)) (memo0 f)
theorem lex_ok {q : Req} {h : IH} {v : Value} {h' : IH} (hm : firstCallG 6 lexH lexO lexN 98 [srcV] lexV q h = some (v, h')) : CALL Tryz.prog q h (fun r pm h2 => r = .ok v ∧ pm = none ∧ h2 = h') :=
 firstCallG_ok (by kernel_rfl) (closed_call env0_ok lex_run) hm
theorem memo1_ok {f : Nat} {g : Req → IH → Option (Value × IH)} (hm : memo1 f = some g) {q : Req} {h : IH} {v : Value} {h' : IH} (ht : g q h = some (v, h')) : CALL Tryz.prog q h (fun r pm h2 => r = .ok v ∧ pm = none ∧ h2 = h') := by
 simp only [memo1] at hm
 cases h1 : Nat.beq f 98 with
 | true => rw [h1] at hm; cases hm; exact lex_ok ht
 | false => rw [h1] at hm; exact memo0_ok hm ht
end Go.Proofs.YtoohgkkmdnbnfaaGreatDoor

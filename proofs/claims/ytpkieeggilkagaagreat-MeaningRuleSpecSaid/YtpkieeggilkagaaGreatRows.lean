/-
  No cell of these rows narrows 'for every input' (looked for: loops, veiled, ifaces, maps, wideKeys, modest, calm, conditions, laid).
  DERIVED. THE GIVEN ROWS OF THIS SEAT. 8 by the template 'for every input the law returns true; each argument reads behind the call as it read before'; 0 by the template 'total and deterministic' (their statements: YtpkieeggilkagaaGreatTotals.lean).
  GIVEN WITH THE SEED: the statements are not yours to turn. If you find one false, say at which input.
  Laid BY PROGRAM, IN A SANDBOX (cutbox-rows.mjs): the forced cells as the released guide's own fill.sh prints them over the translation 1bfd277593dbbf37… (all of the seat's roots in one cut). By AI agents, Wed Nov 11 2026. No macro, syntax, notation, axiom, sorry.
-/
import Derived.Test.YtpkieeggilkagaaGreatChecked
import GoSem.Claim
import GoSem.ClaimJoined
import GoSem.ClaimMapViews
import Derived.JoinedTies
import Derived.KernelRfl
namespace Go.Proofs.YtpkieeggilkagaaGreat
/- THE CELL 'sum', in the pinned program and in every row, IS THE sha256 OF THE DUMP (.gsa) THAT YtpkieeggilkagaaGreatProg.lean LOADS. Nothing in Lean hashes anything: it is a label: what it is worth is what the hold of that sum in a sandbox is worth. -/
noncomputable def Tryz.pinned : Pinned := { name := "ytpkieeggilkagaagreat", sum := "1bfd277593dbbf3772d0e2d0c7e9e301d59dee4a5eb851746486c2233d3eb999", checked := Tryz.checked }
namespace Rows
def none {H : Type} : Left H := { results := [], args := [] }

/-- 'gridwrightlaw20.MeaningRuleSpec': WHATEVER THE INPUT: true; the input reads as it did. -/
def meaningRuleSpecSpec : ChangeSpec := { name := "meaningRuleSpec", fn := fun _ => fun
  | [d1, d2, d3, d4] => { results := [.lit (.bool true)], args := [d1, d2, d3, d4] }
  | _ => none }
def meaningRuleSpecRow : OpenClaim := { program := "ytpkieeggilkagaagreat", sum := "1bfd277593dbbf3772d0e2d0c7e9e301d59dee4a5eb851746486c2233d3eb999", func := "gridwright/gridwrightlaw20.MeaningRuleSpec", spec := "meaningRuleSpec", unfollowed := true, recurses := true, plainKeys := false, apart := false }
def MeaningRuleSpecSaid : Prop := meaningRuleSpecRow.holds Tryz.pinned (OpenSpec.ofChange meaningRuleSpecSpec)

/-- ITS FALSE NEIGHBOUR: 'it returns false'. Refute it at one input. -/
def meaningRuleSpecWrong : ChangeSpec := { name := "meaningRuleSpec", fn := fun _ => fun
  | [d1, d2, d3, d4] => { results := [.lit (.bool false)], args := [d1, d2, d3, d4] }
  | _ => none }
def MeaningRuleSpecWrongFalsely : Prop := meaningRuleSpecRow.holds Tryz.pinned (OpenSpec.ofChange meaningRuleSpecWrong)

/-- 'gridwrightlaw20.MeaningParts': WHATEVER THE INPUT: true; the input reads as it did. -/
def meaningPartsSpec : ChangeSpec := { name := "meaningParts", fn := fun _ => fun
  | [d1, d2, d3] => { results := [.lit (.bool true)], args := [d1, d2, d3] }
  | _ => none }
def meaningPartsRow : OpenClaim := { program := "ytpkieeggilkagaagreat", sum := "1bfd277593dbbf3772d0e2d0c7e9e301d59dee4a5eb851746486c2233d3eb999", func := "gridwright/gridwrightlaw20.MeaningParts", spec := "meaningParts", unfollowed := true, recurses := true, plainKeys := false, apart := false }
def MeaningPartsSaid : Prop := meaningPartsRow.holds Tryz.pinned (OpenSpec.ofChange meaningPartsSpec)

/-- ITS FALSE NEIGHBOUR: 'it returns false'. Refute it at one input. -/
def meaningPartsWrong : ChangeSpec := { name := "meaningParts", fn := fun _ => fun
  | [d1, d2, d3] => { results := [.lit (.bool false)], args := [d1, d2, d3] }
  | _ => none }
def MeaningPartsWrongFalsely : Prop := meaningPartsRow.holds Tryz.pinned (OpenSpec.ofChange meaningPartsWrong)

/-- 'gridwrightlaw20.MeaningMeetsSpec': WHATEVER THE INPUT: true; the input reads as it did. -/
def meaningMeetsSpecSpec : ChangeSpec := { name := "meaningMeetsSpec", fn := fun _ => fun
  | [d1, d2, d3] => { results := [.lit (.bool true)], args := [d1, d2, d3] }
  | _ => none }
def meaningMeetsSpecRow : OpenClaim := { program := "ytpkieeggilkagaagreat", sum := "1bfd277593dbbf3772d0e2d0c7e9e301d59dee4a5eb851746486c2233d3eb999", func := "gridwright/gridwrightlaw20.MeaningMeetsSpec", spec := "meaningMeetsSpec", unfollowed := true, recurses := true, plainKeys := false, apart := false }
def MeaningMeetsSpecSaid : Prop := meaningMeetsSpecRow.holds Tryz.pinned (OpenSpec.ofChange meaningMeetsSpecSpec)

/-- ITS FALSE NEIGHBOUR: 'it returns false'. Refute it at one input. -/
def meaningMeetsSpecWrong : ChangeSpec := { name := "meaningMeetsSpec", fn := fun _ => fun
  | [d1, d2, d3] => { results := [.lit (.bool false)], args := [d1, d2, d3] }
  | _ => none }
def MeaningMeetsSpecWrongFalsely : Prop := meaningMeetsSpecRow.holds Tryz.pinned (OpenSpec.ofChange meaningMeetsSpecWrong)

/-- 'gridwrightlaw20.MeaningLocal': WHATEVER THE INPUT: true; the input reads as it did. -/
def meaningLocalSpec : ChangeSpec := { name := "meaningLocal", fn := fun _ => fun
  | [d1, d2, d3, d4] => { results := [.lit (.bool true)], args := [d1, d2, d3, d4] }
  | _ => none }
def meaningLocalRow : OpenClaim := { program := "ytpkieeggilkagaagreat", sum := "1bfd277593dbbf3772d0e2d0c7e9e301d59dee4a5eb851746486c2233d3eb999", func := "gridwright/gridwrightlaw20.MeaningLocal", spec := "meaningLocal", unfollowed := true, recurses := true, plainKeys := false, apart := false }
def MeaningLocalSaid : Prop := meaningLocalRow.holds Tryz.pinned (OpenSpec.ofChange meaningLocalSpec)

/-- ITS FALSE NEIGHBOUR: 'it returns false'. Refute it at one input. -/
def meaningLocalWrong : ChangeSpec := { name := "meaningLocal", fn := fun _ => fun
  | [d1, d2, d3, d4] => { results := [.lit (.bool false)], args := [d1, d2, d3, d4] }
  | _ => none }
def MeaningLocalWrongFalsely : Prop := meaningLocalRow.holds Tryz.pinned (OpenSpec.ofChange meaningLocalWrong)

/-- 'gridwrightlaw20.MeaningConnected': WHATEVER THE INPUT: true; the input reads as it did. -/
def meaningConnectedSpec : ChangeSpec := { name := "meaningConnected", fn := fun _ => fun
  | [d1, d2, d3] => { results := [.lit (.bool true)], args := [d1, d2, d3] }
  | _ => none }
def meaningConnectedRow : OpenClaim := { program := "ytpkieeggilkagaagreat", sum := "1bfd277593dbbf3772d0e2d0c7e9e301d59dee4a5eb851746486c2233d3eb999", func := "gridwright/gridwrightlaw20.MeaningConnected", spec := "meaningConnected", unfollowed := true, recurses := true, plainKeys := false, apart := false }
def MeaningConnectedSaid : Prop := meaningConnectedRow.holds Tryz.pinned (OpenSpec.ofChange meaningConnectedSpec)

/-- ITS FALSE NEIGHBOUR: 'it returns false'. Refute it at one input. -/
def meaningConnectedWrong : ChangeSpec := { name := "meaningConnected", fn := fun _ => fun
  | [d1, d2, d3] => { results := [.lit (.bool false)], args := [d1, d2, d3] }
  | _ => none }
def MeaningConnectedWrongFalsely : Prop := meaningConnectedRow.holds Tryz.pinned (OpenSpec.ofChange meaningConnectedWrong)

/-- 'gridwrightlaw20.MeaningFewer': WHATEVER THE INPUT: true; the input reads as it did. -/
def meaningFewerSpec : ChangeSpec := { name := "meaningFewer", fn := fun _ => fun
  | [d1, d2, d3, d4] => { results := [.lit (.bool true)], args := [d1, d2, d3, d4] }
  | _ => none }
def meaningFewerRow : OpenClaim := { program := "ytpkieeggilkagaagreat", sum := "1bfd277593dbbf3772d0e2d0c7e9e301d59dee4a5eb851746486c2233d3eb999", func := "gridwright/gridwrightlaw20.MeaningFewer", spec := "meaningFewer", unfollowed := true, recurses := true, plainKeys := false, apart := false }
def MeaningFewerSaid : Prop := meaningFewerRow.holds Tryz.pinned (OpenSpec.ofChange meaningFewerSpec)

/-- ITS FALSE NEIGHBOUR: 'it returns false'. Refute it at one input. -/
def meaningFewerWrong : ChangeSpec := { name := "meaningFewer", fn := fun _ => fun
  | [d1, d2, d3, d4] => { results := [.lit (.bool false)], args := [d1, d2, d3, d4] }
  | _ => none }
def MeaningFewerWrongFalsely : Prop := meaningFewerRow.holds Tryz.pinned (OpenSpec.ofChange meaningFewerWrong)

/-- 'gridwrightlaw20.MeaningSolves': WHATEVER THE INPUT: true; the input reads as it did. -/
def meaningSolvesSpec : ChangeSpec := { name := "meaningSolves", fn := fun _ => fun
  | [d1, d2, d3] => { results := [.lit (.bool true)], args := [d1, d2, d3] }
  | _ => none }
def meaningSolvesRow : OpenClaim := { program := "ytpkieeggilkagaagreat", sum := "1bfd277593dbbf3772d0e2d0c7e9e301d59dee4a5eb851746486c2233d3eb999", func := "gridwright/gridwrightlaw20.MeaningSolves", spec := "meaningSolves", unfollowed := true, recurses := true, plainKeys := false, apart := false }
def MeaningSolvesSaid : Prop := meaningSolvesRow.holds Tryz.pinned (OpenSpec.ofChange meaningSolvesSpec)

/-- ITS FALSE NEIGHBOUR: 'it returns false'. Refute it at one input. -/
def meaningSolvesWrong : ChangeSpec := { name := "meaningSolves", fn := fun _ => fun
  | [d1, d2, d3] => { results := [.lit (.bool false)], args := [d1, d2, d3] }
  | _ => none }
def MeaningSolvesWrongFalsely : Prop := meaningSolvesRow.holds Tryz.pinned (OpenSpec.ofChange meaningSolvesWrong)

/-- 'gridwrightlaw20.MeaningConstraints': WHATEVER THE INPUT: true; the input reads as it did. -/
def meaningConstraintsSpec : ChangeSpec := { name := "meaningConstraints", fn := fun _ => fun
  | [d1, d2, d3, d4] => { results := [.lit (.bool true)], args := [d1, d2, d3, d4] }
  | _ => none }
def meaningConstraintsRow : OpenClaim := { program := "ytpkieeggilkagaagreat", sum := "1bfd277593dbbf3772d0e2d0c7e9e301d59dee4a5eb851746486c2233d3eb999", func := "gridwright/gridwrightlaw20.MeaningConstraints", spec := "meaningConstraints", unfollowed := true, recurses := true, plainKeys := false, apart := false }
def MeaningConstraintsSaid : Prop := meaningConstraintsRow.holds Tryz.pinned (OpenSpec.ofChange meaningConstraintsSpec)

/-- ITS FALSE NEIGHBOUR: 'it returns false'. Refute it at one input. -/
def meaningConstraintsWrong : ChangeSpec := { name := "meaningConstraints", fn := fun _ => fun
  | [d1, d2, d3, d4] => { results := [.lit (.bool false)], args := [d1, d2, d3, d4] }
  | _ => none }
def MeaningConstraintsWrongFalsely : Prop := meaningConstraintsRow.holds Tryz.pinned (OpenSpec.ofChange meaningConstraintsWrong)

/- THE SECOND FORM. 'bulk': how many values and letters a reading holds, each counted each time it is reached (what is shared counts as often as it is met; a slice's spare places count too). A statement '..UptoSaid' is the law's where the arguments, and the package variables that the reading takes, are together of bulk at most 1048576: NARROWER than '..Said'. Prove '..Said' where nothing that the law and all that it calls make is longer than what came in: it says more and counts as full. Else prove '..UptoSaid'. A law counts once. -/
mutual
def uptoBulk {H : Type} : DataW H → Nat
  | .lit (.string bytes) => bytes.length + 1
  | .lit _ => 1
  | .nil => 1
  | .ptr d => uptoBulk d + 1
  | .slice elems spare => uptoBulkAll elems + uptoBulkAll spare + 1
  | .agg parts => uptoBulkAll parts + 1
  | .iface _ d => uptoBulk d + 1
  | .map entries => uptoBulkEntries entries + 1
  | .held _ => 1
def uptoBulkAll {H : Type} : List (DataW H) → Nat
  | [] => 0
  | d :: r => uptoBulk d + uptoBulkAll r
def uptoBulkEntries {H : Type} : List (Lit × DataW H) → Nat
  | [] => 0
  | x :: r => uptoBulkEntry x + uptoBulkEntries r
def uptoBulkEntry {H : Type} : Lit × DataW H → Nat
  | (.string bytes, d) => bytes.length + uptoBulk d + 1
  | (_, d) => uptoBulk d + 1
 end
def uptoSmall : (H : Type) → List (DataW H) → Bool := fun _ ds => decide (uptoBulkAll ds ≤ 1048576)
def OpenSpec.upto (s : _root_.Go.ChangeSpec) : _root_.Go.OpenSpec := { _root_.Go.OpenSpec.ofChange s with cond := some uptoSmall }

/-- 'gridwrightlaw20.MeaningRuleSpec', WHERE WHAT IT READS IS OF BULK AT MOST 1048576: true; the input reads as it did. -/
def meaningRuleSpecUptoRow : OpenClaim := { program := "ytpkieeggilkagaagreat", sum := "1bfd277593dbbf3772d0e2d0c7e9e301d59dee4a5eb851746486c2233d3eb999", func := "gridwright/gridwrightlaw20.MeaningRuleSpec", spec := "meaningRuleSpec", unfollowed := true, recurses := true, plainKeys := false, apart := false, narrowed := true }
def MeaningRuleSpecUptoSaid : Prop := meaningRuleSpecUptoRow.holds Tryz.pinned (OpenSpec.upto meaningRuleSpecSpec)

/-- 'gridwrightlaw20.MeaningParts', WHERE WHAT IT READS IS OF BULK AT MOST 1048576: true; the input reads as it did. -/
def meaningPartsUptoRow : OpenClaim := { program := "ytpkieeggilkagaagreat", sum := "1bfd277593dbbf3772d0e2d0c7e9e301d59dee4a5eb851746486c2233d3eb999", func := "gridwright/gridwrightlaw20.MeaningParts", spec := "meaningParts", unfollowed := true, recurses := true, plainKeys := false, apart := false, narrowed := true }
def MeaningPartsUptoSaid : Prop := meaningPartsUptoRow.holds Tryz.pinned (OpenSpec.upto meaningPartsSpec)

/-- 'gridwrightlaw20.MeaningMeetsSpec', WHERE WHAT IT READS IS OF BULK AT MOST 1048576: true; the input reads as it did. -/
def meaningMeetsSpecUptoRow : OpenClaim := { program := "ytpkieeggilkagaagreat", sum := "1bfd277593dbbf3772d0e2d0c7e9e301d59dee4a5eb851746486c2233d3eb999", func := "gridwright/gridwrightlaw20.MeaningMeetsSpec", spec := "meaningMeetsSpec", unfollowed := true, recurses := true, plainKeys := false, apart := false, narrowed := true }
def MeaningMeetsSpecUptoSaid : Prop := meaningMeetsSpecUptoRow.holds Tryz.pinned (OpenSpec.upto meaningMeetsSpecSpec)

/-- 'gridwrightlaw20.MeaningLocal', WHERE WHAT IT READS IS OF BULK AT MOST 1048576: true; the input reads as it did. -/
def meaningLocalUptoRow : OpenClaim := { program := "ytpkieeggilkagaagreat", sum := "1bfd277593dbbf3772d0e2d0c7e9e301d59dee4a5eb851746486c2233d3eb999", func := "gridwright/gridwrightlaw20.MeaningLocal", spec := "meaningLocal", unfollowed := true, recurses := true, plainKeys := false, apart := false, narrowed := true }
def MeaningLocalUptoSaid : Prop := meaningLocalUptoRow.holds Tryz.pinned (OpenSpec.upto meaningLocalSpec)

/-- 'gridwrightlaw20.MeaningConnected', WHERE WHAT IT READS IS OF BULK AT MOST 1048576: true; the input reads as it did. -/
def meaningConnectedUptoRow : OpenClaim := { program := "ytpkieeggilkagaagreat", sum := "1bfd277593dbbf3772d0e2d0c7e9e301d59dee4a5eb851746486c2233d3eb999", func := "gridwright/gridwrightlaw20.MeaningConnected", spec := "meaningConnected", unfollowed := true, recurses := true, plainKeys := false, apart := false, narrowed := true }
def MeaningConnectedUptoSaid : Prop := meaningConnectedUptoRow.holds Tryz.pinned (OpenSpec.upto meaningConnectedSpec)

/-- 'gridwrightlaw20.MeaningFewer', WHERE WHAT IT READS IS OF BULK AT MOST 1048576: true; the input reads as it did. -/
def meaningFewerUptoRow : OpenClaim := { program := "ytpkieeggilkagaagreat", sum := "1bfd277593dbbf3772d0e2d0c7e9e301d59dee4a5eb851746486c2233d3eb999", func := "gridwright/gridwrightlaw20.MeaningFewer", spec := "meaningFewer", unfollowed := true, recurses := true, plainKeys := false, apart := false, narrowed := true }
def MeaningFewerUptoSaid : Prop := meaningFewerUptoRow.holds Tryz.pinned (OpenSpec.upto meaningFewerSpec)

/-- 'gridwrightlaw20.MeaningSolves', WHERE WHAT IT READS IS OF BULK AT MOST 1048576: true; the input reads as it did. -/
def meaningSolvesUptoRow : OpenClaim := { program := "ytpkieeggilkagaagreat", sum := "1bfd277593dbbf3772d0e2d0c7e9e301d59dee4a5eb851746486c2233d3eb999", func := "gridwright/gridwrightlaw20.MeaningSolves", spec := "meaningSolves", unfollowed := true, recurses := true, plainKeys := false, apart := false, narrowed := true }
def MeaningSolvesUptoSaid : Prop := meaningSolvesUptoRow.holds Tryz.pinned (OpenSpec.upto meaningSolvesSpec)

/-- 'gridwrightlaw20.MeaningConstraints', WHERE WHAT IT READS IS OF BULK AT MOST 1048576: true; the input reads as it did. -/
def meaningConstraintsUptoRow : OpenClaim := { program := "ytpkieeggilkagaagreat", sum := "1bfd277593dbbf3772d0e2d0c7e9e301d59dee4a5eb851746486c2233d3eb999", func := "gridwright/gridwrightlaw20.MeaningConstraints", spec := "meaningConstraints", unfollowed := true, recurses := true, plainKeys := false, apart := false, narrowed := true }
def MeaningConstraintsUptoSaid : Prop := meaningConstraintsUptoRow.holds Tryz.pinned (OpenSpec.upto meaningConstraintsSpec)

end Rows
end Go.Proofs.YtpkieeggilkagaaGreat

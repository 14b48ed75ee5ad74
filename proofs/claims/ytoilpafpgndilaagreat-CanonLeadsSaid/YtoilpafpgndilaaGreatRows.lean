/-
  No cell of these rows narrows 'for every input' (looked for: loops, veiled, ifaces, maps, wideKeys, modest, calm, conditions, laid).
  DERIVED. THE GIVEN ROWS OF THIS SEAT. 7 by the template 'for every input the law returns true; each argument reads behind the call as it read before'; 0 by the template 'total and deterministic' (their statements: YtoilpafpgndilaaGreatTotals.lean).
  GIVEN WITH THE SEED: the statements are not yours to turn. If you find one false, say at which input.
  Laid BY PROGRAM, IN A SANDBOX (cutbox-rows.mjs): the forced cells as the released guide's own fill.sh prints them over the translation 157cbba9fb25a539… (all of the seat's roots in one cut). By AI agents, Wed Nov 11 2026. No macro, syntax, notation, axiom, sorry.
-/
import Derived.Test.YtoilpafpgndilaaGreatChecked
import GoSem.Claim
import GoSem.ClaimJoined
import GoSem.ClaimMapViews
import Derived.JoinedTies
import Derived.KernelRfl
namespace Go.Proofs.YtoilpafpgndilaaGreat
/- THE CELL 'sum', in the pinned program and in every row, IS THE sha256 OF THE DUMP (.gsa) THAT YtoilpafpgndilaaGreatProg.lean LOADS. Nothing in Lean hashes anything: it is a label: what it is worth is what the hold of that sum in a sandbox is worth. -/
noncomputable def Tryz.pinned : Pinned := { name := "ytoilpafpgndilaagreat", sum := "157cbba9fb25a539a6e1494cbdeb2a69e71f344fbafe6dac9bae351a04c81a0a", checked := Tryz.checked }
namespace Rows
def none {H : Type} : Left H := { results := [], args := [] }

/-- 'gridwrightlaw42.CanonOrder': WHATEVER THE INPUT: true; the input reads as it did. -/
def canonOrderSpec : ChangeSpec := { name := "canonOrder", fn := fun _ => fun
  | [d1, d2, d3] => { results := [.lit (.bool true)], args := [d1, d2, d3] }
  | _ => none }
def canonOrderRow : OpenClaim := { program := "ytoilpafpgndilaagreat", sum := "157cbba9fb25a539a6e1494cbdeb2a69e71f344fbafe6dac9bae351a04c81a0a", func := "gridwright/gridwrightlaw42.CanonOrder", spec := "canonOrder", unfollowed := true, recurses := true, plainKeys := false, apart := false }
def CanonOrderSaid : Prop := canonOrderRow.holds Tryz.pinned (OpenSpec.ofChange canonOrderSpec)

/-- ITS FALSE NEIGHBOUR: 'it returns false'. Refute it at one input. -/
def canonOrderWrong : ChangeSpec := { name := "canonOrder", fn := fun _ => fun
  | [d1, d2, d3] => { results := [.lit (.bool false)], args := [d1, d2, d3] }
  | _ => none }
def CanonOrderWrongFalsely : Prop := canonOrderRow.holds Tryz.pinned (OpenSpec.ofChange canonOrderWrong)

/-- 'gridwrightlaw42.CanonRenameSpec': WHATEVER THE INPUT: true; the input reads as it did. -/
def canonRenameSpecSpec : ChangeSpec := { name := "canonRenameSpec", fn := fun _ => fun
  | [d1, d2, d3] => { results := [.lit (.bool true)], args := [d1, d2, d3] }
  | _ => none }
def canonRenameSpecRow : OpenClaim := { program := "ytoilpafpgndilaagreat", sum := "157cbba9fb25a539a6e1494cbdeb2a69e71f344fbafe6dac9bae351a04c81a0a", func := "gridwright/gridwrightlaw42.CanonRenameSpec", spec := "canonRenameSpec", unfollowed := true, recurses := true, plainKeys := false, apart := false }
def CanonRenameSpecSaid : Prop := canonRenameSpecRow.holds Tryz.pinned (OpenSpec.ofChange canonRenameSpecSpec)

/-- ITS FALSE NEIGHBOUR: 'it returns false'. Refute it at one input. -/
def canonRenameSpecWrong : ChangeSpec := { name := "canonRenameSpec", fn := fun _ => fun
  | [d1, d2, d3] => { results := [.lit (.bool false)], args := [d1, d2, d3] }
  | _ => none }
def CanonRenameSpecWrongFalsely : Prop := canonRenameSpecRow.holds Tryz.pinned (OpenSpec.ofChange canonRenameSpecWrong)

/-- 'gridwrightlaw42.CanonSpec': WHATEVER THE INPUT: true; the input reads as it did. -/
def canonSpecSpec : ChangeSpec := { name := "canonSpec", fn := fun _ => fun
  | [d1, d2, d3] => { results := [.lit (.bool true)], args := [d1, d2, d3] }
  | _ => none }
def canonSpecRow : OpenClaim := { program := "ytoilpafpgndilaagreat", sum := "157cbba9fb25a539a6e1494cbdeb2a69e71f344fbafe6dac9bae351a04c81a0a", func := "gridwright/gridwrightlaw42.CanonSpec", spec := "canonSpec", unfollowed := true, recurses := true, plainKeys := false, apart := false }
def CanonSpecSaid : Prop := canonSpecRow.holds Tryz.pinned (OpenSpec.ofChange canonSpecSpec)

/-- ITS FALSE NEIGHBOUR: 'it returns false'. Refute it at one input. -/
def canonSpecWrong : ChangeSpec := { name := "canonSpec", fn := fun _ => fun
  | [d1, d2, d3] => { results := [.lit (.bool false)], args := [d1, d2, d3] }
  | _ => none }
def CanonSpecWrongFalsely : Prop := canonSpecRow.holds Tryz.pinned (OpenSpec.ofChange canonSpecWrong)

/-- 'gridwrightlaw42.CanonRenamed': WHATEVER THE INPUT: true; the input reads as it did. -/
def canonRenamedSpec : ChangeSpec := { name := "canonRenamed", fn := fun _ => fun
  | [d1, d2, d3, d4] => { results := [.lit (.bool true)], args := [d1, d2, d3, d4] }
  | _ => none }
def canonRenamedRow : OpenClaim := { program := "ytoilpafpgndilaagreat", sum := "157cbba9fb25a539a6e1494cbdeb2a69e71f344fbafe6dac9bae351a04c81a0a", func := "gridwright/gridwrightlaw42.CanonRenamed", spec := "canonRenamed", unfollowed := true, recurses := true, plainKeys := false, apart := false }
def CanonRenamedSaid : Prop := canonRenamedRow.holds Tryz.pinned (OpenSpec.ofChange canonRenamedSpec)

/-- ITS FALSE NEIGHBOUR: 'it returns false'. Refute it at one input. -/
def canonRenamedWrong : ChangeSpec := { name := "canonRenamed", fn := fun _ => fun
  | [d1, d2, d3, d4] => { results := [.lit (.bool false)], args := [d1, d2, d3, d4] }
  | _ => none }
def CanonRenamedWrongFalsely : Prop := canonRenamedRow.holds Tryz.pinned (OpenSpec.ofChange canonRenamedWrong)

/-- 'gridwrightlaw42.CanonImages': WHATEVER THE INPUT: true; the input reads as it did. -/
def canonImagesSpec : ChangeSpec := { name := "canonImages", fn := fun _ => fun
  | [d1, d2, d3, d4] => { results := [.lit (.bool true)], args := [d1, d2, d3, d4] }
  | _ => none }
def canonImagesRow : OpenClaim := { program := "ytoilpafpgndilaagreat", sum := "157cbba9fb25a539a6e1494cbdeb2a69e71f344fbafe6dac9bae351a04c81a0a", func := "gridwright/gridwrightlaw42.CanonImages", spec := "canonImages", inPlace := ["slices.overlaps[[]int]"], unfollowed := true, recurses := true, plainKeys := false, apart := false }
def CanonImagesSaid : Prop := canonImagesRow.holds Tryz.pinned (OpenSpec.ofChange canonImagesSpec)

/-- ITS FALSE NEIGHBOUR: 'it returns false'. Refute it at one input. -/
def canonImagesWrong : ChangeSpec := { name := "canonImages", fn := fun _ => fun
  | [d1, d2, d3, d4] => { results := [.lit (.bool false)], args := [d1, d2, d3, d4] }
  | _ => none }
def CanonImagesWrongFalsely : Prop := canonImagesRow.holds Tryz.pinned (OpenSpec.ofChange canonImagesWrong)

/-- 'gridwrightlaw42.CanonLeads': WHATEVER THE INPUT: true; the input reads as it did. -/
def canonLeadsSpec : ChangeSpec := { name := "canonLeads", fn := fun _ => fun
  | [d1, d2, d3, d4] => { results := [.lit (.bool true)], args := [d1, d2, d3, d4] }
  | _ => none }
def canonLeadsRow : OpenClaim := { program := "ytoilpafpgndilaagreat", sum := "157cbba9fb25a539a6e1494cbdeb2a69e71f344fbafe6dac9bae351a04c81a0a", func := "gridwright/gridwrightlaw42.CanonLeads", spec := "canonLeads", inPlace := ["slices.overlaps[[]int]"], unfollowed := true, recurses := true, plainKeys := false, apart := false }
def CanonLeadsSaid : Prop := canonLeadsRow.holds Tryz.pinned (OpenSpec.ofChange canonLeadsSpec)

/-- ITS FALSE NEIGHBOUR: 'it returns false'. Refute it at one input. -/
def canonLeadsWrong : ChangeSpec := { name := "canonLeads", fn := fun _ => fun
  | [d1, d2, d3, d4] => { results := [.lit (.bool false)], args := [d1, d2, d3, d4] }
  | _ => none }
def CanonLeadsWrongFalsely : Prop := canonLeadsRow.holds Tryz.pinned (OpenSpec.ofChange canonLeadsWrong)

/-- 'gridwrightlaw42.CanonBack': WHATEVER THE INPUT: true; the input reads as it did. -/
def canonBackSpec : ChangeSpec := { name := "canonBack", fn := fun _ => fun
  | [d1, d2, d3] => { results := [.lit (.bool true)], args := [d1, d2, d3] }
  | _ => none }
def canonBackRow : OpenClaim := { program := "ytoilpafpgndilaagreat", sum := "157cbba9fb25a539a6e1494cbdeb2a69e71f344fbafe6dac9bae351a04c81a0a", func := "gridwright/gridwrightlaw42.CanonBack", spec := "canonBack", inPlace := ["slices.overlaps[[]int]"], unfollowed := true, recurses := true, plainKeys := false, apart := false }
def CanonBackSaid : Prop := canonBackRow.holds Tryz.pinned (OpenSpec.ofChange canonBackSpec)

/-- ITS FALSE NEIGHBOUR: 'it returns false'. Refute it at one input. -/
def canonBackWrong : ChangeSpec := { name := "canonBack", fn := fun _ => fun
  | [d1, d2, d3] => { results := [.lit (.bool false)], args := [d1, d2, d3] }
  | _ => none }
def CanonBackWrongFalsely : Prop := canonBackRow.holds Tryz.pinned (OpenSpec.ofChange canonBackWrong)

/- THE SECOND FORM. 'bulk': how many values and letters a reading holds, each counted each time it is reached (what is shared counts as often as it is met; a slice's spare places count too). A statement '..UptoSaid' is the law's where the arguments, and the package variables that the reading takes, are together of bulk at most 1048576: NARROWER than '..Said'. Prove '..Said' where nothing that the law and all that it calls make is longer than what came in: it says more and counts as full. Else prove '..UptoSaid'. A law counts once. -/
mutual
def uptoBulk {H : Type} : DataW H → Nat
  | .lit (.string bytes) => bytes.length + 1
  | .lit _ => 1
  | .nil => 1
  | .ptr d => uptoBulk d + 1
  | .slice elems spare => uptoBulkAll elems + uptoBulkAll spare + 1
  | .agg parts => uptoBulkAll parts + 1
  | .iface _ d => uptoBulk d + 1
  | .map entries => uptoBulkEntries entries + 1
  | .held _ => 1
def uptoBulkAll {H : Type} : List (DataW H) → Nat
  | [] => 0
  | d :: r => uptoBulk d + uptoBulkAll r
def uptoBulkEntries {H : Type} : List (Lit × DataW H) → Nat
  | [] => 0
  | x :: r => uptoBulkEntry x + uptoBulkEntries r
def uptoBulkEntry {H : Type} : Lit × DataW H → Nat
  | (.string bytes, d) => bytes.length + uptoBulk d + 1
  | (_, d) => uptoBulk d + 1
 end
def uptoSmall : (H : Type) → List (DataW H) → Bool := fun _ ds => decide (uptoBulkAll ds ≤ 1048576)
def OpenSpec.upto (s : _root_.Go.ChangeSpec) : _root_.Go.OpenSpec := { _root_.Go.OpenSpec.ofChange s with cond := some uptoSmall }

/-- 'gridwrightlaw42.CanonOrder', WHERE WHAT IT READS IS OF BULK AT MOST 1048576: true; the input reads as it did. -/
def canonOrderUptoRow : OpenClaim := { program := "ytoilpafpgndilaagreat", sum := "157cbba9fb25a539a6e1494cbdeb2a69e71f344fbafe6dac9bae351a04c81a0a", func := "gridwright/gridwrightlaw42.CanonOrder", spec := "canonOrder", unfollowed := true, recurses := true, plainKeys := false, apart := false, narrowed := true }
def CanonOrderUptoSaid : Prop := canonOrderUptoRow.holds Tryz.pinned (OpenSpec.upto canonOrderSpec)

/-- 'gridwrightlaw42.CanonRenameSpec', WHERE WHAT IT READS IS OF BULK AT MOST 1048576: true; the input reads as it did. -/
def canonRenameSpecUptoRow : OpenClaim := { program := "ytoilpafpgndilaagreat", sum := "157cbba9fb25a539a6e1494cbdeb2a69e71f344fbafe6dac9bae351a04c81a0a", func := "gridwright/gridwrightlaw42.CanonRenameSpec", spec := "canonRenameSpec", unfollowed := true, recurses := true, plainKeys := false, apart := false, narrowed := true }
def CanonRenameSpecUptoSaid : Prop := canonRenameSpecUptoRow.holds Tryz.pinned (OpenSpec.upto canonRenameSpecSpec)

/-- 'gridwrightlaw42.CanonSpec', WHERE WHAT IT READS IS OF BULK AT MOST 1048576: true; the input reads as it did. -/
def canonSpecUptoRow : OpenClaim := { program := "ytoilpafpgndilaagreat", sum := "157cbba9fb25a539a6e1494cbdeb2a69e71f344fbafe6dac9bae351a04c81a0a", func := "gridwright/gridwrightlaw42.CanonSpec", spec := "canonSpec", unfollowed := true, recurses := true, plainKeys := false, apart := false, narrowed := true }
def CanonSpecUptoSaid : Prop := canonSpecUptoRow.holds Tryz.pinned (OpenSpec.upto canonSpecSpec)

/-- 'gridwrightlaw42.CanonRenamed', WHERE WHAT IT READS IS OF BULK AT MOST 1048576: true; the input reads as it did. -/
def canonRenamedUptoRow : OpenClaim := { program := "ytoilpafpgndilaagreat", sum := "157cbba9fb25a539a6e1494cbdeb2a69e71f344fbafe6dac9bae351a04c81a0a", func := "gridwright/gridwrightlaw42.CanonRenamed", spec := "canonRenamed", unfollowed := true, recurses := true, plainKeys := false, apart := false, narrowed := true }
def CanonRenamedUptoSaid : Prop := canonRenamedUptoRow.holds Tryz.pinned (OpenSpec.upto canonRenamedSpec)

/-- 'gridwrightlaw42.CanonImages', WHERE WHAT IT READS IS OF BULK AT MOST 1048576: true; the input reads as it did. -/
def canonImagesUptoRow : OpenClaim := { program := "ytoilpafpgndilaagreat", sum := "157cbba9fb25a539a6e1494cbdeb2a69e71f344fbafe6dac9bae351a04c81a0a", func := "gridwright/gridwrightlaw42.CanonImages", spec := "canonImages", inPlace := ["slices.overlaps[[]int]"], unfollowed := true, recurses := true, plainKeys := false, apart := false, narrowed := true }
def CanonImagesUptoSaid : Prop := canonImagesUptoRow.holds Tryz.pinned (OpenSpec.upto canonImagesSpec)

/-- 'gridwrightlaw42.CanonLeads', WHERE WHAT IT READS IS OF BULK AT MOST 1048576: true; the input reads as it did. -/
def canonLeadsUptoRow : OpenClaim := { program := "ytoilpafpgndilaagreat", sum := "157cbba9fb25a539a6e1494cbdeb2a69e71f344fbafe6dac9bae351a04c81a0a", func := "gridwright/gridwrightlaw42.CanonLeads", spec := "canonLeads", inPlace := ["slices.overlaps[[]int]"], unfollowed := true, recurses := true, plainKeys := false, apart := false, narrowed := true }
def CanonLeadsUptoSaid : Prop := canonLeadsUptoRow.holds Tryz.pinned (OpenSpec.upto canonLeadsSpec)

/-- 'gridwrightlaw42.CanonBack', WHERE WHAT IT READS IS OF BULK AT MOST 1048576: true; the input reads as it did. -/
def canonBackUptoRow : OpenClaim := { program := "ytoilpafpgndilaagreat", sum := "157cbba9fb25a539a6e1494cbdeb2a69e71f344fbafe6dac9bae351a04c81a0a", func := "gridwright/gridwrightlaw42.CanonBack", spec := "canonBack", inPlace := ["slices.overlaps[[]int]"], unfollowed := true, recurses := true, plainKeys := false, apart := false, narrowed := true }
def CanonBackUptoSaid : Prop := canonBackUptoRow.holds Tryz.pinned (OpenSpec.upto canonBackSpec)

end Rows
end Go.Proofs.YtoilpafpgndilaaGreat

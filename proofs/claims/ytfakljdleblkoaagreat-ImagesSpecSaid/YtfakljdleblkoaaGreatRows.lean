/-
  No cell of these rows narrows 'for every input' (looked for: loops, veiled, ifaces, maps, wideKeys, modest, calm, conditions, laid).
  DERIVED. THE GIVEN ROWS OF THIS SEAT. 7 by the template 'for every input the law returns true; each argument reads behind the call as it read before'; 0 by the template 'total and deterministic' (their statements: YtfakljdleblkoaaGreatTotals.lean).
  GIVEN WITH THE SEED: the statements are not yours to turn. If you find one false, say at which input.
  Laid BY PROGRAM, IN A SANDBOX (cutbox-rows.mjs): the forced cells as the released guide's own fill.sh prints them over the translation c9a911f9c467c788… (all of the seat's roots in one cut). By AI agents, Wed Nov 11 2026. No macro, syntax, notation, axiom, sorry.
-/
import Derived.Test.YtfakljdleblkoaaGreatChecked
import GoSem.Claim
import GoSem.ClaimJoined
import GoSem.ClaimMapViews
import Derived.JoinedTies
import Derived.KernelRfl
namespace Go.Proofs.YtfakljdleblkoaaGreat
/- THE CELL 'sum', in the pinned program and in every row, IS THE sha256 OF THE DUMP (.gsa) THAT YtfakljdleblkoaaGreatProg.lean LOADS. Nothing in Lean hashes anything: it is a label: what it is worth is what the hold of that sum in a sandbox is worth. -/
noncomputable def Tryz.pinned : Pinned := { name := "ytfakljdleblkoaagreat", sum := "c9a911f9c467c788cca83015d0a312e3ff2efdbc4eb15b188aa0d4fbaf3cdd12", checked := Tryz.checked }
namespace Rows
def none {H : Type} : Left H := { results := [], args := [] }

/-- 'gridwrightlaw24.ImagesCheckSpec': WHATEVER THE INPUT: true; the input reads as it did. -/
def imagesCheckSpecSpec : ChangeSpec := { name := "imagesCheckSpec", fn := fun _ => fun
  | [d1, d2] => { results := [.lit (.bool true)], args := [d1, d2] }
  | _ => none }
def imagesCheckSpecRow : OpenClaim := { program := "ytfakljdleblkoaagreat", sum := "c9a911f9c467c788cca83015d0a312e3ff2efdbc4eb15b188aa0d4fbaf3cdd12", func := "gridwright/gridwrightlaw24.ImagesCheckSpec", spec := "imagesCheckSpec", unfollowed := true, recurses := true, plainKeys := false, apart := false }
def ImagesCheckSpecSaid : Prop := imagesCheckSpecRow.holds Tryz.pinned (OpenSpec.ofChange imagesCheckSpecSpec)

/-- ITS FALSE NEIGHBOUR: 'it returns false'. Refute it at one input. -/
def imagesCheckSpecWrong : ChangeSpec := { name := "imagesCheckSpec", fn := fun _ => fun
  | [d1, d2] => { results := [.lit (.bool false)], args := [d1, d2] }
  | _ => none }
def ImagesCheckSpecWrongFalsely : Prop := imagesCheckSpecRow.holds Tryz.pinned (OpenSpec.ofChange imagesCheckSpecWrong)

/-- 'gridwrightlaw24.ImagesComposeSpec': WHATEVER THE INPUT: true; the input reads as it did. -/
def imagesComposeSpecSpec : ChangeSpec := { name := "imagesComposeSpec", fn := fun _ => fun
  | [d1, d2] => { results := [.lit (.bool true)], args := [d1, d2] }
  | _ => none }
def imagesComposeSpecRow : OpenClaim := { program := "ytfakljdleblkoaagreat", sum := "c9a911f9c467c788cca83015d0a312e3ff2efdbc4eb15b188aa0d4fbaf3cdd12", func := "gridwright/gridwrightlaw24.ImagesComposeSpec", spec := "imagesComposeSpec", unfollowed := true, recurses := true, plainKeys := false, apart := false }
def ImagesComposeSpecSaid : Prop := imagesComposeSpecRow.holds Tryz.pinned (OpenSpec.ofChange imagesComposeSpecSpec)

/-- ITS FALSE NEIGHBOUR: 'it returns false'. Refute it at one input. -/
def imagesComposeSpecWrong : ChangeSpec := { name := "imagesComposeSpec", fn := fun _ => fun
  | [d1, d2] => { results := [.lit (.bool false)], args := [d1, d2] }
  | _ => none }
def ImagesComposeSpecWrongFalsely : Prop := imagesComposeSpecRow.holds Tryz.pinned (OpenSpec.ofChange imagesComposeSpecWrong)

/-- 'gridwrightlaw24.ImagesSpec': WHATEVER THE INPUT: true; the input reads as it did. -/
def imagesSpecSpec : ChangeSpec := { name := "imagesSpec", fn := fun _ => fun
  | [d1, d2, d3, d4] => { results := [.lit (.bool true)], args := [d1, d2, d3, d4] }
  | _ => none }
def imagesSpecRow : OpenClaim := { program := "ytfakljdleblkoaagreat", sum := "c9a911f9c467c788cca83015d0a312e3ff2efdbc4eb15b188aa0d4fbaf3cdd12", func := "gridwright/gridwrightlaw24.ImagesSpec", spec := "imagesSpec", unfollowed := true, recurses := true, plainKeys := false, apart := false }
def ImagesSpecSaid : Prop := imagesSpecRow.holds Tryz.pinned (OpenSpec.ofChange imagesSpecSpec)

/-- ITS FALSE NEIGHBOUR: 'it returns false'. Refute it at one input. -/
def imagesSpecWrong : ChangeSpec := { name := "imagesSpec", fn := fun _ => fun
  | [d1, d2, d3, d4] => { results := [.lit (.bool false)], args := [d1, d2, d3, d4] }
  | _ => none }
def ImagesSpecWrongFalsely : Prop := imagesSpecRow.holds Tryz.pinned (OpenSpec.ofChange imagesSpecWrong)

/-- 'gridwrightlaw24.ImagesBack': WHATEVER THE INPUT: true; the input reads as it did. -/
def imagesBackSpec : ChangeSpec := { name := "imagesBack", fn := fun _ => fun
  | [d1, d2, d3, d4] => { results := [.lit (.bool true)], args := [d1, d2, d3, d4] }
  | _ => none }
def imagesBackRow : OpenClaim := { program := "ytfakljdleblkoaagreat", sum := "c9a911f9c467c788cca83015d0a312e3ff2efdbc4eb15b188aa0d4fbaf3cdd12", func := "gridwright/gridwrightlaw24.ImagesBack", spec := "imagesBack", unfollowed := true, recurses := true, plainKeys := false, apart := false }
def ImagesBackSaid : Prop := imagesBackRow.holds Tryz.pinned (OpenSpec.ofChange imagesBackSpec)

/-- ITS FALSE NEIGHBOUR: 'it returns false'. Refute it at one input. -/
def imagesBackWrong : ChangeSpec := { name := "imagesBack", fn := fun _ => fun
  | [d1, d2, d3, d4] => { results := [.lit (.bool false)], args := [d1, d2, d3, d4] }
  | _ => none }
def ImagesBackWrongFalsely : Prop := imagesBackRow.holds Tryz.pinned (OpenSpec.ofChange imagesBackWrong)

/-- 'gridwrightlaw24.ImagesCompose': WHATEVER THE INPUT: true; the input reads as it did. -/
def imagesComposeSpec : ChangeSpec := { name := "imagesCompose", fn := fun _ => fun
  | [d1, d2, d3, d4, d5] => { results := [.lit (.bool true)], args := [d1, d2, d3, d4, d5] }
  | _ => none }
def imagesComposeRow : OpenClaim := { program := "ytfakljdleblkoaagreat", sum := "c9a911f9c467c788cca83015d0a312e3ff2efdbc4eb15b188aa0d4fbaf3cdd12", func := "gridwright/gridwrightlaw24.ImagesCompose", spec := "imagesCompose", unfollowed := true, recurses := true, plainKeys := false, apart := false }
def ImagesComposeSaid : Prop := imagesComposeRow.holds Tryz.pinned (OpenSpec.ofChange imagesComposeSpec)

/-- ITS FALSE NEIGHBOUR: 'it returns false'. Refute it at one input. -/
def imagesComposeWrong : ChangeSpec := { name := "imagesCompose", fn := fun _ => fun
  | [d1, d2, d3, d4, d5] => { results := [.lit (.bool false)], args := [d1, d2, d3, d4, d5] }
  | _ => none }
def ImagesComposeWrongFalsely : Prop := imagesComposeRow.holds Tryz.pinned (OpenSpec.ofChange imagesComposeWrong)

/-- 'gridwrightlaw24.ImagesClues': WHATEVER THE INPUT: true; the input reads as it did. -/
def imagesCluesSpec : ChangeSpec := { name := "imagesClues", fn := fun _ => fun
  | [d1, d2, d3] => { results := [.lit (.bool true)], args := [d1, d2, d3] }
  | _ => none }
def imagesCluesRow : OpenClaim := { program := "ytfakljdleblkoaagreat", sum := "c9a911f9c467c788cca83015d0a312e3ff2efdbc4eb15b188aa0d4fbaf3cdd12", func := "gridwright/gridwrightlaw24.ImagesClues", spec := "imagesClues", unfollowed := true, recurses := true, plainKeys := false, apart := false }
def ImagesCluesSaid : Prop := imagesCluesRow.holds Tryz.pinned (OpenSpec.ofChange imagesCluesSpec)

/-- ITS FALSE NEIGHBOUR: 'it returns false'. Refute it at one input. -/
def imagesCluesWrong : ChangeSpec := { name := "imagesClues", fn := fun _ => fun
  | [d1, d2, d3] => { results := [.lit (.bool false)], args := [d1, d2, d3] }
  | _ => none }
def ImagesCluesWrongFalsely : Prop := imagesCluesRow.holds Tryz.pinned (OpenSpec.ofChange imagesCluesWrong)

/-- 'gridwrightlaw24.ImagesSolutions': WHATEVER THE INPUT: true; the input reads as it did. -/
def imagesSolutionsSpec : ChangeSpec := { name := "imagesSolutions", fn := fun _ => fun
  | [d1, d2, d3, d4] => { results := [.lit (.bool true)], args := [d1, d2, d3, d4] }
  | _ => none }
def imagesSolutionsRow : OpenClaim := { program := "ytfakljdleblkoaagreat", sum := "c9a911f9c467c788cca83015d0a312e3ff2efdbc4eb15b188aa0d4fbaf3cdd12", func := "gridwright/gridwrightlaw24.ImagesSolutions", spec := "imagesSolutions", unfollowed := true, recurses := true, plainKeys := false, apart := false }
def ImagesSolutionsSaid : Prop := imagesSolutionsRow.holds Tryz.pinned (OpenSpec.ofChange imagesSolutionsSpec)

/-- ITS FALSE NEIGHBOUR: 'it returns false'. Refute it at one input. -/
def imagesSolutionsWrong : ChangeSpec := { name := "imagesSolutions", fn := fun _ => fun
  | [d1, d2, d3, d4] => { results := [.lit (.bool false)], args := [d1, d2, d3, d4] }
  | _ => none }
def ImagesSolutionsWrongFalsely : Prop := imagesSolutionsRow.holds Tryz.pinned (OpenSpec.ofChange imagesSolutionsWrong)

/- THE SECOND FORM. 'bulk': how many values and letters a reading holds, each counted each time it is reached (what is shared counts as often as it is met; a slice's spare places count too). A statement '..UptoSaid' is the law's where the arguments, and the package variables that the reading takes, are together of bulk at most 1048576: NARROWER than '..Said'. Prove '..Said' where nothing that the law and all that it calls make is longer than what came in: it says more and counts as full. Else prove '..UptoSaid'. A law counts once. -/
mutual
def uptoBulk {H : Type} : DataW H → Nat
  | .lit (.string bytes) => bytes.length + 1
  | .lit _ => 1
  | .nil => 1
  | .ptr d => uptoBulk d + 1
  | .slice elems spare => uptoBulkAll elems + uptoBulkAll spare + 1
  | .agg parts => uptoBulkAll parts + 1
  | .iface _ d => uptoBulk d + 1
  | .map entries => uptoBulkEntries entries + 1
  | .held _ => 1
def uptoBulkAll {H : Type} : List (DataW H) → Nat
  | [] => 0
  | d :: r => uptoBulk d + uptoBulkAll r
def uptoBulkEntries {H : Type} : List (Lit × DataW H) → Nat
  | [] => 0
  | x :: r => uptoBulkEntry x + uptoBulkEntries r
def uptoBulkEntry {H : Type} : Lit × DataW H → Nat
  | (.string bytes, d) => bytes.length + uptoBulk d + 1
  | (_, d) => uptoBulk d + 1
 end
def uptoSmall : (H : Type) → List (DataW H) → Bool := fun _ ds => decide (uptoBulkAll ds ≤ 1048576)
def OpenSpec.upto (s : _root_.Go.ChangeSpec) : _root_.Go.OpenSpec := { _root_.Go.OpenSpec.ofChange s with cond := some uptoSmall }

/-- 'gridwrightlaw24.ImagesCheckSpec', WHERE WHAT IT READS IS OF BULK AT MOST 1048576: true; the input reads as it did. -/
def imagesCheckSpecUptoRow : OpenClaim := { program := "ytfakljdleblkoaagreat", sum := "c9a911f9c467c788cca83015d0a312e3ff2efdbc4eb15b188aa0d4fbaf3cdd12", func := "gridwright/gridwrightlaw24.ImagesCheckSpec", spec := "imagesCheckSpec", unfollowed := true, recurses := true, plainKeys := false, apart := false, narrowed := true }
def ImagesCheckSpecUptoSaid : Prop := imagesCheckSpecUptoRow.holds Tryz.pinned (OpenSpec.upto imagesCheckSpecSpec)

/-- 'gridwrightlaw24.ImagesComposeSpec', WHERE WHAT IT READS IS OF BULK AT MOST 1048576: true; the input reads as it did. -/
def imagesComposeSpecUptoRow : OpenClaim := { program := "ytfakljdleblkoaagreat", sum := "c9a911f9c467c788cca83015d0a312e3ff2efdbc4eb15b188aa0d4fbaf3cdd12", func := "gridwright/gridwrightlaw24.ImagesComposeSpec", spec := "imagesComposeSpec", unfollowed := true, recurses := true, plainKeys := false, apart := false, narrowed := true }
def ImagesComposeSpecUptoSaid : Prop := imagesComposeSpecUptoRow.holds Tryz.pinned (OpenSpec.upto imagesComposeSpecSpec)

/-- 'gridwrightlaw24.ImagesSpec', WHERE WHAT IT READS IS OF BULK AT MOST 1048576: true; the input reads as it did. -/
def imagesSpecUptoRow : OpenClaim := { program := "ytfakljdleblkoaagreat", sum := "c9a911f9c467c788cca83015d0a312e3ff2efdbc4eb15b188aa0d4fbaf3cdd12", func := "gridwright/gridwrightlaw24.ImagesSpec", spec := "imagesSpec", unfollowed := true, recurses := true, plainKeys := false, apart := false, narrowed := true }
def ImagesSpecUptoSaid : Prop := imagesSpecUptoRow.holds Tryz.pinned (OpenSpec.upto imagesSpecSpec)

/-- 'gridwrightlaw24.ImagesBack', WHERE WHAT IT READS IS OF BULK AT MOST 1048576: true; the input reads as it did. -/
def imagesBackUptoRow : OpenClaim := { program := "ytfakljdleblkoaagreat", sum := "c9a911f9c467c788cca83015d0a312e3ff2efdbc4eb15b188aa0d4fbaf3cdd12", func := "gridwright/gridwrightlaw24.ImagesBack", spec := "imagesBack", unfollowed := true, recurses := true, plainKeys := false, apart := false, narrowed := true }
def ImagesBackUptoSaid : Prop := imagesBackUptoRow.holds Tryz.pinned (OpenSpec.upto imagesBackSpec)

/-- 'gridwrightlaw24.ImagesCompose', WHERE WHAT IT READS IS OF BULK AT MOST 1048576: true; the input reads as it did. -/
def imagesComposeUptoRow : OpenClaim := { program := "ytfakljdleblkoaagreat", sum := "c9a911f9c467c788cca83015d0a312e3ff2efdbc4eb15b188aa0d4fbaf3cdd12", func := "gridwright/gridwrightlaw24.ImagesCompose", spec := "imagesCompose", unfollowed := true, recurses := true, plainKeys := false, apart := false, narrowed := true }
def ImagesComposeUptoSaid : Prop := imagesComposeUptoRow.holds Tryz.pinned (OpenSpec.upto imagesComposeSpec)

/-- 'gridwrightlaw24.ImagesClues', WHERE WHAT IT READS IS OF BULK AT MOST 1048576: true; the input reads as it did. -/
def imagesCluesUptoRow : OpenClaim := { program := "ytfakljdleblkoaagreat", sum := "c9a911f9c467c788cca83015d0a312e3ff2efdbc4eb15b188aa0d4fbaf3cdd12", func := "gridwright/gridwrightlaw24.ImagesClues", spec := "imagesClues", unfollowed := true, recurses := true, plainKeys := false, apart := false, narrowed := true }
def ImagesCluesUptoSaid : Prop := imagesCluesUptoRow.holds Tryz.pinned (OpenSpec.upto imagesCluesSpec)

/-- 'gridwrightlaw24.ImagesSolutions', WHERE WHAT IT READS IS OF BULK AT MOST 1048576: true; the input reads as it did. -/
def imagesSolutionsUptoRow : OpenClaim := { program := "ytfakljdleblkoaagreat", sum := "c9a911f9c467c788cca83015d0a312e3ff2efdbc4eb15b188aa0d4fbaf3cdd12", func := "gridwright/gridwrightlaw24.ImagesSolutions", spec := "imagesSolutions", unfollowed := true, recurses := true, plainKeys := false, apart := false, narrowed := true }
def ImagesSolutionsUptoSaid : Prop := imagesSolutionsUptoRow.holds Tryz.pinned (OpenSpec.upto imagesSolutionsSpec)

end Rows
end Go.Proofs.YtfakljdleblkoaaGreat

/-
  DERIVED. GIVEN WITH THE SEED: THE CARDS: each row of YtignbinlipkmfaaGreatDoorRows.lean that lists a variable, with what it lists TIED to the program's text (the seventh form; the later family's looks); each row that meets fmt, with fmt's text TOLD by the authors' own Lean function (tested against real Go, not proved from fmt's source: count such statements apart). THE CARD IS WHAT COUNTS. Prove the row's statement (the work); the ties are given (YtignbinlipkmfaaGreatDoorTie.lean); close each card by the builder's one call (the guide's Derived/Test/ToyasCard.lean, 'card_holds'). Laid BY PROGRAM, IN A SANDBOX (cutbox-door.mjs). By AI agents, Wed Nov 11 2026. No macro, syntax, notation, axiom, sorry.
-/
import Derived.Test.YtignbinlipkmfaaGreatDoorRows
import GoSem.ClaimSeven
namespace Go.Proofs.YtignbinlipkmfaaGreatDoor
namespace Rows

/-- THE TIED CARD OF 'gridwrightlaw23.GroupSpec'. -/
def groupSpecCard : Claim7 := { stood := { row := groupSpecRow, standIns := [], harness := (true, "2912620c3b82116fe3ba6a5bfbd87c9244eabad90778a40bf60e0b467efd5cac"), looks := true }, kinds := [], alts := [], laidByText := true, laidKinds := [.data, .data, .data, .sentinel, .sentinel], laidTests := true, laidLooks := .later }
def GroupSpecCardSaid : Prop := Claim7.holds Tryz.pinned (.plain (OpenSpec.ofChange groupSpecSpec)) groupSpecCard

/-- THE TIED CARD OF 'gridwrightlaw23.GroupKeepsSpec'. -/
def groupKeepsSpecCard : Claim7 := { stood := { row := groupKeepsSpecRow, standIns := [], harness := (true, "2912620c3b82116fe3ba6a5bfbd87c9244eabad90778a40bf60e0b467efd5cac"), looks := true }, kinds := [], alts := [], laidByText := true, laidKinds := [.data, .data, .data, .sentinel, .sentinel], laidTests := true, laidLooks := .later }
def GroupKeepsSpecCardSaid : Prop := Claim7.holds Tryz.pinned (.plain (OpenSpec.ofChange groupKeepsSpecSpec)) groupKeepsSpecCard

/-- THE TIED CARD OF 'gridwrightlaw23.GroupKept'. -/
def groupKeptCard : Claim7 := { stood := { row := groupKeptRow, standIns := [], harness := (true, "2912620c3b82116fe3ba6a5bfbd87c9244eabad90778a40bf60e0b467efd5cac"), looks := true }, kinds := [], alts := [], laidByText := true, laidKinds := [.data, .data, .data, .sentinel, .sentinel], laidTests := true, laidLooks := .later }
def GroupKeptCardSaid : Prop := Claim7.holds Tryz.pinned (.plain (OpenSpec.ofChange groupKeptSpec)) groupKeptCard

/-- THE TIED CARD OF 'gridwrightlaw23.GroupClasses'. -/
def groupClassesCard : Claim7 := { stood := { row := groupClassesRow, standIns := [], harness := (true, "2912620c3b82116fe3ba6a5bfbd87c9244eabad90778a40bf60e0b467efd5cac"), looks := true }, kinds := [], alts := [], laidByText := true, laidKinds := [.data, .data, .data, .sentinel, .sentinel], laidTests := true, laidLooks := .later }
def GroupClassesCardSaid : Prop := Claim7.holds Tryz.pinned (.plain (OpenSpec.ofChange groupClassesSpec)) groupClassesCard

/-- THE TIED CARD OF 'gridwrightlaw23.GroupRules'. -/
def groupRulesCard : Claim7 := { stood := { row := groupRulesRow, standIns := [], harness := (true, "2912620c3b82116fe3ba6a5bfbd87c9244eabad90778a40bf60e0b467efd5cac"), looks := true }, kinds := [], alts := [], laidByText := true, laidKinds := [.data, .data, .data, .sentinel, .sentinel], laidTests := true, laidLooks := .later }
def GroupRulesCardSaid : Prop := Claim7.holds Tryz.pinned (.plain (OpenSpec.ofChange groupRulesSpec)) groupRulesCard

/-- THE TIED CARD OF 'gridwrightlaw23.GroupCloses'. -/
def groupClosesCard : Claim7 := { stood := { row := groupClosesRow, standIns := [], harness := (true, "2912620c3b82116fe3ba6a5bfbd87c9244eabad90778a40bf60e0b467efd5cac"), looks := true }, kinds := [], alts := [], laidByText := true, laidKinds := [.data, .data, .data, .sentinel, .sentinel], laidTests := true, laidLooks := .later }
def GroupClosesCardSaid : Prop := Claim7.holds Tryz.pinned (.plain (OpenSpec.ofChange groupClosesSpec)) groupClosesCard

/-- THE SECOND FORM's CARD OF 'gridwrightlaw23.GroupSpec'. -/
def groupSpecUptoCard : Claim7 := { stood := { row := groupSpecUptoRow, standIns := [], harness := (true, "2912620c3b82116fe3ba6a5bfbd87c9244eabad90778a40bf60e0b467efd5cac"), looks := true }, kinds := [], alts := [], laidByText := true, laidKinds := [.data, .data, .data, .sentinel, .sentinel], laidTests := true, laidLooks := .later }
def GroupSpecUptoCardSaid : Prop := Claim7.holds Tryz.pinned (.plain (OpenSpec.upto groupSpecSpec)) groupSpecUptoCard

/-- THE SECOND FORM's CARD OF 'gridwrightlaw23.GroupKeepsSpec'. -/
def groupKeepsSpecUptoCard : Claim7 := { stood := { row := groupKeepsSpecUptoRow, standIns := [], harness := (true, "2912620c3b82116fe3ba6a5bfbd87c9244eabad90778a40bf60e0b467efd5cac"), looks := true }, kinds := [], alts := [], laidByText := true, laidKinds := [.data, .data, .data, .sentinel, .sentinel], laidTests := true, laidLooks := .later }
def GroupKeepsSpecUptoCardSaid : Prop := Claim7.holds Tryz.pinned (.plain (OpenSpec.upto groupKeepsSpecSpec)) groupKeepsSpecUptoCard

/-- THE SECOND FORM's CARD OF 'gridwrightlaw23.GroupKept'. -/
def groupKeptUptoCard : Claim7 := { stood := { row := groupKeptUptoRow, standIns := [], harness := (true, "2912620c3b82116fe3ba6a5bfbd87c9244eabad90778a40bf60e0b467efd5cac"), looks := true }, kinds := [], alts := [], laidByText := true, laidKinds := [.data, .data, .data, .sentinel, .sentinel], laidTests := true, laidLooks := .later }
def GroupKeptUptoCardSaid : Prop := Claim7.holds Tryz.pinned (.plain (OpenSpec.upto groupKeptSpec)) groupKeptUptoCard

/-- THE SECOND FORM's CARD OF 'gridwrightlaw23.GroupClasses'. -/
def groupClassesUptoCard : Claim7 := { stood := { row := groupClassesUptoRow, standIns := [], harness := (true, "2912620c3b82116fe3ba6a5bfbd87c9244eabad90778a40bf60e0b467efd5cac"), looks := true }, kinds := [], alts := [], laidByText := true, laidKinds := [.data, .data, .data, .sentinel, .sentinel], laidTests := true, laidLooks := .later }
def GroupClassesUptoCardSaid : Prop := Claim7.holds Tryz.pinned (.plain (OpenSpec.upto groupClassesSpec)) groupClassesUptoCard

/-- THE SECOND FORM's CARD OF 'gridwrightlaw23.GroupRules'. -/
def groupRulesUptoCard : Claim7 := { stood := { row := groupRulesUptoRow, standIns := [], harness := (true, "2912620c3b82116fe3ba6a5bfbd87c9244eabad90778a40bf60e0b467efd5cac"), looks := true }, kinds := [], alts := [], laidByText := true, laidKinds := [.data, .data, .data, .sentinel, .sentinel], laidTests := true, laidLooks := .later }
def GroupRulesUptoCardSaid : Prop := Claim7.holds Tryz.pinned (.plain (OpenSpec.upto groupRulesSpec)) groupRulesUptoCard

/-- THE SECOND FORM's CARD OF 'gridwrightlaw23.GroupCloses'. -/
def groupClosesUptoCard : Claim7 := { stood := { row := groupClosesUptoRow, standIns := [], harness := (true, "2912620c3b82116fe3ba6a5bfbd87c9244eabad90778a40bf60e0b467efd5cac"), looks := true }, kinds := [], alts := [], laidByText := true, laidKinds := [.data, .data, .data, .sentinel, .sentinel], laidTests := true, laidLooks := .later }
def GroupClosesUptoCardSaid : Prop := Claim7.holds Tryz.pinned (.plain (OpenSpec.upto groupClosesSpec)) groupClosesUptoCard
end Rows
end Go.Proofs.YtignbinlipkmfaaGreatDoor

/-
  DERIVED. GIVEN WITH THE SEED: THE CARDS: each row of YtoohgkkmdnbnfaaGreatDoorRows.lean that lists a variable, with what it lists TIED to the program's text (the seventh form; the later family's looks); each row that meets fmt, with fmt's text TOLD by the authors' own Lean function (tested against real Go, not proved from fmt's source: count such statements apart). THE CARD IS WHAT COUNTS. Prove the row's statement (the work); the ties are given (YtoohgkkmdnbnfaaGreatDoorTie.lean); close each card by the builder's one call (the guide's Derived/Test/ToyasCard.lean, 'card_holds'). Laid BY PROGRAM, IN A SANDBOX (cutbox-door.mjs). By AI agents, Wed Nov 11 2026. No macro, syntax, notation, axiom, sorry.
-/
import Derived.Test.YtoohgkkmdnbnfaaGreatDoorRows
import GoSem.ClaimSeven
namespace Go.Proofs.YtoohgkkmdnbnfaaGreatDoor
namespace Rows

/-- THE TIED CARD OF 'gridwrightlaw19.PuzzlesSpec'. -/
def puzzlesSpecCard : Claim7 := { stood := { row := puzzlesSpecRow, standIns := [], harness := (true, "2941863587496d5c17aab5443e0acf468e780cb3dba0cd4a05c5c52affc88693"), looks := true }, kinds := [], alts := [], laidByText := true, laidKinds := [.data, .data, .data, .sentinel, .sentinel], laidTests := true, laidLooks := .later }
def PuzzlesSpecCardSaid : Prop := Claim7.holds Tryz.pinned (.plain (OpenSpec.ofChange puzzlesSpecSpec)) puzzlesSpecCard

/-- THE TIED CARD OF 'gridwrightlaw19.PuzzlesSortSpec'. -/
def puzzlesSortSpecCard : Claim7 := { stood := { row := puzzlesSortSpecRow, standIns := [], harness := (true, "2941863587496d5c17aab5443e0acf468e780cb3dba0cd4a05c5c52affc88693"), looks := true }, kinds := [], alts := [], laidByText := true, laidKinds := [.data, .data, .data, .sentinel, .sentinel], laidTests := true, laidLooks := .later }
def PuzzlesSortSpecCardSaid : Prop := Claim7.holds Tryz.pinned (.plain (OpenSpec.ofChange puzzlesSortSpecSpec)) puzzlesSortSpecCard

/-- THE TIED CARD OF 'gridwrightlaw19.PuzzlesProblemSpec'. -/
def puzzlesProblemSpecCard : Claim7 := { stood := { row := puzzlesProblemSpecRow, standIns := [], harness := (true, "2941863587496d5c17aab5443e0acf468e780cb3dba0cd4a05c5c52affc88693"), looks := true }, kinds := [], alts := [], laidByText := true, laidKinds := [.data, .data, .data, .sentinel, .sentinel], laidTests := true, laidLooks := .later }
def PuzzlesProblemSpecCardSaid : Prop := Claim7.holds Tryz.pinned (.plain (OpenSpec.ofChange puzzlesProblemSpecSpec)) puzzlesProblemSpecCard

/-- THE TIED CARD OF 'gridwrightlaw19.PuzzlesValidSpec'. -/
def puzzlesValidSpecCard : Claim7 := { stood := { row := puzzlesValidSpecRow, standIns := [], harness := (true, "2941863587496d5c17aab5443e0acf468e780cb3dba0cd4a05c5c52affc88693"), looks := true }, kinds := [], alts := [], laidByText := true, laidKinds := [.data, .data, .data, .sentinel, .sentinel], laidTests := true, laidLooks := .later }
def PuzzlesValidSpecCardSaid : Prop := Claim7.holds Tryz.pinned (.plain (OpenSpec.ofChange puzzlesValidSpecSpec)) puzzlesValidSpecCard

/-- THE TIED CARD OF 'gridwrightlaw19.PuzzlesSorted'. -/
def puzzlesSortedCard : Claim7 := { stood := { row := puzzlesSortedRow, standIns := [], harness := (true, "2941863587496d5c17aab5443e0acf468e780cb3dba0cd4a05c5c52affc88693"), looks := true }, kinds := [], alts := [], laidByText := true, laidKinds := [.data, .data, .data, .sentinel, .sentinel], laidTests := true, laidLooks := .later }
def PuzzlesSortedCardSaid : Prop := Claim7.holds Tryz.pinned (.plain (OpenSpec.ofChange puzzlesSortedSpec)) puzzlesSortedCard

/-- THE TIED CARD OF 'gridwrightlaw19.PuzzlesAlone'. -/
def puzzlesAloneCard : Claim7 := { stood := { row := puzzlesAloneRow, standIns := [], harness := (true, "2941863587496d5c17aab5443e0acf468e780cb3dba0cd4a05c5c52affc88693"), looks := true }, kinds := [], alts := [], laidByText := true, laidKinds := [.data, .data, .data, .sentinel, .sentinel], laidTests := true, laidLooks := .later }
def PuzzlesAloneCardSaid : Prop := Claim7.holds Tryz.pinned (.plain (OpenSpec.ofChange puzzlesAloneSpec)) puzzlesAloneCard

/-- THE TIED CARD OF 'gridwrightlaw19.PuzzlesLists'. -/
def puzzlesListsCard : Claim7 := { stood := { row := puzzlesListsRow, standIns := [], harness := (true, "2941863587496d5c17aab5443e0acf468e780cb3dba0cd4a05c5c52affc88693"), looks := true }, kinds := [], alts := [], laidByText := true, laidKinds := [.data, .data, .data, .sentinel, .sentinel], laidTests := true, laidLooks := .later }
def PuzzlesListsCardSaid : Prop := Claim7.holds Tryz.pinned (.plain (OpenSpec.ofChange puzzlesListsSpec)) puzzlesListsCard

/-- THE SECOND FORM's CARD OF 'gridwrightlaw19.PuzzlesSpec'. -/
def puzzlesSpecUptoCard : Claim7 := { stood := { row := puzzlesSpecUptoRow, standIns := [], harness := (true, "2941863587496d5c17aab5443e0acf468e780cb3dba0cd4a05c5c52affc88693"), looks := true }, kinds := [], alts := [], laidByText := true, laidKinds := [.data, .data, .data, .sentinel, .sentinel], laidTests := true, laidLooks := .later }
def PuzzlesSpecUptoCardSaid : Prop := Claim7.holds Tryz.pinned (.plain (OpenSpec.upto puzzlesSpecSpec)) puzzlesSpecUptoCard

/-- THE SECOND FORM's CARD OF 'gridwrightlaw19.PuzzlesSortSpec'. -/
def puzzlesSortSpecUptoCard : Claim7 := { stood := { row := puzzlesSortSpecUptoRow, standIns := [], harness := (true, "2941863587496d5c17aab5443e0acf468e780cb3dba0cd4a05c5c52affc88693"), looks := true }, kinds := [], alts := [], laidByText := true, laidKinds := [.data, .data, .data, .sentinel, .sentinel], laidTests := true, laidLooks := .later }
def PuzzlesSortSpecUptoCardSaid : Prop := Claim7.holds Tryz.pinned (.plain (OpenSpec.upto puzzlesSortSpecSpec)) puzzlesSortSpecUptoCard

/-- THE SECOND FORM's CARD OF 'gridwrightlaw19.PuzzlesProblemSpec'. -/
def puzzlesProblemSpecUptoCard : Claim7 := { stood := { row := puzzlesProblemSpecUptoRow, standIns := [], harness := (true, "2941863587496d5c17aab5443e0acf468e780cb3dba0cd4a05c5c52affc88693"), looks := true }, kinds := [], alts := [], laidByText := true, laidKinds := [.data, .data, .data, .sentinel, .sentinel], laidTests := true, laidLooks := .later }
def PuzzlesProblemSpecUptoCardSaid : Prop := Claim7.holds Tryz.pinned (.plain (OpenSpec.upto puzzlesProblemSpecSpec)) puzzlesProblemSpecUptoCard

/-- THE SECOND FORM's CARD OF 'gridwrightlaw19.PuzzlesValidSpec'. -/
def puzzlesValidSpecUptoCard : Claim7 := { stood := { row := puzzlesValidSpecUptoRow, standIns := [], harness := (true, "2941863587496d5c17aab5443e0acf468e780cb3dba0cd4a05c5c52affc88693"), looks := true }, kinds := [], alts := [], laidByText := true, laidKinds := [.data, .data, .data, .sentinel, .sentinel], laidTests := true, laidLooks := .later }
def PuzzlesValidSpecUptoCardSaid : Prop := Claim7.holds Tryz.pinned (.plain (OpenSpec.upto puzzlesValidSpecSpec)) puzzlesValidSpecUptoCard

/-- THE SECOND FORM's CARD OF 'gridwrightlaw19.PuzzlesSorted'. -/
def puzzlesSortedUptoCard : Claim7 := { stood := { row := puzzlesSortedUptoRow, standIns := [], harness := (true, "2941863587496d5c17aab5443e0acf468e780cb3dba0cd4a05c5c52affc88693"), looks := true }, kinds := [], alts := [], laidByText := true, laidKinds := [.data, .data, .data, .sentinel, .sentinel], laidTests := true, laidLooks := .later }
def PuzzlesSortedUptoCardSaid : Prop := Claim7.holds Tryz.pinned (.plain (OpenSpec.upto puzzlesSortedSpec)) puzzlesSortedUptoCard

/-- THE SECOND FORM's CARD OF 'gridwrightlaw19.PuzzlesAlone'. -/
def puzzlesAloneUptoCard : Claim7 := { stood := { row := puzzlesAloneUptoRow, standIns := [], harness := (true, "2941863587496d5c17aab5443e0acf468e780cb3dba0cd4a05c5c52affc88693"), looks := true }, kinds := [], alts := [], laidByText := true, laidKinds := [.data, .data, .data, .sentinel, .sentinel], laidTests := true, laidLooks := .later }
def PuzzlesAloneUptoCardSaid : Prop := Claim7.holds Tryz.pinned (.plain (OpenSpec.upto puzzlesAloneSpec)) puzzlesAloneUptoCard

/-- THE SECOND FORM's CARD OF 'gridwrightlaw19.PuzzlesLists'. -/
def puzzlesListsUptoCard : Claim7 := { stood := { row := puzzlesListsUptoRow, standIns := [], harness := (true, "2941863587496d5c17aab5443e0acf468e780cb3dba0cd4a05c5c52affc88693"), looks := true }, kinds := [], alts := [], laidByText := true, laidKinds := [.data, .data, .data, .sentinel, .sentinel], laidTests := true, laidLooks := .later }
def PuzzlesListsUptoCardSaid : Prop := Claim7.holds Tryz.pinned (.plain (OpenSpec.upto puzzlesListsSpec)) puzzlesListsUptoCard
end Rows
end Go.Proofs.YtoohgkkmdnbnfaaGreatDoor

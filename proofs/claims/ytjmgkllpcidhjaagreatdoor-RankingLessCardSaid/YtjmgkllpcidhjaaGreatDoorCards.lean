/-
  DERIVED. GIVEN WITH THE SEED: THE CARDS: each row of YtjmgkllpcidhjaaGreatDoorRows.lean that lists a variable, with what it lists TIED to the program's text (the seventh form; the later family's looks); each row that meets fmt, with fmt's text TOLD by the authors' own Lean function (tested against real Go, not proved from fmt's source: count such statements apart). THE CARD IS WHAT COUNTS. Prove the row's statement (the work); the ties are given (YtjmgkllpcidhjaaGreatDoorTie.lean); close each card by the builder's one call (the guide's Derived/Test/ToyasCard.lean, 'card_holds'). Laid BY PROGRAM, IN A SANDBOX (cutbox-door.mjs). By AI agents, Wed Nov 11 2026. No macro, syntax, notation, axiom, sorry.
-/
import Derived.Test.YtjmgkllpcidhjaaGreatDoorRows
import GoSem.ClaimSeven
namespace Go.Proofs.YtjmgkllpcidhjaaGreatDoor
namespace Rows

/-- THE TIED CARD OF 'gridwrightlaw53.RankingExactSpec'. -/
def rankingExactSpecCard : Claim7 := { stood := { row := rankingExactSpecRow, standIns := [], harness := (true, "ac27d6285d9f4eda7933cc8d8430f154070a3baaaf59ed9fd39eff99f9697c61"), looks := true }, kinds := [], alts := [], laidByText := true, laidKinds := [.data, .data, .data], laidTests := true, laidLooks := .later }
def RankingExactSpecCardSaid : Prop := Claim7.holds Tryz.pinned (.plain (OpenSpec.ofChange rankingExactSpecSpec)) rankingExactSpecCard

/-- THE TIED CARD OF 'gridwrightlaw53.RankingOrdersSpec'. -/
def rankingOrdersSpecCard : Claim7 := { stood := { row := rankingOrdersSpecRow, standIns := [], harness := (true, "ac27d6285d9f4eda7933cc8d8430f154070a3baaaf59ed9fd39eff99f9697c61"), looks := true }, kinds := [], alts := [], laidByText := true, laidKinds := [.data, .data, .data], laidTests := true, laidLooks := .later }
def RankingOrdersSpecCardSaid : Prop := Claim7.holds Tryz.pinned (.plain (OpenSpec.ofChange rankingOrdersSpecSpec)) rankingOrdersSpecCard

/-- THE TIED CARD OF 'gridwrightlaw53.RankingSpec'. -/
def rankingSpecCard : Claim7 := { stood := { row := rankingSpecRow, standIns := [], harness := (true, "ac27d6285d9f4eda7933cc8d8430f154070a3baaaf59ed9fd39eff99f9697c61"), looks := true }, kinds := [], alts := [], laidByText := true, laidKinds := [.data, .data, .data], laidTests := true, laidLooks := .later }
def RankingSpecCardSaid : Prop := Claim7.holds Tryz.pinned (.plain (OpenSpec.ofChange rankingSpecSpec)) rankingSpecCard

/-- THE TIED CARD OF 'gridwrightlaw53.RankingCovers'. -/
def rankingCoversCard : Claim7 := { stood := { row := rankingCoversRow, standIns := [], harness := (true, "ac27d6285d9f4eda7933cc8d8430f154070a3baaaf59ed9fd39eff99f9697c61"), looks := true }, kinds := [], alts := [], laidByText := true, laidKinds := [.data, .data, .data], laidTests := true, laidLooks := .later }
def RankingCoversCardSaid : Prop := Claim7.holds Tryz.pinned (.plain (OpenSpec.ofChange rankingCoversSpec)) rankingCoversCard

/-- THE TIED CARD OF 'gridwrightlaw53.RankingTight'. -/
def rankingTightCard : Claim7 := { stood := { row := rankingTightRow, standIns := [], harness := (true, "ac27d6285d9f4eda7933cc8d8430f154070a3baaaf59ed9fd39eff99f9697c61"), looks := true }, kinds := [], alts := [], laidByText := true, laidKinds := [.data, .data, .data], laidTests := true, laidLooks := .later }
def RankingTightCardSaid : Prop := Claim7.holds Tryz.pinned (.plain (OpenSpec.ofChange rankingTightSpec)) rankingTightCard

/-- THE TIED CARD OF 'gridwrightlaw53.RankingSure'. -/
def rankingSureCard : Claim7 := { stood := { row := rankingSureRow, standIns := [], harness := (true, "ac27d6285d9f4eda7933cc8d8430f154070a3baaaf59ed9fd39eff99f9697c61"), looks := true }, kinds := [], alts := [], laidByText := true, laidKinds := [.data, .data, .data], laidTests := true, laidLooks := .later }
def RankingSureCardSaid : Prop := Claim7.holds Tryz.pinned (.plain (OpenSpec.ofChange rankingSureSpec)) rankingSureCard

/-- THE TIED CARD OF 'gridwrightlaw53.RankingLess'. -/
def rankingLessCard : Claim7 := { stood := { row := rankingLessRow, standIns := [], harness := (true, "ac27d6285d9f4eda7933cc8d8430f154070a3baaaf59ed9fd39eff99f9697c61"), looks := true }, kinds := [], alts := [], laidByText := true, laidKinds := [.data, .data, .data], laidTests := true, laidLooks := .later }
def RankingLessCardSaid : Prop := Claim7.holds Tryz.pinned (.plain (OpenSpec.ofChange rankingLessSpec)) rankingLessCard

/-- THE SECOND FORM's CARD OF 'gridwrightlaw53.RankingExactSpec'. -/
def rankingExactSpecUptoCard : Claim7 := { stood := { row := rankingExactSpecUptoRow, standIns := [], harness := (true, "ac27d6285d9f4eda7933cc8d8430f154070a3baaaf59ed9fd39eff99f9697c61"), looks := true }, kinds := [], alts := [], laidByText := true, laidKinds := [.data, .data, .data], laidTests := true, laidLooks := .later }
def RankingExactSpecUptoCardSaid : Prop := Claim7.holds Tryz.pinned (.plain (OpenSpec.upto rankingExactSpecSpec)) rankingExactSpecUptoCard

/-- THE SECOND FORM's CARD OF 'gridwrightlaw53.RankingOrdersSpec'. -/
def rankingOrdersSpecUptoCard : Claim7 := { stood := { row := rankingOrdersSpecUptoRow, standIns := [], harness := (true, "ac27d6285d9f4eda7933cc8d8430f154070a3baaaf59ed9fd39eff99f9697c61"), looks := true }, kinds := [], alts := [], laidByText := true, laidKinds := [.data, .data, .data], laidTests := true, laidLooks := .later }
def RankingOrdersSpecUptoCardSaid : Prop := Claim7.holds Tryz.pinned (.plain (OpenSpec.upto rankingOrdersSpecSpec)) rankingOrdersSpecUptoCard

/-- THE SECOND FORM's CARD OF 'gridwrightlaw53.RankingSpec'. -/
def rankingSpecUptoCard : Claim7 := { stood := { row := rankingSpecUptoRow, standIns := [], harness := (true, "ac27d6285d9f4eda7933cc8d8430f154070a3baaaf59ed9fd39eff99f9697c61"), looks := true }, kinds := [], alts := [], laidByText := true, laidKinds := [.data, .data, .data], laidTests := true, laidLooks := .later }
def RankingSpecUptoCardSaid : Prop := Claim7.holds Tryz.pinned (.plain (OpenSpec.upto rankingSpecSpec)) rankingSpecUptoCard

/-- THE SECOND FORM's CARD OF 'gridwrightlaw53.RankingCovers'. -/
def rankingCoversUptoCard : Claim7 := { stood := { row := rankingCoversUptoRow, standIns := [], harness := (true, "ac27d6285d9f4eda7933cc8d8430f154070a3baaaf59ed9fd39eff99f9697c61"), looks := true }, kinds := [], alts := [], laidByText := true, laidKinds := [.data, .data, .data], laidTests := true, laidLooks := .later }
def RankingCoversUptoCardSaid : Prop := Claim7.holds Tryz.pinned (.plain (OpenSpec.upto rankingCoversSpec)) rankingCoversUptoCard

/-- THE SECOND FORM's CARD OF 'gridwrightlaw53.RankingTight'. -/
def rankingTightUptoCard : Claim7 := { stood := { row := rankingTightUptoRow, standIns := [], harness := (true, "ac27d6285d9f4eda7933cc8d8430f154070a3baaaf59ed9fd39eff99f9697c61"), looks := true }, kinds := [], alts := [], laidByText := true, laidKinds := [.data, .data, .data], laidTests := true, laidLooks := .later }
def RankingTightUptoCardSaid : Prop := Claim7.holds Tryz.pinned (.plain (OpenSpec.upto rankingTightSpec)) rankingTightUptoCard

/-- THE SECOND FORM's CARD OF 'gridwrightlaw53.RankingSure'. -/
def rankingSureUptoCard : Claim7 := { stood := { row := rankingSureUptoRow, standIns := [], harness := (true, "ac27d6285d9f4eda7933cc8d8430f154070a3baaaf59ed9fd39eff99f9697c61"), looks := true }, kinds := [], alts := [], laidByText := true, laidKinds := [.data, .data, .data], laidTests := true, laidLooks := .later }
def RankingSureUptoCardSaid : Prop := Claim7.holds Tryz.pinned (.plain (OpenSpec.upto rankingSureSpec)) rankingSureUptoCard

/-- THE SECOND FORM's CARD OF 'gridwrightlaw53.RankingLess'. -/
def rankingLessUptoCard : Claim7 := { stood := { row := rankingLessUptoRow, standIns := [], harness := (true, "ac27d6285d9f4eda7933cc8d8430f154070a3baaaf59ed9fd39eff99f9697c61"), looks := true }, kinds := [], alts := [], laidByText := true, laidKinds := [.data, .data, .data], laidTests := true, laidLooks := .later }
def RankingLessUptoCardSaid : Prop := Claim7.holds Tryz.pinned (.plain (OpenSpec.upto rankingLessSpec)) rankingLessUptoCard
end Rows
end Go.Proofs.YtjmgkllpcidhjaaGreatDoor

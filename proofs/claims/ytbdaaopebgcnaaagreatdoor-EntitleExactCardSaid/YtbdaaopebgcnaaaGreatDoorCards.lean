/-
  DERIVED. GIVEN WITH THE SEED: THE CARDS: each row of YtbdaaopebgcnaaaGreatDoorRows.lean that lists a variable, with what it lists TIED to the program's text (the seventh form; the later family's looks); each row that meets fmt, with fmt's text TOLD by the authors' own Lean function (tested against real Go, not proved from fmt's source: count such statements apart). THE CARD IS WHAT COUNTS. Prove the row's statement (the work); the ties are given (YtbdaaopebgcnaaaGreatDoorTie.lean); close each card by the builder's one call (the guide's Derived/Test/ToyasCard.lean, 'card_holds'). Laid BY PROGRAM, IN A SANDBOX (cutbox-door.mjs). By AI agents, Wed Nov 11 2026. No macro, syntax, notation, axiom, sorry.
-/
import Derived.Test.YtbdaaopebgcnaaaGreatDoorRows
import GoSem.ClaimSeven
namespace Go.Proofs.YtbdaaopebgcnaaaGreatDoor
namespace Rows

/-- THE TIED CARD OF 'gridwrightlaw55.EntitlePrizesSpec'. -/
def entitlePrizesSpecCard : Claim7 := { stood := { row := entitlePrizesSpecRow, standIns := [], harness := (true, "a22f0107fc0752cd546ce125fbb7844e5c6b3afacb5fc3dfcad6ded541c8b118"), looks := true }, kinds := [], alts := [], laidByText := true, laidKinds := [.data, .data, .data], laidTests := true, laidLooks := .later }
def EntitlePrizesSpecCardSaid : Prop := Claim7.holds Tryz.pinned (.plain (OpenSpec.ofChange entitlePrizesSpecSpec)) entitlePrizesSpecCard

/-- THE TIED CARD OF 'gridwrightlaw55.EntitleExact'. -/
def entitleExactCard : Claim7 := { stood := { row := entitleExactRow, standIns := [], harness := (true, "a22f0107fc0752cd546ce125fbb7844e5c6b3afacb5fc3dfcad6ded541c8b118"), looks := true }, kinds := [], alts := [], laidByText := true, laidKinds := [.data, .data, .data], laidTests := true, laidLooks := .later }
def EntitleExactCardSaid : Prop := Claim7.holds Tryz.pinned (.plain (OpenSpec.ofChange entitleExactSpec)) entitleExactCard

/-- THE TIED CARD OF 'gridwrightlaw55.EntitleShared'. -/
def entitleSharedCard : Claim7 := { stood := { row := entitleSharedRow, standIns := [], harness := (true, "a22f0107fc0752cd546ce125fbb7844e5c6b3afacb5fc3dfcad6ded541c8b118"), looks := true }, kinds := [], alts := [], laidByText := true, laidKinds := [.data, .data, .data], laidTests := true, laidLooks := .later }
def EntitleSharedCardSaid : Prop := Claim7.holds Tryz.pinned (.plain (OpenSpec.ofChange entitleSharedSpec)) entitleSharedCard

/-- THE TIED CARD OF 'gridwrightlaw55.EntitleResolved'. -/
def entitleResolvedCard : Claim7 := { stood := { row := entitleResolvedRow, standIns := [], harness := (true, "a22f0107fc0752cd546ce125fbb7844e5c6b3afacb5fc3dfcad6ded541c8b118"), looks := true }, kinds := [], alts := [], laidByText := true, laidKinds := [.data, .data, .data], laidTests := true, laidLooks := .later }
def EntitleResolvedCardSaid : Prop := Claim7.holds Tryz.pinned (.plain (OpenSpec.ofChange entitleResolvedSpec)) entitleResolvedCard

/-- THE TIED CARD OF 'gridwrightlaw55.EntitleSure'. -/
def entitleSureCard : Claim7 := { stood := { row := entitleSureRow, standIns := [], harness := (true, "a22f0107fc0752cd546ce125fbb7844e5c6b3afacb5fc3dfcad6ded541c8b118"), looks := true }, kinds := [], alts := [], laidByText := true, laidKinds := [.data, .data, .data], laidTests := true, laidLooks := .later }
def EntitleSureCardSaid : Prop := Claim7.holds Tryz.pinned (.plain (OpenSpec.ofChange entitleSureSpec)) entitleSureCard

/-- THE SECOND FORM's CARD OF 'gridwrightlaw55.EntitlePrizesSpec'. -/
def entitlePrizesSpecUptoCard : Claim7 := { stood := { row := entitlePrizesSpecUptoRow, standIns := [], harness := (true, "a22f0107fc0752cd546ce125fbb7844e5c6b3afacb5fc3dfcad6ded541c8b118"), looks := true }, kinds := [], alts := [], laidByText := true, laidKinds := [.data, .data, .data], laidTests := true, laidLooks := .later }
def EntitlePrizesSpecUptoCardSaid : Prop := Claim7.holds Tryz.pinned (.plain (OpenSpec.upto entitlePrizesSpecSpec)) entitlePrizesSpecUptoCard

/-- THE SECOND FORM's CARD OF 'gridwrightlaw55.EntitleExact'. -/
def entitleExactUptoCard : Claim7 := { stood := { row := entitleExactUptoRow, standIns := [], harness := (true, "a22f0107fc0752cd546ce125fbb7844e5c6b3afacb5fc3dfcad6ded541c8b118"), looks := true }, kinds := [], alts := [], laidByText := true, laidKinds := [.data, .data, .data], laidTests := true, laidLooks := .later }
def EntitleExactUptoCardSaid : Prop := Claim7.holds Tryz.pinned (.plain (OpenSpec.upto entitleExactSpec)) entitleExactUptoCard

/-- THE SECOND FORM's CARD OF 'gridwrightlaw55.EntitleShared'. -/
def entitleSharedUptoCard : Claim7 := { stood := { row := entitleSharedUptoRow, standIns := [], harness := (true, "a22f0107fc0752cd546ce125fbb7844e5c6b3afacb5fc3dfcad6ded541c8b118"), looks := true }, kinds := [], alts := [], laidByText := true, laidKinds := [.data, .data, .data], laidTests := true, laidLooks := .later }
def EntitleSharedUptoCardSaid : Prop := Claim7.holds Tryz.pinned (.plain (OpenSpec.upto entitleSharedSpec)) entitleSharedUptoCard

/-- THE SECOND FORM's CARD OF 'gridwrightlaw55.EntitleResolved'. -/
def entitleResolvedUptoCard : Claim7 := { stood := { row := entitleResolvedUptoRow, standIns := [], harness := (true, "a22f0107fc0752cd546ce125fbb7844e5c6b3afacb5fc3dfcad6ded541c8b118"), looks := true }, kinds := [], alts := [], laidByText := true, laidKinds := [.data, .data, .data], laidTests := true, laidLooks := .later }
def EntitleResolvedUptoCardSaid : Prop := Claim7.holds Tryz.pinned (.plain (OpenSpec.upto entitleResolvedSpec)) entitleResolvedUptoCard

/-- THE SECOND FORM's CARD OF 'gridwrightlaw55.EntitleSure'. -/
def entitleSureUptoCard : Claim7 := { stood := { row := entitleSureUptoRow, standIns := [], harness := (true, "a22f0107fc0752cd546ce125fbb7844e5c6b3afacb5fc3dfcad6ded541c8b118"), looks := true }, kinds := [], alts := [], laidByText := true, laidKinds := [.data, .data, .data], laidTests := true, laidLooks := .later }
def EntitleSureUptoCardSaid : Prop := Claim7.holds Tryz.pinned (.plain (OpenSpec.upto entitleSureSpec)) entitleSureUptoCard
end Rows
end Go.Proofs.YtbdaaopebgcnaaaGreatDoor

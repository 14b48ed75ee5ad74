/-
  NARROWER THAN 'FOR EVERY INPUT', by the rows' own cells (each row's printed sentence says how): PuzzlesSpec: laid · PuzzlesSortSpec: laid · PuzzlesProblemSpec: laid · PuzzlesValidSpec: laid · PuzzlesSorted: laid · PuzzlesAlone: laid · PuzzlesLists: laid.
  DERIVED. THE GIVEN ROWS OF THIS SEAT. 7 by the template 'for every input the law returns true; each argument reads behind the call as it read before'; 0 by the template 'total and deterministic' (their statements: YtoohgkkmdnbnfaaGreatDoorTotals.lean).
  GIVEN WITH THE SEED: the statements are not yours to turn. If you find one false, say at which input.
  Laid BY PROGRAM, IN A SANDBOX (cutbox-rows.mjs): the forced cells as the released guide's own fill.sh prints them over the translation 0ab85b136ed3fbba… (all of the seat's roots in one cut). By AI agents, Wed Nov 11 2026. No macro, syntax, notation, axiom, sorry.
-/
import Derived.Test.YtoohgkkmdnbnfaaGreatDoorChecked
import GoSem.Claim
import GoSem.ClaimJoined
import GoSem.ClaimMapViews
import Derived.JoinedTies
import Derived.KernelRfl
namespace Go.Proofs.YtoohgkkmdnbnfaaGreatDoor
/- THE CELL 'sum', in the pinned program and in every row, IS THE sha256 OF THE DUMP (.gsa) THAT YtoohgkkmdnbnfaaGreatDoorProg.lean LOADS. Nothing in Lean hashes anything: it is a label: what it is worth is what the hold of that sum in a sandbox is worth. -/
noncomputable def Tryz.pinned : Pinned := { name := "ytoohgkkmdnbnfaagreatdoor", sum := "0ab85b136ed3fbba987bdd13f9917d8ce9c9c030cbf30e234941924c29978d60", checked := Tryz.checked }
namespace Rows
def none {H : Type} : Left H := { results := [], args := [] }

/- WHAT THE LISTED PACKAGE-LEVEL VARIABLES READ AS WHEN THE CALL BEGINS. Each datum BY PROGRAM (the guide's laid-datum.mjs) off the statement by which the dump's own 'gosem.cut.vars' lays the variable. In a bare row this is a premise. The card (YtoohgkkmdnbnfaaGreatDoorCards.lean) ties it to the program's text. -/
def laid_math_bits_deBruijn32tab {H : Type} : DataW H := .agg [.lit (.int .u8 0), .lit (.int .u8 1), .lit (.int .u8 28), .lit (.int .u8 2), .lit (.int .u8 29), .lit (.int .u8 14), .lit (.int .u8 24), .lit (.int .u8 3), .lit (.int .u8 30), .lit (.int .u8 22), .lit (.int .u8 20), .lit (.int .u8 15), .lit (.int .u8 25), .lit (.int .u8 17), .lit (.int .u8 4), .lit (.int .u8 8), .lit (.int .u8 31), .lit (.int .u8 27), .lit (.int .u8 13), .lit (.int .u8 23), .lit (.int .u8 21), .lit (.int .u8 19), .lit (.int .u8 16), .lit (.int .u8 7), .lit (.int .u8 26), .lit (.int .u8 12), .lit (.int .u8 18), .lit (.int .u8 6), .lit (.int .u8 11), .lit (.int .u8 5), .lit (.int .u8 10), .lit (.int .u8 9)]
def laid_math_bits_deBruijn64tab {H : Type} : DataW H := .agg [.lit (.int .u8 0), .lit (.int .u8 1), .lit (.int .u8 56), .lit (.int .u8 2), .lit (.int .u8 57), .lit (.int .u8 49), .lit (.int .u8 28), .lit (.int .u8 3), .lit (.int .u8 61), .lit (.int .u8 58), .lit (.int .u8 42), .lit (.int .u8 50), .lit (.int .u8 38), .lit (.int .u8 29), .lit (.int .u8 17), .lit (.int .u8 4), .lit (.int .u8 62), .lit (.int .u8 47), .lit (.int .u8 59), .lit (.int .u8 36), .lit (.int .u8 45), .lit (.int .u8 43), .lit (.int .u8 51), .lit (.int .u8 22), .lit (.int .u8 53), .lit (.int .u8 39), .lit (.int .u8 33), .lit (.int .u8 30), .lit (.int .u8 24), .lit (.int .u8 18), .lit (.int .u8 12), .lit (.int .u8 5), .lit (.int .u8 63), .lit (.int .u8 55), .lit (.int .u8 48), .lit (.int .u8 27), .lit (.int .u8 60), .lit (.int .u8 41), .lit (.int .u8 37), .lit (.int .u8 16), .lit (.int .u8 46), .lit (.int .u8 35), .lit (.int .u8 44), .lit (.int .u8 21), .lit (.int .u8 52), .lit (.int .u8 32), .lit (.int .u8 23), .lit (.int .u8 11), .lit (.int .u8 54), .lit (.int .u8 26), .lit (.int .u8 40), .lit (.int .u8 15), .lit (.int .u8 34), .lit (.int .u8 20), .lit (.int .u8 31), .lit (.int .u8 10), .lit (.int .u8 25), .lit (.int .u8 14), .lit (.int .u8 19), .lit (.int .u8 9), .lit (.int .u8 13), .lit (.int .u8 8), .lit (.int .u8 7), .lit (.int .u8 6)]
def laid_internal_strconv_uint64pow10 {H : Type} : DataW H := .agg [.lit (.int .u64 1), .lit (.int .u64 10), .lit (.int .u64 100), .lit (.int .u64 1000), .lit (.int .u64 10000), .lit (.int .u64 100000), .lit (.int .u64 1000000), .lit (.int .u64 10000000), .lit (.int .u64 100000000), .lit (.int .u64 1000000000), .lit (.int .u64 10000000000), .lit (.int .u64 100000000000), .lit (.int .u64 1000000000000), .lit (.int .u64 10000000000000), .lit (.int .u64 100000000000000), .lit (.int .u64 1000000000000000), .lit (.int .u64 10000000000000000), .lit (.int .u64 100000000000000000), .lit (.int .u64 1000000000000000000), .lit (.int .u64 10000000000000000000)]
def laid_strconv_ErrRange {H : Type} : DataW H := .iface "*errors.errorString" (.ptr (.agg [.lit (.string [118, 97, 108, 117, 101, 32, 111, 117, 116, 32, 111, 102, 32, 114, 97, 110, 103, 101])]))
def laid_strconv_ErrSyntax {H : Type} : DataW H := .iface "*errors.errorString" (.ptr (.agg [.lit (.string [105, 110, 118, 97, 108, 105, 100, 32, 115, 121, 110, 116, 97, 120])]))

/-- 'gridwrightlaw19.PuzzlesSpec': WHATEVER THE INPUT: true; the input reads as it did. -/
def puzzlesSpecSpec : ChangeSpec := { name := "puzzlesSpec", fn := fun _ => fun
  | [d1, d2, d3, d4] => { results := [.lit (.bool true)], args := [d1, d2, d3, d4] }
  | _ => none }
def puzzlesSpecRow : OpenClaim := { program := "ytoohgkkmdnbnfaagreatdoor", sum := "0ab85b136ed3fbba987bdd13f9917d8ce9c9c030cbf30e234941924c29978d60", func := "gridwright/gridwrightlaw19.PuzzlesSpec", spec := "puzzlesSpec", inPlace := ["internal/bytealg.IndexByteString"], unfollowed := true, recurses := true, named := ["strconv.ErrSyntax", "strconv.ErrRange", "internal/strconv.uint64pow10", "math/bits.deBruijn32tab", "math/bits.deBruijn64tab"], plainKeys := false, apart := false, laid := [("math/bits.deBruijn32tab", laid_math_bits_deBruijn32tab), ("math/bits.deBruijn64tab", laid_math_bits_deBruijn64tab), ("internal/strconv.uint64pow10", laid_internal_strconv_uint64pow10), ("strconv.ErrRange", laid_strconv_ErrRange), ("strconv.ErrSyntax", laid_strconv_ErrSyntax)] }
def PuzzlesSpecSaid : Prop := puzzlesSpecRow.holds Tryz.pinned (OpenSpec.ofChange puzzlesSpecSpec)

/-- ITS FALSE NEIGHBOUR: 'it returns false'. Refute it at one input. -/
def puzzlesSpecWrong : ChangeSpec := { name := "puzzlesSpec", fn := fun _ => fun
  | [d1, d2, d3, d4] => { results := [.lit (.bool false)], args := [d1, d2, d3, d4] }
  | _ => none }
def PuzzlesSpecWrongFalsely : Prop := puzzlesSpecRow.holds Tryz.pinned (OpenSpec.ofChange puzzlesSpecWrong)

/-- 'gridwrightlaw19.PuzzlesSortSpec': WHATEVER THE INPUT: true; the input reads as it did. -/
def puzzlesSortSpecSpec : ChangeSpec := { name := "puzzlesSortSpec", fn := fun _ => fun
  | [d] => { results := [.lit (.bool true)], args := [d] }
  | _ => none }
def puzzlesSortSpecRow : OpenClaim := { program := "ytoohgkkmdnbnfaagreatdoor", sum := "0ab85b136ed3fbba987bdd13f9917d8ce9c9c030cbf30e234941924c29978d60", func := "gridwright/gridwrightlaw19.PuzzlesSortSpec", spec := "puzzlesSortSpec", inPlace := ["internal/bytealg.IndexByteString"], unfollowed := true, recurses := true, named := ["strconv.ErrSyntax", "strconv.ErrRange", "internal/strconv.uint64pow10", "math/bits.deBruijn32tab", "math/bits.deBruijn64tab"], plainKeys := false, apart := false, laid := [("math/bits.deBruijn32tab", laid_math_bits_deBruijn32tab), ("math/bits.deBruijn64tab", laid_math_bits_deBruijn64tab), ("internal/strconv.uint64pow10", laid_internal_strconv_uint64pow10), ("strconv.ErrRange", laid_strconv_ErrRange), ("strconv.ErrSyntax", laid_strconv_ErrSyntax)] }
def PuzzlesSortSpecSaid : Prop := puzzlesSortSpecRow.holds Tryz.pinned (OpenSpec.ofChange puzzlesSortSpecSpec)

/-- ITS FALSE NEIGHBOUR: 'it returns false'. Refute it at one input. -/
def puzzlesSortSpecWrong : ChangeSpec := { name := "puzzlesSortSpec", fn := fun _ => fun
  | [d] => { results := [.lit (.bool false)], args := [d] }
  | _ => none }
def PuzzlesSortSpecWrongFalsely : Prop := puzzlesSortSpecRow.holds Tryz.pinned (OpenSpec.ofChange puzzlesSortSpecWrong)

/-- 'gridwrightlaw19.PuzzlesProblemSpec': WHATEVER THE INPUT: true; the input reads as it did. -/
def puzzlesProblemSpecSpec : ChangeSpec := { name := "puzzlesProblemSpec", fn := fun _ => fun
  | [d1, d2] => { results := [.lit (.bool true)], args := [d1, d2] }
  | _ => none }
def puzzlesProblemSpecRow : OpenClaim := { program := "ytoohgkkmdnbnfaagreatdoor", sum := "0ab85b136ed3fbba987bdd13f9917d8ce9c9c030cbf30e234941924c29978d60", func := "gridwright/gridwrightlaw19.PuzzlesProblemSpec", spec := "puzzlesProblemSpec", inPlace := ["internal/bytealg.IndexByteString"], unfollowed := true, recurses := true, named := ["strconv.ErrSyntax", "strconv.ErrRange", "internal/strconv.uint64pow10", "math/bits.deBruijn32tab", "math/bits.deBruijn64tab"], plainKeys := false, apart := false, laid := [("math/bits.deBruijn32tab", laid_math_bits_deBruijn32tab), ("math/bits.deBruijn64tab", laid_math_bits_deBruijn64tab), ("internal/strconv.uint64pow10", laid_internal_strconv_uint64pow10), ("strconv.ErrRange", laid_strconv_ErrRange), ("strconv.ErrSyntax", laid_strconv_ErrSyntax)] }
def PuzzlesProblemSpecSaid : Prop := puzzlesProblemSpecRow.holds Tryz.pinned (OpenSpec.ofChange puzzlesProblemSpecSpec)

/-- ITS FALSE NEIGHBOUR: 'it returns false'. Refute it at one input. -/
def puzzlesProblemSpecWrong : ChangeSpec := { name := "puzzlesProblemSpec", fn := fun _ => fun
  | [d1, d2] => { results := [.lit (.bool false)], args := [d1, d2] }
  | _ => none }
def PuzzlesProblemSpecWrongFalsely : Prop := puzzlesProblemSpecRow.holds Tryz.pinned (OpenSpec.ofChange puzzlesProblemSpecWrong)

/-- 'gridwrightlaw19.PuzzlesValidSpec': WHATEVER THE INPUT: true; the input reads as it did. -/
def puzzlesValidSpecSpec : ChangeSpec := { name := "puzzlesValidSpec", fn := fun _ => fun
  | [d1, d2, d3] => { results := [.lit (.bool true)], args := [d1, d2, d3] }
  | _ => none }
def puzzlesValidSpecRow : OpenClaim := { program := "ytoohgkkmdnbnfaagreatdoor", sum := "0ab85b136ed3fbba987bdd13f9917d8ce9c9c030cbf30e234941924c29978d60", func := "gridwright/gridwrightlaw19.PuzzlesValidSpec", spec := "puzzlesValidSpec", inPlace := ["internal/bytealg.IndexByteString"], unfollowed := true, recurses := true, named := ["strconv.ErrSyntax", "strconv.ErrRange", "internal/strconv.uint64pow10", "math/bits.deBruijn32tab", "math/bits.deBruijn64tab"], plainKeys := false, apart := false, laid := [("math/bits.deBruijn32tab", laid_math_bits_deBruijn32tab), ("math/bits.deBruijn64tab", laid_math_bits_deBruijn64tab), ("internal/strconv.uint64pow10", laid_internal_strconv_uint64pow10), ("strconv.ErrRange", laid_strconv_ErrRange), ("strconv.ErrSyntax", laid_strconv_ErrSyntax)] }
def PuzzlesValidSpecSaid : Prop := puzzlesValidSpecRow.holds Tryz.pinned (OpenSpec.ofChange puzzlesValidSpecSpec)

/-- ITS FALSE NEIGHBOUR: 'it returns false'. Refute it at one input. -/
def puzzlesValidSpecWrong : ChangeSpec := { name := "puzzlesValidSpec", fn := fun _ => fun
  | [d1, d2, d3] => { results := [.lit (.bool false)], args := [d1, d2, d3] }
  | _ => none }
def PuzzlesValidSpecWrongFalsely : Prop := puzzlesValidSpecRow.holds Tryz.pinned (OpenSpec.ofChange puzzlesValidSpecWrong)

/-- 'gridwrightlaw19.PuzzlesSorted': WHATEVER THE INPUT: true; the input reads as it did. -/
def puzzlesSortedSpec : ChangeSpec := { name := "puzzlesSorted", fn := fun _ => fun
  | [d1, d2] => { results := [.lit (.bool true)], args := [d1, d2] }
  | _ => none }
def puzzlesSortedRow : OpenClaim := { program := "ytoohgkkmdnbnfaagreatdoor", sum := "0ab85b136ed3fbba987bdd13f9917d8ce9c9c030cbf30e234941924c29978d60", func := "gridwright/gridwrightlaw19.PuzzlesSorted", spec := "puzzlesSorted", inPlace := ["internal/bytealg.IndexByteString"], unfollowed := true, recurses := true, named := ["strconv.ErrSyntax", "strconv.ErrRange", "internal/strconv.uint64pow10", "math/bits.deBruijn32tab", "math/bits.deBruijn64tab"], plainKeys := false, apart := false, laid := [("math/bits.deBruijn32tab", laid_math_bits_deBruijn32tab), ("math/bits.deBruijn64tab", laid_math_bits_deBruijn64tab), ("internal/strconv.uint64pow10", laid_internal_strconv_uint64pow10), ("strconv.ErrRange", laid_strconv_ErrRange), ("strconv.ErrSyntax", laid_strconv_ErrSyntax)] }
def PuzzlesSortedSaid : Prop := puzzlesSortedRow.holds Tryz.pinned (OpenSpec.ofChange puzzlesSortedSpec)

/-- ITS FALSE NEIGHBOUR: 'it returns false'. Refute it at one input. -/
def puzzlesSortedWrong : ChangeSpec := { name := "puzzlesSorted", fn := fun _ => fun
  | [d1, d2] => { results := [.lit (.bool false)], args := [d1, d2] }
  | _ => none }
def PuzzlesSortedWrongFalsely : Prop := puzzlesSortedRow.holds Tryz.pinned (OpenSpec.ofChange puzzlesSortedWrong)

/-- 'gridwrightlaw19.PuzzlesAlone': WHATEVER THE INPUT: true; the input reads as it did. -/
def puzzlesAloneSpec : ChangeSpec := { name := "puzzlesAlone", fn := fun _ => fun
  | [d1, d2, d3] => { results := [.lit (.bool true)], args := [d1, d2, d3] }
  | _ => none }
def puzzlesAloneRow : OpenClaim := { program := "ytoohgkkmdnbnfaagreatdoor", sum := "0ab85b136ed3fbba987bdd13f9917d8ce9c9c030cbf30e234941924c29978d60", func := "gridwright/gridwrightlaw19.PuzzlesAlone", spec := "puzzlesAlone", inPlace := ["internal/bytealg.IndexByteString"], unfollowed := true, recurses := true, named := ["strconv.ErrSyntax", "strconv.ErrRange", "internal/strconv.uint64pow10", "math/bits.deBruijn32tab", "math/bits.deBruijn64tab"], plainKeys := false, apart := false, laid := [("math/bits.deBruijn32tab", laid_math_bits_deBruijn32tab), ("math/bits.deBruijn64tab", laid_math_bits_deBruijn64tab), ("internal/strconv.uint64pow10", laid_internal_strconv_uint64pow10), ("strconv.ErrRange", laid_strconv_ErrRange), ("strconv.ErrSyntax", laid_strconv_ErrSyntax)] }
def PuzzlesAloneSaid : Prop := puzzlesAloneRow.holds Tryz.pinned (OpenSpec.ofChange puzzlesAloneSpec)

/-- ITS FALSE NEIGHBOUR: 'it returns false'. Refute it at one input. -/
def puzzlesAloneWrong : ChangeSpec := { name := "puzzlesAlone", fn := fun _ => fun
  | [d1, d2, d3] => { results := [.lit (.bool false)], args := [d1, d2, d3] }
  | _ => none }
def PuzzlesAloneWrongFalsely : Prop := puzzlesAloneRow.holds Tryz.pinned (OpenSpec.ofChange puzzlesAloneWrong)

/-- 'gridwrightlaw19.PuzzlesLists': WHATEVER THE INPUT: true; the input reads as it did. -/
def puzzlesListsSpec : ChangeSpec := { name := "puzzlesLists", fn := fun _ => fun
  | [d1, d2] => { results := [.lit (.bool true)], args := [d1, d2] }
  | _ => none }
def puzzlesListsRow : OpenClaim := { program := "ytoohgkkmdnbnfaagreatdoor", sum := "0ab85b136ed3fbba987bdd13f9917d8ce9c9c030cbf30e234941924c29978d60", func := "gridwright/gridwrightlaw19.PuzzlesLists", spec := "puzzlesLists", inPlace := ["internal/bytealg.IndexByteString"], unfollowed := true, recurses := true, named := ["strconv.ErrSyntax", "strconv.ErrRange", "internal/strconv.uint64pow10", "math/bits.deBruijn32tab", "math/bits.deBruijn64tab"], plainKeys := false, apart := false, laid := [("math/bits.deBruijn32tab", laid_math_bits_deBruijn32tab), ("math/bits.deBruijn64tab", laid_math_bits_deBruijn64tab), ("internal/strconv.uint64pow10", laid_internal_strconv_uint64pow10), ("strconv.ErrRange", laid_strconv_ErrRange), ("strconv.ErrSyntax", laid_strconv_ErrSyntax)] }
def PuzzlesListsSaid : Prop := puzzlesListsRow.holds Tryz.pinned (OpenSpec.ofChange puzzlesListsSpec)

/-- ITS FALSE NEIGHBOUR: 'it returns false'. Refute it at one input. -/
def puzzlesListsWrong : ChangeSpec := { name := "puzzlesLists", fn := fun _ => fun
  | [d1, d2] => { results := [.lit (.bool false)], args := [d1, d2] }
  | _ => none }
def PuzzlesListsWrongFalsely : Prop := puzzlesListsRow.holds Tryz.pinned (OpenSpec.ofChange puzzlesListsWrong)

/- THE SECOND FORM. 'bulk': how many values and letters a reading holds, each counted each time it is reached (what is shared counts as often as it is met; a slice's spare places count too). A statement '..UptoSaid' is the law's where the arguments, and the package variables that the reading takes, are together of bulk at most 1048576: NARROWER than '..Said'. Prove '..Said' where nothing that the law and all that it calls make is longer than what came in: it says more and counts as full. Else prove '..UptoSaid'. A law counts once. -/
mutual
def uptoBulk {H : Type} : DataW H → Nat
  | .lit (.string bytes) => bytes.length + 1
  | .lit _ => 1
  | .nil => 1
  | .ptr d => uptoBulk d + 1
  | .slice elems spare => uptoBulkAll elems + uptoBulkAll spare + 1
  | .agg parts => uptoBulkAll parts + 1
  | .iface _ d => uptoBulk d + 1
  | .map entries => uptoBulkEntries entries + 1
  | .held _ => 1
def uptoBulkAll {H : Type} : List (DataW H) → Nat
  | [] => 0
  | d :: r => uptoBulk d + uptoBulkAll r
def uptoBulkEntries {H : Type} : List (Lit × DataW H) → Nat
  | [] => 0
  | x :: r => uptoBulkEntry x + uptoBulkEntries r
def uptoBulkEntry {H : Type} : Lit × DataW H → Nat
  | (.string bytes, d) => bytes.length + uptoBulk d + 1
  | (_, d) => uptoBulk d + 1
 end
def uptoSmall : (H : Type) → List (DataW H) → Bool := fun _ ds => decide (uptoBulkAll ds ≤ 1048576)
def OpenSpec.upto (s : _root_.Go.ChangeSpec) : _root_.Go.OpenSpec := { _root_.Go.OpenSpec.ofChange s with cond := some uptoSmall }

/-- 'gridwrightlaw19.PuzzlesSpec', WHERE WHAT IT READS IS OF BULK AT MOST 1048576: true; the input reads as it did. -/
def puzzlesSpecUptoRow : OpenClaim := { program := "ytoohgkkmdnbnfaagreatdoor", sum := "0ab85b136ed3fbba987bdd13f9917d8ce9c9c030cbf30e234941924c29978d60", func := "gridwright/gridwrightlaw19.PuzzlesSpec", spec := "puzzlesSpec", inPlace := ["internal/bytealg.IndexByteString"], unfollowed := true, recurses := true, named := ["strconv.ErrSyntax", "strconv.ErrRange", "internal/strconv.uint64pow10", "math/bits.deBruijn32tab", "math/bits.deBruijn64tab"], plainKeys := false, apart := false, laid := [("math/bits.deBruijn32tab", laid_math_bits_deBruijn32tab), ("math/bits.deBruijn64tab", laid_math_bits_deBruijn64tab), ("internal/strconv.uint64pow10", laid_internal_strconv_uint64pow10), ("strconv.ErrRange", laid_strconv_ErrRange), ("strconv.ErrSyntax", laid_strconv_ErrSyntax)], narrowed := true }
def PuzzlesSpecUptoSaid : Prop := puzzlesSpecUptoRow.holds Tryz.pinned (OpenSpec.upto puzzlesSpecSpec)

/-- 'gridwrightlaw19.PuzzlesSortSpec', WHERE WHAT IT READS IS OF BULK AT MOST 1048576: true; the input reads as it did. -/
def puzzlesSortSpecUptoRow : OpenClaim := { program := "ytoohgkkmdnbnfaagreatdoor", sum := "0ab85b136ed3fbba987bdd13f9917d8ce9c9c030cbf30e234941924c29978d60", func := "gridwright/gridwrightlaw19.PuzzlesSortSpec", spec := "puzzlesSortSpec", inPlace := ["internal/bytealg.IndexByteString"], unfollowed := true, recurses := true, named := ["strconv.ErrSyntax", "strconv.ErrRange", "internal/strconv.uint64pow10", "math/bits.deBruijn32tab", "math/bits.deBruijn64tab"], plainKeys := false, apart := false, laid := [("math/bits.deBruijn32tab", laid_math_bits_deBruijn32tab), ("math/bits.deBruijn64tab", laid_math_bits_deBruijn64tab), ("internal/strconv.uint64pow10", laid_internal_strconv_uint64pow10), ("strconv.ErrRange", laid_strconv_ErrRange), ("strconv.ErrSyntax", laid_strconv_ErrSyntax)], narrowed := true }
def PuzzlesSortSpecUptoSaid : Prop := puzzlesSortSpecUptoRow.holds Tryz.pinned (OpenSpec.upto puzzlesSortSpecSpec)

/-- 'gridwrightlaw19.PuzzlesProblemSpec', WHERE WHAT IT READS IS OF BULK AT MOST 1048576: true; the input reads as it did. -/
def puzzlesProblemSpecUptoRow : OpenClaim := { program := "ytoohgkkmdnbnfaagreatdoor", sum := "0ab85b136ed3fbba987bdd13f9917d8ce9c9c030cbf30e234941924c29978d60", func := "gridwright/gridwrightlaw19.PuzzlesProblemSpec", spec := "puzzlesProblemSpec", inPlace := ["internal/bytealg.IndexByteString"], unfollowed := true, recurses := true, named := ["strconv.ErrSyntax", "strconv.ErrRange", "internal/strconv.uint64pow10", "math/bits.deBruijn32tab", "math/bits.deBruijn64tab"], plainKeys := false, apart := false, laid := [("math/bits.deBruijn32tab", laid_math_bits_deBruijn32tab), ("math/bits.deBruijn64tab", laid_math_bits_deBruijn64tab), ("internal/strconv.uint64pow10", laid_internal_strconv_uint64pow10), ("strconv.ErrRange", laid_strconv_ErrRange), ("strconv.ErrSyntax", laid_strconv_ErrSyntax)], narrowed := true }
def PuzzlesProblemSpecUptoSaid : Prop := puzzlesProblemSpecUptoRow.holds Tryz.pinned (OpenSpec.upto puzzlesProblemSpecSpec)

/-- 'gridwrightlaw19.PuzzlesValidSpec', WHERE WHAT IT READS IS OF BULK AT MOST 1048576: true; the input reads as it did. -/
def puzzlesValidSpecUptoRow : OpenClaim := { program := "ytoohgkkmdnbnfaagreatdoor", sum := "0ab85b136ed3fbba987bdd13f9917d8ce9c9c030cbf30e234941924c29978d60", func := "gridwright/gridwrightlaw19.PuzzlesValidSpec", spec := "puzzlesValidSpec", inPlace := ["internal/bytealg.IndexByteString"], unfollowed := true, recurses := true, named := ["strconv.ErrSyntax", "strconv.ErrRange", "internal/strconv.uint64pow10", "math/bits.deBruijn32tab", "math/bits.deBruijn64tab"], plainKeys := false, apart := false, laid := [("math/bits.deBruijn32tab", laid_math_bits_deBruijn32tab), ("math/bits.deBruijn64tab", laid_math_bits_deBruijn64tab), ("internal/strconv.uint64pow10", laid_internal_strconv_uint64pow10), ("strconv.ErrRange", laid_strconv_ErrRange), ("strconv.ErrSyntax", laid_strconv_ErrSyntax)], narrowed := true }
def PuzzlesValidSpecUptoSaid : Prop := puzzlesValidSpecUptoRow.holds Tryz.pinned (OpenSpec.upto puzzlesValidSpecSpec)

/-- 'gridwrightlaw19.PuzzlesSorted', WHERE WHAT IT READS IS OF BULK AT MOST 1048576: true; the input reads as it did. -/
def puzzlesSortedUptoRow : OpenClaim := { program := "ytoohgkkmdnbnfaagreatdoor", sum := "0ab85b136ed3fbba987bdd13f9917d8ce9c9c030cbf30e234941924c29978d60", func := "gridwright/gridwrightlaw19.PuzzlesSorted", spec := "puzzlesSorted", inPlace := ["internal/bytealg.IndexByteString"], unfollowed := true, recurses := true, named := ["strconv.ErrSyntax", "strconv.ErrRange", "internal/strconv.uint64pow10", "math/bits.deBruijn32tab", "math/bits.deBruijn64tab"], plainKeys := false, apart := false, laid := [("math/bits.deBruijn32tab", laid_math_bits_deBruijn32tab), ("math/bits.deBruijn64tab", laid_math_bits_deBruijn64tab), ("internal/strconv.uint64pow10", laid_internal_strconv_uint64pow10), ("strconv.ErrRange", laid_strconv_ErrRange), ("strconv.ErrSyntax", laid_strconv_ErrSyntax)], narrowed := true }
def PuzzlesSortedUptoSaid : Prop := puzzlesSortedUptoRow.holds Tryz.pinned (OpenSpec.upto puzzlesSortedSpec)

/-- 'gridwrightlaw19.PuzzlesAlone', WHERE WHAT IT READS IS OF BULK AT MOST 1048576: true; the input reads as it did. -/
def puzzlesAloneUptoRow : OpenClaim := { program := "ytoohgkkmdnbnfaagreatdoor", sum := "0ab85b136ed3fbba987bdd13f9917d8ce9c9c030cbf30e234941924c29978d60", func := "gridwright/gridwrightlaw19.PuzzlesAlone", spec := "puzzlesAlone", inPlace := ["internal/bytealg.IndexByteString"], unfollowed := true, recurses := true, named := ["strconv.ErrSyntax", "strconv.ErrRange", "internal/strconv.uint64pow10", "math/bits.deBruijn32tab", "math/bits.deBruijn64tab"], plainKeys := false, apart := false, laid := [("math/bits.deBruijn32tab", laid_math_bits_deBruijn32tab), ("math/bits.deBruijn64tab", laid_math_bits_deBruijn64tab), ("internal/strconv.uint64pow10", laid_internal_strconv_uint64pow10), ("strconv.ErrRange", laid_strconv_ErrRange), ("strconv.ErrSyntax", laid_strconv_ErrSyntax)], narrowed := true }
def PuzzlesAloneUptoSaid : Prop := puzzlesAloneUptoRow.holds Tryz.pinned (OpenSpec.upto puzzlesAloneSpec)

/-- 'gridwrightlaw19.PuzzlesLists', WHERE WHAT IT READS IS OF BULK AT MOST 1048576: true; the input reads as it did. -/
def puzzlesListsUptoRow : OpenClaim := { program := "ytoohgkkmdnbnfaagreatdoor", sum := "0ab85b136ed3fbba987bdd13f9917d8ce9c9c030cbf30e234941924c29978d60", func := "gridwright/gridwrightlaw19.PuzzlesLists", spec := "puzzlesLists", inPlace := ["internal/bytealg.IndexByteString"], unfollowed := true, recurses := true, named := ["strconv.ErrSyntax", "strconv.ErrRange", "internal/strconv.uint64pow10", "math/bits.deBruijn32tab", "math/bits.deBruijn64tab"], plainKeys := false, apart := false, laid := [("math/bits.deBruijn32tab", laid_math_bits_deBruijn32tab), ("math/bits.deBruijn64tab", laid_math_bits_deBruijn64tab), ("internal/strconv.uint64pow10", laid_internal_strconv_uint64pow10), ("strconv.ErrRange", laid_strconv_ErrRange), ("strconv.ErrSyntax", laid_strconv_ErrSyntax)], narrowed := true }
def PuzzlesListsUptoSaid : Prop := puzzlesListsUptoRow.holds Tryz.pinned (OpenSpec.upto puzzlesListsSpec)

end Rows
end Go.Proofs.YtoohgkkmdnbnfaaGreatDoor

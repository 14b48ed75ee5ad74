/-
  NARROWER THAN 'FOR EVERY INPUT', by the rows' own cells (each row's printed sentence says how): RankingExactSpec: laid · RankingOrdersSpec: laid · RankingSpec: laid · RankingCovers: laid · RankingTight: laid · RankingSure: laid · RankingLess: laid.
  DERIVED. THE GIVEN ROWS OF THIS SEAT. 7 by the template 'for every input the law returns true; each argument reads behind the call as it read before'; 0 by the template 'total and deterministic' (their statements: YtjmgkllpcidhjaaGreatDoorTotals.lean).
  GIVEN WITH THE SEED: the statements are not yours to turn. If you find one false, say at which input.
  Laid BY PROGRAM, IN A SANDBOX (cutbox-rows.mjs): the forced cells as the released guide's own fill.sh prints them over the translation b98082e8a52d33ab… (all of the seat's roots in one cut). By AI agents, Wed Nov 11 2026. No macro, syntax, notation, axiom, sorry.
-/
import Derived.Test.YtjmgkllpcidhjaaGreatDoorChecked
import GoSem.Claim
import GoSem.ClaimJoined
import GoSem.ClaimMapViews
import Derived.JoinedTies
import Derived.KernelRfl
namespace Go.Proofs.YtjmgkllpcidhjaaGreatDoor
/- THE CELL 'sum', in the pinned program and in every row, IS THE sha256 OF THE DUMP (.gsa) THAT YtjmgkllpcidhjaaGreatDoorProg.lean LOADS. Nothing in Lean hashes anything: it is a label: what it is worth is what the hold of that sum in a sandbox is worth. -/
noncomputable def Tryz.pinned : Pinned := { name := "ytjmgkllpcidhjaagreatdoor", sum := "b98082e8a52d33ab88c602faf877ef8e3cef8aa43d427db57530d7873c011354", checked := Tryz.checked }
namespace Rows
def none {H : Type} : Left H := { results := [], args := [] }

/- WHAT THE LISTED PACKAGE-LEVEL VARIABLES READ AS WHEN THE CALL BEGINS. Each datum BY PROGRAM (the guide's laid-datum.mjs) off the statement by which the dump's own 'gosem.cut.vars' lays the variable. In a bare row this is a premise. The card (YtjmgkllpcidhjaaGreatDoorCards.lean) ties it to the program's text. -/
def laid_math_bits_deBruijn32tab {H : Type} : DataW H := .agg [.lit (.int .u8 0), .lit (.int .u8 1), .lit (.int .u8 28), .lit (.int .u8 2), .lit (.int .u8 29), .lit (.int .u8 14), .lit (.int .u8 24), .lit (.int .u8 3), .lit (.int .u8 30), .lit (.int .u8 22), .lit (.int .u8 20), .lit (.int .u8 15), .lit (.int .u8 25), .lit (.int .u8 17), .lit (.int .u8 4), .lit (.int .u8 8), .lit (.int .u8 31), .lit (.int .u8 27), .lit (.int .u8 13), .lit (.int .u8 23), .lit (.int .u8 21), .lit (.int .u8 19), .lit (.int .u8 16), .lit (.int .u8 7), .lit (.int .u8 26), .lit (.int .u8 12), .lit (.int .u8 18), .lit (.int .u8 6), .lit (.int .u8 11), .lit (.int .u8 5), .lit (.int .u8 10), .lit (.int .u8 9)]
def laid_math_bits_deBruijn64tab {H : Type} : DataW H := .agg [.lit (.int .u8 0), .lit (.int .u8 1), .lit (.int .u8 56), .lit (.int .u8 2), .lit (.int .u8 57), .lit (.int .u8 49), .lit (.int .u8 28), .lit (.int .u8 3), .lit (.int .u8 61), .lit (.int .u8 58), .lit (.int .u8 42), .lit (.int .u8 50), .lit (.int .u8 38), .lit (.int .u8 29), .lit (.int .u8 17), .lit (.int .u8 4), .lit (.int .u8 62), .lit (.int .u8 47), .lit (.int .u8 59), .lit (.int .u8 36), .lit (.int .u8 45), .lit (.int .u8 43), .lit (.int .u8 51), .lit (.int .u8 22), .lit (.int .u8 53), .lit (.int .u8 39), .lit (.int .u8 33), .lit (.int .u8 30), .lit (.int .u8 24), .lit (.int .u8 18), .lit (.int .u8 12), .lit (.int .u8 5), .lit (.int .u8 63), .lit (.int .u8 55), .lit (.int .u8 48), .lit (.int .u8 27), .lit (.int .u8 60), .lit (.int .u8 41), .lit (.int .u8 37), .lit (.int .u8 16), .lit (.int .u8 46), .lit (.int .u8 35), .lit (.int .u8 44), .lit (.int .u8 21), .lit (.int .u8 52), .lit (.int .u8 32), .lit (.int .u8 23), .lit (.int .u8 11), .lit (.int .u8 54), .lit (.int .u8 26), .lit (.int .u8 40), .lit (.int .u8 15), .lit (.int .u8 34), .lit (.int .u8 20), .lit (.int .u8 31), .lit (.int .u8 10), .lit (.int .u8 25), .lit (.int .u8 14), .lit (.int .u8 19), .lit (.int .u8 9), .lit (.int .u8 13), .lit (.int .u8 8), .lit (.int .u8 7), .lit (.int .u8 6)]
def laid_internal_strconv_uint64pow10 {H : Type} : DataW H := .agg [.lit (.int .u64 1), .lit (.int .u64 10), .lit (.int .u64 100), .lit (.int .u64 1000), .lit (.int .u64 10000), .lit (.int .u64 100000), .lit (.int .u64 1000000), .lit (.int .u64 10000000), .lit (.int .u64 100000000), .lit (.int .u64 1000000000), .lit (.int .u64 10000000000), .lit (.int .u64 100000000000), .lit (.int .u64 1000000000000), .lit (.int .u64 10000000000000), .lit (.int .u64 100000000000000), .lit (.int .u64 1000000000000000), .lit (.int .u64 10000000000000000), .lit (.int .u64 100000000000000000), .lit (.int .u64 1000000000000000000), .lit (.int .u64 10000000000000000000)]

/-- 'gridwrightlaw53.RankingExactSpec': WHATEVER THE INPUT: true; the input reads as it did. -/
def rankingExactSpecSpec : ChangeSpec := { name := "rankingExactSpec", fn := fun _ => fun
  | [d1, d2, d3, d4] => { results := [.lit (.bool true)], args := [d1, d2, d3, d4] }
  | _ => none }
def rankingExactSpecRow : OpenClaim := { program := "ytjmgkllpcidhjaagreatdoor", sum := "b98082e8a52d33ab88c602faf877ef8e3cef8aa43d427db57530d7873c011354", func := "gridwright/gridwrightlaw53.RankingExactSpec", spec := "rankingExactSpec", inPlace := ["internal/bytealg.IndexByteString", "internal/abi.NoEscape", "internal/bytealg.MakeNoZero"], unfollowed := true, recurses := true, named := ["internal/strconv.uint64pow10", "math/bits.deBruijn32tab", "math/bits.deBruijn64tab"], plainKeys := false, apart := false, laid := [("math/bits.deBruijn32tab", laid_math_bits_deBruijn32tab), ("math/bits.deBruijn64tab", laid_math_bits_deBruijn64tab), ("internal/strconv.uint64pow10", laid_internal_strconv_uint64pow10)] }
def RankingExactSpecSaid : Prop := rankingExactSpecRow.holds Tryz.pinned (OpenSpec.ofChange rankingExactSpecSpec)

/-- ITS FALSE NEIGHBOUR: 'it returns false'. Refute it at one input. -/
def rankingExactSpecWrong : ChangeSpec := { name := "rankingExactSpec", fn := fun _ => fun
  | [d1, d2, d3, d4] => { results := [.lit (.bool false)], args := [d1, d2, d3, d4] }
  | _ => none }
def RankingExactSpecWrongFalsely : Prop := rankingExactSpecRow.holds Tryz.pinned (OpenSpec.ofChange rankingExactSpecWrong)

/-- 'gridwrightlaw53.RankingOrdersSpec': WHATEVER THE INPUT: true; the input reads as it did. -/
def rankingOrdersSpecSpec : ChangeSpec := { name := "rankingOrdersSpec", fn := fun _ => fun
  | [d1, d2] => { results := [.lit (.bool true)], args := [d1, d2] }
  | _ => none }
def rankingOrdersSpecRow : OpenClaim := { program := "ytjmgkllpcidhjaagreatdoor", sum := "b98082e8a52d33ab88c602faf877ef8e3cef8aa43d427db57530d7873c011354", func := "gridwright/gridwrightlaw53.RankingOrdersSpec", spec := "rankingOrdersSpec", inPlace := ["internal/bytealg.IndexByteString", "internal/abi.NoEscape", "internal/bytealg.MakeNoZero"], unfollowed := true, recurses := true, named := ["internal/strconv.uint64pow10", "math/bits.deBruijn32tab", "math/bits.deBruijn64tab"], plainKeys := false, apart := false, laid := [("math/bits.deBruijn32tab", laid_math_bits_deBruijn32tab), ("math/bits.deBruijn64tab", laid_math_bits_deBruijn64tab), ("internal/strconv.uint64pow10", laid_internal_strconv_uint64pow10)] }
def RankingOrdersSpecSaid : Prop := rankingOrdersSpecRow.holds Tryz.pinned (OpenSpec.ofChange rankingOrdersSpecSpec)

/-- ITS FALSE NEIGHBOUR: 'it returns false'. Refute it at one input. -/
def rankingOrdersSpecWrong : ChangeSpec := { name := "rankingOrdersSpec", fn := fun _ => fun
  | [d1, d2] => { results := [.lit (.bool false)], args := [d1, d2] }
  | _ => none }
def RankingOrdersSpecWrongFalsely : Prop := rankingOrdersSpecRow.holds Tryz.pinned (OpenSpec.ofChange rankingOrdersSpecWrong)

/-- 'gridwrightlaw53.RankingSpec': WHATEVER THE INPUT: true; the input reads as it did. -/
def rankingSpecSpec : ChangeSpec := { name := "rankingSpec", fn := fun _ => fun
  | [d1, d2] => { results := [.lit (.bool true)], args := [d1, d2] }
  | _ => none }
def rankingSpecRow : OpenClaim := { program := "ytjmgkllpcidhjaagreatdoor", sum := "b98082e8a52d33ab88c602faf877ef8e3cef8aa43d427db57530d7873c011354", func := "gridwright/gridwrightlaw53.RankingSpec", spec := "rankingSpec", inPlace := ["internal/bytealg.IndexByteString", "internal/abi.NoEscape", "internal/bytealg.MakeNoZero"], unfollowed := true, recurses := true, named := ["internal/strconv.uint64pow10", "math/bits.deBruijn32tab", "math/bits.deBruijn64tab"], plainKeys := false, apart := false, laid := [("math/bits.deBruijn32tab", laid_math_bits_deBruijn32tab), ("math/bits.deBruijn64tab", laid_math_bits_deBruijn64tab), ("internal/strconv.uint64pow10", laid_internal_strconv_uint64pow10)] }
def RankingSpecSaid : Prop := rankingSpecRow.holds Tryz.pinned (OpenSpec.ofChange rankingSpecSpec)

/-- ITS FALSE NEIGHBOUR: 'it returns false'. Refute it at one input. -/
def rankingSpecWrong : ChangeSpec := { name := "rankingSpec", fn := fun _ => fun
  | [d1, d2] => { results := [.lit (.bool false)], args := [d1, d2] }
  | _ => none }
def RankingSpecWrongFalsely : Prop := rankingSpecRow.holds Tryz.pinned (OpenSpec.ofChange rankingSpecWrong)

/-- 'gridwrightlaw53.RankingCovers': WHATEVER THE INPUT: true; the input reads as it did. -/
def rankingCoversSpec : ChangeSpec := { name := "rankingCovers", fn := fun _ => fun
  | [d1, d2, d3, d4] => { results := [.lit (.bool true)], args := [d1, d2, d3, d4] }
  | _ => none }
def rankingCoversRow : OpenClaim := { program := "ytjmgkllpcidhjaagreatdoor", sum := "b98082e8a52d33ab88c602faf877ef8e3cef8aa43d427db57530d7873c011354", func := "gridwright/gridwrightlaw53.RankingCovers", spec := "rankingCovers", inPlace := ["internal/bytealg.IndexByteString", "internal/abi.NoEscape", "internal/bytealg.MakeNoZero"], unfollowed := true, recurses := true, named := ["internal/strconv.uint64pow10", "math/bits.deBruijn32tab", "math/bits.deBruijn64tab"], plainKeys := false, apart := false, laid := [("math/bits.deBruijn32tab", laid_math_bits_deBruijn32tab), ("math/bits.deBruijn64tab", laid_math_bits_deBruijn64tab), ("internal/strconv.uint64pow10", laid_internal_strconv_uint64pow10)] }
def RankingCoversSaid : Prop := rankingCoversRow.holds Tryz.pinned (OpenSpec.ofChange rankingCoversSpec)

/-- ITS FALSE NEIGHBOUR: 'it returns false'. Refute it at one input. -/
def rankingCoversWrong : ChangeSpec := { name := "rankingCovers", fn := fun _ => fun
  | [d1, d2, d3, d4] => { results := [.lit (.bool false)], args := [d1, d2, d3, d4] }
  | _ => none }
def RankingCoversWrongFalsely : Prop := rankingCoversRow.holds Tryz.pinned (OpenSpec.ofChange rankingCoversWrong)

/-- 'gridwrightlaw53.RankingTight': WHATEVER THE INPUT: true; the input reads as it did. -/
def rankingTightSpec : ChangeSpec := { name := "rankingTight", fn := fun _ => fun
  | [d1, d2] => { results := [.lit (.bool true)], args := [d1, d2] }
  | _ => none }
def rankingTightRow : OpenClaim := { program := "ytjmgkllpcidhjaagreatdoor", sum := "b98082e8a52d33ab88c602faf877ef8e3cef8aa43d427db57530d7873c011354", func := "gridwright/gridwrightlaw53.RankingTight", spec := "rankingTight", inPlace := ["internal/bytealg.IndexByteString", "internal/abi.NoEscape", "internal/bytealg.MakeNoZero"], unfollowed := true, recurses := true, named := ["internal/strconv.uint64pow10", "math/bits.deBruijn32tab", "math/bits.deBruijn64tab"], plainKeys := false, apart := false, laid := [("math/bits.deBruijn32tab", laid_math_bits_deBruijn32tab), ("math/bits.deBruijn64tab", laid_math_bits_deBruijn64tab), ("internal/strconv.uint64pow10", laid_internal_strconv_uint64pow10)] }
def RankingTightSaid : Prop := rankingTightRow.holds Tryz.pinned (OpenSpec.ofChange rankingTightSpec)

/-- ITS FALSE NEIGHBOUR: 'it returns false'. Refute it at one input. -/
def rankingTightWrong : ChangeSpec := { name := "rankingTight", fn := fun _ => fun
  | [d1, d2] => { results := [.lit (.bool false)], args := [d1, d2] }
  | _ => none }
def RankingTightWrongFalsely : Prop := rankingTightRow.holds Tryz.pinned (OpenSpec.ofChange rankingTightWrong)

/-- 'gridwrightlaw53.RankingSure': WHATEVER THE INPUT: true; the input reads as it did. -/
def rankingSureSpec : ChangeSpec := { name := "rankingSure", fn := fun _ => fun
  | [d1, d2, d3] => { results := [.lit (.bool true)], args := [d1, d2, d3] }
  | _ => none }
def rankingSureRow : OpenClaim := { program := "ytjmgkllpcidhjaagreatdoor", sum := "b98082e8a52d33ab88c602faf877ef8e3cef8aa43d427db57530d7873c011354", func := "gridwright/gridwrightlaw53.RankingSure", spec := "rankingSure", inPlace := ["internal/bytealg.IndexByteString", "internal/abi.NoEscape", "internal/bytealg.MakeNoZero"], unfollowed := true, recurses := true, named := ["internal/strconv.uint64pow10", "math/bits.deBruijn32tab", "math/bits.deBruijn64tab"], plainKeys := false, apart := false, laid := [("math/bits.deBruijn32tab", laid_math_bits_deBruijn32tab), ("math/bits.deBruijn64tab", laid_math_bits_deBruijn64tab), ("internal/strconv.uint64pow10", laid_internal_strconv_uint64pow10)] }
def RankingSureSaid : Prop := rankingSureRow.holds Tryz.pinned (OpenSpec.ofChange rankingSureSpec)

/-- ITS FALSE NEIGHBOUR: 'it returns false'. Refute it at one input. -/
def rankingSureWrong : ChangeSpec := { name := "rankingSure", fn := fun _ => fun
  | [d1, d2, d3] => { results := [.lit (.bool false)], args := [d1, d2, d3] }
  | _ => none }
def RankingSureWrongFalsely : Prop := rankingSureRow.holds Tryz.pinned (OpenSpec.ofChange rankingSureWrong)

/-- 'gridwrightlaw53.RankingLess': WHATEVER THE INPUT: true; the input reads as it did. -/
def rankingLessSpec : ChangeSpec := { name := "rankingLess", fn := fun _ => fun
  | [d1, d2, d3, d4] => { results := [.lit (.bool true)], args := [d1, d2, d3, d4] }
  | _ => none }
def rankingLessRow : OpenClaim := { program := "ytjmgkllpcidhjaagreatdoor", sum := "b98082e8a52d33ab88c602faf877ef8e3cef8aa43d427db57530d7873c011354", func := "gridwright/gridwrightlaw53.RankingLess", spec := "rankingLess", inPlace := ["internal/bytealg.IndexByteString", "internal/abi.NoEscape", "internal/bytealg.MakeNoZero"], unfollowed := true, recurses := true, named := ["internal/strconv.uint64pow10", "math/bits.deBruijn32tab", "math/bits.deBruijn64tab"], plainKeys := false, apart := false, laid := [("math/bits.deBruijn32tab", laid_math_bits_deBruijn32tab), ("math/bits.deBruijn64tab", laid_math_bits_deBruijn64tab), ("internal/strconv.uint64pow10", laid_internal_strconv_uint64pow10)] }
def RankingLessSaid : Prop := rankingLessRow.holds Tryz.pinned (OpenSpec.ofChange rankingLessSpec)

/-- ITS FALSE NEIGHBOUR: 'it returns false'. Refute it at one input. -/
def rankingLessWrong : ChangeSpec := { name := "rankingLess", fn := fun _ => fun
  | [d1, d2, d3, d4] => { results := [.lit (.bool false)], args := [d1, d2, d3, d4] }
  | _ => none }
def RankingLessWrongFalsely : Prop := rankingLessRow.holds Tryz.pinned (OpenSpec.ofChange rankingLessWrong)

/- THE SECOND FORM. 'bulk': how many values and letters a reading holds, each counted each time it is reached (what is shared counts as often as it is met; a slice's spare places count too). A statement '..UptoSaid' is the law's where the arguments, and the package variables that the reading takes, are together of bulk at most 1048576: NARROWER than '..Said'. Prove '..Said' where nothing that the law and all that it calls make is longer than what came in: it says more and counts as full. Else prove '..UptoSaid'. A law counts once. -/
mutual
def uptoBulk {H : Type} : DataW H → Nat
  | .lit (.string bytes) => bytes.length + 1
  | .lit _ => 1
  | .nil => 1
  | .ptr d => uptoBulk d + 1
  | .slice elems spare => uptoBulkAll elems + uptoBulkAll spare + 1
  | .agg parts => uptoBulkAll parts + 1
  | .iface _ d => uptoBulk d + 1
  | .map entries => uptoBulkEntries entries + 1
  | .held _ => 1
def uptoBulkAll {H : Type} : List (DataW H) → Nat
  | [] => 0
  | d :: r => uptoBulk d + uptoBulkAll r
def uptoBulkEntries {H : Type} : List (Lit × DataW H) → Nat
  | [] => 0
  | x :: r => uptoBulkEntry x + uptoBulkEntries r
def uptoBulkEntry {H : Type} : Lit × DataW H → Nat
  | (.string bytes, d) => bytes.length + uptoBulk d + 1
  | (_, d) => uptoBulk d + 1
 end
def uptoSmall : (H : Type) → List (DataW H) → Bool := fun _ ds => decide (uptoBulkAll ds ≤ 1048576)
def OpenSpec.upto (s : _root_.Go.ChangeSpec) : _root_.Go.OpenSpec := { _root_.Go.OpenSpec.ofChange s with cond := some uptoSmall }

/-- 'gridwrightlaw53.RankingExactSpec', WHERE WHAT IT READS IS OF BULK AT MOST 1048576: true; the input reads as it did. -/
def rankingExactSpecUptoRow : OpenClaim := { program := "ytjmgkllpcidhjaagreatdoor", sum := "b98082e8a52d33ab88c602faf877ef8e3cef8aa43d427db57530d7873c011354", func := "gridwright/gridwrightlaw53.RankingExactSpec", spec := "rankingExactSpec", inPlace := ["internal/bytealg.IndexByteString", "internal/abi.NoEscape", "internal/bytealg.MakeNoZero"], unfollowed := true, recurses := true, named := ["internal/strconv.uint64pow10", "math/bits.deBruijn32tab", "math/bits.deBruijn64tab"], plainKeys := false, apart := false, laid := [("math/bits.deBruijn32tab", laid_math_bits_deBruijn32tab), ("math/bits.deBruijn64tab", laid_math_bits_deBruijn64tab), ("internal/strconv.uint64pow10", laid_internal_strconv_uint64pow10)], narrowed := true }
def RankingExactSpecUptoSaid : Prop := rankingExactSpecUptoRow.holds Tryz.pinned (OpenSpec.upto rankingExactSpecSpec)

/-- 'gridwrightlaw53.RankingOrdersSpec', WHERE WHAT IT READS IS OF BULK AT MOST 1048576: true; the input reads as it did. -/
def rankingOrdersSpecUptoRow : OpenClaim := { program := "ytjmgkllpcidhjaagreatdoor", sum := "b98082e8a52d33ab88c602faf877ef8e3cef8aa43d427db57530d7873c011354", func := "gridwright/gridwrightlaw53.RankingOrdersSpec", spec := "rankingOrdersSpec", inPlace := ["internal/bytealg.IndexByteString", "internal/abi.NoEscape", "internal/bytealg.MakeNoZero"], unfollowed := true, recurses := true, named := ["internal/strconv.uint64pow10", "math/bits.deBruijn32tab", "math/bits.deBruijn64tab"], plainKeys := false, apart := false, laid := [("math/bits.deBruijn32tab", laid_math_bits_deBruijn32tab), ("math/bits.deBruijn64tab", laid_math_bits_deBruijn64tab), ("internal/strconv.uint64pow10", laid_internal_strconv_uint64pow10)], narrowed := true }
def RankingOrdersSpecUptoSaid : Prop := rankingOrdersSpecUptoRow.holds Tryz.pinned (OpenSpec.upto rankingOrdersSpecSpec)

/-- 'gridwrightlaw53.RankingSpec', WHERE WHAT IT READS IS OF BULK AT MOST 1048576: true; the input reads as it did. -/
def rankingSpecUptoRow : OpenClaim := { program := "ytjmgkllpcidhjaagreatdoor", sum := "b98082e8a52d33ab88c602faf877ef8e3cef8aa43d427db57530d7873c011354", func := "gridwright/gridwrightlaw53.RankingSpec", spec := "rankingSpec", inPlace := ["internal/bytealg.IndexByteString", "internal/abi.NoEscape", "internal/bytealg.MakeNoZero"], unfollowed := true, recurses := true, named := ["internal/strconv.uint64pow10", "math/bits.deBruijn32tab", "math/bits.deBruijn64tab"], plainKeys := false, apart := false, laid := [("math/bits.deBruijn32tab", laid_math_bits_deBruijn32tab), ("math/bits.deBruijn64tab", laid_math_bits_deBruijn64tab), ("internal/strconv.uint64pow10", laid_internal_strconv_uint64pow10)], narrowed := true }
def RankingSpecUptoSaid : Prop := rankingSpecUptoRow.holds Tryz.pinned (OpenSpec.upto rankingSpecSpec)

/-- 'gridwrightlaw53.RankingCovers', WHERE WHAT IT READS IS OF BULK AT MOST 1048576: true; the input reads as it did. -/
def rankingCoversUptoRow : OpenClaim := { program := "ytjmgkllpcidhjaagreatdoor", sum := "b98082e8a52d33ab88c602faf877ef8e3cef8aa43d427db57530d7873c011354", func := "gridwright/gridwrightlaw53.RankingCovers", spec := "rankingCovers", inPlace := ["internal/bytealg.IndexByteString", "internal/abi.NoEscape", "internal/bytealg.MakeNoZero"], unfollowed := true, recurses := true, named := ["internal/strconv.uint64pow10", "math/bits.deBruijn32tab", "math/bits.deBruijn64tab"], plainKeys := false, apart := false, laid := [("math/bits.deBruijn32tab", laid_math_bits_deBruijn32tab), ("math/bits.deBruijn64tab", laid_math_bits_deBruijn64tab), ("internal/strconv.uint64pow10", laid_internal_strconv_uint64pow10)], narrowed := true }
def RankingCoversUptoSaid : Prop := rankingCoversUptoRow.holds Tryz.pinned (OpenSpec.upto rankingCoversSpec)

/-- 'gridwrightlaw53.RankingTight', WHERE WHAT IT READS IS OF BULK AT MOST 1048576: true; the input reads as it did. -/
def rankingTightUptoRow : OpenClaim := { program := "ytjmgkllpcidhjaagreatdoor", sum := "b98082e8a52d33ab88c602faf877ef8e3cef8aa43d427db57530d7873c011354", func := "gridwright/gridwrightlaw53.RankingTight", spec := "rankingTight", inPlace := ["internal/bytealg.IndexByteString", "internal/abi.NoEscape", "internal/bytealg.MakeNoZero"], unfollowed := true, recurses := true, named := ["internal/strconv.uint64pow10", "math/bits.deBruijn32tab", "math/bits.deBruijn64tab"], plainKeys := false, apart := false, laid := [("math/bits.deBruijn32tab", laid_math_bits_deBruijn32tab), ("math/bits.deBruijn64tab", laid_math_bits_deBruijn64tab), ("internal/strconv.uint64pow10", laid_internal_strconv_uint64pow10)], narrowed := true }
def RankingTightUptoSaid : Prop := rankingTightUptoRow.holds Tryz.pinned (OpenSpec.upto rankingTightSpec)

/-- 'gridwrightlaw53.RankingSure', WHERE WHAT IT READS IS OF BULK AT MOST 1048576: true; the input reads as it did. -/
def rankingSureUptoRow : OpenClaim := { program := "ytjmgkllpcidhjaagreatdoor", sum := "b98082e8a52d33ab88c602faf877ef8e3cef8aa43d427db57530d7873c011354", func := "gridwright/gridwrightlaw53.RankingSure", spec := "rankingSure", inPlace := ["internal/bytealg.IndexByteString", "internal/abi.NoEscape", "internal/bytealg.MakeNoZero"], unfollowed := true, recurses := true, named := ["internal/strconv.uint64pow10", "math/bits.deBruijn32tab", "math/bits.deBruijn64tab"], plainKeys := false, apart := false, laid := [("math/bits.deBruijn32tab", laid_math_bits_deBruijn32tab), ("math/bits.deBruijn64tab", laid_math_bits_deBruijn64tab), ("internal/strconv.uint64pow10", laid_internal_strconv_uint64pow10)], narrowed := true }
def RankingSureUptoSaid : Prop := rankingSureUptoRow.holds Tryz.pinned (OpenSpec.upto rankingSureSpec)

/-- 'gridwrightlaw53.RankingLess', WHERE WHAT IT READS IS OF BULK AT MOST 1048576: true; the input reads as it did. -/
def rankingLessUptoRow : OpenClaim := { program := "ytjmgkllpcidhjaagreatdoor", sum := "b98082e8a52d33ab88c602faf877ef8e3cef8aa43d427db57530d7873c011354", func := "gridwright/gridwrightlaw53.RankingLess", spec := "rankingLess", inPlace := ["internal/bytealg.IndexByteString", "internal/abi.NoEscape", "internal/bytealg.MakeNoZero"], unfollowed := true, recurses := true, named := ["internal/strconv.uint64pow10", "math/bits.deBruijn32tab", "math/bits.deBruijn64tab"], plainKeys := false, apart := false, laid := [("math/bits.deBruijn32tab", laid_math_bits_deBruijn32tab), ("math/bits.deBruijn64tab", laid_math_bits_deBruijn64tab), ("internal/strconv.uint64pow10", laid_internal_strconv_uint64pow10)], narrowed := true }
def RankingLessUptoSaid : Prop := rankingLessUptoRow.holds Tryz.pinned (OpenSpec.upto rankingLessSpec)

end Rows
end Go.Proofs.YtjmgkllpcidhjaaGreatDoor

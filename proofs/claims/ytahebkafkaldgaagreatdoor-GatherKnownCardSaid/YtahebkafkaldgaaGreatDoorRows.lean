/-
  NARROWER THAN 'FOR EVERY INPUT', by the rows' own cells (each row's printed sentence says how): GatherPaths: laid · GatherAll: laid · GatherOrder: laid · GatherTells: laid · GatherKnown: laid · GatherRoutes: laid.
  DERIVED. THE GIVEN ROWS OF THIS SEAT. 6 by the template 'for every input the law returns true; each argument reads behind the call as it read before'; 0 by the template 'total and deterministic' (their statements: YtahebkafkaldgaaGreatDoorTotals.lean).
  GIVEN WITH THE SEED: the statements are not yours to turn. If you find one false, say at which input.
  Laid BY PROGRAM, IN A SANDBOX (cutbox-rows.mjs): the forced cells as the released guide's own fill.sh prints them over the translation 4b1d86cd560631bb… (all of the seat's roots in one cut). By AI agents, Wed Nov 11 2026. No macro, syntax, notation, axiom, sorry.
-/
import Derived.Test.YtahebkafkaldgaaGreatDoorChecked
import GoSem.PinnedTables
import GoSem.Claim
import GoSem.ClaimJoined
import GoSem.ClaimMapViews
import Derived.JoinedTies
import Derived.KernelRfl
namespace Go.Proofs.YtahebkafkaldgaaGreatDoor
/- THE CELL 'sum', in the pinned program and in every row, IS THE sha256 OF THE DUMP (.gsa) THAT YtahebkafkaldgaaGreatDoorProg.lean LOADS. Nothing in Lean hashes anything: it is a label: what it is worth is what the hold of that sum in a sandbox is worth. -/
noncomputable def Tryz.pinned : Pinned := { name := "ytahebkafkaldgaagreatdoor", sum := "4b1d86cd560631bbae19839e092d8e991acf71e74e43dc78de7ded37b65b4b9f", checked := Tryz.checked }
namespace Rows
def none {H : Type} : Left H := { results := [], args := [] }

/- WHAT THE LISTED PACKAGE-LEVEL VARIABLES READ AS WHEN THE CALL BEGINS. Each datum BY PROGRAM (the guide's laid-datum.mjs) off the statement by which the dump's own 'gosem.cut.vars' lays the variable. In a bare row this is a premise. The card (YtahebkafkaldgaaGreatDoorCards.lean) ties it to the program's text. -/
def laid_math_bits_deBruijn32tab {H : Type} : DataW H := .agg [.lit (.int .u8 0), .lit (.int .u8 1), .lit (.int .u8 28), .lit (.int .u8 2), .lit (.int .u8 29), .lit (.int .u8 14), .lit (.int .u8 24), .lit (.int .u8 3), .lit (.int .u8 30), .lit (.int .u8 22), .lit (.int .u8 20), .lit (.int .u8 15), .lit (.int .u8 25), .lit (.int .u8 17), .lit (.int .u8 4), .lit (.int .u8 8), .lit (.int .u8 31), .lit (.int .u8 27), .lit (.int .u8 13), .lit (.int .u8 23), .lit (.int .u8 21), .lit (.int .u8 19), .lit (.int .u8 16), .lit (.int .u8 7), .lit (.int .u8 26), .lit (.int .u8 12), .lit (.int .u8 18), .lit (.int .u8 6), .lit (.int .u8 11), .lit (.int .u8 5), .lit (.int .u8 10), .lit (.int .u8 9)]
def laid_math_bits_deBruijn64tab {H : Type} : DataW H := .agg [.lit (.int .u8 0), .lit (.int .u8 1), .lit (.int .u8 56), .lit (.int .u8 2), .lit (.int .u8 57), .lit (.int .u8 49), .lit (.int .u8 28), .lit (.int .u8 3), .lit (.int .u8 61), .lit (.int .u8 58), .lit (.int .u8 42), .lit (.int .u8 50), .lit (.int .u8 38), .lit (.int .u8 29), .lit (.int .u8 17), .lit (.int .u8 4), .lit (.int .u8 62), .lit (.int .u8 47), .lit (.int .u8 59), .lit (.int .u8 36), .lit (.int .u8 45), .lit (.int .u8 43), .lit (.int .u8 51), .lit (.int .u8 22), .lit (.int .u8 53), .lit (.int .u8 39), .lit (.int .u8 33), .lit (.int .u8 30), .lit (.int .u8 24), .lit (.int .u8 18), .lit (.int .u8 12), .lit (.int .u8 5), .lit (.int .u8 63), .lit (.int .u8 55), .lit (.int .u8 48), .lit (.int .u8 27), .lit (.int .u8 60), .lit (.int .u8 41), .lit (.int .u8 37), .lit (.int .u8 16), .lit (.int .u8 46), .lit (.int .u8 35), .lit (.int .u8 44), .lit (.int .u8 21), .lit (.int .u8 52), .lit (.int .u8 32), .lit (.int .u8 23), .lit (.int .u8 11), .lit (.int .u8 54), .lit (.int .u8 26), .lit (.int .u8 40), .lit (.int .u8 15), .lit (.int .u8 34), .lit (.int .u8 20), .lit (.int .u8 31), .lit (.int .u8 10), .lit (.int .u8 25), .lit (.int .u8 14), .lit (.int .u8 19), .lit (.int .u8 9), .lit (.int .u8 13), .lit (.int .u8 8), .lit (.int .u8 7), .lit (.int .u8 6)]
def laid_internal_strconv_uint64pow10 {H : Type} : DataW H := .agg [.lit (.int .u64 1), .lit (.int .u64 10), .lit (.int .u64 100), .lit (.int .u64 1000), .lit (.int .u64 10000), .lit (.int .u64 100000), .lit (.int .u64 1000000), .lit (.int .u64 10000000), .lit (.int .u64 100000000), .lit (.int .u64 1000000000), .lit (.int .u64 10000000000), .lit (.int .u64 100000000000), .lit (.int .u64 1000000000000), .lit (.int .u64 10000000000000), .lit (.int .u64 100000000000000), .lit (.int .u64 1000000000000000), .lit (.int .u64 10000000000000000), .lit (.int .u64 100000000000000000), .lit (.int .u64 1000000000000000000), .lit (.int .u64 10000000000000000000)]
def laid_unicode_utf8_acceptRanges {H : Type} : DataW H := .agg [.agg [.lit (.int .u8 128), .lit (.int .u8 191)], .agg [.lit (.int .u8 160), .lit (.int .u8 191)], .agg [.lit (.int .u8 128), .lit (.int .u8 159)], .agg [.lit (.int .u8 144), .lit (.int .u8 191)], .agg [.lit (.int .u8 128), .lit (.int .u8 143)], .agg [.lit (.int .u8 0), .lit (.int .u8 0)], .agg [.lit (.int .u8 0), .lit (.int .u8 0)], .agg [.lit (.int .u8 0), .lit (.int .u8 0)], .agg [.lit (.int .u8 0), .lit (.int .u8 0)], .agg [.lit (.int .u8 0), .lit (.int .u8 0)], .agg [.lit (.int .u8 0), .lit (.int .u8 0)], .agg [.lit (.int .u8 0), .lit (.int .u8 0)], .agg [.lit (.int .u8 0), .lit (.int .u8 0)], .agg [.lit (.int .u8 0), .lit (.int .u8 0)], .agg [.lit (.int .u8 0), .lit (.int .u8 0)], .agg [.lit (.int .u8 0), .lit (.int .u8 0)]]
def laid_strconv_ErrRange {H : Type} : DataW H := .iface "*errors.errorString" (.ptr (.agg [.lit (.string [118, 97, 108, 117, 101, 32, 111, 117, 116, 32, 111, 102, 32, 114, 97, 110, 103, 101])]))
def laid_strconv_ErrSyntax {H : Type} : DataW H := .iface "*errors.errorString" (.ptr (.agg [.lit (.string [105, 110, 118, 97, 108, 105, 100, 32, 115, 121, 110, 116, 97, 120])]))
def laid_consulate_path_signs {H : Type} : DataW H := .agg [.agg [.lit (.string []), .lit (.string []), .lit (.string [])], .agg [.lit (.string [123]), .lit (.string [125]), .lit (.string [44])], .agg [.lit (.string []), .lit (.string []), .lit (.string [32])], .agg [.lit (.string [40]), .lit (.string [41]), .lit (.string [32])], .agg [.lit (.string [91]), .lit (.string [93]), .lit (.string [44])]]
/-- One of Go's own tables, pinned by name: the form's constant. -/
def laid_unicode_utf8_first : DataW Unit := Go.Pinned.utf8First
def laid_consulate_attrs_kinds {H : Type} : DataW H := .iface "func table" (.map [(.int .u8 1, .agg [.lit (.int .u8 64), .lit (.int .i64 2), .iface "func" (.lit (.string [99, 111, 110, 115, 117, 108, 97, 116, 101, 47, 97, 116, 116, 114, 115, 46, 107, 105, 110, 100, 115, 36, 49]))]), (.int .u8 2, .agg [.lit (.int .u8 64), .lit (.int .i64 2), .iface "func" (.lit (.string [99, 111, 110, 115, 117, 108, 97, 116, 101, 47, 97, 116, 116, 114, 115, 46, 107, 105, 110, 100, 115, 36, 50]))]), (.int .u8 3, .agg [.lit (.int .u8 64), .lit (.int .i64 2), .iface "func" (.lit (.string [99, 111, 110, 115, 117, 108, 97, 116, 101, 47, 97, 116, 116, 114, 115, 46, 107, 105, 110, 100, 115, 36, 51]))]), (.int .u8 4, .agg [.lit (.int .u8 128), .lit (.int .i64 2), .iface "func" (.lit (.string [99, 111, 110, 115, 117, 108, 97, 116, 101, 47, 97, 116, 116, 114, 115, 46, 107, 105, 110, 100, 115, 36, 52]))]), (.int .u8 5, .agg [.lit (.int .u8 64), .lit (.int .i64 2), .iface "func" (.lit (.string [99, 111, 110, 115, 117, 108, 97, 116, 101, 47, 97, 116, 116, 114, 115, 46, 107, 105, 110, 100, 115, 36, 53]))]), (.int .u8 6, .agg [.lit (.int .u8 64), .lit (.int .i64 1), .iface "func" (.lit (.string [99, 111, 110, 115, 117, 108, 97, 116, 101, 47, 97, 116, 116, 114, 115, 46, 107, 105, 110, 100, 115, 36, 54]))]), (.int .u8 7, .agg [.lit (.int .u8 192), .lit (.int .i64 1), .iface "func" (.lit (.string [99, 111, 110, 115, 117, 108, 97, 116, 101, 47, 97, 116, 116, 114, 115, 46, 107, 105, 110, 100, 115, 36, 55]))]), (.int .u8 8, .agg [.lit (.int .u8 192), .lit (.int .i64 2), .iface "func" (.lit (.string [99, 111, 110, 115, 117, 108, 97, 116, 101, 47, 97, 116, 116, 114, 115, 46, 107, 105, 110, 100, 115, 36, 56]))]), (.int .u8 17, .agg [.lit (.int .u8 192), .lit (.int .i64 1), .iface "func" (.lit (.string [99, 111, 110, 115, 117, 108, 97, 116, 101, 47, 97, 116, 116, 114, 115, 46, 107, 105, 110, 100, 115, 36, 57]))]), (.int .u8 18, .agg [.lit (.int .u8 192), .lit (.int .i64 1), .iface "func" (.lit (.string [99, 111, 110, 115, 117, 108, 97, 116, 101, 47, 97, 116, 116, 114, 115, 46, 107, 105, 110, 100, 115, 36, 49, 48]))])])
def laid_consulate_attrs_clears {H : Type} : DataW H := .iface "func table" (.map [(.int .u8 1, .iface "func" (.lit (.string [99, 111, 110, 115, 117, 108, 97, 116, 101, 47, 97, 116, 116, 114, 115, 46, 99, 108, 101, 97, 114, 115, 36, 49]))), (.int .u8 2, .iface "func" (.lit (.string [99, 111, 110, 115, 117, 108, 97, 116, 101, 47, 97, 116, 116, 114, 115, 46, 99, 108, 101, 97, 114, 115, 36, 50]))), (.int .u8 3, .iface "func" (.lit (.string [99, 111, 110, 115, 117, 108, 97, 116, 101, 47, 97, 116, 116, 114, 115, 46, 99, 108, 101, 97, 114, 115, 36, 51]))), (.int .u8 4, .iface "func" (.lit (.string [99, 111, 110, 115, 117, 108, 97, 116, 101, 47, 97, 116, 116, 114, 115, 46, 99, 108, 101, 97, 114, 115, 36, 52]))), (.int .u8 5, .iface "func" (.lit (.string [99, 111, 110, 115, 117, 108, 97, 116, 101, 47, 97, 116, 116, 114, 115, 46, 99, 108, 101, 97, 114, 115, 36, 53]))), (.int .u8 6, .iface "func" (.lit (.string [99, 111, 110, 115, 117, 108, 97, 116, 101, 47, 97, 116, 116, 114, 115, 46, 99, 108, 101, 97, 114, 115, 36, 54]))), (.int .u8 7, .iface "func" (.lit (.string [99, 111, 110, 115, 117, 108, 97, 116, 101, 47, 97, 116, 116, 114, 115, 46, 99, 108, 101, 97, 114, 115, 36, 55]))), (.int .u8 8, .iface "func" (.lit (.string [99, 111, 110, 115, 117, 108, 97, 116, 101, 47, 97, 116, 116, 114, 115, 46, 99, 108, 101, 97, 114, 115, 36, 56]))), (.int .u8 17, .iface "func" (.lit (.string [99, 111, 110, 115, 117, 108, 97, 116, 101, 47, 97, 116, 116, 114, 115, 46, 99, 108, 101, 97, 114, 115, 36, 57]))), (.int .u8 18, .iface "func" (.lit (.string [99, 111, 110, 115, 117, 108, 97, 116, 101, 47, 97, 116, 116, 114, 115, 46, 99, 108, 101, 97, 114, 115, 36, 49, 48])))])

/-- 'consulatelaw22.GatherPaths': WHATEVER THE INPUT: true; the input reads as it did. -/
def gatherPathsSpec : ChangeSpec := { name := "gatherPaths", fn := fun _ => fun
  | [d] => { results := [.lit (.bool true)], args := [d] }
  | _ => none }
def gatherPathsRow : OpenClaim := { program := "ytahebkafkaldgaagreatdoor", sum := "4b1d86cd560631bbae19839e092d8e991acf71e74e43dc78de7ded37b65b4b9f", func := "consulate/consulatelaw22.GatherPaths", spec := "gatherPaths", inPlace := ["internal/bytealg.IndexByteString", "internal/bytealg.IndexString", "internal/bytealg.CountString", "internal/abi.NoEscape", "internal/bytealg.MakeNoZero"], unfollowed := true, recurses := true, named := ["consulate/path.signs", "internal/bytealg.MaxLen", "unicode/utf8.first", "unicode/utf8.acceptRanges", "strconv.ErrSyntax", "strconv.ErrRange", "internal/strconv.uint64pow10", "math/bits.deBruijn32tab", "math/bits.deBruijn64tab"], apart := false, laid := [("math/bits.deBruijn32tab", laid_math_bits_deBruijn32tab), ("math/bits.deBruijn64tab", laid_math_bits_deBruijn64tab), ("internal/strconv.uint64pow10", laid_internal_strconv_uint64pow10), ("unicode/utf8.acceptRanges", laid_unicode_utf8_acceptRanges), ("strconv.ErrRange", laid_strconv_ErrRange), ("strconv.ErrSyntax", laid_strconv_ErrSyntax), ("consulate/path.signs", laid_consulate_path_signs), ("unicode/utf8.first", laid_unicode_utf8_first)] }
def GatherPathsSaid : Prop := gatherPathsRow.holds Tryz.pinned (OpenSpec.ofChange gatherPathsSpec)

/-- ITS FALSE NEIGHBOUR: 'it returns false'. Refute it at one input. -/
def gatherPathsWrong : ChangeSpec := { name := "gatherPaths", fn := fun _ => fun
  | [d] => { results := [.lit (.bool false)], args := [d] }
  | _ => none }
def GatherPathsWrongFalsely : Prop := gatherPathsRow.holds Tryz.pinned (OpenSpec.ofChange gatherPathsWrong)

/-- 'consulatelaw22.GatherAll': WHATEVER THE INPUT: true; the input reads as it did. -/
def gatherAllSpec : ChangeSpec := { name := "gatherAll", fn := fun _ => fun
  | [d] => { results := [.lit (.bool true)], args := [d] }
  | _ => none }
def gatherAllRow : OpenClaim := { program := "ytahebkafkaldgaagreatdoor", sum := "4b1d86cd560631bbae19839e092d8e991acf71e74e43dc78de7ded37b65b4b9f", func := "consulate/consulatelaw22.GatherAll", spec := "gatherAll", inPlace := ["internal/bytealg.IndexByteString", "internal/bytealg.IndexString", "internal/bytealg.CountString", "internal/abi.NoEscape", "internal/bytealg.MakeNoZero"], unfollowed := true, recurses := true, named := ["consulate/path.signs", "internal/bytealg.MaxLen", "unicode/utf8.first", "unicode/utf8.acceptRanges", "strconv.ErrSyntax", "strconv.ErrRange", "internal/strconv.uint64pow10", "math/bits.deBruijn32tab", "math/bits.deBruijn64tab"], apart := false, laid := [("math/bits.deBruijn32tab", laid_math_bits_deBruijn32tab), ("math/bits.deBruijn64tab", laid_math_bits_deBruijn64tab), ("internal/strconv.uint64pow10", laid_internal_strconv_uint64pow10), ("unicode/utf8.acceptRanges", laid_unicode_utf8_acceptRanges), ("strconv.ErrRange", laid_strconv_ErrRange), ("strconv.ErrSyntax", laid_strconv_ErrSyntax), ("consulate/path.signs", laid_consulate_path_signs), ("unicode/utf8.first", laid_unicode_utf8_first)] }
def GatherAllSaid : Prop := gatherAllRow.holds Tryz.pinned (OpenSpec.ofChange gatherAllSpec)

/-- ITS FALSE NEIGHBOUR: 'it returns false'. Refute it at one input. -/
def gatherAllWrong : ChangeSpec := { name := "gatherAll", fn := fun _ => fun
  | [d] => { results := [.lit (.bool false)], args := [d] }
  | _ => none }
def GatherAllWrongFalsely : Prop := gatherAllRow.holds Tryz.pinned (OpenSpec.ofChange gatherAllWrong)

/-- 'consulatelaw22.GatherOrder': WHATEVER THE INPUT: true; the input reads as it did. -/
def gatherOrderSpec : ChangeSpec := { name := "gatherOrder", fn := fun _ => fun
  | [d1, d2] => { results := [.lit (.bool true)], args := [d1, d2] }
  | _ => none }
def gatherOrderRow : OpenClaim := { program := "ytahebkafkaldgaagreatdoor", sum := "4b1d86cd560631bbae19839e092d8e991acf71e74e43dc78de7ded37b65b4b9f", func := "consulate/consulatelaw22.GatherOrder", spec := "gatherOrder", inPlace := ["internal/bytealg.IndexByteString", "internal/bytealg.IndexString", "internal/bytealg.CountString", "internal/abi.NoEscape", "internal/bytealg.MakeNoZero"], unfollowed := true, recurses := true, named := ["consulate/path.signs", "internal/bytealg.MaxLen", "unicode/utf8.first", "unicode/utf8.acceptRanges", "strconv.ErrSyntax", "strconv.ErrRange", "internal/strconv.uint64pow10", "math/bits.deBruijn32tab", "math/bits.deBruijn64tab"], apart := false, laid := [("math/bits.deBruijn32tab", laid_math_bits_deBruijn32tab), ("math/bits.deBruijn64tab", laid_math_bits_deBruijn64tab), ("internal/strconv.uint64pow10", laid_internal_strconv_uint64pow10), ("unicode/utf8.acceptRanges", laid_unicode_utf8_acceptRanges), ("strconv.ErrRange", laid_strconv_ErrRange), ("strconv.ErrSyntax", laid_strconv_ErrSyntax), ("consulate/path.signs", laid_consulate_path_signs), ("unicode/utf8.first", laid_unicode_utf8_first)] }
def GatherOrderSaid : Prop := gatherOrderRow.holds Tryz.pinned (OpenSpec.ofChange gatherOrderSpec)

/-- ITS FALSE NEIGHBOUR: 'it returns false'. Refute it at one input. -/
def gatherOrderWrong : ChangeSpec := { name := "gatherOrder", fn := fun _ => fun
  | [d1, d2] => { results := [.lit (.bool false)], args := [d1, d2] }
  | _ => none }
def GatherOrderWrongFalsely : Prop := gatherOrderRow.holds Tryz.pinned (OpenSpec.ofChange gatherOrderWrong)

/-- 'consulatelaw22.GatherTells': WHATEVER THE INPUT: true; the input reads as it did. -/
def gatherTellsSpec : ChangeSpec := { name := "gatherTells", fn := fun _ => fun
  | [d1, d2, d3] => { results := [.lit (.bool true)], args := [d1, d2, d3] }
  | _ => none }
def gatherTellsRow : OpenClaim := { program := "ytahebkafkaldgaagreatdoor", sum := "4b1d86cd560631bbae19839e092d8e991acf71e74e43dc78de7ded37b65b4b9f", func := "consulate/consulatelaw22.GatherTells", spec := "gatherTells", inPlace := ["internal/bytealg.IndexByteString", "internal/bytealg.IndexString", "internal/bytealg.CountString", "internal/abi.NoEscape", "internal/bytealg.MakeNoZero"], unfollowed := true, recurses := true, named := ["consulate/attrs.kinds", "consulate/attrs.clears", "consulate/path.signs", "internal/bytealg.MaxLen", "unicode/utf8.first", "unicode/utf8.acceptRanges", "strconv.ErrSyntax", "strconv.ErrRange", "internal/strconv.uint64pow10", "math/bits.deBruijn32tab", "math/bits.deBruijn64tab"], apart := false, laid := [("math/bits.deBruijn32tab", laid_math_bits_deBruijn32tab), ("math/bits.deBruijn64tab", laid_math_bits_deBruijn64tab), ("internal/strconv.uint64pow10", laid_internal_strconv_uint64pow10), ("unicode/utf8.acceptRanges", laid_unicode_utf8_acceptRanges), ("strconv.ErrRange", laid_strconv_ErrRange), ("strconv.ErrSyntax", laid_strconv_ErrSyntax), ("consulate/path.signs", laid_consulate_path_signs), ("consulate/attrs.kinds", laid_consulate_attrs_kinds), ("consulate/attrs.clears", laid_consulate_attrs_clears), ("unicode/utf8.first", laid_unicode_utf8_first)] }
def GatherTellsSaid : Prop := gatherTellsRow.holds Tryz.pinned (OpenSpec.ofChange gatherTellsSpec)

/-- ITS FALSE NEIGHBOUR: 'it returns false'. Refute it at one input. -/
def gatherTellsWrong : ChangeSpec := { name := "gatherTells", fn := fun _ => fun
  | [d1, d2, d3] => { results := [.lit (.bool false)], args := [d1, d2, d3] }
  | _ => none }
def GatherTellsWrongFalsely : Prop := gatherTellsRow.holds Tryz.pinned (OpenSpec.ofChange gatherTellsWrong)

/-- 'consulatelaw22.GatherKnown': WHATEVER THE INPUT: true; the input reads as it did. -/
def gatherKnownSpec : ChangeSpec := { name := "gatherKnown", fn := fun _ => fun
  | [] => { results := [.lit (.bool true)], args := [] }
  | _ => none }
def gatherKnownRow : OpenClaim := { program := "ytahebkafkaldgaagreatdoor", sum := "4b1d86cd560631bbae19839e092d8e991acf71e74e43dc78de7ded37b65b4b9f", func := "consulate/consulatelaw22.GatherKnown", spec := "gatherKnown", inPlace := ["internal/bytealg.IndexByteString", "internal/bytealg.IndexString", "internal/bytealg.CountString", "internal/abi.NoEscape", "internal/bytealg.MakeNoZero"], unfollowed := true, recurses := true, named := ["consulate/path.signs", "internal/bytealg.MaxLen", "unicode/utf8.first", "unicode/utf8.acceptRanges", "strconv.ErrSyntax", "strconv.ErrRange", "internal/strconv.uint64pow10", "math/bits.deBruijn32tab", "math/bits.deBruijn64tab", "consulate/attrs.kinds", "consulate/attrs.clears"], apart := false, laid := [("math/bits.deBruijn32tab", laid_math_bits_deBruijn32tab), ("math/bits.deBruijn64tab", laid_math_bits_deBruijn64tab), ("internal/strconv.uint64pow10", laid_internal_strconv_uint64pow10), ("unicode/utf8.acceptRanges", laid_unicode_utf8_acceptRanges), ("strconv.ErrRange", laid_strconv_ErrRange), ("strconv.ErrSyntax", laid_strconv_ErrSyntax), ("consulate/path.signs", laid_consulate_path_signs), ("consulate/attrs.kinds", laid_consulate_attrs_kinds), ("consulate/attrs.clears", laid_consulate_attrs_clears), ("unicode/utf8.first", laid_unicode_utf8_first)] }
def GatherKnownSaid : Prop := gatherKnownRow.holds Tryz.pinned (OpenSpec.ofChange gatherKnownSpec)

/-- ITS FALSE NEIGHBOUR: 'it returns false'. Refute it at one input. -/
def gatherKnownWrong : ChangeSpec := { name := "gatherKnown", fn := fun _ => fun
  | [] => { results := [.lit (.bool false)], args := [] }
  | _ => none }
def GatherKnownWrongFalsely : Prop := gatherKnownRow.holds Tryz.pinned (OpenSpec.ofChange gatherKnownWrong)

/-- 'consulatelaw22.GatherRoutes': WHATEVER THE INPUT: true; the input reads as it did. -/
def gatherRoutesSpec : ChangeSpec := { name := "gatherRoutes", fn := fun _ => fun
  | [d1, d2, d3] => { results := [.lit (.bool true)], args := [d1, d2, d3] }
  | _ => none }
def gatherRoutesRow : OpenClaim := { program := "ytahebkafkaldgaagreatdoor", sum := "4b1d86cd560631bbae19839e092d8e991acf71e74e43dc78de7ded37b65b4b9f", func := "consulate/consulatelaw22.GatherRoutes", spec := "gatherRoutes", inPlace := ["internal/bytealg.IndexByteString", "internal/bytealg.IndexString", "internal/bytealg.CountString", "internal/abi.NoEscape", "internal/bytealg.MakeNoZero"], unfollowed := true, recurses := true, named := ["consulate/attrs.clears", "consulate/attrs.kinds", "consulate/path.signs", "internal/bytealg.MaxLen", "unicode/utf8.first", "unicode/utf8.acceptRanges", "strconv.ErrSyntax", "strconv.ErrRange", "internal/strconv.uint64pow10", "math/bits.deBruijn32tab", "math/bits.deBruijn64tab"], apart := false, laid := [("math/bits.deBruijn32tab", laid_math_bits_deBruijn32tab), ("math/bits.deBruijn64tab", laid_math_bits_deBruijn64tab), ("internal/strconv.uint64pow10", laid_internal_strconv_uint64pow10), ("unicode/utf8.acceptRanges", laid_unicode_utf8_acceptRanges), ("strconv.ErrRange", laid_strconv_ErrRange), ("strconv.ErrSyntax", laid_strconv_ErrSyntax), ("consulate/path.signs", laid_consulate_path_signs), ("consulate/attrs.kinds", laid_consulate_attrs_kinds), ("consulate/attrs.clears", laid_consulate_attrs_clears), ("unicode/utf8.first", laid_unicode_utf8_first)] }
def GatherRoutesSaid : Prop := gatherRoutesRow.holds Tryz.pinned (OpenSpec.ofChange gatherRoutesSpec)

/-- ITS FALSE NEIGHBOUR: 'it returns false'. Refute it at one input. -/
def gatherRoutesWrong : ChangeSpec := { name := "gatherRoutes", fn := fun _ => fun
  | [d1, d2, d3] => { results := [.lit (.bool false)], args := [d1, d2, d3] }
  | _ => none }
def GatherRoutesWrongFalsely : Prop := gatherRoutesRow.holds Tryz.pinned (OpenSpec.ofChange gatherRoutesWrong)

/- THE SECOND FORM. 'bulk': how many values and letters a reading holds, each counted each time it is reached (what is shared counts as often as it is met; a slice's spare places count too). A statement '..UptoSaid' is the law's where the arguments, and the package variables that the reading takes, are together of bulk at most 1048576: NARROWER than '..Said'. Prove '..Said' where nothing that the law and all that it calls make is longer than what came in: it says more and counts as full. Else prove '..UptoSaid'. A law counts once. -/
mutual
def uptoBulk {H : Type} : DataW H → Nat
  | .lit (.string bytes) => bytes.length + 1
  | .lit _ => 1
  | .nil => 1
  | .ptr d => uptoBulk d + 1
  | .slice elems spare => uptoBulkAll elems + uptoBulkAll spare + 1
  | .agg parts => uptoBulkAll parts + 1
  | .iface _ d => uptoBulk d + 1
  | .map entries => uptoBulkEntries entries + 1
  | .held _ => 1
def uptoBulkAll {H : Type} : List (DataW H) → Nat
  | [] => 0
  | d :: r => uptoBulk d + uptoBulkAll r
def uptoBulkEntries {H : Type} : List (Lit × DataW H) → Nat
  | [] => 0
  | x :: r => uptoBulkEntry x + uptoBulkEntries r
def uptoBulkEntry {H : Type} : Lit × DataW H → Nat
  | (.string bytes, d) => bytes.length + uptoBulk d + 1
  | (_, d) => uptoBulk d + 1
 end
def uptoSmall : (H : Type) → List (DataW H) → Bool := fun _ ds => decide (uptoBulkAll ds ≤ 1048576)
def OpenSpec.upto (s : _root_.Go.ChangeSpec) : _root_.Go.OpenSpec := { _root_.Go.OpenSpec.ofChange s with cond := some uptoSmall }

/-- 'consulatelaw22.GatherPaths', WHERE WHAT IT READS IS OF BULK AT MOST 1048576: true; the input reads as it did. -/
def gatherPathsUptoRow : OpenClaim := { program := "ytahebkafkaldgaagreatdoor", sum := "4b1d86cd560631bbae19839e092d8e991acf71e74e43dc78de7ded37b65b4b9f", func := "consulate/consulatelaw22.GatherPaths", spec := "gatherPaths", inPlace := ["internal/bytealg.IndexByteString", "internal/bytealg.IndexString", "internal/bytealg.CountString", "internal/abi.NoEscape", "internal/bytealg.MakeNoZero"], unfollowed := true, recurses := true, named := ["consulate/path.signs", "internal/bytealg.MaxLen", "unicode/utf8.first", "unicode/utf8.acceptRanges", "strconv.ErrSyntax", "strconv.ErrRange", "internal/strconv.uint64pow10", "math/bits.deBruijn32tab", "math/bits.deBruijn64tab"], apart := false, laid := [("math/bits.deBruijn32tab", laid_math_bits_deBruijn32tab), ("math/bits.deBruijn64tab", laid_math_bits_deBruijn64tab), ("internal/strconv.uint64pow10", laid_internal_strconv_uint64pow10), ("unicode/utf8.acceptRanges", laid_unicode_utf8_acceptRanges), ("strconv.ErrRange", laid_strconv_ErrRange), ("strconv.ErrSyntax", laid_strconv_ErrSyntax), ("consulate/path.signs", laid_consulate_path_signs), ("unicode/utf8.first", laid_unicode_utf8_first)], narrowed := true }
def GatherPathsUptoSaid : Prop := gatherPathsUptoRow.holds Tryz.pinned (OpenSpec.upto gatherPathsSpec)

/-- 'consulatelaw22.GatherAll', WHERE WHAT IT READS IS OF BULK AT MOST 1048576: true; the input reads as it did. -/
def gatherAllUptoRow : OpenClaim := { program := "ytahebkafkaldgaagreatdoor", sum := "4b1d86cd560631bbae19839e092d8e991acf71e74e43dc78de7ded37b65b4b9f", func := "consulate/consulatelaw22.GatherAll", spec := "gatherAll", inPlace := ["internal/bytealg.IndexByteString", "internal/bytealg.IndexString", "internal/bytealg.CountString", "internal/abi.NoEscape", "internal/bytealg.MakeNoZero"], unfollowed := true, recurses := true, named := ["consulate/path.signs", "internal/bytealg.MaxLen", "unicode/utf8.first", "unicode/utf8.acceptRanges", "strconv.ErrSyntax", "strconv.ErrRange", "internal/strconv.uint64pow10", "math/bits.deBruijn32tab", "math/bits.deBruijn64tab"], apart := false, laid := [("math/bits.deBruijn32tab", laid_math_bits_deBruijn32tab), ("math/bits.deBruijn64tab", laid_math_bits_deBruijn64tab), ("internal/strconv.uint64pow10", laid_internal_strconv_uint64pow10), ("unicode/utf8.acceptRanges", laid_unicode_utf8_acceptRanges), ("strconv.ErrRange", laid_strconv_ErrRange), ("strconv.ErrSyntax", laid_strconv_ErrSyntax), ("consulate/path.signs", laid_consulate_path_signs), ("unicode/utf8.first", laid_unicode_utf8_first)], narrowed := true }
def GatherAllUptoSaid : Prop := gatherAllUptoRow.holds Tryz.pinned (OpenSpec.upto gatherAllSpec)

/-- 'consulatelaw22.GatherOrder', WHERE WHAT IT READS IS OF BULK AT MOST 1048576: true; the input reads as it did. -/
def gatherOrderUptoRow : OpenClaim := { program := "ytahebkafkaldgaagreatdoor", sum := "4b1d86cd560631bbae19839e092d8e991acf71e74e43dc78de7ded37b65b4b9f", func := "consulate/consulatelaw22.GatherOrder", spec := "gatherOrder", inPlace := ["internal/bytealg.IndexByteString", "internal/bytealg.IndexString", "internal/bytealg.CountString", "internal/abi.NoEscape", "internal/bytealg.MakeNoZero"], unfollowed := true, recurses := true, named := ["consulate/path.signs", "internal/bytealg.MaxLen", "unicode/utf8.first", "unicode/utf8.acceptRanges", "strconv.ErrSyntax", "strconv.ErrRange", "internal/strconv.uint64pow10", "math/bits.deBruijn32tab", "math/bits.deBruijn64tab"], apart := false, laid := [("math/bits.deBruijn32tab", laid_math_bits_deBruijn32tab), ("math/bits.deBruijn64tab", laid_math_bits_deBruijn64tab), ("internal/strconv.uint64pow10", laid_internal_strconv_uint64pow10), ("unicode/utf8.acceptRanges", laid_unicode_utf8_acceptRanges), ("strconv.ErrRange", laid_strconv_ErrRange), ("strconv.ErrSyntax", laid_strconv_ErrSyntax), ("consulate/path.signs", laid_consulate_path_signs), ("unicode/utf8.first", laid_unicode_utf8_first)], narrowed := true }
def GatherOrderUptoSaid : Prop := gatherOrderUptoRow.holds Tryz.pinned (OpenSpec.upto gatherOrderSpec)

/-- 'consulatelaw22.GatherTells', WHERE WHAT IT READS IS OF BULK AT MOST 1048576: true; the input reads as it did. -/
def gatherTellsUptoRow : OpenClaim := { program := "ytahebkafkaldgaagreatdoor", sum := "4b1d86cd560631bbae19839e092d8e991acf71e74e43dc78de7ded37b65b4b9f", func := "consulate/consulatelaw22.GatherTells", spec := "gatherTells", inPlace := ["internal/bytealg.IndexByteString", "internal/bytealg.IndexString", "internal/bytealg.CountString", "internal/abi.NoEscape", "internal/bytealg.MakeNoZero"], unfollowed := true, recurses := true, named := ["consulate/attrs.kinds", "consulate/attrs.clears", "consulate/path.signs", "internal/bytealg.MaxLen", "unicode/utf8.first", "unicode/utf8.acceptRanges", "strconv.ErrSyntax", "strconv.ErrRange", "internal/strconv.uint64pow10", "math/bits.deBruijn32tab", "math/bits.deBruijn64tab"], apart := false, laid := [("math/bits.deBruijn32tab", laid_math_bits_deBruijn32tab), ("math/bits.deBruijn64tab", laid_math_bits_deBruijn64tab), ("internal/strconv.uint64pow10", laid_internal_strconv_uint64pow10), ("unicode/utf8.acceptRanges", laid_unicode_utf8_acceptRanges), ("strconv.ErrRange", laid_strconv_ErrRange), ("strconv.ErrSyntax", laid_strconv_ErrSyntax), ("consulate/path.signs", laid_consulate_path_signs), ("consulate/attrs.kinds", laid_consulate_attrs_kinds), ("consulate/attrs.clears", laid_consulate_attrs_clears), ("unicode/utf8.first", laid_unicode_utf8_first)], narrowed := true }
def GatherTellsUptoSaid : Prop := gatherTellsUptoRow.holds Tryz.pinned (OpenSpec.upto gatherTellsSpec)

/-- 'consulatelaw22.GatherKnown', WHERE WHAT IT READS IS OF BULK AT MOST 1048576: true; the input reads as it did. -/
def gatherKnownUptoRow : OpenClaim := { program := "ytahebkafkaldgaagreatdoor", sum := "4b1d86cd560631bbae19839e092d8e991acf71e74e43dc78de7ded37b65b4b9f", func := "consulate/consulatelaw22.GatherKnown", spec := "gatherKnown", inPlace := ["internal/bytealg.IndexByteString", "internal/bytealg.IndexString", "internal/bytealg.CountString", "internal/abi.NoEscape", "internal/bytealg.MakeNoZero"], unfollowed := true, recurses := true, named := ["consulate/path.signs", "internal/bytealg.MaxLen", "unicode/utf8.first", "unicode/utf8.acceptRanges", "strconv.ErrSyntax", "strconv.ErrRange", "internal/strconv.uint64pow10", "math/bits.deBruijn32tab", "math/bits.deBruijn64tab", "consulate/attrs.kinds", "consulate/attrs.clears"], apart := false, laid := [("math/bits.deBruijn32tab", laid_math_bits_deBruijn32tab), ("math/bits.deBruijn64tab", laid_math_bits_deBruijn64tab), ("internal/strconv.uint64pow10", laid_internal_strconv_uint64pow10), ("unicode/utf8.acceptRanges", laid_unicode_utf8_acceptRanges), ("strconv.ErrRange", laid_strconv_ErrRange), ("strconv.ErrSyntax", laid_strconv_ErrSyntax), ("consulate/path.signs", laid_consulate_path_signs), ("consulate/attrs.kinds", laid_consulate_attrs_kinds), ("consulate/attrs.clears", laid_consulate_attrs_clears), ("unicode/utf8.first", laid_unicode_utf8_first)], narrowed := true }
def GatherKnownUptoSaid : Prop := gatherKnownUptoRow.holds Tryz.pinned (OpenSpec.upto gatherKnownSpec)

/-- 'consulatelaw22.GatherRoutes', WHERE WHAT IT READS IS OF BULK AT MOST 1048576: true; the input reads as it did. -/
def gatherRoutesUptoRow : OpenClaim := { program := "ytahebkafkaldgaagreatdoor", sum := "4b1d86cd560631bbae19839e092d8e991acf71e74e43dc78de7ded37b65b4b9f", func := "consulate/consulatelaw22.GatherRoutes", spec := "gatherRoutes", inPlace := ["internal/bytealg.IndexByteString", "internal/bytealg.IndexString", "internal/bytealg.CountString", "internal/abi.NoEscape", "internal/bytealg.MakeNoZero"], unfollowed := true, recurses := true, named := ["consulate/attrs.clears", "consulate/attrs.kinds", "consulate/path.signs", "internal/bytealg.MaxLen", "unicode/utf8.first", "unicode/utf8.acceptRanges", "strconv.ErrSyntax", "strconv.ErrRange", "internal/strconv.uint64pow10", "math/bits.deBruijn32tab", "math/bits.deBruijn64tab"], apart := false, laid := [("math/bits.deBruijn32tab", laid_math_bits_deBruijn32tab), ("math/bits.deBruijn64tab", laid_math_bits_deBruijn64tab), ("internal/strconv.uint64pow10", laid_internal_strconv_uint64pow10), ("unicode/utf8.acceptRanges", laid_unicode_utf8_acceptRanges), ("strconv.ErrRange", laid_strconv_ErrRange), ("strconv.ErrSyntax", laid_strconv_ErrSyntax), ("consulate/path.signs", laid_consulate_path_signs), ("consulate/attrs.kinds", laid_consulate_attrs_kinds), ("consulate/attrs.clears", laid_consulate_attrs_clears), ("unicode/utf8.first", laid_unicode_utf8_first)], narrowed := true }
def GatherRoutesUptoSaid : Prop := gatherRoutesUptoRow.holds Tryz.pinned (OpenSpec.upto gatherRoutesSpec)

end Rows
end Go.Proofs.YtahebkafkaldgaaGreatDoor

/-
  NARROWER THAN 'FOR EVERY INPUT', by the rows' own cells (each row's printed sentence says how): PackKnown: laid · PackBack: laid · RibsFull: laid · RibsApplied: laid · RibsKnown: laid · RibsThere: laid.
  DERIVED. THE GIVEN ROWS OF THIS SEAT. 6 by the template 'for every input the law returns true; each argument reads behind the call as it read before'; 0 by the template 'total and deterministic' (their statements: YtmimkeikienajaaDoorTotals.lean).
  GIVEN WITH THE SEED: the statements are not yours to turn. If you find one false, say at which input.
  Laid BY PROGRAM, IN A SANDBOX (cutbox-rows.mjs): the forced cells as the released guide's own fill.sh prints them over the translation 80a8f6c8b10a93b2… (all of the seat's roots in one cut). By AI agents, Wed Nov 11 2026. No macro, syntax, notation, axiom, sorry.
-/
import Derived.Test.YtmimkeikienajaaDoorChecked
import GoSem.Claim
import GoSem.ClaimJoined
import GoSem.ClaimMapViews
import Derived.JoinedTies
import Derived.KernelRfl
namespace Go.Proofs.YtmimkeikienajaaDoor
/- THE CELL 'sum', in the pinned program and in every row, IS THE sha256 OF THE DUMP (.gsa) THAT YtmimkeikienajaaDoorProg.lean LOADS. Nothing in Lean hashes anything: it is a label: what it is worth is what the hold of that sum in a sandbox is worth. -/
noncomputable def Tryd.pinned : Pinned := { name := "ytmimkeikienajaadoor", sum := "80a8f6c8b10a93b26e6f85bf85100bef4b6bedc1fa4b22db66ef047314252235", checked := Tryd.checked }
namespace Rows
def none {H : Type} : Left H := { results := [], args := [] }

/- WHAT THE LISTED PACKAGE-LEVEL VARIABLES READ AS WHEN THE CALL BEGINS. Each datum BY PROGRAM (the guide's laid-datum.mjs) off the statement by which the dump's own 'gosem.cut.vars' lays the variable. In a bare row this is a premise. The card (YtmimkeikienajaaDoorCards.lean) ties it to the program's text. -/
def laid_consulate_frame_lengths {H : Type} : DataW H := .agg [.agg [.lit (.int .i64 0), .lit (.int .i64 0)], .agg [.lit (.int .i64 29), .lit (.int .i64 4096)], .agg [.lit (.int .i64 23), .lit (.int .i64 4096)], .agg [.lit (.int .i64 21), .lit (.int .i64 4096)], .agg [.lit (.int .i64 19), .lit (.int .i64 19)], .agg [.lit (.int .i64 23), .lit (.int .i64 23)]]
def laid_consulate_attrs_kinds {H : Type} : DataW H := .iface "func table" (.map [(.int .u8 1, .agg [.lit (.int .u8 64), .lit (.int .i64 2), .iface "func" (.lit (.string [99, 111, 110, 115, 117, 108, 97, 116, 101, 47, 97, 116, 116, 114, 115, 46, 107, 105, 110, 100, 115, 36, 49]))]), (.int .u8 2, .agg [.lit (.int .u8 64), .lit (.int .i64 2), .iface "func" (.lit (.string [99, 111, 110, 115, 117, 108, 97, 116, 101, 47, 97, 116, 116, 114, 115, 46, 107, 105, 110, 100, 115, 36, 50]))]), (.int .u8 3, .agg [.lit (.int .u8 64), .lit (.int .i64 2), .iface "func" (.lit (.string [99, 111, 110, 115, 117, 108, 97, 116, 101, 47, 97, 116, 116, 114, 115, 46, 107, 105, 110, 100, 115, 36, 51]))]), (.int .u8 4, .agg [.lit (.int .u8 128), .lit (.int .i64 2), .iface "func" (.lit (.string [99, 111, 110, 115, 117, 108, 97, 116, 101, 47, 97, 116, 116, 114, 115, 46, 107, 105, 110, 100, 115, 36, 52]))]), (.int .u8 5, .agg [.lit (.int .u8 64), .lit (.int .i64 2), .iface "func" (.lit (.string [99, 111, 110, 115, 117, 108, 97, 116, 101, 47, 97, 116, 116, 114, 115, 46, 107, 105, 110, 100, 115, 36, 53]))]), (.int .u8 6, .agg [.lit (.int .u8 64), .lit (.int .i64 1), .iface "func" (.lit (.string [99, 111, 110, 115, 117, 108, 97, 116, 101, 47, 97, 116, 116, 114, 115, 46, 107, 105, 110, 100, 115, 36, 54]))]), (.int .u8 7, .agg [.lit (.int .u8 192), .lit (.int .i64 1), .iface "func" (.lit (.string [99, 111, 110, 115, 117, 108, 97, 116, 101, 47, 97, 116, 116, 114, 115, 46, 107, 105, 110, 100, 115, 36, 55]))]), (.int .u8 8, .agg [.lit (.int .u8 192), .lit (.int .i64 2), .iface "func" (.lit (.string [99, 111, 110, 115, 117, 108, 97, 116, 101, 47, 97, 116, 116, 114, 115, 46, 107, 105, 110, 100, 115, 36, 56]))]), (.int .u8 17, .agg [.lit (.int .u8 192), .lit (.int .i64 1), .iface "func" (.lit (.string [99, 111, 110, 115, 117, 108, 97, 116, 101, 47, 97, 116, 116, 114, 115, 46, 107, 105, 110, 100, 115, 36, 57]))]), (.int .u8 18, .agg [.lit (.int .u8 192), .lit (.int .i64 1), .iface "func" (.lit (.string [99, 111, 110, 115, 117, 108, 97, 116, 101, 47, 97, 116, 116, 114, 115, 46, 107, 105, 110, 100, 115, 36, 49, 48]))])])
def laid_consulate_attrs_clears {H : Type} : DataW H := .iface "func table" (.map [(.int .u8 1, .iface "func" (.lit (.string [99, 111, 110, 115, 117, 108, 97, 116, 101, 47, 97, 116, 116, 114, 115, 46, 99, 108, 101, 97, 114, 115, 36, 49]))), (.int .u8 2, .iface "func" (.lit (.string [99, 111, 110, 115, 117, 108, 97, 116, 101, 47, 97, 116, 116, 114, 115, 46, 99, 108, 101, 97, 114, 115, 36, 50]))), (.int .u8 3, .iface "func" (.lit (.string [99, 111, 110, 115, 117, 108, 97, 116, 101, 47, 97, 116, 116, 114, 115, 46, 99, 108, 101, 97, 114, 115, 36, 51]))), (.int .u8 4, .iface "func" (.lit (.string [99, 111, 110, 115, 117, 108, 97, 116, 101, 47, 97, 116, 116, 114, 115, 46, 99, 108, 101, 97, 114, 115, 36, 52]))), (.int .u8 5, .iface "func" (.lit (.string [99, 111, 110, 115, 117, 108, 97, 116, 101, 47, 97, 116, 116, 114, 115, 46, 99, 108, 101, 97, 114, 115, 36, 53]))), (.int .u8 6, .iface "func" (.lit (.string [99, 111, 110, 115, 117, 108, 97, 116, 101, 47, 97, 116, 116, 114, 115, 46, 99, 108, 101, 97, 114, 115, 36, 54]))), (.int .u8 7, .iface "func" (.lit (.string [99, 111, 110, 115, 117, 108, 97, 116, 101, 47, 97, 116, 116, 114, 115, 46, 99, 108, 101, 97, 114, 115, 36, 55]))), (.int .u8 8, .iface "func" (.lit (.string [99, 111, 110, 115, 117, 108, 97, 116, 101, 47, 97, 116, 116, 114, 115, 46, 99, 108, 101, 97, 114, 115, 36, 56]))), (.int .u8 17, .iface "func" (.lit (.string [99, 111, 110, 115, 117, 108, 97, 116, 101, 47, 97, 116, 116, 114, 115, 46, 99, 108, 101, 97, 114, 115, 36, 57]))), (.int .u8 18, .iface "func" (.lit (.string [99, 111, 110, 115, 117, 108, 97, 116, 101, 47, 97, 116, 116, 114, 115, 46, 99, 108, 101, 97, 114, 115, 36, 49, 48])))])

/-- 'consulatelaw27.PackKnown': WHATEVER THE INPUT: true; the input reads as it did. -/
def packKnownSpec : ChangeSpec := { name := "packKnown", fn := fun _ => fun
  | [] => { results := [.lit (.bool true)], args := [] }
  | _ => none }
def packKnownRow : OpenClaim := { program := "ytmimkeikienajaadoor", sum := "80a8f6c8b10a93b26e6f85bf85100bef4b6bedc1fa4b22db66ef047314252235", func := "consulate/consulatelaw27.PackKnown", spec := "packKnown", unfollowed := true, recurses := true, named := ["consulate/frame.lengths"], plainKeys := false, apart := false, laid := [("consulate/frame.lengths", laid_consulate_frame_lengths)] }
def PackKnownSaid : Prop := packKnownRow.holds Tryd.pinned (OpenSpec.ofChange packKnownSpec)

/-- ITS FALSE NEIGHBOUR: 'it returns false'. Refute it at one input. -/
def packKnownWrong : ChangeSpec := { name := "packKnown", fn := fun _ => fun
  | [] => { results := [.lit (.bool false)], args := [] }
  | _ => none }
def PackKnownWrongFalsely : Prop := packKnownRow.holds Tryd.pinned (OpenSpec.ofChange packKnownWrong)

/-- 'consulatelaw27.PackBack': WHATEVER THE INPUT: true; the input reads as it did. -/
def packBackSpec : ChangeSpec := { name := "packBack", fn := fun _ => fun
  | [d1, d2] => { results := [.lit (.bool true)], args := [d1, d2] }
  | _ => none }
def packBackRow : OpenClaim := { program := "ytmimkeikienajaadoor", sum := "80a8f6c8b10a93b26e6f85bf85100bef4b6bedc1fa4b22db66ef047314252235", func := "consulate/consulatelaw27.PackBack", spec := "packBack", unfollowed := true, recurses := true, named := ["consulate/frame.lengths"], plainKeys := false, apart := false, laid := [("consulate/frame.lengths", laid_consulate_frame_lengths)] }
def PackBackSaid : Prop := packBackRow.holds Tryd.pinned (OpenSpec.ofChange packBackSpec)

/-- ITS FALSE NEIGHBOUR: 'it returns false'. Refute it at one input. -/
def packBackWrong : ChangeSpec := { name := "packBack", fn := fun _ => fun
  | [d1, d2] => { results := [.lit (.bool false)], args := [d1, d2] }
  | _ => none }
def PackBackWrongFalsely : Prop := packBackRow.holds Tryd.pinned (OpenSpec.ofChange packBackWrong)

/-- 'consulatelaw18.RibsFull': WHATEVER THE INPUT: true; the input reads as it did. -/
def ribsFullSpec : ChangeSpec := { name := "ribsFull", fn := fun _ => fun
  | [d1, d2] => { results := [.lit (.bool true)], args := [d1, d2] }
  | _ => none }
def ribsFullRow : OpenClaim := { program := "ytmimkeikienajaadoor", sum := "80a8f6c8b10a93b26e6f85bf85100bef4b6bedc1fa4b22db66ef047314252235", func := "consulate/consulatelaw18.RibsFull", spec := "ribsFull", unfollowed := true, recurses := true, named := ["consulate/attrs.kinds", "consulate/attrs.clears"], plainKeys := false, apart := false, laid := [("consulate/attrs.kinds", laid_consulate_attrs_kinds), ("consulate/attrs.clears", laid_consulate_attrs_clears)] }
def RibsFullSaid : Prop := ribsFullRow.holds Tryd.pinned (OpenSpec.ofChange ribsFullSpec)

/-- ITS FALSE NEIGHBOUR: 'it returns false'. Refute it at one input. -/
def ribsFullWrong : ChangeSpec := { name := "ribsFull", fn := fun _ => fun
  | [d1, d2] => { results := [.lit (.bool false)], args := [d1, d2] }
  | _ => none }
def RibsFullWrongFalsely : Prop := ribsFullRow.holds Tryd.pinned (OpenSpec.ofChange ribsFullWrong)

/-- 'consulatelaw18.RibsApplied': WHATEVER THE INPUT: true; the input reads as it did. -/
def ribsAppliedSpec : ChangeSpec := { name := "ribsApplied", fn := fun _ => fun
  | [d1, d2] => { results := [.lit (.bool true)], args := [d1, d2] }
  | _ => none }
def ribsAppliedRow : OpenClaim := { program := "ytmimkeikienajaadoor", sum := "80a8f6c8b10a93b26e6f85bf85100bef4b6bedc1fa4b22db66ef047314252235", func := "consulate/consulatelaw18.RibsApplied", spec := "ribsApplied", unfollowed := true, recurses := true, named := ["consulate/attrs.clears", "consulate/attrs.kinds"], plainKeys := false, apart := false, laid := [("consulate/attrs.kinds", laid_consulate_attrs_kinds), ("consulate/attrs.clears", laid_consulate_attrs_clears)] }
def RibsAppliedSaid : Prop := ribsAppliedRow.holds Tryd.pinned (OpenSpec.ofChange ribsAppliedSpec)

/-- ITS FALSE NEIGHBOUR: 'it returns false'. Refute it at one input. -/
def ribsAppliedWrong : ChangeSpec := { name := "ribsApplied", fn := fun _ => fun
  | [d1, d2] => { results := [.lit (.bool false)], args := [d1, d2] }
  | _ => none }
def RibsAppliedWrongFalsely : Prop := ribsAppliedRow.holds Tryd.pinned (OpenSpec.ofChange ribsAppliedWrong)

/-- 'consulatelaw18.RibsKnown': WHATEVER THE INPUT: true; the input reads as it did. -/
def ribsKnownSpec : ChangeSpec := { name := "ribsKnown", fn := fun _ => fun
  | [] => { results := [.lit (.bool true)], args := [] }
  | _ => none }
def ribsKnownRow : OpenClaim := { program := "ytmimkeikienajaadoor", sum := "80a8f6c8b10a93b26e6f85bf85100bef4b6bedc1fa4b22db66ef047314252235", func := "consulate/consulatelaw18.RibsKnown", spec := "ribsKnown", unfollowed := true, recurses := true, named := ["consulate/attrs.kinds", "consulate/attrs.clears"], plainKeys := false, apart := false, laid := [("consulate/attrs.kinds", laid_consulate_attrs_kinds), ("consulate/attrs.clears", laid_consulate_attrs_clears)] }
def RibsKnownSaid : Prop := ribsKnownRow.holds Tryd.pinned (OpenSpec.ofChange ribsKnownSpec)

/-- ITS FALSE NEIGHBOUR: 'it returns false'. Refute it at one input. -/
def ribsKnownWrong : ChangeSpec := { name := "ribsKnown", fn := fun _ => fun
  | [] => { results := [.lit (.bool false)], args := [] }
  | _ => none }
def RibsKnownWrongFalsely : Prop := ribsKnownRow.holds Tryd.pinned (OpenSpec.ofChange ribsKnownWrong)

/-- 'consulatelaw18.RibsThere': WHATEVER THE INPUT: true; the input reads as it did. -/
def ribsThereSpec : ChangeSpec := { name := "ribsThere", fn := fun _ => fun
  | [d] => { results := [.lit (.bool true)], args := [d] }
  | _ => none }
def ribsThereRow : OpenClaim := { program := "ytmimkeikienajaadoor", sum := "80a8f6c8b10a93b26e6f85bf85100bef4b6bedc1fa4b22db66ef047314252235", func := "consulate/consulatelaw18.RibsThere", spec := "ribsThere", unfollowed := true, recurses := true, named := ["consulate/attrs.clears", "consulate/attrs.kinds"], plainKeys := false, apart := false, laid := [("consulate/attrs.kinds", laid_consulate_attrs_kinds), ("consulate/attrs.clears", laid_consulate_attrs_clears)] }
def RibsThereSaid : Prop := ribsThereRow.holds Tryd.pinned (OpenSpec.ofChange ribsThereSpec)

/-- ITS FALSE NEIGHBOUR: 'it returns false'. Refute it at one input. -/
def ribsThereWrong : ChangeSpec := { name := "ribsThere", fn := fun _ => fun
  | [d] => { results := [.lit (.bool false)], args := [d] }
  | _ => none }
def RibsThereWrongFalsely : Prop := ribsThereRow.holds Tryd.pinned (OpenSpec.ofChange ribsThereWrong)

/- THE SECOND FORM. 'bulk': how many values and letters a reading holds, each counted each time it is reached (what is shared counts as often as it is met; a slice's spare places count too). A statement '..UptoSaid' is the law's where the arguments, and the package variables that the reading takes, are together of bulk at most 1048576: NARROWER than '..Said'. Prove '..Said' where nothing that the law and all that it calls make is longer than what came in: it says more and counts as full. Else prove '..UptoSaid'. A law counts once. -/
mutual
def uptoBulk {H : Type} : DataW H → Nat
  | .lit (.string bytes) => bytes.length + 1
  | .lit _ => 1
  | .nil => 1
  | .ptr d => uptoBulk d + 1
  | .slice elems spare => uptoBulkAll elems + uptoBulkAll spare + 1
  | .agg parts => uptoBulkAll parts + 1
  | .iface _ d => uptoBulk d + 1
  | .map entries => uptoBulkEntries entries + 1
  | .held _ => 1
def uptoBulkAll {H : Type} : List (DataW H) → Nat
  | [] => 0
  | d :: r => uptoBulk d + uptoBulkAll r
def uptoBulkEntries {H : Type} : List (Lit × DataW H) → Nat
  | [] => 0
  | x :: r => uptoBulkEntry x + uptoBulkEntries r
def uptoBulkEntry {H : Type} : Lit × DataW H → Nat
  | (.string bytes, d) => bytes.length + uptoBulk d + 1
  | (_, d) => uptoBulk d + 1
 end
def uptoSmall : (H : Type) → List (DataW H) → Bool := fun _ ds => decide (uptoBulkAll ds ≤ 1048576)
def OpenSpec.upto (s : _root_.Go.ChangeSpec) : _root_.Go.OpenSpec := { _root_.Go.OpenSpec.ofChange s with cond := some uptoSmall }

/-- 'consulatelaw27.PackKnown', WHERE WHAT IT READS IS OF BULK AT MOST 1048576: true; the input reads as it did. -/
def packKnownUptoRow : OpenClaim := { program := "ytmimkeikienajaadoor", sum := "80a8f6c8b10a93b26e6f85bf85100bef4b6bedc1fa4b22db66ef047314252235", func := "consulate/consulatelaw27.PackKnown", spec := "packKnown", unfollowed := true, recurses := true, named := ["consulate/frame.lengths"], plainKeys := false, apart := false, laid := [("consulate/frame.lengths", laid_consulate_frame_lengths)], narrowed := true }
def PackKnownUptoSaid : Prop := packKnownUptoRow.holds Tryd.pinned (OpenSpec.upto packKnownSpec)

/-- 'consulatelaw27.PackBack', WHERE WHAT IT READS IS OF BULK AT MOST 1048576: true; the input reads as it did. -/
def packBackUptoRow : OpenClaim := { program := "ytmimkeikienajaadoor", sum := "80a8f6c8b10a93b26e6f85bf85100bef4b6bedc1fa4b22db66ef047314252235", func := "consulate/consulatelaw27.PackBack", spec := "packBack", unfollowed := true, recurses := true, named := ["consulate/frame.lengths"], plainKeys := false, apart := false, laid := [("consulate/frame.lengths", laid_consulate_frame_lengths)], narrowed := true }
def PackBackUptoSaid : Prop := packBackUptoRow.holds Tryd.pinned (OpenSpec.upto packBackSpec)

/-- 'consulatelaw18.RibsFull', WHERE WHAT IT READS IS OF BULK AT MOST 1048576: true; the input reads as it did. -/
def ribsFullUptoRow : OpenClaim := { program := "ytmimkeikienajaadoor", sum := "80a8f6c8b10a93b26e6f85bf85100bef4b6bedc1fa4b22db66ef047314252235", func := "consulate/consulatelaw18.RibsFull", spec := "ribsFull", unfollowed := true, recurses := true, named := ["consulate/attrs.kinds", "consulate/attrs.clears"], plainKeys := false, apart := false, laid := [("consulate/attrs.kinds", laid_consulate_attrs_kinds), ("consulate/attrs.clears", laid_consulate_attrs_clears)], narrowed := true }
def RibsFullUptoSaid : Prop := ribsFullUptoRow.holds Tryd.pinned (OpenSpec.upto ribsFullSpec)

/-- 'consulatelaw18.RibsApplied', WHERE WHAT IT READS IS OF BULK AT MOST 1048576: true; the input reads as it did. -/
def ribsAppliedUptoRow : OpenClaim := { program := "ytmimkeikienajaadoor", sum := "80a8f6c8b10a93b26e6f85bf85100bef4b6bedc1fa4b22db66ef047314252235", func := "consulate/consulatelaw18.RibsApplied", spec := "ribsApplied", unfollowed := true, recurses := true, named := ["consulate/attrs.clears", "consulate/attrs.kinds"], plainKeys := false, apart := false, laid := [("consulate/attrs.kinds", laid_consulate_attrs_kinds), ("consulate/attrs.clears", laid_consulate_attrs_clears)], narrowed := true }
def RibsAppliedUptoSaid : Prop := ribsAppliedUptoRow.holds Tryd.pinned (OpenSpec.upto ribsAppliedSpec)

/-- 'consulatelaw18.RibsKnown', WHERE WHAT IT READS IS OF BULK AT MOST 1048576: true; the input reads as it did. -/
def ribsKnownUptoRow : OpenClaim := { program := "ytmimkeikienajaadoor", sum := "80a8f6c8b10a93b26e6f85bf85100bef4b6bedc1fa4b22db66ef047314252235", func := "consulate/consulatelaw18.RibsKnown", spec := "ribsKnown", unfollowed := true, recurses := true, named := ["consulate/attrs.kinds", "consulate/attrs.clears"], plainKeys := false, apart := false, laid := [("consulate/attrs.kinds", laid_consulate_attrs_kinds), ("consulate/attrs.clears", laid_consulate_attrs_clears)], narrowed := true }
def RibsKnownUptoSaid : Prop := ribsKnownUptoRow.holds Tryd.pinned (OpenSpec.upto ribsKnownSpec)

/-- 'consulatelaw18.RibsThere', WHERE WHAT IT READS IS OF BULK AT MOST 1048576: true; the input reads as it did. -/
def ribsThereUptoRow : OpenClaim := { program := "ytmimkeikienajaadoor", sum := "80a8f6c8b10a93b26e6f85bf85100bef4b6bedc1fa4b22db66ef047314252235", func := "consulate/consulatelaw18.RibsThere", spec := "ribsThere", unfollowed := true, recurses := true, named := ["consulate/attrs.clears", "consulate/attrs.kinds"], plainKeys := false, apart := false, laid := [("consulate/attrs.kinds", laid_consulate_attrs_kinds), ("consulate/attrs.clears", laid_consulate_attrs_clears)], narrowed := true }
def RibsThereUptoSaid : Prop := ribsThereUptoRow.holds Tryd.pinned (OpenSpec.upto ribsThereSpec)

end Rows
end Go.Proofs.YtmimkeikienajaaDoor

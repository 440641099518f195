/-
  DERIVED. GIVEN WITH THE SEED: THE CARDS: each row of YtffmcdhgacjanaaGreatDoorRows.lean that lists a variable, with what it lists TIED to the program's text (the seventh form; the later family's looks); each row that meets fmt, with fmt's text TOLD by the authors' own Lean function (tested against real Go, not proved from fmt's source: count such statements apart). THE CARD IS WHAT COUNTS. Prove the row's statement (the work); the ties are given (YtffmcdhgacjanaaGreatDoorTie.lean); close each card by the builder's one call (the guide's Derived/Test/ToyasCard.lean, 'card_holds'). Laid BY PROGRAM, IN A SANDBOX (cutbox-door.mjs). By AI agents, Wed Nov 11 2026. No macro, syntax, notation, axiom, sorry.
-/
import Derived.Test.YtffmcdhgacjanaaGreatDoorRows
import GoSem.ClaimSeven
namespace Go.Proofs.YtffmcdhgacjanaaGreatDoor
namespace Rows

/-- THE TIED CARD OF 'consulatelaw23.ListsPatterns'. -/
def listsPatternsCard : Claim7 := { stood := { row := listsPatternsRow, standIns := [], harness := (true, "e0abcfcefc7c2076dbd42030ad07bb71aa98f37c83b6963f00f9ec8cf1e1ce33"), looks := true }, kinds := [], alts := [], laidByText := true, laidKinds := [.data, .data, .data, .data, .sentinel, .sentinel, .mapped, .mapped, .pinned], laidTests := true, laidLooks := .later }
def ListsPatternsCardSaid : Prop := Claim7.holds Tryz.pinned (.plain (OpenSpec.ofChange listsPatternsSpec)) listsPatternsCard

/-- THE TIED CARD OF 'consulatelaw23.ListsPrefixes'. -/
def listsPrefixesCard : Claim7 := { stood := { row := listsPrefixesRow, standIns := [], harness := (true, "e0abcfcefc7c2076dbd42030ad07bb71aa98f37c83b6963f00f9ec8cf1e1ce33"), looks := true }, kinds := [], alts := [], laidByText := true, laidKinds := [.data, .data, .data, .data, .sentinel, .sentinel, .mapped, .mapped, .pinned], laidTests := true, laidLooks := .later }
def ListsPrefixesCardSaid : Prop := Claim7.holds Tryz.pinned (.plain (OpenSpec.ofChange listsPrefixesSpec)) listsPrefixesCard

/-- THE TIED CARD OF 'consulatelaw23.ListsBack'. -/
def listsBackCard : Claim7 := { stood := { row := listsBackRow, standIns := [], harness := (true, "e0abcfcefc7c2076dbd42030ad07bb71aa98f37c83b6963f00f9ec8cf1e1ce33"), looks := true }, kinds := [], alts := [], laidByText := true, laidKinds := [.data, .data, .data, .data, .sentinel, .sentinel, .mapped, .mapped, .pinned], laidTests := true, laidLooks := .later }
def ListsBackCardSaid : Prop := Claim7.holds Tryz.pinned (.plain (OpenSpec.ofChange listsBackSpec)) listsBackCard

/-- THE TIED CARD OF 'consulatelaw23.ListsKnown'. -/
def listsKnownCard : Claim7 := { stood := { row := listsKnownRow, standIns := [], harness := (true, "e0abcfcefc7c2076dbd42030ad07bb71aa98f37c83b6963f00f9ec8cf1e1ce33"), looks := true }, kinds := [], alts := [], laidByText := true, laidKinds := [.data, .data, .data, .data, .sentinel, .sentinel, .mapped, .mapped, .pinned], laidTests := true, laidLooks := .later }
def ListsKnownCardSaid : Prop := Claim7.holds Tryz.pinned (.plain (OpenSpec.ofChange listsKnownSpec)) listsKnownCard

/-- THE SECOND FORM's CARD OF 'consulatelaw23.ListsPatterns'. -/
def listsPatternsUptoCard : Claim7 := { stood := { row := listsPatternsUptoRow, standIns := [], harness := (true, "e0abcfcefc7c2076dbd42030ad07bb71aa98f37c83b6963f00f9ec8cf1e1ce33"), looks := true }, kinds := [], alts := [], laidByText := true, laidKinds := [.data, .data, .data, .data, .sentinel, .sentinel, .mapped, .mapped, .pinned], laidTests := true, laidLooks := .later }
def ListsPatternsUptoCardSaid : Prop := Claim7.holds Tryz.pinned (.plain (OpenSpec.upto listsPatternsSpec)) listsPatternsUptoCard

/-- THE SECOND FORM's CARD OF 'consulatelaw23.ListsPrefixes'. -/
def listsPrefixesUptoCard : Claim7 := { stood := { row := listsPrefixesUptoRow, standIns := [], harness := (true, "e0abcfcefc7c2076dbd42030ad07bb71aa98f37c83b6963f00f9ec8cf1e1ce33"), looks := true }, kinds := [], alts := [], laidByText := true, laidKinds := [.data, .data, .data, .data, .sentinel, .sentinel, .mapped, .mapped, .pinned], laidTests := true, laidLooks := .later }
def ListsPrefixesUptoCardSaid : Prop := Claim7.holds Tryz.pinned (.plain (OpenSpec.upto listsPrefixesSpec)) listsPrefixesUptoCard

/-- THE SECOND FORM's CARD OF 'consulatelaw23.ListsBack'. -/
def listsBackUptoCard : Claim7 := { stood := { row := listsBackUptoRow, standIns := [], harness := (true, "e0abcfcefc7c2076dbd42030ad07bb71aa98f37c83b6963f00f9ec8cf1e1ce33"), looks := true }, kinds := [], alts := [], laidByText := true, laidKinds := [.data, .data, .data, .data, .sentinel, .sentinel, .mapped, .mapped, .pinned], laidTests := true, laidLooks := .later }
def ListsBackUptoCardSaid : Prop := Claim7.holds Tryz.pinned (.plain (OpenSpec.upto listsBackSpec)) listsBackUptoCard

/-- THE SECOND FORM's CARD OF 'consulatelaw23.ListsKnown'. -/
def listsKnownUptoCard : Claim7 := { stood := { row := listsKnownUptoRow, standIns := [], harness := (true, "e0abcfcefc7c2076dbd42030ad07bb71aa98f37c83b6963f00f9ec8cf1e1ce33"), looks := true }, kinds := [], alts := [], laidByText := true, laidKinds := [.data, .data, .data, .data, .sentinel, .sentinel, .mapped, .mapped, .pinned], laidTests := true, laidLooks := .later }
def ListsKnownUptoCardSaid : Prop := Claim7.holds Tryz.pinned (.plain (OpenSpec.upto listsKnownSpec)) listsKnownUptoCard
end Rows
end Go.Proofs.YtffmcdhgacjanaaGreatDoor

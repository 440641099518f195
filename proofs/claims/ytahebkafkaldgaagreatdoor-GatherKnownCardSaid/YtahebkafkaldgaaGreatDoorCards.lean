/-
  DERIVED. GIVEN WITH THE SEED: THE CARDS: each row of YtahebkafkaldgaaGreatDoorRows.lean that lists a variable, with what it lists TIED to the program's text (the seventh form; the later family's looks); each row that meets fmt, with fmt's text TOLD by the authors' own Lean function (tested against real Go, not proved from fmt's source: count such statements apart). THE CARD IS WHAT COUNTS. Prove the row's statement (the work); the ties are given (YtahebkafkaldgaaGreatDoorTie.lean); close each card by the builder's one call (the guide's Derived/Test/ToyasCard.lean, 'card_holds'). Laid BY PROGRAM, IN A SANDBOX (cutbox-door.mjs). By AI agents, Wed Nov 11 2026. No macro, syntax, notation, axiom, sorry.
-/
import Derived.Test.YtahebkafkaldgaaGreatDoorRows
import GoSem.ClaimSeven
namespace Go.Proofs.YtahebkafkaldgaaGreatDoor
namespace Rows

/-- THE TIED CARD OF 'consulatelaw22.GatherPaths'. -/
def gatherPathsCard : Claim7 := { stood := { row := gatherPathsRow, standIns := [], harness := (true, "51450dfa565b023a29baa1de21a73f272a5610ec098cdcd8a83e5b5f3cc14a2d"), looks := true }, kinds := [], alts := [], laidByText := true, laidKinds := [.data, .data, .data, .data, .sentinel, .sentinel, .data, .pinned], laidTests := true, laidLooks := .later }
def GatherPathsCardSaid : Prop := Claim7.holds Tryz.pinned (.plain (OpenSpec.ofChange gatherPathsSpec)) gatherPathsCard

/-- THE TIED CARD OF 'consulatelaw22.GatherAll'. -/
def gatherAllCard : Claim7 := { stood := { row := gatherAllRow, standIns := [], harness := (true, "51450dfa565b023a29baa1de21a73f272a5610ec098cdcd8a83e5b5f3cc14a2d"), looks := true }, kinds := [], alts := [], laidByText := true, laidKinds := [.data, .data, .data, .data, .sentinel, .sentinel, .data, .pinned], laidTests := true, laidLooks := .later }
def GatherAllCardSaid : Prop := Claim7.holds Tryz.pinned (.plain (OpenSpec.ofChange gatherAllSpec)) gatherAllCard

/-- THE TIED CARD OF 'consulatelaw22.GatherOrder'. -/
def gatherOrderCard : Claim7 := { stood := { row := gatherOrderRow, standIns := [], harness := (true, "51450dfa565b023a29baa1de21a73f272a5610ec098cdcd8a83e5b5f3cc14a2d"), looks := true }, kinds := [], alts := [], laidByText := true, laidKinds := [.data, .data, .data, .data, .sentinel, .sentinel, .data, .pinned], laidTests := true, laidLooks := .later }
def GatherOrderCardSaid : Prop := Claim7.holds Tryz.pinned (.plain (OpenSpec.ofChange gatherOrderSpec)) gatherOrderCard

/-- THE TIED CARD OF 'consulatelaw22.GatherTells'. -/
def gatherTellsCard : Claim7 := { stood := { row := gatherTellsRow, standIns := [], harness := (true, "51450dfa565b023a29baa1de21a73f272a5610ec098cdcd8a83e5b5f3cc14a2d"), looks := true }, kinds := [], alts := [], laidByText := true, laidKinds := [.data, .data, .data, .data, .sentinel, .sentinel, .data, .funcs, .funcs, .pinned], laidTests := true, laidLooks := .later }
def GatherTellsCardSaid : Prop := Claim7.holds Tryz.pinned (.plain (OpenSpec.ofChange gatherTellsSpec)) gatherTellsCard

/-- THE TIED CARD OF 'consulatelaw22.GatherKnown'. -/
def gatherKnownCard : Claim7 := { stood := { row := gatherKnownRow, standIns := [], harness := (true, "51450dfa565b023a29baa1de21a73f272a5610ec098cdcd8a83e5b5f3cc14a2d"), looks := true }, kinds := [], alts := [], laidByText := true, laidKinds := [.data, .data, .data, .data, .sentinel, .sentinel, .data, .funcs, .funcs, .pinned], laidTests := true, laidLooks := .later }
def GatherKnownCardSaid : Prop := Claim7.holds Tryz.pinned (.plain (OpenSpec.ofChange gatherKnownSpec)) gatherKnownCard

/-- THE TIED CARD OF 'consulatelaw22.GatherRoutes'. -/
def gatherRoutesCard : Claim7 := { stood := { row := gatherRoutesRow, standIns := [], harness := (true, "51450dfa565b023a29baa1de21a73f272a5610ec098cdcd8a83e5b5f3cc14a2d"), looks := true }, kinds := [], alts := [], laidByText := true, laidKinds := [.data, .data, .data, .data, .sentinel, .sentinel, .data, .funcs, .funcs, .pinned], laidTests := true, laidLooks := .later }
def GatherRoutesCardSaid : Prop := Claim7.holds Tryz.pinned (.plain (OpenSpec.ofChange gatherRoutesSpec)) gatherRoutesCard

/-- THE SECOND FORM's CARD OF 'consulatelaw22.GatherPaths'. -/
def gatherPathsUptoCard : Claim7 := { stood := { row := gatherPathsUptoRow, standIns := [], harness := (true, "51450dfa565b023a29baa1de21a73f272a5610ec098cdcd8a83e5b5f3cc14a2d"), looks := true }, kinds := [], alts := [], laidByText := true, laidKinds := [.data, .data, .data, .data, .sentinel, .sentinel, .data, .pinned], laidTests := true, laidLooks := .later }
def GatherPathsUptoCardSaid : Prop := Claim7.holds Tryz.pinned (.plain (OpenSpec.upto gatherPathsSpec)) gatherPathsUptoCard

/-- THE SECOND FORM's CARD OF 'consulatelaw22.GatherAll'. -/
def gatherAllUptoCard : Claim7 := { stood := { row := gatherAllUptoRow, standIns := [], harness := (true, "51450dfa565b023a29baa1de21a73f272a5610ec098cdcd8a83e5b5f3cc14a2d"), looks := true }, kinds := [], alts := [], laidByText := true, laidKinds := [.data, .data, .data, .data, .sentinel, .sentinel, .data, .pinned], laidTests := true, laidLooks := .later }
def GatherAllUptoCardSaid : Prop := Claim7.holds Tryz.pinned (.plain (OpenSpec.upto gatherAllSpec)) gatherAllUptoCard

/-- THE SECOND FORM's CARD OF 'consulatelaw22.GatherOrder'. -/
def gatherOrderUptoCard : Claim7 := { stood := { row := gatherOrderUptoRow, standIns := [], harness := (true, "51450dfa565b023a29baa1de21a73f272a5610ec098cdcd8a83e5b5f3cc14a2d"), looks := true }, kinds := [], alts := [], laidByText := true, laidKinds := [.data, .data, .data, .data, .sentinel, .sentinel, .data, .pinned], laidTests := true, laidLooks := .later }
def GatherOrderUptoCardSaid : Prop := Claim7.holds Tryz.pinned (.plain (OpenSpec.upto gatherOrderSpec)) gatherOrderUptoCard

/-- THE SECOND FORM's CARD OF 'consulatelaw22.GatherTells'. -/
def gatherTellsUptoCard : Claim7 := { stood := { row := gatherTellsUptoRow, standIns := [], harness := (true, "51450dfa565b023a29baa1de21a73f272a5610ec098cdcd8a83e5b5f3cc14a2d"), looks := true }, kinds := [], alts := [], laidByText := true, laidKinds := [.data, .data, .data, .data, .sentinel, .sentinel, .data, .funcs, .funcs, .pinned], laidTests := true, laidLooks := .later }
def GatherTellsUptoCardSaid : Prop := Claim7.holds Tryz.pinned (.plain (OpenSpec.upto gatherTellsSpec)) gatherTellsUptoCard

/-- THE SECOND FORM's CARD OF 'consulatelaw22.GatherKnown'. -/
def gatherKnownUptoCard : Claim7 := { stood := { row := gatherKnownUptoRow, standIns := [], harness := (true, "51450dfa565b023a29baa1de21a73f272a5610ec098cdcd8a83e5b5f3cc14a2d"), looks := true }, kinds := [], alts := [], laidByText := true, laidKinds := [.data, .data, .data, .data, .sentinel, .sentinel, .data, .funcs, .funcs, .pinned], laidTests := true, laidLooks := .later }
def GatherKnownUptoCardSaid : Prop := Claim7.holds Tryz.pinned (.plain (OpenSpec.upto gatherKnownSpec)) gatherKnownUptoCard

/-- THE SECOND FORM's CARD OF 'consulatelaw22.GatherRoutes'. -/
def gatherRoutesUptoCard : Claim7 := { stood := { row := gatherRoutesUptoRow, standIns := [], harness := (true, "51450dfa565b023a29baa1de21a73f272a5610ec098cdcd8a83e5b5f3cc14a2d"), looks := true }, kinds := [], alts := [], laidByText := true, laidKinds := [.data, .data, .data, .data, .sentinel, .sentinel, .data, .funcs, .funcs, .pinned], laidTests := true, laidLooks := .later }
def GatherRoutesUptoCardSaid : Prop := Claim7.holds Tryz.pinned (.plain (OpenSpec.upto gatherRoutesSpec)) gatherRoutesUptoCard
end Rows
end Go.Proofs.YtahebkafkaldgaaGreatDoor

/-
  DERIVED. GIVEN WITH THE SEED: THE CARDS: each row of YtmimkeikienajaaDoorRows.lean that lists a variable, with what it lists TIED to the program's text (the seventh form; the later family's looks); each row that meets fmt, with fmt's text TOLD by the authors' own Lean function (tested against real Go, not proved from fmt's source: count such statements apart). THE CARD IS WHAT COUNTS. Prove the row's statement (the work); the ties are given (YtmimkeikienajaaDoorTie.lean); close each card by the builder's one call (the guide's Derived/Test/ToyasCard.lean, 'card_holds'). Laid BY PROGRAM, IN A SANDBOX (cutbox-door.mjs). By AI agents, Wed Nov 11 2026. No macro, syntax, notation, axiom, sorry.
-/
import Derived.Test.YtmimkeikienajaaDoorRows
import GoSem.ClaimSeven
namespace Go.Proofs.YtmimkeikienajaaDoor
namespace Rows

/-- THE TIED CARD OF 'consulatelaw27.PackKnown'. -/
def packKnownCard : Claim7 := { stood := { row := packKnownRow, standIns := [], harness := (true, "d8239bf9bbe663a06f79164e06394321bff9b147a8a6409b8c50201ff4999741"), looks := false }, kinds := [], alts := [], laidByText := true, laidKinds := [.data], laidTests := true, laidLooks := .later }
def PackKnownCardSaid : Prop := Claim7.holds Tryd.pinned (.plain (OpenSpec.ofChange packKnownSpec)) packKnownCard

/-- THE TIED CARD OF 'consulatelaw27.PackBack'. -/
def packBackCard : Claim7 := { stood := { row := packBackRow, standIns := [], harness := (true, "d8239bf9bbe663a06f79164e06394321bff9b147a8a6409b8c50201ff4999741"), looks := false }, kinds := [], alts := [], laidByText := true, laidKinds := [.data], laidTests := true, laidLooks := .later }
def PackBackCardSaid : Prop := Claim7.holds Tryd.pinned (.plain (OpenSpec.ofChange packBackSpec)) packBackCard

/-- THE TIED CARD OF 'consulatelaw18.RibsFull'. -/
def ribsFullCard : Claim7 := { stood := { row := ribsFullRow, standIns := [], harness := (true, "d8239bf9bbe663a06f79164e06394321bff9b147a8a6409b8c50201ff4999741"), looks := false }, kinds := [], alts := [], laidByText := true, laidKinds := [.funcs, .funcs], laidTests := true, laidLooks := .later }
def RibsFullCardSaid : Prop := Claim7.holds Tryd.pinned (.plain (OpenSpec.ofChange ribsFullSpec)) ribsFullCard

/-- THE TIED CARD OF 'consulatelaw18.RibsApplied'. -/
def ribsAppliedCard : Claim7 := { stood := { row := ribsAppliedRow, standIns := [], harness := (true, "d8239bf9bbe663a06f79164e06394321bff9b147a8a6409b8c50201ff4999741"), looks := false }, kinds := [], alts := [], laidByText := true, laidKinds := [.funcs, .funcs], laidTests := true, laidLooks := .later }
def RibsAppliedCardSaid : Prop := Claim7.holds Tryd.pinned (.plain (OpenSpec.ofChange ribsAppliedSpec)) ribsAppliedCard

/-- THE TIED CARD OF 'consulatelaw18.RibsKnown'. -/
def ribsKnownCard : Claim7 := { stood := { row := ribsKnownRow, standIns := [], harness := (true, "d8239bf9bbe663a06f79164e06394321bff9b147a8a6409b8c50201ff4999741"), looks := false }, kinds := [], alts := [], laidByText := true, laidKinds := [.funcs, .funcs], laidTests := true, laidLooks := .later }
def RibsKnownCardSaid : Prop := Claim7.holds Tryd.pinned (.plain (OpenSpec.ofChange ribsKnownSpec)) ribsKnownCard

/-- THE TIED CARD OF 'consulatelaw18.RibsThere'. -/
def ribsThereCard : Claim7 := { stood := { row := ribsThereRow, standIns := [], harness := (true, "d8239bf9bbe663a06f79164e06394321bff9b147a8a6409b8c50201ff4999741"), looks := false }, kinds := [], alts := [], laidByText := true, laidKinds := [.funcs, .funcs], laidTests := true, laidLooks := .later }
def RibsThereCardSaid : Prop := Claim7.holds Tryd.pinned (.plain (OpenSpec.ofChange ribsThereSpec)) ribsThereCard

/-- THE SECOND FORM's CARD OF 'consulatelaw27.PackKnown'. -/
def packKnownUptoCard : Claim7 := { stood := { row := packKnownUptoRow, standIns := [], harness := (true, "d8239bf9bbe663a06f79164e06394321bff9b147a8a6409b8c50201ff4999741"), looks := false }, kinds := [], alts := [], laidByText := true, laidKinds := [.data], laidTests := true, laidLooks := .later }
def PackKnownUptoCardSaid : Prop := Claim7.holds Tryd.pinned (.plain (OpenSpec.upto packKnownSpec)) packKnownUptoCard

/-- THE SECOND FORM's CARD OF 'consulatelaw27.PackBack'. -/
def packBackUptoCard : Claim7 := { stood := { row := packBackUptoRow, standIns := [], harness := (true, "d8239bf9bbe663a06f79164e06394321bff9b147a8a6409b8c50201ff4999741"), looks := false }, kinds := [], alts := [], laidByText := true, laidKinds := [.data], laidTests := true, laidLooks := .later }
def PackBackUptoCardSaid : Prop := Claim7.holds Tryd.pinned (.plain (OpenSpec.upto packBackSpec)) packBackUptoCard

/-- THE SECOND FORM's CARD OF 'consulatelaw18.RibsFull'. -/
def ribsFullUptoCard : Claim7 := { stood := { row := ribsFullUptoRow, standIns := [], harness := (true, "d8239bf9bbe663a06f79164e06394321bff9b147a8a6409b8c50201ff4999741"), looks := false }, kinds := [], alts := [], laidByText := true, laidKinds := [.funcs, .funcs], laidTests := true, laidLooks := .later }
def RibsFullUptoCardSaid : Prop := Claim7.holds Tryd.pinned (.plain (OpenSpec.upto ribsFullSpec)) ribsFullUptoCard

/-- THE SECOND FORM's CARD OF 'consulatelaw18.RibsApplied'. -/
def ribsAppliedUptoCard : Claim7 := { stood := { row := ribsAppliedUptoRow, standIns := [], harness := (true, "d8239bf9bbe663a06f79164e06394321bff9b147a8a6409b8c50201ff4999741"), looks := false }, kinds := [], alts := [], laidByText := true, laidKinds := [.funcs, .funcs], laidTests := true, laidLooks := .later }
def RibsAppliedUptoCardSaid : Prop := Claim7.holds Tryd.pinned (.plain (OpenSpec.upto ribsAppliedSpec)) ribsAppliedUptoCard

/-- THE SECOND FORM's CARD OF 'consulatelaw18.RibsKnown'. -/
def ribsKnownUptoCard : Claim7 := { stood := { row := ribsKnownUptoRow, standIns := [], harness := (true, "d8239bf9bbe663a06f79164e06394321bff9b147a8a6409b8c50201ff4999741"), looks := false }, kinds := [], alts := [], laidByText := true, laidKinds := [.funcs, .funcs], laidTests := true, laidLooks := .later }
def RibsKnownUptoCardSaid : Prop := Claim7.holds Tryd.pinned (.plain (OpenSpec.upto ribsKnownSpec)) ribsKnownUptoCard

/-- THE SECOND FORM's CARD OF 'consulatelaw18.RibsThere'. -/
def ribsThereUptoCard : Claim7 := { stood := { row := ribsThereUptoRow, standIns := [], harness := (true, "d8239bf9bbe663a06f79164e06394321bff9b147a8a6409b8c50201ff4999741"), looks := false }, kinds := [], alts := [], laidByText := true, laidKinds := [.funcs, .funcs], laidTests := true, laidLooks := .later }
def RibsThereUptoCardSaid : Prop := Claim7.holds Tryd.pinned (.plain (OpenSpec.upto ribsThereSpec)) ribsThereUptoCard
end Rows
end Go.Proofs.YtmimkeikienajaaDoor

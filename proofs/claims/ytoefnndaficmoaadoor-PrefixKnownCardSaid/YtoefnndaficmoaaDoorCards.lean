/-
  DERIVED. GIVEN WITH THE SEED: THE CARDS: each row of YtoefnndaficmoaaDoorRows.lean that lists a variable, with what it lists TIED to the program's text (the seventh form; the later family's looks); each row that meets fmt, with fmt's text TOLD by the authors' own Lean function (tested against real Go, not proved from fmt's source: count such statements apart). THE CARD IS WHAT COUNTS. Prove the row's statement (the work); the ties are given (YtoefnndaficmoaaDoorTie.lean); close each card by the builder's one call (the guide's Derived/Test/ToyasCard.lean, 'card_holds'). Laid BY PROGRAM, IN A SANDBOX (cutbox-door.mjs). By AI agents, Wed Nov 11 2026. No macro, syntax, notation, axiom, sorry.
-/
import Derived.Test.YtoefnndaficmoaaDoorRows
import GoSem.ClaimSeven
namespace Go.Proofs.YtoefnndaficmoaaDoor
namespace Rows

/-- THE TIED CARD OF 'consulatelaw02.PrefixReads'. -/
def prefixReadsCard : Claim7 := { stood := { row := prefixReadsRow, standIns := [], harness := (true, "f3f1dcb836f74bd7d59d29e0380c1fb07eb88b2f40879ce5fbb846448931de86"), looks := true }, kinds := [], alts := [], laidByText := true, laidKinds := [.data, .data, .data, .data, .sentinel, .sentinel, .pinned], laidTests := true, laidLooks := .later }
def PrefixReadsCardSaid : Prop := Claim7.holds Tryd.pinned (.plain (OpenSpec.ofChange prefixReadsSpec)) prefixReadsCard

/-- THE TIED CARD OF 'consulatelaw02.PrefixTexts'. -/
def prefixTextsCard : Claim7 := { stood := { row := prefixTextsRow, standIns := [], harness := (true, "f3f1dcb836f74bd7d59d29e0380c1fb07eb88b2f40879ce5fbb846448931de86"), looks := true }, kinds := [], alts := [], laidByText := true, laidKinds := [.data, .data, .data, .data, .sentinel, .sentinel, .pinned], laidTests := true, laidLooks := .later }
def PrefixTextsCardSaid : Prop := Claim7.holds Tryd.pinned (.plain (OpenSpec.ofChange prefixTextsSpec)) prefixTextsCard

/-- THE TIED CARD OF 'consulatelaw02.PrefixLists'. -/
def prefixListsCard : Claim7 := { stood := { row := prefixListsRow, standIns := [], harness := (true, "f3f1dcb836f74bd7d59d29e0380c1fb07eb88b2f40879ce5fbb846448931de86"), looks := true }, kinds := [], alts := [], laidByText := true, laidKinds := [.data, .data, .data, .data, .sentinel, .sentinel, .pinned], laidTests := true, laidLooks := .later }
def PrefixListsCardSaid : Prop := Claim7.holds Tryd.pinned (.plain (OpenSpec.ofChange prefixListsSpec)) prefixListsCard

/-- THE TIED CARD OF 'consulatelaw02.PrefixKnown'. -/
def prefixKnownCard : Claim7 := { stood := { row := prefixKnownRow, standIns := [], harness := (true, "f3f1dcb836f74bd7d59d29e0380c1fb07eb88b2f40879ce5fbb846448931de86"), looks := true }, kinds := [], alts := [], laidByText := true, laidKinds := [.data, .data, .data, .data, .sentinel, .sentinel, .pinned], laidTests := true, laidLooks := .later }
def PrefixKnownCardSaid : Prop := Claim7.holds Tryd.pinned (.plain (OpenSpec.ofChange prefixKnownSpec)) prefixKnownCard

/-- THE TIED CARD OF 'consulatelaw02.PrefixBack'. -/
def prefixBackCard : Claim7 := { stood := { row := prefixBackRow, standIns := [], harness := (true, "f3f1dcb836f74bd7d59d29e0380c1fb07eb88b2f40879ce5fbb846448931de86"), looks := true }, kinds := [], alts := [], laidByText := true, laidKinds := [.data, .data, .data, .data, .sentinel, .sentinel, .pinned], laidTests := true, laidLooks := .later }
def PrefixBackCardSaid : Prop := Claim7.holds Tryd.pinned (.plain (OpenSpec.ofChange prefixBackSpec)) prefixBackCard

/-- THE TIED CARD OF 'consulatelaw02.PrefixNests'. -/
def prefixNestsCard : Claim7 := { stood := { row := prefixNestsRow, standIns := [], harness := (true, "f3f1dcb836f74bd7d59d29e0380c1fb07eb88b2f40879ce5fbb846448931de86"), looks := true }, kinds := [], alts := [], laidByText := true, laidKinds := [.data, .data, .data, .data, .sentinel, .sentinel, .pinned], laidTests := true, laidLooks := .later }
def PrefixNestsCardSaid : Prop := Claim7.holds Tryd.pinned (.plain (OpenSpec.ofChange prefixNestsSpec)) prefixNestsCard

/-- THE SECOND FORM's CARD OF 'consulatelaw02.PrefixReads'. -/
def prefixReadsUptoCard : Claim7 := { stood := { row := prefixReadsUptoRow, standIns := [], harness := (true, "f3f1dcb836f74bd7d59d29e0380c1fb07eb88b2f40879ce5fbb846448931de86"), looks := true }, kinds := [], alts := [], laidByText := true, laidKinds := [.data, .data, .data, .data, .sentinel, .sentinel, .pinned], laidTests := true, laidLooks := .later }
def PrefixReadsUptoCardSaid : Prop := Claim7.holds Tryd.pinned (.plain (OpenSpec.upto prefixReadsSpec)) prefixReadsUptoCard

/-- THE SECOND FORM's CARD OF 'consulatelaw02.PrefixTexts'. -/
def prefixTextsUptoCard : Claim7 := { stood := { row := prefixTextsUptoRow, standIns := [], harness := (true, "f3f1dcb836f74bd7d59d29e0380c1fb07eb88b2f40879ce5fbb846448931de86"), looks := true }, kinds := [], alts := [], laidByText := true, laidKinds := [.data, .data, .data, .data, .sentinel, .sentinel, .pinned], laidTests := true, laidLooks := .later }
def PrefixTextsUptoCardSaid : Prop := Claim7.holds Tryd.pinned (.plain (OpenSpec.upto prefixTextsSpec)) prefixTextsUptoCard

/-- THE SECOND FORM's CARD OF 'consulatelaw02.PrefixLists'. -/
def prefixListsUptoCard : Claim7 := { stood := { row := prefixListsUptoRow, standIns := [], harness := (true, "f3f1dcb836f74bd7d59d29e0380c1fb07eb88b2f40879ce5fbb846448931de86"), looks := true }, kinds := [], alts := [], laidByText := true, laidKinds := [.data, .data, .data, .data, .sentinel, .sentinel, .pinned], laidTests := true, laidLooks := .later }
def PrefixListsUptoCardSaid : Prop := Claim7.holds Tryd.pinned (.plain (OpenSpec.upto prefixListsSpec)) prefixListsUptoCard

/-- THE SECOND FORM's CARD OF 'consulatelaw02.PrefixKnown'. -/
def prefixKnownUptoCard : Claim7 := { stood := { row := prefixKnownUptoRow, standIns := [], harness := (true, "f3f1dcb836f74bd7d59d29e0380c1fb07eb88b2f40879ce5fbb846448931de86"), looks := true }, kinds := [], alts := [], laidByText := true, laidKinds := [.data, .data, .data, .data, .sentinel, .sentinel, .pinned], laidTests := true, laidLooks := .later }
def PrefixKnownUptoCardSaid : Prop := Claim7.holds Tryd.pinned (.plain (OpenSpec.upto prefixKnownSpec)) prefixKnownUptoCard

/-- THE SECOND FORM's CARD OF 'consulatelaw02.PrefixBack'. -/
def prefixBackUptoCard : Claim7 := { stood := { row := prefixBackUptoRow, standIns := [], harness := (true, "f3f1dcb836f74bd7d59d29e0380c1fb07eb88b2f40879ce5fbb846448931de86"), looks := true }, kinds := [], alts := [], laidByText := true, laidKinds := [.data, .data, .data, .data, .sentinel, .sentinel, .pinned], laidTests := true, laidLooks := .later }
def PrefixBackUptoCardSaid : Prop := Claim7.holds Tryd.pinned (.plain (OpenSpec.upto prefixBackSpec)) prefixBackUptoCard

/-- THE SECOND FORM's CARD OF 'consulatelaw02.PrefixNests'. -/
def prefixNestsUptoCard : Claim7 := { stood := { row := prefixNestsUptoRow, standIns := [], harness := (true, "f3f1dcb836f74bd7d59d29e0380c1fb07eb88b2f40879ce5fbb846448931de86"), looks := true }, kinds := [], alts := [], laidByText := true, laidKinds := [.data, .data, .data, .data, .sentinel, .sentinel, .pinned], laidTests := true, laidLooks := .later }
def PrefixNestsUptoCardSaid : Prop := Claim7.holds Tryd.pinned (.plain (OpenSpec.upto prefixNestsSpec)) prefixNestsUptoCard
end Rows
end Go.Proofs.YtoefnndaficmoaaDoor

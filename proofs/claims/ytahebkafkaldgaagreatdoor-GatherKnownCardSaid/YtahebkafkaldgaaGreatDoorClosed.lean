/- GatherKnown (chapter 22, a closed statement): the law, called without arguments, returns true, and nothing that was there has turned. -/
import Derived.Test.YtahebkafkaldgaaGreatDoorPart12

namespace Go.Proofs.YtahebkafkaldgaaGreatDoor
open Go Go.Ai Go.ChangeShapes Go.WideShapes Go.RowKit

theorem card_holds : Rows.GatherKnownCardSaid :=
  Claim7.holds_tied_plain_at .later [] [.data, .data, .data, .data, .sentinel, .sentinel, .data, .funcs, .funcs, .pinned] true (true, "51450dfa565b023a29baa1de21a73f272a5610ec098cdcd8a83e5b5f3cc14a2d") true
    known_holds (fun _ h => by cases h) (by kernel_rfl) (fun _ h => by cases h) gatherKnown_row_tie rfl ⟨rfl, rfl⟩ (by kernel_rfl) rfl
    (fun f fn hf hfn => by
      obtain rfl : f = 7 := Option.some.inj ((show Tryz.prog.funcNamed "consulate/consulatelaw22.GatherKnown" = some 7 by kernel_rfl).symm.trans hf) |>.symm
      obtain rfl : fn = Tryz.f7 := (Option.some.inj (Tryz.func7.symm.trans hfn)).symm
      exact ⟨by kernel_rfl, fun j t ht => by
        rw [show Tryz.f7.params = #[] from rfl] at ht
        simp at ht⟩)
    (by kernel_rfl)
#print axioms card_holds
end Go.Proofs.YtahebkafkaldgaaGreatDoor

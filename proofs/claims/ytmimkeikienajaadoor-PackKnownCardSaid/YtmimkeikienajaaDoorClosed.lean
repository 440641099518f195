/- Packing routes into messages (chapter 27), the closed law PackKnown: it returns true, whatever the start that meets the row's condition. -/
import Derived.Test.YtmimkeikienajaaDoorPart6

namespace Go.Proofs.YtmimkeikienajaaDoor
open Go Go.Ai Go.ChangeShapes Go.WideShapes Go.RowKit

theorem card_holds : Rows.PackKnownCardSaid :=
  Claim7.holds_tied_plain_at .later [] [.data] true (true, "d8239bf9bbe663a06f79164e06394321bff9b147a8a6409b8c50201ff4999741") false
    known_holds (fun _ h => by cases h) (by kernel_rfl) (fun _ h => by cases h) packKnown_row_tie rfl ⟨rfl, rfl⟩ (by kernel_rfl) rfl
    (fun f fn hf hfn => by
      obtain rfl : f = 3 := Option.some.inj ((show Tryd.prog.funcNamed "consulate/consulatelaw27.PackKnown" = some 3 by kernel_rfl).symm.trans hf) |>.symm
      obtain rfl : fn = Tryd.f3 := (Option.some.inj (Tryd.func3.symm.trans hfn)).symm
      exact ⟨by kernel_rfl, fun j t ht => by
        rw [show Tryd.f3.params = #[] from rfl] at ht
        simp at ht⟩)
    (by kernel_rfl)
#print axioms card_holds
end Go.Proofs.YtmimkeikienajaaDoor

/- Runs of the abstract interpreter, part 4: by an AI agent. -/
import Derived.Test.YtmimkeikienajaaDoorPart3

namespace Go.Proofs.YtmimkeikienajaaDoor
open Go Go.Ai Go.ChangeShapes Go.WideShapes Go.RowKit

theorem own : ownKnob Tryd.prog.godebug = none := by kernel_rfl

noncomputable def laidW (os : Os) : World := pinWorld (World.doorLaid Tryd.prog 4000 os) []

/-- The door's own heap, tables laid by hand, meets the condition. -/
theorem door_met (os : Os) (args : Array Value) : laidMetH Tryd.prog Rows.packKnownRow.laid ((laidW os).forCall (fun _ _ => 0) ⟨#[], args, []⟩).memory :=
  laidMetH_of_parts3 (fuel := 8) (laidMet_of_run' 8 (by kernel_rfl) (by kernel_rfl)) (by kernel_rfl) (by kernel_rfl)

end Go.Proofs.YtmimkeikienajaaDoor

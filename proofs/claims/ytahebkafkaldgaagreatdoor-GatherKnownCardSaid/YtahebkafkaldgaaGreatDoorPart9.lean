/- Runs of the abstract interpreter, part 9: by an AI agent. -/
import Derived.Test.YtahebkafkaldgaaGreatDoorPart8

namespace Go.Proofs.YtahebkafkaldgaaGreatDoor
open Go Go.Ai Go.ChangeShapes Go.WideShapes Go.RowKit
theorem kj22 : ((Rows.gatherKnownRow.plainKeys == Tryz.checked.prog.plainKeys)) = true := by kernel_rfl
theorem kj24 : (Tryz.checked.prog.stopsHeard) = true := by kernel_rfl
theorem kj25 : (Tryz.checked.prog.mayEnter) = true := by kernel_rfl
end Go.Proofs.YtahebkafkaldgaaGreatDoor

/- Runs of the abstract interpreter, part 8: by an AI agent. -/
import Derived.Test.YtahebkafkaldgaaGreatDoorPart7

namespace Go.Proofs.YtahebkafkaldgaaGreatDoor
open Go Go.Ai Go.ChangeShapes Go.WideShapes Go.RowKit
theorem kj9 : ((Rows.gatherKnownRow.inPlace == Tryz.checked.prog.inPlace 7)) = true := by kernel_rfl
theorem kj10 : ((Rows.gatherKnownRow.unfollowed == Tryz.checked.prog.unfollowed 7)) = true := by kernel_rfl
theorem kj11 : ((Rows.gatherKnownRow.recurses == Tryz.checked.prog.recurses 7)) = true := by kernel_rfl
theorem kj12 : ((Rows.gatherKnownRow.named == Tryz.checked.prog.varsNamed 7)) = true := by kernel_rfl
end Go.Proofs.YtahebkafkaldgaaGreatDoor

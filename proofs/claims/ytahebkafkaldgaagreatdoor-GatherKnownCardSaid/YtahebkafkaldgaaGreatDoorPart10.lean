/- Runs of the abstract interpreter, part 10: by an AI agent. -/
import Derived.Test.YtahebkafkaldgaaGreatDoorPart9

namespace Go.Proofs.YtahebkafkaldgaaGreatDoor
open Go Go.Ai Go.ChangeShapes Go.WideShapes Go.RowKit
theorem kj26 : ((Rows.gatherKnownRow.lifted == Tryz.checked.prog.liftsFinal)) = true := by kernel_rfl
theorem kj27 : ((Tryz.checked.prog.make == some Rows.gatherKnownRow.make)) = true := by kernel_rfl
theorem kj31 : (Rows.gatherKnownRow.veiledFits Tryz.checked.prog Tryz.f7.params.toList (Tryz.f7.params.toList ++ Rows.gatherKnownSpec.plain.varTypes Tryz.checked.prog ++ Tryz.f7.resultTypes.toList)) = true := by kernel_rfl
end Go.Proofs.YtahebkafkaldgaaGreatDoor

/- Runs of the abstract interpreter, part 2: by an AI agent. -/
import Derived.Test.YtmimkeikienajaaDoorPart1

namespace Go.Proofs.YtmimkeikienajaaDoor
open Go Go.Ai
set_option maxRecDepth 1000000
theorem st0_is : laidStart Tryd.prog nm fs Rows.packKnownRow.laid = some st0 := by kernel_rfl
end Go.Proofs.YtmimkeikienajaaDoor

/- Runs of the abstract interpreter, part 3: by an AI agent. -/
import Derived.Test.YtmimkeikienajaaDoorPart2

namespace Go.Proofs.YtmimkeikienajaaDoor
open Go Go.Ai
set_option maxRecDepth 1000000
theorem known_run : saysTrue (callF cx ov1 1000000 3 [] st0) = true := by kernel_rfl
end Go.Proofs.YtmimkeikienajaaDoor

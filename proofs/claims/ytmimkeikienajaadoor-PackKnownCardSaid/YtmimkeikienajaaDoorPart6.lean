/- Runs of the abstract interpreter, part 6: by an AI agent. -/
import Derived.Test.YtmimkeikienajaaDoorPart5

namespace Go.Proofs.YtmimkeikienajaaDoor
open Go Go.Ai Go.ChangeShapes Go.WideShapes Go.RowKit

theorem known_holds : Rows.PackKnownSaid :=
  OpenClaim.holds_of_wide 3 Tryd.f3 rfl rfl rfl rfl rfl rfl rfl ⟨rfl, rfl, rfl, rfl, rfl⟩ rfl rfl rfl rfl rfl (by kernel_rfl) Tryd.func3 (by kernel_rfl)
    (of_decide_eq_true (by kernel_rfl)) (by unfold Func.isWrapper; first | (rw [if_pos (by decide +kernel)]; kernel_rfl) | (rw [if_neg (by decide +kernel)]; exact ⟨rfl, rfl⟩))
    (fun os started H enc _ => lifted os started H enc)

end Go.Proofs.YtmimkeikienajaaDoor

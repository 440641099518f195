/- Runs of the abstract interpreter, part 12: by an AI agent. -/
import Derived.Test.YtahebkafkaldgaaGreatDoorPart11

namespace Go.Proofs.YtahebkafkaldgaaGreatDoor
open Go Go.Ai Go.ChangeShapes Go.WideShapes Go.RowKit

theorem known_holds : Rows.GatherKnownSaid :=
  OpenClaim.holds_of_wide 7 Tryz.f7 rfl rfl rfl rfl rfl rfl rfl ⟨rfl, rfl, rfl, rfl, rfl⟩ rfl rfl rfl rfl rfl kh_named Tryz.func7 kh_joined kh_inst kh_wrap
    (fun os started H enc _ => lifted os started H enc)

end Go.Proofs.YtahebkafkaldgaaGreatDoor

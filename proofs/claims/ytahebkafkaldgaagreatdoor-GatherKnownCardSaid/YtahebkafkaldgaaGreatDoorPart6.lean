/- Runs of the abstract interpreter, part 6: by an AI agent. -/
import Derived.Test.YtahebkafkaldgaaGreatDoorPart5

namespace Go.Proofs.YtahebkafkaldgaaGreatDoor
open Go Go.Ai Go.ChangeShapes Go.WideShapes Go.RowKit

set_option maxRecDepth 100000 in
theorem lifted (os : Os) (started : os.Started) (H : Type) (enc : TypeId × Value → H) :
    ReturnsInHanded {} Tryz.checked os 7 .any (fun w args => (Rows.gatherKnownSpec.pre enc Tryz.prog Tryz.f7 [] false w args ∧ laidMetH Tryz.prog Rows.gatherKnownRow.laid w) ∧ sizedMet enc Tryz.prog Tryz.f7 (OpenSpec.ofChange Rows.gatherKnownSpec) false w args)
      (Rows.gatherKnownSpec.post enc Tryz.prog Tryz.f7 false true false false) :=
  closed_lifted (C := Tryz.checked) (tb := 4) started own (by kernel_rfl) Tryz.func7 rfl rfl (by kernel_rfl) rfl rfl
    (fun W hW => closed_calls Tryz.checked.mixed ov2_ok.1 ov2_ok.2.1 ov2_ok.2.2 nm_ok known_run Tryz.func7 rfl (by decide) hW)
    (ChangeSpec.witness_shaped (enc := enc) (C := Tryz.checked) (os := os) (X := fun w _ => laidMetH Tryz.prog Rows.gatherKnownRow.laid w) false (laidW os) #[] 8 rfl (World.shaped_of_RefB (by kernel_rfl) (by kernel_rfl)) (by kernel_rfl) (by kernel_rfl) (by kernel_rfl) (door_met os _))

end Go.Proofs.YtahebkafkaldgaaGreatDoor

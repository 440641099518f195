/- Runs of the abstract interpreter, part 5: by an AI agent. -/
import Derived.Test.YtmimkeikienajaaDoorPart4

namespace Go.Proofs.YtmimkeikienajaaDoor
open Go Go.Ai Go.ChangeShapes Go.WideShapes Go.RowKit

set_option maxRecDepth 100000 in
theorem lifted (os : Os) (started : os.Started) (H : Type) (enc : TypeId × Value → H) :
    ReturnsInHanded {} Tryd.checked os 3 .any (fun w args => (Rows.packKnownSpec.pre enc Tryd.prog Tryd.f3 [] false w args ∧ laidMetH Tryd.prog Rows.packKnownRow.laid w) ∧ sizedMet enc Tryd.prog Tryd.f3 (OpenSpec.ofChange Rows.packKnownSpec) false w args)
      (Rows.packKnownSpec.post enc Tryd.prog Tryd.f3 false true false false) :=
  closed_lifted (C := Tryd.checked) (tb := 4) started own (by kernel_rfl) Tryd.func3 rfl rfl (by kernel_rfl) rfl rfl
    (fun W hW => closed_calls2 Tryd.checked.mixed ov1_ok.1 ov1_ok.2.1 ov1_ok.2.2 nm_ok st0_is known_run Tryd.func3 rfl (by decide) hW)
    (ChangeSpec.witness_shaped (enc := enc) (C := Tryd.checked) (os := os) (X := fun w _ => laidMetH Tryd.prog Rows.packKnownRow.laid w) false (laidW os) #[] 8 rfl (World.shaped_of_RefB (by kernel_rfl) (by kernel_rfl)) (by kernel_rfl) (by kernel_rfl) (by kernel_rfl) (door_met os _))

end Go.Proofs.YtmimkeikienajaaDoor

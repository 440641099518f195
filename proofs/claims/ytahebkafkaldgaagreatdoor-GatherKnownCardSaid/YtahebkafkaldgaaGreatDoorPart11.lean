/- Runs of the abstract interpreter, part 11: by an AI agent. -/
import Derived.Test.YtahebkafkaldgaaGreatDoorPart10

namespace Go.Proofs.YtahebkafkaldgaaGreatDoor
open Go Go.Ai Go.ChangeShapes Go.WideShapes Go.RowKit
theorem and2 {a b : Bool} (h : a = true) (k : b = true) : (a && b) = true := by rw [h, k]; rfl
set_option maxRecDepth 1000000 in
theorem kh_joined : joinedFacts Tryz.checked.prog 7 Tryz.f7 Rows.gatherKnownSpec Rows.gatherKnownRow = true := (and2 (and2 (and2 (and2 (and2 (and2 (and2 (and2 (and2 (and2 (and2 (and2 (and2 (and2 (and2 (and2 (and2 (and2 (and2 (and2 (and2 (and2 (and2 (and2 (and2 (and2 (and2 (and2 (and2 (and2 (and2 kj0 kj1) kj2) kj3) kj4) kj5) kj6) kj7) kj8) kj9) kj10) kj11) kj12) kj13) kj14) kj15) kj16) kj17) kj18) kj19) kj20) kj21) kj22) kj23) kj24) kj25) kj26) kj27) kj28) kj29) kj30) kj31)
theorem kh_named : Tryz.checked.prog.funcNamed Rows.gatherKnownRow.func = some 7 := by kernel_rfl
theorem kh_inst : Tryz.f7.isInstance Tryz.checked.prog Rows.gatherKnownRow.origin Rows.gatherKnownRow.targs := of_decide_eq_true (by kernel_rfl)
theorem kh_wrap : Tryz.f7.isWrapper Tryz.checked.prog Rows.gatherKnownRow.wrapper Rows.gatherKnownRow.mainSum := by unfold Func.isWrapper; first | (rw [if_pos (by decide +kernel)]; kernel_rfl) | (rw [if_neg (by decide +kernel)]; exact ⟨rfl, rfl⟩)
end Go.Proofs.YtahebkafkaldgaaGreatDoor

/- Runs of the abstract interpreter, part 7: by an AI agent. -/
import Derived.Test.YtahebkafkaldgaaGreatDoorPart6

namespace Go.Proofs.YtahebkafkaldgaaGreatDoor
open Go Go.Ai Go.ChangeShapes Go.WideShapes Go.RowKit
theorem kj0 : (Rows.gatherKnownRow.wf (OpenSpec.ofChange Rows.gatherKnownSpec)) = true := by kernel_rfl
theorem kj1 : (laidOutB Tryz.checked.prog) = true := by kernel_rfl
theorem kj2 : (mapsRowed Tryz.checked.prog) = true := by kernel_rfl
theorem kj3 : (Tryz.f7.params.all (Tryz.checked.prog.readableRec ·)) = true := by kernel_rfl
theorem kj4 : (namedTie Tryz.checked.prog Rows.gatherKnownRow.named Rows.gatherKnownSpec.vars) = true := by kernel_rfl
theorem kj5 : ((Rows.gatherKnownRow.stops == [])) = true := by kernel_rfl
theorem kj6 : ((Tryz.checked.prog.stops == [])) = true := by kernel_rfl
theorem kj7 : ((Rows.gatherKnownRow.knobs == [])) = true := by kernel_rfl
theorem kj8 : ((Tryz.checked.prog.stopKnobs == [])) = true := by kernel_rfl
theorem kj13 : ((Rows.gatherKnownRow.maps == (Tryz.f7.params.toList ++ Rows.gatherKnownSpec.plain.varTypes Tryz.checked.prog).any (Tryz.checked.prog.mapsRec ·))) = true := by kernel_rfl
theorem kj14 : ((Rows.gatherKnownRow.ifaces == (Tryz.f7.params.toList ++ Rows.gatherKnownSpec.plain.varTypes Tryz.checked.prog).any (Tryz.checked.prog.ifacesRec ·))) = true := by kernel_rfl
theorem kj15 : ((Rows.gatherKnownRow.mapsOut == Tryz.checked.prog.mapsAmong Tryz.f7.resultTypes.toList)) = true := by kernel_rfl
theorem kj16 : ((Rows.gatherKnownRow.loops == (Tryz.f7.params.toList ++ Rows.gatherKnownSpec.plain.varTypes Tryz.checked.prog).any (Tryz.checked.prog.loopsFrom ·))) = true := by kernel_rfl
theorem kj17 : ((Rows.gatherKnownRow.wideKeys == (Tryz.f7.params.toList ++ Rows.gatherKnownSpec.plain.varTypes Tryz.checked.prog ++ Tryz.f7.resultTypes.toList).any (Tryz.checked.prog.wideKeysFrom ·))) = true := by kernel_rfl
theorem kj18 : (Rows.gatherKnownSpec.vars.all (Tryz.checked.prog.varReadable ·)) = true := by kernel_rfl
theorem kj19 : (Tryz.f7.resultTypes.all (fun t => Tryz.checked.prog.readableRec t && decide (t < Tryz.checked.prog.types.size))) = true := by kernel_rfl
theorem kj20 : ((Rows.gatherKnownRow.ifacesOut == Tryz.f7.resultTypes.toList.any (Tryz.checked.prog.ifacesRec ·))) = true := by kernel_rfl
theorem kj21 : ((Rows.gatherKnownRow.loopsOut == Tryz.f7.resultTypes.toList.any (Tryz.checked.prog.loopsFrom ·))) = true := by kernel_rfl
theorem kj23 : (Rows.gatherKnownRow.shortTexts.isNone) = true := by kernel_rfl
theorem kj28 : ((Rows.gatherKnownRow.kinds == (if Rows.gatherKnownRow.domain.isEmpty then [] else Tryz.f7.params.toList.map fun t => match Tryz.checked.prog.underlying t with | some (.int k) => some k | _ => none))) = true := by kernel_rfl
theorem kj29 : ((Rows.gatherKnownRow.pinned == Rows.gatherKnownRow.pinnedBy)) = true := by kernel_rfl
theorem kj30 : ((Rows.gatherKnownRow.veiled == (Tryz.f7.params.toList ++ Rows.gatherKnownSpec.plain.varTypes Tryz.checked.prog ++ Tryz.f7.resultTypes.toList).any (Tryz.checked.prog.veiledRec ·))) = true := by kernel_rfl
end Go.Proofs.YtahebkafkaldgaaGreatDoor

/- Runs of the abstract interpreter, part 43: by an AI agent. -/
import Derived.Test.YtgmojlibppmfhaaDoorPart42

namespace Go.Proofs.YtgmojlibppmfhaaDoor
open Go Go.Ai
noncomputable def stT : St := startOf Tryd.prog nm fs Rows.prefixListsRow.laid
theorem stT_is : laidStart Tryd.prog nm fs Rows.prefixListsRow.laid = some stT := by
  have h : (laidStart Tryd.prog nm fs Rows.prefixListsRow.laid).isSome = true := by kernel_rfl
  obtain ⟨st, hst⟩ := Option.isSome_iff_exists.1 h
  simp [stT, startOf, hst]
theorem hasT : hasIds st0.hp stT.hp ids22 = true := by kernel_rfl
theorem ctT : stT.ct = 11 := by kernel_rfl
noncomputable def stL (cs : List Value) : St := ⟨stT.hp.set 11 (.row 31 cs false false), 12⟩
end Go.Proofs.YtgmojlibppmfhaaDoor

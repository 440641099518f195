/- Runs of the abstract interpreter, part 2: by an AI agent. -/
import Derived.Test.YtgmojlibppmfhaaGreatDoorPart1

namespace Go.Proofs.YtgmojlibppmfhaaGreatDoor
open Go Go.Ai
theorem ref0 : OvRef ov0 ovONone := ovONone_ref ov0_lp
theorem ng_st0 : (Cx.of Tryz.prog).ng ≤ st0.ct := Nat.le_of_ble_eq_true (by kernel_rfl)
/-- is it true? -/
def isTrue : Option (Value × St) → Bool
  | some (.bool true, _) => true
  | _ => false
theorem isTrue_ex {x : Option (Value × St)} (h : isTrue x = true) : ∃ st', x = some (.bool true, st') := by
  unfold isTrue at h
  split at h
  · exact ⟨_, rfl⟩
  · cases h
end Go.Proofs.YtgmojlibppmfhaaGreatDoor

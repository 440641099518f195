/- Runs of the abstract interpreter, part 2: by an AI agent. -/
import Derived.Test.YtgmojlibppmfhaaDoorPart1

namespace Go.Proofs.YtgmojlibppmfhaaDoor
open Go Go.Ai
theorem refc0 : OvRef ov0 ovONone := ovONone_ref ov0_lp
theorem ngc_st0 : (Cx.of Tryd.prog).ng ≤ st0.ct := Nat.le_of_ble_eq_true (by kernel_rfl)
/-- is it true? -/
def isTrue : Option (Value × St) → Bool
  | some (.bool true, _) => true
  | _ => false
theorem isTrue_ex {x : Option (Value × St)} (h : isTrue x = true) : ∃ st', x = some (.bool true, st') := by
  unfold isTrue at h
  split at h
  · exact ⟨_, rfl⟩
  · cases h
end Go.Proofs.YtgmojlibppmfhaaDoor

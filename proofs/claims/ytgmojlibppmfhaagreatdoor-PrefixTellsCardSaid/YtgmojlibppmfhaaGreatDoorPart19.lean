/- Runs of the abstract interpreter, part 19: by an AI agent. -/
import Derived.Test.YtgmojlibppmfhaaGreatDoorPart18

namespace Go.Proofs.YtgmojlibppmfhaaGreatDoor
open Go Go.Ai
noncomputable def ovs1 : Ov := ovWith st0 [COC, CDG] [] ovp4
noncomputable def ovOs1 : OvO := ovOWith st0 [COC, CDG] [] ovOp4
theorem refs1 : OvRef ovs1 ovOs1 := ovWith_ref refp4
theorem ovs1_ok : OvOk Tryz.prog ovs1 ∧ OvMono ovs1 ∧ OvIds ovs1 :=
  ⟨ovWith_ok Tryz.checked.mixed ovp4_ok.1 ovp4_ok.2.1 ovp4_ok.2.2 ng_st0 (fun C h => by simp at h; rcases h with rfl | rfl; exact COC_good; exact CDG_good) (fun x h => by cases h),
   ovWith_mono ovp4_ok.2.1 (fun x h => by cases h), ovWith_ids ovp4_ok.2.2⟩
end Go.Proofs.YtgmojlibppmfhaaGreatDoor

/- Runs of the abstract interpreter, part 21: by an AI agent. -/
import Derived.Test.YtgmojlibppmfhaaGreatDoorPart20

namespace Go.Proofs.YtgmojlibppmfhaaGreatDoor
open Go Go.Ai
def all1 : List FC := [CM, CC, CH, CK, CO, CRB, CCV, CSG, COC, CDG, CIP]
noncomputable def ovz1 : Ov := ovWith st0 all1 [] ovp4
noncomputable def ovOz1 : OvO := ovOWith st0 all1 [] ovOp4
theorem refz1 : OvRef ovz1 ovOz1 := ovWith_ref refp4
theorem ovz1_ok : OvOk Tryz.prog ovz1 ∧ OvMono ovz1 ∧ OvIds ovz1 :=
  ⟨ovWith_ok2 Tryz.checked.mixed ovp4_ok.1 ng_st0 (fun C h => by
      simp [all1] at h
      rcases h with rfl | rfl | rfl | rfl | rfl | rfl | rfl | rfl | rfl | rfl | rfl
      · exact ⟨_, ovr4_ok.1, ovr4_ok.2.1, ovr4_ok.2.2, CM_good⟩
      · exact ⟨_, ovr4_ok.1, ovr4_ok.2.1, ovr4_ok.2.2, CC_good⟩
      · exact ⟨_, ovr5_ok.1, ovr5_ok.2.1, ovr5_ok.2.2, CH_good⟩
      · exact ⟨_, ovr6_ok.1, ovr6_ok.2.1, ovr6_ok.2.2, CK_good⟩
      · exact ⟨_, ovr3_ok.1, ovr3_ok.2.1, ovr3_ok.2.2, CO_good⟩
      · exact ⟨_, ovr3_ok.1, ovr3_ok.2.1, ovr3_ok.2.2, CRB_good⟩
      · exact ⟨_, ovr3_ok.1, ovr3_ok.2.1, ovr3_ok.2.2, CCV_good⟩
      · exact ⟨_, ovr3_ok.1, ovr3_ok.2.1, ovr3_ok.2.2, CSG_good⟩
      · exact ⟨_, ovp4_ok.1, ovp4_ok.2.1, ovp4_ok.2.2, COC_good⟩
      · exact ⟨_, ovp4_ok.1, ovp4_ok.2.1, ovp4_ok.2.2, CDG_good⟩
      · exact ⟨_, ovs1_ok.1, ovs1_ok.2.1, ovs1_ok.2.2, CIP_good⟩),
   ovWith_mono ovp4_ok.2.1 (fun x h => by cases h), ovWith_ids ovp4_ok.2.2⟩
end Go.Proofs.YtgmojlibppmfhaaGreatDoor

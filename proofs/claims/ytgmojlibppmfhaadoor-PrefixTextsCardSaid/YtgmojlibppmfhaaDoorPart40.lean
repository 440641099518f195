/- Runs of the abstract interpreter, part 40: by an AI agent. -/
import Derived.Test.YtgmojlibppmfhaaDoorPart39

namespace Go.Proofs.YtgmojlibppmfhaaDoor
open Go Go.Ai
noncomputable def ovs : Ov := ovWith st0 [C14, C48, C133, C27, CPT, CPX, C22] [] ov0
noncomputable def ovOs : OvO := ovOWith st0 [C14, C48, C133, C27, CPT, CPX, C22] [] ovO0
theorem refs : OvRef ovs ovOs := ovWith_ref ref0
theorem ovs_ok : OvOk Tryd.prog ovs ∧ OvMono ovs ∧ OvIds ovs :=
  ⟨ovWith_ok3 Tryd.checked.mixed ov0_ok.1 ng_st0 (fun C h => by
      simp only [List.mem_cons, List.not_mem_nil, or_false] at h
      rcases h with rfl | rfl | rfl | rfl | rfl | rfl | rfl
      · exact ⟨_, ovq3_ok.1, ovq3_ok.2.1, ovq3_ok.2.2, C14_good⟩
      · exact ⟨_, ovq1_ok.1, ovq1_ok.2.1, ovq1_ok.2.2, C48_good⟩
      · exact ⟨_, ovn1_ok.1, ovn1_ok.2.1, ovn1_ok.2.2, C133_good⟩
      · exact ⟨_, ovp2_ok.1, ovp2_ok.2.1, ovp2_ok.2.2, C27_good⟩
      · exact ⟨_, ovz3_ok.1, ovz3_ok.2.1, ovz3_ok.2.2, CPT_good⟩
      · exact ⟨_, ovz4_ok.1, ovz4_ok.2.1, ovz4_ok.2.2, CPX_good⟩
      · exact ⟨_, ov0_ok.1, ov0_ok.2.1, ov0_ok.2.2, C22_good⟩),
   ovWith_mono ov0_ok.2.1 (fun x h => by cases h), ovWith_ids ov0_ok.2.2⟩
noncomputable def stT : St := startOf Tryd.prog nm fs Rows.prefixTextsRow.laid
theorem stT_is : laidStart Tryd.prog nm fs Rows.prefixTextsRow.laid = some stT := by
  have h : (laidStart Tryd.prog nm fs Rows.prefixTextsRow.laid).isSome = true := by kernel_rfl
  obtain ⟨st, hst⟩ := Option.isSome_iff_exists.1 h
  simp [stT, startOf, hst]
theorem hasT : hasIds st0.hp stT.hp ids22 = true := by kernel_rfl
end Go.Proofs.YtgmojlibppmfhaaDoor

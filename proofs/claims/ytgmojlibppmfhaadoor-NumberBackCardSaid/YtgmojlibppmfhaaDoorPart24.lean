/- Runs of the abstract interpreter, part 24: by an AI agent. -/
import Derived.Test.YtgmojlibppmfhaaDoorPart23

namespace Go.Proofs.YtgmojlibppmfhaaDoor
open Go Go.Ai
def parN (s : ByteArray) : Int := (parP s).1
def parE (s : ByteArray) : Int := (parP s).2
def C34m : FC := ⟨34, fun l => ∃ s, l = [.string s] ∧ s.size ≤ 1000, fun l => match l with | [.string s] => .tuple #[.int .u32 (parN s), .int .i64 (parE s)] | _ => undef, []⟩
theorem C34m_good : C34m.Good Tryd.prog ovn2 st0 := ⟨by kernel_rfl, fun args ⟨s, e, h⟩ => by subst e; exact ⟨rfl, rfl, 1000, F34_all s h⟩⟩
noncomputable def ovm : Ov := ovWith st0 [C40, C39, C34m, C36n] [] ov0
noncomputable def ovOm : OvO := ovOWith st0 [C40, C39, C34m, C36n] [] ovO0
theorem refm : OvRef ovm ovOm := ovWith_ref ref0
theorem ovm_ok : OvOk Tryd.prog ovm ∧ OvMono ovm ∧ OvIds ovm :=
  ⟨ovWith_ok3 Tryd.checked.mixed ov0_ok.1 ng_st0 (fun C h => by
      simp only [List.mem_cons, List.not_mem_nil, or_false] at h
      rcases h with rfl | rfl | rfl | rfl
      · exact ⟨ov2, ov2_ok.1, ov2_ok.2.1, ov2_ok.2.2, C40_good⟩
      · exact ⟨ov3, ov3_ok.1, ov3_ok.2.1, ov3_ok.2.2, C39_good⟩
      · exact ⟨ovn2, ovn2_ok.1, ovn2_ok.2.1, ovn2_ok.2.2, C34m_good⟩
      · exact ⟨ov0, ov0_ok.1, ov0_ok.2.1, ov0_ok.2.2, C36n_good⟩),
   ovWith_mono ov0_ok.2.1 (fun x h => by cases h), ovWith_ids ov0_ok.2.2⟩
noncomputable def stK : St := startOf Tryd.prog nm fs Rows.numberBackRow.laid
theorem stK_is : laidStart Tryd.prog nm fs Rows.numberBackRow.laid = some stK := by
  have h : (laidStart Tryd.prog nm fs Rows.numberBackRow.laid).isSome = true := by kernel_rfl
  obtain ⟨st, hst⟩ := Option.isSome_iff_exists.1 h
  simp [stK, startOf, hst]
end Go.Proofs.YtgmojlibppmfhaaDoor

/- Runs of the abstract interpreter, part 16: by an AI agent. -/
import Derived.Test.YtgmojlibppmfhaaDoorPart15

namespace Go.Proofs.YtgmojlibppmfhaaDoor
open Go Go.Ai
noncomputable def stR : St := startOf Tryd.prog nm fs Rows.numberReadsRow.laid
theorem stR_is : laidStart Tryd.prog nm fs Rows.numberReadsRow.laid = some stR := by
  have h : (laidStart Tryd.prog nm fs Rows.numberReadsRow.laid).isSome = true := by kernel_rfl
  obtain ⟨st, hst⟩ := Option.isSome_iff_exists.1 h
  simp [stR, startOf, hst]
/-- is it true? -/
def isYes : Option (Value × St) → Bool
  | some (.bool true, _) => true
  | _ => false
theorem isYes_ex {x : Option (Value × St)} (h : isYes x = true) : ∃ st', x = some (.bool true, st') := by
  unfold isYes at h
  split at h
  · exact ⟨_, rfl⟩
  · cases h
theorem tells36 : isYes (callF cx ov0 1000000 36 [] ⟨keepIds st0.hp [], st0.ct⟩) = true := by kernel_rfl
def C36n : FC := ⟨36, fun l => l = [], fun _ => .bool true, []⟩
theorem C36n_good : C36n.Good Tryd.prog ov0 st0 := ⟨by kernel_rfl, fun args e => by
  subst e
  obtain ⟨st', h⟩ := isYes_ex tells36
  rw [callF_eq] at h
  exact ⟨rfl, rfl, 1000000, st', h⟩⟩
noncomputable def ovn6 : Ov := ovWith st0 [C36n] [] ovn5
noncomputable def ovOn6 : OvO := ovOWith st0 [C36n] [] ovOn5
theorem refn6 : OvRef ovn6 ovOn6 := ovWith_ref refn5
theorem ovn6_ok : OvOk Tryd.prog ovn6 ∧ OvMono ovn6 ∧ OvIds ovn6 :=
  ⟨ovWith_ok3 Tryd.checked.mixed ovn5_ok.1 ng_st0 (fun C h => by
      simp only [List.mem_cons, List.not_mem_nil, or_false] at h
      subst h; exact ⟨ov0, ov0_ok.1, ov0_ok.2.1, ov0_ok.2.2, C36n_good⟩),
   ovWith_mono ovn5_ok.2.1 (fun x h => by cases h), ovWith_ids ovn5_ok.2.2⟩
end Go.Proofs.YtgmojlibppmfhaaDoor

/- Runs of the abstract interpreter, part 30: by an AI agent. -/
import Derived.Test.YtgmojlibppmfhaaGreatDoorPart29

namespace Go.Proofs.YtgmojlibppmfhaaGreatDoor
open Go Go.Ai
theorem Fpx_all (x b : Int) (h0 : 0 ≤ x) (h1 : x < 4294967296) : ∃ st', Go.Ai.call cx ovz4 1000 7 [.agg #[.int .u32 x, .int .i64 b]] ⟨keepIds st0.hp [0], st0.ct⟩ = some (.string (txB x b), st') := by
  have s0 := ipB_size x
  have s1 := digB_size b
  have d1 : slashB.size = 1 := rfl
  unfold txB
  by_cases hm : mayF x b = true
  · obtain ⟨b0, b1, _⟩ := mayF_range hm
    rw [if_pos hm]
    exact path_call refz4 (toks := [.ev, .no, .ev, .yes, .ev, .ev, .yes]) (asm := [decide ((ipB x ++ slashB).size + (digB b).size ≤ (9223372036854775807 : Nat)) = true, CIT.pre [.int .i64 b], beqV (.int .i64 b) (.int .i64 b) = true, decide ((ipB x).size + 1 ≤ (9223372036854775807 : Nat)) = true, CPT.pre [.int .u32 x], (!mayF x b) = false, C27.pre [.agg #[.int .u32 x, .int .i64 b]]]) (by kernel_rfl)
      ⟨decide_eq_true (by simp only [ByteArray.size_append]; omega), ⟨_, rfl, b0, by omega⟩, by simp [beqV], decide_eq_true (by omega), ⟨_, rfl, h0, h1⟩, by rw [hm]; rfl, ⟨_, _, rfl, h0, h1⟩, trivial⟩
  · rw [if_neg hm]
    exact path_call refz4 (toks := [.ev, .yes]) (asm := [(!mayF x b) = true, C27.pre [.agg #[.int .u32 x, .int .i64 b]]]) (by kernel_rfl) ⟨by simp [hm], ⟨_, _, rfl, h0, h1⟩, trivial⟩
def CPX : FC := ⟨7, fun l => ∃ x b, l = [.agg #[.int .u32 x, .int .i64 b]] ∧ 0 ≤ x ∧ x < 4294967296, fun l => match l with | [.agg ⟨[.int _ x, .int _ b]⟩] => .string (txB x b) | _ => undef, [0]⟩
theorem CPX_good : CPX.Good Tryz.prog ovz4 st0 := ⟨by kernel_rfl, fun args ⟨x, b, e, h0, h1⟩ => by subst e; exact ⟨rfl, rfl, 1000, Fpx_all x b h0 h1⟩⟩
noncomputable def ovz5 : Ov := ovWith st0 [CPX] [] ovz4
noncomputable def ovOz5 : OvO := ovOWith st0 [CPX] [] ovOz4
theorem refz5 : OvRef ovz5 ovOz5 := ovWith_ref refz4
theorem ovz5_ok : OvOk Tryz.prog ovz5 ∧ OvMono ovz5 ∧ OvIds ovz5 :=
  ⟨ovWith_ok Tryz.checked.mixed ovz4_ok.1 ovz4_ok.2.1 ovz4_ok.2.2 ng_st0 (fun C h => by
      simp only [List.mem_cons, List.not_mem_nil, or_false] at h
      subst h; exact CPX_good) (fun x h => by cases h),
   ovWith_mono ovz4_ok.2.1 (fun x h => by cases h), ovWith_ids ovz4_ok.2.2⟩
end Go.Proofs.YtgmojlibppmfhaaGreatDoor

/- Runs of the abstract interpreter, part 5: by an AI agent. -/
import Derived.Test.YtgmojlibppmfhaaDoorPart4

namespace Go.Proofs.YtgmojlibppmfhaaDoor
open Go Go.Ai
theorem F31_p0 (x : Int) (b : Int) (h : Holds [Go.Proofs.YtgmojlibppmfhaaDoor.C61.pre [Go.Value.int Go.IntKind.i64 (if (if (32 : Int) < b then (32 : Int) else b) > (0 : Int) then if (32 : Int) < b then (32 : Int) else b else (0 : Int))]]) : ∃ st', Go.Ai.call cx ovp1 1000 31 [.int .u32 x, .int .i64 b] ⟨keepIds st0.hp [], st0.ct⟩ = some (Go.Value.agg { toList := [Go.Value.int Go.IntKind.u32 (Go.Ai.bitsI Go.BinOp.and Go.IntKind.u32 x (Go.Proofs.YtgmojlibppmfhaaDoor.maskF (if (if (32 : Int) < b then (32 : Int) else b) > (0 : Int) then if (32 : Int) < b then (32 : Int) else b else (0 : Int)))), Go.Value.int Go.IntKind.i64 (if (if (32 : Int) < b then (32 : Int) else b) > (0 : Int) then if (32 : Int) < b then (32 : Int) else b else (0 : Int))] }, st') :=
  path_call refp1 (toks := [.ev]) (by kernel_rfl) h
set_option maxHeartbeats 4000000 in
theorem F31_all (x : Int) (b : Int) (h0 : 0 ≤ x) (h1 : x < 4294967296) : ∃ st', Go.Ai.call cx ovp1 1000 31 [.int .u32 x, .int .i64 b] ⟨keepIds st0.hp [], st0.ct⟩ = some (.agg #[.int .u32 (flF x (clampF b)), .int .i64 (clampF b)], st') := by
  have hr := clampF_range b; have hc := clamp_if b; have hm := bits_mask x (clampF b) h0 h1 hr.1 hr.2
  obtain ⟨st', h⟩ := F31_p0 x b ⟨(by first | (refine ⟨_, rfl, ?_, ?_⟩ <;> rw [hc] <;> omega) | exact ⟨_, rfl, by omega, by omega⟩ | exact rfl), trivial⟩
  exact ⟨st', h.trans (congrArg (fun v => some (v, st')) (by rw [hc, hm]))⟩
def C31 : FC := ⟨31, fun l => ∃ x b, l = [.int .u32 x, .int .i64 b] ∧ 0 ≤ x ∧ x < 4294967296, fun l => match l with | [.int _ x, .int _ b] => .agg #[.int .u32 (flF x (clampF b)), .int .i64 (clampF b)] | _ => undef, []⟩
theorem C31_good : C31.Good Tryd.prog ovp1 st0 := ⟨by kernel_rfl, fun args ⟨x, b, e, h0, h1⟩ => by subst e; exact ⟨rfl, rfl, 1000, F31_all x b h0 h1⟩⟩
noncomputable def ovp2 : Ov := ovWith st0 [C31] [] ovp1
noncomputable def ovOp2 : OvO := ovOWith st0 [C31] [] ovOp1
theorem refp2 : OvRef ovp2 ovOp2 := ovWith_ref refp1
theorem ovp2_ok : OvOk Tryd.prog ovp2 ∧ OvMono ovp2 ∧ OvIds ovp2 :=
  ⟨ovWith_ok Tryd.checked.mixed ovp1_ok.1 ovp1_ok.2.1 ovp1_ok.2.2 ngc_st0 (fun C h => by simp at h; subst h; exact C31_good) (fun x h => by cases h),
   ovWith_mono ovp1_ok.2.1 (fun x h => by cases h), ovWith_ids ovp1_ok.2.2⟩
end Go.Proofs.YtgmojlibppmfhaaDoor

/- Runs of the abstract interpreter, part 6: by an AI agent. -/
import Derived.Test.YtgmojlibppmfhaaDoorPart5

namespace Go.Proofs.YtgmojlibppmfhaaDoor
open Go Go.Ai
theorem F27_p0 (x : Int) (b : Int) (h : Holds [Go.Ai.beqV (Go.Value.agg { toList := [Go.Value.int Go.IntKind.u32 x, Go.Value.int Go.IntKind.i64 b] }) (Go.Value.agg { toList := [Go.Value.int Go.IntKind.u32 x, Go.Value.int Go.IntKind.i64 b] }) = Bool.true, Go.Proofs.YtgmojlibppmfhaaDoor.C31.pre [Go.Value.int Go.IntKind.u32 x, Go.Value.int Go.IntKind.i64 b]]) : ∃ st', Go.Ai.call cx ovp2 1000 27 [.agg #[.int .u32 x, .int .i64 b]] ⟨keepIds st0.hp [], st0.ct⟩ = some (Go.Value.bool (x == Go.Proofs.YtgmojlibppmfhaaDoor.flF x (Go.Proofs.YtgmojlibppmfhaaDoor.clampF b) && (b == Go.Proofs.YtgmojlibppmfhaaDoor.clampF b && Bool.true)), st') :=
  path_call refp2 (toks := [.ev, .ev, .ev, .ev]) (by kernel_rfl) h
set_option maxHeartbeats 4000000 in
theorem F27_all (x : Int) (b : Int) (h0 : 0 ≤ x) (h1 : x < 4294967296) : ∃ st', Go.Ai.call cx ovp2 1000 27 [.agg #[.int .u32 x, .int .i64 b]] ⟨keepIds st0.hp [], st0.ct⟩ = some (.bool (mayF x b), st') := by
  obtain ⟨st', h⟩ := F27_p0 x b ⟨(by first | exact ⟨_, _, rfl, by omega, by omega⟩ | exact ⟨_, rfl, by omega, by omega⟩ | exact rfl | (simp [beqV, beqVA, beqVL]; done)), (by first | exact ⟨_, _, rfl, by omega, by omega⟩ | exact ⟨_, rfl, by omega, by omega⟩ | exact rfl | (simp [beqV, beqVA, beqVL]; done)), trivial⟩
  exact ⟨st', h.trans (congrArg (fun v => some (v, st')) (by rfl))⟩
set_option maxHeartbeats 4000000 in
def C27 : FC := ⟨27, fun l => ∃ x b, l = [.agg #[.int .u32 x, .int .i64 b]] ∧ 0 ≤ x ∧ x < 4294967296, fun l => match l with | [.agg ⟨[.int _ x, .int _ b]⟩] => .bool (mayF x b) | _ => undef, []⟩
theorem C27_good : C27.Good Tryd.prog ovp2 st0 := ⟨by kernel_rfl, fun args ⟨x, b, e, h0, h1⟩ => by subst e; exact ⟨rfl, rfl, 1000, F27_all x b h0 h1⟩⟩
noncomputable def ovp3 : Ov := ovWith st0 [C27] [] ovp2
noncomputable def ovOp3 : OvO := ovOWith st0 [C27] [] ovOp2
theorem refp3 : OvRef ovp3 ovOp3 := ovWith_ref refp2
theorem ovp3_ok : OvOk Tryd.prog ovp3 ∧ OvMono ovp3 ∧ OvIds ovp3 :=
  ⟨ovWith_ok Tryd.checked.mixed ovp2_ok.1 ovp2_ok.2.1 ovp2_ok.2.2 ngc_st0 (fun C h => by simp at h; subst h; exact C27_good) (fun x h => by cases h),
   ovWith_mono ovp2_ok.2.1 (fun x h => by cases h), ovWith_ids ovp2_ok.2.2⟩
end Go.Proofs.YtgmojlibppmfhaaDoor

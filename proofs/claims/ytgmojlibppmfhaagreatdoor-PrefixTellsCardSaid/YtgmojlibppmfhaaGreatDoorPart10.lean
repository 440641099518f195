/- Runs of the abstract interpreter, part 10: by an AI agent. -/
import Derived.Test.YtgmojlibppmfhaaGreatDoorPart9

namespace Go.Proofs.YtgmojlibppmfhaaGreatDoor
open Go Go.Ai
def bitR (x k : Int) : Bool := x / 2 ^ (31 - k).toNat % 2 == 1
theorem Fbit_all (x k : Int) (h0 : 0 ≤ x) (h1 : x < 4294967296) (h2 : 0 ≤ k) : ∃ st', Go.Ai.call cx ovr1 1000 29 [.int .u32 x, .int .i64 k] ⟨keepIds st0.hp [], st0.ct⟩ = some (.bool (bitR x k), st') :=
  path_call refr1 (toks := [.ev, .yes]) (asm := [decide ((0 : Int) ≤ x / (2 : Int) ^ ((31 : Int) - k).toNat ∧ (0 : Int) < (2 : Int)) = true, L29.pre [.int .u32 x, .int .i64 k], L29.c = L29.c]) (by kernel_rfl)
    ⟨decide_eq_true ⟨(div_pow_range x _ h0).1, by omega⟩, ⟨_, _, rfl, h0, h1, h2⟩, rfl, trivial⟩
def CB : FC := ⟨29, fun l => ∃ x k, l = [.int .u32 x, .int .i64 k] ∧ 0 ≤ x ∧ x < 4294967296 ∧ 0 ≤ k, fun l => match l with | [.int _ x, .int _ k] => .bool (bitR x k) | _ => undef, []⟩
theorem CB_good : CB.Good Tryz.prog ovr1 st0 := ⟨by kernel_rfl, fun args ⟨x, k, e, h0, h1, h2⟩ => by subst e; exact ⟨rfl, rfl, 1000, Fbit_all x k h0 h1 h2⟩⟩
noncomputable def ovr2 : Ov := ovWith st0 [CB] [] ovr1
noncomputable def ovOr2 : OvO := ovOWith st0 [CB] [] ovOr1
theorem refr2 : OvRef ovr2 ovOr2 := ovWith_ref refr1
theorem ovr2_ok : OvOk Tryz.prog ovr2 ∧ OvMono ovr2 ∧ OvIds ovr2 :=
  ⟨ovWith_ok Tryz.checked.mixed ovr1_ok.1 ovr1_ok.2.1 ovr1_ok.2.2 ng_st0 (fun C h => by simp at h; rcases h with rfl; exact CB_good) (fun x h => by cases h),
   ovWith_mono ovr1_ok.2.1 (fun x h => by cases h), ovWith_ids ovr1_ok.2.2⟩
noncomputable def c19 : Code := loopOf Tryz.prog 19
end Go.Proofs.YtgmojlibppmfhaaGreatDoor

/- Runs of the abstract interpreter, part 29: by an AI agent. -/
import Derived.Test.YtgmojlibppmfhaaDoorPart28

namespace Go.Proofs.YtgmojlibppmfhaaDoor
open Go Go.Ai
def bitR (x k : Int) : Bool := x / 2 ^ (31 - k).toNat % 2 == 1
theorem Fbit_all (x k : Int) (h0 : 0 ≤ x) (h1 : x < 4294967296) (h2 : 0 ≤ k) : ∃ st', Go.Ai.call cx ovy1 1000 73 [.int .u32 x, .int .i64 k] ⟨keepIds st0.hp [], st0.ct⟩ = some (.bool (bitR x k), st') :=
  path_call refy1 (toks := [.ev, .yes]) (asm := [decide ((0 : Int) ≤ x / (2 : Int) ^ ((31 : Int) - k).toNat ∧ (0 : Int) < (2 : Int)) = true, L73.pre [.int .u32 x, .int .i64 k], L73.c = L73.c]) (by kernel_rfl)
    ⟨decide_eq_true ⟨(div_pow_range x _ h0).1, by omega⟩, ⟨_, _, rfl, h0, h1, h2⟩, rfl, trivial⟩
def CB : FC := ⟨73, fun l => ∃ x k, l = [.int .u32 x, .int .i64 k] ∧ 0 ≤ x ∧ x < 4294967296 ∧ 0 ≤ k, fun l => match l with | [.int _ x, .int _ k] => .bool (bitR x k) | _ => undef, []⟩
theorem CB_good : CB.Good Tryd.prog ovy1 st0 := ⟨by kernel_rfl, fun args ⟨x, k, e, h0, h1, h2⟩ => by subst e; exact ⟨rfl, rfl, 1000, Fbit_all x k h0 h1 h2⟩⟩
noncomputable def ovy2 : Ov := ovWith st0 [CB] [] ovy1
noncomputable def ovOy2 : OvO := ovOWith st0 [CB] [] ovOy1
theorem refy2 : OvRef ovy2 ovOy2 := ovWith_ref refy1
theorem ovy2_ok : OvOk Tryd.prog ovy2 ∧ OvMono ovy2 ∧ OvIds ovy2 :=
  ⟨ovWith_ok Tryd.checked.mixed ovy1_ok.1 ovy1_ok.2.1 ovy1_ok.2.2 ng_st0 (fun C h => by simp at h; rcases h with rfl; exact CB_good) (fun x h => by cases h),
   ovWith_mono ovy1_ok.2.1 (fun x h => by cases h), ovWith_ids ovy1_ok.2.2⟩
noncomputable def c54 : Code := loopAt Tryd.prog 54 0
end Go.Proofs.YtgmojlibppmfhaaDoor

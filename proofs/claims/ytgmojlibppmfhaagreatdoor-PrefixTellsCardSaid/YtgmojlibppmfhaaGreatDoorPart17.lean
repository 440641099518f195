/- Runs of the abstract interpreter, part 17: by an AI agent. -/
import Derived.Test.YtgmojlibppmfhaaGreatDoorPart16

namespace Go.Proofs.YtgmojlibppmfhaaGreatDoor
open Go Go.Ai
/-! ### an address's bytes; the digits of a byte (the reference's) -/
def octF (x k : Int) : Int := if k = 3 then x % 256 else if k = 2 then x / 256 % 256 else if k = 1 then x / 256 / 256 % 256 else x / 256 / 256 / 256 % 256
theorem Foc_0 (x : Int) (h0 : 0 ≤ x) (h1 : x < 4294967296) : ∃ st', Go.Ai.call cx ovp4 1000 32 [.int .u32 x, .int .i64 0] ⟨keepIds st0.hp [], st0.ct⟩ = some (.int .i64 (octF x 0), st') :=
  path_call refp4 (toks := [.ev, .ev, .yes, .yes, .ev, .ev, .ev, .yes, .yes, .ev, .ev, .ev, .yes, .yes, .ev, .ev, .ev, .yes, .yes]) (asm := [decide ((-9223372036854775808 : Int) ≤ x / (256 : Int) / (256 : Int) / (256 : Int) % (256 : Int) ∧ x / (256 : Int) / (256 : Int) / (256 : Int) % (256 : Int) ≤ (9223372036854775807 : Int)) = true, decide ((0 : Int) ≤ x / (256 : Int) / (256 : Int) / (256 : Int) ∧ (0 : Int) < (256 : Int)) = true, decide ((0 : Int) ≤ x / (256 : Int) / (256 : Int) / (256 : Int) ∧ x / (256 : Int) / (256 : Int) / (256 : Int) ≤ (4294967295 : Int)) = true, decide ((0 : Int) ≤ x / (256 : Int) / (256 : Int) ∧ (0 : Int) < (256 : Int)) = true, decide ((0 : Int) ≤ x / (256 : Int) / (256 : Int) ∧ x / (256 : Int) / (256 : Int) ≤ (4294967295 : Int)) = true, decide ((0 : Int) ≤ x / (256 : Int) ∧ (0 : Int) < (256 : Int)) = true, decide ((0 : Int) ≤ x / (256 : Int) ∧ x / (256 : Int) ≤ (4294967295 : Int)) = true, decide ((0 : Int) ≤ x ∧ (0 : Int) < (256 : Int)) = true]) (by kernel_rfl) ⟨decide_eq_true (by omega), decide_eq_true (by omega), decide_eq_true (by omega), decide_eq_true (by omega), decide_eq_true (by omega), decide_eq_true (by omega), decide_eq_true (by omega), decide_eq_true (by omega), trivial⟩
theorem Foc_1 (x : Int) (h0 : 0 ≤ x) (h1 : x < 4294967296) : ∃ st', Go.Ai.call cx ovp4 1000 32 [.int .u32 x, .int .i64 1] ⟨keepIds st0.hp [], st0.ct⟩ = some (.int .i64 (octF x 1), st') :=
  path_call refp4 (toks := [.ev, .ev, .yes, .yes, .ev, .ev, .ev, .yes, .yes, .ev, .ev, .ev, .yes, .yes]) (asm := [decide ((-9223372036854775808 : Int) ≤ x / (256 : Int) / (256 : Int) % (256 : Int) ∧ x / (256 : Int) / (256 : Int) % (256 : Int) ≤ (9223372036854775807 : Int)) = true, decide ((0 : Int) ≤ x / (256 : Int) / (256 : Int) ∧ (0 : Int) < (256 : Int)) = true, decide ((0 : Int) ≤ x / (256 : Int) / (256 : Int) ∧ x / (256 : Int) / (256 : Int) ≤ (4294967295 : Int)) = true, decide ((0 : Int) ≤ x / (256 : Int) ∧ (0 : Int) < (256 : Int)) = true, decide ((0 : Int) ≤ x / (256 : Int) ∧ x / (256 : Int) ≤ (4294967295 : Int)) = true, decide ((0 : Int) ≤ x ∧ (0 : Int) < (256 : Int)) = true]) (by kernel_rfl) ⟨decide_eq_true (by omega), decide_eq_true (by omega), decide_eq_true (by omega), decide_eq_true (by omega), decide_eq_true (by omega), decide_eq_true (by omega), trivial⟩
theorem Foc_2 (x : Int) (h0 : 0 ≤ x) (h1 : x < 4294967296) : ∃ st', Go.Ai.call cx ovp4 1000 32 [.int .u32 x, .int .i64 2] ⟨keepIds st0.hp [], st0.ct⟩ = some (.int .i64 (octF x 2), st') :=
  path_call refp4 (toks := [.ev, .ev, .yes, .yes, .ev, .ev, .ev, .yes, .yes]) (asm := [decide ((-9223372036854775808 : Int) ≤ x / (256 : Int) % (256 : Int) ∧ x / (256 : Int) % (256 : Int) ≤ (9223372036854775807 : Int)) = true, decide ((0 : Int) ≤ x / (256 : Int) ∧ (0 : Int) < (256 : Int)) = true, decide ((0 : Int) ≤ x / (256 : Int) ∧ x / (256 : Int) ≤ (4294967295 : Int)) = true, decide ((0 : Int) ≤ x ∧ (0 : Int) < (256 : Int)) = true]) (by kernel_rfl) ⟨decide_eq_true (by omega), decide_eq_true (by omega), decide_eq_true (by omega), decide_eq_true (by omega), trivial⟩
theorem Foc_3 (x : Int) (h0 : 0 ≤ x) (h1 : x < 4294967296) : ∃ st', Go.Ai.call cx ovp4 1000 32 [.int .u32 x, .int .i64 3] ⟨keepIds st0.hp [], st0.ct⟩ = some (.int .i64 (octF x 3), st') :=
  path_call refp4 (toks := [.ev, .ev, .yes, .yes]) (asm := [decide ((-9223372036854775808 : Int) ≤ x % (256 : Int) ∧ x % (256 : Int) ≤ (9223372036854775807 : Int)) = true, decide ((0 : Int) ≤ x ∧ (0 : Int) < (256 : Int)) = true]) (by kernel_rfl) ⟨decide_eq_true (by omega), decide_eq_true (by omega), trivial⟩
def COC : FC := ⟨32, fun l => ∃ x k, l = [.int .u32 x, .int .i64 k] ∧ 0 ≤ x ∧ x < 4294967296 ∧ 0 ≤ k ∧ k ≤ 3, fun l => match l with | [.int _ x, .int _ k] => .int .i64 (octF x k) | _ => undef, []⟩
theorem COC_good : COC.Good Tryz.prog ovp4 st0 := ⟨by kernel_rfl, fun args ⟨x, k, e, h0, h1, h2, h3⟩ => by
  subst e
  refine ⟨rfl, rfl, 1000, ?_⟩
  obtain rfl | rfl | rfl | rfl : k = 0 ∨ k = 1 ∨ k = 2 ∨ k = 3 := by omega
  · exact Foc_0 x h0 h1
  · exact Foc_1 x h0 h1
  · exact Foc_2 x h0 h1
  · exact Foc_3 x h0 h1⟩
end Go.Proofs.YtgmojlibppmfhaaGreatDoor

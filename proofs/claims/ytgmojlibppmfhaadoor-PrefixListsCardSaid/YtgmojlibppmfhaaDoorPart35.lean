/- Runs of the abstract interpreter, part 35: by an AI agent. -/
import Derived.Test.YtgmojlibppmfhaaDoorPart34

namespace Go.Proofs.YtgmojlibppmfhaaDoor
open Go Go.Ai
/-! ### an address's bytes; the digits of a byte (the reference's) -/
theorem Foc_0 (x : Int) (h0 : 0 ≤ x) (h1 : x < 4294967296) : ∃ st', Go.Ai.call cx ovp3 1000 60 [.int .u32 x, .int .i64 0] ⟨keepIds st0.hp [], st0.ct⟩ = some (.int .i64 (octF x 0), st') :=
  path_call refp3 (toks := [.ev, .ev, .yes, .yes, .ev, .ev, .ev, .yes, .yes, .ev, .ev, .ev, .yes, .yes, .ev, .ev, .ev, .yes, .yes]) (asm := [decide ((-9223372036854775808 : Int) ≤ x / (256 : Int) / (256 : Int) / (256 : Int) % (256 : Int) ∧ x / (256 : Int) / (256 : Int) / (256 : Int) % (256 : Int) ≤ (9223372036854775807 : Int)) = true, decide ((0 : Int) ≤ x / (256 : Int) / (256 : Int) / (256 : Int) ∧ (0 : Int) < (256 : Int)) = true, decide ((0 : Int) ≤ x / (256 : Int) / (256 : Int) / (256 : Int) ∧ x / (256 : Int) / (256 : Int) / (256 : Int) ≤ (4294967295 : Int)) = true, decide ((0 : Int) ≤ x / (256 : Int) / (256 : Int) ∧ (0 : Int) < (256 : Int)) = true, decide ((0 : Int) ≤ x / (256 : Int) / (256 : Int) ∧ x / (256 : Int) / (256 : Int) ≤ (4294967295 : Int)) = true, decide ((0 : Int) ≤ x / (256 : Int) ∧ (0 : Int) < (256 : Int)) = true, decide ((0 : Int) ≤ x / (256 : Int) ∧ x / (256 : Int) ≤ (4294967295 : Int)) = true, decide ((0 : Int) ≤ x ∧ (0 : Int) < (256 : Int)) = true]) (by kernel_rfl) ⟨decide_eq_true (by omega), decide_eq_true (by omega), decide_eq_true (by omega), decide_eq_true (by omega), decide_eq_true (by omega), decide_eq_true (by omega), decide_eq_true (by omega), decide_eq_true (by omega), trivial⟩
theorem Foc_1 (x : Int) (h0 : 0 ≤ x) (h1 : x < 4294967296) : ∃ st', Go.Ai.call cx ovp3 1000 60 [.int .u32 x, .int .i64 1] ⟨keepIds st0.hp [], st0.ct⟩ = some (.int .i64 (octF x 1), st') :=
  path_call refp3 (toks := [.ev, .ev, .yes, .yes, .ev, .ev, .ev, .yes, .yes, .ev, .ev, .ev, .yes, .yes]) (asm := [decide ((-9223372036854775808 : Int) ≤ x / (256 : Int) / (256 : Int) % (256 : Int) ∧ x / (256 : Int) / (256 : Int) % (256 : Int) ≤ (9223372036854775807 : Int)) = true, decide ((0 : Int) ≤ x / (256 : Int) / (256 : Int) ∧ (0 : Int) < (256 : Int)) = true, decide ((0 : Int) ≤ x / (256 : Int) / (256 : Int) ∧ x / (256 : Int) / (256 : Int) ≤ (4294967295 : Int)) = true, decide ((0 : Int) ≤ x / (256 : Int) ∧ (0 : Int) < (256 : Int)) = true, decide ((0 : Int) ≤ x / (256 : Int) ∧ x / (256 : Int) ≤ (4294967295 : Int)) = true, decide ((0 : Int) ≤ x ∧ (0 : Int) < (256 : Int)) = true]) (by kernel_rfl) ⟨decide_eq_true (by omega), decide_eq_true (by omega), decide_eq_true (by omega), decide_eq_true (by omega), decide_eq_true (by omega), decide_eq_true (by omega), trivial⟩
theorem Foc_2 (x : Int) (h0 : 0 ≤ x) (h1 : x < 4294967296) : ∃ st', Go.Ai.call cx ovp3 1000 60 [.int .u32 x, .int .i64 2] ⟨keepIds st0.hp [], st0.ct⟩ = some (.int .i64 (octF x 2), st') :=
  path_call refp3 (toks := [.ev, .ev, .yes, .yes, .ev, .ev, .ev, .yes, .yes]) (asm := [decide ((-9223372036854775808 : Int) ≤ x / (256 : Int) % (256 : Int) ∧ x / (256 : Int) % (256 : Int) ≤ (9223372036854775807 : Int)) = true, decide ((0 : Int) ≤ x / (256 : Int) ∧ (0 : Int) < (256 : Int)) = true, decide ((0 : Int) ≤ x / (256 : Int) ∧ x / (256 : Int) ≤ (4294967295 : Int)) = true, decide ((0 : Int) ≤ x ∧ (0 : Int) < (256 : Int)) = true]) (by kernel_rfl) ⟨decide_eq_true (by omega), decide_eq_true (by omega), decide_eq_true (by omega), decide_eq_true (by omega), trivial⟩
theorem Foc_3 (x : Int) (h0 : 0 ≤ x) (h1 : x < 4294967296) : ∃ st', Go.Ai.call cx ovp3 1000 60 [.int .u32 x, .int .i64 3] ⟨keepIds st0.hp [], st0.ct⟩ = some (.int .i64 (octF x 3), st') :=
  path_call refp3 (toks := [.ev, .ev, .yes, .yes]) (asm := [decide ((-9223372036854775808 : Int) ≤ x % (256 : Int) ∧ x % (256 : Int) ≤ (9223372036854775807 : Int)) = true, decide ((0 : Int) ≤ x ∧ (0 : Int) < (256 : Int)) = true]) (by kernel_rfl) ⟨decide_eq_true (by omega), decide_eq_true (by omega), trivial⟩
def COC : FC := ⟨60, fun l => ∃ x k, l = [.int .u32 x, .int .i64 k] ∧ 0 ≤ x ∧ x < 4294967296 ∧ 0 ≤ k ∧ k ≤ 3, fun l => match l with | [.int _ x, .int _ k] => .int .i64 (octF x k) | _ => undef, []⟩
theorem COC_good : COC.Good Tryd.prog ovp3 st0 := ⟨by kernel_rfl, fun args ⟨x, k, e, h0, h1, h2, h3⟩ => by
  subst e
  refine ⟨rfl, rfl, 1000, ?_⟩
  obtain rfl | rfl | rfl | rfl : k = 0 ∨ k = 1 ∨ k = 2 ∨ k = 3 := by omega
  · exact Foc_0 x h0 h1
  · exact Foc_1 x h0 h1
  · exact Foc_2 x h0 h1
  · exact Foc_3 x h0 h1⟩
noncomputable def ovb0 : Ov := ovWith st0 [C53, CBY, CM, CCV, COC, C22] [] ovp3
noncomputable def ovOb0 : OvO := ovOWith st0 [C53, CBY, CM, CCV, COC, C22] [] ovOp3
theorem refb0 : OvRef ovb0 ovOb0 := ovWith_ref refp3
theorem ovb0_ok : OvOk Tryd.prog ovb0 ∧ OvMono ovb0 ∧ OvIds ovb0 :=
  ⟨ovWith_ok3 Tryd.checked.mixed ovp3_ok.1 ngc_st0 (fun C h => by
      simp only [List.mem_cons, List.not_mem_nil, or_false] at h
      rcases h with rfl | rfl | rfl | rfl | rfl | rfl
      · exact ⟨_, ovp2_ok.1, ovp2_ok.2.1, ovp2_ok.2.2, C53_good⟩
      · exact ⟨_, ovz2_ok.1, ovz2_ok.2.1, ovz2_ok.2.2, CBY_good⟩
      · exact ⟨_, ovy4_ok.1, ovy4_ok.2.1, ovy4_ok.2.2, CM_good⟩
      · exact ⟨_, ovy3_ok.1, ovy3_ok.2.1, ovy3_ok.2.2, CCV_good⟩
      · exact ⟨_, ovp3_ok.1, ovp3_ok.2.1, ovp3_ok.2.2, COC_good⟩
      · exact ⟨_, ov0_ok.1, ov0_ok.2.1, ov0_ok.2.2, C22_good⟩),
   ovWith_mono ovp3_ok.2.1 (fun x h => by cases h), ovWith_ids ovp3_ok.2.2⟩
/-! ### the loops -/
noncomputable def c78 : Code := loopAt Tryd.prog 78 0
noncomputable def c25 : Code := loopAt Tryd.prog 25 0
noncomputable def c26 : Code := loopAt Tryd.prog 26 0
noncomputable def c26i : Code := loopAt Tryd.prog 26 1
noncomputable def c5 : Code := loopAt Tryd.prog 5 0
def rowP (e : Nat) (cs : List Value) : AObj := .row e cs true true
def rowQ (e : Nat) (cs : List Value) : AObj := .row e cs true false
end Go.Proofs.YtgmojlibppmfhaaDoor

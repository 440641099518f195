/- Runs of the abstract interpreter, part 12: by an AI agent. -/
import Derived.Test.YtgmojlibppmfhaaGreatDoorPart11

namespace Go.Proofs.YtgmojlibppmfhaaGreatDoor
open Go Go.Ai
theorem top_end (x b : Int) (h0 : 0 ≤ x) (h1 : x < 4294967296) : (0 : Int) = flF x b / 2 ^ (32 - (0 : Int)).toNat := by
  obtain ⟨g0, g1⟩ := flF_range (b := b) h0
  exact (Int.ediv_eq_zero_of_lt g0 (by have : (2 : Int) ^ (32 - (0 : Int)).toNat = 4294967296 := by decide
                                       omega)).symm
theorem pre19 (x b : Int) (h0 : 0 ≤ x) (h1 : x < 4294967296) (h2 : 0 ≤ b) (h3 : b ≤ 32) : L19.pre [.int .u32 x, .int .i64 b, .int .u32 0, .int .i64 0] :=
  ⟨_, _, _, _, rfl, h0, h1, h2, h3, by omega, by omega, top_end x b h0 h1⟩
theorem Fof_a (x b : Int) (h : Holds [L19.pre [.int .u32 x, .int .i64 b, .int .u32 0, .int .i64 0], L19.c = L19.c, decide (b > (32 : Int)) = false, decide (b < (0 : Int)) = false]) :
    ∃ st', Go.Ai.call cx ovr3 1000 19 [.int .u32 x, .int .i64 b] ⟨keepIds st0.hp [], st0.ct⟩ = some (.agg #[.int .u32 (flF x b), .int .i64 b], st') := path_call refr3 (toks := [.no, .no, .ev]) (by kernel_rfl) h
theorem Fof_b (x b : Int) (h : Holds [L19.pre [.int .u32 x, .int .i64 0, .int .u32 0, .int .i64 0], L19.c = L19.c, decide (b < (0 : Int)) = true]) :
    ∃ st', Go.Ai.call cx ovr3 1000 19 [.int .u32 x, .int .i64 b] ⟨keepIds st0.hp [], st0.ct⟩ = some (.agg #[.int .u32 (flF x 0), .int .i64 0], st') := path_call refr3 (toks := [.yes, .ev, .ev]) (by kernel_rfl) h
theorem Fof_c (x b : Int) (h : Holds [L19.pre [.int .u32 x, .int .i64 32, .int .u32 0, .int .i64 0], L19.c = L19.c, decide (b > (32 : Int)) = true, decide (b < (0 : Int)) = false]) :
    ∃ st', Go.Ai.call cx ovr3 1000 19 [.int .u32 x, .int .i64 b] ⟨keepIds st0.hp [], st0.ct⟩ = some (.agg #[.int .u32 (flF x 32), .int .i64 32], st') := path_call refr3 (toks := [.no, .yes, .ev]) (by kernel_rfl) h
theorem Fof_all (x b : Int) (h0 : 0 ≤ x) (h1 : x < 4294967296) : ∃ st', Go.Ai.call cx ovr3 1000 19 [.int .u32 x, .int .i64 b] ⟨keepIds st0.hp [], st0.ct⟩ = some (.agg #[.int .u32 (flF x (clampF b)), .int .i64 (clampF b)], st') := by
  by_cases hb : b < 0
  · rw [show clampF b = 0 by unfold clampF; rw [if_pos hb]]
    exact Fof_b x b ⟨pre19 x 0 h0 h1 (by omega) (by omega), rfl, decide_eq_true hb, trivial⟩
  · by_cases hc : b > 32
    · rw [show clampF b = 32 by unfold clampF; rw [if_neg hb, if_pos hc]]
      exact Fof_c x b ⟨pre19 x 32 h0 h1 (by omega) (by omega), rfl, decide_eq_true hc, decide_eq_false hb, trivial⟩
    · rw [show clampF b = b by unfold clampF; rw [if_neg hb, if_neg (by omega)]]
      exact Fof_a x b ⟨pre19 x b h0 h1 (by omega) (by omega), rfl, decide_eq_false hc, decide_eq_false hb, trivial⟩
theorem Frb_a (x k : Int) (h : Holds [decide (k ≤ (31 : Int)) = true, CB.pre [.int .u32 x, .int .i64 k], decide (k ≤ (31 : Int)) = true, decide (k ≤ (31 : Int)) = true, decide (k ≤ (31 : Int)) = true, decide (k ≥ (0 : Int)) = true, decide (k ≥ (0 : Int)) = true, decide (k ≥ (0 : Int)) = true]) :
    ∃ st', Go.Ai.call cx ovr3 1000 21 [.int .u32 x, .int .i64 k] ⟨keepIds st0.hp [], st0.ct⟩ = some (.bool (bitR x k), st') := path_call refr3 (toks := [.yes, .yes, .yes, .yes, .yes, .yes, .yes]) (by kernel_rfl) h
theorem Frb_b (x k : Int) (h : Holds [decide (k ≥ (0 : Int)) = false, decide (k ≥ (0 : Int)) = false, decide (k ≥ (0 : Int)) = false]) :
    ∃ st', Go.Ai.call cx ovr3 1000 21 [.int .u32 x, .int .i64 k] ⟨keepIds st0.hp [], st0.ct⟩ = some (.bool false, st') := path_call refr3 (toks := [.no, .no, .no, .ev, .ev, .ev, .ev]) (by kernel_rfl) h
theorem Frb_c (x k : Int) (h : Holds [decide (k ≤ (31 : Int)) = false, decide (k ≤ (31 : Int)) = false, decide (k ≤ (31 : Int)) = false, decide (k ≤ (31 : Int)) = false, decide (k ≥ (0 : Int)) = true, decide (k ≥ (0 : Int)) = true, decide (k ≥ (0 : Int)) = true]) :
    ∃ st', Go.Ai.call cx ovr3 1000 21 [.int .u32 x, .int .i64 k] ⟨keepIds st0.hp [], st0.ct⟩ = some (.bool false, st') := path_call refr3 (toks := [.yes, .yes, .yes, .no, .no, .no, .no]) (by kernel_rfl) h
theorem Frb_all (x k : Int) (h0 : 0 ≤ x) (h1 : x < 4294967296) : ∃ st', Go.Ai.call cx ovr3 1000 21 [.int .u32 x, .int .i64 k] ⟨keepIds st0.hp [], st0.ct⟩ = some (.bool (bitF x k), st') := by
  unfold bitF
  by_cases ha : 0 ≤ k
  · have a := decide_eq_true (show k ≥ (0 : Int) by omega)
    by_cases hb : k ≤ 31
    · have b := decide_eq_true hb
      rw [decide_eq_true ha, decide_eq_true (show k < 32 by omega)]
      exact Frb_a x k ⟨b, ⟨_, _, rfl, h0, h1, ha⟩, b, b, b, a, a, a, trivial⟩
    · have b := decide_eq_false hb
      rw [decide_eq_false (show ¬ k < 32 by omega), Bool.false_and, Bool.and_false]
      exact Frb_c x k ⟨b, b, b, b, a, a, a, trivial⟩
  · have a := decide_eq_false (show ¬ k ≥ (0 : Int) by omega)
    rw [decide_eq_false ha, Bool.false_and]
    exact Frb_b x k ⟨a, a, a, trivial⟩
theorem Fcv_all (x b : Int) : ∃ st', Go.Ai.call cx ovr3 1000 4 [.agg #[.int .u32 x, .int .i64 b]] ⟨keepIds st0.hp [], st0.ct⟩ = some (.agg #[.int .u32 x, .int .i64 b], st') := path_call refr3 (toks := [.ev, .ev, .ev]) (asm := []) (by kernel_rfl) trivial
def sgnF (b : Int) : Int := if (if (1 : Int) < b then (1 : Int) else b) > (-1 : Int) then if (1 : Int) < b then (1 : Int) else b else (-1 : Int)
theorem Fsg_all (b : Int) : ∃ st', Go.Ai.call cx ovr3 1000 9 [.int .i64 b] ⟨keepIds st0.hp [], st0.ct⟩ = some (.int .i64 (sgnF b), st') := path_call refr3 (toks := []) (asm := []) (by kernel_rfl) trivial
def CO : FC := ⟨19, fun l => ∃ x b, l = [.int .u32 x, .int .i64 b] ∧ 0 ≤ x ∧ x < 4294967296, fun l => match l with | [.int _ x, .int _ b] => .agg #[.int .u32 (flF x (clampF b)), .int .i64 (clampF b)] | _ => undef, []⟩
theorem CO_good : CO.Good Tryz.prog ovr3 st0 := ⟨by kernel_rfl, fun args ⟨x, b, e, h0, h1⟩ => by subst e; exact ⟨rfl, rfl, 1000, Fof_all x b h0 h1⟩⟩
def CRB : FC := ⟨21, fun l => ∃ x k, l = [.int .u32 x, .int .i64 k] ∧ 0 ≤ x ∧ x < 4294967296, fun l => match l with | [.int _ x, .int _ k] => .bool (bitF x k) | _ => undef, []⟩
theorem CRB_good : CRB.Good Tryz.prog ovr3 st0 := ⟨by kernel_rfl, fun args ⟨x, k, e, h0, h1⟩ => by subst e; exact ⟨rfl, rfl, 1000, Frb_all x k h0 h1⟩⟩
def CCV : FC := ⟨4, fun l => ∃ x b, l = [.agg #[.int .u32 x, .int .i64 b]], fun l => match l with | [.agg ⟨[.int _ x, .int _ b]⟩] => .agg #[.int .u32 x, .int .i64 b] | _ => undef, []⟩
theorem CCV_good : CCV.Good Tryz.prog ovr3 st0 := ⟨by kernel_rfl, fun args ⟨x, b, e⟩ => by subst e; exact ⟨rfl, rfl, 1000, Fcv_all x b⟩⟩
def CSG : FC := ⟨9, fun l => ∃ b, l = [.int .i64 b], fun l => match l with | [.int _ b] => .int .i64 (sgnF b) | _ => undef, []⟩
theorem CSG_good : CSG.Good Tryz.prog ovr3 st0 := ⟨by kernel_rfl, fun args ⟨b, e⟩ => by subst e; exact ⟨rfl, rfl, 1000, Fsg_all b⟩⟩
noncomputable def ovr4 : Ov := ovWith st0 [CO, CRB, CCV, CSG] [] ovr3
noncomputable def ovOr4 : OvO := ovOWith st0 [CO, CRB, CCV, CSG] [] ovOr3
theorem refr4 : OvRef ovr4 ovOr4 := ovWith_ref refr3
theorem ovr4_ok : OvOk Tryz.prog ovr4 ∧ OvMono ovr4 ∧ OvIds ovr4 :=
  ⟨ovWith_ok Tryz.checked.mixed ovr3_ok.1 ovr3_ok.2.1 ovr3_ok.2.2 ng_st0 (fun C h => by simp at h; rcases h with rfl | rfl | rfl | rfl; exact CO_good; exact CRB_good; exact CCV_good; exact CSG_good) (fun x h => by cases h),
   ovWith_mono ovr3_ok.2.1 (fun x h => by cases h), ovWith_ids ovr3_ok.2.2⟩
end Go.Proofs.YtgmojlibppmfhaaGreatDoor

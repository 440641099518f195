/- Runs of the abstract interpreter, part 31: by an AI agent. -/
import Derived.Test.YtgmojlibppmfhaaDoorPart30

namespace Go.Proofs.YtgmojlibppmfhaaDoor
open Go Go.Ai
theorem top_end (x b : Int) (h0 : 0 ≤ x) (h1 : x < 4294967296) : (0 : Int) = flF x b / 2 ^ (32 - (0 : Int)).toNat := by
  obtain ⟨g0, g1⟩ := flF_range (b := b) h0
  exact (Int.ediv_eq_zero_of_lt g0 (by have : (2 : Int) ^ (32 - (0 : Int)).toNat = 4294967296 := by decide
                                       omega)).symm
theorem pre54 (x b : Int) (h0 : 0 ≤ x) (h1 : x < 4294967296) (h2 : 0 ≤ b) (h3 : b ≤ 32) : L54.pre [.int .u32 x, .int .i64 b, .int .u32 0, .int .i64 0] :=
  ⟨_, _, _, _, rfl, h0, h1, h2, h3, by omega, by omega, top_end x b h0 h1⟩
theorem Fof_a (x b : Int) (h : Holds [L54.pre [.int .u32 x, .int .i64 b, .int .u32 0, .int .i64 0], L54.c = L54.c, decide (b > (32 : Int)) = false, decide (b < (0 : Int)) = false]) :
    ∃ st', Go.Ai.call cx ovy3 1000 54 [.int .u32 x, .int .i64 b] ⟨keepIds st0.hp [], st0.ct⟩ = some (.agg #[.int .u32 (flF x b), .int .i64 b], st') := path_call refy3 (toks := [.no, .no, .ev]) (by kernel_rfl) h
theorem Fof_b (x b : Int) (h : Holds [L54.pre [.int .u32 x, .int .i64 0, .int .u32 0, .int .i64 0], L54.c = L54.c, decide (b < (0 : Int)) = true]) :
    ∃ st', Go.Ai.call cx ovy3 1000 54 [.int .u32 x, .int .i64 b] ⟨keepIds st0.hp [], st0.ct⟩ = some (.agg #[.int .u32 (flF x 0), .int .i64 0], st') := path_call refy3 (toks := [.yes, .ev, .ev]) (by kernel_rfl) h
theorem Fof_c (x b : Int) (h : Holds [L54.pre [.int .u32 x, .int .i64 32, .int .u32 0, .int .i64 0], L54.c = L54.c, decide (b > (32 : Int)) = true, decide (b < (0 : Int)) = false]) :
    ∃ st', Go.Ai.call cx ovy3 1000 54 [.int .u32 x, .int .i64 b] ⟨keepIds st0.hp [], st0.ct⟩ = some (.agg #[.int .u32 (flF x 32), .int .i64 32], st') := path_call refy3 (toks := [.no, .yes, .ev]) (by kernel_rfl) h
theorem Fof_all (x b : Int) (h0 : 0 ≤ x) (h1 : x < 4294967296) : ∃ st', Go.Ai.call cx ovy3 1000 54 [.int .u32 x, .int .i64 b] ⟨keepIds st0.hp [], st0.ct⟩ = some (.agg #[.int .u32 (flF x (clampF b)), .int .i64 (clampF b)], st') := by
  by_cases hb : b < 0
  · rw [show clampF b = 0 by unfold clampF; rw [if_pos hb]]
    exact Fof_b x b ⟨pre54 x 0 h0 h1 (by omega) (by omega), rfl, decide_eq_true hb, trivial⟩
  · by_cases hc : b > 32
    · rw [show clampF b = 32 by unfold clampF; rw [if_neg hb, if_pos hc]]
      exact Fof_c x b ⟨pre54 x 32 h0 h1 (by omega) (by omega), rfl, decide_eq_true hc, decide_eq_false hb, trivial⟩
    · rw [show clampF b = b by unfold clampF; rw [if_neg hb, if_neg (by omega)]]
      exact Fof_a x b ⟨pre54 x b h0 h1 (by omega) (by omega), rfl, decide_eq_false hc, decide_eq_false hb, trivial⟩
theorem Fcv_all (x b : Int) : ∃ st', Go.Ai.call cx ovy3 1000 20 [.agg #[.int .u32 x, .int .i64 b]] ⟨keepIds st0.hp [], st0.ct⟩ = some (.agg #[.int .u32 x, .int .i64 b], st') := path_call refy3 (toks := [.ev, .ev, .ev]) (asm := []) (by kernel_rfl) trivial
def CO : FC := ⟨54, fun l => ∃ x b, l = [.int .u32 x, .int .i64 b] ∧ 0 ≤ x ∧ x < 4294967296, fun l => match l with | [.int _ x, .int _ b] => .agg #[.int .u32 (flF x (clampF b)), .int .i64 (clampF b)] | _ => undef, []⟩
theorem CO_good : CO.Good Tryd.prog ovy3 st0 := ⟨by kernel_rfl, fun args ⟨x, b, e, h0, h1⟩ => by subst e; exact ⟨rfl, rfl, 1000, Fof_all x b h0 h1⟩⟩
def CCV : FC := ⟨20, fun l => ∃ x b, l = [.agg #[.int .u32 x, .int .i64 b]], fun l => match l with | [.agg ⟨[.int _ x, .int _ b]⟩] => .agg #[.int .u32 x, .int .i64 b] | _ => undef, []⟩
theorem CCV_good : CCV.Good Tryd.prog ovy3 st0 := ⟨by kernel_rfl, fun args ⟨x, b, e⟩ => by subst e; exact ⟨rfl, rfl, 1000, Fcv_all x b⟩⟩
noncomputable def ovy4 : Ov := ovWith st0 [CO, CCV] [] ovy3
noncomputable def ovOy4 : OvO := ovOWith st0 [CO, CCV] [] ovOy3
theorem refy4 : OvRef ovy4 ovOy4 := ovWith_ref refy3
theorem ovy4_ok : OvOk Tryd.prog ovy4 ∧ OvMono ovy4 ∧ OvIds ovy4 :=
  ⟨ovWith_ok Tryd.checked.mixed ovy3_ok.1 ovy3_ok.2.1 ovy3_ok.2.2 ng_st0 (fun C h => by simp at h; rcases h with rfl | rfl; exact CO_good; exact CCV_good) (fun x h => by cases h),
   ovWith_mono ovy3_ok.2.1 (fun x h => by cases h), ovWith_ids ovy3_ok.2.2⟩
end Go.Proofs.YtgmojlibppmfhaaDoor

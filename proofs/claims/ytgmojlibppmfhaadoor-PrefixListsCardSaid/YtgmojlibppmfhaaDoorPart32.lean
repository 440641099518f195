/- Runs of the abstract interpreter, part 32: by an AI agent. -/
import Derived.Test.YtgmojlibppmfhaaDoorPart31

namespace Go.Proofs.YtgmojlibppmfhaaDoor
open Go Go.Ai
theorem F52_p0 (x : Int) (b : Int) (h : Holds [(Decidable.decide (b ≤ (32 : Int))) = true, (Decidable.decide (b ≤ (32 : Int))) = true, Go.Ai.beqV (Go.Value.agg { toList := [Go.Value.int Go.IntKind.u32 x, Go.Value.int Go.IntKind.i64 b] }) (Go.Value.agg { toList := [Go.Value.int Go.IntKind.u32 x, Go.Value.int Go.IntKind.i64 b] }) = Bool.true, (Decidable.decide (b ≤ (32 : Int))) = true, Go.Proofs.YtgmojlibppmfhaaDoor.CO.pre [Go.Value.int Go.IntKind.u32 x, Go.Value.int Go.IntKind.i64 b], (Decidable.decide (b ≤ (32 : Int))) = true, (Decidable.decide (b ≤ (32 : Int))) = true, (Decidable.decide (b ≤ (32 : Int))) = true, (Decidable.decide (b ≤ (32 : Int))) = true, (Decidable.decide (b ≤ (32 : Int))) = true, (Decidable.decide (b ≥ (0 : Int))) = true, (Decidable.decide (b ≥ (0 : Int))) = true, (Decidable.decide (b ≥ (0 : Int))) = true, (Decidable.decide (b ≥ (0 : Int))) = true]) : ∃ st', Go.Ai.call cx ovy4 1000 52 [.agg #[.int .u32 x, .int .i64 b]] ⟨keepIds st0.hp [], st0.ct⟩ = some (Go.Value.bool (Go.Proofs.YtgmojlibppmfhaaDoor.flF x (Go.Proofs.YtgmojlibppmfhaaDoor.clampF b) == x && (Go.Proofs.YtgmojlibppmfhaaDoor.clampF b == b && Bool.true)), st') :=
  path_call refy4 (toks := [.ev, .yes, .yes, .ev, .yes, .yes, .yes, .yes, .ev, .yes, .yes, .ev, .yes, .yes, .ev, .ev, .yes, .yes]) (by kernel_rfl) h
theorem F52_p1 (x : Int) (b : Int) (h : Holds [(Decidable.decide (b ≥ (0 : Int))) = false, (Decidable.decide (b ≥ (0 : Int))) = false, (Decidable.decide (b ≥ (0 : Int))) = false, (Decidable.decide (b ≥ (0 : Int))) = false]) : ∃ st', Go.Ai.call cx ovy4 1000 52 [.agg #[.int .u32 x, .int .i64 b]] ⟨keepIds st0.hp [], st0.ct⟩ = some (Go.Value.bool Bool.false, st') :=
  path_call refy4 (toks := [.ev, .no, .no, .no, .no, .ev, .ev, .ev, .ev, .ev, .ev, .ev, .ev]) (by kernel_rfl) h
theorem F52_p2 (x : Int) (b : Int) (h : Holds [(Decidable.decide (b ≤ (32 : Int))) = false, (Decidable.decide (b ≤ (32 : Int))) = false, (Decidable.decide (b ≤ (32 : Int))) = false, (Decidable.decide (b ≤ (32 : Int))) = false, (Decidable.decide (b ≤ (32 : Int))) = false, (Decidable.decide (b ≤ (32 : Int))) = false, (Decidable.decide (b ≤ (32 : Int))) = false, (Decidable.decide (b ≤ (32 : Int))) = false, (Decidable.decide (b ≥ (0 : Int))) = true, (Decidable.decide (b ≥ (0 : Int))) = true, (Decidable.decide (b ≥ (0 : Int))) = true, (Decidable.decide (b ≥ (0 : Int))) = true]) : ∃ st', Go.Ai.call cx ovy4 1000 52 [.agg #[.int .u32 x, .int .i64 b]] ⟨keepIds st0.hp [], st0.ct⟩ = some (Go.Value.bool Bool.false, st') :=
  path_call refy4 (toks := [.ev, .yes, .yes, .ev, .yes, .yes, .no, .no, .no, .no, .no, .no, .no, .no]) (by kernel_rfl) h
set_option maxHeartbeats 4000000 in
theorem F52_all (x : Int) (b : Int) (h0 : 0 ≤ x) (h1 : x < 4294967296) : ∃ st', Go.Ai.call cx ovy4 1000 52 [.agg #[.int .u32 x, .int .i64 b]] ⟨keepIds st0.hp [], st0.ct⟩ = some (.bool (mayF x b), st') := by
  cases b0 : (Decidable.decide (b ≥ (0 : Int)))
  ·
    have c0 := of_decide_eq_false b0
    obtain ⟨st', h⟩ := F52_p1 x b ⟨b0, b0, b0, b0, trivial⟩
    exact ⟨st', h.trans (congrArg (fun v => some (v, st')) (by refine congrArg Value.bool ?_; unfold mayF clampF; rw [if_pos (by omega)]; have : (b == (0 : Int)) = false := beq_eq_false_iff_ne.2 (by omega); rw [this]; simp))⟩
  ·
    have c0 := of_decide_eq_true b0
    cases b1 : (Decidable.decide (b ≤ (32 : Int)))
    ·
      have c1 := of_decide_eq_false b1
      obtain ⟨st', h⟩ := F52_p2 x b ⟨b1, b1, b1, b1, b1, b1, b1, b1, b0, b0, b0, b0, trivial⟩
      exact ⟨st', h.trans (congrArg (fun v => some (v, st')) (by refine congrArg Value.bool ?_; unfold mayF clampF; rw [if_neg (by omega), if_pos (by omega)]; have : (b == (32 : Int)) = false := beq_eq_false_iff_ne.2 (by omega); rw [this]; simp))⟩
    ·
      have c1 := of_decide_eq_true b1
      obtain ⟨st', h⟩ := F52_p0 x b ⟨b1, b1, (by first | exact ⟨_, _, rfl, h0, h1⟩ | (simp [beqV, beqVA, beqVL]; done)), b1, (by first | exact ⟨_, _, rfl, h0, h1⟩ | (simp [beqV, beqVA, beqVL]; done)), b1, b1, b1, b1, b1, b0, b0, b0, b0, trivial⟩
      exact ⟨st', h.trans (congrArg (fun v => some (v, st')) (by refine congrArg Value.bool ?_; unfold mayF; rw [Bool.beq_comm (a := x), Bool.beq_comm (a := b)]))⟩
def CM : FC := ⟨52, fun l => ∃ x b, l = [.agg #[.int .u32 x, .int .i64 b]] ∧ 0 ≤ x ∧ x < 4294967296, fun l => match l with | [.agg ⟨[.int _ x, .int _ b]⟩] => .bool (mayF x b) | _ => undef, []⟩
theorem CM_good : CM.Good Tryd.prog ovy4 st0 := ⟨by kernel_rfl, fun args ⟨x, b, e, h0, h1⟩ => by subst e; exact ⟨rfl, rfl, 1000, F52_all x b h0 h1⟩⟩
noncomputable def ovy5 : Ov := ovWith st0 [CM] [] ovy4
noncomputable def ovOy5 : OvO := ovOWith st0 [CM] [] ovOy4
theorem refy5 : OvRef ovy5 ovOy5 := ovWith_ref refy4
theorem ovy5_ok : OvOk Tryd.prog ovy5 ∧ OvMono ovy5 ∧ OvIds ovy5 :=
  ⟨ovWith_ok Tryd.checked.mixed ovy4_ok.1 ovy4_ok.2.1 ovy4_ok.2.2 ng_st0 (fun C h => by simp at h; rcases h with rfl; exact CM_good) (fun x h => by cases h),
   ovWith_mono ovy4_ok.2.1 (fun x h => by cases h), ovWith_ids ovy4_ok.2.2⟩
end Go.Proofs.YtgmojlibppmfhaaDoor

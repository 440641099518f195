/- Runs of the abstract interpreter, part 13: by an AI agent. -/
import Derived.Test.YtgmojlibppmfhaaGreatDoorPart12

namespace Go.Proofs.YtgmojlibppmfhaaGreatDoor
open Go Go.Ai
theorem F6_p0 (x : Int) (b : Int) (h : Holds [(Decidable.decide (b ≤ (32 : Int))) = true, (Decidable.decide (b ≤ (32 : Int))) = true, Go.Ai.beqV (Go.Value.agg { toList := [Go.Value.int Go.IntKind.u32 x, Go.Value.int Go.IntKind.i64 b] }) (Go.Value.agg { toList := [Go.Value.int Go.IntKind.u32 x, Go.Value.int Go.IntKind.i64 b] }) = Bool.true, (Decidable.decide (b ≤ (32 : Int))) = true, Go.Proofs.YtgmojlibppmfhaaGreatDoor.CO.pre [Go.Value.int Go.IntKind.u32 x, Go.Value.int Go.IntKind.i64 b], (Decidable.decide (b ≤ (32 : Int))) = true, (Decidable.decide (b ≤ (32 : Int))) = true, (Decidable.decide (b ≤ (32 : Int))) = true, (Decidable.decide (b ≤ (32 : Int))) = true, (Decidable.decide (b ≤ (32 : Int))) = true, (Decidable.decide (b ≥ (0 : Int))) = true, (Decidable.decide (b ≥ (0 : Int))) = true, (Decidable.decide (b ≥ (0 : Int))) = true, (Decidable.decide (b ≥ (0 : Int))) = true]) : ∃ st', Go.Ai.call cx ovr4 1000 6 [.agg #[.int .u32 x, .int .i64 b]] ⟨keepIds st0.hp [], st0.ct⟩ = some (Go.Value.bool (Go.Proofs.YtgmojlibppmfhaaGreatDoor.flF x (Go.Proofs.YtgmojlibppmfhaaGreatDoor.clampF b) == x && (Go.Proofs.YtgmojlibppmfhaaGreatDoor.clampF b == b && Bool.true)), st') :=
  path_call refr4 (toks := [.ev, .yes, .yes, .ev, .yes, .yes, .yes, .yes, .ev, .yes, .yes, .ev, .yes, .yes, .ev, .ev, .yes, .yes]) (by kernel_rfl) h
theorem F6_p1 (x : Int) (b : Int) (h : Holds [(Decidable.decide (b ≥ (0 : Int))) = false, (Decidable.decide (b ≥ (0 : Int))) = false, (Decidable.decide (b ≥ (0 : Int))) = false, (Decidable.decide (b ≥ (0 : Int))) = false]) : ∃ st', Go.Ai.call cx ovr4 1000 6 [.agg #[.int .u32 x, .int .i64 b]] ⟨keepIds st0.hp [], st0.ct⟩ = some (Go.Value.bool Bool.false, st') :=
  path_call refr4 (toks := [.ev, .no, .no, .no, .no, .ev, .ev, .ev, .ev, .ev, .ev, .ev, .ev]) (by kernel_rfl) h
theorem F6_p2 (x : Int) (b : Int) (h : Holds [(Decidable.decide (b ≤ (32 : Int))) = false, (Decidable.decide (b ≤ (32 : Int))) = false, (Decidable.decide (b ≤ (32 : Int))) = false, (Decidable.decide (b ≤ (32 : Int))) = false, (Decidable.decide (b ≤ (32 : Int))) = false, (Decidable.decide (b ≤ (32 : Int))) = false, (Decidable.decide (b ≤ (32 : Int))) = false, (Decidable.decide (b ≤ (32 : Int))) = false, (Decidable.decide (b ≥ (0 : Int))) = true, (Decidable.decide (b ≥ (0 : Int))) = true, (Decidable.decide (b ≥ (0 : Int))) = true, (Decidable.decide (b ≥ (0 : Int))) = true]) : ∃ st', Go.Ai.call cx ovr4 1000 6 [.agg #[.int .u32 x, .int .i64 b]] ⟨keepIds st0.hp [], st0.ct⟩ = some (Go.Value.bool Bool.false, st') :=
  path_call refr4 (toks := [.ev, .yes, .yes, .ev, .yes, .yes, .no, .no, .no, .no, .no, .no, .no, .no]) (by kernel_rfl) h
set_option maxHeartbeats 4000000 in
theorem F6_all (x : Int) (b : Int) (h0 : 0 ≤ x) (h1 : x < 4294967296) : ∃ st', Go.Ai.call cx ovr4 1000 6 [.agg #[.int .u32 x, .int .i64 b]] ⟨keepIds st0.hp [], st0.ct⟩ = some (.bool (mayF x b), st') := by
  cases b0 : (Decidable.decide (b ≥ (0 : Int)))
  ·
    have c0 := of_decide_eq_false b0
    obtain ⟨st', h⟩ := F6_p1 x b ⟨b0, b0, b0, b0, trivial⟩
    exact ⟨st', h.trans (congrArg (fun v => some (v, st')) (by refine congrArg Value.bool ?_; unfold mayF clampF; rw [if_pos (by omega)]; have : (b == (0 : Int)) = false := beq_eq_false_iff_ne.2 (by omega); rw [this]; simp))⟩
  ·
    have c0 := of_decide_eq_true b0
    cases b1 : (Decidable.decide (b ≤ (32 : Int)))
    ·
      have c1 := of_decide_eq_false b1
      obtain ⟨st', h⟩ := F6_p2 x b ⟨b1, b1, b1, b1, b1, b1, b1, b1, b0, b0, b0, b0, trivial⟩
      exact ⟨st', h.trans (congrArg (fun v => some (v, st')) (by refine congrArg Value.bool ?_; unfold mayF clampF; rw [if_neg (by omega), if_pos (by omega)]; have : (b == (32 : Int)) = false := beq_eq_false_iff_ne.2 (by omega); rw [this]; simp))⟩
    ·
      have c1 := of_decide_eq_true b1
      obtain ⟨st', h⟩ := F6_p0 x b ⟨b1, b1, (by first | exact ⟨_, _, rfl, h0, h1⟩ | (simp [beqV, beqVA, beqVL]; done)), b1, (by first | exact ⟨_, _, rfl, h0, h1⟩ | (simp [beqV, beqVA, beqVL]; done)), b1, b1, b1, b1, b1, b0, b0, b0, b0, trivial⟩
      exact ⟨st', h.trans (congrArg (fun v => some (v, st')) (by refine congrArg Value.bool ?_; unfold mayF; rw [Bool.beq_comm (a := x), Bool.beq_comm (a := b)]))⟩
theorem F11_p0 (x : Int) (b : Int) (y : Int) (c : Int) (h : Holds [(x == y && (b == c && Bool.true)) = true]) : ∃ st', Go.Ai.call cx ovr4 1000 11 [.agg #[.int .u32 x, .int .i64 b], .agg #[.int .u32 y, .int .i64 c]] ⟨keepIds st0.hp [], st0.ct⟩ = some (Go.Value.int Go.IntKind.i64 (0 : Int), st') :=
  path_call refr4 (toks := [.ev, .ev, .yes]) (by kernel_rfl) h
theorem F11_p1 (x : Int) (b : Int) (y : Int) (c : Int) (h : Holds [(Decidable.decide (x < y)) = true, (Decidable.decide (x < y)) = true, (Decidable.decide (x < y)) = true, (Decidable.decide (x < y)) = true, (Decidable.decide (x < y)) = true, (Decidable.decide (x < y)) = true, (Decidable.decide (x < y)) = true, (Decidable.decide (x < y)) = true, (x == y && (b == c && Bool.true)) = false]) : ∃ st', Go.Ai.call cx ovr4 1000 11 [.agg #[.int .u32 x, .int .i64 b], .agg #[.int .u32 y, .int .i64 c]] ⟨keepIds st0.hp [], st0.ct⟩ = some (Go.Value.int Go.IntKind.i64 (-1 : Int), st') :=
  path_call refr4 (toks := [.ev, .ev, .no, .ev, .ev, .yes, .yes, .yes, .yes, .yes, .yes, .yes, .yes, .ev]) (by kernel_rfl) h
theorem F11_p2 (x : Int) (b : Int) (y : Int) (c : Int) (h : Holds [(Decidable.decide (b < c)) = true, (Decidable.decide (x < y)) = false, (x == y) = true, (Decidable.decide (x < y)) = false, (x == y) = true, (x == y) = true, (x == y) = true, (x == y) = true, (x == y) = true, (Decidable.decide (x < y)) = false, (Decidable.decide (x < y)) = false, (Decidable.decide (x < y)) = false, (Decidable.decide (x < y)) = false, (Decidable.decide (x < y)) = false, (Decidable.decide (x < y)) = false, (x == y && (b == c && Bool.true)) = false]) : ∃ st', Go.Ai.call cx ovr4 1000 11 [.agg #[.int .u32 x, .int .i64 b], .agg #[.int .u32 y, .int .i64 c]] ⟨keepIds st0.hp [], st0.ct⟩ = some (Go.Value.int Go.IntKind.i64 (-1 : Int), st') :=
  path_call refr4 (toks := [.ev, .ev, .no, .ev, .ev, .no, .no, .ev, .no, .no, .ev, .no, .no, .yes, .yes, .ev, .yes, .yes, .ev, .yes, .no, .yes, .no, .yes]) (by kernel_rfl) h
theorem F11_p3 (x : Int) (b : Int) (y : Int) (c : Int) (h : Holds [(Decidable.decide (b < c)) = false, (Decidable.decide (x < y)) = false, (x == y) = true, (Decidable.decide (x < y)) = false, (x == y) = true, (x == y) = true, (x == y) = true, (x == y) = true, (x == y) = true, (Decidable.decide (x < y)) = false, (Decidable.decide (x < y)) = false, (Decidable.decide (x < y)) = false, (Decidable.decide (x < y)) = false, (Decidable.decide (x < y)) = false, (Decidable.decide (x < y)) = false, (x == y && (b == c && Bool.true)) = false]) : ∃ st', Go.Ai.call cx ovr4 1000 11 [.agg #[.int .u32 x, .int .i64 b], .agg #[.int .u32 y, .int .i64 c]] ⟨keepIds st0.hp [], st0.ct⟩ = some (Go.Value.int Go.IntKind.i64 (1 : Int), st') :=
  path_call refr4 (toks := [.ev, .ev, .no, .ev, .ev, .no, .no, .ev, .no, .no, .ev, .no, .no, .yes, .yes, .ev, .yes, .yes, .ev, .yes, .no, .yes, .no, .no]) (by kernel_rfl) h
theorem F11_p4 (x : Int) (b : Int) (y : Int) (c : Int) (h : Holds [(Decidable.decide (x < y)) = false, (x == y) = false, (Decidable.decide (x < y)) = false, (x == y) = false, (x == y) = false, (x == y) = false, (x == y) = false, (x == y) = false, (Decidable.decide (x < y)) = false, (Decidable.decide (x < y)) = false, (Decidable.decide (x < y)) = false, (Decidable.decide (x < y)) = false, (Decidable.decide (x < y)) = false, (Decidable.decide (x < y)) = false, (x == y && (b == c && Bool.true)) = false]) : ∃ st', Go.Ai.call cx ovr4 1000 11 [.agg #[.int .u32 x, .int .i64 b], .agg #[.int .u32 y, .int .i64 c]] ⟨keepIds st0.hp [], st0.ct⟩ = some (Go.Value.int Go.IntKind.i64 (1 : Int), st') :=
  path_call refr4 (toks := [.ev, .ev, .no, .ev, .ev, .no, .no, .ev, .no, .no, .ev, .no, .no, .no, .no, .no, .no, .no, .no, .no, .no, .ev]) (by kernel_rfl) h
set_option maxHeartbeats 4000000 in
theorem F11_all (x : Int) (b : Int) (y : Int) (c : Int)  : ∃ st', Go.Ai.call cx ovr4 1000 11 [.agg #[.int .u32 x, .int .i64 b], .agg #[.int .u32 y, .int .i64 c]] ⟨keepIds st0.hp [], st0.ct⟩ = some (.int .i64 (cmpF x b y c), st') := by
  cases b0 : (x == y && (b == c && Bool.true))
  ·
    cases b1 : (Decidable.decide (x < y))
    ·
      have c1 := of_decide_eq_false b1
      cases b2 : (x == y)
      ·
        first | have c2 := int_beq_false b2 | skip
        obtain ⟨st', h⟩ := F11_p4 x b y c ⟨b1, b2, b1, b2, b2, b2, b2, b2, b1, b1, b1, b1, b1, b1, b0, trivial⟩
        exact ⟨st', h.trans (congrArg (fun v => some (v, st')) (by refine congrArg (Value.int .i64) ?_; have q := b0; simp at q; unfold cmpF; repeat' split <;> omega))⟩
      ·
        first | have c2 := int_beq_true b2 | skip
        cases b3 : (Decidable.decide (b < c))
        ·
          have c3 := of_decide_eq_false b3
          obtain ⟨st', h⟩ := F11_p3 x b y c ⟨b3, b1, b2, b1, b2, b2, b2, b2, b2, b1, b1, b1, b1, b1, b1, b0, trivial⟩
          exact ⟨st', h.trans (congrArg (fun v => some (v, st')) (by refine congrArg (Value.int .i64) ?_; have q := b0; simp at q; unfold cmpF; repeat' split <;> omega))⟩
        ·
          have c3 := of_decide_eq_true b3
          obtain ⟨st', h⟩ := F11_p2 x b y c ⟨b3, b1, b2, b1, b2, b2, b2, b2, b2, b1, b1, b1, b1, b1, b1, b0, trivial⟩
          exact ⟨st', h.trans (congrArg (fun v => some (v, st')) (by refine congrArg (Value.int .i64) ?_; have q := b0; simp at q; unfold cmpF; repeat' split <;> omega))⟩
    ·
      have c1 := of_decide_eq_true b1
      obtain ⟨st', h⟩ := F11_p1 x b y c ⟨b1, b1, b1, b1, b1, b1, b1, b1, b0, trivial⟩
      exact ⟨st', h.trans (congrArg (fun v => some (v, st')) (by refine congrArg (Value.int .i64) ?_; have q := b0; simp at q; unfold cmpF; repeat' split <;> omega))⟩
  ·
    obtain ⟨st', h⟩ := F11_p0 x b y c ⟨b0, trivial⟩
    exact ⟨st', h.trans (congrArg (fun v => some (v, st')) (by refine congrArg (Value.int .i64) ?_; have q := b0; simp at q; unfold cmpF; repeat' split <;> omega))⟩
def CM : FC := ⟨6, fun l => ∃ x b, l = [.agg #[.int .u32 x, .int .i64 b]] ∧ 0 ≤ x ∧ x < 4294967296, fun l => match l with | [.agg ⟨[.int _ x, .int _ b]⟩] => .bool (mayF x b) | _ => undef, []⟩
theorem CM_good : CM.Good Tryz.prog ovr4 st0 := ⟨by kernel_rfl, fun args ⟨x, b, e, h0, h1⟩ => by subst e; exact ⟨rfl, rfl, 1000, F6_all x b h0 h1⟩⟩
def CC : FC := ⟨11, fun l => ∃ x b y c, l = [.agg #[.int .u32 x, .int .i64 b], .agg #[.int .u32 y, .int .i64 c]], fun l => match l with | [.agg ⟨[.int _ x, .int _ b]⟩, .agg ⟨[.int _ y, .int _ c]⟩] => .int .i64 (cmpF x b y c) | _ => undef, []⟩
theorem CC_good : CC.Good Tryz.prog ovr4 st0 := ⟨by kernel_rfl, fun args ⟨x, b, y, c, e⟩ => by subst e; exact ⟨rfl, rfl, 1000, F11_all x b y c⟩⟩
noncomputable def ovr5 : Ov := ovWith st0 [CM, CC] [] ovr4
noncomputable def ovOr5 : OvO := ovOWith st0 [CM, CC] [] ovOr4
theorem refr5 : OvRef ovr5 ovOr5 := ovWith_ref refr4
theorem ovr5_ok : OvOk Tryz.prog ovr5 ∧ OvMono ovr5 ∧ OvIds ovr5 :=
  ⟨ovWith_ok Tryz.checked.mixed ovr4_ok.1 ovr4_ok.2.1 ovr4_ok.2.2 ng_st0 (fun C h => by simp at h; rcases h with rfl | rfl; exact CM_good; exact CC_good) (fun x h => by cases h),
   ovWith_mono ovr4_ok.2.1 (fun x h => by cases h), ovWith_ids ovr4_ok.2.2⟩
end Go.Proofs.YtgmojlibppmfhaaGreatDoor

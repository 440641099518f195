/- Runs of the abstract interpreter, part 16: by an AI agent. -/
import Derived.Test.YtgmojlibppmfhaaGreatDoorPart15

namespace Go.Proofs.YtgmojlibppmfhaaGreatDoor
open Go Go.Ai
theorem F15_p0 (x : Int) (b : Int) (y : Int) (c : Int) (h : Holds [(Decidable.decide (b ≤ c)) = true, Go.Proofs.YtgmojlibppmfhaaGreatDoor.CH.pre [Go.Value.agg { toList := [Go.Value.int Go.IntKind.u32 x, Go.Value.int Go.IntKind.i64 b] }, Go.Value.int Go.IntKind.u32 y], (Decidable.decide (b ≤ c)) = true, (Decidable.decide (b ≤ c)) = true, (Decidable.decide (b ≤ c)) = true, (Decidable.decide (b ≤ c)) = true, (Go.Proofs.YtgmojlibppmfhaaGreatDoor.mayF y c) = true, (Go.Proofs.YtgmojlibppmfhaaGreatDoor.mayF y c) = true, (Go.Proofs.YtgmojlibppmfhaaGreatDoor.mayF y c) = true, (Go.Proofs.YtgmojlibppmfhaaGreatDoor.mayF y c) = true, (Go.Proofs.YtgmojlibppmfhaaGreatDoor.mayF y c) = true, (Go.Proofs.YtgmojlibppmfhaaGreatDoor.mayF y c) = true, Go.Proofs.YtgmojlibppmfhaaGreatDoor.CM.pre [Go.Value.agg { toList := [Go.Value.int Go.IntKind.u32 y, Go.Value.int Go.IntKind.i64 c] }]]) : ∃ st', Go.Ai.call cx ovr6 1000 15 [.agg #[.int .u32 x, .int .i64 b], .agg #[.int .u32 y, .int .i64 c]] ⟨keepIds st0.hp [], st0.ct⟩ = some (Go.Value.bool (Go.Proofs.YtgmojlibppmfhaaGreatDoor.hasF x b y), st') :=
  path_call refr6 (toks := [.ev, .yes, .yes, .ev, .yes, .yes, .ev, .yes, .yes, .yes, .ev, .yes, .yes, .ev, .yes, .yes]) (by kernel_rfl) h
theorem F15_p1 (x : Int) (b : Int) (y : Int) (c : Int) (h : Holds [(Decidable.decide (b ≤ c)) = false, (Decidable.decide (b ≤ c)) = false, (Decidable.decide (b ≤ c)) = false, (Decidable.decide (b ≤ c)) = false, (Decidable.decide (b ≤ c)) = false, (Go.Proofs.YtgmojlibppmfhaaGreatDoor.mayF y c) = true, (Go.Proofs.YtgmojlibppmfhaaGreatDoor.mayF y c) = true, (Go.Proofs.YtgmojlibppmfhaaGreatDoor.mayF y c) = true, (Go.Proofs.YtgmojlibppmfhaaGreatDoor.mayF y c) = true, (Go.Proofs.YtgmojlibppmfhaaGreatDoor.mayF y c) = true, (Go.Proofs.YtgmojlibppmfhaaGreatDoor.mayF y c) = true, Go.Proofs.YtgmojlibppmfhaaGreatDoor.CM.pre [Go.Value.agg { toList := [Go.Value.int Go.IntKind.u32 y, Go.Value.int Go.IntKind.i64 c] }]]) : ∃ st', Go.Ai.call cx ovr6 1000 15 [.agg #[.int .u32 x, .int .i64 b], .agg #[.int .u32 y, .int .i64 c]] ⟨keepIds st0.hp [], st0.ct⟩ = some (Go.Value.bool Bool.false, st') :=
  path_call refr6 (toks := [.ev, .yes, .yes, .ev, .yes, .yes, .ev, .yes, .yes, .no, .no, .no, .no, .no]) (by kernel_rfl) h
theorem F15_p2 (x : Int) (b : Int) (y : Int) (c : Int) (h : Holds [(Go.Proofs.YtgmojlibppmfhaaGreatDoor.mayF y c) = false, (Go.Proofs.YtgmojlibppmfhaaGreatDoor.mayF y c) = false, (Go.Proofs.YtgmojlibppmfhaaGreatDoor.mayF y c) = false, (Go.Proofs.YtgmojlibppmfhaaGreatDoor.mayF y c) = false, (Go.Proofs.YtgmojlibppmfhaaGreatDoor.mayF y c) = false, (Go.Proofs.YtgmojlibppmfhaaGreatDoor.mayF y c) = false, Go.Proofs.YtgmojlibppmfhaaGreatDoor.CM.pre [Go.Value.agg { toList := [Go.Value.int Go.IntKind.u32 y, Go.Value.int Go.IntKind.i64 c] }]]) : ∃ st', Go.Ai.call cx ovr6 1000 15 [.agg #[.int .u32 x, .int .i64 b], .agg #[.int .u32 y, .int .i64 c]] ⟨keepIds st0.hp [], st0.ct⟩ = some (Go.Value.bool Bool.false, st') :=
  path_call refr6 (toks := [.ev, .no, .no, .no, .no, .no, .no, .ev, .ev, .ev, .ev, .ev]) (by kernel_rfl) h
set_option maxHeartbeats 4000000 in
theorem F15_all (x : Int) (b : Int) (y : Int) (c : Int) (h0 : 0 ≤ x) (h1 : x < 4294967296) (h2 : 0 ≤ y) (h3 : y < 4294967296) : ∃ st', Go.Ai.call cx ovr6 1000 15 [.agg #[.int .u32 x, .int .i64 b], .agg #[.int .u32 y, .int .i64 c]] ⟨keepIds st0.hp [], st0.ct⟩ = some (.bool (contF x b y c), st') := by
  cases b0 : (Go.Proofs.YtgmojlibppmfhaaGreatDoor.mayF y c)
  ·
    obtain ⟨st', h⟩ := F15_p2 x b y c ⟨b0, b0, b0, b0, b0, b0, (by first | exact ⟨_, _, rfl, by omega, by omega⟩ | (simp [beqV, beqVA, beqVL]; done) | exact ⟨_, _, _, rfl, h0, h1, h2, h3⟩), trivial⟩
    exact ⟨st', h.trans (congrArg (fun v => some (v, st')) (by refine congrArg Value.bool ?_; unfold contF; rw [show mayF y c = false from b0]; rfl))⟩
  ·
    cases b1 : (Decidable.decide (b ≤ c))
    ·
      have c1 := of_decide_eq_false b1
      obtain ⟨st', h⟩ := F15_p1 x b y c ⟨b1, b1, b1, b1, b1, b0, b0, b0, b0, b0, b0, (by first | exact ⟨_, _, rfl, by omega, by omega⟩ | (simp [beqV, beqVA, beqVL]; done) | exact ⟨_, _, _, rfl, h0, h1, h2, h3⟩), trivial⟩
      exact ⟨st', h.trans (congrArg (fun v => some (v, st')) (by refine congrArg Value.bool ?_; unfold contF; rw [show mayF y c = true from b0, show decide (b ≤ c) = false from b1]; rfl))⟩
    ·
      have c1 := of_decide_eq_true b1
      obtain ⟨st', h⟩ := F15_p0 x b y c ⟨b1, (by first | exact ⟨_, _, rfl, by omega, by omega⟩ | (simp [beqV, beqVA, beqVL]; done) | exact ⟨_, _, _, rfl, h0, h1, h2, h3⟩), b1, b1, b1, b1, b0, b0, b0, b0, b0, b0, (by first | exact ⟨_, _, rfl, by omega, by omega⟩ | (simp [beqV, beqVA, beqVL]; done) | exact ⟨_, _, _, rfl, h0, h1, h2, h3⟩), trivial⟩
      exact ⟨st', h.trans (congrArg (fun v => some (v, st')) (by refine congrArg Value.bool ?_; unfold contF; rw [show mayF y c = true from b0, show decide (b ≤ c) = true from b1]; rfl))⟩
def CK : FC := ⟨15, fun l => ∃ x b y c, l = [.agg #[.int .u32 x, .int .i64 b], .agg #[.int .u32 y, .int .i64 c]] ∧ 0 ≤ x ∧ x < 4294967296 ∧ 0 ≤ y ∧ y < 4294967296, fun l => match l with | [.agg ⟨[.int _ x, .int _ b]⟩, .agg ⟨[.int _ y, .int _ c]⟩] => .bool (contF x b y c) | _ => undef, []⟩
theorem CK_good : CK.Good Tryz.prog ovr6 st0 := ⟨by kernel_rfl, fun args ⟨x, b, y, c, e, h0, h1, h2, h3⟩ => by subst e; exact ⟨rfl, rfl, 1000, F15_all x b y c h0 h1 h2 h3⟩⟩
noncomputable def ovr7 : Ov := ovWith st0 [CK] [] ovr6
noncomputable def ovOr7 : OvO := ovOWith st0 [CK] [] ovOr6
theorem refr7 : OvRef ovr7 ovOr7 := ovWith_ref refr6
theorem ovr7_ok : OvOk Tryz.prog ovr7 ∧ OvMono ovr7 ∧ OvIds ovr7 :=
  ⟨ovWith_ok Tryz.checked.mixed ovr6_ok.1 ovr6_ok.2.1 ovr6_ok.2.2 ng_st0 (fun C h => by simp at h; rcases h with rfl; exact CK_good) (fun x h => by cases h),
   ovWith_mono ovr6_ok.2.1 (fun x h => by cases h), ovWith_ids ovr6_ok.2.2⟩
end Go.Proofs.YtgmojlibppmfhaaGreatDoor

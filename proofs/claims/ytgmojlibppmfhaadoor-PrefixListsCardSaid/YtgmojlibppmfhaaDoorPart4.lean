/- Runs of the abstract interpreter, part 4: by an AI agent. -/
import Derived.Test.YtgmojlibppmfhaaDoorPart3

namespace Go.Proofs.YtgmojlibppmfhaaDoor
open Go Go.Ai
theorem F61_p0 (b : Int) (h : Holds [(Decidable.decide ((0 : Int) ≤ (4294967295 : Int) * (2 : Int) ^ Min.min ((32 : Int) - b).toNat (64 : Nat) ∧ (4294967295 : Int) * (2 : Int) ^ Min.min ((32 : Int) - b).toNat (64 : Nat) ≤ (4294967295 : Int))) = false, (Decidable.decide ((0 : Int) ≤ (4294967295 : Int) * (2 : Int) ^ Min.min ((32 : Int) - b).toNat (64 : Nat) ∧ (4294967295 : Int) * (2 : Int) ^ Min.min ((32 : Int) - b).toNat (64 : Nat) ≤ (18446744073709551615 : Int))) = true, (Decidable.decide ((32 : Int) - b < (0 : Int))) = false, (Decidable.decide ((-9223372036854775808 : Int) ≤ (32 : Int) - b ∧ (32 : Int) - b ≤ (9223372036854775807 : Int))) = true]) : ∃ st', Go.Ai.call cx ov0 1000 61 [.int .i64 b] ⟨keepIds st0.hp [], st0.ct⟩ = some (Go.Value.int Go.IntKind.u32 (Go.IntKind.u32.wrap ((4294967295 : Int) * (2 : Int) ^ Min.min ((32 : Int) - b).toNat (64 : Nat))), st') :=
  path_call refc0 (toks := [.yes, .no, .yes, .no]) (by kernel_rfl) h
theorem F61_p1 (b : Int) (h : Holds [(Decidable.decide ((0 : Int) ≤ (4294967295 : Int) * (2 : Int) ^ Min.min ((32 : Int) - b).toNat (64 : Nat) ∧ (4294967295 : Int) * (2 : Int) ^ Min.min ((32 : Int) - b).toNat (64 : Nat) ≤ (4294967295 : Int))) = true, (Decidable.decide ((0 : Int) ≤ (4294967295 : Int) * (2 : Int) ^ Min.min ((32 : Int) - b).toNat (64 : Nat) ∧ (4294967295 : Int) * (2 : Int) ^ Min.min ((32 : Int) - b).toNat (64 : Nat) ≤ (18446744073709551615 : Int))) = true, (Decidable.decide ((32 : Int) - b < (0 : Int))) = false, (Decidable.decide ((-9223372036854775808 : Int) ≤ (32 : Int) - b ∧ (32 : Int) - b ≤ (9223372036854775807 : Int))) = true]) : ∃ st', Go.Ai.call cx ov0 1000 61 [.int .i64 b] ⟨keepIds st0.hp [], st0.ct⟩ = some (Go.Value.int Go.IntKind.u32 ((4294967295 : Int) * (2 : Int) ^ Min.min ((32 : Int) - b).toNat (64 : Nat)), st') :=
  path_call refc0 (toks := [.yes, .no, .yes, .yes]) (by kernel_rfl) h
set_option maxHeartbeats 4000000 in
theorem F61_all (b : Int) (h0 : 0 ≤ b) (h1 : b ≤ 32) : ∃ st', Go.Ai.call cx ov0 1000 61 [.int .i64 b] ⟨keepIds st0.hp [], st0.ct⟩ = some (.int .u32 (maskF b), st') := by
  have e := min_eq b h0 h1; have hp := pw_pos b; have hl := pw_le b h0 h1
  cases b0 : (Decidable.decide ((-9223372036854775808 : Int) ≤ (32 : Int) - b ∧ (32 : Int) - b ≤ (9223372036854775807 : Int)))
  ·
    have c0 := of_decide_eq_false b0
    (exfalso; omega)
  ·
    have c0 := of_decide_eq_true b0
    cases b1 : (Decidable.decide ((32 : Int) - b < (0 : Int)))
    ·
      have c1 := of_decide_eq_false b1
      cases b2 : (Decidable.decide ((0 : Int) ≤ (4294967295 : Int) * (2 : Int) ^ Min.min ((32 : Int) - b).toNat (64 : Nat) ∧ (4294967295 : Int) * (2 : Int) ^ Min.min ((32 : Int) - b).toNat (64 : Nat) ≤ (18446744073709551615 : Int)))
      ·
        have c2 := of_decide_eq_false b2
        (exfalso; omega)
      ·
        have c2 := of_decide_eq_true b2
        cases b3 : (Decidable.decide ((0 : Int) ≤ (4294967295 : Int) * (2 : Int) ^ Min.min ((32 : Int) - b).toNat (64 : Nat) ∧ (4294967295 : Int) * (2 : Int) ^ Min.min ((32 : Int) - b).toNat (64 : Nat) ≤ (4294967295 : Int)))
        ·
          have c3 := of_decide_eq_false b3
          obtain ⟨st', h⟩ := F61_p0 b ⟨b3, b2, b1, b0, trivial⟩
          exact ⟨st', h.trans (congrArg (fun v => some (v, st')) (by rw [e, wrap_mask b h0 h1]))⟩
        ·
          have c3 := of_decide_eq_true b3
          obtain ⟨st', h⟩ := F61_p1 b ⟨b3, b2, b1, b0, trivial⟩
          exact ⟨st', h.trans (congrArg (fun v => some (v, st')) (by rw [e]; refine congrArg (Value.int .u32) ?_; unfold maskF; omega))⟩
    ·
      have c1 := of_decide_eq_true b1
      (exfalso; omega)
set_option maxHeartbeats 4000000 in
set_option maxHeartbeats 4000000 in
def C61 : FC := ⟨61, fun l => ∃ b, l = [.int .i64 b] ∧ 0 ≤ b ∧ b ≤ 32, fun l => match l with | [.int _ b] => .int .u32 (maskF b) | _ => undef, []⟩
theorem C61_good : C61.Good Tryd.prog ov0 st0 := ⟨by kernel_rfl, fun args ⟨b, e, h0, h1⟩ => by subst e; exact ⟨rfl, rfl, 1000, F61_all b h0 h1⟩⟩
noncomputable def ovp1 : Ov := ovWith st0 [C61] [] ov0
noncomputable def ovOp1 : OvO := ovOWith st0 [C61] [] ovONone
theorem refp1 : OvRef ovp1 ovOp1 := ovWith_ref refc0
theorem ovp1_ok : OvOk Tryd.prog ovp1 ∧ OvMono ovp1 ∧ OvIds ovp1 :=
  ⟨ovWith_ok Tryd.checked.mixed ov0_ok.1 ov0_ok.2.1 ov0_ok.2.2 ngc_st0 (fun C h => by simp at h; subst h; exact C61_good) (fun x h => by cases h),
   ovWith_mono ov0_ok.2.1 (fun x h => by cases h), ovWith_ids ov0_ok.2.2⟩
end Go.Proofs.YtgmojlibppmfhaaDoor

/- Runs of the abstract interpreter, part 4: by an AI agent. -/
import Derived.Test.YtgmojlibppmfhaaGreatDoorPart3

namespace Go.Proofs.YtgmojlibppmfhaaGreatDoor
open Go Go.Ai
theorem F61_p0 (b : Int) (h : Holds [(Decidable.decide ((0 : Int) ≤ (4294967295 : Int) * (2 : Int) ^ Min.min ((32 : Int) - b).toNat (64 : Nat) ∧ (4294967295 : Int) * (2 : Int) ^ Min.min ((32 : Int) - b).toNat (64 : Nat) ≤ (4294967295 : Int))) = false, (Decidable.decide ((0 : Int) ≤ (4294967295 : Int) * (2 : Int) ^ Min.min ((32 : Int) - b).toNat (64 : Nat) ∧ (4294967295 : Int) * (2 : Int) ^ Min.min ((32 : Int) - b).toNat (64 : Nat) ≤ (18446744073709551615 : Int))) = true, (Decidable.decide ((32 : Int) - b < (0 : Int))) = false, (Decidable.decide ((-9223372036854775808 : Int) ≤ (32 : Int) - b ∧ (32 : Int) - b ≤ (9223372036854775807 : Int))) = true]) : ∃ st', Go.Ai.call cx ov0 1000 28 [.int .i64 b] ⟨keepIds st0.hp [], st0.ct⟩ = some (Go.Value.int Go.IntKind.u32 (Go.IntKind.u32.wrap ((4294967295 : Int) * (2 : Int) ^ Min.min ((32 : Int) - b).toNat (64 : Nat))), st') :=
  path_call ref0 (toks := [.yes, .no, .yes, .no]) (by kernel_rfl) h
theorem F61_p1 (b : Int) (h : Holds [(Decidable.decide ((0 : Int) ≤ (4294967295 : Int) * (2 : Int) ^ Min.min ((32 : Int) - b).toNat (64 : Nat) ∧ (4294967295 : Int) * (2 : Int) ^ Min.min ((32 : Int) - b).toNat (64 : Nat) ≤ (4294967295 : Int))) = true, (Decidable.decide ((0 : Int) ≤ (4294967295 : Int) * (2 : Int) ^ Min.min ((32 : Int) - b).toNat (64 : Nat) ∧ (4294967295 : Int) * (2 : Int) ^ Min.min ((32 : Int) - b).toNat (64 : Nat) ≤ (18446744073709551615 : Int))) = true, (Decidable.decide ((32 : Int) - b < (0 : Int))) = false, (Decidable.decide ((-9223372036854775808 : Int) ≤ (32 : Int) - b ∧ (32 : Int) - b ≤ (9223372036854775807 : Int))) = true]) : ∃ st', Go.Ai.call cx ov0 1000 28 [.int .i64 b] ⟨keepIds st0.hp [], st0.ct⟩ = some (Go.Value.int Go.IntKind.u32 ((4294967295 : Int) * (2 : Int) ^ Min.min ((32 : Int) - b).toNat (64 : Nat)), st') :=
  path_call ref0 (toks := [.yes, .no, .yes, .yes]) (by kernel_rfl) h
set_option maxHeartbeats 4000000 in
theorem F61_all (b : Int) (h0 : 0 ≤ b) (h1 : b ≤ 32) : ∃ st', Go.Ai.call cx ov0 1000 28 [.int .i64 b] ⟨keepIds st0.hp [], st0.ct⟩ = some (.int .u32 (maskF b), st') := by
  have e := min_eq b h0 h1; have hp := pw_pos b; have hl := pw_le b h0 h1
  cases b0 : (Decidable.decide ((-9223372036854775808 : Int) ≤ (32 : Int) - b ∧ (32 : Int) - b ≤ (9223372036854775807 : Int)))
  ·
    have c0 := of_decide_eq_false b0
    (exfalso; omega)
  ·
    have c0 := of_decide_eq_true b0
    cases b1 : (Decidable.decide ((32 : Int) - b < (0 : Int)))
    ·
      have c1 := of_decide_eq_false b1
      cases b2 : (Decidable.decide ((0 : Int) ≤ (4294967295 : Int) * (2 : Int) ^ Min.min ((32 : Int) - b).toNat (64 : Nat) ∧ (4294967295 : Int) * (2 : Int) ^ Min.min ((32 : Int) - b).toNat (64 : Nat) ≤ (18446744073709551615 : Int)))
      ·
        have c2 := of_decide_eq_false b2
        (exfalso; omega)
      ·
        have c2 := of_decide_eq_true b2
        cases b3 : (Decidable.decide ((0 : Int) ≤ (4294967295 : Int) * (2 : Int) ^ Min.min ((32 : Int) - b).toNat (64 : Nat) ∧ (4294967295 : Int) * (2 : Int) ^ Min.min ((32 : Int) - b).toNat (64 : Nat) ≤ (4294967295 : Int)))
        ·
          have c3 := of_decide_eq_false b3
          obtain ⟨st', h⟩ := F61_p0 b ⟨b3, b2, b1, b0, trivial⟩
          exact ⟨st', h.trans (congrArg (fun v => some (v, st')) (by rw [e, wrap_mask b h0 h1]))⟩
        ·
          have c3 := of_decide_eq_true b3
          obtain ⟨st', h⟩ := F61_p1 b ⟨b3, b2, b1, b0, trivial⟩
          exact ⟨st', h.trans (congrArg (fun v => some (v, st')) (by rw [e]; refine congrArg (Value.int .u32) ?_; unfold maskF; omega))⟩
    ·
      have c1 := of_decide_eq_true b1
      (exfalso; omega)
theorem F33_p0 (x : Int) (b : Int) (y : Int) (c : Int) (h : Holds [(Decidable.decide (b < c)) = true, (c != c) = false, (b != b) = false, (Go.Ai.beqV (Go.Value.int Go.IntKind.i64 c) (Go.Value.int Go.IntKind.i64 c)) = true, (Go.Ai.beqV (Go.Value.int Go.IntKind.i64 b) (Go.Value.int Go.IntKind.i64 b)) = true, (Decidable.decide (x < y)) = true, (y != y) = false, (x != x) = false]) : ∃ st', Go.Ai.call cx ov0 1000 10 [.agg #[.int .u32 x, .int .i64 b], .agg #[.int .u32 y, .int .i64 c]] ⟨keepIds st0.hp [], st0.ct⟩ = some (Go.Value.int Go.IntKind.i64 (-1 : Int), st') :=
  path_call ref0 (toks := [.ev, .ev, .no, .no, .yes, .ev, .ev, .ev, .ev, .no, .no, .yes, .ev, .ev, .ev, .ev]) (by kernel_rfl) h
theorem F33_p1 (x : Int) (b : Int) (y : Int) (c : Int) (h : Holds [(Decidable.decide (b > c)) = false, (Decidable.decide (b < c)) = false, (c != c) = false, (b != b) = false, (Go.Ai.beqV (Go.Value.int Go.IntKind.i64 c) (Go.Value.int Go.IntKind.i64 c)) = true, (Go.Ai.beqV (Go.Value.int Go.IntKind.i64 b) (Go.Value.int Go.IntKind.i64 b)) = true, (Decidable.decide (x < y)) = true, (y != y) = false, (x != x) = false]) : ∃ st', Go.Ai.call cx ov0 1000 10 [.agg #[.int .u32 x, .int .i64 b], .agg #[.int .u32 y, .int .i64 c]] ⟨keepIds st0.hp [], st0.ct⟩ = some (Go.Value.int Go.IntKind.i64 (-1 : Int), st') :=
  path_call ref0 (toks := [.ev, .ev, .no, .no, .yes, .ev, .ev, .ev, .ev, .no, .no, .no, .no, .ev, .ev, .ev, .ev]) (by kernel_rfl) h
theorem F33_p2 (x : Int) (b : Int) (y : Int) (c : Int) (h : Holds [(Decidable.decide (b > c)) = true, (Decidable.decide (b < c)) = false, (c != c) = false, (b != b) = false, (Go.Ai.beqV (Go.Value.int Go.IntKind.i64 c) (Go.Value.int Go.IntKind.i64 c)) = true, (Go.Ai.beqV (Go.Value.int Go.IntKind.i64 b) (Go.Value.int Go.IntKind.i64 b)) = true, (Decidable.decide (x < y)) = true, (y != y) = false, (x != x) = false]) : ∃ st', Go.Ai.call cx ov0 1000 10 [.agg #[.int .u32 x, .int .i64 b], .agg #[.int .u32 y, .int .i64 c]] ⟨keepIds st0.hp [], st0.ct⟩ = some (Go.Value.int Go.IntKind.i64 (-1 : Int), st') :=
  path_call ref0 (toks := [.ev, .ev, .no, .no, .yes, .ev, .ev, .ev, .ev, .no, .no, .no, .yes, .ev, .ev, .ev, .ev]) (by kernel_rfl) h
theorem F33_p3 (x : Int) (b : Int) (y : Int) (c : Int) (h : Holds [(Decidable.decide (b < c)) = true, (c != c) = false, (b != b) = false, (Go.Ai.beqV (Go.Value.int Go.IntKind.i64 c) (Go.Value.int Go.IntKind.i64 c)) = true, (Go.Ai.beqV (Go.Value.int Go.IntKind.i64 b) (Go.Value.int Go.IntKind.i64 b)) = true, (Decidable.decide (x > y)) = false, (Decidable.decide (x < y)) = false, (y != y) = false, (x != x) = false]) : ∃ st', Go.Ai.call cx ov0 1000 10 [.agg #[.int .u32 x, .int .i64 b], .agg #[.int .u32 y, .int .i64 c]] ⟨keepIds st0.hp [], st0.ct⟩ = some (Go.Value.int Go.IntKind.i64 (-1 : Int), st') :=
  path_call ref0 (toks := [.ev, .ev, .no, .no, .no, .no, .ev, .ev, .ev, .ev, .no, .no, .yes, .ev, .ev, .ev, .ev, .ev, .ev, .ev, .ev, .ev]) (by kernel_rfl) h
theorem F33_p4 (x : Int) (b : Int) (y : Int) (c : Int) (h : Holds [(Decidable.decide (b > c)) = false, (Decidable.decide (b < c)) = false, (c != c) = false, (b != b) = false, (Go.Ai.beqV (Go.Value.int Go.IntKind.i64 c) (Go.Value.int Go.IntKind.i64 c)) = true, (Go.Ai.beqV (Go.Value.int Go.IntKind.i64 b) (Go.Value.int Go.IntKind.i64 b)) = true, (Decidable.decide (x > y)) = false, (Decidable.decide (x < y)) = false, (y != y) = false, (x != x) = false]) : ∃ st', Go.Ai.call cx ov0 1000 10 [.agg #[.int .u32 x, .int .i64 b], .agg #[.int .u32 y, .int .i64 c]] ⟨keepIds st0.hp [], st0.ct⟩ = some (Go.Value.int Go.IntKind.i64 (0 : Int), st') :=
  path_call ref0 (toks := [.ev, .ev, .no, .no, .no, .no, .ev, .ev, .ev, .ev, .no, .no, .no, .no, .ev, .ev, .ev, .ev, .ev, .ev, .ev, .ev, .ev, .ev, .ev]) (by kernel_rfl) h
theorem F33_p5 (x : Int) (b : Int) (y : Int) (c : Int) (h : Holds [(Decidable.decide (b > c)) = true, (Decidable.decide (b < c)) = false, (c != c) = false, (b != b) = false, (Go.Ai.beqV (Go.Value.int Go.IntKind.i64 c) (Go.Value.int Go.IntKind.i64 c)) = true, (Go.Ai.beqV (Go.Value.int Go.IntKind.i64 b) (Go.Value.int Go.IntKind.i64 b)) = true, (Decidable.decide (x > y)) = false, (Decidable.decide (x < y)) = false, (y != y) = false, (x != x) = false]) : ∃ st', Go.Ai.call cx ov0 1000 10 [.agg #[.int .u32 x, .int .i64 b], .agg #[.int .u32 y, .int .i64 c]] ⟨keepIds st0.hp [], st0.ct⟩ = some (Go.Value.int Go.IntKind.i64 (1 : Int), st') :=
  path_call ref0 (toks := [.ev, .ev, .no, .no, .no, .no, .ev, .ev, .ev, .ev, .no, .no, .no, .yes, .ev, .ev, .ev, .ev, .ev, .ev, .ev, .ev, .ev]) (by kernel_rfl) h
theorem F33_p6 (x : Int) (b : Int) (y : Int) (c : Int) (h : Holds [(Decidable.decide (b < c)) = true, (c != c) = false, (b != b) = false, (Go.Ai.beqV (Go.Value.int Go.IntKind.i64 c) (Go.Value.int Go.IntKind.i64 c)) = true, (Go.Ai.beqV (Go.Value.int Go.IntKind.i64 b) (Go.Value.int Go.IntKind.i64 b)) = true, (Decidable.decide (x > y)) = true, (Decidable.decide (x < y)) = false, (y != y) = false, (x != x) = false]) : ∃ st', Go.Ai.call cx ov0 1000 10 [.agg #[.int .u32 x, .int .i64 b], .agg #[.int .u32 y, .int .i64 c]] ⟨keepIds st0.hp [], st0.ct⟩ = some (Go.Value.int Go.IntKind.i64 (1 : Int), st') :=
  path_call ref0 (toks := [.ev, .ev, .no, .no, .no, .yes, .ev, .ev, .ev, .ev, .no, .no, .yes, .ev, .ev, .ev, .ev]) (by kernel_rfl) h
theorem F33_p7 (x : Int) (b : Int) (y : Int) (c : Int) (h : Holds [(Decidable.decide (b > c)) = false, (Decidable.decide (b < c)) = false, (c != c) = false, (b != b) = false, (Go.Ai.beqV (Go.Value.int Go.IntKind.i64 c) (Go.Value.int Go.IntKind.i64 c)) = true, (Go.Ai.beqV (Go.Value.int Go.IntKind.i64 b) (Go.Value.int Go.IntKind.i64 b)) = true, (Decidable.decide (x > y)) = true, (Decidable.decide (x < y)) = false, (y != y) = false, (x != x) = false]) : ∃ st', Go.Ai.call cx ov0 1000 10 [.agg #[.int .u32 x, .int .i64 b], .agg #[.int .u32 y, .int .i64 c]] ⟨keepIds st0.hp [], st0.ct⟩ = some (Go.Value.int Go.IntKind.i64 (1 : Int), st') :=
  path_call ref0 (toks := [.ev, .ev, .no, .no, .no, .yes, .ev, .ev, .ev, .ev, .no, .no, .no, .no, .ev, .ev, .ev, .ev]) (by kernel_rfl) h
theorem F33_p8 (x : Int) (b : Int) (y : Int) (c : Int) (h : Holds [(Decidable.decide (b > c)) = true, (Decidable.decide (b < c)) = false, (c != c) = false, (b != b) = false, (Go.Ai.beqV (Go.Value.int Go.IntKind.i64 c) (Go.Value.int Go.IntKind.i64 c)) = true, (Go.Ai.beqV (Go.Value.int Go.IntKind.i64 b) (Go.Value.int Go.IntKind.i64 b)) = true, (Decidable.decide (x > y)) = true, (Decidable.decide (x < y)) = false, (y != y) = false, (x != x) = false]) : ∃ st', Go.Ai.call cx ov0 1000 10 [.agg #[.int .u32 x, .int .i64 b], .agg #[.int .u32 y, .int .i64 c]] ⟨keepIds st0.hp [], st0.ct⟩ = some (Go.Value.int Go.IntKind.i64 (1 : Int), st') :=
  path_call ref0 (toks := [.ev, .ev, .no, .no, .no, .yes, .ev, .ev, .ev, .ev, .no, .no, .no, .yes, .ev, .ev, .ev, .ev]) (by kernel_rfl) h
set_option maxHeartbeats 4000000 in
theorem F33_all (x : Int) (b : Int) (y : Int) (c : Int)  : ∃ st', Go.Ai.call cx ov0 1000 10 [.agg #[.int .u32 x, .int .i64 b], .agg #[.int .u32 y, .int .i64 c]] ⟨keepIds st0.hp [], st0.ct⟩ = some (.int .i64 (cmpF x b y c), st') := by
  cases b0 : (x != x)
  ·
    first | have c0 := int_bne_false b0 | skip
    cases b1 : (y != y)
    ·
      first | have c1 := int_bne_false b1 | skip
      cases b2 : (Decidable.decide (x < y))
      ·
        have c2 := of_decide_eq_false b2
        cases b3 : (Decidable.decide (x > y))
        ·
          have c3 := of_decide_eq_false b3
          cases b4 : (Go.Ai.beqV (Go.Value.int Go.IntKind.i64 b) (Go.Value.int Go.IntKind.i64 b))
          ·
            first | (exfalso; omega) | (exfalso; simp [beqV] at b4; done)
          ·
            cases b5 : (Go.Ai.beqV (Go.Value.int Go.IntKind.i64 c) (Go.Value.int Go.IntKind.i64 c))
            ·
              first | (exfalso; omega) | (exfalso; simp [beqV] at b5; done)
            ·
              cases b6 : (b != b)
              ·
                first | have c6 := int_bne_false b6 | skip
                cases b7 : (c != c)
                ·
                  first | have c7 := int_bne_false b7 | skip
                  cases b8 : (Decidable.decide (b < c))
                  ·
                    have c8 := of_decide_eq_false b8
                    cases b9 : (Decidable.decide (b > c))
                    ·
                      have c9 := of_decide_eq_false b9
                      obtain ⟨st', h⟩ := F33_p4 x b y c ⟨b9, b8, b7, b6, b5, b4, b3, b2, b1, b0, trivial⟩
                      exact ⟨st', h.trans (congrArg (fun v => some (v, st')) (by refine congrArg (Value.int .i64) ?_; unfold cmpF; repeat' split <;> omega))⟩
                    ·
                      have c9 := of_decide_eq_true b9
                      obtain ⟨st', h⟩ := F33_p5 x b y c ⟨b9, b8, b7, b6, b5, b4, b3, b2, b1, b0, trivial⟩
                      exact ⟨st', h.trans (congrArg (fun v => some (v, st')) (by refine congrArg (Value.int .i64) ?_; unfold cmpF; repeat' split <;> omega))⟩
                  ·
                    have c8 := of_decide_eq_true b8
                    obtain ⟨st', h⟩ := F33_p3 x b y c ⟨b8, b7, b6, b5, b4, b3, b2, b1, b0, trivial⟩
                    exact ⟨st', h.trans (congrArg (fun v => some (v, st')) (by refine congrArg (Value.int .i64) ?_; unfold cmpF; repeat' split <;> omega))⟩
                ·
                  first | have c7 := int_bne_true b7 | skip
                  first | (exfalso; omega) | (exfalso; simp [beqV] at b7; done)
              ·
                first | have c6 := int_bne_true b6 | skip
                first | (exfalso; omega) | (exfalso; simp [beqV] at b6; done)
        ·
          have c3 := of_decide_eq_true b3
          cases b4 : (Go.Ai.beqV (Go.Value.int Go.IntKind.i64 b) (Go.Value.int Go.IntKind.i64 b))
          ·
            first | (exfalso; omega) | (exfalso; simp [beqV] at b4; done)
          ·
            cases b5 : (Go.Ai.beqV (Go.Value.int Go.IntKind.i64 c) (Go.Value.int Go.IntKind.i64 c))
            ·
              first | (exfalso; omega) | (exfalso; simp [beqV] at b5; done)
            ·
              cases b6 : (b != b)
              ·
                first | have c6 := int_bne_false b6 | skip
                cases b7 : (c != c)
                ·
                  first | have c7 := int_bne_false b7 | skip
                  cases b8 : (Decidable.decide (b < c))
                  ·
                    have c8 := of_decide_eq_false b8
                    cases b9 : (Decidable.decide (b > c))
                    ·
                      have c9 := of_decide_eq_false b9
                      obtain ⟨st', h⟩ := F33_p7 x b y c ⟨b9, b8, b7, b6, b5, b4, b3, b2, b1, b0, trivial⟩
                      exact ⟨st', h.trans (congrArg (fun v => some (v, st')) (by refine congrArg (Value.int .i64) ?_; unfold cmpF; repeat' split <;> omega))⟩
                    ·
                      have c9 := of_decide_eq_true b9
                      obtain ⟨st', h⟩ := F33_p8 x b y c ⟨b9, b8, b7, b6, b5, b4, b3, b2, b1, b0, trivial⟩
                      exact ⟨st', h.trans (congrArg (fun v => some (v, st')) (by refine congrArg (Value.int .i64) ?_; unfold cmpF; repeat' split <;> omega))⟩
                  ·
                    have c8 := of_decide_eq_true b8
                    obtain ⟨st', h⟩ := F33_p6 x b y c ⟨b8, b7, b6, b5, b4, b3, b2, b1, b0, trivial⟩
                    exact ⟨st', h.trans (congrArg (fun v => some (v, st')) (by refine congrArg (Value.int .i64) ?_; unfold cmpF; repeat' split <;> omega))⟩
                ·
                  first | have c7 := int_bne_true b7 | skip
                  first | (exfalso; omega) | (exfalso; simp [beqV] at b7; done)
              ·
                first | have c6 := int_bne_true b6 | skip
                first | (exfalso; omega) | (exfalso; simp [beqV] at b6; done)
      ·
        have c2 := of_decide_eq_true b2
        cases b3 : (Go.Ai.beqV (Go.Value.int Go.IntKind.i64 b) (Go.Value.int Go.IntKind.i64 b))
        ·
          first | (exfalso; omega) | (exfalso; simp [beqV] at b3; done)
        ·
          cases b4 : (Go.Ai.beqV (Go.Value.int Go.IntKind.i64 c) (Go.Value.int Go.IntKind.i64 c))
          ·
            first | (exfalso; omega) | (exfalso; simp [beqV] at b4; done)
          ·
            cases b5 : (b != b)
            ·
              first | have c5 := int_bne_false b5 | skip
              cases b6 : (c != c)
              ·
                first | have c6 := int_bne_false b6 | skip
                cases b7 : (Decidable.decide (b < c))
                ·
                  have c7 := of_decide_eq_false b7
                  cases b8 : (Decidable.decide (b > c))
                  ·
                    have c8 := of_decide_eq_false b8
                    obtain ⟨st', h⟩ := F33_p1 x b y c ⟨b8, b7, b6, b5, b4, b3, b2, b1, b0, trivial⟩
                    exact ⟨st', h.trans (congrArg (fun v => some (v, st')) (by refine congrArg (Value.int .i64) ?_; unfold cmpF; repeat' split <;> omega))⟩
                  ·
                    have c8 := of_decide_eq_true b8
                    obtain ⟨st', h⟩ := F33_p2 x b y c ⟨b8, b7, b6, b5, b4, b3, b2, b1, b0, trivial⟩
                    exact ⟨st', h.trans (congrArg (fun v => some (v, st')) (by refine congrArg (Value.int .i64) ?_; unfold cmpF; repeat' split <;> omega))⟩
                ·
                  have c7 := of_decide_eq_true b7
                  obtain ⟨st', h⟩ := F33_p0 x b y c ⟨b7, b6, b5, b4, b3, b2, b1, b0, trivial⟩
                  exact ⟨st', h.trans (congrArg (fun v => some (v, st')) (by refine congrArg (Value.int .i64) ?_; unfold cmpF; repeat' split <;> omega))⟩
              ·
                first | have c6 := int_bne_true b6 | skip
                first | (exfalso; omega) | (exfalso; simp [beqV] at b6; done)
            ·
              first | have c5 := int_bne_true b5 | skip
              first | (exfalso; omega) | (exfalso; simp [beqV] at b5; done)
    ·
      first | have c1 := int_bne_true b1 | skip
      first | (exfalso; omega) | (exfalso; simp [beqV] at b1; done)
  ·
    first | have c0 := int_bne_true b0 | skip
    first | (exfalso; omega) | (exfalso; simp [beqV] at b0; done)
theorem F30_p0 (x : Int) (k : Int) (h : Holds [(Decidable.decide (k < (32 : Int))) = true, (Decidable.decide (k < (32 : Int))) = true, (Decidable.decide (k < (32 : Int))) = true, (Decidable.decide ((31 : Int) - k < (0 : Int))) = false, (Decidable.decide (k < (32 : Int))) = true, (Decidable.decide ((-9223372036854775808 : Int) ≤ (31 : Int) - k ∧ (31 : Int) - k ≤ (9223372036854775807 : Int))) = true, (Decidable.decide (k < (32 : Int))) = true, (Decidable.decide (k < (32 : Int))) = true, (Decidable.decide (k < (32 : Int))) = true, (Decidable.decide (k ≥ (0 : Int))) = true, (Decidable.decide (k ≥ (0 : Int))) = true, (Decidable.decide (k ≥ (0 : Int))) = true]) : ∃ st', Go.Ai.call cx ov0 1000 20 [.int .u32 x, .int .i64 k] ⟨keepIds st0.hp [], st0.ct⟩ = some (Go.Value.bool (Go.Ai.bitsI Go.BinOp.and Go.IntKind.u32 (x / (2 : Int) ^ Min.min ((31 : Int) - k).toNat (32 : Nat)) (1 : Int) == (1 : Int)), st') :=
  path_call ref0 (toks := [.yes, .yes, .yes, .yes, .yes, .yes, .yes, .yes, .no, .yes, .yes, .yes]) (by kernel_rfl) h
theorem F30_p1 (x : Int) (k : Int) (h : Holds [(Decidable.decide (k ≥ (0 : Int))) = false, (Decidable.decide (k ≥ (0 : Int))) = false, (Decidable.decide (k ≥ (0 : Int))) = false]) : ∃ st', Go.Ai.call cx ov0 1000 20 [.int .u32 x, .int .i64 k] ⟨keepIds st0.hp [], st0.ct⟩ = some (Go.Value.bool Bool.false, st') :=
  path_call ref0 (toks := [.no, .no, .no, .ev, .ev, .ev, .ev, .ev, .ev, .ev]) (by kernel_rfl) h
theorem F30_p2 (x : Int) (k : Int) (h : Holds [(Decidable.decide (k < (32 : Int))) = false, (Decidable.decide (k < (32 : Int))) = false, (Decidable.decide (k < (32 : Int))) = false, (Decidable.decide (k < (32 : Int))) = false, (Decidable.decide (k < (32 : Int))) = false, (Decidable.decide (k < (32 : Int))) = false, (Decidable.decide (k < (32 : Int))) = false, (Decidable.decide (k ≥ (0 : Int))) = true, (Decidable.decide (k ≥ (0 : Int))) = true, (Decidable.decide (k ≥ (0 : Int))) = true]) : ∃ st', Go.Ai.call cx ov0 1000 20 [.int .u32 x, .int .i64 k] ⟨keepIds st0.hp [], st0.ct⟩ = some (Go.Value.bool Bool.false, st') :=
  path_call ref0 (toks := [.yes, .yes, .yes, .no, .no, .no, .no, .no, .no, .no]) (by kernel_rfl) h
set_option maxHeartbeats 4000000 in
theorem F30_all (x : Int) (k : Int) (h0 : 0 ≤ x) (h1 : x < 4294967296) (h2 : -9223372036854775808 ≤ k) (h3 : k < 9223372036854775808) : ∃ st', Go.Ai.call cx ov0 1000 20 [.int .u32 x, .int .i64 k] ⟨keepIds st0.hp [], st0.ct⟩ = some (.bool (bitF x k), st') := by
  cases b0 : (Decidable.decide (k ≥ (0 : Int)))
  ·
    have c0 := of_decide_eq_false b0
    obtain ⟨st', h⟩ := F30_p1 x k ⟨b0, b0, b0, trivial⟩
    exact ⟨st', h.trans (congrArg (fun v => some (v, st')) (by refine congrArg Value.bool ?_; unfold bitF; rw [decide_eq_false (by omega : ¬ 0 ≤ k)]; rfl))⟩
  ·
    have c0 := of_decide_eq_true b0
    cases b1 : (Decidable.decide (k < (32 : Int)))
    ·
      have c1 := of_decide_eq_false b1
      obtain ⟨st', h⟩ := F30_p2 x k ⟨b1, b1, b1, b1, b1, b1, b1, b0, b0, b0, trivial⟩
      exact ⟨st', h.trans (congrArg (fun v => some (v, st')) (by refine congrArg Value.bool ?_; unfold bitF; rw [decide_eq_true (by omega : 0 ≤ k), decide_eq_false (by omega : ¬ k < 32)]; rfl))⟩
    ·
      have c1 := of_decide_eq_true b1
      cases b2 : (Decidable.decide ((-9223372036854775808 : Int) ≤ (31 : Int) - k ∧ (31 : Int) - k ≤ (9223372036854775807 : Int)))
      ·
        have c2 := of_decide_eq_false b2
        (exfalso; omega)
      ·
        have c2 := of_decide_eq_true b2
        cases b3 : (Decidable.decide ((31 : Int) - k < (0 : Int)))
        ·
          have c3 := of_decide_eq_false b3
          obtain ⟨st', h⟩ := F30_p0 x k ⟨b1, b1, b1, b3, b1, b2, b1, b1, b1, b0, b0, b0, trivial⟩
          exact ⟨st', h.trans (congrArg (fun v => some (v, st')) (by refine congrArg Value.bool ?_; have hr := div_pow_range x (31 - k).toNat h0; rw [min_eq2 k (by omega), bits_one _ hr.1 (by omega)]; unfold bitF; rw [decide_eq_true (by omega : 0 ≤ k), decide_eq_true (by omega : k < 32)]; rfl))⟩
        ·
          have c3 := of_decide_eq_true b3
          (exfalso; omega)
def C61 : FC := ⟨28, fun l => ∃ b, l = [.int .i64 b] ∧ 0 ≤ b ∧ b ≤ 32, fun l => match l with | [.int _ b] => .int .u32 (maskF b) | _ => undef, []⟩
theorem C61_good : C61.Good Tryz.prog ov0 st0 := ⟨by kernel_rfl, fun args ⟨b, e, h0, h1⟩ => by subst e; exact ⟨rfl, rfl, 1000, F61_all b h0 h1⟩⟩
def C33 : FC := ⟨10, fun l => ∃ x b y c, l = [.agg #[.int .u32 x, .int .i64 b], .agg #[.int .u32 y, .int .i64 c]], fun l => match l with | [.agg ⟨[.int _ x, .int _ b]⟩, .agg ⟨[.int _ y, .int _ c]⟩] => .int .i64 (cmpF x b y c) | _ => undef, []⟩
theorem C33_good : C33.Good Tryz.prog ov0 st0 := ⟨by kernel_rfl, fun args ⟨x, b, y, c, e⟩ => by subst e; exact ⟨rfl, rfl, 1000, F33_all x b y c⟩⟩
def C30 : FC := ⟨20, fun l => ∃ x k, l = [.int .u32 x, .int .i64 k] ∧ 0 ≤ x ∧ x < 4294967296 ∧ -9223372036854775808 ≤ k ∧ k < 9223372036854775808, fun l => match l with | [.int _ x, .int _ k] => .bool (bitF x k) | _ => undef, []⟩
theorem C30_good : C30.Good Tryz.prog ov0 st0 := ⟨by kernel_rfl, fun args ⟨x, k, e, h0, h1, h2, h3⟩ => by subst e; exact ⟨rfl, rfl, 1000, F30_all x k h0 h1 h2 h3⟩⟩
noncomputable def ovp1 : Ov := ovWith st0 [C61, C33, C30] [] ov0
noncomputable def ovOp1 : OvO := ovOWith st0 [C61, C33, C30] [] ovONone
theorem refp1 : OvRef ovp1 ovOp1 := ovWith_ref ref0
theorem ovp1_ok : OvOk Tryz.prog ovp1 ∧ OvMono ovp1 ∧ OvIds ovp1 :=
  ⟨ovWith_ok Tryz.checked.mixed ov0_ok.1 ov0_ok.2.1 ov0_ok.2.2 ng_st0 (fun C h => by simp at h; rcases h with rfl | rfl | rfl; exact C61_good; exact C33_good; exact C30_good) (fun x h => by cases h),
   ovWith_mono ov0_ok.2.1 (fun x h => by cases h), ovWith_ids ov0_ok.2.2⟩
end Go.Proofs.YtgmojlibppmfhaaGreatDoor

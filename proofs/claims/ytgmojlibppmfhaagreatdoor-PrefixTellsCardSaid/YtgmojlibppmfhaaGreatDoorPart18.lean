/- Runs of the abstract interpreter, part 18: by an AI agent. -/
import Derived.Test.YtgmojlibppmfhaaGreatDoorPart17

namespace Go.Proofs.YtgmojlibppmfhaaGreatDoor
open Go Go.Ai
/-- a digit's byte, as the reference makes it -/
def dg (n : Int) : UInt8 := UInt8.ofNat ((48 : Int) + n % (10 : Int)).toNat
/-- the digits of a byte -/
def digB (n : Int) : ByteArray := if n < 10 then ⟨⟨[dg n]⟩⟩ else if n < 100 then ⟨⟨[dg (n / 10), dg n]⟩⟩ else ⟨⟨[dg (n / 10 / 10), dg (n / 10), dg n]⟩⟩
def dra (n : Int) (k : Nat) : List Prop := [decide ((-9223372036854775808 : Int) ≤ n / (10 : Int) ∧ n / (10 : Int) ≤ (9223372036854775807 : Int)) = true, decide ((0 : Int) ≤ n ∧ (0 : Int) < (10 : Int)) = true, decide (k ≤ (9223372036854775807 : Nat)) = true, decide ((0 : Int) ≤ (48 : Int) + n % (10 : Int) ∧ (48 : Int) + n % (10 : Int) ≤ (255 : Int)) = true, decide ((-9223372036854775808 : Int) ≤ (48 : Int) + n % (10 : Int) ∧ (48 : Int) + n % (10 : Int) ≤ (9223372036854775807 : Int)) = true, decide ((0 : Int) ≤ n ∧ (0 : Int) < (10 : Int)) = true]
theorem Fdg_1 (n : Int) (h : Holds (((n / (10 : Int) == (0 : Int)) = true) :: dra n 1)) : ∃ st', Go.Ai.call cx ovp4 1000 24 [.int .i64 n] ⟨keepIds st0.hp [], st0.ct⟩ = some (.string ⟨⟨[dg n]⟩⟩, st') :=
  path_call refp4 (toks := [.ev, .yes, .yes, .yes, .ev, .yes, .ev, .yes, .yes, .yes]) (by kernel_rfl) h
theorem Fdg_2 (n : Int) (h : Holds (((n / (10 : Int) / (10 : Int) == (0 : Int)) = true) :: (dra (n / (10 : Int)) 2 ++ (((n / (10 : Int) == (0 : Int)) = false) :: dra n 1)))) : ∃ st', Go.Ai.call cx ovp4 1000 24 [.int .i64 n] ⟨keepIds st0.hp [], st0.ct⟩ = some (.string ⟨⟨[dg (n / 10), dg n]⟩⟩, st') :=
  path_call refp4 (toks := [.ev, .yes, .yes, .yes, .ev, .yes, .ev, .yes, .yes, .no, .ev, .yes, .yes, .yes, .ev, .yes, .ev, .yes, .yes, .yes]) (by kernel_rfl) h
theorem Fdg_3 (n : Int) (h : Holds (((n / (10 : Int) / (10 : Int) / (10 : Int) == (0 : Int)) = true) :: (dra (n / (10 : Int) / (10 : Int)) 3 ++ (((n / (10 : Int) / (10 : Int) == (0 : Int)) = false) :: (dra (n / (10 : Int)) 2 ++ (((n / (10 : Int) == (0 : Int)) = false) :: dra n 1)))))) : ∃ st', Go.Ai.call cx ovp4 1000 24 [.int .i64 n] ⟨keepIds st0.hp [], st0.ct⟩ = some (.string ⟨⟨[dg (n / 10 / 10), dg (n / 10), dg n]⟩⟩, st') :=
  path_call refp4 (toks := [.ev, .yes, .yes, .yes, .ev, .yes, .ev, .yes, .yes, .no, .ev, .yes, .yes, .yes, .ev, .yes, .ev, .yes, .yes, .no, .ev, .yes, .yes, .yes, .ev, .yes, .ev, .yes, .yes, .yes]) (by kernel_rfl) h
theorem Fdg_all (n : Int) (h0 : 0 ≤ n) (h1 : n < 256) : ∃ st', Go.Ai.call cx ovp4 1000 24 [.int .i64 n] ⟨keepIds st0.hp [], st0.ct⟩ = some (.string (digB n), st') := by
  have T {a : Int} (h : a = 0) : (a == (0 : Int)) = true := beq_iff_eq.2 h
  have N {a : Int} (h : a ≠ 0) : (a == (0 : Int)) = false := beq_eq_false_iff_ne.2 h
  have D {p : Prop} [Decidable p] (h : p) : decide p = true := decide_eq_true h
  unfold digB
  by_cases a : n < 10
  · rw [if_pos a]
    exact Fdg_1 n ⟨T (by omega), D (by omega), D (by omega), D (by omega), D (by omega), D (by omega), D (by omega), trivial⟩
  · rw [if_neg a]
    by_cases b : n < 100
    · rw [if_pos b]
      exact Fdg_2 n ⟨T (by omega), D (by omega), D (by omega), D (by omega), D (by omega), D (by omega), D (by omega), N (by omega), D (by omega), D (by omega), D (by omega), D (by omega), D (by omega), D (by omega), trivial⟩
    · rw [if_neg b]
      exact Fdg_3 n ⟨T (by omega), D (by omega), D (by omega), D (by omega), D (by omega), D (by omega), D (by omega), N (by omega), D (by omega), D (by omega), D (by omega), D (by omega), D (by omega), D (by omega), N (by omega), D (by omega), D (by omega), D (by omega), D (by omega), D (by omega), D (by omega), trivial⟩
def CDG : FC := ⟨24, fun l => ∃ n, l = [.int .i64 n] ∧ 0 ≤ n ∧ n < 256, fun l => match l with | [.int _ n] => .string (digB n) | _ => undef, []⟩
theorem CDG_good : CDG.Good Tryz.prog ovp4 st0 := ⟨by kernel_rfl, fun args ⟨n, e, h0, h1⟩ => by subst e; exact ⟨rfl, rfl, 1000, Fdg_all n h0 h1⟩⟩
end Go.Proofs.YtgmojlibppmfhaaGreatDoor

/- Runs of the abstract interpreter, part 20: by an AI agent. -/
import Derived.Test.YtgmojlibppmfhaaDoorPart19

namespace Go.Proofs.YtgmojlibppmfhaaDoor
open Go Go.Ai
theorem F101_p0 (n : Int) (h : Holds [(decide ((-9223372036854775808 : Int) ≤ lenF n * (78913 : Int) / (262144 : Int) + (1 : Int) ∧ lenF n * (78913 : Int) / (262144 : Int) + (1 : Int) ≤ (9223372036854775807 : Int))) = true, (decide (n ≥ (1 : Int))) = true, lenF n * (78913 : Int) / (262144 : Int) = (0 : Int), (decide ((-9223372036854775808 : Int) ≤ lenF n * (78913 : Int) ∧ lenF n * (78913 : Int) ≤ (9223372036854775807 : Int))) = true, C124.pre [Value.int IntKind.u64 n]]) : ∃ st', Go.Ai.call cx ov1 1000 101 [.int .u64 n] ⟨keepIds st0.hp [2], st0.ct⟩ = some (Value.int IntKind.i64 (lenF n * (78913 : Int) / (262144 : Int) + (1 : Int)), st') :=
  path_call ref1 (toks := [.yes, .ev, .at (0), .ev, .ev, .yes, .yes]) (by kernel_rfl) h
theorem F101_p1 (n : Int) (h : Holds [(decide ((-9223372036854775808 : Int) ≤ lenF n * (78913 : Int) / (262144 : Int) + (0 : Int) ∧ lenF n * (78913 : Int) / (262144 : Int) + (0 : Int) ≤ (9223372036854775807 : Int))) = true, (decide (n ≥ (10 : Int))) = false, lenF n * (78913 : Int) / (262144 : Int) = (1 : Int), (decide ((-9223372036854775808 : Int) ≤ lenF n * (78913 : Int) ∧ lenF n * (78913 : Int) ≤ (9223372036854775807 : Int))) = true, C124.pre [Value.int IntKind.u64 n]]) : ∃ st', Go.Ai.call cx ov1 1000 101 [.int .u64 n] ⟨keepIds st0.hp [2], st0.ct⟩ = some (Value.int IntKind.i64 (lenF n * (78913 : Int) / (262144 : Int) + (0 : Int)), st') :=
  path_call ref1 (toks := [.yes, .ev, .at (1), .ev, .ev, .no, .yes]) (by kernel_rfl) h
theorem F101_p2 (n : Int) (h : Holds [(decide ((-9223372036854775808 : Int) ≤ lenF n * (78913 : Int) / (262144 : Int) + (1 : Int) ∧ lenF n * (78913 : Int) / (262144 : Int) + (1 : Int) ≤ (9223372036854775807 : Int))) = true, (decide (n ≥ (10 : Int))) = true, lenF n * (78913 : Int) / (262144 : Int) = (1 : Int), (decide ((-9223372036854775808 : Int) ≤ lenF n * (78913 : Int) ∧ lenF n * (78913 : Int) ≤ (9223372036854775807 : Int))) = true, C124.pre [Value.int IntKind.u64 n]]) : ∃ st', Go.Ai.call cx ov1 1000 101 [.int .u64 n] ⟨keepIds st0.hp [2], st0.ct⟩ = some (Value.int IntKind.i64 (lenF n * (78913 : Int) / (262144 : Int) + (1 : Int)), st') :=
  path_call ref1 (toks := [.yes, .ev, .at (1), .ev, .ev, .yes, .yes]) (by kernel_rfl) h
theorem F101_p3 (n : Int) (h : Holds [(decide ((-9223372036854775808 : Int) ≤ lenF n * (78913 : Int) / (262144 : Int) + (0 : Int) ∧ lenF n * (78913 : Int) / (262144 : Int) + (0 : Int) ≤ (9223372036854775807 : Int))) = true, (decide (n ≥ (100 : Int))) = false, lenF n * (78913 : Int) / (262144 : Int) = (2 : Int), (decide ((-9223372036854775808 : Int) ≤ lenF n * (78913 : Int) ∧ lenF n * (78913 : Int) ≤ (9223372036854775807 : Int))) = true, C124.pre [Value.int IntKind.u64 n]]) : ∃ st', Go.Ai.call cx ov1 1000 101 [.int .u64 n] ⟨keepIds st0.hp [2], st0.ct⟩ = some (Value.int IntKind.i64 (lenF n * (78913 : Int) / (262144 : Int) + (0 : Int)), st') :=
  path_call ref1 (toks := [.yes, .ev, .at (2), .ev, .ev, .no, .yes]) (by kernel_rfl) h
theorem F101_p4 (n : Int) (h : Holds [(decide ((-9223372036854775808 : Int) ≤ lenF n * (78913 : Int) / (262144 : Int) + (1 : Int) ∧ lenF n * (78913 : Int) / (262144 : Int) + (1 : Int) ≤ (9223372036854775807 : Int))) = true, (decide (n ≥ (100 : Int))) = true, lenF n * (78913 : Int) / (262144 : Int) = (2 : Int), (decide ((-9223372036854775808 : Int) ≤ lenF n * (78913 : Int) ∧ lenF n * (78913 : Int) ≤ (9223372036854775807 : Int))) = true, C124.pre [Value.int IntKind.u64 n]]) : ∃ st', Go.Ai.call cx ov1 1000 101 [.int .u64 n] ⟨keepIds st0.hp [2], st0.ct⟩ = some (Value.int IntKind.i64 (lenF n * (78913 : Int) / (262144 : Int) + (1 : Int)), st') :=
  path_call ref1 (toks := [.yes, .ev, .at (2), .ev, .ev, .yes, .yes]) (by kernel_rfl) h
theorem F101_p5 (n : Int) (h : Holds [(decide ((-9223372036854775808 : Int) ≤ lenF n * (78913 : Int) / (262144 : Int) + (0 : Int) ∧ lenF n * (78913 : Int) / (262144 : Int) + (0 : Int) ≤ (9223372036854775807 : Int))) = true, (decide (n ≥ (1000 : Int))) = false, lenF n * (78913 : Int) / (262144 : Int) = (3 : Int), (decide ((-9223372036854775808 : Int) ≤ lenF n * (78913 : Int) ∧ lenF n * (78913 : Int) ≤ (9223372036854775807 : Int))) = true, C124.pre [Value.int IntKind.u64 n]]) : ∃ st', Go.Ai.call cx ov1 1000 101 [.int .u64 n] ⟨keepIds st0.hp [2], st0.ct⟩ = some (Value.int IntKind.i64 (lenF n * (78913 : Int) / (262144 : Int) + (0 : Int)), st') :=
  path_call ref1 (toks := [.yes, .ev, .at (3), .ev, .ev, .no, .yes]) (by kernel_rfl) h
theorem F101_p6 (n : Int) (h : Holds [(decide ((-9223372036854775808 : Int) ≤ lenF n * (78913 : Int) / (262144 : Int) + (1 : Int) ∧ lenF n * (78913 : Int) / (262144 : Int) + (1 : Int) ≤ (9223372036854775807 : Int))) = true, (decide (n ≥ (1000 : Int))) = true, lenF n * (78913 : Int) / (262144 : Int) = (3 : Int), (decide ((-9223372036854775808 : Int) ≤ lenF n * (78913 : Int) ∧ lenF n * (78913 : Int) ≤ (9223372036854775807 : Int))) = true, C124.pre [Value.int IntKind.u64 n]]) : ∃ st', Go.Ai.call cx ov1 1000 101 [.int .u64 n] ⟨keepIds st0.hp [2], st0.ct⟩ = some (Value.int IntKind.i64 (lenF n * (78913 : Int) / (262144 : Int) + (1 : Int)), st') :=
  path_call ref1 (toks := [.yes, .ev, .at (3), .ev, .ev, .yes, .yes]) (by kernel_rfl) h
theorem F101_p7 (n : Int) (h : Holds [(decide ((-9223372036854775808 : Int) ≤ lenF n * (78913 : Int) / (262144 : Int) + (0 : Int) ∧ lenF n * (78913 : Int) / (262144 : Int) + (0 : Int) ≤ (9223372036854775807 : Int))) = true, (decide (n ≥ (10000 : Int))) = false, lenF n * (78913 : Int) / (262144 : Int) = (4 : Int), (decide ((-9223372036854775808 : Int) ≤ lenF n * (78913 : Int) ∧ lenF n * (78913 : Int) ≤ (9223372036854775807 : Int))) = true, C124.pre [Value.int IntKind.u64 n]]) : ∃ st', Go.Ai.call cx ov1 1000 101 [.int .u64 n] ⟨keepIds st0.hp [2], st0.ct⟩ = some (Value.int IntKind.i64 (lenF n * (78913 : Int) / (262144 : Int) + (0 : Int)), st') :=
  path_call ref1 (toks := [.yes, .ev, .at (4), .ev, .ev, .no, .yes]) (by kernel_rfl) h
theorem F101_p8 (n : Int) (h : Holds [(decide ((-9223372036854775808 : Int) ≤ lenF n * (78913 : Int) / (262144 : Int) + (1 : Int) ∧ lenF n * (78913 : Int) / (262144 : Int) + (1 : Int) ≤ (9223372036854775807 : Int))) = true, (decide (n ≥ (10000 : Int))) = true, lenF n * (78913 : Int) / (262144 : Int) = (4 : Int), (decide ((-9223372036854775808 : Int) ≤ lenF n * (78913 : Int) ∧ lenF n * (78913 : Int) ≤ (9223372036854775807 : Int))) = true, C124.pre [Value.int IntKind.u64 n]]) : ∃ st', Go.Ai.call cx ov1 1000 101 [.int .u64 n] ⟨keepIds st0.hp [2], st0.ct⟩ = some (Value.int IntKind.i64 (lenF n * (78913 : Int) / (262144 : Int) + (1 : Int)), st') :=
  path_call ref1 (toks := [.yes, .ev, .at (4), .ev, .ev, .yes, .yes]) (by kernel_rfl) h
theorem F101_p9 (n : Int) (h : Holds [(decide ((-9223372036854775808 : Int) ≤ lenF n * (78913 : Int) / (262144 : Int) + (0 : Int) ∧ lenF n * (78913 : Int) / (262144 : Int) + (0 : Int) ≤ (9223372036854775807 : Int))) = true, (decide (n ≥ (100000 : Int))) = false, lenF n * (78913 : Int) / (262144 : Int) = (5 : Int), (decide ((-9223372036854775808 : Int) ≤ lenF n * (78913 : Int) ∧ lenF n * (78913 : Int) ≤ (9223372036854775807 : Int))) = true, C124.pre [Value.int IntKind.u64 n]]) : ∃ st', Go.Ai.call cx ov1 1000 101 [.int .u64 n] ⟨keepIds st0.hp [2], st0.ct⟩ = some (Value.int IntKind.i64 (lenF n * (78913 : Int) / (262144 : Int) + (0 : Int)), st') :=
  path_call ref1 (toks := [.yes, .ev, .at (5), .ev, .ev, .no, .yes]) (by kernel_rfl) h
theorem F101_p10 (n : Int) (h : Holds [(decide ((-9223372036854775808 : Int) ≤ lenF n * (78913 : Int) / (262144 : Int) + (1 : Int) ∧ lenF n * (78913 : Int) / (262144 : Int) + (1 : Int) ≤ (9223372036854775807 : Int))) = true, (decide (n ≥ (100000 : Int))) = true, lenF n * (78913 : Int) / (262144 : Int) = (5 : Int), (decide ((-9223372036854775808 : Int) ≤ lenF n * (78913 : Int) ∧ lenF n * (78913 : Int) ≤ (9223372036854775807 : Int))) = true, C124.pre [Value.int IntKind.u64 n]]) : ∃ st', Go.Ai.call cx ov1 1000 101 [.int .u64 n] ⟨keepIds st0.hp [2], st0.ct⟩ = some (Value.int IntKind.i64 (lenF n * (78913 : Int) / (262144 : Int) + (1 : Int)), st') :=
  path_call ref1 (toks := [.yes, .ev, .at (5), .ev, .ev, .yes, .yes]) (by kernel_rfl) h
theorem F101_p11 (n : Int) (h : Holds [(decide ((-9223372036854775808 : Int) ≤ lenF n * (78913 : Int) / (262144 : Int) + (0 : Int) ∧ lenF n * (78913 : Int) / (262144 : Int) + (0 : Int) ≤ (9223372036854775807 : Int))) = true, (decide (n ≥ (1000000 : Int))) = false, lenF n * (78913 : Int) / (262144 : Int) = (6 : Int), (decide ((-9223372036854775808 : Int) ≤ lenF n * (78913 : Int) ∧ lenF n * (78913 : Int) ≤ (9223372036854775807 : Int))) = true, C124.pre [Value.int IntKind.u64 n]]) : ∃ st', Go.Ai.call cx ov1 1000 101 [.int .u64 n] ⟨keepIds st0.hp [2], st0.ct⟩ = some (Value.int IntKind.i64 (lenF n * (78913 : Int) / (262144 : Int) + (0 : Int)), st') :=
  path_call ref1 (toks := [.yes, .ev, .at (6), .ev, .ev, .no, .yes]) (by kernel_rfl) h
theorem F101_p12 (n : Int) (h : Holds [(decide ((-9223372036854775808 : Int) ≤ lenF n * (78913 : Int) / (262144 : Int) + (1 : Int) ∧ lenF n * (78913 : Int) / (262144 : Int) + (1 : Int) ≤ (9223372036854775807 : Int))) = true, (decide (n ≥ (1000000 : Int))) = true, lenF n * (78913 : Int) / (262144 : Int) = (6 : Int), (decide ((-9223372036854775808 : Int) ≤ lenF n * (78913 : Int) ∧ lenF n * (78913 : Int) ≤ (9223372036854775807 : Int))) = true, C124.pre [Value.int IntKind.u64 n]]) : ∃ st', Go.Ai.call cx ov1 1000 101 [.int .u64 n] ⟨keepIds st0.hp [2], st0.ct⟩ = some (Value.int IntKind.i64 (lenF n * (78913 : Int) / (262144 : Int) + (1 : Int)), st') :=
  path_call ref1 (toks := [.yes, .ev, .at (6), .ev, .ev, .yes, .yes]) (by kernel_rfl) h
theorem F101_p13 (n : Int) (h : Holds [(decide ((-9223372036854775808 : Int) ≤ lenF n * (78913 : Int) / (262144 : Int) + (0 : Int) ∧ lenF n * (78913 : Int) / (262144 : Int) + (0 : Int) ≤ (9223372036854775807 : Int))) = true, (decide (n ≥ (10000000 : Int))) = false, lenF n * (78913 : Int) / (262144 : Int) = (7 : Int), (decide ((-9223372036854775808 : Int) ≤ lenF n * (78913 : Int) ∧ lenF n * (78913 : Int) ≤ (9223372036854775807 : Int))) = true, C124.pre [Value.int IntKind.u64 n]]) : ∃ st', Go.Ai.call cx ov1 1000 101 [.int .u64 n] ⟨keepIds st0.hp [2], st0.ct⟩ = some (Value.int IntKind.i64 (lenF n * (78913 : Int) / (262144 : Int) + (0 : Int)), st') :=
  path_call ref1 (toks := [.yes, .ev, .at (7), .ev, .ev, .no, .yes]) (by kernel_rfl) h
theorem F101_p14 (n : Int) (h : Holds [(decide ((-9223372036854775808 : Int) ≤ lenF n * (78913 : Int) / (262144 : Int) + (1 : Int) ∧ lenF n * (78913 : Int) / (262144 : Int) + (1 : Int) ≤ (9223372036854775807 : Int))) = true, (decide (n ≥ (10000000 : Int))) = true, lenF n * (78913 : Int) / (262144 : Int) = (7 : Int), (decide ((-9223372036854775808 : Int) ≤ lenF n * (78913 : Int) ∧ lenF n * (78913 : Int) ≤ (9223372036854775807 : Int))) = true, C124.pre [Value.int IntKind.u64 n]]) : ∃ st', Go.Ai.call cx ov1 1000 101 [.int .u64 n] ⟨keepIds st0.hp [2], st0.ct⟩ = some (Value.int IntKind.i64 (lenF n * (78913 : Int) / (262144 : Int) + (1 : Int)), st') :=
  path_call ref1 (toks := [.yes, .ev, .at (7), .ev, .ev, .yes, .yes]) (by kernel_rfl) h
theorem F101_p15 (n : Int) (h : Holds [(decide ((-9223372036854775808 : Int) ≤ lenF n * (78913 : Int) / (262144 : Int) + (0 : Int) ∧ lenF n * (78913 : Int) / (262144 : Int) + (0 : Int) ≤ (9223372036854775807 : Int))) = true, (decide (n ≥ (100000000 : Int))) = false, lenF n * (78913 : Int) / (262144 : Int) = (8 : Int), (decide ((-9223372036854775808 : Int) ≤ lenF n * (78913 : Int) ∧ lenF n * (78913 : Int) ≤ (9223372036854775807 : Int))) = true, C124.pre [Value.int IntKind.u64 n]]) : ∃ st', Go.Ai.call cx ov1 1000 101 [.int .u64 n] ⟨keepIds st0.hp [2], st0.ct⟩ = some (Value.int IntKind.i64 (lenF n * (78913 : Int) / (262144 : Int) + (0 : Int)), st') :=
  path_call ref1 (toks := [.yes, .ev, .at (8), .ev, .ev, .no, .yes]) (by kernel_rfl) h
theorem F101_p16 (n : Int) (h : Holds [(decide ((-9223372036854775808 : Int) ≤ lenF n * (78913 : Int) / (262144 : Int) + (1 : Int) ∧ lenF n * (78913 : Int) / (262144 : Int) + (1 : Int) ≤ (9223372036854775807 : Int))) = true, (decide (n ≥ (100000000 : Int))) = true, lenF n * (78913 : Int) / (262144 : Int) = (8 : Int), (decide ((-9223372036854775808 : Int) ≤ lenF n * (78913 : Int) ∧ lenF n * (78913 : Int) ≤ (9223372036854775807 : Int))) = true, C124.pre [Value.int IntKind.u64 n]]) : ∃ st', Go.Ai.call cx ov1 1000 101 [.int .u64 n] ⟨keepIds st0.hp [2], st0.ct⟩ = some (Value.int IntKind.i64 (lenF n * (78913 : Int) / (262144 : Int) + (1 : Int)), st') :=
  path_call ref1 (toks := [.yes, .ev, .at (8), .ev, .ev, .yes, .yes]) (by kernel_rfl) h
theorem F101_p17 (n : Int) (h : Holds [(decide ((-9223372036854775808 : Int) ≤ lenF n * (78913 : Int) / (262144 : Int) + (0 : Int) ∧ lenF n * (78913 : Int) / (262144 : Int) + (0 : Int) ≤ (9223372036854775807 : Int))) = true, (decide (n ≥ (1000000000 : Int))) = false, lenF n * (78913 : Int) / (262144 : Int) = (9 : Int), (decide ((-9223372036854775808 : Int) ≤ lenF n * (78913 : Int) ∧ lenF n * (78913 : Int) ≤ (9223372036854775807 : Int))) = true, C124.pre [Value.int IntKind.u64 n]]) : ∃ st', Go.Ai.call cx ov1 1000 101 [.int .u64 n] ⟨keepIds st0.hp [2], st0.ct⟩ = some (Value.int IntKind.i64 (lenF n * (78913 : Int) / (262144 : Int) + (0 : Int)), st') :=
  path_call ref1 (toks := [.yes, .ev, .at (9), .ev, .ev, .no, .yes]) (by kernel_rfl) h
theorem F101_p18 (n : Int) (h : Holds [(decide ((-9223372036854775808 : Int) ≤ lenF n * (78913 : Int) / (262144 : Int) + (1 : Int) ∧ lenF n * (78913 : Int) / (262144 : Int) + (1 : Int) ≤ (9223372036854775807 : Int))) = true, (decide (n ≥ (1000000000 : Int))) = true, lenF n * (78913 : Int) / (262144 : Int) = (9 : Int), (decide ((-9223372036854775808 : Int) ≤ lenF n * (78913 : Int) ∧ lenF n * (78913 : Int) ≤ (9223372036854775807 : Int))) = true, C124.pre [Value.int IntKind.u64 n]]) : ∃ st', Go.Ai.call cx ov1 1000 101 [.int .u64 n] ⟨keepIds st0.hp [2], st0.ct⟩ = some (Value.int IntKind.i64 (lenF n * (78913 : Int) / (262144 : Int) + (1 : Int)), st') :=
  path_call ref1 (toks := [.yes, .ev, .at (9), .ev, .ev, .yes, .yes]) (by kernel_rfl) h
theorem F101_all (n : Int) (h0 : 1 ≤ n) (h1 : n < 4294967296) : ∃ st', Go.Ai.call cx ov1 1000 101 [.int .u64 n] ⟨keepIds st0.hp [2], st0.ct⟩ = some (.int .i64 (ndF n), st') := by
  have hT := lenF_tab n (by omega) h1
  cases b0 : (decide ((-9223372036854775808 : Int) ≤ lenF n * (78913 : Int) ∧ lenF n * (78913 : Int) ≤ (9223372036854775807 : Int)))
  ·
    have c0 := of_decide_eq_false b0
    (exfalso; omega)
  ·
    have c0 := of_decide_eq_true b0
    by_cases b1 : lenF n * (78913 : Int) / (262144 : Int) = (0 : Int)
    ·
      cases b2 : (decide (n ≥ (1 : Int)))
      ·
        have c2 := of_decide_eq_false b2
        (exfalso; omega)
      ·
        have c2 := of_decide_eq_true b2
        cases b3 : (decide ((-9223372036854775808 : Int) ≤ lenF n * (78913 : Int) / (262144 : Int) + (1 : Int) ∧ lenF n * (78913 : Int) / (262144 : Int) + (1 : Int) ≤ (9223372036854775807 : Int)))
        ·
          have c3 := of_decide_eq_false b3
          (exfalso; omega)
        ·
          have c3 := of_decide_eq_true b3
          obtain ⟨st', h⟩ := F101_p0 n ⟨b3, b2, b1, b0, (by first | exact ⟨_, rfl, by omega, by omega⟩ | omega), trivial⟩
          exact ⟨st', h.trans (congrArg (fun v => some (v, st')) (by refine congrArg (Value.int .i64) ?_; have hN := ndF_tab n; omega))⟩
    ·
      by_cases b2 : lenF n * (78913 : Int) / (262144 : Int) = (1 : Int)
      ·
        cases b3 : (decide (n ≥ (10 : Int)))
        ·
          have c3 := of_decide_eq_false b3
          cases b4 : (decide ((-9223372036854775808 : Int) ≤ lenF n * (78913 : Int) / (262144 : Int) + (0 : Int) ∧ lenF n * (78913 : Int) / (262144 : Int) + (0 : Int) ≤ (9223372036854775807 : Int)))
          ·
            have c4 := of_decide_eq_false b4
            (exfalso; omega)
          ·
            have c4 := of_decide_eq_true b4
            obtain ⟨st', h⟩ := F101_p1 n ⟨b4, b3, b2, b0, (by first | exact ⟨_, rfl, by omega, by omega⟩ | omega), trivial⟩
            exact ⟨st', h.trans (congrArg (fun v => some (v, st')) (by refine congrArg (Value.int .i64) ?_; have hN := ndF_tab n; omega))⟩
        ·
          have c3 := of_decide_eq_true b3
          cases b4 : (decide ((-9223372036854775808 : Int) ≤ lenF n * (78913 : Int) / (262144 : Int) + (1 : Int) ∧ lenF n * (78913 : Int) / (262144 : Int) + (1 : Int) ≤ (9223372036854775807 : Int)))
          ·
            have c4 := of_decide_eq_false b4
            (exfalso; omega)
          ·
            have c4 := of_decide_eq_true b4
            obtain ⟨st', h⟩ := F101_p2 n ⟨b4, b3, b2, b0, (by first | exact ⟨_, rfl, by omega, by omega⟩ | omega), trivial⟩
            exact ⟨st', h.trans (congrArg (fun v => some (v, st')) (by refine congrArg (Value.int .i64) ?_; have hN := ndF_tab n; omega))⟩
      ·
        by_cases b3 : lenF n * (78913 : Int) / (262144 : Int) = (2 : Int)
        ·
          cases b4 : (decide (n ≥ (100 : Int)))
          ·
            have c4 := of_decide_eq_false b4
            cases b5 : (decide ((-9223372036854775808 : Int) ≤ lenF n * (78913 : Int) / (262144 : Int) + (0 : Int) ∧ lenF n * (78913 : Int) / (262144 : Int) + (0 : Int) ≤ (9223372036854775807 : Int)))
            ·
              have c5 := of_decide_eq_false b5
              (exfalso; omega)
            ·
              have c5 := of_decide_eq_true b5
              obtain ⟨st', h⟩ := F101_p3 n ⟨b5, b4, b3, b0, (by first | exact ⟨_, rfl, by omega, by omega⟩ | omega), trivial⟩
              exact ⟨st', h.trans (congrArg (fun v => some (v, st')) (by refine congrArg (Value.int .i64) ?_; have hN := ndF_tab n; omega))⟩
          ·
            have c4 := of_decide_eq_true b4
            cases b5 : (decide ((-9223372036854775808 : Int) ≤ lenF n * (78913 : Int) / (262144 : Int) + (1 : Int) ∧ lenF n * (78913 : Int) / (262144 : Int) + (1 : Int) ≤ (9223372036854775807 : Int)))
            ·
              have c5 := of_decide_eq_false b5
              (exfalso; omega)
            ·
              have c5 := of_decide_eq_true b5
              obtain ⟨st', h⟩ := F101_p4 n ⟨b5, b4, b3, b0, (by first | exact ⟨_, rfl, by omega, by omega⟩ | omega), trivial⟩
              exact ⟨st', h.trans (congrArg (fun v => some (v, st')) (by refine congrArg (Value.int .i64) ?_; have hN := ndF_tab n; omega))⟩
        ·
          by_cases b4 : lenF n * (78913 : Int) / (262144 : Int) = (3 : Int)
          ·
            cases b5 : (decide (n ≥ (1000 : Int)))
            ·
              have c5 := of_decide_eq_false b5
              cases b6 : (decide ((-9223372036854775808 : Int) ≤ lenF n * (78913 : Int) / (262144 : Int) + (0 : Int) ∧ lenF n * (78913 : Int) / (262144 : Int) + (0 : Int) ≤ (9223372036854775807 : Int)))
              ·
                have c6 := of_decide_eq_false b6
                (exfalso; omega)
              ·
                have c6 := of_decide_eq_true b6
                obtain ⟨st', h⟩ := F101_p5 n ⟨b6, b5, b4, b0, (by first | exact ⟨_, rfl, by omega, by omega⟩ | omega), trivial⟩
                exact ⟨st', h.trans (congrArg (fun v => some (v, st')) (by refine congrArg (Value.int .i64) ?_; have hN := ndF_tab n; omega))⟩
            ·
              have c5 := of_decide_eq_true b5
              cases b6 : (decide ((-9223372036854775808 : Int) ≤ lenF n * (78913 : Int) / (262144 : Int) + (1 : Int) ∧ lenF n * (78913 : Int) / (262144 : Int) + (1 : Int) ≤ (9223372036854775807 : Int)))
              ·
                have c6 := of_decide_eq_false b6
                (exfalso; omega)
              ·
                have c6 := of_decide_eq_true b6
                obtain ⟨st', h⟩ := F101_p6 n ⟨b6, b5, b4, b0, (by first | exact ⟨_, rfl, by omega, by omega⟩ | omega), trivial⟩
                exact ⟨st', h.trans (congrArg (fun v => some (v, st')) (by refine congrArg (Value.int .i64) ?_; have hN := ndF_tab n; omega))⟩
          ·
            by_cases b5 : lenF n * (78913 : Int) / (262144 : Int) = (4 : Int)
            ·
              cases b6 : (decide (n ≥ (10000 : Int)))
              ·
                have c6 := of_decide_eq_false b6
                cases b7 : (decide ((-9223372036854775808 : Int) ≤ lenF n * (78913 : Int) / (262144 : Int) + (0 : Int) ∧ lenF n * (78913 : Int) / (262144 : Int) + (0 : Int) ≤ (9223372036854775807 : Int)))
                ·
                  have c7 := of_decide_eq_false b7
                  (exfalso; omega)
                ·
                  have c7 := of_decide_eq_true b7
                  obtain ⟨st', h⟩ := F101_p7 n ⟨b7, b6, b5, b0, (by first | exact ⟨_, rfl, by omega, by omega⟩ | omega), trivial⟩
                  exact ⟨st', h.trans (congrArg (fun v => some (v, st')) (by refine congrArg (Value.int .i64) ?_; have hN := ndF_tab n; omega))⟩
              ·
                have c6 := of_decide_eq_true b6
                cases b7 : (decide ((-9223372036854775808 : Int) ≤ lenF n * (78913 : Int) / (262144 : Int) + (1 : Int) ∧ lenF n * (78913 : Int) / (262144 : Int) + (1 : Int) ≤ (9223372036854775807 : Int)))
                ·
                  have c7 := of_decide_eq_false b7
                  (exfalso; omega)
                ·
                  have c7 := of_decide_eq_true b7
                  obtain ⟨st', h⟩ := F101_p8 n ⟨b7, b6, b5, b0, (by first | exact ⟨_, rfl, by omega, by omega⟩ | omega), trivial⟩
                  exact ⟨st', h.trans (congrArg (fun v => some (v, st')) (by refine congrArg (Value.int .i64) ?_; have hN := ndF_tab n; omega))⟩
            ·
              by_cases b6 : lenF n * (78913 : Int) / (262144 : Int) = (5 : Int)
              ·
                cases b7 : (decide (n ≥ (100000 : Int)))
                ·
                  have c7 := of_decide_eq_false b7
                  cases b8 : (decide ((-9223372036854775808 : Int) ≤ lenF n * (78913 : Int) / (262144 : Int) + (0 : Int) ∧ lenF n * (78913 : Int) / (262144 : Int) + (0 : Int) ≤ (9223372036854775807 : Int)))
                  ·
                    have c8 := of_decide_eq_false b8
                    (exfalso; omega)
                  ·
                    have c8 := of_decide_eq_true b8
                    obtain ⟨st', h⟩ := F101_p9 n ⟨b8, b7, b6, b0, (by first | exact ⟨_, rfl, by omega, by omega⟩ | omega), trivial⟩
                    exact ⟨st', h.trans (congrArg (fun v => some (v, st')) (by refine congrArg (Value.int .i64) ?_; have hN := ndF_tab n; omega))⟩
                ·
                  have c7 := of_decide_eq_true b7
                  cases b8 : (decide ((-9223372036854775808 : Int) ≤ lenF n * (78913 : Int) / (262144 : Int) + (1 : Int) ∧ lenF n * (78913 : Int) / (262144 : Int) + (1 : Int) ≤ (9223372036854775807 : Int)))
                  ·
                    have c8 := of_decide_eq_false b8
                    (exfalso; omega)
                  ·
                    have c8 := of_decide_eq_true b8
                    obtain ⟨st', h⟩ := F101_p10 n ⟨b8, b7, b6, b0, (by first | exact ⟨_, rfl, by omega, by omega⟩ | omega), trivial⟩
                    exact ⟨st', h.trans (congrArg (fun v => some (v, st')) (by refine congrArg (Value.int .i64) ?_; have hN := ndF_tab n; omega))⟩
              ·
                by_cases b7 : lenF n * (78913 : Int) / (262144 : Int) = (6 : Int)
                ·
                  cases b8 : (decide (n ≥ (1000000 : Int)))
                  ·
                    have c8 := of_decide_eq_false b8
                    cases b9 : (decide ((-9223372036854775808 : Int) ≤ lenF n * (78913 : Int) / (262144 : Int) + (0 : Int) ∧ lenF n * (78913 : Int) / (262144 : Int) + (0 : Int) ≤ (9223372036854775807 : Int)))
                    ·
                      have c9 := of_decide_eq_false b9
                      (exfalso; omega)
                    ·
                      have c9 := of_decide_eq_true b9
                      obtain ⟨st', h⟩ := F101_p11 n ⟨b9, b8, b7, b0, (by first | exact ⟨_, rfl, by omega, by omega⟩ | omega), trivial⟩
                      exact ⟨st', h.trans (congrArg (fun v => some (v, st')) (by refine congrArg (Value.int .i64) ?_; have hN := ndF_tab n; omega))⟩
                  ·
                    have c8 := of_decide_eq_true b8
                    cases b9 : (decide ((-9223372036854775808 : Int) ≤ lenF n * (78913 : Int) / (262144 : Int) + (1 : Int) ∧ lenF n * (78913 : Int) / (262144 : Int) + (1 : Int) ≤ (9223372036854775807 : Int)))
                    ·
                      have c9 := of_decide_eq_false b9
                      (exfalso; omega)
                    ·
                      have c9 := of_decide_eq_true b9
                      obtain ⟨st', h⟩ := F101_p12 n ⟨b9, b8, b7, b0, (by first | exact ⟨_, rfl, by omega, by omega⟩ | omega), trivial⟩
                      exact ⟨st', h.trans (congrArg (fun v => some (v, st')) (by refine congrArg (Value.int .i64) ?_; have hN := ndF_tab n; omega))⟩
                ·
                  by_cases b8 : lenF n * (78913 : Int) / (262144 : Int) = (7 : Int)
                  ·
                    cases b9 : (decide (n ≥ (10000000 : Int)))
                    ·
                      have c9 := of_decide_eq_false b9
                      cases b10 : (decide ((-9223372036854775808 : Int) ≤ lenF n * (78913 : Int) / (262144 : Int) + (0 : Int) ∧ lenF n * (78913 : Int) / (262144 : Int) + (0 : Int) ≤ (9223372036854775807 : Int)))
                      ·
                        have c10 := of_decide_eq_false b10
                        (exfalso; omega)
                      ·
                        have c10 := of_decide_eq_true b10
                        obtain ⟨st', h⟩ := F101_p13 n ⟨b10, b9, b8, b0, (by first | exact ⟨_, rfl, by omega, by omega⟩ | omega), trivial⟩
                        exact ⟨st', h.trans (congrArg (fun v => some (v, st')) (by refine congrArg (Value.int .i64) ?_; have hN := ndF_tab n; omega))⟩
                    ·
                      have c9 := of_decide_eq_true b9
                      cases b10 : (decide ((-9223372036854775808 : Int) ≤ lenF n * (78913 : Int) / (262144 : Int) + (1 : Int) ∧ lenF n * (78913 : Int) / (262144 : Int) + (1 : Int) ≤ (9223372036854775807 : Int)))
                      ·
                        have c10 := of_decide_eq_false b10
                        (exfalso; omega)
                      ·
                        have c10 := of_decide_eq_true b10
                        obtain ⟨st', h⟩ := F101_p14 n ⟨b10, b9, b8, b0, (by first | exact ⟨_, rfl, by omega, by omega⟩ | omega), trivial⟩
                        exact ⟨st', h.trans (congrArg (fun v => some (v, st')) (by refine congrArg (Value.int .i64) ?_; have hN := ndF_tab n; omega))⟩
                  ·
                    by_cases b9 : lenF n * (78913 : Int) / (262144 : Int) = (8 : Int)
                    ·
                      cases b10 : (decide (n ≥ (100000000 : Int)))
                      ·
                        have c10 := of_decide_eq_false b10
                        cases b11 : (decide ((-9223372036854775808 : Int) ≤ lenF n * (78913 : Int) / (262144 : Int) + (0 : Int) ∧ lenF n * (78913 : Int) / (262144 : Int) + (0 : Int) ≤ (9223372036854775807 : Int)))
                        ·
                          have c11 := of_decide_eq_false b11
                          (exfalso; omega)
                        ·
                          have c11 := of_decide_eq_true b11
                          obtain ⟨st', h⟩ := F101_p15 n ⟨b11, b10, b9, b0, (by first | exact ⟨_, rfl, by omega, by omega⟩ | omega), trivial⟩
                          exact ⟨st', h.trans (congrArg (fun v => some (v, st')) (by refine congrArg (Value.int .i64) ?_; have hN := ndF_tab n; omega))⟩
                      ·
                        have c10 := of_decide_eq_true b10
                        cases b11 : (decide ((-9223372036854775808 : Int) ≤ lenF n * (78913 : Int) / (262144 : Int) + (1 : Int) ∧ lenF n * (78913 : Int) / (262144 : Int) + (1 : Int) ≤ (9223372036854775807 : Int)))
                        ·
                          have c11 := of_decide_eq_false b11
                          (exfalso; omega)
                        ·
                          have c11 := of_decide_eq_true b11
                          obtain ⟨st', h⟩ := F101_p16 n ⟨b11, b10, b9, b0, (by first | exact ⟨_, rfl, by omega, by omega⟩ | omega), trivial⟩
                          exact ⟨st', h.trans (congrArg (fun v => some (v, st')) (by refine congrArg (Value.int .i64) ?_; have hN := ndF_tab n; omega))⟩
                    ·
                      by_cases b10 : lenF n * (78913 : Int) / (262144 : Int) = (9 : Int)
                      ·
                        cases b11 : (decide (n ≥ (1000000000 : Int)))
                        ·
                          have c11 := of_decide_eq_false b11
                          cases b12 : (decide ((-9223372036854775808 : Int) ≤ lenF n * (78913 : Int) / (262144 : Int) + (0 : Int) ∧ lenF n * (78913 : Int) / (262144 : Int) + (0 : Int) ≤ (9223372036854775807 : Int)))
                          ·
                            have c12 := of_decide_eq_false b12
                            (exfalso; omega)
                          ·
                            have c12 := of_decide_eq_true b12
                            obtain ⟨st', h⟩ := F101_p17 n ⟨b12, b11, b10, b0, (by first | exact ⟨_, rfl, by omega, by omega⟩ | omega), trivial⟩
                            exact ⟨st', h.trans (congrArg (fun v => some (v, st')) (by refine congrArg (Value.int .i64) ?_; have hN := ndF_tab n; omega))⟩
                        ·
                          have c11 := of_decide_eq_true b11
                          cases b12 : (decide ((-9223372036854775808 : Int) ≤ lenF n * (78913 : Int) / (262144 : Int) + (1 : Int) ∧ lenF n * (78913 : Int) / (262144 : Int) + (1 : Int) ≤ (9223372036854775807 : Int)))
                          ·
                            have c12 := of_decide_eq_false b12
                            (exfalso; omega)
                          ·
                            have c12 := of_decide_eq_true b12
                            obtain ⟨st', h⟩ := F101_p18 n ⟨b12, b11, b10, b0, (by first | exact ⟨_, rfl, by omega, by omega⟩ | omega), trivial⟩
                            exact ⟨st', h.trans (congrArg (fun v => some (v, st')) (by refine congrArg (Value.int .i64) ?_; have hN := ndF_tab n; omega))⟩
                      ·
                        (exfalso; omega)
def C101 : FC := ⟨101, fun l => ∃ n, l = [.int .u64 n] ∧ 1 ≤ n ∧ n < 4294967296, fun l => match l with | [.int _ n] => .int .i64 (ndF n) | _ => undef, [2]⟩
theorem C101_good : C101.Good Tryd.prog ov1 st0 := ⟨by kernel_rfl, fun args ⟨n, e, h0, h1⟩ => by subst e; exact ⟨rfl, rfl, 1000, F101_all n h0 h1⟩⟩
noncomputable def ov2 : Ov := ovWith st0 [C101] [] ov1
noncomputable def ovO2 : OvO := ovOWith st0 [C101] [] ovO1
theorem ref2 : OvRef ov2 ovO2 := ovWith_ref ref1
theorem ov2_ok : OvOk Tryd.prog ov2 ∧ OvMono ov2 ∧ OvIds ov2 :=
  ⟨ovWith_ok Tryd.checked.mixed ov1_ok.1 ov1_ok.2.1 ov1_ok.2.2 ngb_st0 (fun C h => by simp at h; subst h; exact C101_good) (fun x h => by cases h),
   ovWith_mono ov1_ok.2.1 (fun x h => by cases h), ovWith_ids ov1_ok.2.2⟩
end Go.Proofs.YtgmojlibppmfhaaDoor

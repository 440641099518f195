/- Runs of the abstract interpreter, part 18: by an AI agent. -/
import Derived.Test.YtgmojlibppmfhaaDoorPart17

namespace Go.Proofs.YtgmojlibppmfhaaDoor
open Go Go.Ai
theorem refb0 : OvRef ov0 ovONone := ovONone_ref ov0_lp
theorem F124_p0 (n : Int) (h : Holds [(decide ((-9223372036854775808 : Int) ≤ (0 : Int) + byteAt len8 n.toNat ∧ (0 : Int) + byteAt len8 n.toNat ≤ (9223372036854775807 : Int))) = true, (decide ((-9223372036854775808 : Int) ≤ byteAt len8 n.toNat ∧ byteAt len8 n.toNat ≤ (9223372036854775807 : Int))) = true, (decide ((0 : Int) ≤ n ∧ n < (256 : Int))) = true, (decide ((0 : Int) ≤ n ∧ n ≤ (255 : Int))) = true, (decide (n ≥ (256 : Int))) = false, (decide (n ≥ (65536 : Int))) = false, (decide (n ≥ (4294967296 : Int))) = false]) : ∃ st', Go.Ai.call cx ov0 1000 124 [.int .u64 n] ⟨keepIds st0.hp [], st0.ct⟩ = some (Value.int IntKind.i64 ((0 : Int) + byteAt len8 n.toNat), st') :=
  path_call refb0 (toks := [.no, .no, .no, .yes, .yes, .yes, .yes]) (by kernel_rfl) h
theorem F124_p1 (n : Int) (h : Holds [(decide ((-9223372036854775808 : Int) ≤ (8 : Int) + byteAt len8 (n / (256 : Int)).toNat ∧ (8 : Int) + byteAt len8 (n / (256 : Int)).toNat ≤ (9223372036854775807 : Int))) = true, (decide ((-9223372036854775808 : Int) ≤ byteAt len8 (n / (256 : Int)).toNat ∧ byteAt len8 (n / (256 : Int)).toNat ≤ (9223372036854775807 : Int))) = true, (decide ((0 : Int) ≤ n / (256 : Int) ∧ n / (256 : Int) < (256 : Int))) = true, (decide ((0 : Int) ≤ n / (256 : Int) ∧ n / (256 : Int) ≤ (255 : Int))) = true, (decide (n ≥ (256 : Int))) = true, (decide (n ≥ (65536 : Int))) = false, (decide (n ≥ (4294967296 : Int))) = false]) : ∃ st', Go.Ai.call cx ov0 1000 124 [.int .u64 n] ⟨keepIds st0.hp [], st0.ct⟩ = some (Value.int IntKind.i64 ((8 : Int) + byteAt len8 (n / (256 : Int)).toNat), st') :=
  path_call refb0 (toks := [.no, .no, .yes, .ev, .ev, .yes, .yes, .yes, .yes]) (by kernel_rfl) h
theorem F124_p2 (n : Int) (h : Holds [(decide ((-9223372036854775808 : Int) ≤ (16 : Int) + byteAt len8 (n / (65536 : Int)).toNat ∧ (16 : Int) + byteAt len8 (n / (65536 : Int)).toNat ≤ (9223372036854775807 : Int))) = true, (decide ((-9223372036854775808 : Int) ≤ byteAt len8 (n / (65536 : Int)).toNat ∧ byteAt len8 (n / (65536 : Int)).toNat ≤ (9223372036854775807 : Int))) = true, (decide ((0 : Int) ≤ n / (65536 : Int) ∧ n / (65536 : Int) < (256 : Int))) = true, (decide ((0 : Int) ≤ n / (65536 : Int) ∧ n / (65536 : Int) ≤ (255 : Int))) = true, (decide (n / (65536 : Int) ≥ (256 : Int))) = false, (decide (n ≥ (65536 : Int))) = true, (decide (n ≥ (4294967296 : Int))) = false]) : ∃ st', Go.Ai.call cx ov0 1000 124 [.int .u64 n] ⟨keepIds st0.hp [], st0.ct⟩ = some (Value.int IntKind.i64 ((16 : Int) + byteAt len8 (n / (65536 : Int)).toNat), st') :=
  path_call refb0 (toks := [.no, .yes, .ev, .ev, .no, .yes, .yes, .yes, .yes]) (by kernel_rfl) h
theorem F124_p3 (n : Int) (h : Holds [(decide ((-9223372036854775808 : Int) ≤ (24 : Int) + byteAt len8 (n / (65536 : Int) / (256 : Int)).toNat ∧ (24 : Int) + byteAt len8 (n / (65536 : Int) / (256 : Int)).toNat ≤ (9223372036854775807 : Int))) = true, (decide ((-9223372036854775808 : Int) ≤ byteAt len8 (n / (65536 : Int) / (256 : Int)).toNat ∧ byteAt len8 (n / (65536 : Int) / (256 : Int)).toNat ≤ (9223372036854775807 : Int))) = true, (decide ((0 : Int) ≤ n / (65536 : Int) / (256 : Int) ∧ n / (65536 : Int) / (256 : Int) < (256 : Int))) = true, (decide ((0 : Int) ≤ n / (65536 : Int) / (256 : Int) ∧ n / (65536 : Int) / (256 : Int) ≤ (255 : Int))) = true, (decide (n / (65536 : Int) ≥ (256 : Int))) = true, (decide (n ≥ (65536 : Int))) = true, (decide (n ≥ (4294967296 : Int))) = false]) : ∃ st', Go.Ai.call cx ov0 1000 124 [.int .u64 n] ⟨keepIds st0.hp [], st0.ct⟩ = some (Value.int IntKind.i64 ((24 : Int) + byteAt len8 (n / (65536 : Int) / (256 : Int)).toNat), st') :=
  path_call refb0 (toks := [.no, .yes, .ev, .ev, .yes, .ev, .ev, .yes, .yes, .yes, .yes]) (by kernel_rfl) h
theorem F124_all (n : Int) (h0 : 0 ≤ n) (h1 : n < 4294967296) : ∃ st', Go.Ai.call cx ov0 1000 124 [.int .u64 n] ⟨keepIds st0.hp [], st0.ct⟩ = some (.int .i64 (lenF n), st') := by
  have r0 := byteAt_range len8 n.toNat; have r1 := byteAt_range len8 (n / 256).toNat; have r2 := byteAt_range len8 (n / 65536).toNat; have r3 := byteAt_range len8 (n / 65536 / 256).toNat
  cases b0 : (decide (n ≥ (4294967296 : Int)))
  ·
    have c0 := of_decide_eq_false b0
    cases b1 : (decide (n ≥ (65536 : Int)))
    ·
      have c1 := of_decide_eq_false b1
      cases b2 : (decide (n ≥ (256 : Int)))
      ·
        have c2 := of_decide_eq_false b2
        cases b3 : (decide ((0 : Int) ≤ n ∧ n ≤ (255 : Int)))
        ·
          have c3 := of_decide_eq_false b3
          (exfalso; omega)
        ·
          have c3 := of_decide_eq_true b3
          cases b4 : (decide ((0 : Int) ≤ n ∧ n < (256 : Int)))
          ·
            have c4 := of_decide_eq_false b4
            (exfalso; omega)
          ·
            have c4 := of_decide_eq_true b4
            cases b5 : (decide ((-9223372036854775808 : Int) ≤ byteAt len8 n.toNat ∧ byteAt len8 n.toNat ≤ (9223372036854775807 : Int)))
            ·
              have c5 := of_decide_eq_false b5
              (exfalso; omega)
            ·
              have c5 := of_decide_eq_true b5
              cases b6 : (decide ((-9223372036854775808 : Int) ≤ (0 : Int) + byteAt len8 n.toNat ∧ (0 : Int) + byteAt len8 n.toNat ≤ (9223372036854775807 : Int)))
              ·
                have c6 := of_decide_eq_false b6
                (exfalso; omega)
              ·
                have c6 := of_decide_eq_true b6
                obtain ⟨st', h⟩ := F124_p0 n ⟨b6, b5, b4, b3, b2, b1, b0, trivial⟩
                exact ⟨st', h.trans (congrArg (fun v => some (v, st')) (by refine congrArg (Value.int .i64) ?_; rw [len8_is n (by omega) (by omega)]; omega))⟩
      ·
        have c2 := of_decide_eq_true b2
        cases b3 : (decide ((0 : Int) ≤ n / (256 : Int) ∧ n / (256 : Int) ≤ (255 : Int)))
        ·
          have c3 := of_decide_eq_false b3
          (exfalso; omega)
        ·
          have c3 := of_decide_eq_true b3
          cases b4 : (decide ((0 : Int) ≤ n / (256 : Int) ∧ n / (256 : Int) < (256 : Int)))
          ·
            have c4 := of_decide_eq_false b4
            (exfalso; omega)
          ·
            have c4 := of_decide_eq_true b4
            cases b5 : (decide ((-9223372036854775808 : Int) ≤ byteAt len8 (n / (256 : Int)).toNat ∧ byteAt len8 (n / (256 : Int)).toNat ≤ (9223372036854775807 : Int)))
            ·
              have c5 := of_decide_eq_false b5
              (exfalso; omega)
            ·
              have c5 := of_decide_eq_true b5
              cases b6 : (decide ((-9223372036854775808 : Int) ≤ (8 : Int) + byteAt len8 (n / (256 : Int)).toNat ∧ (8 : Int) + byteAt len8 (n / (256 : Int)).toNat ≤ (9223372036854775807 : Int)))
              ·
                have c6 := of_decide_eq_false b6
                (exfalso; omega)
              ·
                have c6 := of_decide_eq_true b6
                obtain ⟨st', h⟩ := F124_p1 n ⟨b6, b5, b4, b3, b2, b1, b0, trivial⟩
                exact ⟨st', h.trans (congrArg (fun v => some (v, st')) (by refine congrArg (Value.int .i64) ?_; rw [len8_is (n / 256) (by omega) (by omega), lenF_8 (x := n) (by omega) (by omega)]))⟩
    ·
      have c1 := of_decide_eq_true b1
      cases b2 : (decide (n / (65536 : Int) ≥ (256 : Int)))
      ·
        have c2 := of_decide_eq_false b2
        cases b3 : (decide ((0 : Int) ≤ n / (65536 : Int) ∧ n / (65536 : Int) ≤ (255 : Int)))
        ·
          have c3 := of_decide_eq_false b3
          (exfalso; omega)
        ·
          have c3 := of_decide_eq_true b3
          cases b4 : (decide ((0 : Int) ≤ n / (65536 : Int) ∧ n / (65536 : Int) < (256 : Int)))
          ·
            have c4 := of_decide_eq_false b4
            (exfalso; omega)
          ·
            have c4 := of_decide_eq_true b4
            cases b5 : (decide ((-9223372036854775808 : Int) ≤ byteAt len8 (n / (65536 : Int)).toNat ∧ byteAt len8 (n / (65536 : Int)).toNat ≤ (9223372036854775807 : Int)))
            ·
              have c5 := of_decide_eq_false b5
              (exfalso; omega)
            ·
              have c5 := of_decide_eq_true b5
              cases b6 : (decide ((-9223372036854775808 : Int) ≤ (16 : Int) + byteAt len8 (n / (65536 : Int)).toNat ∧ (16 : Int) + byteAt len8 (n / (65536 : Int)).toNat ≤ (9223372036854775807 : Int)))
              ·
                have c6 := of_decide_eq_false b6
                (exfalso; omega)
              ·
                have c6 := of_decide_eq_true b6
                obtain ⟨st', h⟩ := F124_p2 n ⟨b6, b5, b4, b3, b2, b1, b0, trivial⟩
                exact ⟨st', h.trans (congrArg (fun v => some (v, st')) (by refine congrArg (Value.int .i64) ?_; rw [len8_is (n / 65536) (by omega) (by omega), lenF_8 (x := n) (by omega) (by omega), lenF_8 (x := n / 256) (by omega) (by omega), show n / 256 / 256 = n / 65536 by omega]; omega))⟩
      ·
        have c2 := of_decide_eq_true b2
        cases b3 : (decide ((0 : Int) ≤ n / (65536 : Int) / (256 : Int) ∧ n / (65536 : Int) / (256 : Int) ≤ (255 : Int)))
        ·
          have c3 := of_decide_eq_false b3
          (exfalso; omega)
        ·
          have c3 := of_decide_eq_true b3
          cases b4 : (decide ((0 : Int) ≤ n / (65536 : Int) / (256 : Int) ∧ n / (65536 : Int) / (256 : Int) < (256 : Int)))
          ·
            have c4 := of_decide_eq_false b4
            (exfalso; omega)
          ·
            have c4 := of_decide_eq_true b4
            cases b5 : (decide ((-9223372036854775808 : Int) ≤ byteAt len8 (n / (65536 : Int) / (256 : Int)).toNat ∧ byteAt len8 (n / (65536 : Int) / (256 : Int)).toNat ≤ (9223372036854775807 : Int)))
            ·
              have c5 := of_decide_eq_false b5
              (exfalso; omega)
            ·
              have c5 := of_decide_eq_true b5
              cases b6 : (decide ((-9223372036854775808 : Int) ≤ (24 : Int) + byteAt len8 (n / (65536 : Int) / (256 : Int)).toNat ∧ (24 : Int) + byteAt len8 (n / (65536 : Int) / (256 : Int)).toNat ≤ (9223372036854775807 : Int)))
              ·
                have c6 := of_decide_eq_false b6
                (exfalso; omega)
              ·
                have c6 := of_decide_eq_true b6
                obtain ⟨st', h⟩ := F124_p3 n ⟨b6, b5, b4, b3, b2, b1, b0, trivial⟩
                exact ⟨st', h.trans (congrArg (fun v => some (v, st')) (by refine congrArg (Value.int .i64) ?_; rw [len8_is (n / 65536 / 256) (by omega) (by omega), lenF_8 (x := n) (by omega) (by omega), lenF_8 (x := n / 256) (by omega) (by omega), lenF_8 (x := n / 256 / 256) (by omega) (by omega), show n / 256 / 256 / 256 = n / 65536 / 256 by omega]; omega))⟩
  ·
    have c0 := of_decide_eq_true b0
    (exfalso; omega)
end Go.Proofs.YtgmojlibppmfhaaDoor

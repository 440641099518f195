/- Runs of the abstract interpreter, part 11: by an AI agent. -/
import Derived.Test.YtgmojlibppmfhaaDoorPart10

namespace Go.Proofs.YtgmojlibppmfhaaDoor
open Go Go.Ai
theorem F10_p0 (n : Int) (m : Int) (h : Holds [(Go.Ai.eqS (Go.Proofs.YtgmojlibppmfhaaDoor.decB n) (Go.Proofs.YtgmojlibppmfhaaDoor.decB m) == (n == m)) = true, Go.Proofs.YtgmojlibppmfhaaDoor.C36.pre [], (Go.Ai.eqS (Go.Proofs.YtgmojlibppmfhaaDoor.decB n) (Go.Proofs.YtgmojlibppmfhaaDoor.decB m) == (n == m)) = true, (Go.Ai.eqS (Go.Proofs.YtgmojlibppmfhaaDoor.dotB n) (Go.Proofs.YtgmojlibppmfhaaDoor.decB n) == !Decidable.decide (n > (65535 : Int))) = true, (Go.Ai.eqS (Go.Proofs.YtgmojlibppmfhaaDoor.dotB n) (Go.Proofs.YtgmojlibppmfhaaDoor.decB n) == !Decidable.decide (n > (65535 : Int))) = true, (Go.Ai.eqS (Go.Proofs.YtgmojlibppmfhaaDoor.dotB n) (Go.Proofs.YtgmojlibppmfhaaDoor.decB n) == !Decidable.decide (n > (65535 : Int))) = true, (Go.Ai.eqS (Go.Proofs.YtgmojlibppmfhaaDoor.dotB n) (Go.Proofs.YtgmojlibppmfhaaDoor.decB n) == !Decidable.decide (n > (65535 : Int))) = true, (Go.Ai.eqS (Go.Proofs.YtgmojlibppmfhaaDoor.dotB n) (Go.Proofs.YtgmojlibppmfhaaDoor.decB n) == !Decidable.decide (n > (65535 : Int))) = true, (Go.Ai.eqS (Go.Proofs.YtgmojlibppmfhaaDoor.dotB n) (Go.Proofs.YtgmojlibppmfhaaDoor.decB n) == !Decidable.decide (n > (65535 : Int))) = true, Go.Proofs.YtgmojlibppmfhaaDoor.C40.pre [Go.Value.int Go.IntKind.u32 m], (Go.Ai.eqS (Go.Proofs.YtgmojlibppmfhaaDoor.dotB n) (Go.Proofs.YtgmojlibppmfhaaDoor.decB n) == !Decidable.decide (n > (65535 : Int))) = true, (Go.Ai.eqS (Go.Proofs.YtgmojlibppmfhaaDoor.dotB n) (Go.Proofs.YtgmojlibppmfhaaDoor.decB n) == !Decidable.decide (n > (65535 : Int))) = true, Go.Proofs.YtgmojlibppmfhaaDoor.C40.pre [Go.Value.int Go.IntKind.u32 n], (Go.Ai.eqS (Go.Proofs.YtgmojlibppmfhaaDoor.dotB n) (Go.Proofs.YtgmojlibppmfhaaDoor.decB n) == !Decidable.decide (n > (65535 : Int))) = true, (Go.Ai.eqS (Go.Proofs.YtgmojlibppmfhaaDoor.dotB n) (Go.Proofs.YtgmojlibppmfhaaDoor.decB n) == !Decidable.decide (n > (65535 : Int))) = true, ((n == m) == (n == m)) = true, ((n == m) == (n == m)) = true, ((n == m) == (n == m)) = true, ((n == m) == (n == m)) = true, ((n == m) == (n == m)) = true, ((n == m) == (n == m)) = true, Go.Proofs.YtgmojlibppmfhaaDoor.C40.pre [Go.Value.int Go.IntKind.u32 n], ((n == m) == (n == m)) = true, ((n == m) == (n == m)) = true, Go.Proofs.YtgmojlibppmfhaaDoor.C39.pre [Go.Value.int Go.IntKind.u32 n], ((n == m) == (n == m)) = true, ((n == m) == (n == m)) = true, (Decidable.decide (m > (65535 : Int))) = false, (Decidable.decide (m > (65535 : Int))) = false, (Decidable.decide (m > (65535 : Int))) = false, (Decidable.decide (m > (65535 : Int))) = false, (Decidable.decide (m > (65535 : Int))) = false, (Decidable.decide (m > (65535 : Int))) = false, (Decidable.decide ((0 : Int) ≤ m ∧ m ≤ (65535 : Int))) = true, (Decidable.decide (m > (65535 : Int))) = false, (Decidable.decide (m > (65535 : Int))) = false, (Decidable.decide (m > (65535 : Int))) = false, (Decidable.decide ((0 : Int) ≤ n ∧ n ≤ (65535 : Int))) = true, (Decidable.decide (n > (65535 : Int))) = false, (Decidable.decide (m > (65535 : Int))) = false, (Decidable.decide (m > (65535 : Int))) = false, (Decidable.decide (n > (65535 : Int))) = false, (Decidable.decide (n > (65535 : Int))) = false, (Decidable.decide (n > (65535 : Int))) = false, (n != n) = false, (!(n == (23456 : Int)) == (n == (23456 : Int))) = false, (!Decidable.decide (n > (65535 : Int))) = true, (!(n == (23456 : Int)) == (n == (23456 : Int))) = false, (!Decidable.decide (n > (65535 : Int))) = true, (!Decidable.decide (n > (65535 : Int))) = true, (Decidable.decide ((0 : Int) ≤ n ∧ n ≤ (4294967295 : Int))) = true, (!Decidable.decide (n > (65535 : Int))) = true, (Decidable.decide ((0 : Int) ≤ n ∧ n ≤ (65535 : Int))) = true, (Decidable.decide (n > (65535 : Int))) = false, (!Decidable.decide (n > (65535 : Int))) = true, (!Decidable.decide (n > (65535 : Int))) = true, (!(n == (23456 : Int)) == (n == (23456 : Int))) = false, (!(n == (23456 : Int)) == (n == (23456 : Int))) = false, (!(n == (23456 : Int)) == (n == (23456 : Int))) = false, (!(n == (23456 : Int)) == (n == (23456 : Int))) = false, (Decidable.decide (n > (65535 : Int))) = false, (Decidable.decide (n > (65535 : Int))) = false, (Decidable.decide (n > (65535 : Int))) = false, (Decidable.decide ((0 : Int) ≤ n ∧ n ≤ (65535 : Int))) = true, (Decidable.decide (n > (65535 : Int))) = false]) : ∃ st', Go.Ai.call cx ov4 1000 10 [.int .u32 n, .int .u32 m] stS = some (Go.Value.bool Bool.true, st') :=
  path_call ref4 (toks := [.no, .yes, .no, .no, .no, .no, .no, .no, .no, .yes, .yes, .no, .yes, .yes, .yes, .yes, .yes, .no, .yes, .no, .no, .no, .no, .no, .no, .no, .no, .yes, .no, .no, .no, .yes, .no, .no, .no, .no, .no, .no, .yes, .yes, .yes, .yes, .yes, .yes, .yes, .yes, .yes, .yes, .yes, .yes, .yes, .yes, .yes, .yes, .yes, .yes, .yes, .yes, .yes, .yes]) (by kernel_rfl) h
theorem F10_p1 (n : Int) (m : Int) (h : Holds [(Go.Ai.eqS (Go.Proofs.YtgmojlibppmfhaaDoor.decB n) (Go.Proofs.YtgmojlibppmfhaaDoor.decB m) == (n == m)) = true, Go.Proofs.YtgmojlibppmfhaaDoor.C36.pre [], (Go.Ai.eqS (Go.Proofs.YtgmojlibppmfhaaDoor.decB n) (Go.Proofs.YtgmojlibppmfhaaDoor.decB m) == (n == m)) = true, (Go.Ai.eqS (Go.Proofs.YtgmojlibppmfhaaDoor.dotB n) (Go.Proofs.YtgmojlibppmfhaaDoor.decB n) == !Decidable.decide (n > (65535 : Int))) = true, (Go.Ai.eqS (Go.Proofs.YtgmojlibppmfhaaDoor.dotB n) (Go.Proofs.YtgmojlibppmfhaaDoor.decB n) == !Decidable.decide (n > (65535 : Int))) = true, (Go.Ai.eqS (Go.Proofs.YtgmojlibppmfhaaDoor.dotB n) (Go.Proofs.YtgmojlibppmfhaaDoor.decB n) == !Decidable.decide (n > (65535 : Int))) = true, (Go.Ai.eqS (Go.Proofs.YtgmojlibppmfhaaDoor.dotB n) (Go.Proofs.YtgmojlibppmfhaaDoor.decB n) == !Decidable.decide (n > (65535 : Int))) = true, (Go.Ai.eqS (Go.Proofs.YtgmojlibppmfhaaDoor.dotB n) (Go.Proofs.YtgmojlibppmfhaaDoor.decB n) == !Decidable.decide (n > (65535 : Int))) = true, (Go.Ai.eqS (Go.Proofs.YtgmojlibppmfhaaDoor.dotB n) (Go.Proofs.YtgmojlibppmfhaaDoor.decB n) == !Decidable.decide (n > (65535 : Int))) = true, Go.Proofs.YtgmojlibppmfhaaDoor.C40.pre [Go.Value.int Go.IntKind.u32 m], (Go.Ai.eqS (Go.Proofs.YtgmojlibppmfhaaDoor.dotB n) (Go.Proofs.YtgmojlibppmfhaaDoor.decB n) == !Decidable.decide (n > (65535 : Int))) = true, (Go.Ai.eqS (Go.Proofs.YtgmojlibppmfhaaDoor.dotB n) (Go.Proofs.YtgmojlibppmfhaaDoor.decB n) == !Decidable.decide (n > (65535 : Int))) = true, Go.Proofs.YtgmojlibppmfhaaDoor.C40.pre [Go.Value.int Go.IntKind.u32 n], (Go.Ai.eqS (Go.Proofs.YtgmojlibppmfhaaDoor.dotB n) (Go.Proofs.YtgmojlibppmfhaaDoor.decB n) == !Decidable.decide (n > (65535 : Int))) = true, (Go.Ai.eqS (Go.Proofs.YtgmojlibppmfhaaDoor.dotB n) (Go.Proofs.YtgmojlibppmfhaaDoor.decB n) == !Decidable.decide (n > (65535 : Int))) = true, Go.Proofs.YtgmojlibppmfhaaDoor.C40.pre [Go.Value.int Go.IntKind.u32 n], Go.Proofs.YtgmojlibppmfhaaDoor.C39.pre [Go.Value.int Go.IntKind.u32 n], (Decidable.decide (n > (65535 : Int))) = true, (Decidable.decide (n > (65535 : Int))) = true, (Decidable.decide (n > (65535 : Int))) = true, (!Decidable.decide (n > (65535 : Int))) = false, (!Decidable.decide (n > (65535 : Int))) = false, (!Decidable.decide (n > (65535 : Int))) = false, (!Decidable.decide (n > (65535 : Int))) = false, (!Decidable.decide (n > (65535 : Int))) = false, (!Decidable.decide (n > (65535 : Int))) = false, (Decidable.decide (n > (65535 : Int))) = true, (Decidable.decide (n > (65535 : Int))) = true, (Decidable.decide (n > (65535 : Int))) = true, (Decidable.decide (n > (65535 : Int))) = true]) : ∃ st', Go.Ai.call cx ov4 1000 10 [.int .u32 n, .int .u32 m] stS = some (Go.Value.bool Bool.true, st') :=
  path_call ref4 (toks := [.yes, .yes, .yes, .yes, .ev, .ev, .ev, .ev, .no, .no, .no, .no, .no, .ev, .no, .ev, .ev, .yes, .yes, .yes, .ev, .ev, .ev, .ev, .ev, .ev, .ev, .ev, .ev, .ev, .ev, .ev, .ev, .ev, .ev, .ev, .ev, .ev, .ev, .ev, .yes, .yes, .yes, .yes, .yes, .yes, .yes, .yes, .yes, .yes, .yes, .yes]) (by kernel_rfl) h
theorem F10_p2 (n : Int) (m : Int) (h : Holds [(Go.Ai.eqS (Go.Proofs.YtgmojlibppmfhaaDoor.decB n) (Go.Proofs.YtgmojlibppmfhaaDoor.decB m) == (n == m)) = true, Go.Proofs.YtgmojlibppmfhaaDoor.C36.pre [], (Go.Ai.eqS (Go.Proofs.YtgmojlibppmfhaaDoor.decB n) (Go.Proofs.YtgmojlibppmfhaaDoor.decB m) == (n == m)) = true, (Go.Ai.eqS (Go.Proofs.YtgmojlibppmfhaaDoor.dotB n) (Go.Proofs.YtgmojlibppmfhaaDoor.decB n) == !Decidable.decide (n > (65535 : Int))) = true, (Go.Ai.eqS (Go.Proofs.YtgmojlibppmfhaaDoor.dotB n) (Go.Proofs.YtgmojlibppmfhaaDoor.decB n) == !Decidable.decide (n > (65535 : Int))) = true, (Go.Ai.eqS (Go.Proofs.YtgmojlibppmfhaaDoor.dotB n) (Go.Proofs.YtgmojlibppmfhaaDoor.decB n) == !Decidable.decide (n > (65535 : Int))) = true, (Go.Ai.eqS (Go.Proofs.YtgmojlibppmfhaaDoor.dotB n) (Go.Proofs.YtgmojlibppmfhaaDoor.decB n) == !Decidable.decide (n > (65535 : Int))) = true, (Go.Ai.eqS (Go.Proofs.YtgmojlibppmfhaaDoor.dotB n) (Go.Proofs.YtgmojlibppmfhaaDoor.decB n) == !Decidable.decide (n > (65535 : Int))) = true, (Go.Ai.eqS (Go.Proofs.YtgmojlibppmfhaaDoor.dotB n) (Go.Proofs.YtgmojlibppmfhaaDoor.decB n) == !Decidable.decide (n > (65535 : Int))) = true, Go.Proofs.YtgmojlibppmfhaaDoor.C40.pre [Go.Value.int Go.IntKind.u32 m], (Go.Ai.eqS (Go.Proofs.YtgmojlibppmfhaaDoor.dotB n) (Go.Proofs.YtgmojlibppmfhaaDoor.decB n) == !Decidable.decide (n > (65535 : Int))) = true, (Go.Ai.eqS (Go.Proofs.YtgmojlibppmfhaaDoor.dotB n) (Go.Proofs.YtgmojlibppmfhaaDoor.decB n) == !Decidable.decide (n > (65535 : Int))) = true, Go.Proofs.YtgmojlibppmfhaaDoor.C40.pre [Go.Value.int Go.IntKind.u32 n], (Go.Ai.eqS (Go.Proofs.YtgmojlibppmfhaaDoor.dotB n) (Go.Proofs.YtgmojlibppmfhaaDoor.decB n) == !Decidable.decide (n > (65535 : Int))) = true, (Go.Ai.eqS (Go.Proofs.YtgmojlibppmfhaaDoor.dotB n) (Go.Proofs.YtgmojlibppmfhaaDoor.decB n) == !Decidable.decide (n > (65535 : Int))) = true, Go.Proofs.YtgmojlibppmfhaaDoor.C40.pre [Go.Value.int Go.IntKind.u32 n], Go.Proofs.YtgmojlibppmfhaaDoor.C39.pre [Go.Value.int Go.IntKind.u32 n], (Decidable.decide (m > (65535 : Int))) = true, (Decidable.decide (m > (65535 : Int))) = true, (Decidable.decide (m > (65535 : Int))) = true, (Decidable.decide (m > (65535 : Int))) = true, (Decidable.decide (m > (65535 : Int))) = true, (Decidable.decide (m > (65535 : Int))) = true, (Decidable.decide (m > (65535 : Int))) = true, (Decidable.decide (m > (65535 : Int))) = true, (Decidable.decide (m > (65535 : Int))) = true, (Decidable.decide (m > (65535 : Int))) = true, (Decidable.decide (n > (65535 : Int))) = false, (Decidable.decide (n > (65535 : Int))) = false, (Decidable.decide (n > (65535 : Int))) = false, (n != n) = false, (!(n == (23456 : Int)) == (n == (23456 : Int))) = false, (!Decidable.decide (n > (65535 : Int))) = true, (!(n == (23456 : Int)) == (n == (23456 : Int))) = false, (!Decidable.decide (n > (65535 : Int))) = true, (!Decidable.decide (n > (65535 : Int))) = true, (Decidable.decide ((0 : Int) ≤ n ∧ n ≤ (4294967295 : Int))) = true, (!Decidable.decide (n > (65535 : Int))) = true, (Decidable.decide ((0 : Int) ≤ n ∧ n ≤ (65535 : Int))) = true, (Decidable.decide (n > (65535 : Int))) = false, (!Decidable.decide (n > (65535 : Int))) = true, (!Decidable.decide (n > (65535 : Int))) = true, (!(n == (23456 : Int)) == (n == (23456 : Int))) = false, (!(n == (23456 : Int)) == (n == (23456 : Int))) = false, (!(n == (23456 : Int)) == (n == (23456 : Int))) = false, (!(n == (23456 : Int)) == (n == (23456 : Int))) = false, (Decidable.decide (n > (65535 : Int))) = false, (Decidable.decide (n > (65535 : Int))) = false, (Decidable.decide (n > (65535 : Int))) = false, (Decidable.decide ((0 : Int) ≤ n ∧ n ≤ (65535 : Int))) = true, (Decidable.decide (n > (65535 : Int))) = false]) : ∃ st', Go.Ai.call cx ov4 1000 10 [.int .u32 n, .int .u32 m] stS = some (Go.Value.bool Bool.true, st') :=
  path_call ref4 (toks := [.no, .yes, .no, .no, .no, .no, .no, .no, .no, .yes, .yes, .no, .yes, .yes, .yes, .yes, .yes, .no, .yes, .no, .no, .no, .no, .no, .yes, .yes, .yes, .yes, .yes, .yes, .yes, .yes, .yes, .yes, .ev, .ev, .ev, .ev, .ev, .ev, .ev, .ev, .ev, .ev, .yes, .yes, .yes, .yes, .yes, .yes, .yes, .yes, .yes, .yes, .yes, .yes]) (by kernel_rfl) h
set_option maxHeartbeats 4000000 in
theorem F10_all (n : Int) (m : Int) (h0 : 0 ≤ n) (h1 : n < 4294967296) (h2 : 0 ≤ m) (h3 : m < 4294967296) : ∃ st', Go.Ai.call cx ov4 1000 10 [.int .u32 n, .int .u32 m] stS = some (.bool true, st') := by
  cases b0 : (Decidable.decide (n > (65535 : Int)))
  ·
    have c0 := of_decide_eq_false b0
    cases b1 : (Decidable.decide ((0 : Int) ≤ n ∧ n ≤ (65535 : Int)))
    ·
      have c1 := of_decide_eq_false b1
      first | (exfalso; omega) | (exfalso; rw [dot_eq n h0 h1] at b1; simp at b1; done) | (exfalso; rw [dec_eq n m h0 h1 h2 h3] at b1; simp at b1; done) | (exfalso; simp at b1; done) | (exfalso; simp at b1; omega)
    ·
      have c1 := of_decide_eq_true b1
      cases b2 : (!(n == (23456 : Int)) == (n == (23456 : Int)))
      ·
        cases b3 : (!Decidable.decide (n > (65535 : Int)))
        ·
          have c3 := not_dec_false b3
          first | (exfalso; omega) | (exfalso; rw [dot_eq n h0 h1] at b3; simp at b3; done) | (exfalso; rw [dec_eq n m h0 h1 h2 h3] at b3; simp at b3; done) | (exfalso; simp at b3; done) | (exfalso; simp at b3; omega)
        ·
          have c3 := not_dec_true b3
          cases b4 : (Decidable.decide ((0 : Int) ≤ n ∧ n ≤ (4294967295 : Int)))
          ·
            have c4 := of_decide_eq_false b4
            first | (exfalso; omega) | (exfalso; rw [dot_eq n h0 h1] at b4; simp at b4; done) | (exfalso; rw [dec_eq n m h0 h1 h2 h3] at b4; simp at b4; done) | (exfalso; simp at b4; done) | (exfalso; simp at b4; omega)
          ·
            have c4 := of_decide_eq_true b4
            cases b5 : (n != n)
            ·
              first | have c5 := int_bne_false b5 | skip
              cases b6 : (Decidable.decide (m > (65535 : Int)))
              ·
                have c6 := of_decide_eq_false b6
                cases b7 : (Decidable.decide ((0 : Int) ≤ m ∧ m ≤ (65535 : Int)))
                ·
                  have c7 := of_decide_eq_false b7
                  first | (exfalso; omega) | (exfalso; rw [dot_eq n h0 h1] at b7; simp at b7; done) | (exfalso; rw [dec_eq n m h0 h1 h2 h3] at b7; simp at b7; done) | (exfalso; simp at b7; done) | (exfalso; simp at b7; omega)
                ·
                  have c7 := of_decide_eq_true b7
                  cases b8 : ((n == m) == (n == m))
                  ·
                    first | (exfalso; omega) | (exfalso; rw [dot_eq n h0 h1] at b8; simp at b8; done) | (exfalso; rw [dec_eq n m h0 h1 h2 h3] at b8; simp at b8; done) | (exfalso; simp at b8; done) | (exfalso; simp at b8; omega)
                  ·
                    cases b9 : (Go.Ai.eqS (Go.Proofs.YtgmojlibppmfhaaDoor.dotB n) (Go.Proofs.YtgmojlibppmfhaaDoor.decB n) == !Decidable.decide (n > (65535 : Int)))
                    ·
                      first | have c9 := int_beq_false b9 | skip
                      first | (exfalso; omega) | (exfalso; rw [dot_eq n h0 h1] at b9; simp at b9; done) | (exfalso; rw [dec_eq n m h0 h1 h2 h3] at b9; simp at b9; done) | (exfalso; simp at b9; done) | (exfalso; simp at b9; omega)
                    ·
                      first | have c9 := int_beq_true b9 | skip
                      cases b10 : (Go.Ai.eqS (Go.Proofs.YtgmojlibppmfhaaDoor.decB n) (Go.Proofs.YtgmojlibppmfhaaDoor.decB m) == (n == m))
                      ·
                        first | (exfalso; omega) | (exfalso; rw [dot_eq n h0 h1] at b10; simp at b10; done) | (exfalso; rw [dec_eq n m h0 h1 h2 h3] at b10; simp at b10; done) | (exfalso; simp at b10; done) | (exfalso; simp at b10; omega)
                      ·
                        obtain ⟨st', h⟩ := F10_p0 n m ⟨b10, (by first | exact ⟨_, rfl, by omega, by omega⟩ | exact rfl), b10, b9, b9, b9, b9, b9, b9, (by first | exact ⟨_, rfl, by omega, by omega⟩ | exact rfl), b9, b9, (by first | exact ⟨_, rfl, by omega, by omega⟩ | exact rfl), b9, b9, b8, b8, b8, b8, b8, b8, (by first | exact ⟨_, rfl, by omega, by omega⟩ | exact rfl), b8, b8, (by first | exact ⟨_, rfl, by omega, by omega⟩ | exact rfl), b8, b8, b6, b6, b6, b6, b6, b6, b7, b6, b6, b6, b1, b0, b6, b6, b0, b0, b0, b5, b2, b3, b2, b3, b3, b4, b3, b1, b0, b3, b3, b2, b2, b2, b2, b0, b0, b0, b1, b0, trivial⟩
                        exact ⟨st', h.trans (congrArg (fun v => some (v, st')) (by rfl))⟩
              ·
                have c6 := of_decide_eq_true b6
                cases b7 : (Go.Ai.eqS (Go.Proofs.YtgmojlibppmfhaaDoor.dotB n) (Go.Proofs.YtgmojlibppmfhaaDoor.decB n) == !Decidable.decide (n > (65535 : Int)))
                ·
                  first | have c7 := int_beq_false b7 | skip
                  first | (exfalso; omega) | (exfalso; rw [dot_eq n h0 h1] at b7; simp at b7; done) | (exfalso; rw [dec_eq n m h0 h1 h2 h3] at b7; simp at b7; done) | (exfalso; simp at b7; done) | (exfalso; simp at b7; omega)
                ·
                  first | have c7 := int_beq_true b7 | skip
                  cases b8 : (Go.Ai.eqS (Go.Proofs.YtgmojlibppmfhaaDoor.decB n) (Go.Proofs.YtgmojlibppmfhaaDoor.decB m) == (n == m))
                  ·
                    first | (exfalso; omega) | (exfalso; rw [dot_eq n h0 h1] at b8; simp at b8; done) | (exfalso; rw [dec_eq n m h0 h1 h2 h3] at b8; simp at b8; done) | (exfalso; simp at b8; done) | (exfalso; simp at b8; omega)
                  ·
                    obtain ⟨st', h⟩ := F10_p2 n m ⟨b8, (by first | exact ⟨_, rfl, by omega, by omega⟩ | exact rfl), b8, b7, b7, b7, b7, b7, b7, (by first | exact ⟨_, rfl, by omega, by omega⟩ | exact rfl), b7, b7, (by first | exact ⟨_, rfl, by omega, by omega⟩ | exact rfl), b7, b7, (by first | exact ⟨_, rfl, by omega, by omega⟩ | exact rfl), (by first | exact ⟨_, rfl, by omega, by omega⟩ | exact rfl), b6, b6, b6, b6, b6, b6, b6, b6, b6, b6, b0, b0, b0, b5, b2, b3, b2, b3, b3, b4, b3, b1, b0, b3, b3, b2, b2, b2, b2, b0, b0, b0, b1, b0, trivial⟩
                    exact ⟨st', h.trans (congrArg (fun v => some (v, st')) (by rfl))⟩
            ·
              first | have c5 := int_bne_true b5 | skip
              first | (exfalso; omega) | (exfalso; rw [dot_eq n h0 h1] at b5; simp at b5; done) | (exfalso; rw [dec_eq n m h0 h1 h2 h3] at b5; simp at b5; done) | (exfalso; simp at b5; done) | (exfalso; simp at b5; omega)
      ·
        first | (exfalso; omega) | (exfalso; rw [dot_eq n h0 h1] at b2; simp at b2; done) | (exfalso; rw [dec_eq n m h0 h1 h2 h3] at b2; simp at b2; done) | (exfalso; simp at b2; done) | (exfalso; simp at b2; omega)
  ·
    have c0 := of_decide_eq_true b0
    cases b1 : (!Decidable.decide (n > (65535 : Int)))
    ·
      have c1 := not_dec_false b1
      cases b2 : (Go.Ai.eqS (Go.Proofs.YtgmojlibppmfhaaDoor.dotB n) (Go.Proofs.YtgmojlibppmfhaaDoor.decB n) == !Decidable.decide (n > (65535 : Int)))
      ·
        first | have c2 := int_beq_false b2 | skip
        first | (exfalso; omega) | (exfalso; rw [dot_eq n h0 h1] at b2; simp at b2; done) | (exfalso; rw [dec_eq n m h0 h1 h2 h3] at b2; simp at b2; done) | (exfalso; simp at b2; done) | (exfalso; simp at b2; omega)
      ·
        first | have c2 := int_beq_true b2 | skip
        cases b3 : (Go.Ai.eqS (Go.Proofs.YtgmojlibppmfhaaDoor.decB n) (Go.Proofs.YtgmojlibppmfhaaDoor.decB m) == (n == m))
        ·
          first | (exfalso; omega) | (exfalso; rw [dot_eq n h0 h1] at b3; simp at b3; done) | (exfalso; rw [dec_eq n m h0 h1 h2 h3] at b3; simp at b3; done) | (exfalso; simp at b3; done) | (exfalso; simp at b3; omega)
        ·
          obtain ⟨st', h⟩ := F10_p1 n m ⟨b3, (by first | exact ⟨_, rfl, by omega, by omega⟩ | exact rfl), b3, b2, b2, b2, b2, b2, b2, (by first | exact ⟨_, rfl, by omega, by omega⟩ | exact rfl), b2, b2, (by first | exact ⟨_, rfl, by omega, by omega⟩ | exact rfl), b2, b2, (by first | exact ⟨_, rfl, by omega, by omega⟩ | exact rfl), (by first | exact ⟨_, rfl, by omega, by omega⟩ | exact rfl), b0, b0, b0, b1, b1, b1, b1, b1, b1, b0, b0, b0, b0, trivial⟩
          exact ⟨st', h.trans (congrArg (fun v => some (v, st')) (by rfl))⟩
    ·
      have c1 := not_dec_true b1
      first | (exfalso; omega) | (exfalso; rw [dot_eq n h0 h1] at b1; simp at b1; done) | (exfalso; rw [dec_eq n m h0 h1 h2 h3] at b1; simp at b1; done) | (exfalso; simp at b1; done) | (exfalso; simp at b1; omega)
theorem F12_p0 (n : Int) (h : Holds [(Go.Ai.eqS (Go.Proofs.YtgmojlibppmfhaaDoor.dotB n) (Go.Proofs.YtgmojlibppmfhaaDoor.dotB n)) = true, Go.Proofs.YtgmojlibppmfhaaDoor.C36.pre [], (Go.Ai.eqS (Go.Proofs.YtgmojlibppmfhaaDoor.dotB n) (Go.Proofs.YtgmojlibppmfhaaDoor.dotB n)) = true, (Go.Ai.eqS (Go.Proofs.YtgmojlibppmfhaaDoor.decB n) (Go.Proofs.YtgmojlibppmfhaaDoor.decB n)) = true, (Go.Ai.eqS (Go.Proofs.YtgmojlibppmfhaaDoor.decB n) (Go.Proofs.YtgmojlibppmfhaaDoor.decB n)) = true, Go.Proofs.YtgmojlibppmfhaaDoor.C46.pre [Go.Value.int Go.IntKind.u32 n], (Go.Ai.eqS (Go.Proofs.YtgmojlibppmfhaaDoor.decB n) (Go.Proofs.YtgmojlibppmfhaaDoor.decB n)) = true, (Go.Ai.eqS (Go.Proofs.YtgmojlibppmfhaaDoor.decB n) (Go.Proofs.YtgmojlibppmfhaaDoor.decB n)) = true, Go.Proofs.YtgmojlibppmfhaaDoor.C39.pre [Go.Value.int Go.IntKind.u32 n], (Go.Ai.eqS (Go.Proofs.YtgmojlibppmfhaaDoor.decB n) (Go.Proofs.YtgmojlibppmfhaaDoor.decB n)) = true, (Go.Ai.eqS (Go.Proofs.YtgmojlibppmfhaaDoor.decB n) (Go.Proofs.YtgmojlibppmfhaaDoor.decB n)) = true, (Go.Proofs.YtgmojlibppmfhaaDoor.kindF n == Go.Proofs.YtgmojlibppmfhaaDoor.kindF n) = true, (Go.Proofs.YtgmojlibppmfhaaDoor.kindF n == Go.Proofs.YtgmojlibppmfhaaDoor.kindF n) = true, Go.Proofs.YtgmojlibppmfhaaDoor.C45.pre [Go.Value.int Go.IntKind.u32 n], (Go.Proofs.YtgmojlibppmfhaaDoor.kindF n == Go.Proofs.YtgmojlibppmfhaaDoor.kindF n) = true, (Go.Proofs.YtgmojlibppmfhaaDoor.kindF n == Go.Proofs.YtgmojlibppmfhaaDoor.kindF n) = true, Go.Proofs.YtgmojlibppmfhaaDoor.C40.pre [Go.Value.int Go.IntKind.u32 n], (Go.Proofs.YtgmojlibppmfhaaDoor.kindF n == Go.Proofs.YtgmojlibppmfhaaDoor.kindF n) = true, (Go.Proofs.YtgmojlibppmfhaaDoor.kindF n == Go.Proofs.YtgmojlibppmfhaaDoor.kindF n) = true, (n == n) = true, (n == n) = true, Go.Proofs.YtgmojlibppmfhaaDoor.C44.pre [Go.Value.int Go.IntKind.u32 n], (n == n) = true, (n == n) = true, Go.Proofs.YtgmojlibppmfhaaDoor.C43.pre [Go.Value.int Go.IntKind.u32 n], (n == n) = true, (n == n) = true, (Decidable.decide (n > (65535 : Int)) == Decidable.decide (n > (65535 : Int))) = true, (Decidable.decide (n > (65535 : Int)) == Decidable.decide (n > (65535 : Int))) = true, (Decidable.decide ((0 : Int) ≤ n ∧ n ≤ (65535 : Int))) = true, (Decidable.decide (n > (65535 : Int))) = false, (Decidable.decide (n > (65535 : Int)) == Decidable.decide (n > (65535 : Int))) = true, (Decidable.decide (n > (65535 : Int)) == Decidable.decide (n > (65535 : Int))) = true, (Decidable.decide ((0 : Int) ≤ n ∧ n ≤ (65535 : Int))) = true, (Decidable.decide (n > (65535 : Int))) = false, (Decidable.decide (n > (65535 : Int)) == Decidable.decide (n > (65535 : Int))) = true, (Decidable.decide (n > (65535 : Int)) == Decidable.decide (n > (65535 : Int))) = true]) : ∃ st', Go.Ai.call cx ov4 1000 12 [.int .u32 n] stT = some (Go.Value.bool Bool.true, st') :=
  path_call ref4 (toks := [.yes, .yes, .no, .yes, .yes, .yes, .no, .yes, .yes, .yes, .yes, .yes, .yes, .yes, .yes, .yes, .yes, .yes, .yes, .yes, .yes, .yes, .yes, .yes, .yes, .yes, .yes, .yes, .yes, .yes]) (by kernel_rfl) h
theorem F12_p1 (n : Int) (h : Holds [(Go.Ai.eqS (Go.Proofs.YtgmojlibppmfhaaDoor.dotB n) (Go.Proofs.YtgmojlibppmfhaaDoor.dotB n)) = true, Go.Proofs.YtgmojlibppmfhaaDoor.C36.pre [], (Go.Ai.eqS (Go.Proofs.YtgmojlibppmfhaaDoor.dotB n) (Go.Proofs.YtgmojlibppmfhaaDoor.dotB n)) = true, (Go.Ai.eqS (Go.Proofs.YtgmojlibppmfhaaDoor.decB n) (Go.Proofs.YtgmojlibppmfhaaDoor.decB n)) = true, (Go.Ai.eqS (Go.Proofs.YtgmojlibppmfhaaDoor.decB n) (Go.Proofs.YtgmojlibppmfhaaDoor.decB n)) = true, Go.Proofs.YtgmojlibppmfhaaDoor.C46.pre [Go.Value.int Go.IntKind.u32 n], (Go.Ai.eqS (Go.Proofs.YtgmojlibppmfhaaDoor.decB n) (Go.Proofs.YtgmojlibppmfhaaDoor.decB n)) = true, (Go.Ai.eqS (Go.Proofs.YtgmojlibppmfhaaDoor.decB n) (Go.Proofs.YtgmojlibppmfhaaDoor.decB n)) = true, Go.Proofs.YtgmojlibppmfhaaDoor.C39.pre [Go.Value.int Go.IntKind.u32 n], (Go.Ai.eqS (Go.Proofs.YtgmojlibppmfhaaDoor.decB n) (Go.Proofs.YtgmojlibppmfhaaDoor.decB n)) = true, (Go.Ai.eqS (Go.Proofs.YtgmojlibppmfhaaDoor.decB n) (Go.Proofs.YtgmojlibppmfhaaDoor.decB n)) = true, (Go.Proofs.YtgmojlibppmfhaaDoor.kindF n == Go.Proofs.YtgmojlibppmfhaaDoor.kindF n) = true, (Go.Proofs.YtgmojlibppmfhaaDoor.kindF n == Go.Proofs.YtgmojlibppmfhaaDoor.kindF n) = true, Go.Proofs.YtgmojlibppmfhaaDoor.C45.pre [Go.Value.int Go.IntKind.u32 n], (Go.Proofs.YtgmojlibppmfhaaDoor.kindF n == Go.Proofs.YtgmojlibppmfhaaDoor.kindF n) = true, (Go.Proofs.YtgmojlibppmfhaaDoor.kindF n == Go.Proofs.YtgmojlibppmfhaaDoor.kindF n) = true, Go.Proofs.YtgmojlibppmfhaaDoor.C40.pre [Go.Value.int Go.IntKind.u32 n], (Go.Proofs.YtgmojlibppmfhaaDoor.kindF n == Go.Proofs.YtgmojlibppmfhaaDoor.kindF n) = true, (Go.Proofs.YtgmojlibppmfhaaDoor.kindF n == Go.Proofs.YtgmojlibppmfhaaDoor.kindF n) = true, Go.Proofs.YtgmojlibppmfhaaDoor.C44.pre [Go.Value.int Go.IntKind.u32 n], Go.Proofs.YtgmojlibppmfhaaDoor.C43.pre [Go.Value.int Go.IntKind.u32 n], (Decidable.decide (n > (65535 : Int)) == Decidable.decide (n > (65535 : Int))) = true, (Decidable.decide (n > (65535 : Int)) == Decidable.decide (n > (65535 : Int))) = true, (Decidable.decide (n > (65535 : Int))) = true, (Decidable.decide (n > (65535 : Int)) == Decidable.decide (n > (65535 : Int))) = true, (Decidable.decide (n > (65535 : Int)) == Decidable.decide (n > (65535 : Int))) = true, (Decidable.decide (n > (65535 : Int))) = true, (Decidable.decide (n > (65535 : Int)) == Decidable.decide (n > (65535 : Int))) = true, (Decidable.decide (n > (65535 : Int)) == Decidable.decide (n > (65535 : Int))) = true]) : ∃ st', Go.Ai.call cx ov4 1000 12 [.int .u32 n] stT = some (Go.Value.bool Bool.true, st') :=
  path_call ref4 (toks := [.yes, .yes, .yes, .yes, .yes, .yes, .yes, .yes, .ev, .ev, .ev, .ev, .ev, .ev, .yes, .yes, .yes, .yes, .yes, .yes, .yes, .yes, .yes, .yes, .yes, .yes, .yes, .yes]) (by kernel_rfl) h
set_option maxHeartbeats 4000000 in
theorem F12_all (n : Int) (h0 : 0 ≤ n) (h1 : n < 4294967296) : ∃ st', Go.Ai.call cx ov4 1000 12 [.int .u32 n] stT = some (.bool true, st') := by
  cases b0 : (Decidable.decide (n > (65535 : Int)) == Decidable.decide (n > (65535 : Int)))
  ·
    have c0 := of_decide_eq_false b0
    first | (exfalso; omega) | (exfalso; simp [eqS] at b0; done) | (exfalso; simp at b0; omega)
  ·
    have c0 := of_decide_eq_true b0
    cases b1 : (Decidable.decide (n > (65535 : Int)))
    ·
      have c1 := of_decide_eq_false b1
      cases b2 : (Decidable.decide ((0 : Int) ≤ n ∧ n ≤ (65535 : Int)))
      ·
        have c2 := of_decide_eq_false b2
        first | (exfalso; omega) | (exfalso; simp [eqS] at b2; done) | (exfalso; simp at b2; omega)
      ·
        have c2 := of_decide_eq_true b2
        cases b3 : (n == n)
        ·
          first | have c3 := int_beq_false b3 | skip
          first | (exfalso; omega) | (exfalso; simp [eqS] at b3; done) | (exfalso; simp at b3; omega)
        ·
          first | have c3 := int_beq_true b3 | skip
          cases b4 : (Go.Proofs.YtgmojlibppmfhaaDoor.kindF n == Go.Proofs.YtgmojlibppmfhaaDoor.kindF n)
          ·
            first | have c4 := int_beq_false b4 | skip
            first | (exfalso; omega) | (exfalso; simp [eqS] at b4; done) | (exfalso; simp at b4; omega)
          ·
            first | have c4 := int_beq_true b4 | skip
            cases b5 : (Go.Ai.eqS (Go.Proofs.YtgmojlibppmfhaaDoor.decB n) (Go.Proofs.YtgmojlibppmfhaaDoor.decB n))
            ·
              first | (exfalso; omega) | (exfalso; simp [eqS] at b5; done) | (exfalso; simp at b5; omega)
            ·
              cases b6 : (Go.Ai.eqS (Go.Proofs.YtgmojlibppmfhaaDoor.dotB n) (Go.Proofs.YtgmojlibppmfhaaDoor.dotB n))
              ·
                first | (exfalso; omega) | (exfalso; simp [eqS] at b6; done) | (exfalso; simp at b6; omega)
              ·
                obtain ⟨st', h⟩ := F12_p0 n ⟨b6, (by first | exact ⟨_, rfl, by omega, by omega⟩ | exact rfl), b6, b5, b5, (by first | exact ⟨_, rfl, by omega, by omega⟩ | exact rfl), b5, b5, (by first | exact ⟨_, rfl, by omega, by omega⟩ | exact rfl), b5, b5, b4, b4, (by first | exact ⟨_, rfl, by omega, by omega⟩ | exact rfl), b4, b4, (by first | exact ⟨_, rfl, by omega, by omega⟩ | exact rfl), b4, b4, b3, b3, (by first | exact ⟨_, rfl, by omega, by omega⟩ | exact rfl), b3, b3, (by first | exact ⟨_, rfl, by omega, by omega⟩ | exact rfl), b3, b3, b0, b0, b2, b1, b0, b0, b2, b1, b0, b0, trivial⟩
                exact ⟨st', h.trans (congrArg (fun v => some (v, st')) (by rfl))⟩
    ·
      have c1 := of_decide_eq_true b1
      cases b2 : (Go.Proofs.YtgmojlibppmfhaaDoor.kindF n == Go.Proofs.YtgmojlibppmfhaaDoor.kindF n)
      ·
        first | have c2 := int_beq_false b2 | skip
        first | (exfalso; omega) | (exfalso; simp [eqS] at b2; done) | (exfalso; simp at b2; omega)
      ·
        first | have c2 := int_beq_true b2 | skip
        cases b3 : (Go.Ai.eqS (Go.Proofs.YtgmojlibppmfhaaDoor.decB n) (Go.Proofs.YtgmojlibppmfhaaDoor.decB n))
        ·
          first | (exfalso; omega) | (exfalso; simp [eqS] at b3; done) | (exfalso; simp at b3; omega)
        ·
          cases b4 : (Go.Ai.eqS (Go.Proofs.YtgmojlibppmfhaaDoor.dotB n) (Go.Proofs.YtgmojlibppmfhaaDoor.dotB n))
          ·
            first | (exfalso; omega) | (exfalso; simp [eqS] at b4; done) | (exfalso; simp at b4; omega)
          ·
            obtain ⟨st', h⟩ := F12_p1 n ⟨b4, (by first | exact ⟨_, rfl, by omega, by omega⟩ | exact rfl), b4, b3, b3, (by first | exact ⟨_, rfl, by omega, by omega⟩ | exact rfl), b3, b3, (by first | exact ⟨_, rfl, by omega, by omega⟩ | exact rfl), b3, b3, b2, b2, (by first | exact ⟨_, rfl, by omega, by omega⟩ | exact rfl), b2, b2, (by first | exact ⟨_, rfl, by omega, by omega⟩ | exact rfl), b2, b2, (by first | exact ⟨_, rfl, by omega, by omega⟩ | exact rfl), (by first | exact ⟨_, rfl, by omega, by omega⟩ | exact rfl), b0, b0, b1, b0, b0, b1, b0, b0, trivial⟩
            exact ⟨st', h.trans (congrArg (fun v => some (v, st')) (by rfl))⟩
end Go.Proofs.YtgmojlibppmfhaaDoor

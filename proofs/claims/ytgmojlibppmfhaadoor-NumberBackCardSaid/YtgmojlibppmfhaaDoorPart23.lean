/- Runs of the abstract interpreter, part 23: by an AI agent. -/
import Derived.Test.YtgmojlibppmfhaaDoorPart22

namespace Go.Proofs.YtgmojlibppmfhaaDoor
open Go Go.Ai
theorem F39_p0 (n : Int) (h : Holds [C40.pre [Value.int IntKind.u32 n], (!decide (n > (65535 : Int))) = true]) : ∃ st', Go.Ai.call cx ov3 1000 39 [.int .u32 n] ⟨keepIds st0.hp [2], st0.ct⟩ = some (Value.string (decB n), st') :=
  path_call ref3 (toks := [.yes]) (by kernel_rfl) h
theorem F39_p1 (n : Int) (h : Holds [(decide ((decB (n / (65536 : Int)) ++ dot1).size + (decB (bitsI BinOp.and IntKind.u32 n (65535 : Int))).size ≤ (9223372036854775807 : Nat))) = true, C40.pre [Value.int IntKind.u32 (bitsI BinOp.and IntKind.u32 n (65535 : Int))], (decide ((decB (n / (65536 : Int))).size + (1 : Nat) ≤ (9223372036854775807 : Nat))) = true, C40.pre [Value.int IntKind.u32 (n / (65536 : Int))], (!decide (n > (65535 : Int))) = false]) : ∃ st', Go.Ai.call cx ov3 1000 39 [.int .u32 n] ⟨keepIds st0.hp [2], st0.ct⟩ = some (Value.string (decB (n / (65536 : Int)) ++ dot1 ++ decB (bitsI BinOp.and IntKind.u32 n (65535 : Int))), st') :=
  path_call ref3 (toks := [.no, .ev, .yes, .yes]) (by kernel_rfl) h
set_option maxHeartbeats 4000000 in
theorem F39_all (n : Int) (h0 : 0 ≤ n) (h1 : n < 4294967296) : ∃ st', Go.Ai.call cx ov3 1000 39 [.int .u32 n] ⟨keepIds st0.hp [2], st0.ct⟩ = some (.string (dotB n), st') := by
  have hb := bits_ff n h0 h1; have q1 := decB_size (n / 65536); have q2 := decB_size (n % 65536); have q3 := decB_size (bitsI .and .u32 n 65535); have q4 := size_app (decB (n / 65536)) dot1; have q5 : dot1.size = 1 := rfl
  cases b0 : (!decide (n > (65535 : Int)))
  ·
    have c0 := not_dec_false b0
    cases b1 : (decide ((decB (n / (65536 : Int))).size + (1 : Nat) ≤ (9223372036854775807 : Nat)))
    ·
      have c1 := of_decide_eq_false b1
      (exfalso; omega)
    ·
      have c1 := of_decide_eq_true b1
      cases b2 : (decide ((decB (n / (65536 : Int)) ++ dot1).size + (decB (bitsI BinOp.and IntKind.u32 n (65535 : Int))).size ≤ (9223372036854775807 : Nat)))
      ·
        have c2 := of_decide_eq_false b2
        (exfalso; omega)
      ·
        have c2 := of_decide_eq_true b2
        obtain ⟨st', h⟩ := F39_p1 n ⟨b2, (by exact ⟨_, rfl, by omega, by omega⟩), b1, (by exact ⟨_, rfl, by omega, by omega⟩), b0, trivial⟩
        exact ⟨st', h.trans (congrArg (fun v => some (v, st')) (by refine congrArg Value.string ?_; unfold dotB; rw [if_neg (by omega), hb]))⟩
  ·
    have c0 := not_dec_true b0
    obtain ⟨st', h⟩ := F39_p0 n ⟨(by exact ⟨_, rfl, by omega, by omega⟩), b0, trivial⟩
    exact ⟨st', h.trans (congrArg (fun v => some (v, st')) (by refine congrArg Value.string ?_; unfold dotB; rw [if_pos (by omega)]))⟩
def C39 : FC := ⟨39, fun l => ∃ n, l = [.int .u32 n] ∧ 0 ≤ n ∧ n < 4294967296, fun l => match l with | [.int _ n] => .string (dotB n) | _ => undef, [2]⟩
theorem C39_good : C39.Good Tryd.prog ov3 st0 := ⟨by kernel_rfl, fun args ⟨n, e, h0, h1⟩ => by subst e; exact ⟨rfl, rfl, 1000, F39_all n h0 h1⟩⟩
end Go.Proofs.YtgmojlibppmfhaaDoor

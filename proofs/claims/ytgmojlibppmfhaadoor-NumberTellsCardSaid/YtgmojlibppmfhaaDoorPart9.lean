/- Runs of the abstract interpreter, part 9: by an AI agent. -/
import Derived.Test.YtgmojlibppmfhaaDoorPart8

namespace Go.Proofs.YtgmojlibppmfhaaDoor
open Go Go.Ai
theorem F39_p0 (n : Int) (h : Holds [Go.Proofs.YtgmojlibppmfhaaDoor.C40.pre [Go.Value.int Go.IntKind.u32 n], (!Decidable.decide (n > (65535 : Int))) = true]) : ∃ st', Go.Ai.call cx ov3 1000 39 [.int .u32 n] ⟨keepIds st0.hp [2], st0.ct⟩ = some (Go.Value.string (Go.Proofs.YtgmojlibppmfhaaDoor.decB n), st') :=
  path_call ref3 (toks := [.yes]) (by kernel_rfl) h
theorem F39_p1 (n : Int) (h : Holds [(Decidable.decide ((Go.Proofs.YtgmojlibppmfhaaDoor.decB (n / (65536 : Int)) ++ Go.Proofs.YtgmojlibppmfhaaDoor.dot1).size + (Go.Proofs.YtgmojlibppmfhaaDoor.decB (Go.Ai.bitsI Go.BinOp.and Go.IntKind.u32 n (65535 : Int))).size ≤ (9223372036854775807 : Nat))) = true, Go.Proofs.YtgmojlibppmfhaaDoor.C40.pre [Go.Value.int Go.IntKind.u32 (Go.Ai.bitsI Go.BinOp.and Go.IntKind.u32 n (65535 : Int))], (Decidable.decide ((Go.Proofs.YtgmojlibppmfhaaDoor.decB (n / (65536 : Int))).size + (1 : Nat) ≤ (9223372036854775807 : Nat))) = true, Go.Proofs.YtgmojlibppmfhaaDoor.C40.pre [Go.Value.int Go.IntKind.u32 (n / (65536 : Int))], (!Decidable.decide (n > (65535 : Int))) = false]) : ∃ st', Go.Ai.call cx ov3 1000 39 [.int .u32 n] ⟨keepIds st0.hp [2], st0.ct⟩ = some (Go.Value.string (Go.Proofs.YtgmojlibppmfhaaDoor.decB (n / (65536 : Int)) ++ Go.Proofs.YtgmojlibppmfhaaDoor.dot1 ++ Go.Proofs.YtgmojlibppmfhaaDoor.decB (Go.Ai.bitsI Go.BinOp.and Go.IntKind.u32 n (65535 : Int))), st') :=
  path_call ref3 (toks := [.no, .ev, .yes, .yes]) (by kernel_rfl) h
set_option maxHeartbeats 4000000 in
theorem F39_all (n : Int) (h0 : 0 ≤ n) (h1 : n < 4294967296) : ∃ st', Go.Ai.call cx ov3 1000 39 [.int .u32 n] ⟨keepIds st0.hp [2], st0.ct⟩ = some (.string (dotB n), st') := by
  have hb := bits_ff n h0 h1; have q1 := decB_size (n / 65536); have q2 := decB_size (n % 65536); have q3 := decB_size (bitsI .and .u32 n 65535); have q4 := size_app (decB (n / 65536)) dot1; have q5 : dot1.size = 1 := rfl
  cases b0 : (!Decidable.decide (n > (65535 : Int)))
  ·
    have c0 := not_dec_false b0
    cases b1 : (Decidable.decide ((Go.Proofs.YtgmojlibppmfhaaDoor.decB (n / (65536 : Int))).size + (1 : Nat) ≤ (9223372036854775807 : Nat)))
    ·
      have c1 := of_decide_eq_false b1
      (exfalso; omega)
    ·
      have c1 := of_decide_eq_true b1
      cases b2 : (Decidable.decide ((Go.Proofs.YtgmojlibppmfhaaDoor.decB (n / (65536 : Int)) ++ Go.Proofs.YtgmojlibppmfhaaDoor.dot1).size + (Go.Proofs.YtgmojlibppmfhaaDoor.decB (Go.Ai.bitsI Go.BinOp.and Go.IntKind.u32 n (65535 : Int))).size ≤ (9223372036854775807 : Nat)))
      ·
        have c2 := of_decide_eq_false b2
        (exfalso; omega)
      ·
        have c2 := of_decide_eq_true b2
        obtain ⟨st', h⟩ := F39_p1 n ⟨b2, (by exact ⟨_, rfl, by omega, by omega⟩), b1, (by exact ⟨_, rfl, by omega, by omega⟩), b0, trivial⟩
        exact ⟨st', h.trans (congrArg (fun v => some (v, st')) (by refine congrArg Value.string ?_; unfold dotB; rw [if_neg (by omega), hb]))⟩
  ·
    have c0 := not_dec_true b0
    obtain ⟨st', h⟩ := F39_p0 n ⟨(by exact ⟨_, rfl, by omega, by omega⟩), b0, trivial⟩
    exact ⟨st', h.trans (congrArg (fun v => some (v, st')) (by refine congrArg Value.string ?_; unfold dotB; rw [if_pos (by omega)]))⟩
theorem F46_p0 (n : Int) (h : Holds [Go.Proofs.YtgmojlibppmfhaaDoor.C45.pre [Go.Value.int Go.IntKind.u32 n], (Decidable.decide (n ≤ (65535 : Int))) = true]) : ∃ st', Go.Ai.call cx ov3 1000 46 [.int .u32 n] ⟨keepIds st0.hp [], st0.ct⟩ = some (Go.Value.string (Go.Proofs.YtgmojlibppmfhaaDoor.decB n), st') :=
  path_call ref3 (toks := [.yes]) (by kernel_rfl) h
theorem F46_p1 (n : Int) (h : Holds [(Decidable.decide ((Go.Proofs.YtgmojlibppmfhaaDoor.decB (n / (65536 : Int)) ++ Go.Proofs.YtgmojlibppmfhaaDoor.dot1).size + (Go.Proofs.YtgmojlibppmfhaaDoor.decB (n % (65536 : Int))).size ≤ (9223372036854775807 : Nat))) = true, Go.Proofs.YtgmojlibppmfhaaDoor.C45.pre [Go.Value.int Go.IntKind.u32 (n % (65536 : Int))], (Decidable.decide ((0 : Int) ≤ n ∧ (0 : Int) < (65536 : Int))) = true, (Decidable.decide ((Go.Proofs.YtgmojlibppmfhaaDoor.decB (n / (65536 : Int))).size + (1 : Nat) ≤ (9223372036854775807 : Nat))) = true, Go.Proofs.YtgmojlibppmfhaaDoor.C45.pre [Go.Value.int Go.IntKind.u32 (n / (65536 : Int))], (Decidable.decide ((0 : Int) ≤ n / (65536 : Int) ∧ n / (65536 : Int) ≤ (4294967295 : Int))) = true, (Decidable.decide ((0 : Int) ≤ n ∧ (0 : Int) < (65536 : Int))) = true, (Decidable.decide (n ≤ (65535 : Int))) = false]) : ∃ st', Go.Ai.call cx ov3 1000 46 [.int .u32 n] ⟨keepIds st0.hp [], st0.ct⟩ = some (Go.Value.string (Go.Proofs.YtgmojlibppmfhaaDoor.decB (n / (65536 : Int)) ++ Go.Proofs.YtgmojlibppmfhaaDoor.dot1 ++ Go.Proofs.YtgmojlibppmfhaaDoor.decB (n % (65536 : Int))), st') :=
  path_call ref3 (toks := [.no, .ev, .yes, .yes, .yes, .ev, .yes, .yes]) (by kernel_rfl) h
set_option maxHeartbeats 4000000 in
theorem F46_all (n : Int) (h0 : 0 ≤ n) (h1 : n < 4294967296) : ∃ st', Go.Ai.call cx ov3 1000 46 [.int .u32 n] ⟨keepIds st0.hp [], st0.ct⟩ = some (.string (dotB n), st') := by
  have hb := bits_ff n h0 h1; have q1 := decB_size (n / 65536); have q2 := decB_size (n % 65536); have q3 := decB_size (bitsI .and .u32 n 65535); have q4 := size_app (decB (n / 65536)) dot1; have q5 : dot1.size = 1 := rfl
  cases b0 : (Decidable.decide (n ≤ (65535 : Int)))
  ·
    have c0 := of_decide_eq_false b0
    cases b1 : (Decidable.decide ((0 : Int) ≤ n ∧ (0 : Int) < (65536 : Int)))
    ·
      have c1 := of_decide_eq_false b1
      (exfalso; omega)
    ·
      have c1 := of_decide_eq_true b1
      cases b2 : (Decidable.decide ((0 : Int) ≤ n / (65536 : Int) ∧ n / (65536 : Int) ≤ (4294967295 : Int)))
      ·
        have c2 := of_decide_eq_false b2
        (exfalso; omega)
      ·
        have c2 := of_decide_eq_true b2
        cases b3 : (Decidable.decide ((Go.Proofs.YtgmojlibppmfhaaDoor.decB (n / (65536 : Int))).size + (1 : Nat) ≤ (9223372036854775807 : Nat)))
        ·
          have c3 := of_decide_eq_false b3
          (exfalso; omega)
        ·
          have c3 := of_decide_eq_true b3
          cases b4 : (Decidable.decide ((Go.Proofs.YtgmojlibppmfhaaDoor.decB (n / (65536 : Int)) ++ Go.Proofs.YtgmojlibppmfhaaDoor.dot1).size + (Go.Proofs.YtgmojlibppmfhaaDoor.decB (n % (65536 : Int))).size ≤ (9223372036854775807 : Nat)))
          ·
            have c4 := of_decide_eq_false b4
            (exfalso; omega)
          ·
            have c4 := of_decide_eq_true b4
            obtain ⟨st', h⟩ := F46_p1 n ⟨b4, (by exact ⟨_, rfl, by omega, by omega⟩), b1, b3, (by exact ⟨_, rfl, by omega, by omega⟩), b2, b1, b0, trivial⟩
            exact ⟨st', h.trans (congrArg (fun v => some (v, st')) (by refine congrArg Value.string ?_; unfold dotB; rw [if_neg (by omega)]))⟩
  ·
    have c0 := of_decide_eq_true b0
    obtain ⟨st', h⟩ := F46_p0 n ⟨(by exact ⟨_, rfl, by omega, by omega⟩), b0, trivial⟩
    exact ⟨st', h.trans (congrArg (fun v => some (v, st')) (by refine congrArg Value.string ?_; unfold dotB; rw [if_pos (by omega)]))⟩
def C39 : FC := ⟨39, fun l => ∃ n, l = [.int .u32 n] ∧ 0 ≤ n ∧ n < 4294967296, fun l => match l with | [.int _ n] => .string (dotB n) | _ => undef, [2]⟩
theorem C39_good : C39.Good Tryd.prog ov3 st0 := ⟨by kernel_rfl, fun args ⟨n, e, h0, h1⟩ => by subst e; exact ⟨rfl, rfl, 1000, F39_all n h0 h1⟩⟩
def C46 : FC := ⟨46, fun l => ∃ n, l = [.int .u32 n] ∧ 0 ≤ n ∧ n < 4294967296, fun l => match l with | [.int _ n] => .string (dotB n) | _ => undef, []⟩
theorem C46_good : C46.Good Tryd.prog ov3 st0 := ⟨by kernel_rfl, fun args ⟨n, e, h0, h1⟩ => by subst e; exact ⟨rfl, rfl, 1000, F46_all n h0 h1⟩⟩
noncomputable def ov4 : Ov := ovWith st0 [C39, C46] [] ov3
noncomputable def ovO4 : OvO := ovOWith st0 [C39, C46] [] ovO3
theorem ref4 : OvRef ov4 ovO4 := ovWith_ref ref3
theorem ov4_ok : OvOk Tryd.prog ov4 ∧ OvMono ov4 ∧ OvIds ov4 :=
  ⟨ovWith_ok Tryd.checked.mixed ov3_ok.1 ov3_ok.2.1 ov3_ok.2.2 ng_st0 (fun C h => by simp at h; rcases h with rfl | rfl; exact C39_good; exact C46_good) (fun x h => by cases h),
   ovWith_mono ov3_ok.2.1 (fun x h => by cases h), ovWith_ids ov3_ok.2.2⟩
end Go.Proofs.YtgmojlibppmfhaaDoor

/- Runs of the abstract interpreter, part 17: by an AI agent. -/
import Derived.Test.YtgmojlibppmfhaaDoorPart16

namespace Go.Proofs.YtgmojlibppmfhaaDoor
open Go Go.Ai
/-! ### number.Parse -/
def dotS : ByteArray := ⟨⟨[46]⟩⟩
def iS (s : ByteArray) : Int := ixI s 46
def fS (s : ByteArray) : ByteArray := s.extract 0 (iS s).toNat
def lS (s : ByteArray) : ByteArray := s.extract (iS s + 1).toNat s.size
def A34_0 (s : ByteArray) : List Prop := [(!digS (s.extract (0 : Nat) (0 : Nat))) = true, (!digS (s.extract (0 : Nat) (0 : Nat))) = true, (!digS (s.extract (0 : Nat) (0 : Nat))) = true, C65.pre [Value.string (s.extract (1 : Nat) s.size)], C65.pre [Value.string (s.extract (0 : Nat) (0 : Nat))], (decide ((0 : Int) ≤ (1 : Int) ∧ (1 : Int) ≤ (s.size : Int))) = true, (decide ((0 : Int) ≤ (0 : Int) ∧ (0 : Int) ≤ (s.size : Int))) = true, (eqS dotS s) = true]
theorem F34_0 (s : ByteArray) (h : Holds (A34_0 s)) : ∃ st', Go.Ai.call cx ovn2 1000 34 [.string s] ⟨keepIds st0.hp [], st0.ct⟩ = some (Value.tuple { toList := [Value.int IntKind.u32 (0 : Int), Value.int IntKind.i64 (5 : Int)] }, st') :=
  path_call refn2 (toks := [.ev, .ev, .ev, .ev, .yes, .ev, .ev, .yes, .ev, .ev, .yes, .ev, .yes, .yes, .yes, .ev]) (by kernel_rfl) h
def A34_1 (s : ByteArray) : List Prop := [(decide ((0 : Int) ≤ digV s ∧ digV s ≤ (4294967295 : Int))) = true, (decide (digV s > (4294967295 : Int))) = false, (!digS s) = false, (!digS s) = false, (!digS s) = false, C65.pre [Value.string s], (decide (iS s ≥ (0 : Int))) = false, C133.pre [Value.string s, Value.int IntKind.u8 (46 : Int)], (eqS dotS s) = false]
theorem F34_1 (s : ByteArray) (h : Holds (A34_1 s)) : ∃ st', Go.Ai.call cx ovn2 1000 34 [.string s] ⟨keepIds st0.hp [], st0.ct⟩ = some (Value.tuple { toList := [Value.int IntKind.u32 (digV s), Value.int IntKind.i64 (0 : Int)] }, st') :=
  path_call refn2 (toks := [.ev, .ev, .ev, .ev, .no, .ev, .ev, .no, .ev, .no, .no, .no, .ev, .ev, .ev, .ev, .ev, .ev, .ev, .ev, .ev, .no, .ev, .yes]) (by kernel_rfl) h
def A34_2 (s : ByteArray) : List Prop := [(!digS s) = true, (!digS s) = true, (!digS s) = true, C65.pre [Value.string s], (decide (iS s ≥ (0 : Int))) = false, C133.pre [Value.string s, Value.int IntKind.u8 (46 : Int)], (eqS dotS s) = false]
theorem F34_2 (s : ByteArray) (h : Holds (A34_2 s)) : ∃ st', Go.Ai.call cx ovn2 1000 34 [.string s] ⟨keepIds st0.hp [], st0.ct⟩ = some (Value.tuple { toList := [Value.int IntKind.u32 (0 : Int), Value.int IntKind.i64 (5 : Int)] }, st') :=
  path_call refn2 (toks := [.ev, .ev, .ev, .ev, .no, .ev, .ev, .no, .ev, .yes, .yes, .yes, .ev]) (by kernel_rfl) h
def A34_3 (s : ByteArray) : List Prop := [(decide (digV s > (4294967295 : Int))) = true, (!digS s) = false, (!digS s) = false, (!digS s) = false, C65.pre [Value.string s], (decide (iS s ≥ (0 : Int))) = false, C133.pre [Value.string s, Value.int IntKind.u8 (46 : Int)], (eqS dotS s) = false]
theorem F34_3 (s : ByteArray) (h : Holds (A34_3 s)) : ∃ st', Go.Ai.call cx ovn2 1000 34 [.string s] ⟨keepIds st0.hp [], st0.ct⟩ = some (Value.tuple { toList := [Value.int IntKind.u32 (0 : Int), Value.int IntKind.i64 (24 : Int)] }, st') :=
  path_call refn2 (toks := [.ev, .ev, .ev, .ev, .no, .ev, .ev, .no, .ev, .no, .no, .no, .ev, .ev, .ev, .ev, .ev, .ev, .ev, .ev, .ev, .yes]) (by kernel_rfl) h
def A34_4 (s : ByteArray) : List Prop := [(decide ((0 : Int) ≤ bitsI .or .u64 (digV (fS s) * (65536 : Int)) (digV (lS s)) ∧ bitsI .or .u64 (digV (fS s) * (65536 : Int)) (digV (lS s)) ≤ (4294967295 : Int))) = true, (decide ((0 : Int) ≤ digV (fS s) * (65536 : Int) ∧ digV (fS s) * (65536 : Int) ≤ (18446744073709551615 : Int))) = true, (decide (digV (fS s) > (4294967295 : Int))) = false, (decide (digV (lS s) > (65535 : Int))) = false, (decide (digV (lS s) > (65535 : Int))) = false, (decide (digV (lS s) > (65535 : Int))) = false, (decide (digV (fS s) > (65535 : Int))) = false, (decide (digV (fS s) > (65535 : Int))) = false, (decide (digV (fS s) > (65535 : Int))) = false, (!digS (lS s)) = false, (!digS (fS s)) = false, (!digS (fS s)) = false, (!digS (fS s)) = false, C65.pre [Value.string (lS s)], C65.pre [Value.string (fS s)], (decide ((0 : Int) ≤ iS s + (1 : Int) ∧ iS s + (1 : Int) ≤ (s.size : Int))) = true, (decide ((-9223372036854775808 : Int) ≤ iS s + (1 : Int) ∧ iS s + (1 : Int) ≤ (9223372036854775807 : Int))) = true, (decide ((0 : Int) ≤ iS s ∧ iS s ≤ (s.size : Int))) = true, (decide (iS s ≥ (0 : Int))) = true, C133.pre [Value.string s, Value.int IntKind.u8 (46 : Int)], (eqS dotS s) = false]
theorem F34_4 (s : ByteArray) (h : Holds (A34_4 s)) : ∃ st', Go.Ai.call cx ovn2 1000 34 [.string s] ⟨keepIds st0.hp [], st0.ct⟩ = some (Value.tuple { toList := [Value.int IntKind.u32 (bitsI .or .u64 (digV (fS s) * (65536 : Int)) (digV (lS s))), Value.int IntKind.i64 (0 : Int)] }, st') :=
  path_call refn2 (toks := [.ev, .ev, .ev, .ev, .no, .ev, .ev, .yes, .no, .yes, .yes, .no, .yes, .ev, .no, .no, .no, .no, .ev, .ev, .ev, .no, .no, .ev, .no, .ev, .no, .no, .no, .no, .ev, .ev, .yes, .yes]) (by kernel_rfl) h
def A34_5 (s : ByteArray) : List Prop := [(!digS (fS s)) = true, (!digS (fS s)) = true, (!digS (fS s)) = true, C65.pre [Value.string (lS s)], C65.pre [Value.string (fS s)], (decide ((0 : Int) ≤ iS s + (1 : Int) ∧ iS s + (1 : Int) ≤ (s.size : Int))) = true, (decide ((-9223372036854775808 : Int) ≤ iS s + (1 : Int) ∧ iS s + (1 : Int) ≤ (9223372036854775807 : Int))) = true, (decide ((0 : Int) ≤ iS s ∧ iS s ≤ (s.size : Int))) = true, (decide (iS s ≥ (0 : Int))) = true, C133.pre [Value.string s, Value.int IntKind.u8 (46 : Int)], (eqS dotS s) = false]
theorem F34_5 (s : ByteArray) (h : Holds (A34_5 s)) : ∃ st', Go.Ai.call cx ovn2 1000 34 [.string s] ⟨keepIds st0.hp [], st0.ct⟩ = some (Value.tuple { toList := [Value.int IntKind.u32 (0 : Int), Value.int IntKind.i64 (5 : Int)] }, st') :=
  path_call refn2 (toks := [.ev, .ev, .ev, .ev, .no, .ev, .ev, .yes, .no, .yes, .yes, .no, .yes, .ev, .yes, .yes, .yes, .ev]) (by kernel_rfl) h
def A34_6 (s : ByteArray) : List Prop := [(!digS (lS s)) = true, (!digS (fS s)) = false, (!digS (fS s)) = false, (!digS (fS s)) = false, C65.pre [Value.string (lS s)], C65.pre [Value.string (fS s)], (decide ((0 : Int) ≤ iS s + (1 : Int) ∧ iS s + (1 : Int) ≤ (s.size : Int))) = true, (decide ((-9223372036854775808 : Int) ≤ iS s + (1 : Int) ∧ iS s + (1 : Int) ≤ (9223372036854775807 : Int))) = true, (decide ((0 : Int) ≤ iS s ∧ iS s ≤ (s.size : Int))) = true, (decide (iS s ≥ (0 : Int))) = true, C133.pre [Value.string s, Value.int IntKind.u8 (46 : Int)], (eqS dotS s) = false]
theorem F34_6 (s : ByteArray) (h : Holds (A34_6 s)) : ∃ st', Go.Ai.call cx ovn2 1000 34 [.string s] ⟨keepIds st0.hp [], st0.ct⟩ = some (Value.tuple { toList := [Value.int IntKind.u32 (0 : Int), Value.int IntKind.i64 (5 : Int)] }, st') :=
  path_call refn2 (toks := [.ev, .ev, .ev, .ev, .no, .ev, .ev, .yes, .no, .yes, .yes, .no, .yes, .ev, .no, .no, .no, .yes]) (by kernel_rfl) h
def A34_7 (s : ByteArray) : List Prop := [(decide (digV (fS s) > (65535 : Int))) = true, (decide (digV (fS s) > (65535 : Int))) = true, (decide (digV (fS s) > (65535 : Int))) = true, (!digS (lS s)) = false, (!digS (fS s)) = false, (!digS (fS s)) = false, (!digS (fS s)) = false, C65.pre [Value.string (lS s)], C65.pre [Value.string (fS s)], (decide ((0 : Int) ≤ iS s + (1 : Int) ∧ iS s + (1 : Int) ≤ (s.size : Int))) = true, (decide ((-9223372036854775808 : Int) ≤ iS s + (1 : Int) ∧ iS s + (1 : Int) ≤ (9223372036854775807 : Int))) = true, (decide ((0 : Int) ≤ iS s ∧ iS s ≤ (s.size : Int))) = true, (decide (iS s ≥ (0 : Int))) = true, C133.pre [Value.string s, Value.int IntKind.u8 (46 : Int)], (eqS dotS s) = false]
theorem F34_7 (s : ByteArray) (h : Holds (A34_7 s)) : ∃ st', Go.Ai.call cx ovn2 1000 34 [.string s] ⟨keepIds st0.hp [], st0.ct⟩ = some (Value.tuple { toList := [Value.int IntKind.u32 (0 : Int), Value.int IntKind.i64 (24 : Int)] }, st') :=
  path_call refn2 (toks := [.ev, .ev, .ev, .ev, .no, .ev, .ev, .yes, .no, .yes, .yes, .no, .yes, .ev, .no, .no, .no, .no, .ev, .ev, .ev, .yes, .yes, .ev, .yes, .ev, .ev, .ev, .ev, .ev]) (by kernel_rfl) h
def A34_8 (s : ByteArray) : List Prop := [(decide (digV (lS s) > (65535 : Int))) = true, (decide (digV (lS s) > (65535 : Int))) = true, (decide (digV (lS s) > (65535 : Int))) = true, (decide (digV (fS s) > (65535 : Int))) = false, (decide (digV (fS s) > (65535 : Int))) = false, (decide (digV (fS s) > (65535 : Int))) = false, (!digS (lS s)) = false, (!digS (fS s)) = false, (!digS (fS s)) = false, (!digS (fS s)) = false, C65.pre [Value.string (lS s)], C65.pre [Value.string (fS s)], (decide ((0 : Int) ≤ iS s + (1 : Int) ∧ iS s + (1 : Int) ≤ (s.size : Int))) = true, (decide ((-9223372036854775808 : Int) ≤ iS s + (1 : Int) ∧ iS s + (1 : Int) ≤ (9223372036854775807 : Int))) = true, (decide ((0 : Int) ≤ iS s ∧ iS s ≤ (s.size : Int))) = true, (decide (iS s ≥ (0 : Int))) = true, C133.pre [Value.string s, Value.int IntKind.u8 (46 : Int)], (eqS dotS s) = false]
theorem F34_8 (s : ByteArray) (h : Holds (A34_8 s)) : ∃ st', Go.Ai.call cx ovn2 1000 34 [.string s] ⟨keepIds st0.hp [], st0.ct⟩ = some (Value.tuple { toList := [Value.int IntKind.u32 (0 : Int), Value.int IntKind.i64 (24 : Int)] }, st') :=
  path_call refn2 (toks := [.ev, .ev, .ev, .ev, .no, .ev, .ev, .yes, .no, .yes, .yes, .no, .yes, .ev, .no, .no, .no, .no, .ev, .ev, .ev, .no, .no, .ev, .no, .ev, .yes, .yes, .yes, .ev]) (by kernel_rfl) h
theorem wrap_u64 (x : Int) : IntKind.u64.wrap x = x % 18446744073709551616 := by simp [IntKind.wrap, IntKind.bits, IntKind.signed]
theorem or_add {n m : Int} (h0 : 0 ≤ n) (h1 : n < 65536) (h2 : 0 ≤ m) (h3 : m < 65536) : bitsI .or .u64 (n * 65536) m = n * 65536 + m := by
  obtain ⟨a, rfl⟩ := Int.eq_ofNat_of_zero_le h0
  obtain ⟨b, rfl⟩ := Int.eq_ofNat_of_zero_le h2
  have ha : a < 65536 := by omega
  have hb : b < 65536 := by omega
  have e : a * 65536 ||| b = a * 65536 + b := by
    have := Nat.shiftLeft_add_eq_or_of_lt (i := 16) (b := b) (by omega) a
    rw [Nat.shiftLeft_eq] at this
    exact this.symm
  have e1 : (BitVec.ofInt 64 ((a : Int) * 65536)).toNat = a * 65536 := by
    rw [show ((a : Int) * 65536) = ((a * 65536 : Nat) : Int) by omega, BitVec.ofInt_natCast, BitVec.toNat_ofNat]; omega
  have e2 : (BitVec.ofInt 64 (b : Int)).toNat = b := by
    rw [BitVec.ofInt_natCast, BitVec.toNat_ofNat]; omega
  show IntKind.u64.wrap ((BitVec.ofInt 64 ((a : Int) * 65536) ||| BitVec.ofInt 64 (b : Int)).toNat : Int) = _
  rw [BitVec.toNat_or, e1, e2, e, wrap_u64]
  omega
theorem idx_range (c : UInt8) : ∀ (l : List UInt8) (i j : Nat), idxByte c l i = some j → i ≤ j ∧ j < i + l.length
  | [], i, j, h => by simp [idxByte] at h
  | b :: l, i, j, h => by
    simp only [idxByte] at h
    split at h
    · simp only [Option.some.injEq] at h
      subst h
      simp
    · have := idx_range c l (i + 1) j h
      simp only [List.length_cons]; omega
theorem iS_range (s : ByteArray) : -1 ≤ iS s ∧ iS s < s.size := by
  unfold iS ixI
  split
  · rename_i i h
    have := idx_range _ _ _ _ h
    have e : s.data.toList.length = s.size := rfl
    omega
  · omega
theorem valN_range (s : ByteArray) (hd : allD s) : ∀ (k i : Nat) (n : Int) (e : Nat), i + k ≤ s.size → 0 ≤ n → n < ((10 ^ e : Nat) : Int) → 0 ≤ valN s k i n ∧ valN s k i n < ((10 ^ (e + k) : Nat) : Int)
  | 0, i, n, e, _, h0, h1 => ⟨h0, h1⟩
  | k + 1, i, n, e, h, h0, h1 => by
    rw [valN]
    have h2 := of_decide_eq_true (hd i (by omega))
    have h3 := Nat.pow_succ 10 e
    have := valN_range s hd k (i + 1) (n * 10 + (byteAt s i - 48)) (e + 1) (by omega) (by omega) (by omega)
    rwa [show e + 1 + k = e + (k + 1) by omega] at this
theorem digV_range (s : ByteArray) : 0 ≤ digV s ∧ digV s < 10000000000 := by
  unfold digV
  split
  · rename_i h
    obtain ⟨h1, h2, h3, _⟩ := digS_iff.1 h
    have := valN_range s h3 s.size 0 0 0 (by omega) (by omega) (by decide)
    have hp := Nat.pow_le_pow_right (show 0 < 10 by omega) h2
    rw [Nat.zero_add] at this
    omega
  · omega
/-- what number.Parse tells: the number, the error -/
def parP (s : ByteArray) : Int × Int :=
  if iS s < 0 then if digS s = true then if 4294967295 < digV s then (0, 24) else (digV s, 0) else (0, 5)
  else if digS (fS s) = true ∧ digS (lS s) = true then if 65535 < digV (fS s) ∨ 65535 < digV (lS s) then (0, 24) else (digV (fS s) * 65536 + digV (lS s), 0) else (0, 5)
def parV (s : ByteArray) : Value := .tuple #[.int .u32 (parP s).1, .int .i64 (parP s).2]
theorem F34_all (s : ByteArray) (hm : s.size ≤ 1000) : ∃ st', Go.Ai.call cx ovn2 1000 34 [.string s] ⟨keepIds st0.hp [], st0.ct⟩ = some (parV s, st') := by
  have hi := iS_range s
  have r0 := digV_range s
  have rf := digV_range (fS s)
  have rl := digV_range (lS s)
  have zs : s.size ≤ 9223372036854775807 := by omega
  have zf : (fS s).size ≤ 9223372036854775807 := by unfold fS; rw [ByteArray.size_extract]; omega
  have zl : (lS s).size ≤ 9223372036854775807 := by unfold lS; rw [ByteArray.size_extract]; omega
  have nb {b : Bool} (h : b = true) : (!b) = false := by rw [h]; rfl
  have nt {b : Bool} (h : ¬ b = true) : (!b) = true := by simpa using h
  unfold parV
  cases ed : eqS dotS s with
  | true =>
    have es : s = dotS := by
      unfold eqS at ed
      have := of_decide_eq_true ed
      exact (ByteArray.ext (Array.toList_inj.1 this)).symm
    have : parP s = (0, 5) := by rw [es]; decide
    rw [this, es]
    exact F34_0 dotS ⟨(by kernel_rfl), (by kernel_rfl), (by kernel_rfl), ⟨_, rfl, of_decide_eq_true (by kernel_rfl)⟩, ⟨_, rfl, of_decide_eq_true (by kernel_rfl)⟩, (by kernel_rfl), (by kernel_rfl), (by kernel_rfl), trivial⟩
  | false =>
    unfold parP
    by_cases hn : iS s < 0
    · rw [if_pos hn]
      by_cases h0 : digS s = true
      · have d0 := nb h0
        rw [if_pos h0]
        by_cases h4 : 4294967295 < digV s
        · rw [if_pos h4]; exact F34_3 s ⟨decide_eq_true (by omega), d0, d0, d0, ⟨_, rfl, zs⟩, decide_eq_false (by omega), ⟨_, _, rfl⟩, ed, trivial⟩
        · rw [if_neg h4]; exact F34_1 s ⟨decide_eq_true (by omega), decide_eq_false (by omega), d0, d0, d0, ⟨_, rfl, zs⟩, decide_eq_false (by omega), ⟨_, _, rfl⟩, ed, trivial⟩
      · have d0 := nt h0
        rw [if_neg h0]; exact F34_2 s ⟨d0, d0, d0, ⟨_, rfl, zs⟩, decide_eq_false (by omega), ⟨_, _, rfl⟩, ed, trivial⟩
    · rw [if_neg hn]
      by_cases hf : digS (fS s) = true
      · have df := nb hf
        by_cases hl : digS (lS s) = true
        · have dl := nb hl
          rw [if_pos ⟨hf, hl⟩]
          by_cases h5 : 65535 < digV (fS s)
          · rw [if_pos (.inl h5)]; exact F34_7 s ⟨decide_eq_true (by omega), decide_eq_true (by omega), decide_eq_true (by omega), dl, df, df, df, ⟨_, rfl, zl⟩, ⟨_, rfl, zf⟩, decide_eq_true (by omega), decide_eq_true (by omega), decide_eq_true (by omega), decide_eq_true (by omega), ⟨_, _, rfl⟩, ed, trivial⟩
          · by_cases h6 : 65535 < digV (lS s)
            · rw [if_pos (.inr h6)]; exact F34_8 s ⟨decide_eq_true (by omega), decide_eq_true (by omega), decide_eq_true (by omega), decide_eq_false (by omega), decide_eq_false (by omega), decide_eq_false (by omega), dl, df, df, df, ⟨_, rfl, zl⟩, ⟨_, rfl, zf⟩, decide_eq_true (by omega), decide_eq_true (by omega), decide_eq_true (by omega), decide_eq_true (by omega), ⟨_, _, rfl⟩, ed, trivial⟩
            · rw [if_neg (by omega)]
              have := F34_4 s ⟨decide_eq_true (by rw [or_add (by omega) (by omega) (by omega) (by omega)]; omega), decide_eq_true (by omega), decide_eq_false (by omega), decide_eq_false (by omega), decide_eq_false (by omega), decide_eq_false (by omega), decide_eq_false (by omega), decide_eq_false (by omega), decide_eq_false (by omega), dl, df, df, df, ⟨_, rfl, zl⟩, ⟨_, rfl, zf⟩, decide_eq_true (by omega), decide_eq_true (by omega), decide_eq_true (by omega), decide_eq_true (by omega), ⟨_, _, rfl⟩, ed, trivial⟩
              rwa [or_add (by omega) (by omega) (by omega) (by omega)] at this
        · have dl := nt hl
          rw [if_neg (fun h => hl h.2)]; exact F34_6 s ⟨dl, df, df, df, ⟨_, rfl, zl⟩, ⟨_, rfl, zf⟩, decide_eq_true (by omega), decide_eq_true (by omega), decide_eq_true (by omega), decide_eq_true (by omega), ⟨_, _, rfl⟩, ed, trivial⟩
      · have df := nt hf
        rw [if_neg (fun h => hf h.1)]; exact F34_5 s ⟨df, df, df, ⟨_, rfl, zl⟩, ⟨_, rfl, zf⟩, decide_eq_true (by omega), decide_eq_true (by omega), decide_eq_true (by omega), decide_eq_true (by omega), ⟨_, _, rfl⟩, ed, trivial⟩
def C34 : FC := ⟨34, fun l => ∃ s, l = [.string s] ∧ s.size ≤ 1000, fun l => match l with | [.string s] => parV s | _ => undef, []⟩
theorem C34_good : C34.Good Tryd.prog ovn2 st0 := ⟨by kernel_rfl, fun args ⟨s, e, h⟩ => by subst e; exact ⟨rfl, rfl, 1000, F34_all s h⟩⟩
end Go.Proofs.YtgmojlibppmfhaaDoor

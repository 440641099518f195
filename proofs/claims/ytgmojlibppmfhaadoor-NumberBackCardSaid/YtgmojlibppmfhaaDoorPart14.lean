/- Runs of the abstract interpreter, part 14: by an AI agent. -/
import Derived.Test.YtgmojlibppmfhaaDoorPart13

namespace Go.Proofs.YtgmojlibppmfhaaDoor
open Go Go.Ai
/-! ### the reference's Parse -/
def m1 (s : ByteArray) : Int := rowM s 0
def n1 (s : ByteArray) : Int := rowN s 0
def m2 (s : ByteArray) : Int := rowM s (rowM s 0 + 1)
def n2 (s : ByteArray) : Int := rowN s (rowM s 0 + 1)
def A35_0 (s : ByteArray) : List Prop := [(m1 s == (0 : Int)) = true, C66.pre [Value.string s, Value.int IntKind.i64 (0 : Int)]]
theorem F35_0 (s : ByteArray) (h : Holds (A35_0 s)) : ∃ st', Go.Ai.call cx ovn4 1000 35 [.string s] ⟨keepIds st0.hp [], st0.ct⟩ = some (Value.tuple { toList := [Value.int IntKind.u32 (0 : Int), Value.int IntKind.i64 (5 : Int)] }, st') :=
  path_call refn4 (toks := [.yes]) (by kernel_rfl) h
def A35_1 (s : ByteArray) : List Prop := [(decide ((0 : Int) ≤ n1 s ∧ n1 s ≤ (4294967295 : Int))) = true, (decide (n1 s > (4294967295 : Int))) = false, (m1 s == (s.size : Int)) = true, (m1 s == (0 : Int)) = false, C66.pre [Value.string s, Value.int IntKind.i64 (0 : Int)]]
theorem F35_1 (s : ByteArray) (h : Holds (A35_1 s)) : ∃ st', Go.Ai.call cx ovn4 1000 35 [.string s] ⟨keepIds st0.hp [], st0.ct⟩ = some (Value.tuple { toList := [Value.int IntKind.u32 (n1 s), Value.int IntKind.i64 (0 : Int)] }, st') :=
  path_call refn4 (toks := [.no, .yes, .no, .yes]) (by kernel_rfl) h
def A35_2 (s : ByteArray) : List Prop := [(decide (n1 s > (4294967295 : Int))) = true, (m1 s == (s.size : Int)) = true, (m1 s == (0 : Int)) = false, C66.pre [Value.string s, Value.int IntKind.i64 (0 : Int)]]
theorem F35_2 (s : ByteArray) (h : Holds (A35_2 s)) : ∃ st', Go.Ai.call cx ovn4 1000 35 [.string s] ⟨keepIds st0.hp [], st0.ct⟩ = some (Value.tuple { toList := [Value.int IntKind.u32 (0 : Int), Value.int IntKind.i64 (24 : Int)] }, st') :=
  path_call refn4 (toks := [.no, .yes, .yes]) (by kernel_rfl) h
def A35_3 (s : ByteArray) : List Prop := [(byteAt s (m1 s).toNat != (46 : Int)) = true, (decide ((0 : Int) ≤ m1 s ∧ m1 s < (s.size : Int))) = true, (m1 s == (s.size : Int)) = false, (m1 s == (0 : Int)) = false, C66.pre [Value.string s, Value.int IntKind.i64 (0 : Int)]]
theorem F35_3 (s : ByteArray) (h : Holds (A35_3 s)) : ∃ st', Go.Ai.call cx ovn4 1000 35 [.string s] ⟨keepIds st0.hp [], st0.ct⟩ = some (Value.tuple { toList := [Value.int IntKind.u32 (0 : Int), Value.int IntKind.i64 (5 : Int)] }, st') :=
  path_call refn4 (toks := [.no, .no, .yes, .yes]) (by kernel_rfl) h
def A35_4 (s : ByteArray) : List Prop := [(m2 s == (0 : Int)) = true, (m2 s == (0 : Int)) = true, (m2 s == (0 : Int)) = true, (m2 s == (0 : Int)) = true, (m2 s == (0 : Int)) = true, (m2 s == (0 : Int)) = true, (m2 s == (0 : Int)) = true, (m2 s == (0 : Int)) = true, C66.pre [Value.string s, Value.int IntKind.i64 (m1 s + (1 : Int))], (decide ((-9223372036854775808 : Int) ≤ m1 s + (1 : Int) ∧ m1 s + (1 : Int) ≤ (9223372036854775807 : Int))) = true, (byteAt s (m1 s).toNat != (46 : Int)) = false, (decide ((0 : Int) ≤ m1 s ∧ m1 s < (s.size : Int))) = true, (m1 s == (s.size : Int)) = false, (m1 s == (0 : Int)) = false, C66.pre [Value.string s, Value.int IntKind.i64 (0 : Int)]]
theorem F35_4 (s : ByteArray) (h : Holds (A35_4 s)) : ∃ st', Go.Ai.call cx ovn4 1000 35 [.string s] ⟨keepIds st0.hp [], st0.ct⟩ = some (Value.tuple { toList := [Value.int IntKind.u32 (0 : Int), Value.int IntKind.i64 (5 : Int)] }, st') :=
  path_call refn4 (toks := [.no, .no, .yes, .no, .yes, .yes, .yes, .yes, .yes, .yes, .yes, .yes, .yes, .ev]) (by kernel_rfl) h
def A35_5 (s : ByteArray) : List Prop := [(m1 s + (1 : Int) + m2 s != (s.size : Int)) = true, (m2 s == (0 : Int)) = false, (m2 s == (0 : Int)) = false, (m2 s == (0 : Int)) = false, (m2 s == (0 : Int)) = false, (decide ((-9223372036854775808 : Int) ≤ m1 s + (1 : Int) + m2 s ∧ m1 s + (1 : Int) + m2 s ≤ (9223372036854775807 : Int))) = true, (m2 s == (0 : Int)) = false, (m2 s == (0 : Int)) = false, (decide ((-9223372036854775808 : Int) ≤ m1 s + (1 : Int) ∧ m1 s + (1 : Int) ≤ (9223372036854775807 : Int))) = true, (m2 s == (0 : Int)) = false, (m2 s == (0 : Int)) = false, C66.pre [Value.string s, Value.int IntKind.i64 (m1 s + (1 : Int))], (decide ((-9223372036854775808 : Int) ≤ m1 s + (1 : Int) ∧ m1 s + (1 : Int) ≤ (9223372036854775807 : Int))) = true, (byteAt s (m1 s).toNat != (46 : Int)) = false, (decide ((0 : Int) ≤ m1 s ∧ m1 s < (s.size : Int))) = true, (m1 s == (s.size : Int)) = false, (m1 s == (0 : Int)) = false, C66.pre [Value.string s, Value.int IntKind.i64 (0 : Int)]]
theorem F35_5 (s : ByteArray) (h : Holds (A35_5 s)) : ∃ st', Go.Ai.call cx ovn4 1000 35 [.string s] ⟨keepIds st0.hp [], st0.ct⟩ = some (Value.tuple { toList := [Value.int IntKind.u32 (0 : Int), Value.int IntKind.i64 (5 : Int)] }, st') :=
  path_call refn4 (toks := [.no, .no, .yes, .no, .yes, .no, .no, .yes, .no, .no, .yes, .no, .no, .no, .no, .yes]) (by kernel_rfl) h
def A35_6 (s : ByteArray) : List Prop := [(decide (n1 s > (65535 : Int))) = true, (decide (n1 s > (65535 : Int))) = true, (decide (n1 s > (65535 : Int))) = true, (m1 s + (1 : Int) + m2 s != (s.size : Int)) = false, (m2 s == (0 : Int)) = false, (m2 s == (0 : Int)) = false, (m2 s == (0 : Int)) = false, (m2 s == (0 : Int)) = false, (decide ((-9223372036854775808 : Int) ≤ m1 s + (1 : Int) + m2 s ∧ m1 s + (1 : Int) + m2 s ≤ (9223372036854775807 : Int))) = true, (m2 s == (0 : Int)) = false, (m2 s == (0 : Int)) = false, (decide ((-9223372036854775808 : Int) ≤ m1 s + (1 : Int) ∧ m1 s + (1 : Int) ≤ (9223372036854775807 : Int))) = true, (m2 s == (0 : Int)) = false, (m2 s == (0 : Int)) = false, C66.pre [Value.string s, Value.int IntKind.i64 (m1 s + (1 : Int))], (decide ((-9223372036854775808 : Int) ≤ m1 s + (1 : Int) ∧ m1 s + (1 : Int) ≤ (9223372036854775807 : Int))) = true, (byteAt s (m1 s).toNat != (46 : Int)) = false, (decide ((0 : Int) ≤ m1 s ∧ m1 s < (s.size : Int))) = true, (m1 s == (s.size : Int)) = false, (m1 s == (0 : Int)) = false, C66.pre [Value.string s, Value.int IntKind.i64 (0 : Int)]]
theorem F35_6 (s : ByteArray) (h : Holds (A35_6 s)) : ∃ st', Go.Ai.call cx ovn4 1000 35 [.string s] ⟨keepIds st0.hp [], st0.ct⟩ = some (Value.tuple { toList := [Value.int IntKind.u32 (0 : Int), Value.int IntKind.i64 (24 : Int)] }, st') :=
  path_call refn4 (toks := [.no, .no, .yes, .no, .yes, .no, .no, .yes, .no, .no, .yes, .no, .no, .no, .no, .no, .yes, .yes, .yes, .ev]) (by kernel_rfl) h
def A35_7 (s : ByteArray) : List Prop := [(decide (n2 s > (65535 : Int))) = true, (decide (n1 s > (65535 : Int))) = false, (decide (n1 s > (65535 : Int))) = false, (decide (n1 s > (65535 : Int))) = false, (m1 s + (1 : Int) + m2 s != (s.size : Int)) = false, (m2 s == (0 : Int)) = false, (m2 s == (0 : Int)) = false, (m2 s == (0 : Int)) = false, (m2 s == (0 : Int)) = false, (decide ((-9223372036854775808 : Int) ≤ m1 s + (1 : Int) + m2 s ∧ m1 s + (1 : Int) + m2 s ≤ (9223372036854775807 : Int))) = true, (m2 s == (0 : Int)) = false, (m2 s == (0 : Int)) = false, (decide ((-9223372036854775808 : Int) ≤ m1 s + (1 : Int) ∧ m1 s + (1 : Int) ≤ (9223372036854775807 : Int))) = true, (m2 s == (0 : Int)) = false, (m2 s == (0 : Int)) = false, C66.pre [Value.string s, Value.int IntKind.i64 (m1 s + (1 : Int))], (decide ((-9223372036854775808 : Int) ≤ m1 s + (1 : Int) ∧ m1 s + (1 : Int) ≤ (9223372036854775807 : Int))) = true, (byteAt s (m1 s).toNat != (46 : Int)) = false, (decide ((0 : Int) ≤ m1 s ∧ m1 s < (s.size : Int))) = true, (m1 s == (s.size : Int)) = false, (m1 s == (0 : Int)) = false, C66.pre [Value.string s, Value.int IntKind.i64 (0 : Int)]]
theorem F35_7 (s : ByteArray) (h : Holds (A35_7 s)) : ∃ st', Go.Ai.call cx ovn4 1000 35 [.string s] ⟨keepIds st0.hp [], st0.ct⟩ = some (Value.tuple { toList := [Value.int IntKind.u32 (0 : Int), Value.int IntKind.i64 (24 : Int)] }, st') :=
  path_call refn4 (toks := [.no, .no, .yes, .no, .yes, .no, .no, .yes, .no, .no, .yes, .no, .no, .no, .no, .no, .no, .no, .no, .yes]) (by kernel_rfl) h
def A35_8 (s : ByteArray) : List Prop := [(decide ((0 : Int) ≤ (65536 : Int) * n1 s + n2 s ∧ (65536 : Int) * n1 s + n2 s ≤ (4294967295 : Int))) = true, (decide ((-9223372036854775808 : Int) ≤ (65536 : Int) * n1 s + n2 s ∧ (65536 : Int) * n1 s + n2 s ≤ (9223372036854775807 : Int))) = true, (decide ((-9223372036854775808 : Int) ≤ (65536 : Int) * n1 s ∧ (65536 : Int) * n1 s ≤ (9223372036854775807 : Int))) = true, (decide (n2 s > (65535 : Int))) = false, (decide (n1 s > (65535 : Int))) = false, (decide (n1 s > (65535 : Int))) = false, (decide (n1 s > (65535 : Int))) = false, (m1 s + (1 : Int) + m2 s != (s.size : Int)) = false, (m2 s == (0 : Int)) = false, (m2 s == (0 : Int)) = false, (m2 s == (0 : Int)) = false, (m2 s == (0 : Int)) = false, (decide ((-9223372036854775808 : Int) ≤ m1 s + (1 : Int) + m2 s ∧ m1 s + (1 : Int) + m2 s ≤ (9223372036854775807 : Int))) = true, (m2 s == (0 : Int)) = false, (m2 s == (0 : Int)) = false, (decide ((-9223372036854775808 : Int) ≤ m1 s + (1 : Int) ∧ m1 s + (1 : Int) ≤ (9223372036854775807 : Int))) = true, (m2 s == (0 : Int)) = false, (m2 s == (0 : Int)) = false, C66.pre [Value.string s, Value.int IntKind.i64 (m1 s + (1 : Int))], (decide ((-9223372036854775808 : Int) ≤ m1 s + (1 : Int) ∧ m1 s + (1 : Int) ≤ (9223372036854775807 : Int))) = true, (byteAt s (m1 s).toNat != (46 : Int)) = false, (decide ((0 : Int) ≤ m1 s ∧ m1 s < (s.size : Int))) = true, (m1 s == (s.size : Int)) = false, (m1 s == (0 : Int)) = false, C66.pre [Value.string s, Value.int IntKind.i64 (0 : Int)]]
theorem F35_8 (s : ByteArray) (h : Holds (A35_8 s)) : ∃ st', Go.Ai.call cx ovn4 1000 35 [.string s] ⟨keepIds st0.hp [], st0.ct⟩ = some (Value.tuple { toList := [Value.int IntKind.u32 ((65536 : Int) * n1 s + n2 s), Value.int IntKind.i64 (0 : Int)] }, st') :=
  path_call refn4 (toks := [.no, .no, .yes, .no, .yes, .no, .no, .yes, .no, .no, .yes, .no, .no, .no, .no, .no, .no, .no, .no, .no, .yes, .yes, .yes]) (by kernel_rfl) h
theorem valN_one {s : ByteArray} : ∀ (k i : Nat) (n : Int) (e : Nat), (∀ j, i ≤ j → j < i + k → isD (byteAt s j) = true) → 0 ≤ n → n < ((10 ^ e : Nat) : Int) → 0 ≤ valN s k i n ∧ valN s k i n < ((10 ^ (e + k) : Nat) : Int)
  | 0, i, n, e, _, h0, h1 => ⟨h0, h1⟩
  | k + 1, i, n, e, h, h0, h1 => by
    rw [valN]
    have h2 := of_decide_eq_true (h i (Nat.le_refl _) (by omega))
    have h3 := Nat.pow_succ 10 e
    have := valN_one k (i + 1) (n * 10 + (byteAt s i - 48)) (e + 1) (fun j g1 g2 => h j (by omega) (by omega)) (by omega) (by omega)
    rwa [show e + 1 + k = e + (k + 1) by omega] at this
theorem row_facts (s : ByteArray) {a : Int} (ha : 0 ≤ a) : 0 ≤ rowM s a ∧ rowM s a ≤ 10 ∧ (0 < rowM s a → a + rowM s a ≤ s.size) ∧ 0 ≤ rowN s a ∧ rowN s a < 10000000000 ∧
    (∀ i, 0 ≤ i → i < rowM s a → isD (byteAt s (a + i).toNat) = true) ∧ (0 < rowM s a → rowN s a = valN s (rowM s a).toNat a.toNat 0 ∧ (1 < rowM s a → byteAt s a.toNat ≠ 48) ∧ ¬ (a + rowM s a < s.size ∧ isD (byteAt s (a + rowM s a).toNat) = true)) := by
  obtain ⟨g1, g2, g3, g4, g5⟩ := rowR_spec s a ha 11 0 0 (by omega)
  unfold rowM rowN
  by_cases hb : rowBad s a
  · rw [if_pos hb, if_pos hb]
    exact ⟨by omega, by omega, fun h => by omega, by omega, by omega, fun i h0 h1 => by omega, fun h => by omega⟩
  · rw [if_neg hb, if_neg hb]
    have hb1 : ¬ 10 < (rowR s a 11 0 0).2 := fun h => hb (.inl h)
    have hb2 : 1 < (rowR s a 11 0 0).2 → byteAt s a.toNat ≠ 48 := fun h e => hb (.inr ⟨h, e⟩)
    generalize rowR s a 11 0 0 = r at g1 g2 g3 g4 g5 hb1 hb2
    have hv := valN_one (s := s) (r.2 - 0).toNat (a + 0).toNat 0 0 (fun j h1 h2 => by
      have := (g3 (j - a) (by omega) (by omega)).2
      rwa [show (a + ((j : Int) - a)).toNat = j by omega] at this) (by omega) (by decide)
    rw [← g5, Nat.zero_add] at hv
    have hp := Nat.pow_le_pow_right (show 0 < 10 by omega) (show (r.2 - 0).toNat ≤ 10 by omega)
    have hq : (10 ^ 10 : Nat) = 10000000000 := by decide
    rw [hq] at hp
    refine ⟨g1, by omega, fun h => ?_, hv.1, by omega, fun i h0 h1 => (g3 i h0 h1).2, fun h => ⟨?_, hb2, g4 (by omega)⟩⟩
    · have := (g3 (r.2 - 1) (by omega) (by omega)).1; omega
    · rw [g5, show (r.2 - 0).toNat = r.2.toNat by omega, show (a + 0).toNat = a.toNat by omega]
/-- what the reference's Parse tells -/
def parR (s : ByteArray) : Int × Int :=
  if m1 s = 0 then (0, 5) else if m1 s = s.size then if 4294967295 < n1 s then (0, 24) else (n1 s, 0)
  else if byteAt s (m1 s).toNat ≠ 46 then (0, 5) else if m2 s = 0 ∨ m1 s + 1 + m2 s ≠ s.size then (0, 5)
  else if 65535 < n1 s ∨ 65535 < n2 s then (0, 24) else (65536 * n1 s + n2 s, 0)
theorem F35_all (s : ByteArray) (hs : s.size ≤ 1000) : ∃ st', Go.Ai.call cx ovn4 1000 35 [.string s] ⟨keepIds st0.hp [], st0.ct⟩ = some (.tuple #[.int .u32 (parR s).1, .int .i64 (parR s).2], st') := by
  obtain ⟨a1, a2, a3, a4, a5, _⟩ := row_facts s (a := 0) (Int.le_refl _)
  have e1 : rowM s 0 = m1 s := rfl
  have e2 : rowN s 0 = n1 s := rfl
  rw [e1] at a1 a2 a3
  rw [e2] at a4 a5
  obtain ⟨b1, b2, b3, b4, b5, _⟩ := row_facts s (a := m1 s + 1) (by omega)
  have e3 : rowM s (m1 s + 1) = m2 s := rfl
  have e4 : rowN s (m1 s + 1) = n2 s := rfl
  rw [e3] at b1 b2 b3
  rw [e4] at b4 b5
  unfold parR
  by_cases h0 : m1 s = 0
  · rw [if_pos h0]; exact F35_0 s ⟨beq_iff_eq.2 (by omega), ⟨_, _, rfl, hs, by omega, by omega⟩, trivial⟩
  · rw [if_neg h0]
    have a3 := a3 (by omega)
    by_cases h1 : m1 s = s.size
    · rw [if_pos h1]
      by_cases h2 : 4294967295 < n1 s
      · rw [if_pos h2]; exact F35_2 s ⟨decide_eq_true (by omega), beq_iff_eq.2 (by omega), beq_eq_false_iff_ne.2 (by omega), ⟨_, _, rfl, hs, by omega, by omega⟩, trivial⟩
      · rw [if_neg h2]; exact F35_1 s ⟨decide_eq_true (by omega), decide_eq_false (by omega), beq_iff_eq.2 (by omega), beq_eq_false_iff_ne.2 (by omega), ⟨_, _, rfl, hs, by omega, by omega⟩, trivial⟩
    · rw [if_neg h1]
      by_cases h3 : byteAt s (m1 s).toNat ≠ 46
      · rw [if_pos h3]; exact F35_3 s ⟨bne_iff_ne.2 (by omega), decide_eq_true (by omega), beq_eq_false_iff_ne.2 (by omega), beq_eq_false_iff_ne.2 (by omega), ⟨_, _, rfl, hs, by omega, by omega⟩, trivial⟩
      · rw [if_neg h3]
        by_cases h4 : m2 s = 0
        · rw [if_pos (.inl h4)]; exact F35_4 s ⟨beq_iff_eq.2 (by omega), beq_iff_eq.2 (by omega), beq_iff_eq.2 (by omega), beq_iff_eq.2 (by omega), beq_iff_eq.2 (by omega), beq_iff_eq.2 (by omega), beq_iff_eq.2 (by omega), beq_iff_eq.2 (by omega), ⟨_, _, rfl, hs, by omega, by omega⟩, decide_eq_true (by omega), bne_eq_false_iff_eq.2 (by omega), decide_eq_true (by omega), beq_eq_false_iff_ne.2 (by omega), beq_eq_false_iff_ne.2 (by omega), ⟨_, _, rfl, hs, by omega, by omega⟩, trivial⟩
        · have b3 := b3 (by omega)
          by_cases h5 : m1 s + 1 + m2 s ≠ s.size
          · rw [if_pos (.inr h5)]; exact F35_5 s ⟨bne_iff_ne.2 (by omega), beq_eq_false_iff_ne.2 (by omega), beq_eq_false_iff_ne.2 (by omega), beq_eq_false_iff_ne.2 (by omega), beq_eq_false_iff_ne.2 (by omega), decide_eq_true (by omega), beq_eq_false_iff_ne.2 (by omega), beq_eq_false_iff_ne.2 (by omega), decide_eq_true (by omega), beq_eq_false_iff_ne.2 (by omega), beq_eq_false_iff_ne.2 (by omega), ⟨_, _, rfl, hs, by omega, by omega⟩, decide_eq_true (by omega), bne_eq_false_iff_eq.2 (by omega), decide_eq_true (by omega), beq_eq_false_iff_ne.2 (by omega), beq_eq_false_iff_ne.2 (by omega), ⟨_, _, rfl, hs, by omega, by omega⟩, trivial⟩
          · rw [if_neg (by omega)]
            by_cases h6 : 65535 < n1 s
            · rw [if_pos (.inl h6)]; exact F35_6 s ⟨decide_eq_true (by omega), decide_eq_true (by omega), decide_eq_true (by omega), bne_eq_false_iff_eq.2 (by omega), beq_eq_false_iff_ne.2 (by omega), beq_eq_false_iff_ne.2 (by omega), beq_eq_false_iff_ne.2 (by omega), beq_eq_false_iff_ne.2 (by omega), decide_eq_true (by omega), beq_eq_false_iff_ne.2 (by omega), beq_eq_false_iff_ne.2 (by omega), decide_eq_true (by omega), beq_eq_false_iff_ne.2 (by omega), beq_eq_false_iff_ne.2 (by omega), ⟨_, _, rfl, hs, by omega, by omega⟩, decide_eq_true (by omega), bne_eq_false_iff_eq.2 (by omega), decide_eq_true (by omega), beq_eq_false_iff_ne.2 (by omega), beq_eq_false_iff_ne.2 (by omega), ⟨_, _, rfl, hs, by omega, by omega⟩, trivial⟩
            · by_cases h7 : 65535 < n2 s
              · rw [if_pos (.inr h7)]; exact F35_7 s ⟨decide_eq_true (by omega), decide_eq_false (by omega), decide_eq_false (by omega), decide_eq_false (by omega), bne_eq_false_iff_eq.2 (by omega), beq_eq_false_iff_ne.2 (by omega), beq_eq_false_iff_ne.2 (by omega), beq_eq_false_iff_ne.2 (by omega), beq_eq_false_iff_ne.2 (by omega), decide_eq_true (by omega), beq_eq_false_iff_ne.2 (by omega), beq_eq_false_iff_ne.2 (by omega), decide_eq_true (by omega), beq_eq_false_iff_ne.2 (by omega), beq_eq_false_iff_ne.2 (by omega), ⟨_, _, rfl, hs, by omega, by omega⟩, decide_eq_true (by omega), bne_eq_false_iff_eq.2 (by omega), decide_eq_true (by omega), beq_eq_false_iff_ne.2 (by omega), beq_eq_false_iff_ne.2 (by omega), ⟨_, _, rfl, hs, by omega, by omega⟩, trivial⟩
              · rw [if_neg (by omega)]; exact F35_8 s ⟨decide_eq_true (by omega), decide_eq_true (by omega), decide_eq_true (by omega), decide_eq_false (by omega), decide_eq_false (by omega), decide_eq_false (by omega), decide_eq_false (by omega), bne_eq_false_iff_eq.2 (by omega), beq_eq_false_iff_ne.2 (by omega), beq_eq_false_iff_ne.2 (by omega), beq_eq_false_iff_ne.2 (by omega), beq_eq_false_iff_ne.2 (by omega), decide_eq_true (by omega), beq_eq_false_iff_ne.2 (by omega), beq_eq_false_iff_ne.2 (by omega), decide_eq_true (by omega), beq_eq_false_iff_ne.2 (by omega), beq_eq_false_iff_ne.2 (by omega), ⟨_, _, rfl, hs, by omega, by omega⟩, decide_eq_true (by omega), bne_eq_false_iff_eq.2 (by omega), decide_eq_true (by omega), beq_eq_false_iff_ne.2 (by omega), beq_eq_false_iff_ne.2 (by omega), ⟨_, _, rfl, hs, by omega, by omega⟩, trivial⟩
end Go.Proofs.YtgmojlibppmfhaaDoor

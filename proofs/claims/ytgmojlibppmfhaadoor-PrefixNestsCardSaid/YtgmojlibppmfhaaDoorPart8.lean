/- Runs of the abstract interpreter, part 8: by an AI agent. -/
import Derived.Test.YtgmojlibppmfhaaDoorPart7

namespace Go.Proofs.YtgmojlibppmfhaaDoor
open Go Go.Ai
/-! ### how prefixes contain one another -/
theorem pw_succ {P : Int} (h0 : 0 ≤ P) (h1 : P < 32) : pw P = 2 * pw (P + 1) := by
  unfold pw
  have e : (32 - P).toNat = (32 - (P + 1)).toNat + 1 := by omega
  rw [e, Int.pow_succ, Int.mul_comm]
theorem pw_last : pw 32 = 1 := by decide
theorem pw_up {P Q : Int} (h0 : P ≤ Q) (h1 : Q ≤ 32) : ∃ k : Int, 0 < k ∧ pw P = pw Q * k := by
  refine ⟨2 ^ (Q - P).toNat, Int.pow_pos (by omega), ?_⟩
  unfold pw
  rw [← Int.pow_add]
  congr 1; omega
theorem fl_fl (z : Int) {P Q : Int} (h0 : P ≤ Q) (h1 : Q ≤ 32) : flF (flF z Q) P = flF z P := by
  obtain ⟨k, hk, e⟩ := pw_up h0 h1
  have hq := pw_pos Q
  unfold flF
  rw [e]
  congr 1
  rw [Int.mul_comm (z / pw Q) (pw Q), Int.mul_ediv_mul_of_pos _ _ hq, Int.ediv_ediv_of_nonneg (by omega)]
theorem fl_last (z : Int) : flF z 32 = z := by unfold flF; rw [pw_last]; omega
theorem fl_le (z P : Int) : flF z P ≤ z := Int.ediv_mul_le z (by have := pw_pos P; omega)
theorem fl_mul (z P : Int) : ∃ q, flF z P = q * pw P := ⟨z / pw P, rfl⟩
theorem fl_of_mul (q P : Int) : flF (q * pw P) P = q * pw P := by
  unfold flF; rw [Int.mul_ediv_cancel _ (by have := pw_pos P; omega)]
/-- the upper half's address -/
def upF (X P : Int) : Int := X + pw (P + 1)
theorem half_top {X P : Int} (h0 : 0 ≤ P) (h1 : P < 32) (hX0 : 0 ≤ X) (hX1 : X < 4294967296) (hX : flF X P = X) : X + pw (P + 1) < 4294967296 := by
  obtain ⟨q, hq⟩ := fl_mul X P
  rw [hX] at hq
  have hs := pw_succ h0 h1
  obtain ⟨k, hk, e⟩ := pw_up (show (0 : Int) ≤ P + 1 by omega) (show P + 1 ≤ 32 by omega)
  have hp := pw_pos (P + 1)
  have hz : pw 0 = 4294967296 := by decide
  rw [hz] at e
  rw [hq, hs] at hX1 ⊢
  rw [e] at hX1 ⊢
  have h2 : q * (2 * pw (P + 1)) = pw (P + 1) * (2 * q) := by rw [← Int.mul_assoc, Int.mul_comm q 2, Int.mul_comm]
  rw [h2] at hX1 ⊢
  have h3 : 2 * q < k := Int.lt_of_mul_lt_mul_left hX1 (by omega)
  obtain ⟨j, hj, ej⟩ : ∃ j : Int, 0 < j ∧ k = 2 * j := by
    obtain ⟨j, hj, e2⟩ := pw_up h0 (show P ≤ 32 by omega)
    obtain ⟨j', hj', e3⟩ := pw_up (show (0 : Int) ≤ P by omega) (show P ≤ 32 by omega)
    refine ⟨j', hj', ?_⟩
    rw [hz, e, hs] at e3
    have : pw (P + 1) * k = pw (P + 1) * (2 * j') := by rw [e3]; rw [Int.mul_comm 2, Int.mul_assoc]
    exact Int.eq_of_mul_eq_mul_left (by omega) this
  have h4 : 2 * q + 1 < k := by omega
  have h5 : pw (P + 1) * (2 * q + 1) < pw (P + 1) * k := Int.mul_lt_mul_of_pos_left h4 hp
  rw [Int.mul_add, Int.mul_one] at h5
  exact h5
theorem or_nat (a i : Nat) : 2 ^ (i + 1) * a ||| 2 ^ i = 2 ^ (i + 1) * a + 2 ^ i :=
  (Nat.two_pow_add_eq_or_of_lt (Nat.pow_lt_pow_right (by omega) (by omega)) a).symm
theorem bits_up {X P : Int} (h0 : 0 ≤ P) (h1 : P < 32) (hX0 : 0 ≤ X) (hX1 : X < 4294967296) (hX : flF X P = X) :
    bitsI .or .u32 X (1 * 2 ^ Min.min (31 - P).toNat 32) = upF X P := by
  have ht := half_top h0 h1 hX0 hX1 hX
  obtain ⟨j, hj, hj2⟩ : ∃ j : Nat, (31 - P).toNat = j ∧ j ≤ 31 := ⟨_, rfl, by omega⟩
  have e1 : pw (P + 1) = ((2 ^ j : Nat) : Int) := by
    unfold pw; rw [show (32 - (P + 1)).toNat = j by omega, Int.natCast_pow]; rfl
  have e0 : (1 : Int) * 2 ^ Min.min (31 - P).toNat 32 = ((2 ^ j : Nat) : Int) := by
    rw [Int.one_mul, hj, show Min.min j 32 = j by omega, Int.natCast_pow]; rfl
  obtain ⟨q, hq⟩ := fl_mul X P
  rw [hX, pw_succ h0 h1, e1] at hq
  obtain ⟨k, rfl⟩ : ∃ k : Nat, X = k := ⟨X.toNat, by omega⟩
  have hpos : 0 < 2 ^ j := Nat.two_pow_pos j
  have hle : 2 ^ j ≤ 2147483648 := Nat.pow_le_pow_right (n := 2) (by omega) hj2
  have hq0 : 0 ≤ q := by
    by_cases hn : 0 ≤ q
    · exact hn
    · exfalso
      have : q * (2 * ((2 ^ j : Nat) : Int)) < 0 := Int.mul_neg_of_neg_of_pos (by omega) (by omega)
      omega
  obtain ⟨m, rfl⟩ : ∃ m : Nat, q = m := ⟨q.toNat, by omega⟩
  have hk : k = 2 ^ (j + 1) * m := by
    have : (k : Int) = ((m * (2 * 2 ^ j) : Nat) : Int) := by rw [hq]; push_cast; rfl
    rw [Nat.pow_succ, Nat.mul_comm (2 ^ j) 2, Nat.mul_comm]
    exact Int.ofNat.inj this
  unfold upF
  rw [e1] at ht ⊢
  rw [e0]
  have : (BitVec.ofInt 32 (k : Int) ||| BitVec.ofInt 32 ((2 ^ j : Nat) : Int)).toNat = k + 2 ^ j := by
    rw [BitVec.toNat_or]
    have e1 : (BitVec.ofInt 32 (k : Int)).toNat = k := by rw [BitVec.toNat_ofInt]; omega
    have e2 : (BitVec.ofInt 32 ((2 ^ j : Nat) : Int)).toNat = 2 ^ j := by rw [BitVec.toNat_ofInt]; omega
    rw [e1, e2, hk]
    exact or_nat m j
  show IntKind.u32.wrap ((BitVec.ofInt 32 (k : Int) ||| BitVec.ofInt 32 ((2 ^ j : Nat) : Int)).toNat : Int) = _
  rw [this]
  rw [wrap_in (k := .u32) (z := ((k + 2 ^ j : Nat) : Int)) ⟨by rw [show IntKind.u32.min = 0 by decide]; omega, by rw [show IntKind.u32.max = 4294967295 by decide]; omega⟩]
  push_cast; rfl
end Go.Proofs.YtgmojlibppmfhaaDoor

/- Runs of the abstract interpreter, part 3: by an AI agent. -/
import Derived.Test.YtgmojlibppmfhaaDoorPart2

namespace Go.Proofs.YtgmojlibppmfhaaDoor
open Go Go.Ai
/-- how many addresses there are behind so many bits -/
def pw (b : Int) : Int := 2 ^ (32 - b).toNat
def clampF (b : Int) : Int := if b < 0 then 0 else if 32 < b then 32 else b
/-- without what stands behind so many bits -/
def flF (x b : Int) : Int := x / pw b * pw b
def maskF (b : Int) : Int := 4294967296 - pw b
theorem pw_pos (b : Int) : 0 < pw b := Int.pow_pos (by omega)
theorem pw_le (b : Int) (h0 : 0 ≤ b) (h1 : b ≤ 32) : pw b ≤ 4294967296 := by
  unfold pw
  have : (2 : Nat) ^ (32 - b).toNat ≤ 2 ^ 32 := Nat.pow_le_pow_right (by omega) (by omega)
  have e : (2 : Int) ^ (32 - b).toNat = ((2 ^ (32 - b).toNat : Nat) : Int) := by rw [Int.natCast_pow]; rfl
  rw [e]; omega
theorem and_mask_nat (x k : Nat) (hk : k ≤ 32) (hx : x < 4294967296) : x &&& (4294967296 - 2 ^ k) = x / 2 ^ k * 2 ^ k := by
  have e1 : 4294967296 - 2 ^ k = (2 ^ (32 - k) - 1) <<< k := by
    rw [Nat.shiftLeft_eq, Nat.sub_mul, ← Nat.pow_add, Nat.one_mul, Nat.sub_add_cancel hk]
  have e2 : x / 2 ^ k * 2 ^ k = (x >>> k) <<< k := by rw [Nat.shiftLeft_eq, Nat.shiftRight_eq_div_pow]
  rw [e1, e2]
  apply Nat.eq_of_testBit_eq
  intro i
  rw [Nat.testBit_and, Nat.testBit_shiftLeft, Nat.testBit_shiftLeft, Nat.testBit_two_pow_sub_one, Nat.testBit_shiftRight]
  by_cases h : k ≤ i
  · simp only [h, decide_true, Bool.true_and, ge_iff_le]
    rw [show k + (i - k) = i by omega]
    by_cases h2 : i < 32
    · simp [show i - k < 32 - k by omega]
    · have : x.testBit i = false := Nat.testBit_lt_two_pow (Nat.lt_of_lt_of_le hx (by
        have : 2 ^ 32 ≤ 2 ^ i := Nat.pow_le_pow_right (by omega) (by omega)
        omega))
      simp [this]
  · simp [h]
theorem bits_mask (x b : Int) (h0 : 0 ≤ x) (h1 : x < 4294967296) (h2 : 0 ≤ b) (h3 : b ≤ 32) : bitsI .and .u32 x (maskF b) = flF x b := by
  obtain ⟨k, rfl⟩ : ∃ k : Nat, x = k := ⟨x.toNat, by omega⟩
  obtain ⟨j, hj, hj2⟩ : ∃ j : Nat, (32 - b).toNat = j ∧ j ≤ 32 := ⟨_, rfl, by omega⟩
  have hp : pw b = ((2 ^ j : Nat) : Int) := by unfold pw; rw [hj, Int.natCast_pow]; rfl
  have hle : 2 ^ j ≤ 4294967296 := by
    have : (2 : Nat) ^ j ≤ 2 ^ 32 := Nat.pow_le_pow_right (by omega) hj2
    omega
  have hpos : 0 < 2 ^ j := Nat.two_pow_pos j
  have hm : maskF b = ((4294967296 - 2 ^ j : Nat) : Int) := by unfold maskF; rw [hp]; omega
  have : (BitVec.ofInt 32 (k : Int) &&& BitVec.ofInt 32 (maskF b)).toNat = k / 2 ^ j * 2 ^ j := by
    rw [BitVec.toNat_and]
    have e1 : (BitVec.ofInt 32 (k : Int)).toNat = k := by simp; omega
    have e2 : (BitVec.ofInt 32 (maskF b)).toNat = 4294967296 - 2 ^ j := by rw [hm, BitVec.toNat_ofInt]; omega
    rw [e1, e2]
    exact and_mask_nat k j hj2 (by omega)
  show IntKind.u32.wrap ((BitVec.ofInt 32 (k : Int) &&& BitVec.ofInt 32 (maskF b)).toNat : Int) = _
  rw [this]
  have hb : k / 2 ^ j * 2 ^ j ≤ k := Nat.div_mul_le_self _ _
  have hc : ((k / 2 ^ j * 2 ^ j : Nat) : Int) = flF k b := by
    unfold flF
    rw [hp, Int.natCast_mul, Int.natCast_ediv]
  generalize k / 2 ^ j * 2 ^ j = z at hb hc
  rw [wrap_in (k := .u32) (z := (z : Int)) ⟨by rw [show IntKind.u32.min = 0 by decide]; omega, by rw [show IntKind.u32.max = 4294967295 by decide]; omega⟩]
  exact hc
theorem bits_one (z : Int) (h0 : 0 ≤ z) (h1 : z < 4294967296) : bitsI .and .u32 z 1 = z % 2 := by
  obtain ⟨k, rfl⟩ : ∃ k : Nat, z = k := ⟨z.toNat, by omega⟩
  have : (BitVec.ofInt 32 (k : Int) &&& BitVec.ofInt 32 1).toNat = k % 2 := by
    rw [BitVec.toNat_and]
    have e1 : (BitVec.ofInt 32 (k : Int)).toNat = k := by simp; omega
    have e2 : (BitVec.ofInt 32 1).toNat = 1 := by decide
    rw [e1, e2]
    exact Nat.and_two_pow_sub_one_eq_mod k 1
  show IntKind.u32.wrap ((BitVec.ofInt 32 (k : Int) &&& BitVec.ofInt 32 1).toNat : Int) = _
  rw [this]
  rw [wrap_in (k := .u32) (z := ((k % 2 : Nat) : Int)) ⟨by rw [show IntKind.u32.min = 0 by decide]; omega, by rw [show IntKind.u32.max = 4294967295 by decide]; omega⟩]
  omega
theorem div_pow_range (x : Int) (n : Nat) (h0 : 0 ≤ x) : 0 ≤ x / 2 ^ n ∧ x / 2 ^ n ≤ x := by
  have hp : (0 : Int) < 2 ^ n := Int.pow_pos (by omega)
  refine ⟨Int.ediv_nonneg h0 (by omega), ?_⟩
  exact Int.ediv_le_self _ h0
theorem min_eq2 (k : Int) (h0 : 0 ≤ k) : (2 : Int) ^ Min.min (31 - k).toNat 32 = 2 ^ (31 - k).toNat := by congr 1; omega
theorem clampF_range (b : Int) : 0 ≤ clampF b ∧ clampF b ≤ 32 := by unfold clampF; repeat' split <;> omega
theorem clampF_id {b : Int} (h0 : 0 ≤ b) (h1 : b ≤ 32) : clampF b = b := by unfold clampF; repeat' split <;> omega
def mayF (x b : Int) : Bool := (x == flF x (clampF b)) && ((b == clampF b) && true)
def hasF (x b y : Int) : Bool := mayF x b && (flF y b == x)
def contF (x b y c : Int) : Bool := mayF y c && (decide (b ≤ c) && hasF x b y)
def bitF (x k : Int) : Bool := decide (0 ≤ k) && (decide (k < 32) && (x / 2 ^ (31 - k).toNat % 2 == 1))
def cmpF (x b y c : Int) : Int := if x < y then -1 else if y < x then 1 else if b < c then -1 else if c < b then 1 else 0
theorem clamp_if (b : Int) : (if (if (32 : Int) < b then (32 : Int) else b) > (0 : Int) then if (32 : Int) < b then (32 : Int) else b else (0 : Int)) = clampF b := by
  unfold clampF
  repeat' split
  all_goals omega
theorem mayF_iff (x b : Int) : mayF x b = true ↔ x = flF x (clampF b) ∧ b = clampF b := by unfold mayF; simp
theorem mayF_range {x b : Int} (h : mayF x b = true) : 0 ≤ b ∧ b ≤ 32 ∧ x = flF x b := by
  obtain ⟨h1, h2⟩ := (mayF_iff x b).1 h
  have := clampF_range b
  rw [← h2] at h1
  exact ⟨by omega, by omega, h1⟩
theorem flF_range {x b : Int} (h0 : 0 ≤ x) : 0 ≤ flF x b ∧ flF x b ≤ x := by
  unfold flF
  have hp := pw_pos b
  exact ⟨Int.mul_nonneg (Int.ediv_nonneg h0 (by omega)) (by omega), Int.ediv_mul_le x (by omega)⟩
theorem min_eq (b : Int) (h0 : 0 ≤ b) (h1 : b ≤ 32) : (2 : Int) ^ Min.min (32 - b).toNat 64 = pw b := by
  unfold pw; congr 1; omega
theorem wrap_mask (b : Int) (h0 : 0 ≤ b) (h1 : b ≤ 32) : IntKind.u32.wrap (4294967295 * pw b) = maskF b := by
  have h2 := pw_pos b
  have h3 := pw_le b h0 h1
  show 4294967295 * pw b % 4294967296 = _
  unfold maskF; omega
end Go.Proofs.YtgmojlibppmfhaaDoor

/- Runs of the abstract interpreter, part 8: by an AI agent. -/
import Derived.Test.YtgmojlibppmfhaaDoorPart7

namespace Go.Proofs.YtgmojlibppmfhaaDoor
open Go Go.Ai

/-! what numbers' texts are -/
def kindF (n : Int) : Int :=
  if n = 0 then 1 else if n = 23456 then 2 else if (64512 ≤ n ∧ n ≤ 65534) ∨ (4200000000 ≤ n ∧ n ≤ 4294967294) then 3 else
  if (64496 ≤ n ∧ n ≤ 64511) ∨ (65535 ≤ n ∧ n ≤ 65551) ∨ n = 4294967295 then 4 else 5
def dig (k : Nat) : UInt8 := UInt8.ofNat (48 + k)
def decLf : Nat → Nat → List UInt8
  | 0, _ => []
  | f + 1, k => if k < 10 then [dig k] else decLf f (k / 10) ++ [dig (k % 10)]
def decL (k : Nat) : List UInt8 := decLf 20 k
def decB (n : Int) : ByteArray := ⟨⟨decL n.toNat⟩⟩
def lenNf : Nat → Nat → Nat
  | 0, _ => 0
  | f + 1, k => if k = 0 then 0 else 1 + lenNf f (k / 2)
/-- (below 2 ^ 40) -/
def lenN (k : Nat) : Nat := lenNf 40 k
def lenF (n : Int) : Int := (lenN n.toNat : Int)
def ndF (n : Int) : Int := if n < 10 then 1 else if n < 100 then 2 else if n < 1000 then 3 else if n < 10000 then 4 else if n < 100000 then 5 else if n < 1000000 then 6 else if n < 10000000 then 7 else if n < 100000000 then 8 else if n < 1000000000 then 9 else 10

theorem decLf_fuel : ∀ (f g k : Nat), k < 10 ^ f → k < 10 ^ g → 0 < f → 0 < g → decLf f k = decLf g k
  | 0, _, _, _, _, h, _ => by omega
  | _, 0, _, _, _, _, h => by omega
  | f + 1, g + 1, k, h1, h2, _, _ => by
    simp only [decLf]
    by_cases h : k < 10
    · simp [h]
    · rw [if_neg h, if_neg h]
      rw [Nat.pow_succ] at h1 h2
      have hf : 0 < f := by cases f with
        | zero => simp at h1; omega
        | succ f => omega
      have hg : 0 < g := by cases g with
        | zero => simp at h2; omega
        | succ g => omega
      rw [decLf_fuel f g (k / 10) (by omega) (by omega) hf hg]
theorem decL_lt {k : Nat} (h : k < 10) : decL k = [dig k] := by simp [decL, decLf, h]
theorem decL_ge {k : Nat} (h : 10 ≤ k) (h2 : k < 10000000000000000000) : decL k = decL (k / 10) ++ [dig (k % 10)] := by
  have : decL k = decLf 19 (k / 10) ++ [dig (k % 10)] := by
    show decLf (19 + 1) k = _
    rw [decLf, if_neg (by omega)]
  rw [this, decLf_fuel 19 20 (k / 10) (by omega) (by omega) (by omega) (by omega)]
  rfl
theorem lenNf_fuel : ∀ (f g k : Nat), k < 2 ^ f → k < 2 ^ g → lenNf f k = lenNf g k
  | 0, 0, _, _, _ => rfl
  | 0, g + 1, k, h, _ => by have : k = 0 := by simpa using h
                            subst this; rfl
  | f + 1, 0, k, _, h => by have : k = 0 := by simpa using h
                            subst this; rfl
  | f + 1, g + 1, k, h1, h2 => by
    simp only [lenNf]
    by_cases h : k = 0
    · simp [h]
    · rw [if_neg h, if_neg h]
      rw [Nat.pow_succ] at h1 h2
      rw [lenNf_fuel f g (k / 2) (by omega) (by omega)]
theorem lenN_zero : lenN 0 = 0 := rfl
theorem lenN_pos {k : Nat} (h : 0 < k) (hk : k < 1099511627776) : lenN k = 1 + lenN (k / 2) := by
  have : lenN k = 1 + lenNf 39 (k / 2) := by
    show lenNf (39 + 1) k = _
    rw [lenNf, if_neg (by omega)]
  rw [this, lenNf_fuel 39 40 (k / 2) (by omega) (by omega)]
  rfl
theorem lenN_bounds (k : Nat) (hk : k < 1099511627776) : k < 2 ^ lenN k ∧ (0 < k → 2 ^ (lenN k - 1) ≤ k ∧ 0 < lenN k) := by
  induction k using Nat.strongRecOn with
  | ind k ih =>
    by_cases h : k = 0
    · subst h; rw [lenN_zero]; exact ⟨by omega, fun h => by omega⟩
    · have hp : 0 < k := by omega
      obtain ⟨h1, h2⟩ := ih (k / 2) (by omega) (by omega)
      rw [lenN_pos hp hk]
      rw [Nat.add_comm 1, Nat.pow_succ]
      refine ⟨by omega, fun _ => ⟨?_, by omega⟩⟩
      simp only [Nat.add_sub_cancel]
      by_cases h3 : k / 2 = 0
      · rw [h3, lenN_zero]; simp; omega
      · obtain ⟨h4, h5⟩ := h2 (by omega)
        have : 2 ^ lenN (k / 2) = 2 ^ (lenN (k / 2) - 1) * 2 := by
          rw [← Nat.pow_succ]; congr 1; omega
        omega
theorem lenN_8 {k : Nat} (h : 256 ≤ k) (hk : k < 1099511627776) : lenN k = 8 + lenN (k / 256) := by
  rw [lenN_pos (k := k) (by omega) (by omega), lenN_pos (k := k / 2) (by omega) (by omega), lenN_pos (k := k / 2 / 2) (by omega) (by omega), lenN_pos (k := k / 2 / 2 / 2) (by omega) (by omega), lenN_pos (k := k / 2 / 2 / 2 / 2) (by omega) (by omega),
    lenN_pos (k := k / 2 / 2 / 2 / 2 / 2) (by omega) (by omega), lenN_pos (k := k / 2 / 2 / 2 / 2 / 2 / 2) (by omega) (by omega), lenN_pos (k := k / 2 / 2 / 2 / 2 / 2 / 2 / 2) (by omega) (by omega)]
  have : k / 2 / 2 / 2 / 2 / 2 / 2 / 2 / 2 = k / 256 := by omega
  rw [this]; omega

theorem smalls_all : ((List.range 100).all fun k => decide (byteAt smalls (k * 2) = ((48 + k / 10 : Nat) : Int)) && decide (byteAt smalls (k * 2 + 1) = ((48 + k % 10 : Nat) : Int))) = true := by kernel_rfl
theorem smalls_lo (x : Int) (h0 : 0 ≤ x) (h1 : x < 100) : byteAt smalls (x * 2).toNat = 48 + x / 10 := by
  obtain ⟨k, rfl⟩ : ∃ k : Nat, x = k := ⟨x.toNat, by omega⟩
  have := List.all_eq_true.1 smalls_all k (List.mem_range.2 (by omega))
  simp only [Bool.and_eq_true, decide_eq_true_eq] at this
  rw [show ((k : Int) * 2).toNat = k * 2 by omega, this.1]; omega
theorem smalls_hi (x : Int) (h0 : 0 ≤ x) (h1 : x < 100) : byteAt smalls (x * 2 + 1).toNat = 48 + x % 10 := by
  obtain ⟨k, rfl⟩ : ∃ k : Nat, x = k := ⟨x.toNat, by omega⟩
  have := List.all_eq_true.1 smalls_all k (List.mem_range.2 (by omega))
  simp only [Bool.and_eq_true, decide_eq_true_eq] at this
  rw [show ((k : Int) * 2 + 1).toNat = k * 2 + 1 by omega, this.2]; omega
theorem len8_all : ((List.range 256).all fun k => decide (byteAt len8 k = (Nat.rec (motive := fun _ => Nat → Nat) (fun _ => 0) (fun _ ih k => match k with | 0 => 0 | k + 1 => 1 + ih ((k + 1) / 2)) 9 k : Nat))) = true := by kernel_rfl
theorem lenN_fuel : ∀ (n k : Nat), k < 2 ^ n → k < 1099511627776 → (Nat.rec (motive := fun _ => Nat → Nat) (fun _ => 0) (fun _ ih k => match k with | 0 => 0 | k + 1 => 1 + ih ((k + 1) / 2)) n k : Nat) = lenN k
  | 0, k, h, _ => by have : k = 0 := by simpa using h
                     subst this; rw [lenN_zero]; rfl
  | n + 1, 0, _, _ => by rw [lenN_zero]
  | n + 1, k + 1, h, hk => by
    rw [lenN_pos (by omega) hk, ← lenN_fuel n ((k + 1) / 2) (by rw [Nat.pow_succ] at h; omega) (by omega)]
theorem len8_is (x : Int) (h0 : 0 ≤ x) (h1 : x < 256) : byteAt len8 x.toNat = lenF x := by
  obtain ⟨k, rfl⟩ : ∃ k : Nat, x = k := ⟨x.toNat, by omega⟩
  have := List.all_eq_true.1 len8_all k (List.mem_range.2 (by omega))
  simp only [decide_eq_true_eq] at this
  rw [lenN_fuel 9 k (by omega) (by omega)] at this
  simpa [lenF] using this
theorem lenF_8 {x : Int} (h : 256 ≤ x) (h2 : x < 1099511627776) : lenF x = 8 + lenF (x / 256) := by
  obtain ⟨k, rfl⟩ : ∃ k : Nat, x = k := ⟨x.toNat, by omega⟩
  have : ((k : Int) / 256).toNat = k / 256 := by omega
  unfold lenF
  rw [this, Int.toNat_natCast, lenN_8 (by omega) (by omega)]; omega
/-- between which numbers -/
theorem lenF_cases (x : Int) (h0 : 0 ≤ x) (h1 : x < 4294967296) : ∃ L : Nat, L ≤ 32 ∧ lenF x = L ∧ x < 2 ^ L ∧ (0 < x → (2 : Int) ^ (L - 1) ≤ x ∧ 0 < L) := by
  obtain ⟨k, rfl⟩ : ∃ k : Nat, x = k := ⟨x.toNat, by omega⟩
  obtain ⟨g1, g2⟩ := lenN_bounds k (by omega)
  refine ⟨lenN k, ?_, by simp [lenF], by exact_mod_cast g1, fun h => ?_⟩
  · by_cases hk : 0 < k
    · obtain ⟨g3, g4⟩ := g2 hk
      have : 2 ^ (lenN k - 1) < 2 ^ 32 := by omega
      have := (Nat.pow_lt_pow_iff_right (a := 2) (by omega)).1 this
      omega
    · have : k = 0 := by omega
      subst this; rw [lenN_zero]; omega
  · obtain ⟨g3, g4⟩ := g2 (by omega)
    exact ⟨by exact_mod_cast g3, g4⟩
theorem dig_eq (z : Int) (m : Nat) (h : z = 48 + m) : UInt8.ofNat z.toNat = dig m := by
  unfold dig; congr 1; omega
theorem list_cons {α : Type} {a b : α} {l m : List α} (h : a = b) (h2 : l = m) : a :: l = b :: m := by rw [h, h2]
theorem bytes_eq {l m : List UInt8} (h : l = m) : (⟨⟨l⟩⟩ : ByteArray) = ⟨⟨m⟩⟩ := by rw [h]
theorem ext_all : ((List.range 10).all fun k => decide ((digs36.extract k (k + 1)).data.toList = [dig k])) = true := by kernel_rfl
theorem ext_all2 : ((List.range 100).all fun k => decide ((smalls.extract (k * 2) (k * 2 + 2)).data.toList = [dig (k / 10), dig (k % 10)])) = true := by kernel_rfl
theorem ba_ext {a : ByteArray} {l : List UInt8} (h : a.data.toList = l) : a = ⟨⟨l⟩⟩ := by
  cases a with
  | mk d => cases d with
    | mk m => simp at h; rw [h]
theorem small1 (n : Int) (h0 : 0 ≤ n) (h1 : n < 10) : digs36.extract n.toNat (n + 1).toNat = decB n := by
  obtain ⟨k, rfl⟩ : ∃ k : Nat, n = k := ⟨n.toNat, by omega⟩
  have := List.all_eq_true.1 ext_all k (List.mem_range.2 (by omega))
  simp only [decide_eq_true_eq] at this
  rw [show ((k : Int) + 1).toNat = k + 1 by omega, Int.toNat_natCast, ba_ext this]
  show _ = (⟨⟨decL k⟩⟩ : ByteArray)
  rw [decL_lt (by omega)]
theorem small2 (n : Int) (h0 : 10 ≤ n) (h1 : n < 100) : smalls.extract (n * 2).toNat (n * 2 + 2).toNat = decB n := by
  obtain ⟨k, rfl⟩ : ∃ k : Nat, n = k := ⟨n.toNat, by omega⟩
  have := List.all_eq_true.1 ext_all2 k (List.mem_range.2 (by omega))
  simp only [decide_eq_true_eq] at this
  rw [show ((k : Int) * 2 + 2).toNat = k * 2 + 2 by omega, show ((k : Int) * 2).toNat = k * 2 by omega, ba_ext this]
  show _ = (⟨⟨decL k⟩⟩ : ByteArray)
  rw [decL_ge (by omega) (by omega), decL_lt (by omega)]
  rfl
theorem lenF_tab (n : Int) (h0 : 0 ≤ n) (h1 : n < 4294967296) : (n = 0 ∧ lenF n = 0) ∨ (1 ≤ n ∧ n < 2 ∧ lenF n = 1) ∨ (2 ≤ n ∧ n < 4 ∧ lenF n = 2) ∨ (4 ≤ n ∧ n < 8 ∧ lenF n = 3) ∨ (8 ≤ n ∧ n < 16 ∧ lenF n = 4) ∨ (16 ≤ n ∧ n < 32 ∧ lenF n = 5) ∨ (32 ≤ n ∧ n < 64 ∧ lenF n = 6) ∨ (64 ≤ n ∧ n < 128 ∧ lenF n = 7) ∨ (128 ≤ n ∧ n < 256 ∧ lenF n = 8) ∨ (256 ≤ n ∧ n < 512 ∧ lenF n = 9) ∨ (512 ≤ n ∧ n < 1024 ∧ lenF n = 10) ∨ (1024 ≤ n ∧ n < 2048 ∧ lenF n = 11) ∨ (2048 ≤ n ∧ n < 4096 ∧ lenF n = 12) ∨ (4096 ≤ n ∧ n < 8192 ∧ lenF n = 13) ∨ (8192 ≤ n ∧ n < 16384 ∧ lenF n = 14) ∨ (16384 ≤ n ∧ n < 32768 ∧ lenF n = 15) ∨ (32768 ≤ n ∧ n < 65536 ∧ lenF n = 16) ∨ (65536 ≤ n ∧ n < 131072 ∧ lenF n = 17) ∨ (131072 ≤ n ∧ n < 262144 ∧ lenF n = 18) ∨ (262144 ≤ n ∧ n < 524288 ∧ lenF n = 19) ∨ (524288 ≤ n ∧ n < 1048576 ∧ lenF n = 20) ∨ (1048576 ≤ n ∧ n < 2097152 ∧ lenF n = 21) ∨ (2097152 ≤ n ∧ n < 4194304 ∧ lenF n = 22) ∨ (4194304 ≤ n ∧ n < 8388608 ∧ lenF n = 23) ∨ (8388608 ≤ n ∧ n < 16777216 ∧ lenF n = 24) ∨ (16777216 ≤ n ∧ n < 33554432 ∧ lenF n = 25) ∨ (33554432 ≤ n ∧ n < 67108864 ∧ lenF n = 26) ∨ (67108864 ≤ n ∧ n < 134217728 ∧ lenF n = 27) ∨ (134217728 ≤ n ∧ n < 268435456 ∧ lenF n = 28) ∨ (268435456 ≤ n ∧ n < 536870912 ∧ lenF n = 29) ∨ (536870912 ≤ n ∧ n < 1073741824 ∧ lenF n = 30) ∨ (1073741824 ≤ n ∧ n < 2147483648 ∧ lenF n = 31) ∨ (2147483648 ≤ n ∧ n < 4294967296 ∧ lenF n = 32) := by
  by_cases hn : n = 0
  · left; subst hn; exact ⟨rfl, by simp [lenF, lenN_zero]⟩
  obtain ⟨L, hL, e, g1, g2⟩ := lenF_cases n h0 h1
  obtain ⟨g3, g4⟩ := g2 (by omega)
  rw [e]
  rcases (show L = 1 ∨ L = 2 ∨ L = 3 ∨ L = 4 ∨ L = 5 ∨ L = 6 ∨ L = 7 ∨ L = 8 ∨ L = 9 ∨ L = 10 ∨ L = 11 ∨ L = 12 ∨ L = 13 ∨ L = 14 ∨ L = 15 ∨ L = 16 ∨ L = 17 ∨ L = 18 ∨ L = 19 ∨ L = 20 ∨ L = 21 ∨ L = 22 ∨ L = 23 ∨ L = 24 ∨ L = 25 ∨ L = 26 ∨ L = 27 ∨ L = 28 ∨ L = 29 ∨ L = 30 ∨ L = 31 ∨ L = 32 by omega) with rfl | rfl | rfl | rfl | rfl | rfl | rfl | rfl | rfl | rfl | rfl | rfl | rfl | rfl | rfl | rfl | rfl | rfl | rfl | rfl | rfl | rfl | rfl | rfl | rfl | rfl | rfl | rfl | rfl | rfl | rfl | rfl
  · have g5 : n < 2 := g1
    have g6 : (1 : Int) ≤ n := g3
    iterate 1 right
    left
    refine ⟨g6, g5, rfl⟩
  · have g5 : n < 4 := g1
    have g6 : (2 : Int) ≤ n := g3
    iterate 2 right
    left
    refine ⟨g6, g5, rfl⟩
  · have g5 : n < 8 := g1
    have g6 : (4 : Int) ≤ n := g3
    iterate 3 right
    left
    refine ⟨g6, g5, rfl⟩
  · have g5 : n < 16 := g1
    have g6 : (8 : Int) ≤ n := g3
    iterate 4 right
    left
    refine ⟨g6, g5, rfl⟩
  · have g5 : n < 32 := g1
    have g6 : (16 : Int) ≤ n := g3
    iterate 5 right
    left
    refine ⟨g6, g5, rfl⟩
  · have g5 : n < 64 := g1
    have g6 : (32 : Int) ≤ n := g3
    iterate 6 right
    left
    refine ⟨g6, g5, rfl⟩
  · have g5 : n < 128 := g1
    have g6 : (64 : Int) ≤ n := g3
    iterate 7 right
    left
    refine ⟨g6, g5, rfl⟩
  · have g5 : n < 256 := g1
    have g6 : (128 : Int) ≤ n := g3
    iterate 8 right
    left
    refine ⟨g6, g5, rfl⟩
  · have g5 : n < 512 := g1
    have g6 : (256 : Int) ≤ n := g3
    iterate 9 right
    left
    refine ⟨g6, g5, rfl⟩
  · have g5 : n < 1024 := g1
    have g6 : (512 : Int) ≤ n := g3
    iterate 10 right
    left
    refine ⟨g6, g5, rfl⟩
  · have g5 : n < 2048 := g1
    have g6 : (1024 : Int) ≤ n := g3
    iterate 11 right
    left
    refine ⟨g6, g5, rfl⟩
  · have g5 : n < 4096 := g1
    have g6 : (2048 : Int) ≤ n := g3
    iterate 12 right
    left
    refine ⟨g6, g5, rfl⟩
  · have g5 : n < 8192 := g1
    have g6 : (4096 : Int) ≤ n := g3
    iterate 13 right
    left
    refine ⟨g6, g5, rfl⟩
  · have g5 : n < 16384 := g1
    have g6 : (8192 : Int) ≤ n := g3
    iterate 14 right
    left
    refine ⟨g6, g5, rfl⟩
  · have g5 : n < 32768 := g1
    have g6 : (16384 : Int) ≤ n := g3
    iterate 15 right
    left
    refine ⟨g6, g5, rfl⟩
  · have g5 : n < 65536 := g1
    have g6 : (32768 : Int) ≤ n := g3
    iterate 16 right
    left
    refine ⟨g6, g5, rfl⟩
  · have g5 : n < 131072 := g1
    have g6 : (65536 : Int) ≤ n := g3
    iterate 17 right
    left
    refine ⟨g6, g5, rfl⟩
  · have g5 : n < 262144 := g1
    have g6 : (131072 : Int) ≤ n := g3
    iterate 18 right
    left
    refine ⟨g6, g5, rfl⟩
  · have g5 : n < 524288 := g1
    have g6 : (262144 : Int) ≤ n := g3
    iterate 19 right
    left
    refine ⟨g6, g5, rfl⟩
  · have g5 : n < 1048576 := g1
    have g6 : (524288 : Int) ≤ n := g3
    iterate 20 right
    left
    refine ⟨g6, g5, rfl⟩
  · have g5 : n < 2097152 := g1
    have g6 : (1048576 : Int) ≤ n := g3
    iterate 21 right
    left
    refine ⟨g6, g5, rfl⟩
  · have g5 : n < 4194304 := g1
    have g6 : (2097152 : Int) ≤ n := g3
    iterate 22 right
    left
    refine ⟨g6, g5, rfl⟩
  · have g5 : n < 8388608 := g1
    have g6 : (4194304 : Int) ≤ n := g3
    iterate 23 right
    left
    refine ⟨g6, g5, rfl⟩
  · have g5 : n < 16777216 := g1
    have g6 : (8388608 : Int) ≤ n := g3
    iterate 24 right
    left
    refine ⟨g6, g5, rfl⟩
  · have g5 : n < 33554432 := g1
    have g6 : (16777216 : Int) ≤ n := g3
    iterate 25 right
    left
    refine ⟨g6, g5, rfl⟩
  · have g5 : n < 67108864 := g1
    have g6 : (33554432 : Int) ≤ n := g3
    iterate 26 right
    left
    refine ⟨g6, g5, rfl⟩
  · have g5 : n < 134217728 := g1
    have g6 : (67108864 : Int) ≤ n := g3
    iterate 27 right
    left
    refine ⟨g6, g5, rfl⟩
  · have g5 : n < 268435456 := g1
    have g6 : (134217728 : Int) ≤ n := g3
    iterate 28 right
    left
    refine ⟨g6, g5, rfl⟩
  · have g5 : n < 536870912 := g1
    have g6 : (268435456 : Int) ≤ n := g3
    iterate 29 right
    left
    refine ⟨g6, g5, rfl⟩
  · have g5 : n < 1073741824 := g1
    have g6 : (536870912 : Int) ≤ n := g3
    iterate 30 right
    left
    refine ⟨g6, g5, rfl⟩
  · have g5 : n < 2147483648 := g1
    have g6 : (1073741824 : Int) ≤ n := g3
    iterate 31 right
    left
    refine ⟨g6, g5, rfl⟩
  · have g5 : n < 4294967296 := g1
    have g6 : (2147483648 : Int) ≤ n := g3
    iterate 32 right
    refine ⟨g6, g5, rfl⟩
theorem ndF_tab (n : Int) : (n < 10 ∧ ndF n = 1) ∨ (10 ≤ n ∧ n < 100 ∧ ndF n = 2) ∨ (100 ≤ n ∧ n < 1000 ∧ ndF n = 3) ∨ (1000 ≤ n ∧ n < 10000 ∧ ndF n = 4) ∨ (10000 ≤ n ∧ n < 100000 ∧ ndF n = 5) ∨ (100000 ≤ n ∧ n < 1000000 ∧ ndF n = 6) ∨ (1000000 ≤ n ∧ n < 10000000 ∧ ndF n = 7) ∨ (10000000 ≤ n ∧ n < 100000000 ∧ ndF n = 8) ∨ (100000000 ≤ n ∧ n < 1000000000 ∧ ndF n = 9) ∨ (1000000000 ≤ n ∧ ndF n = 10) := by
  unfold ndF
  repeat' split
  all_goals omega
end Go.Proofs.YtgmojlibppmfhaaDoor

/- Runs of the abstract interpreter, part 10: by an AI agent. -/
import Derived.Test.YtgmojlibppmfhaaDoorPart9

namespace Go.Proofs.YtgmojlibppmfhaaDoor
open Go Go.Ai
def valL (l : List UInt8) : Nat := l.foldl (fun a b => 10 * a + (b.toNat - 48)) 0
theorem valL_snoc (l : List UInt8) (b : UInt8) : valL (l ++ [b]) = 10 * valL l + (b.toNat - 48) := by simp [valL, List.foldl_append]
theorem dig_toNat {k : Nat} (h : k < 10) : (dig k).toNat = 48 + k := by unfold dig; simp; omega
theorem valL_dec (k : Nat) (h : k < 10000000000000000000) : valL (decL k) = k := by
  induction k using Nat.strongRecOn with
  | ind k ih =>
    by_cases h1 : k < 10
    · rw [decL_lt h1]; simp [valL, dig_toNat h1]
    · rw [decL_ge (by omega) h, valL_snoc, ih (k / 10) (by omega) (by omega), dig_toNat (by omega)]; omega
theorem decL_ge48 (k : Nat) (h : k < 10000000000000000000) : ∀ b ∈ decL k, 48 ≤ b.toNat ∧ b.toNat ≤ 57 := by
  induction k using Nat.strongRecOn with
  | ind k ih =>
    intro b hb
    by_cases h1 : k < 10
    · rw [decL_lt h1] at hb; simp at hb; subst hb; rw [dig_toNat h1]; omega
    · rw [decL_ge (by omega) h] at hb
      rcases List.mem_append.1 hb with hb | hb
      · exact ih (k / 10) (by omega) (by omega) b hb
      · simp at hb; subst hb; rw [dig_toNat (by omega)]; omega
theorem eqS_iff (a b : ByteArray) : eqS a b = true ↔ a.data.toList = b.data.toList := by unfold eqS; simp
theorem dec_eq (n m : Int) (h0 : 0 ≤ n) (h1 : n < 4294967296) (h2 : 0 ≤ m) (h3 : m < 4294967296) : eqS (decB n) (decB m) = (n == m) := by
  rw [Bool.eq_iff_iff, eqS_iff, beq_iff_eq]
  constructor
  · intro h
    have h : decL n.toNat = decL m.toNat := h
    have := congrArg valL h
    rw [valL_dec _ (by omega), valL_dec _ (by omega)] at this
    omega
  · rintro rfl; rfl
theorem app_toList (a b : ByteArray) : (a ++ b).data.toList = a.data.toList ++ b.data.toList := by simp
theorem dot_eq (n : Int) (h0 : 0 ≤ n) (h1 : n < 4294967296) : eqS (dotB n) (decB n) = !decide (n > 65535) := by
  unfold dotB
  by_cases h : n ≤ 65535
  · rw [if_pos h]
    have : ¬ n > 65535 := by omega
    rw [decide_eq_false this]
    exact (eqS_iff _ _).2 rfl
  · rw [if_neg h]
    have : n > 65535 := by omega
    rw [decide_eq_true this]
    cases he : eqS (decB (n / 65536) ++ dot1 ++ decB (n % 65536)) (decB n) with
    | false => rfl
    | true =>
      rw [eqS_iff, app_toList, app_toList] at he
      have hm : (46 : UInt8) ∈ (decB n).data.toList := by rw [← he]; simp [dot1]
      have := decL_ge48 n.toNat (by omega) 46 hm
      simp at this
noncomputable def stS : St := startOf Tryd.prog nm fs Rows.numberShortRow.laid
noncomputable def stT : St := startOf Tryd.prog nm fs Rows.numberTellsRow.laid
theorem start_is {nm : List (String × TypeId)} {fs : List Nat} {laid : List (String × DataW Unit)} (h : (laidStart Tryd.prog nm fs laid).isSome = true) : laidStart Tryd.prog nm fs laid = some (startOf Tryd.prog nm fs laid) := by
  obtain ⟨st, hst⟩ := Option.isSome_iff_exists.1 h
  simp [startOf, hst]
theorem start_short : laidStart Tryd.prog nm fs Rows.numberShortRow.laid = some stS := start_is (by kernel_rfl)
theorem start_tells : laidStart Tryd.prog nm fs Rows.numberTellsRow.laid = some stT := start_is (by kernel_rfl)
end Go.Proofs.YtgmojlibppmfhaaDoor

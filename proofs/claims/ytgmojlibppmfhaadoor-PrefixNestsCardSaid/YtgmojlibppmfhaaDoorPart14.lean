/- Runs of the abstract interpreter, part 14: by an AI agent. -/
import Derived.Test.YtgmojlibppmfhaaDoorPart13

namespace Go.Proofs.YtgmojlibppmfhaaDoor
open Go Go.Ai
theorem may_fl {X P : Int} (h0 : 0 ≤ P) (h1 : P ≤ 32) (hX : flF X P = X) : mayF X P = true := by
  rw [mayF_iff, clampF_id h0 h1]; exact ⟨hX.symm, rfl⟩
theorem has_eq {X P : Int} (h0 : 0 ≤ P) (h1 : P ≤ 32) (hX : flF X P = X) (z : Int) : hasF X P z = (flF z P == X) := by
  unfold hasF; rw [may_fl h0 h1 hX]; rfl
theorem cont_eq {X P Y Q : Int} (h0 : 0 ≤ P) (h1 : P ≤ 32) (hX : flF X P = X) (h2 : 0 ≤ Q) (h3 : Q ≤ 32) (hY : flF Y Q = Y) : contF X P Y Q = (decide (P ≤ Q) && (flF Y P == X)) := by
  unfold contF; rw [may_fl h2 h3 hY, has_eq h0 h1 hX]; rfl
section
variable {X P Y Q : Int} (p0 : 0 ≤ P) (p1 : P ≤ 32) (hX : flF X P = X) (q0 : 0 ≤ Q) (q1 : Q ≤ 32) (hY : flF Y Q = Y)
include p0 p1 hX q0 q1 hY
theorem cont_iff : contF X P Y Q = true ↔ P ≤ Q ∧ flF Y P = X := by rw [cont_eq p0 p1 hX q0 q1 hY]; simp
/-- whom the one holds, the other one holds, too -/
theorem cont_has {z : Int} (ha : contF X P Y Q = true) (hq : hasF Y Q z = true) : hasF X P z = true := by
  obtain ⟨h1, h2⟩ := (cont_iff p0 p1 hX q0 q1 hY).1 ha
  rw [has_eq q0 q1 hY] at hq
  rw [has_eq p0 p1 hX, beq_iff_eq, ← fl_fl z h1 q1, eq_of_beq hq, h2]
/-- two that share an address: one holds the other -/
theorem share {z : Int} (hp : hasF X P z = true) (hq : hasF Y Q z = true) : contF X P Y Q = true ∨ contF Y Q X P = true := by
  rw [has_eq p0 p1 hX] at hp
  rw [has_eq q0 q1 hY] at hq
  have e1 := eq_of_beq hp
  have e2 := eq_of_beq hq
  rcases Int.le_total P Q with h | h
  · left; rw [cont_iff p0 p1 hX q0 q1 hY]; exact ⟨h, by rw [← e2, fl_fl z h q1, e1]⟩
  · right; rw [cont_iff q0 q1 hY p0 p1 hX]; exact ⟨h, by rw [← e1, fl_fl z h p1, e2]⟩
theorem cont_same (hPQ : P = Q) : contF X P Y Q = true ↔ X = Y := by
  rw [cont_iff p0 p1 hX q0 q1 hY]; subst hPQ; rw [hY]; exact ⟨fun h => h.2.symm, fun h => ⟨Int.le_refl _, h.symm⟩⟩
theorem a21 (ha : contF X P Y Q = true) : (!contF Y Q X P == (X == Y && (P == Q && Bool.true))) = false := by
  obtain ⟨h1, h2⟩ := (cont_iff p0 p1 hX q0 q1 hY).1 ha
  have e : contF Y Q X P = (X == Y && (P == Q && Bool.true)) := by
    rw [Bool.eq_iff_iff, cont_iff q0 q1 hY p0 p1 hX]
    simp only [Bool.and_eq_true, beq_iff_eq, and_true]
    constructor
    · intro ⟨h3, h4⟩
      have : P = Q := by omega
      exact ⟨(cont_same p0 p1 hX q0 q1 hY this).1 ha, this⟩
    · intro ⟨h3, h4⟩
      subst h4; subst h3; exact ⟨h1, hX⟩
  rw [e]; simp
theorem a57 (ha : contF X P Y Q = false) : (!Bool.false == (X == Y && (P == Q && Bool.true))) = false := by
  have : (X == Y && (P == Q && Bool.true)) = false := by
    rw [Bool.eq_false_iff]
    intro h
    simp only [Bool.and_eq_true, beq_iff_eq, and_true] at h
    obtain ⟨h3, h4⟩ := h
    rw [(cont_same p0 p1 hX q0 q1 hY h4).2 h3] at ha
    cases ha
  rw [this]; rfl
theorem a23 (ha : contF X P Y Q = true) : decide (cmpF X P Y Q > (0 : Int)) = false := by
  obtain ⟨h1, h2⟩ := (cont_iff p0 p1 hX q0 q1 hY).1 ha
  have := fl_le Y P
  apply decide_eq_false
  unfold cmpF
  repeat' split <;> omega
omit q0 q1 hY hX p0 p1 in
theorem a29 : (!decide (cmpF X P Y Q < (0 : Int)) == decide (cmpF Y Q X P > (0 : Int))) = false := by
  have : decide (cmpF X P Y Q < (0 : Int)) = decide (cmpF Y Q X P > (0 : Int)) := by
    rw [Bool.eq_iff_iff, decide_eq_true_iff, decide_eq_true_iff]
    unfold cmpF
    repeat' split <;> omega
  rw [this]; simp
omit q0 q1 hY hX p0 p1 in
theorem a30 : (!(cmpF X P Y Q == (0 : Int)) == (X == Y && (P == Q && Bool.true))) = false := by
  have : (cmpF X P Y Q == (0 : Int)) = (X == Y && (P == Q && Bool.true)) := by
    rw [Bool.eq_iff_iff]
    simp only [Bool.and_eq_true, beq_iff_eq, and_true]
    unfold cmpF
    repeat' split <;> omega
  rw [this]; simp
end
section
variable {X P : Int} (p0 : 0 ≤ P) (p1 : P ≤ 32) (hX : flF X P = X)
include p0 p1 hX
theorem a25 : (!hasF X P X) = false := by rw [has_eq p0 p1 hX, hX]; simp
theorem a27 : (!contF X P X P) = false := by rw [cont_eq p0 p1 hX p0 p1 hX, hX]; simp
theorem a53 (h : P = 32) (z : Int) : (hasF X P z == (z == X)) = true := by
  rw [has_eq p0 p1 hX]; subst h; rw [fl_last]; simp
end
section
variable {X P : Int} (p0 : 0 ≤ P) (p1 : P < 32) (hX : flF X P = X)
include p0 p1 hX
theorem half : ∃ q h : Int, 0 < h ∧ pw (P + 1) = h ∧ pw P = 2 * h ∧ X = q * (2 * h) := by
  obtain ⟨q, hq⟩ := fl_mul X P
  rw [hX, pw_succ p0 p1] at hq
  exact ⟨q, _, pw_pos _, rfl, pw_succ p0 p1, hq⟩
theorem low_fl : flF X (P + 1) = X := by
  obtain ⟨q, h, hh, e1, e2, e3⟩ := half p0 p1 hX
  rw [e3, ← e1, ← Int.mul_assoc]; exact fl_of_mul _ _
theorem up_fl : flF (upF X P) (P + 1) = upF X P := by
  obtain ⟨q, h, hh, e1, e2, e3⟩ := half p0 p1 hX
  have : upF X P = (q * 2 + 1) * pw (P + 1) := by unfold upF; rw [e3, e1, Int.add_mul, Int.one_mul, Int.mul_assoc]
  rw [this]; exact fl_of_mul _ _
theorem up_fl2 : flF (upF X P) P = X := by
  obtain ⟨q, h, hh, e1, e2, e3⟩ := half p0 p1 hX
  have : upF X P = h + (2 * h) * q := by unfold upF; rw [e3, e1, Int.mul_comm q]; omega
  unfold flF
  rw [this, e2, Int.add_mul_ediv_left _ _ (by omega), Int.ediv_eq_zero_of_lt (by omega) (by omega), Int.zero_add]
  exact e3.symm
theorem a40 : contF X P X (P + 1) = true := by
  rw [cont_iff p0 (by omega) hX (by omega) (by omega) (low_fl p0 p1 hX)]; exact ⟨by omega, hX⟩
theorem a42 : contF X P (upF X P) (P + 1) = true := by
  rw [cont_iff p0 (by omega) hX (by omega) (by omega) (up_fl p0 p1 hX)]; exact ⟨by omega, up_fl2 p0 p1 hX⟩
theorem a43 (z : Int) : (hasF X P z == !(hasF X (P + 1) z == hasF (upF X P) (P + 1) z)) = true := by
  rw [has_eq p0 (by omega) hX, has_eq (by omega) (by omega) (low_fl p0 p1 hX), has_eq (by omega) (by omega) (up_fl p0 p1 hX)]
  obtain ⟨q, h, hh, e1, e2, e3⟩ := half p0 p1 hX
  have d : z / (2 * h) = z / h / 2 := by rw [Int.mul_comm 2, Int.ediv_ediv_of_nonneg (by omega)]
  have g1 : (flF z P == X) = decide (z / h / 2 = q) := by
    rw [Bool.eq_iff_iff, beq_iff_eq, decide_eq_true_iff]
    unfold flF; rw [e2, e3, d]
    exact ⟨fun k => Int.eq_of_mul_eq_mul_right (by omega) k, fun k => by rw [k]⟩
  have g2 : (flF z (P + 1) == X) = decide (z / h = q * 2) := by
    rw [Bool.eq_iff_iff, beq_iff_eq, decide_eq_true_iff]
    unfold flF; rw [e1, e3, ← Int.mul_assoc]
    exact ⟨fun k => Int.eq_of_mul_eq_mul_right (by omega) k, fun k => by rw [k]⟩
  have g3 : (flF z (P + 1) == upF X P) = decide (z / h = q * 2 + 1) := by
    rw [Bool.eq_iff_iff, beq_iff_eq, decide_eq_true_iff]
    have : upF X P = (q * 2 + 1) * h := by unfold upF; rw [e3, e1, Int.add_mul, Int.one_mul, Int.mul_assoc]
    unfold flF; rw [e1, this]
    exact ⟨fun k => Int.eq_of_mul_eq_mul_right (by omega) k, fun k => by rw [k]⟩
  rw [g1, g2, g3]
  generalize z / h = m
  by_cases c1 : m = q * 2
  · rw [decide_eq_true c1, decide_eq_false (show ¬ m = q * 2 + 1 by omega), decide_eq_true (show m / 2 = q by omega)]; rfl
  · by_cases c2 : m = q * 2 + 1
    · rw [decide_eq_false c1, decide_eq_true c2, decide_eq_true (show m / 2 = q by omega)]; rfl
    · rw [decide_eq_false c1, decide_eq_false c2, decide_eq_false (show ¬ m / 2 = q by omega)]; rfl
omit hX in
theorem pw_bit : (2 : Int) ^ (31 - P).toNat = pw (P + 1) := by unfold pw; congr 1; omega
theorem a45 : bitF (upF X P) P = true := by
  obtain ⟨q, h, hh, e1, e2, e3⟩ := half p0 p1 hX
  unfold bitF
  rw [pw_bit p0 p1, decide_eq_true p0, decide_eq_true p1]
  have : upF X P = (q * 2 + 1) * h := by unfold upF; rw [e3, e1, Int.add_mul, Int.one_mul, Int.mul_assoc]
  rw [this, e1, Int.mul_ediv_cancel _ (by omega)]
  have : (q * 2 + 1) % 2 = 1 := by omega
  rw [this]; rfl
theorem a47 : (!bitF X P) = true := by
  obtain ⟨q, h, hh, e1, e2, e3⟩ := half p0 p1 hX
  unfold bitF
  rw [pw_bit p0 p1, decide_eq_true p0, decide_eq_true p1]
  rw [e3, e1, ← Int.mul_assoc, Int.mul_ediv_cancel _ (by omega)]
  have : (q * 2) % 2 = 0 := by omega
  rw [this]; rfl
end
end Go.Proofs.YtgmojlibppmfhaaDoor

/- Runs of the abstract interpreter, part 24: by an AI agent. -/
import Derived.Test.YtgmojlibppmfhaaDoorPart23

namespace Go.Proofs.YtgmojlibppmfhaaDoor
open Go Go.Ai
/-! ### rows of digits and their texts -/
theorem valN_one {s : ByteArray} : ∀ (k i : Nat) (n : Int) (e : Nat), (∀ j, i ≤ j → j < i + k → isD (byteAt s j) = true) → 0 ≤ n → n < ((10 ^ e : Nat) : Int) → 0 ≤ valN s k i n ∧ valN s k i n < ((10 ^ (e + k) : Nat) : Int)
  | 0, i, n, e, _, h0, h1 => ⟨h0, h1⟩
  | k + 1, i, n, e, h, h0, h1 => by
    rw [valN]
    have h2 := of_decide_eq_true (h i (Nat.le_refl _) (by omega))
    have h3 := Nat.pow_succ 10 e
    have := valN_one k (i + 1) (n * 10 + (byteAt s i - 48)) (e + 1) (fun j g1 g2 => h j (by omega) (by omega)) (by omega) (by omega)
    rwa [show e + 1 + k = e + (k + 1) by omega] at this
theorem row_facts (s : ByteArray) {a : Int} (ha : 0 ≤ a) : 0 ≤ rowM s a ∧ rowM s a ≤ 10 ∧ (0 < rowM s a → a + rowM s a ≤ s.size) ∧ 0 ≤ rowN s a ∧ rowN s a < 10000000000 ∧
    (∀ i, 0 ≤ i → i < rowM s a → isD (byteAt s (a + i).toNat) = true) ∧ (0 < rowM s a → rowN s a = valN s (rowM s a).toNat a.toNat 0 ∧ (1 < rowM s a → byteAt s a.toNat ≠ 48) ∧ ¬ (a + rowM s a < s.size ∧ isD (byteAt s (a + rowM s a).toNat) = true)) := by
  obtain ⟨g1, g2, g3, g4, g5⟩ := rowR_spec s a ha 11 0 0 (by omega)
  unfold rowM rowN
  by_cases hb : rowBad s a
  · rw [if_pos hb, if_pos hb]
    exact ⟨by omega, by omega, fun h => by omega, by omega, by omega, fun i h0 h1 => by omega, fun h => by omega⟩
  · rw [if_neg hb, if_neg hb]
    have hb1 : ¬ 10 < (rowR s a 11 0 0).2 := fun h => hb (.inl h)
    have hb2 : 1 < (rowR s a 11 0 0).2 → byteAt s a.toNat ≠ 48 := fun h e => hb (.inr ⟨h, e⟩)
    generalize rowR s a 11 0 0 = r at g1 g2 g3 g4 g5 hb1 hb2
    have hv := valN_one (s := s) (r.2 - 0).toNat (a + 0).toNat 0 0 (fun j h1 h2 => by
      have := (g3 (j - a) (by omega) (by omega)).2
      rwa [show (a + ((j : Int) - a)).toNat = j by omega] at this) (by omega) (by decide)
    rw [← g5, Nat.zero_add] at hv
    have hp := Nat.pow_le_pow_right (show 0 < 10 by omega) (show (r.2 - 0).toNat ≤ 10 by omega)
    have hq : (10 ^ 10 : Nat) = 10000000000 := by decide
    rw [hq] at hp
    refine ⟨g1, by omega, fun h => ?_, hv.1, by omega, fun i h0 h1 => (g3 i h0 h1).2, fun h => ⟨?_, hb2, g4 (by omega)⟩⟩
    · have := (g3 (r.2 - 1) (by omega) (by omega)).1; omega
    · rw [g5, show (r.2 - 0).toNat = r.2.toNat by omega, show (a + 0).toNat = a.toNat by omega]
theorem valN_ext {s : ByteArray} {a b : Nat} (hb : b ≤ s.size) : ∀ (k i : Nat) (n : Int), a + i + k ≤ b → valN (s.extract a b) k i n = valN s k (a + i) n
  | 0, i, n, _ => rfl
  | k + 1, i, n, h => by
    rw [valN, valN, byteAt_ext (by omega) hb, valN_ext hb k (i + 1) _ (by omega), Nat.add_assoc]
theorem row_dig {s : ByteArray} {a b : Nat} (hab : a ≤ b) (hb : b ≤ s.size) (he : b = s.size ∨ isD (byteAt s b) = false) :
    (digS (s.extract a b) = true ↔ 0 < rowM s a ∧ a + rowM s a = b) ∧ (digS (s.extract a b) = true → digV (s.extract a b) = rowN s a) := by
  have hsz := size_ext (s := s) (a := a) hb
  have key : digS (s.extract a b) = true ↔ 0 < rowM s a ∧ a + rowM s a = b := by
    rw [digS_iff, hsz]
    constructor
    · rintro ⟨h1, h2, h3, h4⟩
      have hd : ∀ j, j < b - a → isD (byteAt s (a + j)) = true := fun j hj => by
        have := h3 j (by omega)
        rwa [byteAt_ext (by omega) hb] at this
      obtain ⟨g1, g2, g3, g4, _⟩ := rowR_spec s (a : Int) (by omega) 11 0 0 (by omega)
      have hm : (rowR s a 11 0 0).2 = (b : Int) - a := by
        rcases Int.lt_trichotomy (rowR s a 11 0 0).2 ((b : Int) - a) with h | h | h
        · refine absurd ⟨by omega, ?_⟩ (g4 (by omega))
          have := hd (rowR s a 11 0 0).2.toNat (by omega)
          rwa [show ((a : Int) + (rowR s a 11 0 0).2).toNat = a + (rowR s a 11 0 0).2.toNat by omega]
        · exact h
        · have := g3 ((b : Int) - a) (by omega) h
          rcases he with he | he
          · omega
          · rw [show ((a : Int) + ((b : Int) - a)).toNat = b by omega, he] at this
            cases this.2
      have hnb : ¬ rowBad s a := by
        rintro (h | ⟨h, e⟩)
        · omega
        · have := h4 (by omega)
          rw [byteAt_ext (by omega) hb] at this
          exact this e
      unfold rowM
      rw [if_neg hnb]
      omega
    · rintro ⟨h1, h2⟩
      obtain ⟨f1, f2, f3, f4, f5, f6, f7⟩ := row_facts s (a := (a : Int)) (by omega)
      refine ⟨by omega, by omega, fun j hj => ?_, fun h e => ?_⟩
      · rw [hsz] at hj
        rw [byteAt_ext (by omega) hb]
        have := f6 j (by omega) (by omega)
        rwa [show ((a : Int) + (j : Int)).toNat = a + j by omega] at this
      · rw [byteAt_ext (by omega) hb] at e
        exact (f7 h1).2.1 (by omega) e
  refine ⟨key, fun h => ?_⟩
  obtain ⟨h1, h2⟩ := key.1 h
  have f7 := ((row_facts s (a := (a : Int)) (by omega)).2.2.2.2.2.2 h1).1
  unfold digV
  rw [if_pos h, f7, hsz, valN_ext hb _ _ _ (by omega)]
  congr 1
  omega
theorem ext_whole (s : ByteArray) : s.extract 0 s.size = s := by
  refine ByteArray.ext (Array.toList_inj.1 ?_)
  rw [ByteArray.data_extract, Array.toList_extract, List.extract_eq_take_drop, List.drop_zero, Nat.sub_zero]
  exact List.take_of_length_le (Nat.le_refl _)
end Go.Proofs.YtgmojlibppmfhaaDoor

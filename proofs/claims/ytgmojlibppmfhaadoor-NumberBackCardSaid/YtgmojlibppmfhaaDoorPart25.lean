/- Runs of the abstract interpreter, part 25: by an AI agent. -/
import Derived.Test.YtgmojlibppmfhaaDoorPart24

namespace Go.Proofs.YtgmojlibppmfhaaDoor
open Go Go.Ai
/-! ### numbers and their texts: plain arithmetic -/
def valL : List UInt8 → Int → Int
  | [], n => n
  | b :: l, n => valL l (n * 10 + ((b.toNat : Int) - 48))
def AllDL (l : List UInt8) : Prop := ∀ b ∈ l, 48 ≤ b.toNat ∧ b.toNat ≤ 57
theorem valL_app (b : UInt8) : ∀ (l : List UInt8) (n : Int), valL (l ++ [b]) n = valL l n * 10 + ((b.toNat : Int) - 48)
  | [], n => rfl
  | c :: l, n => by
    show valL (l ++ [b]) _ = valL l _ * 10 + _
    exact valL_app b l _
theorem valL_ge : ∀ (l : List UInt8) (n : Int), AllDL l → 0 ≤ n → n ≤ valL l n
  | [], n, _, _ => Int.le_refl _
  | b :: l, n, h, h0 => by
    have hb := h b (by simp)
    have := valL_ge l (n * 10 + ((b.toNat : Int) - 48)) (fun c hc => h c (by simp [hc])) (by omega)
    show n ≤ valL l _
    omega
theorem dig_nat {k : Nat} (h : k < 10) : (dig k).toNat = 48 + k := by
  unfold dig
  rw [UInt8.toNat_ofNat']
  omega
theorem decL_all : ∀ (k : Nat), k < 10000000000000000000 → AllDL (decL k) ∧ decL k ≠ [] ∧ valL (decL k) 0 = k ∧ (0 < k → ∀ b, (decL k).head? = some b → b.toNat ≠ 48) := by
  intro k
  induction k using Nat.strongRecOn with
  | ind k ih =>
    intro hk
    by_cases h : k < 10
    · rw [decL_lt h]
      have e := dig_nat h
      refine ⟨fun b hb => ?_, by simp, ?_, fun h0 b hb => ?_⟩
      · rw [List.mem_singleton] at hb; subst hb; omega
      · show (0 : Int) * 10 + (((dig k).toNat : Int) - 48) = k
        omega
      · simp only [List.head?_cons, Option.some.injEq] at hb
        subst hb; omega
    · obtain ⟨g1, g2, g3, g4⟩ := ih (k / 10) (by omega) (by omega)
      have e := dig_nat (show k % 10 < 10 by omega)
      rw [decL_ge (by omega) hk]
      refine ⟨fun b hb => ?_, by simp, ?_, fun h0 b hb => ?_⟩
      · rcases List.mem_append.1 hb with hb | hb
        · exact g1 b hb
        · rw [List.mem_singleton] at hb; subst hb; omega
      · rw [valL_app, g3]; omega
      · have : (decL (k / 10) ++ [dig (k % 10)]).head? = (decL (k / 10)).head? := by
          cases hd : decL (k / 10) with
          | nil => exact absurd hd g2
          | cons c l => rfl
        rw [this] at hb
        exact g4 (by omega) b hb
theorem decL_len : ∀ (j k : Nat), k < 10 ^ (j + 1) → k < 10000000000000000000 → (decL k).length ≤ j + 1
  | 0, k, h, _ => by rw [decL_lt (by simpa using h)]; simp
  | j + 1, k, h, hk => by
    by_cases h1 : k < 10
    · rw [decL_lt h1]; simp
    · have hs := Nat.pow_succ 10 (j + 1)
      rw [decL_ge (by omega) hk, List.length_append]
      have := decL_len j (k / 10) (by omega) (by omega)
      simpa using this
/-- a row of digits is the text of its number -/
theorem decL_back : ∀ (m : Nat) (l : List UInt8), l.length = m → m ≤ 10 → AllDL l → l ≠ [] → (1 < l.length → ∀ b, l.head? = some b → b.toNat ≠ 48) → 0 ≤ valL l 0 ∧ valL l 0 < ((10 ^ m : Nat) : Int) ∧ decL (valL l 0).toNat = l := by
  intro m
  induction m with
  | zero => intro l hl _ _ hne; exact absurd (List.length_eq_zero_iff.1 hl) hne
  | succ m ih =>
    intro l hl hm hd hne hh
    obtain ⟨l', b, rfl⟩ : ∃ l' b, l = l' ++ [b] := ⟨l.dropLast, l.getLast hne, (List.dropLast_concat_getLast hne).symm⟩
    have hb := hd b (by simp)
    have hl' : l'.length = m := by simpa using hl
    have hd' : AllDL l' := fun c hc => hd c (by simp [hc])
    rw [valL_app]
    have hs := Nat.pow_succ 10 m
    have hp := Nat.pow_le_pow_right (show 0 < 10 by omega) (show m ≤ 10 by omega)
    have hq : (10 ^ 10 : Nat) = 10000000000 := by decide
    have hdig : dig (b.toNat - 48) = b := by
      refine UInt8.toNat_inj.1 ?_
      rw [dig_nat (by omega)]; omega
    cases hc : l' with
    | nil =>
      subst hc
      have h1 : 0 < 10 ^ m := Nat.pos_of_ne_zero (by simp)
      show 0 ≤ (0 : Int) * 10 + ((b.toNat : Int) - 48) ∧ (0 : Int) * 10 + ((b.toNat : Int) - 48) < _ ∧ decL ((0 : Int) * 10 + ((b.toNat : Int) - 48)).toNat = [b]
      rw [show ((0 : Int) * 10 + ((b.toNat : Int) - 48)).toNat = b.toNat - 48 by omega, decL_lt (by omega), hdig]
      exact ⟨by omega, by omega, rfl⟩
    | cons c l2 =>
      have hne' : l' ≠ [] := by rw [hc]; simp
      have hh' : ∀ x, l'.head? = some x → x.toNat ≠ 48 := fun x hx => hh (by rw [hl]; have : l'.length = l2.length + 1 := by rw [hc]; rfl
                                                                             omega) x (by rw [hc] at hx ⊢; exact hx)
      obtain ⟨g1, g2, g3⟩ := ih l' hl' (by omega) hd' hne' (fun _ => hh')
      rw [← hc]
      have hpos : 0 < valL l' 0 := by
        rw [hc]
        have hx := hh' c (by rw [hc]; rfl)
        have hy := hd' c (by rw [hc]; simp)
        have := valL_ge l2 ((0 : Int) * 10 + ((c.toNat : Int) - 48)) (fun z hz => hd' z (by rw [hc]; simp [hz])) (by omega)
        show 0 < valL l2 _
        omega
      generalize valL l' 0 = v at g1 g2 g3 hpos
      refine ⟨by omega, by omega, ?_⟩
      rw [decL_ge (by omega) (by omega), show (v * 10 + ((b.toNat : Int) - 48)).toNat / 10 = v.toNat by omega, show (v * 10 + ((b.toNat : Int) - 48)).toNat % 10 = b.toNat - 48 by omega, g3, hdig]

/-! texts as lists -/
theorem toList_app (a b : ByteArray) : (a ++ b).data.toList = a.data.toList ++ b.data.toList := by simp
theorem len_size (s : ByteArray) : s.data.toList.length = s.size := rfl
theorem valN_valL (s : ByteArray) : ∀ (k i : Nat) (n : Int), i + k ≤ s.size → valN s k i n = valL ((s.data.toList.drop i).take k) n
  | 0, i, n, _ => by simp [valN, valL]
  | k + 1, i, n, h => by
    have hl : i < s.data.toList.length := by rw [len_size]; omega
    rw [valN, valN_valL s k (i + 1) _ (by omega), List.drop_eq_getElem_cons hl, List.take_succ_cons, valL, byteAt_get hl]
theorem valN_all (s : ByteArray) : valN s s.size 0 0 = valL s.data.toList 0 := by
  rw [valN_valL s s.size 0 0 (by omega), List.drop_zero, List.take_of_length_le (by rw [len_size]; exact Nat.le_refl _)]
theorem allD_list {s : ByteArray} : allD s ↔ AllDL s.data.toList := by
  constructor
  · intro h b hb
    obtain ⟨i, hi, e⟩ := List.getElem_of_mem hb
    have := of_decide_eq_true (h i hi)
    rw [byteAt_get hi, e] at this
    omega
  · intro h i hi
    have hl : i < s.data.toList.length := hi
    have := h _ (List.getElem_mem hl)
    exact decide_eq_true (by rw [byteAt_get hl]; omega)
theorem head_list {s : ByteArray} (h : 0 < s.size) : ∃ b, s.data.toList.head? = some b ∧ byteAt s 0 = b.toNat := by
  have hl : 0 < s.data.toList.length := h
  refine ⟨s.data.toList[0], ?_, byteAt_get hl⟩
  rw [List.head?_eq_getElem?, List.getElem?_eq_getElem hl]
/-- the text of a number is a row of digits -/
theorem digS_dec {n : Int} (h0 : 0 ≤ n) (h1 : n < 10000000000) : digS (decB n) = true ∧ digV (decB n) = n := by
  obtain ⟨g1, g2, g3, g4⟩ := decL_all n.toNat (by omega)
  have hl := decL_len 9 n.toNat (by show _ < 10000000000; omega) (by omega)
  have hs : (decB n).size = (decL n.toNat).length := rfl
  have hpos : 0 < (decB n).size := by rw [hs]; exact List.length_pos_iff.2 g2
  have hd : digS (decB n) = true := by
    refine digS_iff.2 ⟨hpos, by omega, allD_list.2 g1, fun h2 e => ?_⟩
    obtain ⟨b, hb, e2⟩ := head_list hpos
    have hn : 0 < n.toNat := by
      rcases Nat.eq_zero_or_pos n.toNat with h | h
      · rw [hs, h, decL_lt (by omega)] at h2; simp at h2
      · exact h
    exact g4 hn b hb (by omega)
  refine ⟨hd, ?_⟩
  unfold digV
  rw [if_pos hd, valN_all]
  show valL (decL n.toNat) 0 = n
  rw [g3]; omega
/-- a row of digits is its number's text -/
theorem dec_digS {s : ByteArray} (h : digS s = true) : decB (digV s) = s := by
  obtain ⟨h1, h2, h3, h4⟩ := digS_iff.1 h
  have hv : digV s = valL s.data.toList 0 := by unfold digV; rw [if_pos h, valN_all]
  have hl := len_size s
  obtain ⟨_, _, g3⟩ := decL_back s.size s.data.toList hl h2 (allD_list.1 h3) (fun e => by rw [e] at hl; simp at hl; omega) (fun h5 b hb => by
    obtain ⟨c, hc, e⟩ := head_list (s := s) (by omega)
    rw [hb] at hc; injection hc with hc; subst hc
    intro h6
    exact h4 (by omega) (by omega))
  rw [hv]
  unfold decB
  rw [g3]
theorem nodot_dig {s : ByteArray} (h : allD s) : iS s < 0 := by
  rcases Int.lt_or_le (iS s) 0 with h0 | h0
  · exact h0
  · have hr := iS_range s
    have h1 := ((iS_spec s).2 h0).1
    have := h (iS s).toNat (by omega)
    rw [h1] at this
    cases this
theorem parP_dig {s : ByteArray} (h : digS s = true) (h1 : digV s ≤ 4294967295) : parP s = (digV s, 0) := by
  unfold parP
  rw [if_pos (nodot_dig (digS_iff.1 h).2.2.1), if_pos h, if_neg (by omega)]
theorem parP_dec {n : Int} (h0 : 0 ≤ n) (h1 : n < 4294967296) : parP (decB n) = (n, 0) := by
  obtain ⟨g1, g2⟩ := digS_dec h0 (by omega)
  rw [parP_dig g1 (by omega), g2]
end Go.Proofs.YtgmojlibppmfhaaDoor

/- Runs of the abstract interpreter, part 23: by an AI agent. -/
import Derived.Test.YtgmojlibppmfhaaDoorPart22

namespace Go.Proofs.YtgmojlibppmfhaaDoor
open Go Go.Ai
def dot1 : ByteArray := ⟨⟨[46]⟩⟩
theorem idx_some (c : UInt8) : ∀ (l : List UInt8) (i j : Nat), idxByte c l i = some j → i ≤ j ∧ l[j - i]? = some c ∧ ∀ k, k < j - i → l[k]? ≠ some c
  | [], i, j, h => by simp [idxByte] at h
  | b :: l, i, j, h => by
    simp only [idxByte] at h
    split at h
    · rename_i hb
      have e : b = c := UInt8.toNat_inj.1 (Nat.eq_of_beq_eq_true hb)
      simp only [Option.some.injEq] at h
      subst h; subst e
      exact ⟨Nat.le_refl _, by rw [Nat.sub_self]; rfl, fun k hk => by omega⟩
    · rename_i hb
      have e : b ≠ c := fun e => by subst e; simp at hb
      obtain ⟨g1, g2, g3⟩ := idx_some c l (i + 1) j h
      refine ⟨by omega, ?_, fun k hk => ?_⟩
      · rw [show j - i = (j - (i + 1)) + 1 by omega]; exact g2
      · cases k with
        | zero => simpa using e
        | succ k => simpa using g3 k (by omega)
theorem idx_none (c : UInt8) : ∀ (l : List UInt8) (i : Nat), idxByte c l i = none → ∀ k : Nat, l[k]? ≠ some c
  | [], i, h, k => by simp
  | b :: l, i, h, k => by
    simp only [idxByte] at h
    split at h
    · cases h
    · rename_i hb
      have e : b ≠ c := fun e => by subst e; simp at hb
      cases k with
      | zero => simpa using e
      | succ k => simpa using idx_none c l (i + 1) h k
theorem byteAt_46 {s : ByteArray} {k : Nat} : byteAt s k = 46 ↔ s.data.toList[k]? = some 46 := by
  unfold byteAt
  cases s.data.toList[k]? with
  | none => simp
  | some b =>
    simp only [Option.some.injEq]
    constructor
    · intro h
      have : b.toNat = (46 : UInt8).toNat := by
        have e : (46 : UInt8).toNat = 46 := rfl
        omega
      exact UInt8.toNat_inj.1 this
    · intro h; subst h; rfl
theorem iS_spec (s : ByteArray) : (iS s < 0 → ∀ k, byteAt s k ≠ 46) ∧ (0 ≤ iS s → byteAt s (iS s).toNat = 46 ∧ ∀ k, k < (iS s).toNat → byteAt s k ≠ 46) := by
  unfold iS ixI
  have e : UInt8.ofNat (46 : Int).toNat = 46 := rfl
  rw [e]
  split
  · rename_i j h
    obtain ⟨g1, g2, g3⟩ := idx_some _ _ _ _ h
    refine ⟨fun h => by omega, fun _ => ⟨?_, fun k hk => ?_⟩⟩
    · rw [byteAt_46]; simpa using g2
    · rw [Ne, byteAt_46]; exact g3 k (by omega)
  · rename_i h
    refine ⟨fun _ k => ?_, fun h => by omega⟩
    rw [Ne, byteAt_46]; exact idx_none _ _ _ h k
theorem bits_ff (n : Int) (h0 : 0 ≤ n) (h1 : n < 4294967296) : bitsI .and .u32 n 65535 = n % 65536 := by
  obtain ⟨k, rfl⟩ : ∃ k : Nat, n = k := ⟨n.toNat, by omega⟩
  have : (BitVec.ofInt 32 (k : Int) &&& BitVec.ofInt 32 65535).toNat = k % 65536 := by
    rw [BitVec.toNat_and]
    have e1 : (BitVec.ofInt 32 (k : Int)).toNat = k := by simp; omega
    have e2 : (BitVec.ofInt 32 65535).toNat = 65535 := by decide
    rw [e1, e2]
    exact Nat.and_two_pow_sub_one_eq_mod k 16
  show IntKind.u32.wrap ((BitVec.ofInt 32 (k : Int) &&& BitVec.ofInt 32 65535).toNat : Int) = _
  rw [this]
  have h2 := wrap_in (k := .u32) (z := ((k % 65536 : Nat) : Int)) ⟨by simp [IntKind.min, IntKind.signed]; omega, by simp [IntKind.max, IntKind.signed, IntKind.bits]; omega⟩
  rw [h2]; omega
/-! ### numbers and their texts: plain arithmetic -/
def valL : List UInt8 → Int → Int
  | [], n => n
  | b :: l, n => valL l (n * 10 + ((b.toNat : Int) - 48))
def AllDL (l : List UInt8) : Prop := ∀ b ∈ l, 48 ≤ b.toNat ∧ b.toNat ≤ 57
theorem valL_app (b : UInt8) : ∀ (l : List UInt8) (n : Int), valL (l ++ [b]) n = valL l n * 10 + ((b.toNat : Int) - 48)
  | [], n => rfl
  | c :: l, n => by
    show valL (l ++ [b]) _ = valL l _ * 10 + _
    exact valL_app b l _
theorem valL_ge : ∀ (l : List UInt8) (n : Int), AllDL l → 0 ≤ n → n ≤ valL l n
  | [], n, _, _ => Int.le_refl _
  | b :: l, n, h, h0 => by
    have hb := h b (by simp)
    have := valL_ge l (n * 10 + ((b.toNat : Int) - 48)) (fun c hc => h c (by simp [hc])) (by omega)
    show n ≤ valL l _
    omega
theorem dig_nat {k : Nat} (h : k < 10) : (dig k).toNat = 48 + k := by
  unfold dig
  rw [UInt8.toNat_ofNat']
  omega
theorem decL_all : ∀ (k : Nat), k < 10000000000000000000 → AllDL (decL k) ∧ decL k ≠ [] ∧ valL (decL k) 0 = k ∧ (0 < k → ∀ b, (decL k).head? = some b → b.toNat ≠ 48) := by
  intro k
  induction k using Nat.strongRecOn with
  | ind k ih =>
    intro hk
    by_cases h : k < 10
    · rw [decL_lt h]
      have e := dig_nat h
      refine ⟨fun b hb => ?_, by simp, ?_, fun h0 b hb => ?_⟩
      · rw [List.mem_singleton] at hb; subst hb; omega
      · show (0 : Int) * 10 + (((dig k).toNat : Int) - 48) = k
        omega
      · simp only [List.head?_cons, Option.some.injEq] at hb
        subst hb; omega
    · obtain ⟨g1, g2, g3, g4⟩ := ih (k / 10) (by omega) (by omega)
      have e := dig_nat (show k % 10 < 10 by omega)
      rw [decL_ge (by omega) hk]
      refine ⟨fun b hb => ?_, by simp, ?_, fun h0 b hb => ?_⟩
      · rcases List.mem_append.1 hb with hb | hb
        · exact g1 b hb
        · rw [List.mem_singleton] at hb; subst hb; omega
      · rw [valL_app, g3]; omega
      · have : (decL (k / 10) ++ [dig (k % 10)]).head? = (decL (k / 10)).head? := by
          cases hd : decL (k / 10) with
          | nil => exact absurd hd g2
          | cons c l => rfl
        rw [this] at hb
        exact g4 (by omega) b hb
theorem decL_len : ∀ (j k : Nat), k < 10 ^ (j + 1) → k < 10000000000000000000 → (decL k).length ≤ j + 1
  | 0, k, h, _ => by rw [decL_lt (by simpa using h)]; simp
  | j + 1, k, h, hk => by
    by_cases h1 : k < 10
    · rw [decL_lt h1]; simp
    · have hs := Nat.pow_succ 10 (j + 1)
      rw [decL_ge (by omega) hk, List.length_append]
      have := decL_len j (k / 10) (by omega) (by omega)
      simpa using this
/-- a row of digits is the text of its number -/
theorem decL_back : ∀ (m : Nat) (l : List UInt8), l.length = m → m ≤ 10 → AllDL l → l ≠ [] → (1 < l.length → ∀ b, l.head? = some b → b.toNat ≠ 48) → 0 ≤ valL l 0 ∧ valL l 0 < ((10 ^ m : Nat) : Int) ∧ decL (valL l 0).toNat = l := by
  intro m
  induction m with
  | zero => intro l hl _ _ hne; exact absurd (List.length_eq_zero_iff.1 hl) hne
  | succ m ih =>
    intro l hl hm hd hne hh
    obtain ⟨l', b, rfl⟩ : ∃ l' b, l = l' ++ [b] := ⟨l.dropLast, l.getLast hne, (List.dropLast_concat_getLast hne).symm⟩
    have hb := hd b (by simp)
    have hl' : l'.length = m := by simpa using hl
    have hd' : AllDL l' := fun c hc => hd c (by simp [hc])
    rw [valL_app]
    have hs := Nat.pow_succ 10 m
    have hp := Nat.pow_le_pow_right (show 0 < 10 by omega) (show m ≤ 10 by omega)
    have hq : (10 ^ 10 : Nat) = 10000000000 := by decide
    have hdig : dig (b.toNat - 48) = b := by
      refine UInt8.toNat_inj.1 ?_
      rw [dig_nat (by omega)]; omega
    cases hc : l' with
    | nil =>
      subst hc
      have h1 : 0 < 10 ^ m := Nat.pos_of_ne_zero (by simp)
      show 0 ≤ (0 : Int) * 10 + ((b.toNat : Int) - 48) ∧ (0 : Int) * 10 + ((b.toNat : Int) - 48) < _ ∧ decL ((0 : Int) * 10 + ((b.toNat : Int) - 48)).toNat = [b]
      rw [show ((0 : Int) * 10 + ((b.toNat : Int) - 48)).toNat = b.toNat - 48 by omega, decL_lt (by omega), hdig]
      exact ⟨by omega, by omega, rfl⟩
    | cons c l2 =>
      have hne' : l' ≠ [] := by rw [hc]; simp
      have hh' : ∀ x, l'.head? = some x → x.toNat ≠ 48 := fun x hx => hh (by rw [hl]; have : l'.length = l2.length + 1 := by rw [hc]; rfl
                                                                             omega) x (by rw [hc] at hx ⊢; exact hx)
      obtain ⟨g1, g2, g3⟩ := ih l' hl' (by omega) hd' hne' (fun _ => hh')
      rw [← hc]
      have hpos : 0 < valL l' 0 := by
        rw [hc]
        have hx := hh' c (by rw [hc]; rfl)
        have hy := hd' c (by rw [hc]; simp)
        have := valL_ge l2 ((0 : Int) * 10 + ((c.toNat : Int) - 48)) (fun z hz => hd' z (by rw [hc]; simp [hz])) (by omega)
        show 0 < valL l2 _
        omega
      generalize valL l' 0 = v at g1 g2 g3 hpos
      refine ⟨by omega, by omega, ?_⟩
      rw [decL_ge (by omega) (by omega), show (v * 10 + ((b.toNat : Int) - 48)).toNat / 10 = v.toNat by omega, show (v * 10 + ((b.toNat : Int) - 48)).toNat % 10 = b.toNat - 48 by omega, g3, hdig]

/-! texts as lists -/
theorem toList_app (a b : ByteArray) : (a ++ b).data.toList = a.data.toList ++ b.data.toList := by simp
theorem len_size (s : ByteArray) : s.data.toList.length = s.size := rfl
theorem valN_valL (s : ByteArray) : ∀ (k i : Nat) (n : Int), i + k ≤ s.size → valN s k i n = valL ((s.data.toList.drop i).take k) n
  | 0, i, n, _ => by simp [valN, valL]
  | k + 1, i, n, h => by
    have hl : i < s.data.toList.length := by rw [len_size]; omega
    rw [valN, valN_valL s k (i + 1) _ (by omega), List.drop_eq_getElem_cons hl, List.take_succ_cons, valL, byteAt_get hl]
theorem valN_all (s : ByteArray) : valN s s.size 0 0 = valL s.data.toList 0 := by
  rw [valN_valL s s.size 0 0 (by omega), List.drop_zero, List.take_of_length_le (by rw [len_size]; exact Nat.le_refl _)]
theorem allD_list {s : ByteArray} : allD s ↔ AllDL s.data.toList := by
  constructor
  · intro h b hb
    obtain ⟨i, hi, e⟩ := List.getElem_of_mem hb
    have := of_decide_eq_true (h i hi)
    rw [byteAt_get hi, e] at this
    omega
  · intro h i hi
    have hl : i < s.data.toList.length := hi
    have := h _ (List.getElem_mem hl)
    exact decide_eq_true (by rw [byteAt_get hl]; omega)
theorem head_list {s : ByteArray} (h : 0 < s.size) : ∃ b, s.data.toList.head? = some b ∧ byteAt s 0 = b.toNat := by
  have hl : 0 < s.data.toList.length := h
  refine ⟨s.data.toList[0], ?_, byteAt_get hl⟩
  rw [List.head?_eq_getElem?, List.getElem?_eq_getElem hl]
/-- the text of a number is a row of digits -/
theorem digS_dec {n : Int} (h0 : 0 ≤ n) (h1 : n < 10000000000) : digS (decB n) = true ∧ digV (decB n) = n := by
  obtain ⟨g1, g2, g3, g4⟩ := decL_all n.toNat (by omega)
  have hl := decL_len 9 n.toNat (by show _ < 10000000000; omega) (by omega)
  have hs : (decB n).size = (decL n.toNat).length := rfl
  have hpos : 0 < (decB n).size := by rw [hs]; exact List.length_pos_iff.2 g2
  have hd : digS (decB n) = true := by
    refine digS_iff.2 ⟨hpos, by omega, allD_list.2 g1, fun h2 e => ?_⟩
    obtain ⟨b, hb, e2⟩ := head_list hpos
    have hn : 0 < n.toNat := by
      rcases Nat.eq_zero_or_pos n.toNat with h | h
      · rw [hs, h, decL_lt (by omega)] at h2; simp at h2
      · exact h
    exact g4 hn b hb (by omega)
  refine ⟨hd, ?_⟩
  unfold digV
  rw [if_pos hd, valN_all]
  show valL (decL n.toNat) 0 = n
  rw [g3]; omega
/-- a row of digits is its number's text -/
theorem dec_digS {s : ByteArray} (h : digS s = true) : decB (digV s) = s := by
  obtain ⟨h1, h2, h3, h4⟩ := digS_iff.1 h
  have hv : digV s = valL s.data.toList 0 := by unfold digV; rw [if_pos h, valN_all]
  have hl := len_size s
  obtain ⟨_, _, g3⟩ := decL_back s.size s.data.toList hl h2 (allD_list.1 h3) (fun e => by rw [e] at hl; simp at hl; omega) (fun h5 b hb => by
    obtain ⟨c, hc, e⟩ := head_list (s := s) (by omega)
    rw [hb] at hc; injection hc with hc; subst hc
    intro h6
    exact h4 (by omega) (by omega))
  rw [hv]
  unfold decB
  rw [g3]
theorem nodot_dig {s : ByteArray} (h : allD s) : iS s < 0 := by
  rcases Int.lt_or_le (iS s) 0 with h0 | h0
  · exact h0
  · have hr := iS_range s
    have h1 := ((iS_spec s).2 h0).1
    have := h (iS s).toNat (by omega)
    rw [h1] at this
    cases this
theorem ext_list {s : ByteArray} {a b : Nat} : (s.extract a b).data.toList = (s.data.toList.take b).drop a := by
  rw [ByteArray.data_extract]
  simp [Array.toList_extract, List.drop_take]
theorem byteAt_app (a b : ByteArray) (i : Nat) : byteAt (a ++ b) i = if i < a.size then byteAt a i else byteAt b (i - a.size) := by
  unfold byteAt
  rw [toList_app]
  by_cases h : i < a.size
  · rw [if_pos h, List.getElem?_append_left (by rw [len_size]; exact h)]
  · rw [if_neg h, List.getElem?_append_right (by rw [len_size]; omega), len_size]
theorem dot1_at : byteAt dot1 0 = 46 := rfl
theorem iS_app {f l : ByteArray} (hf : allD f) : iS (f ++ dot1 ++ l) = f.size := by
  have hd : byteAt (f ++ dot1 ++ l) f.size = 46 := by
    have e : dot1.size = 1 := rfl
    rw [byteAt_app, if_pos (by rw [ByteArray.size_append]; omega), byteAt_app, if_neg (by omega), Nat.sub_self, dot1_at]
  have hb : ∀ j, j < f.size → byteAt (f ++ dot1 ++ l) j ≠ 46 := fun j hj => by
    rw [byteAt_app, if_pos (by rw [ByteArray.size_append]; omega), byteAt_app, if_pos hj]
    have := of_decide_eq_true (hf j hj)
    omega
  obtain ⟨g1, g2⟩ := iS_spec (f ++ dot1 ++ l)
  rcases Int.lt_or_le (iS (f ++ dot1 ++ l)) 0 with h0 | h0
  · exact absurd hd (g1 h0 _)
  · obtain ⟨g3, g4⟩ := g2 h0
    have h1 : ¬ (iS (f ++ dot1 ++ l)).toNat < f.size := fun h => hb _ h g3
    have h2 : ¬ f.size < (iS (f ++ dot1 ++ l)).toNat := fun h => g4 _ h hd
    omega
theorem fS_app {f l : ByteArray} (hf : allD f) : fS (f ++ dot1 ++ l) = f := by
  unfold fS
  rw [iS_app hf]
  refine ba_ext ?_
  rw [ext_list, toList_app, toList_app, show ((f.size : Int)).toNat = f.data.toList.length by rw [len_size]; omega, List.append_assoc, List.take_left]
  rfl
theorem lS_app {f l : ByteArray} (hf : allD f) : lS (f ++ dot1 ++ l) = l := by
  unfold lS
  rw [iS_app hf]
  refine ba_ext ?_
  rw [ext_list, ← len_size (f ++ dot1 ++ l), List.take_of_length_le (Nat.le_refl _), toList_app, show ((f.size : Int) + 1).toNat = (f ++ dot1).data.toList.length by rw [len_size, ByteArray.size_append]; show _ = f.size + 1; omega, List.drop_left]
theorem t_split {t : ByteArray} (h : 0 ≤ iS t) : t = fS t ++ dot1 ++ lS t := by
  obtain ⟨g1, _⟩ := (iS_spec t).2 h
  have hr := iS_range t
  unfold fS lS
  refine ba_ext ?_
  simp only [toList_app]
  rw [ext_list, ext_list, List.drop_zero, ← len_size t, List.take_of_length_le (Nat.le_refl _)]
  obtain ⟨j, ej⟩ : ∃ j : Nat, iS t = j := ⟨(iS t).toNat, by omega⟩
  rw [ej] at g1 hr ⊢
  rw [show ((j : Int)).toNat = j by omega] at g1
  rw [show ((j : Int)).toNat = j by omega, show ((j : Int) + 1).toNat = j + 1 by omega, List.append_assoc]
  have hl : j < t.data.toList.length := by rw [len_size]; omega
  have hj : t.data.toList[j] = 46 := by
    have := byteAt_46.1 g1
    rw [List.getElem?_eq_getElem hl] at this
    injection this
  have e : dot1.data.toList ++ t.data.toList.drop (j + 1) = t.data.toList.drop j := by
    rw [List.drop_eq_getElem_cons hl, hj]; rfl
  rw [e, List.take_append_drop]
end Go.Proofs.YtgmojlibppmfhaaDoor

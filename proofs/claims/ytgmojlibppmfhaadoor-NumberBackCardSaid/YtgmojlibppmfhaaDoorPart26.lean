/- Runs of the abstract interpreter, part 26: by an AI agent. -/
import Derived.Test.YtgmojlibppmfhaaDoorPart25

namespace Go.Proofs.YtgmojlibppmfhaaDoor
open Go Go.Ai
theorem ext_list {s : ByteArray} {a b : Nat} : (s.extract a b).data.toList = (s.data.toList.take b).drop a := by
  rw [ByteArray.data_extract]
  simp [Array.toList_extract, List.drop_take]
theorem byteAt_app (a b : ByteArray) (i : Nat) : byteAt (a ++ b) i = if i < a.size then byteAt a i else byteAt b (i - a.size) := by
  unfold byteAt
  rw [toList_app]
  by_cases h : i < a.size
  · rw [if_pos h, List.getElem?_append_left (by rw [len_size]; exact h)]
  · rw [if_neg h, List.getElem?_append_right (by rw [len_size]; omega), len_size]
theorem dot1_at : byteAt dot1 0 = 46 := rfl
theorem iS_app {f l : ByteArray} (hf : allD f) : iS (f ++ dot1 ++ l) = f.size := by
  have hd : byteAt (f ++ dot1 ++ l) f.size = 46 := by
    have e : dot1.size = 1 := rfl
    rw [byteAt_app, if_pos (by rw [ByteArray.size_append]; omega), byteAt_app, if_neg (by omega), Nat.sub_self, dot1_at]
  have hb : ∀ j, j < f.size → byteAt (f ++ dot1 ++ l) j ≠ 46 := fun j hj => by
    rw [byteAt_app, if_pos (by rw [ByteArray.size_append]; omega), byteAt_app, if_pos hj]
    have := of_decide_eq_true (hf j hj)
    omega
  obtain ⟨g1, g2⟩ := iS_spec (f ++ dot1 ++ l)
  rcases Int.lt_or_le (iS (f ++ dot1 ++ l)) 0 with h0 | h0
  · exact absurd hd (g1 h0 _)
  · obtain ⟨g3, g4⟩ := g2 h0
    have h1 : ¬ (iS (f ++ dot1 ++ l)).toNat < f.size := fun h => hb _ h g3
    have h2 : ¬ f.size < (iS (f ++ dot1 ++ l)).toNat := fun h => g4 _ h hd
    omega
theorem fS_app {f l : ByteArray} (hf : allD f) : fS (f ++ dot1 ++ l) = f := by
  unfold fS
  rw [iS_app hf]
  refine ba_ext ?_
  rw [ext_list, toList_app, toList_app, show ((f.size : Int)).toNat = f.data.toList.length by rw [len_size]; omega, List.append_assoc, List.take_left]
  rfl
theorem lS_app {f l : ByteArray} (hf : allD f) : lS (f ++ dot1 ++ l) = l := by
  unfold lS
  rw [iS_app hf]
  refine ba_ext ?_
  rw [ext_list, ← len_size (f ++ dot1 ++ l), List.take_of_length_le (Nat.le_refl _), toList_app, show ((f.size : Int) + 1).toNat = (f ++ dot1).data.toList.length by rw [len_size, ByteArray.size_append]; show _ = f.size + 1; omega, List.drop_left]
theorem parP_dot {n : Int} (h0 : 0 ≤ n) (h1 : n < 4294967296) : parP (dotB n) = (n, 0) := by
  unfold dotB
  by_cases h : n ≤ 65535
  · rw [if_pos h]; exact parP_dec h0 h1
  · rw [if_neg h]
    obtain ⟨f1, f2⟩ := digS_dec (n := n / 65536) (by omega) (by omega)
    obtain ⟨l1, l2⟩ := digS_dec (n := n % 65536) (by omega) (by omega)
    have ha := (digS_iff.1 f1).2.2.1
    unfold parP
    rw [if_neg (by rw [iS_app ha]; omega), fS_app ha, lS_app ha, if_pos ⟨f1, l1⟩, f2, l2, if_neg (by omega)]
    congr 1; omega
def zeroB : ByteArray := ⟨⟨[48]⟩⟩
theorem parP_zero {n : Int} (h0 : 0 ≤ n) (h1 : n < 4294967296) : parP (zeroB ++ decB n) = (0, 5) := by
  obtain ⟨f1, _⟩ := digS_dec (n := n) h0 (by omega)
  obtain ⟨g1, _, g3, _⟩ := digS_iff.1 f1
  have e : zeroB.size = 1 := rfl
  have ha : allD (zeroB ++ decB n) := fun i hi => by
    rw [ByteArray.size_append, e] at hi
    rw [byteAt_app, e]
    by_cases h : i < 1
    · rw [if_pos h, show i = 0 by omega]; rfl
    · rw [if_neg h]; exact g3 _ (by omega)
  unfold parP
  rw [if_pos (nodot_dig ha), if_neg]
  intro h
  have := (digS_iff.1 h).2.2.2 (by rw [ByteArray.size_append, e]; omega)
  rw [byteAt_app, e, if_pos (by omega)] at this
  exact this rfl
theorem t_split {t : ByteArray} (h : 0 ≤ iS t) : t = fS t ++ dot1 ++ lS t := by
  obtain ⟨g1, _⟩ := (iS_spec t).2 h
  have hr := iS_range t
  unfold fS lS
  refine ba_ext ?_
  simp only [toList_app]
  rw [ext_list, ext_list, List.drop_zero, ← len_size t, List.take_of_length_le (Nat.le_refl _)]
  obtain ⟨j, ej⟩ : ∃ j : Nat, iS t = j := ⟨(iS t).toNat, by omega⟩
  rw [ej] at g1 hr ⊢
  rw [show ((j : Int)).toNat = j by omega] at g1
  rw [show ((j : Int)).toNat = j by omega, show ((j : Int) + 1).toNat = j + 1 by omega, List.append_assoc]
  have hl : j < t.data.toList.length := by rw [len_size]; omega
  have hj : t.data.toList[j] = 46 := by
    have := byteAt_46.1 g1
    rw [List.getElem?_eq_getElem hl] at this
    injection this
  have e : dot1.data.toList ++ t.data.toList.drop (j + 1) = t.data.toList.drop j := by
    rw [List.drop_eq_getElem_cons hl, hj]; rfl
  rw [e, List.take_append_drop]
theorem parP_range (t : ByteArray) : 0 ≤ (parP t).1 ∧ (parP t).1 < 4294967296 ∧ ((parP t).2 ≠ 0 → (parP t).1 = 0 ∧ ((parP t).2 = 5 ∨ (parP t).2 = 24)) := by
  have r0 := digV_range t
  have rf := digV_range (fS t)
  have rl := digV_range (lS t)
  unfold parP
  repeat' split
  all_goals first | exact ⟨by omega, by omega, fun h => ⟨rfl, .inl rfl⟩⟩ | exact ⟨by omega, by omega, fun h => ⟨rfl, .inr rfl⟩⟩ | exact ⟨by omega, by omega, fun h => absurd rfl h⟩
def zdB : ByteArray := ⟨⟨[48, 46]⟩⟩
theorem parP_back {t : ByteArray} (h : (parP t).2 = 0) : decB (parP t).1 = t ∨ dotB (parP t).1 = t ∨ (2 ≤ t.size ∧ t.extract 0 2 = zdB ∧ zdB ++ decB (parP t).1 = t) := by
  have r0 := digV_range t
  have rf := digV_range (fS t)
  have rl := digV_range (lS t)
  revert h
  unfold parP
  by_cases hn : iS t < 0
  · rw [if_pos hn]
    by_cases hd : digS t = true
    · rw [if_pos hd]
      by_cases h4 : 4294967295 < digV t
      · rw [if_pos h4]; intro h; cases h
      · rw [if_neg h4]; intro _; exact .inl (dec_digS hd)
    · rw [if_neg hd]; intro h; cases h
  · rw [if_neg hn]
    by_cases hd : digS (fS t) = true ∧ digS (lS t) = true
    · rw [if_pos hd]
      by_cases h5 : 65535 < digV (fS t) ∨ 65535 < digV (lS t)
      · rw [if_pos h5]; intro h; cases h
      · rw [if_neg h5]
        intro _
        have hs := t_split (t := t) (by omega)
        have ef := dec_digS hd.1
        have el := dec_digS hd.2
        right
        by_cases hz : digV (fS t) = 0
        · right
          have e0 : decB 0 = zeroB := rfl
          rw [hz, e0] at ef
          have e2 : zeroB ++ dot1 = zdB := rfl
          rw [← ef, e2] at hs
          have e1 : zdB.size = 2 := rfl
          refine ⟨?_, ?_, ?_⟩
          · rw [hs, ByteArray.size_append, e1]; omega
          · rw [hs]
            refine ba_ext ?_
            rw [ext_list, toList_app]; rfl
          · show zdB ++ decB (digV (fS t) * 65536 + digV (lS t)) = t
            rw [hz, show (0 : Int) * 65536 + digV (lS t) = digV (lS t) by omega, el, ← hs]
        · left
          show dotB (digV (fS t) * 65536 + digV (lS t)) = t
          unfold dotB
          rw [if_neg (by omega), show (digV (fS t) * 65536 + digV (lS t)) / 65536 = digV (fS t) by omega, show (digV (fS t) * 65536 + digV (lS t)) % 65536 = digV (lS t) by omega, ef, el, ← hs]
    · rw [if_neg hd]; intro h; cases h
end Go.Proofs.YtgmojlibppmfhaaDoor

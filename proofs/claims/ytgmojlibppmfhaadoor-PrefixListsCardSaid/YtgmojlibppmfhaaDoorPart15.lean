/- Runs of the abstract interpreter, part 15: by an AI agent. -/
import Derived.Test.YtgmojlibppmfhaaDoorPart14

namespace Go.Proofs.YtgmojlibppmfhaaDoor
open Go Go.Ai
theorem byteAt_ext {s : ByteArray} {a b i : Nat} (h : a + i < b) (hb : b ≤ s.size) : byteAt (s.extract a b) i = byteAt s (a + i) := by
  have hl : a + i < s.data.toList.length := Nat.lt_of_lt_of_le h hb
  have e : (s.extract a b).data.toList = (s.data.toList.take b).drop a := by
    rw [ByteArray.data_extract]
    simp [Array.toList_extract, List.drop_take]
  unfold byteAt
  rw [e, List.getElem?_drop, List.getElem?_take, if_pos h]
theorem size_ext {s : ByteArray} {a b : Nat} (hb : b ≤ s.size) : (s.extract a b).size = b - a := by
  rw [ByteArray.size_extract]; omega
theorem tR_spec : ∀ (n : Nat) (s : ByteArray), s.size ≤ n → (allD s → (tR n s).size = 0) ∧ (¬ allD s → 0 < (tR n s).size ∧ isD (byteAt (tR n s) ((tR n s).size - 1)) = false)
  | 0, s, h => ⟨fun _ => by rw [tR]; omega, fun hn => absurd (fun i hi => by omega) hn⟩
  | n + 1, s, h => by
    rw [tR]
    by_cases hc : 0 < s.size ∧ isD (byteAt s (s.size - 1)) = true
    · rw [if_pos hc]
      have hs := size_ext (s := s) (a := 0) (b := s.size - 1) (by omega)
      have ha : allD s ↔ allD (s.extract 0 (s.size - 1)) := by
        constructor
        · intro h1 i hi
          rw [byteAt_ext (by omega) (by omega), Nat.zero_add]; exact h1 i (by omega)
        · intro h1 i hi
          by_cases e : i = s.size - 1
          · rw [e]; exact hc.2
          · have := h1 i (by omega)
            rw [byteAt_ext (by omega) (by omega), Nat.zero_add] at this; exact this
      rw [ha]
      exact tR_spec n _ (by omega)
    · rw [if_neg hc]
      by_cases h0 : 0 < s.size
      · have hd : isD (byteAt s (s.size - 1)) = false := by
          cases hq : isD (byteAt s (s.size - 1)) with
          | false => rfl
          | true => exact absurd ⟨h0, hq⟩ hc
        refine ⟨fun h1 => ?_, fun _ => ⟨h0, hd⟩⟩
        have := h1 (s.size - 1) (by omega)
        rw [hd] at this; cases this
      · exact ⟨fun _ => by omega, fun hn => absurd (fun i hi => by omega) hn⟩
theorem tL_spec : ∀ (n : Nat) (s : ByteArray), (∃ i, i < s.size ∧ isD (byteAt s i) = false) → 0 < (tL n s).size
  | 0, s, ⟨i, h, _⟩ => by rw [tL]; omega
  | n + 1, s, ⟨i, h, hd⟩ => by
    rw [tL]
    by_cases hc : 0 < s.size ∧ isD (byteAt s 0) = true
    · rw [if_pos hc]
      have hi : i ≠ 0 := by intro e; subst e; rw [hc.2] at hd; cases hd
      refine tL_spec n _ ⟨i - 1, ?_, ?_⟩
      · rw [size_ext (Nat.le_refl _)]; omega
      · rw [byteAt_ext (by omega) (Nat.le_refl _), show 1 + (i - 1) = i by omega]; exact hd
    · rw [if_neg hc]; omega
theorem tL_size : ∀ (n : Nat) (s : ByteArray), (tL n s).size ≤ s.size
  | 0, s => by rw [tL]; exact Nat.le_refl _
  | n + 1, s => by
    rw [tL]
    split
    · have := tL_size n (s.extract 1 s.size)
      rw [size_ext (Nat.le_refl _)] at this; omega
    · exact Nat.le_refl _
theorem eqS_nil (s : ByteArray) : eqS s ⟨⟨[]⟩⟩ = decide (s.size = 0) := by
  unfold eqS
  by_cases h : s.size = 0
  · rw [decide_eq_true h]
    exact decide_eq_true (List.length_eq_zero_iff.1 h)
  · rw [decide_eq_false h]
    refine decide_eq_false fun e => h ?_
    show s.data.toList.length = 0
    rw [e]; rfl
theorem tT_nil (s : ByteArray) : eqS (tT s) ⟨⟨[]⟩⟩ = true ↔ allD s := by
  rw [eqS_nil, decide_eq_true_iff]
  obtain ⟨h1, h2⟩ := tR_spec s.size s (Nat.le_refl _)
  by_cases ha : allD s
  · refine ⟨fun _ => ha, fun _ => ?_⟩
    have := tL_size (tR s.size s).size (tR s.size s)
    have := h1 ha
    unfold tT; omega
  · refine ⟨fun h => absurd h ?_, fun h => absurd h ha⟩
    obtain ⟨g1, g2⟩ := h2 ha
    have := tL_spec (tR s.size s).size (tR s.size s) ⟨_, by omega, g2⟩
    unfold tT; omega
theorem tR_size : ∀ (n : Nat) (s : ByteArray), (tR n s).size ≤ s.size
  | 0, s => by rw [tR]; exact Nat.le_refl _
  | n + 1, s => by
    rw [tR]
    split
    · have := tR_size n (s.extract 0 (s.size - 1))
      rw [size_ext (by omega)] at this; omega
    · exact Nat.le_refl _
theorem sB_eq (s : ByteArray) : sB s = s := rowB_back s

theorem fit90_ok (s : ByteArray) : fit90 s := fun hp h => by
  have h : hp.get 12 = some asObj := by simpa [lookR, RB.blk] using h
  exact ⟨⟨⟨true, by rw [h]; kernel_rfl, fun _ => rfl⟩, trivial⟩, ⟨.inl ⟨rfl, rfl⟩, .inl ⟨by kernel_rfl, by kernel_rfl⟩, trivial⟩, by kernel_rfl⟩
theorem fit89_ok (s : ByteArray) : fit89 s := fun hp h => by
  have h : hp.get 12 = some asObj := by simpa [lookR, RB.blk] using h
  exact ⟨⟨⟨true, by rw [h]; kernel_rfl, fun _ => rfl⟩, trivial⟩, ⟨.inl ⟨rfl, rfl⟩, .inl ⟨by kernel_rfl, by kernel_rfl⟩, trivial⟩, by kernel_rfl⟩
theorem fit99_ok (s : ByteArray) : fit99 s := fun hp h => by
  have h : hp.get 13 = some (rowB s) := by simpa [lookR, RB.blk] using h
  refine ⟨⟨⟨true, ?_, fun _ => rfl⟩, trivial⟩, ?_, by kernel_rfl⟩
  · rw [h]
    show some (rowB s) = some (reWr true (renO _ (rowB (sB s))))
    rw [renO_rowB, sB_eq]
  · refine ⟨.inl ⟨rfl, rfl⟩, .inl ⟨rfl, rfl⟩, .inl ⟨rfl, rfl⟩, .inl ⟨rfl, rfl⟩, .inl ⟨rfl, rfl⟩, .inl ⟨rfl, rfl⟩, .inl ⟨?_, by kernel_rfl⟩, .inl ⟨?_, rfl⟩, .inl ⟨rfl, rfl⟩, trivial⟩
    · show Value.slice (some ⟨13, 0, none⟩) s.size openCap = ren _ (.slice (some ⟨11, 0, none⟩) (sB s).size openCap)
      rw [sB_eq]; kernel_rfl
    · show Value.int .i64 s.size = ren _ (.int .i64 (sB s).size)
      rw [sB_eq]; rfl

def allB (s : ByteArray) : Bool := s.data.toList.all fun b => isD b.toNat
theorem byteAt_get {s : ByteArray} {i : Nat} (h : i < s.data.toList.length) : byteAt s i = (s.data.toList[i]).toNat := by
  unfold byteAt; rw [List.getElem?_eq_getElem h]
theorem allB_iff {s : ByteArray} : allB s = true ↔ allD s := by
  unfold allB allD
  rw [List.all_eq_true]
  constructor
  · intro h i hi
    have hl : i < s.data.toList.length := hi
    rw [byteAt_get hl]
    exact h _ (List.getElem_mem hl)
  · intro h b hb
    obtain ⟨i, hi, e⟩ := List.getElem_of_mem hb
    have := h i hi
    rw [byteAt_get hi, e] at this
    exact this
/-- a row of digits: is it one? its number -/
def digS (s : ByteArray) : Bool := Nat.ble 1 s.size && (Nat.ble s.size 10 && (allB s && (Nat.ble s.size 1 || !(byteAt s 0 == 48))))
theorem digS_iff {s : ByteArray} : digS s = true ↔ (1 ≤ s.size ∧ s.size ≤ 10 ∧ allD s ∧ (1 < s.size → byteAt s 0 ≠ 48)) := by
  unfold digS
  rw [Bool.and_eq_true, Bool.and_eq_true, Bool.and_eq_true, Nat.ble_eq, Nat.ble_eq, allB_iff, Bool.or_eq_true, Nat.ble_eq, Bool.not_eq_true']
  refine and_congr_right fun _ => and_congr_right fun _ => and_congr_right fun _ => ?_
  by_cases h : s.size ≤ 1
  · exact ⟨fun _ h2 => absurd h2 (by omega), fun _ => .inl h⟩
  · refine ⟨fun h2 _ => ?_, fun h2 => .inr (beq_eq_false_iff_ne.2 (h2 (by omega)))⟩
    rcases h2 with h2 | h2
    · exact absurd h2 h
    · exact beq_eq_false_iff_ne.1 h2
def digV (s : ByteArray) : Int := if digS s = true then valN s s.size 0 0 else 0
def digR (s : ByteArray) : Value := .tuple #[.int .u64 (digV s), .bool (digS s)]
theorem F65_all (s : ByteArray) (hm : s.size ≤ 9223372036854775807) : ∃ st', Go.Ai.call cx ovn1 1000 65 [.string s] ⟨keepIds st0.hp [], st0.ct⟩ = some (digR s, st') := by
  have bad (h : ¬ (1 ≤ s.size ∧ s.size ≤ 10 ∧ allD s ∧ (1 < s.size → byteAt s 0 ≠ 48))) : digR s = .tuple #[.int .u64 0, .bool false] := by
    have hd : digS s = false := by
      cases hq : digS s with
      | false => rfl
      | true => exact absurd (digS_iff.1 hq) h
    simp [digR, digV, hd]
  have good (h : 1 ≤ s.size ∧ s.size ≤ 10 ∧ allD s ∧ (1 < s.size → byteAt s 0 ≠ 48)) : digR s = .tuple #[.int .u64 (valN (sB s) ((sB s).size - 0) 0 0), .bool true] := by
    have hd : digS s = true := digS_iff.2 h
    simp [digR, digV, hd, sB_eq]
  have es : eqS s ⟨⟨[]⟩⟩ = decide (s.size = 0) := eqS_nil s
  by_cases h0 : s.size = 0
  · rw [decide_eq_true h0] at es
    rw [bad (by omega)]
    exact F65_0 s ⟨es, es, es, es, trivial⟩
  · rw [decide_eq_false h0] at es
    by_cases h1 : s.size ≤ 10
    · have l90 : L90.pre s := hm
      have l89 : L89.pre (tR s.size s) := Nat.le_trans (tR_size _ _) hm
      by_cases ha : allD s
      · have et : (!eqS (tT s) ⟨⟨[]⟩⟩) = false := by rw [(tT_nil s).2 ha]; rfl
        have l99 : L99.pre (sB s, 0, 0) := by
          rw [sB_eq]; exact ⟨ha, h1, Nat.zero_le _, Int.le_refl _, by show (0 : Int) < ((10 ^ 0 : Nat) : Int); decide⟩
        have hb : Nat.ble s.size 70368744177664 = true := Nat.ble_eq.mpr (by omega)
        by_cases h2 : 1 < s.size
        · by_cases h3 : byteAt s 0 = 48
          · rw [bad (fun h => h.2.2.2 h2 h3)]
            exact F65_3 s ⟨beq_iff_eq.2 h3, et, decide_eq_true (by omega), et, decide_eq_true (by omega), decide_eq_true (by omega), decide_eq_true (by omega), decide_eq_true (by omega), et, et, et, et, decide_eq_false (by omega), decide_eq_false (by omega), fit89_ok s, l89, rfl, fit90_ok s, l90, rfl, es, es, es, decide_eq_false (by omega), decide_eq_false (by omega), es, es, es, es, trivial⟩
          · rw [good ⟨by omega, h1, ha, fun _ => h3⟩]
            exact F65_5 s ⟨fit99_ok s, l99, rfl, hb, es, beq_eq_false_iff_ne.2 h3, et, decide_eq_true (by omega), et, decide_eq_true (by omega), decide_eq_true (by omega), decide_eq_true (by omega), decide_eq_true (by omega), et, et, et, et, decide_eq_false (by omega), decide_eq_false (by omega), fit89_ok s, l89, rfl, fit90_ok s, l90, rfl, es, es, es, decide_eq_false (by omega), decide_eq_false (by omega), es, es, es, es, trivial⟩
        · rw [good ⟨by omega, h1, ha, fun h => absurd h h2⟩]
          exact F65_4 s ⟨fit99_ok s, l99, rfl, hb, es, et, decide_eq_false (by omega), et, decide_eq_false (by omega), decide_eq_false (by omega), decide_eq_false (by omega), et, et, et, et, decide_eq_false (by omega), decide_eq_false (by omega), fit89_ok s, l89, rfl, fit90_ok s, l90, rfl, es, es, es, decide_eq_false (by omega), decide_eq_false (by omega), es, es, es, es, trivial⟩
      · have et : (!eqS (tT s) ⟨⟨[]⟩⟩) = true := by
          cases hq : eqS (tT s) ⟨⟨[]⟩⟩ with
          | false => rfl
          | true => exact absurd ((tT_nil s).1 hq) ha
        rw [bad (fun h => ha h.2.2.1)]
        exact F65_2 s ⟨et, et, et, et, et, et, decide_eq_false (by omega), decide_eq_false (by omega), fit89_ok s, l89, rfl, fit90_ok s, l90, rfl, es, es, es, decide_eq_false (by omega), decide_eq_false (by omega), es, es, es, es, trivial⟩
    · rw [bad (by omega)]
      exact F65_1 s ⟨decide_eq_true (by omega), decide_eq_true (by omega), decide_eq_true (by omega), decide_eq_true (by omega), es, es, es, es, trivial⟩
def C65 : FC := ⟨65, fun l => ∃ s, l = [.string s] ∧ s.size ≤ 9223372036854775807, fun l => match l with | [.string s] => digR s | _ => undef, []⟩
theorem C65_good : C65.Good Tryd.prog ovn1 st0 := ⟨by kernel_rfl, fun args ⟨s, e, h⟩ => by subst e; exact ⟨rfl, rfl, 1000, F65_all s h⟩⟩
end Go.Proofs.YtgmojlibppmfhaaDoor

/- Runs of the abstract interpreter, part 15: by an AI agent. -/
import Derived.Test.YtgmojlibppmfhaaDoorPart14

namespace Go.Proofs.YtgmojlibppmfhaaDoor
open Go Go.Ai
/-! ### both read the same: plain arithmetic -/
theorem idx_some (c : UInt8) : ∀ (l : List UInt8) (i j : Nat), idxByte c l i = some j → i ≤ j ∧ l[j - i]? = some c ∧ ∀ k, k < j - i → l[k]? ≠ some c
  | [], i, j, h => by simp [idxByte] at h
  | b :: l, i, j, h => by
    simp only [idxByte] at h
    split at h
    · rename_i hb
      have e : b = c := UInt8.toNat_inj.1 (Nat.eq_of_beq_eq_true hb)
      simp only [Option.some.injEq] at h
      subst h; subst e
      exact ⟨Nat.le_refl _, by rw [Nat.sub_self]; rfl, fun k hk => by omega⟩
    · rename_i hb
      have e : b ≠ c := fun e => by subst e; simp at hb
      obtain ⟨g1, g2, g3⟩ := idx_some c l (i + 1) j h
      refine ⟨by omega, ?_, fun k hk => ?_⟩
      · rw [show j - i = (j - (i + 1)) + 1 by omega]; exact g2
      · cases k with
        | zero => simpa using e
        | succ k => simpa using g3 k (by omega)
theorem idx_none (c : UInt8) : ∀ (l : List UInt8) (i : Nat), idxByte c l i = none → ∀ k : Nat, l[k]? ≠ some c
  | [], i, h, k => by simp
  | b :: l, i, h, k => by
    simp only [idxByte] at h
    split at h
    · cases h
    · rename_i hb
      have e : b ≠ c := fun e => by subst e; simp at hb
      cases k with
      | zero => simpa using e
      | succ k => simpa using idx_none c l (i + 1) h k
theorem byteAt_46 {s : ByteArray} {k : Nat} : byteAt s k = 46 ↔ s.data.toList[k]? = some 46 := by
  unfold byteAt
  cases s.data.toList[k]? with
  | none => simp
  | some b =>
    simp only [Option.some.injEq]
    constructor
    · intro h
      have : b.toNat = (46 : UInt8).toNat := by
        have e : (46 : UInt8).toNat = 46 := rfl
        omega
      exact UInt8.toNat_inj.1 this
    · intro h; subst h; rfl
theorem iS_spec (s : ByteArray) : (iS s < 0 → ∀ k, byteAt s k ≠ 46) ∧ (0 ≤ iS s → byteAt s (iS s).toNat = 46 ∧ ∀ k, k < (iS s).toNat → byteAt s k ≠ 46) := by
  unfold iS ixI
  have e : UInt8.ofNat (46 : Int).toNat = 46 := rfl
  rw [e]
  split
  · rename_i j h
    obtain ⟨g1, g2, g3⟩ := idx_some _ _ _ _ h
    refine ⟨fun h => by omega, fun _ => ⟨?_, fun k hk => ?_⟩⟩
    · rw [byteAt_46]; simpa using g2
    · rw [Ne, byteAt_46]; exact g3 k (by omega)
  · rename_i h
    refine ⟨fun _ k => ?_, fun h => by omega⟩
    rw [Ne, byteAt_46]; exact idx_none _ _ _ h k
theorem valN_ext {s : ByteArray} {a b : Nat} (hb : b ≤ s.size) : ∀ (k i : Nat) (n : Int), a + i + k ≤ b → valN (s.extract a b) k i n = valN s k (a + i) n
  | 0, i, n, _ => rfl
  | k + 1, i, n, h => by
    rw [valN, valN, byteAt_ext (by omega) hb, valN_ext hb k (i + 1) _ (by omega), Nat.add_assoc]
theorem row_dig {s : ByteArray} {a b : Nat} (hab : a ≤ b) (hb : b ≤ s.size) (he : b = s.size ∨ isD (byteAt s b) = false) :
    (digS (s.extract a b) = true ↔ 0 < rowM s a ∧ a + rowM s a = b) ∧ (digS (s.extract a b) = true → digV (s.extract a b) = rowN s a) := by
  have hsz := size_ext (s := s) (a := a) hb
  have key : digS (s.extract a b) = true ↔ 0 < rowM s a ∧ a + rowM s a = b := by
    rw [digS_iff, hsz]
    constructor
    · rintro ⟨h1, h2, h3, h4⟩
      have hd : ∀ j, j < b - a → isD (byteAt s (a + j)) = true := fun j hj => by
        have := h3 j (by omega)
        rwa [byteAt_ext (by omega) hb] at this
      obtain ⟨g1, g2, g3, g4, _⟩ := rowR_spec s (a : Int) (by omega) 11 0 0 (by omega)
      have hm : (rowR s a 11 0 0).2 = (b : Int) - a := by
        rcases Int.lt_trichotomy (rowR s a 11 0 0).2 ((b : Int) - a) with h | h | h
        · refine absurd ⟨by omega, ?_⟩ (g4 (by omega))
          have := hd (rowR s a 11 0 0).2.toNat (by omega)
          rwa [show ((a : Int) + (rowR s a 11 0 0).2).toNat = a + (rowR s a 11 0 0).2.toNat by omega]
        · exact h
        · have := g3 ((b : Int) - a) (by omega) h
          rcases he with he | he
          · omega
          · rw [show ((a : Int) + ((b : Int) - a)).toNat = b by omega, he] at this
            cases this.2
      have hnb : ¬ rowBad s a := by
        rintro (h | ⟨h, e⟩)
        · omega
        · have := h4 (by omega)
          rw [byteAt_ext (by omega) hb] at this
          exact this e
      unfold rowM
      rw [if_neg hnb]
      omega
    · rintro ⟨h1, h2⟩
      obtain ⟨f1, f2, f3, f4, f5, f6, f7⟩ := row_facts s (a := (a : Int)) (by omega)
      refine ⟨by omega, by omega, fun j hj => ?_, fun h e => ?_⟩
      · rw [hsz] at hj
        rw [byteAt_ext (by omega) hb]
        have := f6 j (by omega) (by omega)
        rwa [show ((a : Int) + (j : Int)).toNat = a + j by omega] at this
      · rw [byteAt_ext (by omega) hb] at e
        exact (f7 h1).2.1 (by omega) e
  refine ⟨key, fun h => ?_⟩
  obtain ⟨h1, h2⟩ := key.1 h
  have f7 := ((row_facts s (a := (a : Int)) (by omega)).2.2.2.2.2.2 h1).1
  unfold digV
  rw [if_pos h, f7, hsz, valN_ext hb _ _ _ (by omega)]
  congr 1
  omega
theorem ext_whole (s : ByteArray) : s.extract 0 s.size = s := by
  refine ByteArray.ext (Array.toList_inj.1 ?_)
  rw [ByteArray.data_extract, Array.toList_extract, List.extract_eq_take_drop, List.drop_zero, Nat.sub_zero]
  exact List.take_of_length_le (Nat.le_refl _)
theorem isD_46 : isD 46 = false := rfl
theorem parR_parP (s : ByteArray) : parR s = parP s := by
  obtain ⟨f1, f2, f3, f4, f5, f6, f7⟩ := row_facts s (a := 0) (Int.le_refl _)
  have hi := iS_range s
  obtain ⟨i1, i2⟩ := iS_spec s
  have e1 : rowM s 0 = m1 s := rfl
  have e2 : rowN s 0 = n1 s := rfl
  rw [e1] at f1 f2 f3 f6 f7
  unfold parR parP
  by_cases hn : iS s < 0
  · rw [if_pos hn]
    obtain ⟨g1, g2⟩ := row_dig (s := s) (a := 0) (b := s.size) (by omega) (Nat.le_refl _) (.inl rfl)
    rw [ext_whole] at g1 g2
    have g1 : digS s = true ↔ 0 < m1 s ∧ m1 s = s.size := by
      rw [g1]; show 0 < m1 s ∧ ((0 : Nat) : Int) + m1 s = s.size ↔ _
      constructor <;> rintro ⟨h1, h2⟩ <;> exact ⟨h1, by omega⟩
    by_cases h0 : m1 s = 0
    · rw [if_pos h0, if_neg (fun h => by have := g1.1 h; omega)]
    · rw [if_neg h0]
      by_cases h1 : m1 s = s.size
      · have hd := g1.2 ⟨by omega, h1⟩
        have hv : digV s = n1 s := g2 hd
        rw [if_pos h1, if_pos hd, hv]
      · rw [if_neg h1, if_pos (i1 hn _), if_neg (fun h => h1 (g1.1 h).2)]
  · rw [if_neg hn]
    obtain ⟨j1, j2⟩ := i2 (by omega)
    obtain ⟨i, ei⟩ : ∃ i : Nat, iS s = i := ⟨(iS s).toNat, by omega⟩
    have ef : fS s = s.extract 0 i := by unfold fS; rw [ei]; rfl
    have el : lS s = s.extract (i + 1) s.size := by unfold lS; rw [ei]; rfl
    rw [ei] at j1 j2 hi
    rw [show ((i : Int)).toNat = i by omega] at j1 j2
    obtain ⟨g1, g2⟩ := row_dig (s := s) (a := 0) (b := i) (by omega) (by omega) (.inr (by rw [j1]; rfl))
    obtain ⟨k1, k2⟩ := row_dig (s := s) (a := i + 1) (b := s.size) (by omega) (Nat.le_refl _) (.inl rfl)
    rw [← ef] at g1 g2
    rw [← el] at k1 k2
    have g1 : digS (fS s) = true ↔ 0 < m1 s ∧ m1 s = i := by
      rw [g1]; show 0 < m1 s ∧ ((0 : Nat) : Int) + m1 s = i ↔ _
      constructor <;> rintro ⟨h1, h2⟩ <;> exact ⟨h1, by omega⟩
    have nodig : ∀ h : 0 ≤ (i : Int), ¬ ((i : Int) < m1 s) := fun h hlt => by
      have := f6 i h hlt
      rw [show ((0 : Int) + (i : Int)).toNat = i by omega, j1] at this
      cases this
    by_cases h0 : m1 s = 0
    · rw [if_pos h0, if_neg (fun h => by have := g1.1 h.1; omega)]
    · rw [if_neg h0, if_neg (fun h => nodig (by omega) (by omega))]
      by_cases h1 : byteAt s (m1 s).toNat ≠ 46
      · rw [if_pos h1, if_neg (fun h => h1 (by rw [(g1.1 h.1).2, show ((i : Int)).toNat = i by omega]; exact j1))]
      · rw [if_neg h1]
        have hmi : m1 s = i := by
          have := nodig (by omega)
          have h1 : byteAt s (m1 s).toNat = 46 := Classical.byContradiction h1
          have : ¬ (m1 s).toNat < i := fun hlt => j2 _ hlt h1
          omega
        have hf := g1.2 ⟨by omega, hmi⟩
        have em : rowM s ((i + 1 : Nat) : Int) = m2 s := by unfold m2; rw [e1, hmi]; rfl
        have en : rowN s ((i + 1 : Nat) : Int) = n2 s := by unfold n2; rw [e1, hmi]; rfl
        rw [em] at k1
        rw [en] at k2
        have b1 := (row_facts s (a := ((i + 1 : Nat) : Int)) (by omega)).1
        rw [em] at b1
        have hvf : digV (fS s) = n1 s := g2 hf
        by_cases h2 : m2 s = 0 ∨ m1 s + 1 + m2 s ≠ s.size
        · rw [if_pos h2, if_neg (fun h => by have := k1.1 h.2; omega)]
        · have hl := k1.2 ⟨by omega, by omega⟩
          have hvl := k2 hl
          rw [if_neg h2, if_pos (show digS (fS s) = true ∧ digS (lS s) = true from ⟨hf, hl⟩), hvf, hvl, Int.mul_comm]
def C35 : FC := ⟨35, fun l => ∃ s, l = [.string s] ∧ s.size ≤ 1000, fun l => match l with | [.string s] => parV s | _ => undef, []⟩
theorem C35_good : C35.Good Tryd.prog ovn4 st0 := ⟨by kernel_rfl, fun args ⟨s, e, h⟩ => by
  subst e
  refine ⟨rfl, rfl, 1000, ?_⟩
  have := F35_all s h
  rw [parR_parP] at this
  exact this⟩
noncomputable def ovn5 : Ov := ovWith st0 [C35] [] ovn4
noncomputable def ovOn5 : OvO := ovOWith st0 [C35] [] ovOn4
theorem refn5 : OvRef ovn5 ovOn5 := ovWith_ref refn4
theorem ovn5_ok : OvOk Tryd.prog ovn5 ∧ OvMono ovn5 ∧ OvIds ovn5 :=
  ⟨ovWith_ok Tryd.checked.mixed ovn4_ok.1 ovn4_ok.2.1 ovn4_ok.2.2 ng_st0 (fun C h => by
      simp only [List.mem_cons, List.not_mem_nil, or_false] at h
      subst h; exact C35_good) (fun x h => by cases h),
   ovWith_mono ovn4_ok.2.1 (fun x h => by cases h), ovWith_ids ovn4_ok.2.2⟩
end Go.Proofs.YtgmojlibppmfhaaDoor

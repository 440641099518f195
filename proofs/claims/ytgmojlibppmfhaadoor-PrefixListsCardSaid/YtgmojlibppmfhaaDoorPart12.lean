/- Runs of the abstract interpreter, part 12: by an AI agent. -/
import Derived.Test.YtgmojlibppmfhaaDoorPart11

namespace Go.Proofs.YtgmojlibppmfhaaDoor
open Go Go.Ai
theorem tL_next {s : ByteArray} (h0 : 0 < s.size) (hd : isD (byteAt s 0) = true) : tL s.size s = tL (s.extract 1 s.size).size (s.extract 1 s.size) := by
  have e : (s.extract 1 s.size).size = s.size - 1 := by rw [ByteArray.size_extract]; omega
  rw [e]
  obtain ⟨k, hk⟩ : ∃ k, s.size = k + 1 := ⟨s.size - 1, by omega⟩
  rw [hk, tL, if_pos ⟨h0, hd⟩, hk]
  rfl
theorem tL_stop {s : ByteArray} (h : ¬ (0 < s.size ∧ isD (byteAt s 0) = true)) : tL s.size s = s := by
  cases hs : s.size with
  | zero => rfl
  | succ n => rw [tL, if_neg h]
theorem eleven {i : Nat} (h1 : 11 ≤ i) (h2 : i < 12) : i = 11 := by omega
theorem L89_good : L89.Good Tryd.prog ov0 st0 where
  keep := by kernel_rfl
  b0 := of_decide_eq_true (by kernel_rfl)
  b1 := Nat.le_refl _
  b2 := Nat.le_refl _
  outs := of_decide_eq_true (by kernel_rfl)
  head := fun s _ => ⟨by kernel_rfl, fun i h1 h2 => by obtain rfl := eleven h1 h2; rfl⟩
  tail := fun s _ => ⟨by kernel_rfl, by kernel_rfl⟩
  ok := ⟨fun (s : ByteArray) => s.size, fun (s : ByteArray) (hs : s.size ≤ 9223372036854775807) => by
    have r := byteAt_range s 0
    by_cases h0 : 0 < s.size
    · obtain ⟨d1, d2⟩ := dig_at (b := byteAt s 0) r.1 (by omega)
      by_cases hd : isD (byteAt s 0) = true
      · obtain ⟨tmO, st', g1, g2, g3⟩ := R89_0 s ⟨decide_eq_true (by omega), by rw [d2, hd]; rfl, d1, decide_eq_true (by omega), decide_eq_true (by omega), decide_eq_true (by omega), trivial⟩
        have g3 := map_one g3
        refine ⟨1000, .normal, tmO, st', g1, .inl ⟨rfl, s.extract 1 s.size, [(11, .id 11)], _, g2, ?_, ?_, ⟨rfl, ?_, rfl⟩, ⟨⟨⟨true, ?_, fun _ => rfl⟩, trivial⟩, ⟨.inl ⟨rfl, rfl⟩, .inl ⟨by kernel_rfl, by kernel_rfl⟩, trivial⟩, by kernel_rfl⟩, fun i h1 h2 => by obtain rfl := eleven h1 h2; rfl⟩⟩
        · show (s.extract 1 s.size).size ≤ _
          rw [ByteArray.size_extract]; omega
        · show (s.extract 1 s.size).size < s.size
          rw [ByteArray.size_extract]; omega
        · show [Value.string _] = [Value.string _]
          rw [← tL_next h0 hd]
        · rw [g3]; kernel_rfl
      · obtain ⟨tmO, st', g1, g2, g3⟩ := R89_2 s ⟨by rw [d2]; simp [hd], d1, decide_eq_true (by omega), decide_eq_true (by omega), decide_eq_true (by omega), trivial⟩
        refine ⟨1000, .exit 0, tmO, st', g1, .inr ⟨(by intro h; cases h), rfl, [], ?_, ⟨?_, trivial⟩, by kernel_rfl⟩⟩
        · rw [show (L89.rv s) = [.string s] from by show [Value.string _] = _; rw [tL_stop (by simp [hd])]]; exact g2
        · rw [show tauB L89.s0 [] 11 = 11 from rfl, map_one g3]; kernel_rfl
    · obtain ⟨tmO, st', g1, g2, g3⟩ := R89_1 s ⟨decide_eq_false (by omega), trivial⟩
      refine ⟨1000, .exit 0, tmO, st', g1, .inr ⟨(by intro h; cases h), rfl, [], ?_, ⟨?_, trivial⟩, by kernel_rfl⟩⟩
      · rw [show (L89.rv s) = [.string s] from by show [Value.string _] = _; rw [tL_stop (by simp [h0])]]; exact g2
      · rw [show tauB L89.s0 [] 11 = 11 from rfl, map_one g3]; kernel_rfl⟩
theorem dB_at {s : ByteArray} {i : Nat} (h : i < s.size) : (s.data.toList.map fun b => Value.int .u8 b.toNat)[0 + (i : Int).toNat * 1]? = some (Value.int .u8 (dB s i)) ∧ dB s i = byteAt s i := by
  have e : 0 + (i : Int).toNat * 1 = i := by omega
  have hl : i < s.data.toList.length := h
  have h1 : (s.data.toList.map fun b => Value.int .u8 b.toNat)[i]? = some (Value.int .u8 (s.data.toList[i]).toNat) := by
    rw [List.getElem?_map, List.getElem?_eq_getElem hl]; rfl
  have h2 : dB s i = ((s.data.toList[i]).toNat : Int) := by
    unfold dB intAt; rw [e, h1]
  refine ⟨by rw [e, h1, h2], ?_⟩
  rw [h2]; unfold byteAt; rw [List.getElem?_eq_getElem hl]
theorem rowB_back (s : ByteArray) : (⟨⟨(s.data.toList.map fun b => Value.int .u8 b.toNat).map toU8⟩⟩ : ByteArray) = s := by
  have : (s.data.toList.map fun b => Value.int .u8 b.toNat).map toU8 = s.data.toList := by
    rw [List.map_map]
    conv => rhs; rw [← List.map_id s.data.toList]
    refine List.map_congr_left fun b _ => ?_
    simp [toU8]
  rw [this]
theorem renL_row (σ : Nat → Nat) (l : List UInt8) : renL σ (l.map fun b => Value.int .u8 b.toNat) = l.map fun b => Value.int .u8 b.toNat := by
  rw [renL_map, List.map_map]
  refine List.map_congr_left fun b _ => ?_
  simp [ren]
theorem renO_rowB (σ : Nat → Nat) (s : ByteArray) : reWr true (renO σ (rowB s)) = rowB s := by
  show AObj.row 5 (renL σ _) true true = AObj.row 5 _ true true
  rw [renL_row]
theorem inIds_row (p : Nat → Bool) (l : List UInt8) : inIdsL p (l.map fun b => Value.int .u8 b.toNat) = true := by
  induction l with
  | nil => rfl
  | cons b l ih => simp [inIdsL, inIds, ih]
theorem valN_next {s : ByteArray} {i : Nat} {n : Int} (h : i < s.size) : valN s (s.size - i) i n = valN s (s.size - (i + 1)) (i + 1) (n * 10 + (byteAt s i - 48)) := by
  rw [show s.size - i = (s.size - (i + 1)) + 1 by omega, valN]
theorem L99_good : L99.Good Tryd.prog ov0 st0 where
  keep := by kernel_rfl
  b0 := of_decide_eq_true (by kernel_rfl)
  b1 := Nat.le_refl _
  b2 := Nat.le_refl _
  outs := of_decide_eq_true (by kernel_rfl)
  head := fun x _ => ⟨by
    show (true && rowIn _ (rowB x.1) && true) = true
    rw [show rowIn _ (rowB x.1) = true from inIds_row _ _]; rfl, fun i h1 h2 => by obtain rfl := eleven h1 h2; rfl⟩
  tail := fun x _ => ⟨by
    show (true && rowIn _ (rowB x.1) && true) = true
    rw [show rowIn _ (rowB x.1) = true from inIds_row _ _]; rfl, by kernel_rfl⟩
  ok := ⟨fun (x : ByteArray × Nat × Int) => x.1.size - x.2.1, fun (x : ByteArray × Nat × Int) ⟨h1, h2, h3, h4, h5⟩ => by
    obtain ⟨s, i, n⟩ := x
    simp only at h1 h2 h3 h4 h5
    by_cases hi : i < s.size
    · obtain ⟨d1, d2⟩ := dB_at hi
      have hd := of_decide_eq_true (h1 i hi)
      have hp := Nat.pow_le_pow_right (show 0 < 10 by omega) (show i ≤ 9 by omega)
      have hs := Nat.pow_succ 10 i
      obtain ⟨tmO, st', g1, g2, g3⟩ := R99_0 s i n (by
        unfold R99_a0
        repeat' apply And.intro
        all_goals first | exact decide_eq_true (by omega) | exact decide_eq_false (by omega) | exact beq_eq_false_iff_ne.2 (by omega) | exact d1 | trivial)
      have g3 := map_one g3
      refine ⟨1000, .normal, tmO, st', g1, .inl ⟨rfl, (s, i + 1, n * 10 + (dB s i - 48)), [(11, .id 11)], _, g2, ⟨h1, h2, hi, ?_, ?_⟩, ?_, ⟨rfl, ?_, rfl⟩, ⟨⟨⟨true, ?_, fun _ => rfl⟩, trivial⟩, ?_, by kernel_rfl⟩, fun i h1 h2 => by obtain rfl := eleven h1 h2; rfl⟩⟩
      · show 0 ≤ n * 10 + (dB s i - 48); omega
      · show n * 10 + (dB s i - 48) < ((10 ^ (i + 1) : Nat) : Int); rw [hs]; omega
      · show s.size - (i + 1) < s.size - i; omega
      · show [Value.bool false, Value.int .u64 (valN s (s.size - (i + 1)) (i + 1) (n * 10 + (dB s i - 48)))] = [Value.bool false, Value.int .u64 (valN s (s.size - i) i n)]
        rw [valN_next hi, d2]
      · rw [g3, renO_rowB]
      · exact ⟨.inl ⟨rfl, rfl⟩, .inl ⟨rfl, rfl⟩, .inl ⟨rfl, rfl⟩, .inl ⟨rfl, rfl⟩, .inl ⟨rfl, rfl⟩, .inl ⟨rfl, rfl⟩, .inl ⟨by kernel_rfl, by kernel_rfl⟩, .inl ⟨rfl, rfl⟩, .inl ⟨by rfl, rfl⟩, trivial⟩
    · obtain ⟨tmO, st', g1, g2, g3⟩ := R99_1 s i n ⟨decide_eq_false (by omega), trivial⟩
      refine ⟨1000, .exit 3, tmO, st', g1, .inr ⟨(by intro h; cases h), rfl, [], ?_, ⟨?_, trivial⟩, by kernel_rfl⟩⟩
      · rw [show L99.rv (s, i, n) = [.bool false, .int .u64 n] from by
          show [Value.bool false, Value.int .u64 (valN s (s.size - i) i n)] = _
          rw [show s.size - i = 0 by omega]; rfl]
        exact g2
      · rw [show tauB L99.s0 [] 11 = 11 from rfl, map_one g3]
        show some (rowB s) = some (renO _ (rowB s))
        rw [show renO _ (rowB s) = rowB s from renO_rowB _ s]⟩
end Go.Proofs.YtgmojlibppmfhaaDoor

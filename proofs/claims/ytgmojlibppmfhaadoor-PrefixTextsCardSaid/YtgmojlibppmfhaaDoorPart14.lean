/- Runs of the abstract interpreter, part 14: by an AI agent. -/
import Derived.Test.YtgmojlibppmfhaaDoorPart13

namespace Go.Proofs.YtgmojlibppmfhaaDoor
open Go Go.Ai
def R93_a0 (s : ByteArray) (i : Nat) (n : Int) : List Prop := [(decide ((-9223372036854775808 : Int) ≤ (i : Int) + (1 : Int) ∧ (i : Int) + (1 : Int) ≤ (9223372036854775807 : Int))) = true, (decide ((-9223372036854775808 : Int) ≤ n * (10 : Int) + (dB s i - (48 : Int)) ∧ n * (10 : Int) + (dB s i - (48 : Int)) ≤ (9223372036854775807 : Int))) = true, (decide ((-9223372036854775808 : Int) ≤ dB s i - (48 : Int) ∧ dB s i - (48 : Int) ≤ (9223372036854775807 : Int))) = true, (decide ((-9223372036854775808 : Int) ≤ n * (10 : Int) ∧ n * (10 : Int) ≤ (9223372036854775807 : Int))) = true, (decide (dB s i - (48 : Int) > (9 : Int))) = false, (decide ((0 : Int) ≤ dB s i - (48 : Int) ∧ dB s i - (48 : Int) ≤ (255 : Int))) = true, (s.data.toList.map fun b => Value.int .u8 b.toNat)[0 + (i : Int).toNat * 1]? = some (Value.int .u8 (dB s i)), (decide ((0 : Int) ≤ (i : Int) ∧ (i : Int) < (s.size : Int))) = true, (decide ((i : Int) < (s.size : Int))) = true]
theorem R93_0 (s : ByteArray) (i : Nat) (n : Int) (h : Holds (R93_a0 s i n)) :
    ∃ tmO st', (∀ tm2, Sub (putT L93.keys (L93.hv (s, i, n)) .nil) tm2 → ∃ tm2', run (Cx.of Tryd.prog) ovn2 1000 L93.c L93.nt tm2 ⟨over0 (keepIds st0.hp L93.ids) (L93.ho (s, i, n)), L93.n0⟩ = some (.normal, tm2', st') ∧ Sub tmO tm2') ∧ readT tmO (ksOf L93.keys L93.outs .normal) = some [Value.int IntKind.i64 (n * (10 : Int) + (dB s i - (48 : Int))), Value.slice (some { block := (11 : Nat), off := (0 : Nat) }) s.size (1267650600228229401496703205376 : Nat), Value.int IntKind.i64 (s.size : Int), Value.int IntKind.i64 ((i : Int) + (1 : Int))] ∧ [11].map st'.hp.get = [some (rowB s)] :=
  path_round refn2 (toks := [.yes, .yes, .yes, .yes, .no, .yes, .yes, .yes, .yes]) (by kernel_rfl) h
def R93_a1 (s : ByteArray) (i : Nat) (n : Int) : List Prop := [(decide ((i : Int) < (s.size : Int))) = false]
theorem R93_1 (s : ByteArray) (i : Nat) (n : Int) (h : Holds (R93_a1 s i n)) :
    ∃ tmO st', (∀ tm2, Sub (putT L93.keys (L93.hv (s, i, n)) .nil) tm2 → ∃ tm2', run (Cx.of Tryd.prog) ovn2 1000 L93.c L93.nt tm2 ⟨over0 (keepIds st0.hp L93.ids) (L93.ho (s, i, n)), L93.n0⟩ = some ((.exit (0 : Nat)), tm2', st') ∧ Sub tmO tm2') ∧ readT tmO (ksOf L93.keys L93.outs (.exit (0 : Nat))) = some [Value.int IntKind.i64 n] ∧ [11].map st'.hp.get = [some (rowB s)] :=
  path_round refn2 (toks := [.no]) (by kernel_rfl) h
theorem L93_good : L93.Good Tryd.prog ovn2 st0 where
  keep := by kernel_rfl
  b0 := of_decide_eq_true (by kernel_rfl)
  b1 := Nat.le_refl _
  b2 := Nat.le_refl _
  outs := of_decide_eq_true (by kernel_rfl)
  head := fun x _ => ⟨by
    show (true && rowIn _ (rowB x.1) && true) = true
    rw [show rowIn _ (rowB x.1) = true from inIds_row _ _]; rfl, fun i h1 h2 => by obtain rfl := eleven h1 h2; rfl⟩
  tail := fun x _ => ⟨by
    show (true && rowIn _ (rowB x.1) && true) = true
    rw [show rowIn _ (rowB x.1) = true from inIds_row _ _]; rfl, by kernel_rfl⟩
  ok := ⟨fun (x : ByteArray × Nat × Int) => x.1.size - x.2.1, fun (x : ByteArray × Nat × Int) ⟨h1, h2, h3, h4, h5⟩ => by
    obtain ⟨s, i, n⟩ := x
    simp only at h1 h2 h3 h4 h5
    by_cases hi : i < s.size
    · obtain ⟨d1, d2⟩ := dB_at hi
      have hd := of_decide_eq_true (h1 i hi)
      have hp := Nat.pow_le_pow_right (show 0 < 10 by omega) (show i ≤ 9 by omega)
      have hs := Nat.pow_succ 10 i
      obtain ⟨tmO, st', g1, g2, g3⟩ := R93_0 s i n (by
        unfold R93_a0
        repeat' apply And.intro
        all_goals first | exact decide_eq_true (by omega) | exact decide_eq_false (by omega) | exact beq_eq_false_iff_ne.2 (by omega) | exact d1 | trivial)
      have g3 := map_one g3
      refine ⟨1000, .normal, tmO, st', g1, .inl ⟨rfl, (s, i + 1, n * 10 + (dB s i - 48)), [(11, .id 11)], _, g2, ⟨h1, h2, hi, ?_, ?_⟩, ?_, ⟨rfl, ?_, rfl⟩, ⟨⟨⟨true, ?_, fun _ => rfl⟩, trivial⟩, ?_, by kernel_rfl⟩, fun i h1 h2 => by obtain rfl := eleven h1 h2; rfl⟩⟩
      · show 0 ≤ n * 10 + (dB s i - 48); omega
      · show n * 10 + (dB s i - 48) < ((10 ^ (i + 1) : Nat) : Int); rw [hs]; omega
      · show s.size - (i + 1) < s.size - i; omega
      · show [Value.int .i64 (valN s (s.size - (i + 1)) (i + 1) (n * 10 + (dB s i - 48)))] = [Value.int .i64 (valN s (s.size - i) i n)]
        rw [valN_next hi, d2]
      · rw [g3, renO_rowB]
      · exact ⟨.inl ⟨rfl, rfl⟩, .inl ⟨by kernel_rfl, by kernel_rfl⟩, .inl ⟨rfl, rfl⟩, .inl ⟨by rfl, rfl⟩, trivial⟩
    · obtain ⟨tmO, st', g1, g2, g3⟩ := R93_1 s i n ⟨decide_eq_false (by omega), trivial⟩
      refine ⟨1000, .exit 0, tmO, st', g1, .inr ⟨(by intro h; cases h), rfl, [], ?_, ⟨?_, trivial⟩, by kernel_rfl⟩⟩
      · rw [show L93.rv (s, i, n) = [.int .i64 n] from by
          show [Value.int .i64 (valN s (s.size - i) i n)] = _
          rw [show s.size - i = 0 by omega]; rfl]
        exact g2
      · rw [show tauB L93.s0 [] 11 = 11 from rfl, map_one g3]
        show some (rowB s) = some (renO _ (rowB s))
        rw [show renO _ (rowB s) = rowB s from renO_rowB _ s]⟩
end Go.Proofs.YtgmojlibppmfhaaDoor

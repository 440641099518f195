/- Runs of the abstract interpreter, part 18: by an AI agent. -/
import Derived.Test.YtgmojlibppmfhaaDoorPart17

namespace Go.Proofs.YtgmojlibppmfhaaDoor
open Go Go.Ai
def A66_0 (s : ByteArray) (a n m : Int) : List Prop := [(decide ((-9223372036854775808 : Int) ≤ m + (1 : Int) ∧ m + (1 : Int) ≤ (9223372036854775807 : Int))) = true, (decide ((-9223372036854775808 : Int) ≤ (10 : Int) * n + (byteAt s (a + m).toNat - (48 : Int)) ∧ (10 : Int) * n + (byteAt s (a + m).toNat - (48 : Int)) ≤ (9223372036854775807 : Int))) = true, (decide ((-9223372036854775808 : Int) ≤ byteAt s (a + m).toNat - (48 : Int) ∧ byteAt s (a + m).toNat - (48 : Int) ≤ (9223372036854775807 : Int))) = true, (decide ((0 : Int) ≤ byteAt s (a + m).toNat - (48 : Int) ∧ byteAt s (a + m).toNat - (48 : Int) ≤ (255 : Int))) = true, (decide ((0 : Int) ≤ a + m ∧ a + m < (s.size : Int))) = true, (decide ((-9223372036854775808 : Int) ≤ a + m ∧ a + m ≤ (9223372036854775807 : Int))) = true, (decide ((-9223372036854775808 : Int) ≤ (10 : Int) * n ∧ (10 : Int) * n ≤ (9223372036854775807 : Int))) = true, (decide (byteAt s (a + m).toNat ≤ (57 : Int))) = true, (decide (byteAt s (a + m).toNat ≥ (48 : Int))) = true, (decide (byteAt s (a + m).toNat ≥ (48 : Int))) = true, (decide ((0 : Int) ≤ a + m ∧ a + m < (s.size : Int))) = true, (decide (byteAt s (a + m).toNat ≥ (48 : Int))) = true, (decide ((-9223372036854775808 : Int) ≤ a + m ∧ a + m ≤ (9223372036854775807 : Int))) = true, (decide (byteAt s (a + m).toNat ≥ (48 : Int))) = true, (decide (byteAt s (a + m).toNat ≥ (48 : Int))) = true, (decide (byteAt s (a + m).toNat ≥ (48 : Int))) = true, (decide (byteAt s (a + m).toNat ≥ (48 : Int))) = true, (decide (m < (11 : Int))) = true, (decide (m < (11 : Int))) = true, (decide ((0 : Int) ≤ a + m ∧ a + m < (s.size : Int))) = true, (decide (m < (11 : Int))) = true, (decide ((-9223372036854775808 : Int) ≤ a + m ∧ a + m ≤ (9223372036854775807 : Int))) = true, (decide (m < (11 : Int))) = true, (decide (m < (11 : Int))) = true, (decide (m < (11 : Int))) = true, (decide (m < (11 : Int))) = true, (decide (a + m < (s.size : Int))) = true, (decide (a + m < (s.size : Int))) = true, (decide (a + m < (s.size : Int))) = true, (decide ((-9223372036854775808 : Int) ≤ a + m ∧ a + m ≤ (9223372036854775807 : Int))) = true]
theorem R66_0 (s : ByteArray) (a n m : Int) (h : Holds (A66_0 s a n m)) :
    ∃ k ex tmO st', (∀ tm2, Sub (putT L66.keys [.string s, .int .i64 a, .int .i64 n, .int .i64 m] .nil) tm2 → ∃ tm2', run (Cx.of Tryd.prog) ovn2 k L66.c L66.nt tm2 ⟨keepIds st0.hp L66.ids, st0.ct⟩ = some (ex, tm2', st') ∧ Sub tmO tm2') ∧ ex = .normal ∧ readT tmO L66.keys = some [Value.string s, Value.int IntKind.i64 a, Value.int IntKind.i64 ((10 : Int) * n + (byteAt s (a + m).toNat - (48 : Int))), Value.int IntKind.i64 (m + (1 : Int))] :=
  path_next refn2 (n := 1000) (outs := L66.outs) (toks := [.yes, .yes, .yes, .yes, .yes, .yes, .yes, .yes, .yes, .yes, .yes, .yes, .yes, .yes, .yes, .yes, .yes, .yes, .yes, .yes, .yes, .yes, .yes, .yes, .yes, .yes, .yes, .yes, .yes, .yes]) (by kernel_rfl) h
def A66_1 (s : ByteArray) (a n m : Int) : List Prop := [(decide (a + m < (s.size : Int))) = false, (decide (a + m < (s.size : Int))) = false, (decide (a + m < (s.size : Int))) = false, (decide ((-9223372036854775808 : Int) ≤ a + m ∧ a + m ≤ (9223372036854775807 : Int))) = true]
theorem R66_1 (s : ByteArray) (a n m : Int) (h : Holds (A66_1 s a n m)) :
    ∃ k ex tmO st', (∀ tm2, Sub (putT L66.keys [.string s, .int .i64 a, .int .i64 n, .int .i64 m] .nil) tm2 → ∃ tm2', run (Cx.of Tryd.prog) ovn2 k L66.c L66.nt tm2 ⟨keepIds st0.hp L66.ids, st0.ct⟩ = some (ex, tm2', st') ∧ Sub tmO tm2') ∧ ex = .exit 0 ∧ readT tmO L66.outs = some [Value.int IntKind.i64 n, Value.int IntKind.i64 m] :=
  path_exit refn2 (n := 1000) (keys := L66.keys) (toks := [.yes, .no, .no, .no, .ev, .ev, .ev, .ev, .ev, .ev, .ev, .ev, .ev, .ev, .ev, .ev, .ev, .ev, .ev]) (by intro h; cases h) (by kernel_rfl) h
def A66_2 (s : ByteArray) (a n m : Int) : List Prop := [(decide (m < (11 : Int))) = false, (decide (m < (11 : Int))) = false, (decide (m < (11 : Int))) = false, (decide (m < (11 : Int))) = false, (decide (m < (11 : Int))) = false, (decide (m < (11 : Int))) = false, (decide (m < (11 : Int))) = false, (decide (a + m < (s.size : Int))) = true, (decide (a + m < (s.size : Int))) = true, (decide (a + m < (s.size : Int))) = true, (decide ((-9223372036854775808 : Int) ≤ a + m ∧ a + m ≤ (9223372036854775807 : Int))) = true]
theorem R66_2 (s : ByteArray) (a n m : Int) (h : Holds (A66_2 s a n m)) :
    ∃ k ex tmO st', (∀ tm2, Sub (putT L66.keys [.string s, .int .i64 a, .int .i64 n, .int .i64 m] .nil) tm2 → ∃ tm2', run (Cx.of Tryd.prog) ovn2 k L66.c L66.nt tm2 ⟨keepIds st0.hp L66.ids, st0.ct⟩ = some (ex, tm2', st') ∧ Sub tmO tm2') ∧ ex = .exit 0 ∧ readT tmO L66.outs = some [Value.int IntKind.i64 n, Value.int IntKind.i64 m] :=
  path_exit refn2 (n := 1000) (keys := L66.keys) (toks := [.yes, .yes, .yes, .yes, .no, .no, .no, .no, .no, .no, .no, .ev, .ev, .ev, .ev, .ev, .ev, .ev, .ev]) (by intro h; cases h) (by kernel_rfl) h
def A66_3 (s : ByteArray) (a n m : Int) : List Prop := [(decide (byteAt s (a + m).toNat ≥ (48 : Int))) = false, (decide (byteAt s (a + m).toNat ≥ (48 : Int))) = false, (decide (byteAt s (a + m).toNat ≥ (48 : Int))) = false, (decide (byteAt s (a + m).toNat ≥ (48 : Int))) = false, (decide (byteAt s (a + m).toNat ≥ (48 : Int))) = false, (decide (byteAt s (a + m).toNat ≥ (48 : Int))) = false, (decide (byteAt s (a + m).toNat ≥ (48 : Int))) = false, (decide (m < (11 : Int))) = true, (decide (m < (11 : Int))) = true, (decide ((0 : Int) ≤ a + m ∧ a + m < (s.size : Int))) = true, (decide (m < (11 : Int))) = true, (decide ((-9223372036854775808 : Int) ≤ a + m ∧ a + m ≤ (9223372036854775807 : Int))) = true, (decide (m < (11 : Int))) = true, (decide (m < (11 : Int))) = true, (decide (m < (11 : Int))) = true, (decide (m < (11 : Int))) = true, (decide (a + m < (s.size : Int))) = true, (decide (a + m < (s.size : Int))) = true, (decide (a + m < (s.size : Int))) = true, (decide ((-9223372036854775808 : Int) ≤ a + m ∧ a + m ≤ (9223372036854775807 : Int))) = true]
theorem R66_3 (s : ByteArray) (a n m : Int) (h : Holds (A66_3 s a n m)) :
    ∃ k ex tmO st', (∀ tm2, Sub (putT L66.keys [.string s, .int .i64 a, .int .i64 n, .int .i64 m] .nil) tm2 → ∃ tm2', run (Cx.of Tryd.prog) ovn2 k L66.c L66.nt tm2 ⟨keepIds st0.hp L66.ids, st0.ct⟩ = some (ex, tm2', st') ∧ Sub tmO tm2') ∧ ex = .exit 0 ∧ readT tmO L66.outs = some [Value.int IntKind.i64 n, Value.int IntKind.i64 m] :=
  path_exit refn2 (n := 1000) (keys := L66.keys) (toks := [.yes, .yes, .yes, .yes, .yes, .yes, .yes, .yes, .yes, .yes, .yes, .yes, .yes, .no, .no, .no, .no, .no, .no, .no, .ev]) (by intro h; cases h) (by kernel_rfl) h
def A66_4 (s : ByteArray) (a n m : Int) : List Prop := [(decide (byteAt s (a + m).toNat ≤ (57 : Int))) = false, (decide (byteAt s (a + m).toNat ≥ (48 : Int))) = true, (decide (byteAt s (a + m).toNat ≥ (48 : Int))) = true, (decide ((0 : Int) ≤ a + m ∧ a + m < (s.size : Int))) = true, (decide (byteAt s (a + m).toNat ≥ (48 : Int))) = true, (decide ((-9223372036854775808 : Int) ≤ a + m ∧ a + m ≤ (9223372036854775807 : Int))) = true, (decide (byteAt s (a + m).toNat ≥ (48 : Int))) = true, (decide (byteAt s (a + m).toNat ≥ (48 : Int))) = true, (decide (byteAt s (a + m).toNat ≥ (48 : Int))) = true, (decide (byteAt s (a + m).toNat ≥ (48 : Int))) = true, (decide (m < (11 : Int))) = true, (decide (m < (11 : Int))) = true, (decide ((0 : Int) ≤ a + m ∧ a + m < (s.size : Int))) = true, (decide (m < (11 : Int))) = true, (decide ((-9223372036854775808 : Int) ≤ a + m ∧ a + m ≤ (9223372036854775807 : Int))) = true, (decide (m < (11 : Int))) = true, (decide (m < (11 : Int))) = true, (decide (m < (11 : Int))) = true, (decide (m < (11 : Int))) = true, (decide (a + m < (s.size : Int))) = true, (decide (a + m < (s.size : Int))) = true, (decide (a + m < (s.size : Int))) = true, (decide ((-9223372036854775808 : Int) ≤ a + m ∧ a + m ≤ (9223372036854775807 : Int))) = true]
theorem R66_4 (s : ByteArray) (a n m : Int) (h : Holds (A66_4 s a n m)) :
    ∃ k ex tmO st', (∀ tm2, Sub (putT L66.keys [.string s, .int .i64 a, .int .i64 n, .int .i64 m] .nil) tm2 → ∃ tm2', run (Cx.of Tryd.prog) ovn2 k L66.c L66.nt tm2 ⟨keepIds st0.hp L66.ids, st0.ct⟩ = some (ex, tm2', st') ∧ Sub tmO tm2') ∧ ex = .exit 0 ∧ readT tmO L66.outs = some [Value.int IntKind.i64 n, Value.int IntKind.i64 m] :=
  path_exit refn2 (n := 1000) (keys := L66.keys) (toks := [.yes, .yes, .yes, .yes, .yes, .yes, .yes, .yes, .yes, .yes, .yes, .yes, .yes, .yes, .yes, .yes, .yes, .yes, .yes, .yes, .yes, .yes, .no]) (by intro h; cases h) (by kernel_rfl) h
theorem rowR_in {s : ByteArray} {a n m : Int} (h0 : 0 ≤ m) (h1 : m < 11) (h2 : a + m < s.size) (h3 : isD (byteAt s (a + m).toNat) = true) :
    rowR s a (11 - m).toNat n m = rowR s a (11 - (m + 1)).toNat (10 * n + (byteAt s (a + m).toNat - 48)) (m + 1) := by
  rw [show (11 - m).toNat = (11 - (m + 1)).toNat + 1 by omega, rowR, if_pos ⟨h2, h3⟩]
theorem rowR_out {s : ByteArray} {a n m : Int} (h : ¬ (m < 11 ∧ a + m < s.size ∧ isD (byteAt s (a + m).toNat) = true)) (h1 : m ≤ 11) :
    rowR s a (11 - m).toNat n m = (n, m) := by
  cases hk : (11 - m).toNat with
  | zero => rfl
  | succ k => rw [rowR, if_neg (fun g => h ⟨by omega, g.1, g.2⟩)]
theorem L66_good : L66.Good Tryd.prog ovn2 st0 where
  keep := by kernel_rfl
  outs := of_decide_eq_true (by kernel_rfl)
  ok := ⟨fun l => match l with | [_, _, _, .int _ m] => (11 - m).toNat | _ => 0, fun vs ⟨s, a, n, m, e, hs, ha0, ha1, hm0, hm1, hn0, hn1⟩ => by
    subst e
    refine ⟨rfl, rfl, rfl, ?_⟩
    have r := byteAt_range s (a + m).toNat
    have hp := Nat.pow_le_pow_right (show 0 < 10 by omega) (show m.toNat ≤ 11 by omega)
    have hq : (10 ^ 11 : Nat) = 100000000000 := by decide
    rw [hq] at hp
    by_cases h2 : a + m < s.size
    · by_cases h1 : m < 11
      · by_cases h48 : 48 ≤ byteAt s (a + m).toNat
        · by_cases h57 : byteAt s (a + m).toNat ≤ 57
          · have hp1 := Nat.pow_le_pow_right (show 0 < 10 by omega) (show m.toNat ≤ 10 by omega)
            have hq1 : (10 ^ 10 : Nat) = 10000000000 := by decide
            rw [hq1] at hp1
            have hs1 := Nat.pow_succ 10 m.toNat
            have hd : isD (byteAt s (a + m).toNat) = true := decide_eq_true ⟨h48, h57⟩
            obtain ⟨k, ex, tmO, st', g1, g2, g3⟩ := R66_0 s a n m ⟨decide_eq_true (by omega), decide_eq_true (by omega), decide_eq_true (by omega), decide_eq_true (by omega), decide_eq_true (by omega), decide_eq_true (by omega), decide_eq_true (by omega), decide_eq_true (by omega), decide_eq_true (by omega), decide_eq_true (by omega), decide_eq_true (by omega), decide_eq_true (by omega), decide_eq_true (by omega), decide_eq_true (by omega), decide_eq_true (by omega), decide_eq_true (by omega), decide_eq_true (by omega), decide_eq_true (by omega), decide_eq_true (by omega), decide_eq_true (by omega), decide_eq_true (by omega), decide_eq_true (by omega), decide_eq_true (by omega), decide_eq_true (by omega), decide_eq_true (by omega), decide_eq_true (by omega), decide_eq_true (by omega), decide_eq_true (by omega), decide_eq_true (by omega), decide_eq_true (by omega), trivial⟩
            refine ⟨k, ex, tmO, st', g1, Or.inl ⟨g2, _, g3, ⟨_, _, _, _, rfl, hs, ha0, ha1, by omega, by omega, by omega, ?_⟩, ?_, ?_⟩⟩
            · rw [show (m + 1).toNat = m.toNat + 1 by omega, hs1]; omega
            · show (11 - (m + 1)).toNat < (11 - m).toNat; omega
            · show (Ex.exit 0, [Value.int .i64 (rowR s a (11 - (m + 1)).toNat (10 * n + (byteAt s (a + m).toNat - 48)) (m + 1)).1, Value.int .i64 (rowR s a (11 - (m + 1)).toNat (10 * n + (byteAt s (a + m).toNat - 48)) (m + 1)).2]) = (Ex.exit 0, [Value.int .i64 (rowR s a (11 - m).toNat n m).1, Value.int .i64 (rowR s a (11 - m).toNat n m).2])
              rw [rowR_in hm0 h1 h2 hd]
          · have hr := rowR_out (s := s) (a := a) (n := n) (m := m) (fun g => by have := of_decide_eq_true g.2.2; omega) hm1
            obtain ⟨k, ex, tmO, st', g1, g2, g3⟩ := R66_4 s a n m ⟨decide_eq_false (by omega), decide_eq_true (by omega), decide_eq_true (by omega), decide_eq_true (by omega), decide_eq_true (by omega), decide_eq_true (by omega), decide_eq_true (by omega), decide_eq_true (by omega), decide_eq_true (by omega), decide_eq_true (by omega), decide_eq_true (by omega), decide_eq_true (by omega), decide_eq_true (by omega), decide_eq_true (by omega), decide_eq_true (by omega), decide_eq_true (by omega), decide_eq_true (by omega), decide_eq_true (by omega), decide_eq_true (by omega), decide_eq_true (by omega), decide_eq_true (by omega), decide_eq_true (by omega), decide_eq_true (by omega), trivial⟩
            exact ⟨k, ex, tmO, st', g1, Or.inr ⟨(by rw [g2]; intro h; cases h), g2, by rw [g3]; show _ = some [Value.int .i64 (rowR s a (11 - m).toNat n m).1, Value.int .i64 (rowR s a (11 - m).toNat n m).2]; rw [hr]⟩⟩
        · have hr := rowR_out (s := s) (a := a) (n := n) (m := m) (fun g => by have := of_decide_eq_true g.2.2; omega) hm1
          obtain ⟨k, ex, tmO, st', g1, g2, g3⟩ := R66_3 s a n m ⟨decide_eq_false (by omega), decide_eq_false (by omega), decide_eq_false (by omega), decide_eq_false (by omega), decide_eq_false (by omega), decide_eq_false (by omega), decide_eq_false (by omega), decide_eq_true (by omega), decide_eq_true (by omega), decide_eq_true (by omega), decide_eq_true (by omega), decide_eq_true (by omega), decide_eq_true (by omega), decide_eq_true (by omega), decide_eq_true (by omega), decide_eq_true (by omega), decide_eq_true (by omega), decide_eq_true (by omega), decide_eq_true (by omega), decide_eq_true (by omega), trivial⟩
          exact ⟨k, ex, tmO, st', g1, Or.inr ⟨(by rw [g2]; intro h; cases h), g2, by rw [g3]; show _ = some [Value.int .i64 (rowR s a (11 - m).toNat n m).1, Value.int .i64 (rowR s a (11 - m).toNat n m).2]; rw [hr]⟩⟩
      · have hr := rowR_out (s := s) (a := a) (n := n) (m := m) (fun g => h1 g.1) hm1
        obtain ⟨k, ex, tmO, st', g1, g2, g3⟩ := R66_2 s a n m ⟨decide_eq_false (by omega), decide_eq_false (by omega), decide_eq_false (by omega), decide_eq_false (by omega), decide_eq_false (by omega), decide_eq_false (by omega), decide_eq_false (by omega), decide_eq_true (by omega), decide_eq_true (by omega), decide_eq_true (by omega), decide_eq_true (by omega), trivial⟩
        exact ⟨k, ex, tmO, st', g1, Or.inr ⟨(by rw [g2]; intro h; cases h), g2, by rw [g3]; show _ = some [Value.int .i64 (rowR s a (11 - m).toNat n m).1, Value.int .i64 (rowR s a (11 - m).toNat n m).2]; rw [hr]⟩⟩
    · have hr := rowR_out (s := s) (a := a) (n := n) (m := m) (fun g => h2 g.2.1) hm1
      obtain ⟨k, ex, tmO, st', g1, g2, g3⟩ := R66_1 s a n m ⟨decide_eq_false (by omega), decide_eq_false (by omega), decide_eq_false (by omega), decide_eq_true (by omega), trivial⟩
      exact ⟨k, ex, tmO, st', g1, Or.inr ⟨(by rw [g2]; intro h; cases h), g2, by rw [g3]; show _ = some [Value.int .i64 (rowR s a (11 - m).toNat n m).1, Value.int .i64 (rowR s a (11 - m).toNat n m).2]; rw [hr]⟩⟩⟩
noncomputable def ovn3 : Ov := ovWith st0 [C34] [(Go.Ai.keyOf c66 1, L66)] ovn2
noncomputable def ovOn3 : OvO := ovOWith st0 [C34] [(Go.Ai.keyOf c66 1, L66)] ovOn2
theorem refn3 : OvRef ovn3 ovOn3 := ovWith_ref refn2
theorem ovn3_ok : OvOk Tryd.prog ovn3 ∧ OvMono ovn3 ∧ OvIds ovn3 :=
  ⟨ovWith_ok Tryd.checked.mixed ovn2_ok.1 ovn2_ok.2.1 ovn2_ok.2.2 ng_st0 (fun C h => by
      simp only [List.mem_cons, List.not_mem_nil, or_false] at h
      subst h; exact C34_good) (fun x h => by simp at h; subst h; exact L66_good),
   ovWith_mono ovn2_ok.2.1 (fun x h => by simp at h; subst h; exact L66_good.outs), ovWith_ids ovn2_ok.2.2⟩
end Go.Proofs.YtgmojlibppmfhaaDoor

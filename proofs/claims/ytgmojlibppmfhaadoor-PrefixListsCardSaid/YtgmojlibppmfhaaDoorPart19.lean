/- Runs of the abstract interpreter, part 19: by an AI agent. -/
import Derived.Test.YtgmojlibppmfhaaDoorPart18

namespace Go.Proofs.YtgmojlibppmfhaaDoor
open Go Go.Ai
/-! ### the reference's row -/
def A66f_0 (s : ByteArray) (a : Int) : List Prop := [(byteAt s a.toNat == (48 : Int)) = false, (decide ((rowR s a 11 0 0).snd > (10 : Int))) = false, (decide ((rowR s a 11 0 0).snd > (1 : Int))) = true, (decide ((rowR s a 11 0 0).snd > (10 : Int))) = false, (decide ((rowR s a 11 0 0).snd > (1 : Int))) = true, (decide ((0 : Int) ≤ a ∧ a < (s.size : Int))) = true, (decide ((rowR s a 11 0 0).snd > (1 : Int))) = true, (decide ((rowR s a 11 0 0).snd > (1 : Int))) = true, (decide ((rowR s a 11 0 0).snd > (1 : Int))) = true, (decide ((rowR s a 11 0 0).snd > (10 : Int))) = false, (decide ((rowR s a 11 0 0).snd > (10 : Int))) = false, (decide ((rowR s a 11 0 0).snd > (10 : Int))) = false, L66.pre [.string s, .int .i64 a, .int .i64 0, .int .i64 0], L66.c = L66.c]
theorem F66_0 (s : ByteArray) (a : Int) (h : Holds (A66f_0 s a)) : ∃ st', Go.Ai.call cx ovn3 1000 66 [.string s, .int .i64 a] ⟨keepIds st0.hp [], st0.ct⟩ = some (Value.tuple { toList := [Value.int IntKind.i64 (rowR s a 11 0 0).fst, Value.int IntKind.i64 (rowR s a 11 0 0).snd] }, st') :=
  path_call refn3 (toks := [.no, .no, .no, .yes, .yes, .yes, .yes, .yes, .no, .yes, .no, .no]) (by kernel_rfl) h
def A66f_1 (s : ByteArray) (a : Int) : List Prop := [(decide ((rowR s a 11 0 0).snd > (10 : Int))) = true, (decide ((rowR s a 11 0 0).snd > (10 : Int))) = true, (decide ((rowR s a 11 0 0).snd > (10 : Int))) = true, (decide ((rowR s a 11 0 0).snd > (10 : Int))) = true, (decide ((rowR s a 11 0 0).snd > (10 : Int))) = true, L66.pre [.string s, .int .i64 a, .int .i64 0, .int .i64 0], L66.c = L66.c]
theorem F66_1 (s : ByteArray) (a : Int) (h : Holds (A66f_1 s a)) : ∃ st', Go.Ai.call cx ovn3 1000 66 [.string s, .int .i64 a] ⟨keepIds st0.hp [], st0.ct⟩ = some (Value.tuple { toList := [Value.int IntKind.i64 (0 : Int), Value.int IntKind.i64 (0 : Int)] }, st') :=
  path_call refn3 (toks := [.yes, .yes, .yes, .yes, .yes, .ev]) (by kernel_rfl) h
def A66f_2 (s : ByteArray) (a : Int) : List Prop := [(byteAt s a.toNat == (48 : Int)) = true, (decide ((rowR s a 11 0 0).snd > (10 : Int))) = false, (decide ((rowR s a 11 0 0).snd > (1 : Int))) = true, (decide ((rowR s a 11 0 0).snd > (10 : Int))) = false, (decide ((rowR s a 11 0 0).snd > (1 : Int))) = true, (decide ((0 : Int) ≤ a ∧ a < (s.size : Int))) = true, (decide ((rowR s a 11 0 0).snd > (1 : Int))) = true, (decide ((rowR s a 11 0 0).snd > (1 : Int))) = true, (decide ((rowR s a 11 0 0).snd > (1 : Int))) = true, (decide ((rowR s a 11 0 0).snd > (10 : Int))) = false, (decide ((rowR s a 11 0 0).snd > (10 : Int))) = false, (decide ((rowR s a 11 0 0).snd > (10 : Int))) = false, L66.pre [.string s, .int .i64 a, .int .i64 0, .int .i64 0], L66.c = L66.c]
theorem F66_2 (s : ByteArray) (a : Int) (h : Holds (A66f_2 s a)) : ∃ st', Go.Ai.call cx ovn3 1000 66 [.string s, .int .i64 a] ⟨keepIds st0.hp [], st0.ct⟩ = some (Value.tuple { toList := [Value.int IntKind.i64 (0 : Int), Value.int IntKind.i64 (0 : Int)] }, st') :=
  path_call refn3 (toks := [.no, .no, .no, .yes, .yes, .yes, .yes, .yes, .no, .yes, .no, .yes]) (by kernel_rfl) h
def A66f_3 (s : ByteArray) (a : Int) : List Prop := [(decide ((rowR s a 11 0 0).snd > (10 : Int))) = false, (decide ((rowR s a 11 0 0).snd > (1 : Int))) = false, (decide ((rowR s a 11 0 0).snd > (10 : Int))) = false, (decide ((rowR s a 11 0 0).snd > (1 : Int))) = false, (decide ((rowR s a 11 0 0).snd > (1 : Int))) = false, (decide ((rowR s a 11 0 0).snd > (1 : Int))) = false, (decide ((rowR s a 11 0 0).snd > (1 : Int))) = false, (decide ((rowR s a 11 0 0).snd > (10 : Int))) = false, (decide ((rowR s a 11 0 0).snd > (10 : Int))) = false, (decide ((rowR s a 11 0 0).snd > (10 : Int))) = false, L66.pre [.string s, .int .i64 a, .int .i64 0, .int .i64 0], L66.c = L66.c]
theorem F66_3 (s : ByteArray) (a : Int) (h : Holds (A66f_3 s a)) : ∃ st', Go.Ai.call cx ovn3 1000 66 [.string s, .int .i64 a] ⟨keepIds st0.hp [], st0.ct⟩ = some (Value.tuple { toList := [Value.int IntKind.i64 (rowR s a 11 0 0).fst, Value.int IntKind.i64 (rowR s a 11 0 0).snd] }, st') :=
  path_call refn3 (toks := [.no, .no, .no, .no, .no, .no, .no, .no, .no, .no, .ev]) (by kernel_rfl) h
theorem rowR_spec (s : ByteArray) (a : Int) (ha : 0 ≤ a) : ∀ (k : Nat) (n m : Int), 0 ≤ m → m ≤ (rowR s a k n m).2 ∧ (rowR s a k n m).2 ≤ m + k ∧
    (∀ i, m ≤ i → i < (rowR s a k n m).2 → a + i < s.size ∧ isD (byteAt s (a + i).toNat) = true) ∧
    ((rowR s a k n m).2 < m + k → ¬ (a + (rowR s a k n m).2 < s.size ∧ isD (byteAt s (a + (rowR s a k n m).2).toNat) = true)) ∧
    (rowR s a k n m).1 = valN s ((rowR s a k n m).2 - m).toNat (a + m).toNat n
  | 0, n, m, h0 => by
    rw [rowR]
    refine ⟨Int.le_refl _, by omega, fun i h1 h2 => by omega, fun h => by omega, ?_⟩
    show n = valN s (m - m).toNat _ n
    rw [show (m - m).toNat = 0 by omega]; rfl
  | k + 1, n, m, h0 => by
    rw [rowR]
    by_cases hc : a + m < s.size ∧ isD (byteAt s (a + m).toNat) = true
    · rw [if_pos hc]
      obtain ⟨g1, g2, g3, g4, g5⟩ := rowR_spec s a ha k (10 * n + (byteAt s (a + m).toNat - 48)) (m + 1) (by omega)
      generalize rowR s a k (10 * n + (byteAt s (a + m).toNat - 48)) (m + 1) = r at g1 g2 g3 g4 g5
      refine ⟨by omega, by omega, fun i h1 h2 => ?_, fun h => g4 (by omega), ?_⟩
      · by_cases e : i = m
        · rw [e]; exact hc
        · exact g3 i (by omega) h2
      · rw [g5, show (r.2 - m).toNat = (r.2 - (m + 1)).toNat + 1 by omega, valN, show (a + m).toNat + 1 = (a + (m + 1)).toNat by omega, Int.mul_comm n 10]
    · rw [if_neg hc]
      refine ⟨Int.le_refl _, by omega, fun i h1 h2 => by omega, fun _ => hc, ?_⟩
      show n = valN s (m - m).toNat _ n
      rw [show (m - m).toNat = 0 by omega]; rfl
/-- a row of digits from a place on: its number; how many -/
def rowBad (s : ByteArray) (a : Int) : Prop := 10 < (rowR s a 11 0 0).2 ∨ (1 < (rowR s a 11 0 0).2 ∧ byteAt s a.toNat = 48)
instance (s : ByteArray) (a : Int) : Decidable (rowBad s a) := by unfold rowBad; infer_instance
def rowN (s : ByteArray) (a : Int) : Int := if rowBad s a then 0 else (rowR s a 11 0 0).1
def rowM (s : ByteArray) (a : Int) : Int := if rowBad s a then 0 else (rowR s a 11 0 0).2
def rowV (s : ByteArray) (a : Int) : Value := .tuple #[.int .i64 (rowN s a), .int .i64 (rowM s a)]
theorem F66_all (s : ByteArray) (a : Int) (hs : s.size ≤ 1000) (h0 : 0 ≤ a) (h1 : a ≤ 1000) : ∃ st', Go.Ai.call cx ovn3 1000 66 [.string s, .int .i64 a] ⟨keepIds st0.hp [], st0.ct⟩ = some (rowV s a, st') := by
  obtain ⟨g1, g2, g3, g4, g5⟩ := rowR_spec s a h0 11 0 0 (by omega)
  have hp : L66.pre [.string s, .int .i64 a, .int .i64 0, .int .i64 0] := ⟨_, _, _, _, rfl, hs, h0, h1, by omega, by omega, by omega, by decide⟩
  by_cases h10 : 10 < (rowR s a 11 0 0).2
  · rw [show rowV s a = .tuple #[.int .i64 0, .int .i64 0] from by simp [rowV, rowN, rowM, rowBad, h10]]
    exact F66_1 s a ⟨decide_eq_true (by omega), decide_eq_true (by omega), decide_eq_true (by omega), decide_eq_true (by omega), decide_eq_true (by omega), hp, rfl, trivial⟩
  · by_cases h2 : 1 < (rowR s a 11 0 0).2
    · have := (g3 0 (by omega) (by omega)).1
      by_cases h3 : byteAt s a.toNat = 48
      · rw [show rowV s a = .tuple #[.int .i64 0, .int .i64 0] from by simp [rowV, rowN, rowM, rowBad, h2, h3]]
        exact F66_2 s a ⟨beq_iff_eq.2 h3, decide_eq_false (by omega), decide_eq_true (by omega), decide_eq_false (by omega), decide_eq_true (by omega), decide_eq_true (by omega), decide_eq_true (by omega), decide_eq_true (by omega), decide_eq_true (by omega), decide_eq_false (by omega), decide_eq_false (by omega), decide_eq_false (by omega), hp, rfl, trivial⟩
      · rw [show rowV s a = .tuple #[.int .i64 (rowR s a 11 0 0).1, .int .i64 (rowR s a 11 0 0).2] from by simp [rowV, rowN, rowM, rowBad, h10, h3]]
        exact F66_0 s a ⟨beq_eq_false_iff_ne.2 h3, decide_eq_false (by omega), decide_eq_true (by omega), decide_eq_false (by omega), decide_eq_true (by omega), decide_eq_true (by omega), decide_eq_true (by omega), decide_eq_true (by omega), decide_eq_true (by omega), decide_eq_false (by omega), decide_eq_false (by omega), decide_eq_false (by omega), hp, rfl, trivial⟩
    · rw [show rowV s a = .tuple #[.int .i64 (rowR s a 11 0 0).1, .int .i64 (rowR s a 11 0 0).2] from by simp [rowV, rowN, rowM, rowBad, h10, h2]]
      exact F66_3 s a ⟨decide_eq_false (by omega), decide_eq_false (by omega), decide_eq_false (by omega), decide_eq_false (by omega), decide_eq_false (by omega), decide_eq_false (by omega), decide_eq_false (by omega), decide_eq_false (by omega), decide_eq_false (by omega), decide_eq_false (by omega), hp, rfl, trivial⟩
def C66 : FC := ⟨66, fun l => ∃ s a, l = [.string s, .int .i64 a] ∧ s.size ≤ 1000 ∧ 0 ≤ a ∧ a ≤ 1000, fun l => match l with | [.string s, .int _ a] => rowV s a | _ => undef, []⟩
theorem C66_good : C66.Good Tryd.prog ovn3 st0 := ⟨by kernel_rfl, fun args ⟨s, a, e, hs, h0, h1⟩ => by subst e; exact ⟨rfl, rfl, 1000, F66_all s a hs h0 h1⟩⟩
noncomputable def ovn4 : Ov := ovWith st0 [C66] [] ovn3
noncomputable def ovOn4 : OvO := ovOWith st0 [C66] [] ovOn3
theorem refn4 : OvRef ovn4 ovOn4 := ovWith_ref refn3
theorem ovn4_ok : OvOk Tryd.prog ovn4 ∧ OvMono ovn4 ∧ OvIds ovn4 :=
  ⟨ovWith_ok Tryd.checked.mixed ovn3_ok.1 ovn3_ok.2.1 ovn3_ok.2.2 ng_st0 (fun C h => by
      simp only [List.mem_cons, List.not_mem_nil, or_false] at h
      subst h; exact C66_good) (fun x h => by cases h),
   ovWith_mono ovn3_ok.2.1 (fun x h => by cases h), ovWith_ids ovn3_ok.2.2⟩
end Go.Proofs.YtgmojlibppmfhaaDoor

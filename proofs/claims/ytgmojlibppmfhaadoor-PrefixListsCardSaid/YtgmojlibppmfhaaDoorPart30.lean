/- Runs of the abstract interpreter, part 30: by an AI agent. -/
import Derived.Test.YtgmojlibppmfhaaDoorPart29

namespace Go.Proofs.YtgmojlibppmfhaaDoor
open Go Go.Ai
/-! ### the reference's Of: a loop over the bits -/
theorem top_bit (x b k : Int) (hb0 : 0 ≤ b) (hb1 : b ≤ 32) (hk0 : 0 ≤ k) (hk1 : k < 32) : flF x b / 2 ^ (31 - k).toNat % 2 = if (decide (k < b) && bitR x k) = true then 1 else 0 := by
  have hp := pw_pos b
  have hh : (0 : Int) < 2 ^ (31 - k).toNat := Int.pow_pos (by omega)
  by_cases h : k < b
  · have e : (2 : Int) ^ (31 - k).toNat = pw b * 2 ^ (b - 1 - k).toNat := by
      unfold pw; rw [← Int.pow_add]; congr 1; omega
    have g : flF x b / 2 ^ (31 - k).toNat = x / 2 ^ (31 - k).toNat := by
      unfold flF
      rw [e, Int.mul_comm (x / pw b) (pw b), Int.mul_ediv_mul_of_pos _ _ hp, Int.ediv_ediv_of_nonneg (by omega)]
    rw [g, decide_eq_true h]
    unfold bitR
    simp only [Bool.true_and, beq_iff_eq]
    have := Int.emod_two_eq (x / 2 ^ (31 - k).toNat)
    split <;> omega
  · rw [decide_eq_false h]
    have e : pw b = 2 ^ (31 - k).toNat * (2 * 2 ^ (k - b).toNat) := by
      unfold pw
      rw [Int.mul_comm 2, ← Int.pow_succ, ← Int.pow_add]; congr 1; omega
    have g : flF x b / 2 ^ (31 - k).toNat = x / pw b * 2 ^ (k - b).toNat * 2 := by
      unfold flF
      generalize x / pw b = m
      rw [e, Int.mul_left_comm, Int.mul_ediv_cancel_left _ (by omega), Int.mul_comm 2, Int.mul_assoc]
    rw [g]
    simp
theorem top_step (x b k : Int) (hb0 : 0 ≤ b) (hb1 : b ≤ 32) (hk0 : 0 ≤ k) (hk1 : k < 32) :
    flF x b / 2 ^ (32 - (k + 1)).toNat = flF x b / 2 ^ (32 - k).toNat * 2 + if (decide (k < b) && bitR x k) = true then 1 else 0 := by
  have t := top_bit x b k hb0 hb1 hk0 hk1
  have e1 : (32 - (k + 1)).toNat = (31 - k).toNat := by omega
  have e2 : (32 - k).toNat = (31 - k).toNat + 1 := by omega
  have hh : (0 : Int) < 2 ^ (31 - k).toNat := Int.pow_pos (by omega)
  rw [e1, e2, Int.pow_succ, ← Int.ediv_ediv_of_nonneg (by omega : (0 : Int) ≤ 2 ^ (31 - k).toNat)]
  generalize flF x b / 2 ^ (31 - k).toNat = G at *
  rw [← t]; omega
theorem top_le (x b k : Int) (h0 : 0 ≤ x) (h1 : x < 4294967296) : 0 ≤ flF x b / 2 ^ (32 - k).toNat ∧ flF x b / 2 ^ (32 - k).toNat ≤ 4294967295 := by
  obtain ⟨g0, g1⟩ := flF_range (b := b) h0
  obtain ⟨g2, g3⟩ := div_pow_range (flF x b) (32 - k).toNat g0
  omega
noncomputable def L54 : LC where
  c := c54
  nt := 30
  keys := [0, 1, 5, 6]
  outs := [5]
  pre := fun l => ∃ x b o k, l = [.int .u32 x, .int .i64 b, .int .u32 o, .int .i64 k] ∧ 0 ≤ x ∧ x < 4294967296 ∧ 0 ≤ b ∧ b ≤ 32 ∧ 0 ≤ k ∧ k ≤ 32 ∧ o = flF x b / 2 ^ (32 - k).toNat
  res := fun l => match l with
    | [.int _ x, .int _ b, .int _ _, .int _ _] => (.exit 0, [.int .u32 (flF x b)])
    | _ => (.normal, [])
  ids := []
def runs54 (x b o k : Int) (ex0 : Ex) (keys : List Tmp) (vs : List Value) : Prop :=
  ∃ n ex tmO st', (∀ tm2, Sub (putT L54.keys [.int .u32 x, .int .i64 b, .int .u32 o, .int .i64 k] .nil) tm2 → ∃ tm2', run (Cx.of Tryd.prog) ovy2 n L54.c L54.nt tm2 ⟨keepIds st0.hp L54.ids, st0.ct⟩ = some (ex, tm2', st') ∧ Sub tmO tm2') ∧ ex = ex0 ∧ readT tmO keys = some vs
theorem R54_a (x b o k : Int) (h : Holds [decide ((-9223372036854775808 : Int) ≤ k + (1 : Int) ∧ k + (1 : Int) ≤ (9223372036854775807 : Int)) = true, bitR x k = false, decide (k < b) = true, CB.pre [.int .u32 x, .int .i64 k], decide (k < b) = true, decide (k < b) = true, decide (k < b) = true, decide ((0 : Int) ≤ o * (2 : Int) ∧ o * (2 : Int) ≤ (4294967295 : Int)) = true, decide (k < (32 : Int)) = true]) :
    runs54 x b o k .normal L54.keys [.int .u32 x, .int .i64 b, .int .u32 (o * 2), .int .i64 (k + 1)] :=
  path_next refy2 (n := 1000) (outs := L54.outs) (toks := [.yes, .yes, .yes, .yes, .yes, .yes, .no, .yes]) (by kernel_rfl) h
theorem R54_b (x b o k : Int) (h : Holds [decide ((-9223372036854775808 : Int) ≤ k + (1 : Int) ∧ k + (1 : Int) ≤ (9223372036854775807 : Int)) = true, decide ((0 : Int) ≤ o * (2 : Int) + (1 : Int) ∧ o * (2 : Int) + (1 : Int) ≤ (4294967295 : Int)) = true, bitR x k = true, decide (k < b) = true, CB.pre [.int .u32 x, .int .i64 k], decide (k < b) = true, decide (k < b) = true, decide (k < b) = true, decide ((0 : Int) ≤ o * (2 : Int) ∧ o * (2 : Int) ≤ (4294967295 : Int)) = true, decide (k < (32 : Int)) = true]) :
    runs54 x b o k .normal L54.keys [.int .u32 x, .int .i64 b, .int .u32 (o * 2 + 1), .int .i64 (k + 1)] :=
  path_next refy2 (n := 1000) (outs := L54.outs) (toks := [.yes, .yes, .yes, .yes, .yes, .yes, .yes, .yes, .yes]) (by kernel_rfl) h
theorem R54_c (x b o k : Int) (h : Holds [decide ((-9223372036854775808 : Int) ≤ k + (1 : Int) ∧ k + (1 : Int) ≤ (9223372036854775807 : Int)) = true, decide (k < b) = false, decide (k < b) = false, decide (k < b) = false, decide (k < b) = false, decide ((0 : Int) ≤ o * (2 : Int) ∧ o * (2 : Int) ≤ (4294967295 : Int)) = true, decide (k < (32 : Int)) = true]) :
    runs54 x b o k .normal L54.keys [.int .u32 x, .int .i64 b, .int .u32 (o * 2), .int .i64 (k + 1)] :=
  path_next refy2 (n := 1000) (outs := L54.outs) (toks := [.yes, .yes, .no, .no, .no, .no, .ev, .yes]) (by kernel_rfl) h
theorem R54_d (x b o k : Int) (h : Holds [decide (k < (32 : Int)) = false]) : runs54 x b o k (.exit 0) L54.outs [.int .u32 o] :=
  path_exit refy2 (n := 1000) (keys := L54.keys) (toks := [.no]) (by intro h; cases h) (by kernel_rfl) h
theorem L19_good : L54.Good Tryd.prog ovy2 st0 where
  keep := by kernel_rfl
  outs := of_decide_eq_true (by kernel_rfl)
  ok := ⟨fun l => match l with | [_, _, _, .int _ k] => (32 - k).toNat | _ => 0, fun vs ⟨x, b, o, k, e, h0, h1, h2, h3, h4, h5, h6⟩ => by
    subst e
    refine ⟨rfl, rfl, rfl, ?_⟩
    by_cases hk : k < 32
    · have ts := top_step x b k h2 h3 h4 hk
      have tl := top_le x b (k + 1) h0 h1
      have tl0 := top_le x b k h0 h1
      rw [← h6] at ts tl0
      suffices hs : ∃ o', o' = flF x b / 2 ^ (32 - (k + 1)).toNat ∧ runs54 x b o k .normal L54.keys [.int .u32 x, .int .i64 b, .int .u32 o', .int .i64 (k + 1)] by
        obtain ⟨o', ho, n, ex, tmO, st', g1, g2, g3⟩ := hs
        exact ⟨n, ex, tmO, st', g1, Or.inl ⟨g2, _, g3, ⟨_, _, _, _, rfl, h0, h1, h2, h3, by omega, by omega, ho⟩, (by show (32 - (k + 1)).toNat < (32 - k).toNat; omega), rfl⟩⟩
      by_cases hb : k < b
      · cases hbit : bitR x k
        · rw [hbit, Bool.and_false, if_neg (by simp), Int.add_zero] at ts
          exact ⟨o * 2, ts.symm, (R54_a x b o k ⟨decide_eq_true (by omega), hbit, decide_eq_true hb, ⟨_, _, rfl, h0, h1, h4⟩, decide_eq_true hb, decide_eq_true hb, decide_eq_true hb, decide_eq_true (by omega), decide_eq_true hk, trivial⟩)⟩
        · rw [hbit, decide_eq_true hb, if_pos (by rfl)] at ts
          exact ⟨o * 2 + 1, ts.symm, (R54_b x b o k ⟨decide_eq_true (by omega), decide_eq_true (by omega), hbit, decide_eq_true hb, ⟨_, _, rfl, h0, h1, h4⟩, decide_eq_true hb, decide_eq_true hb, decide_eq_true hb, decide_eq_true (by omega), decide_eq_true hk, trivial⟩)⟩
      · rw [decide_eq_false hb, Bool.false_and, if_neg (by simp), Int.add_zero] at ts
        exact ⟨o * 2, ts.symm, (R54_c x b o k ⟨decide_eq_true (by omega), decide_eq_false hb, decide_eq_false hb, decide_eq_false hb, decide_eq_false hb, decide_eq_true (by omega), decide_eq_true hk, trivial⟩)⟩
    · obtain ⟨n, ex, tmO, st', g1, g2, g3⟩ := R54_d x b o k ⟨decide_eq_false hk, trivial⟩
      refine ⟨n, ex, tmO, st', g1, Or.inr ⟨(by rw [g2]; intro h; cases h), g2, ?_⟩⟩
      rw [g3]
      show some [Value.int .u32 o] = some [Value.int .u32 (flF x b)]
      rw [h6, show (32 - k).toNat = 0 by omega]; simp⟩
noncomputable def ovy3 : Ov := ovWith st0 [] [(Go.Ai.keyOf c54 1, L54)] ovy2
noncomputable def ovOy3 : OvO := ovOWith st0 [] [(Go.Ai.keyOf c54 1, L54)] ovOy2
theorem refy3 : OvRef ovy3 ovOy3 := ovWith_ref refy2
theorem ovy3_ok : OvOk Tryd.prog ovy3 ∧ OvMono ovy3 ∧ OvIds ovy3 :=
  ⟨ovWith_ok Tryd.checked.mixed ovy2_ok.1 ovy2_ok.2.1 ovy2_ok.2.2 ng_st0 (fun C h => by cases h) (fun x h => by simp at h; subst h; exact L19_good),
   ovWith_mono ovy2_ok.2.1 (fun x h => by simp at h; subst h; exact L19_good.outs), ovWith_ids ovy2_ok.2.2⟩
end Go.Proofs.YtgmojlibppmfhaaDoor

/- Runs of the abstract interpreter, part 28: by an AI agent. -/
import Derived.Test.YtgmojlibppmfhaaDoorPart27

namespace Go.Proofs.YtgmojlibppmfhaaDoor
open Go Go.Ai
/-! ### the reference's bit: a loop that halves -/
noncomputable def c73 : Code := loopAt Tryd.prog 73 0
noncomputable def L73 : LC where
  c := c73
  nt := 16
  keys := [0, 5]
  outs := [0]
  pre := fun l => ∃ x i, l = [.int .u32 x, .int .i64 i] ∧ 0 ≤ x ∧ x < 4294967296 ∧ 0 ≤ i
  res := fun l => match l with
    | [.int _ x, .int _ i] => (.exit 0, [.int .u32 (x / 2 ^ (31 - i).toNat)])
    | _ => (.normal, [])
  ids := []
theorem R73_next (x i : Int) (h : Holds [decide ((-9223372036854775808 : Int) ≤ i + (1 : Int) ∧ i + (1 : Int) ≤ (9223372036854775807 : Int)) = true, decide ((0 : Int) ≤ x / (2 : Int) ∧ x / (2 : Int) ≤ (4294967295 : Int)) = true, decide ((0 : Int) ≤ x ∧ (0 : Int) < (2 : Int)) = true, decide (i < (31 : Int)) = true]) :
    ∃ n ex tmO st', (∀ tm2, Sub (putT L73.keys [.int .u32 x, .int .i64 i] .nil) tm2 → ∃ tm2', run (Cx.of Tryd.prog) ov0 n L73.c L73.nt tm2 ⟨keepIds st0.hp L73.ids, st0.ct⟩ = some (ex, tm2', st') ∧ Sub tmO tm2') ∧ ex = .normal ∧ readT tmO L73.keys = some [.int .u32 (x / 2), .int .i64 (i + 1)] :=
  path_next ref0 (n := 1000) (outs := L73.outs) (toks := [.yes, .ev, .yes, .yes, .yes]) (by kernel_rfl) h
theorem R73_exit (x i : Int) (h : Holds [decide (i < (31 : Int)) = false]) :
    ∃ n ex tmO st', (∀ tm2, Sub (putT L73.keys [.int .u32 x, .int .i64 i] .nil) tm2 → ∃ tm2', run (Cx.of Tryd.prog) ov0 n L73.c L73.nt tm2 ⟨keepIds st0.hp L73.ids, st0.ct⟩ = some (ex, tm2', st') ∧ Sub tmO tm2') ∧ ex = .exit 0 ∧ readT tmO L73.outs = some [.int .u32 x] :=
  path_exit ref0 (n := 1000) (keys := L73.keys) (toks := [.no]) (by intro h; cases h) (by kernel_rfl) h
theorem half_step (x i : Int) (hi : i < 31) : x / 2 / 2 ^ (31 - (i + 1)).toNat = x / 2 ^ (31 - i).toNat := by
  rw [Int.ediv_ediv_of_nonneg (by omega), show (31 - i).toNat = (31 - (i + 1)).toNat + 1 by omega, Int.pow_succ, Int.mul_comm]
theorem L29_good : L73.Good Tryd.prog ov0 st0 where
  keep := by kernel_rfl
  outs := of_decide_eq_true (by kernel_rfl)
  ok := ⟨fun l => match l with | [_, .int _ i] => (31 - i).toNat | _ => 0, fun vs ⟨x, i, e, h0, h1, h2⟩ => by
    subst e
    refine ⟨rfl, rfl, rfl, ?_⟩
    by_cases hi : i < 31
    · obtain ⟨n, ex, tmO, st', g1, g2, g3⟩ := R73_next x i ⟨decide_eq_true (by omega), decide_eq_true (by omega), decide_eq_true (by omega), decide_eq_true hi, trivial⟩
      refine ⟨n, ex, tmO, st', g1, Or.inl ⟨g2, _, g3, ⟨_, _, rfl, by omega, by omega, by omega⟩, ?_, ?_⟩⟩
      · show (31 - (i + 1)).toNat < (31 - i).toNat; omega
      · show (Ex.exit 0, [Value.int .u32 (x / 2 / 2 ^ (31 - (i + 1)).toNat)]) = (Ex.exit 0, [Value.int .u32 (x / 2 ^ (31 - i).toNat)])
        rw [half_step x i hi]
    · obtain ⟨n, ex, tmO, st', g1, g2, g3⟩ := R73_exit x i ⟨decide_eq_false hi, trivial⟩
      refine ⟨n, ex, tmO, st', g1, Or.inr ⟨(by rw [g2]; intro h; cases h), g2, ?_⟩⟩
      rw [g3]
      show some [Value.int .u32 x] = some [Value.int .u32 (x / 2 ^ (31 - i).toNat)]
      rw [show (31 - i).toNat = 0 by omega]; simp⟩
noncomputable def ovy1 : Ov := ovWith st0 [] [(Go.Ai.keyOf c73 1, L73)] ov0
noncomputable def ovOy1 : OvO := ovOWith st0 [] [(Go.Ai.keyOf c73 1, L73)] ovO0
theorem refy1 : OvRef ovy1 ovOy1 := ovWith_ref ref0
theorem ovy1_ok : OvOk Tryd.prog ovy1 ∧ OvMono ovy1 ∧ OvIds ovy1 :=
  ⟨ovWith_ok Tryd.checked.mixed ov0_ok.1 ov0_ok.2.1 ov0_ok.2.2 ng_st0 (fun C h => by cases h) (fun x h => by simp at h; subst h; exact L29_good),
   ovWith_mono ov0_ok.2.1 (fun x h => by simp at h; subst h; exact L29_good.outs), ovWith_ids ov0_ok.2.2⟩
end Go.Proofs.YtgmojlibppmfhaaDoor

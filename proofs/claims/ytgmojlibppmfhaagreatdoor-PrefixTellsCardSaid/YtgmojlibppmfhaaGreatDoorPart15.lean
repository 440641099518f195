/- Runs of the abstract interpreter, part 15: by an AI agent. -/
import Derived.Test.YtgmojlibppmfhaaGreatDoorPart14

namespace Go.Proofs.YtgmojlibppmfhaaGreatDoor
open Go Go.Ai
theorem has_eq2 {X P : Int} (hm : mayF X P = true) (z : Int) : hasF X P z = (flF z P == X) := by
  unfold hasF; rw [hm]; rfl
theorem bit_top (x b : Int) (k : Int) (hb1 : b ≤ 32) (hk0 : 0 ≤ k) (hk1 : k < b) : bitR x k = (flF x b / 2 ^ (31 - k).toNat % 2 == 1) := by
  have t := top_bit x b k (by omega) hb1 hk0 (by omega)
  rw [t, decide_eq_true hk1]
  cases bitR x k <;> rfl
/-- alike in the first bits: alike up to there -/
theorem bits_same (x z b : Int) (hb0 : 0 ≤ b) (hb1 : b ≤ 32) (x0 : 0 ≤ x) (x1 : x < 4294967296) (z0 : 0 ≤ z) (z1 : z < 4294967296) (h : ∀ i : Nat, (i : Int) < b → bitR x i = bitR z i) : flF x b = flF z b := by
  have all : ∀ n : Nat, n ≤ 32 → flF x b / 2 ^ (32 - (n : Int)).toNat = flF z b / 2 ^ (32 - (n : Int)).toNat := by
    intro n
    induction n with
    | zero => intro _; exact (top_end x b x0 x1).symm.trans (top_end z b z0 z1)
    | succ n ih =>
      intro hn
      have e := ih (by omega)
      have a := top_step x b n hb0 hb1 (by omega) (by omega)
      have c := top_step z b n hb0 hb1 (by omega) (by omega)
      rw [show ((n + 1 : Nat) : Int) = (n : Int) + 1 by omega, a, c, e]
      by_cases hk : (n : Int) < b
      · rw [h n hk]
      · rw [decide_eq_false hk]; rfl
  have := all 32 (by omega)
  simpa using this
theorem first_diff (x z : Int) (m : Nat) : (∀ i : Nat, i < m → bitR x i = bitR z i) ∨ ∃ n : Nat, n < m ∧ bitR x n ≠ bitR z n ∧ ∀ i : Nat, i < n → bitR x i = bitR z i := by
  induction m with
  | zero => left; intro i h; omega
  | succ m ih =>
    rcases ih with h | ⟨n, h1, h2, h3⟩
    · by_cases e : bitR x m = bitR z m
      · left; intro i hi
        by_cases him : i = m
        · rw [him]; exact e
        · exact h i (by omega)
      · right; exact ⟨m, by omega, e, h⟩
    · right; exact ⟨n, by omega, h2, h3⟩
theorem eq_no {a c : Bool} (h : a = c) : (!(a == c)) = false := by rw [h]; simp
theorem ne_yes {a c : Bool} (h : a ≠ c) : (!(a == c)) = true := by cases a <;> cases c <;> simp_all
theorem rnds_hold (x b z : Int) (hm : mayF x b = true) (x0 : 0 ≤ x) (x1 : x < 4294967296) (z0 : 0 ≤ z) (z1 : z < 4294967296) : ∀ n : Nat, (n : Int) ≤ b → (∀ i : Nat, i < n → bitR x i = bitR z i) → Holds (rnds x b z n)
  | 0, _, _ => ⟨by rw [hm]; rfl, ⟨_, _, rfl, x0, x1⟩, trivial⟩
  | n + 1, hn, h => ⟨eq_no (h n (by omega)), ⟨_, _, rfl, z0, z1, by omega⟩, ⟨_, _, rfl, x0, x1, by omega⟩, decide_eq_true (by omega), rnds_hold x b z hm x0 x1 z0 z1 n (by omega) fun i hi => h i (by omega)⟩
theorem F13_all (x b z : Int) (x0 : 0 ≤ x) (x1 : x < 4294967296) (z0 : 0 ≤ z) (z1 : z < 4294967296) : ∃ st', Go.Ai.call cx ovr5 1000 13 [.agg #[.int .u32 x, .int .i64 b], .int .u32 z] ⟨keepIds st0.hp [], st0.ct⟩ = some (.bool (hasF x b z), st') := by
  cases hm : mayF x b
  · rw [show hasF x b z = false by unfold hasF; rw [hm]; rfl]
    exact hN x b z ⟨by rw [hm]; rfl, ⟨_, _, rfl, x0, x1⟩, trivial⟩
  · obtain ⟨b0, b1, hx⟩ := mayF_range hm
    rw [has_eq2 hm]
    obtain ⟨m, rfl⟩ : ∃ m : Nat, b = m := ⟨b.toNat, by omega⟩
    rcases first_diff x z m with h | ⟨n, h1, h2, h3⟩
    · have e := bits_same x z m b0 b1 x0 x1 z0 z1 (fun i hi => h i (by omega))
      rw [← e, ← hx, beq_self_eq_true]
      exact hE m (by omega) x m z ⟨decide_eq_false (by omega), rnds_hold x m z hm x0 x1 z0 z1 m (by omega) h⟩
    · have e : (flF z m == x) = false := by
        rw [beq_eq_false_iff_ne]
        intro e
        apply h2
        rw [bit_top x m n b1 (by omega) (by omega), bit_top z m n b1 (by omega) (by omega), e, ← hx]
      rw [e]
      exact hM n (by omega) x m z ⟨ne_yes h2, ⟨_, _, rfl, z0, z1, by omega⟩, ⟨_, _, rfl, x0, x1, by omega⟩, decide_eq_true (by omega), rnds_hold x m z hm x0 x1 z0 z1 n (by omega) h3⟩
def CH : FC := ⟨13, fun l => ∃ x b z, l = [.agg #[.int .u32 x, .int .i64 b], .int .u32 z] ∧ 0 ≤ x ∧ x < 4294967296 ∧ 0 ≤ z ∧ z < 4294967296, fun l => match l with | [.agg ⟨[.int _ x, .int _ b]⟩, .int _ z] => .bool (hasF x b z) | _ => undef, []⟩
theorem CH_good : CH.Good Tryz.prog ovr5 st0 := ⟨by kernel_rfl, fun args ⟨x, b, z, e, h0, h1, h2, h3⟩ => by subst e; exact ⟨rfl, rfl, 1000, F13_all x b z h0 h1 h2 h3⟩⟩
noncomputable def ovr6 : Ov := ovWith st0 [CH] [] ovr5
noncomputable def ovOr6 : OvO := ovOWith st0 [CH] [] ovOr5
theorem refr6 : OvRef ovr6 ovOr6 := ovWith_ref refr5
theorem ovr6_ok : OvOk Tryz.prog ovr6 ∧ OvMono ovr6 ∧ OvIds ovr6 :=
  ⟨ovWith_ok Tryz.checked.mixed ovr5_ok.1 ovr5_ok.2.1 ovr5_ok.2.2 ng_st0 (fun C h => by simp at h; rcases h with rfl; exact CH_good) (fun x h => by cases h),
   ovWith_mono ovr5_ok.2.1 (fun x h => by cases h), ovWith_ids ovr5_ok.2.2⟩
end Go.Proofs.YtgmojlibppmfhaaGreatDoor

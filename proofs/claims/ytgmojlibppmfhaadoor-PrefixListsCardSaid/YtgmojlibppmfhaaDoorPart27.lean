/- Runs of the abstract interpreter, part 27: by an AI agent. -/
import Derived.Test.YtgmojlibppmfhaaDoorPart26

namespace Go.Proofs.YtgmojlibppmfhaaDoor
open Go Go.Ai
noncomputable def ovx3 : Ov := ovRows cx st0 [(Go.Ai.keyOf c49 1, L49)] ovx2
noncomputable def ovOx3 : OvO := ovORows cx st0 [(Go.Ai.keyOf c49 1, L49)] ovOx2
theorem refx3 : OvRef ovx3 ovOx3 := ovRows_ref refx2
theorem ovx3_ok : OvOk Tryd.prog ovx3 ∧ OvMono ovx3 ∧ OvIds ovx3 :=
  ovRows_all Tryd.checked.mixed ovx2_ok.1 ovx2_ok.2.1 ovx2_ok.2.2 ng_st0 (fun x h => by
    simp only [List.mem_cons, List.not_mem_nil, or_false] at h
    subst h; exact L49_good)
/-- an address from the front: well formed, where it ends, its number, whether it fits -/
def adG (s : ByteArray) : Bool := (adrR s 4 0 0 0 true).1
def adA (s : ByteArray) : Int := if adG s then (adrR s 4 0 0 0 true).2.1 else 0
def adX (s : ByteArray) : Int := if adG s then (adrR s 4 0 0 0 true).2.2.1 else 0
def adF (s : ByteArray) : Bool := adG s && (adrR s 4 0 0 0 true).2.2.2
def adV (s : ByteArray) : Value := .tuple #[.int .u32 (adX s), .int .i64 (adA s), .bool (adF s)]
theorem fit49 (s : ByteArray) (o : Bool) : FitS cx 11 L49 ⟨s, 0, 0, true, 0, o⟩ [] [.string s, .int .u32 0, .int .i64 0, .bool false, .int .i64 0, .int .i64 0, .bool true, .int .i64 0] [] := fun hp _ =>
  ⟨trivial, ⟨.inl ⟨rfl, rfl⟩, .inl ⟨rfl, rfl⟩, .inl ⟨rfl, rfl⟩, .inl ⟨rfl, rfl⟩, .inl ⟨rfl, rfl⟩, .inl ⟨rfl, rfl⟩, .inl ⟨rfl, rfl⟩, .inl ⟨rfl, rfl⟩, trivial⟩, rfl⟩
def A49_0 (s : ByteArray) : List Prop := [FitS cx 11 L49 ⟨s, 0, 0, true, 0, false⟩ [] [.string s, .int .u32 0, .int .i64 0, .bool false, .int .i64 0, .int .i64 0, .bool true, .int .i64 0] [], L49.pre ⟨s, 0, 0, true, 0, false⟩, (adrR s 4 0 0 0 true).1 = false, L49.c = L49.c]
theorem F49_0 (s : ByteArray) (h : Holds (A49_0 s)) : ∃ st', Go.Ai.call cx ovx3 1000 49 [.string s] ⟨keepIds st0.hp [], st0.ct⟩ = some (.tuple #[.int .u32 0, .int .i64 0, .bool false], st') :=
  path_call refx3 (toks := [.no]) (by kernel_rfl) h
def A49_1 (s : ByteArray) : List Prop := [decide (0 ≤ (adrR s 4 0 0 0 true).2.2.1 ∧ (adrR s 4 0 0 0 true).2.2.1 ≤ 4294967295) = true, FitS cx 11 L49 ⟨s, 0, 0, true, 0, true⟩ [] [.string s, .int .u32 0, .int .i64 0, .bool false, .int .i64 0, .int .i64 0, .bool true, .int .i64 0] [], L49.pre ⟨s, 0, 0, true, 0, true⟩, (adrR s 4 0 0 0 true).1 = true, L49.c = L49.c]
theorem F49_1 (s : ByteArray) (h : Holds (A49_1 s)) : ∃ st', Go.Ai.call cx ovx3 1000 49 [.string s] ⟨keepIds st0.hp [], st0.ct⟩ = some (.tuple #[.int .u32 (adrR s 4 0 0 0 true).2.2.1, .int .i64 (adrR s 4 0 0 0 true).2.1, .bool (adrR s 4 0 0 0 true).2.2.2], st') :=
  path_call refx3 (toks := [.yes, .yes]) (by kernel_rfl) h
theorem adr_range (s : ByteArray) : ∀ (j k : Nat) (a x : Int) (f : Bool), 0 ≤ a → a ≤ s.size → 0 ≤ x → x < ((256 ^ k : Nat) : Int) → 0 ≤ (adrR s j k a x f).2.1 ∧ (adrR s j k a x f).2.1 ≤ s.size ∧ 0 ≤ (adrR s j k a x f).2.2.1 ∧ (adrR s j k a x f).2.2.1 < ((256 ^ (k + j) : Nat) : Int)
  | 0, k, a, x, f, h1, h2, h3, h4 => ⟨h1, h2, h3, h4⟩
  | j + 1, k, a, x, f, h1, h2, h3, h4 => by
    have hp : ((256 ^ k : Nat) : Int) ≤ ((256 ^ (k + (j + 1)) : Nat) : Int) := by
      have := Nat.pow_le_pow_right (show 0 < 256 by omega) (show k ≤ k + (j + 1) by omega)
      omega
    have hps := Nat.pow_succ 256 k
    rw [adrR]
    by_cases hc : 0 < k ∧ ¬ (a < s.size ∧ byteAt s a.toNat = 46)
    · rw [if_pos hc]; exact ⟨h1, h2, h3, by show x < _; omega⟩
    · rw [if_neg hc]
      have hb : 0 ≤ (if 0 < k then a + 1 else a) ∧ (if 0 < k then a + 1 else a) ≤ s.size := by
        by_cases h0 : 0 < k
        · rw [if_pos h0]
          have : a < s.size := Decidable.byContradiction fun h => hc ⟨h0, fun g => h g.1⟩
          omega
        · rw [if_neg h0]; omega
      generalize (if 0 < k then a + 1 else a) = b at hb ⊢
      obtain ⟨w1, w2, w3, w4, w5, -⟩ := row_facts s hb.1
      by_cases hm : rowM s b = 0
      · rw [if_pos hm]; exact ⟨hb.1, hb.2, h3, by show x < _; omega⟩
      · rw [if_neg hm]
        have w3 := w3 (by omega)
        have := adr_range s j (k + 1) (b + rowM s b) (256 * x + rowN s b % 256) (if 255 < rowN s b then false else f) (by omega) w3 (by omega) (by rw [hps]; omega)
        rw [show k + (j + 1) = k + 1 + j by omega]
        exact this
theorem ad_range (s : ByteArray) : 0 ≤ adA s ∧ adA s ≤ s.size ∧ 0 ≤ adX s ∧ adX s < 4294967296 := by
  obtain ⟨h1, h2, h3, h4⟩ := adr_range s 4 0 0 0 true (by omega) (by omega) (by omega) (by decide)
  rw [show (256 ^ (0 + 4) : Nat) = 4294967296 by decide] at h4
  unfold adA adX
  split <;> omega
theorem F49_all (s : ByteArray) (hs : s.size ≤ 1000) : ∃ st', Go.Ai.call cx ovx3 1000 49 [.string s] ⟨keepIds st0.hp [], st0.ct⟩ = some (adV s, st') := by
  obtain ⟨h1, h2, h3, h4⟩ := adr_range s 4 0 0 0 true (by omega) (by omega) (by omega) (by decide)
  rw [show (256 ^ (0 + 4) : Nat) = 4294967296 by decide] at h4
  cases hg : (adrR s 4 0 0 0 true).1 with
  | false =>
    rw [show adV s = .tuple #[.int .u32 0, .int .i64 0, .bool false] by simp [adV, adX, adA, adF, adG, hg]]
    exact F49_0 s ⟨fit49 s false, ⟨hs, by show (0 : Int) ≤ 0; omega, by show (0 : Int) ≤ s.size; omega, by show (0 : Int) ≤ 0; omega, by show (0 : Int) < ((256 ^ 0 : Nat) : Int); decide, by show 0 ≤ 4; omega, hg⟩, hg, rfl, trivial⟩
  | true =>
    rw [show adV s = .tuple #[.int .u32 (adrR s 4 0 0 0 true).2.2.1, .int .i64 (adrR s 4 0 0 0 true).2.1, .bool (adrR s 4 0 0 0 true).2.2.2] by simp [adV, adX, adA, adF, adG, hg]]
    exact F49_1 s ⟨decide_eq_true (by omega), fit49 s true, ⟨hs, by show (0 : Int) ≤ 0; omega, by show (0 : Int) ≤ s.size; omega, by show (0 : Int) ≤ 0; omega, by show (0 : Int) < ((256 ^ 0 : Nat) : Int); decide, by show 0 ≤ 4; omega, hg⟩, hg, rfl, trivial⟩
def C49 : FC := ⟨49, fun l => ∃ s, l = [.string s] ∧ s.size ≤ 1000, fun l => match l with | [.string s] => adV s | _ => undef, []⟩
theorem C49_good : C49.Good Tryd.prog ovx3 st0 := ⟨by kernel_rfl, fun args ⟨s, e, h⟩ => by subst e; exact ⟨rfl, rfl, 1000, F49_all s h⟩⟩
end Go.Proofs.YtgmojlibppmfhaaDoor

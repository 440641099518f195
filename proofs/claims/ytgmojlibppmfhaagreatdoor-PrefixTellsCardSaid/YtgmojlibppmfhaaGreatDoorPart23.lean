/- Runs of the abstract interpreter, part 23: by an AI agent. -/
import Derived.Test.YtgmojlibppmfhaaGreatDoorPart22

namespace Go.Proofs.YtgmojlibppmfhaaGreatDoor
open Go Go.Ai
/-! strconv.Itoa of a byte's number: each of the 256 -/
noncomputable def itoaOk (f : Nat) (n : Nat) : Bool := match Go.Ai.call cx ovp4 1000 f [.int .i64 (n : Int)] ⟨keepIds st0.hp [0], st0.ct⟩ with
  | some (v, _) => beqV (.string (digB (n : Int))) v
  | none => false
noncomputable def upto (f : Nat) : Nat → Nat → Bool
  | _, 0 => true
  | n, k + 1 => itoaOk f n && upto f (n + 1) k
theorem upto_at {f : Nat} : ∀ (k n : Nat), upto f n k = true → ∀ i, n ≤ i → i < n + k → itoaOk f i = true
  | 0, n, _, i, h1, h2 => absurd h2 (by omega)
  | k + 1, n, h, i, h1, h2 => by
    unfold upto at h
    rw [Bool.and_eq_true] at h
    rcases Nat.eq_or_lt_of_le h1 with e | e
    · rw [← e]; exact h.1
    · exact upto_at k (n + 1) h.2 i e (by omega)
theorem itoa_0 : upto 23 0 64 = true := by kernel_rfl
theorem itoa_1 : upto 23 64 64 = true := by kernel_rfl
theorem itoa_2 : upto 23 128 64 = true := by kernel_rfl
theorem itoa_3 : upto 23 192 64 = true := by kernel_rfl
theorem itoa_all (n : Int) (h0 : 0 ≤ n) (h1 : n < 256) : ∃ st', Go.Ai.call cx ovp4 1000 23 [.int .i64 n] ⟨keepIds st0.hp [0], st0.ct⟩ = some (.string (digB n), st') := by
  obtain ⟨k, rfl⟩ := Int.eq_ofNat_of_zero_le h0
  have hk : itoaOk 23 k = true := by
    by_cases a : k < 64
    · exact upto_at _ _ itoa_0 k (by omega) (by omega)
    · by_cases b : k < 128
      · exact upto_at _ _ itoa_1 k (by omega) (by omega)
      · by_cases c : k < 192
        · exact upto_at _ _ itoa_2 k (by omega) (by omega)
        · exact upto_at _ _ itoa_3 k (by omega) (by omega)
  unfold itoaOk at hk
  split at hk
  · rename_i v st hc
    exact ⟨st, by rw [hc, beqV_eq _ _ hk]⟩
  · cases hk
def CIT : FC := ⟨23, fun l => ∃ n, l = [.int .i64 n] ∧ 0 ≤ n ∧ n < 256, fun l => match l with | [.int _ n] => .string (digB n) | _ => undef, [0]⟩
theorem CIT_good : CIT.Good Tryz.prog ovp4 st0 := ⟨by kernel_rfl, fun args ⟨n, e, h0, h1⟩ => by subst e; exact ⟨rfl, rfl, 1000, itoa_all n h0 h1⟩⟩
def all2 : List FC := [CIT, CTX, CM, CC, CH, CK, CO, CRB, CCV, CSG, COC, CDG, CIP]
noncomputable def ovz2 : Ov := ovWith st0 all2 [] ovp4
noncomputable def ovOz2 : OvO := ovOWith st0 all2 [] ovOp4
theorem refz2 : OvRef ovz2 ovOz2 := ovWith_ref refp4
theorem ovz2_ok : OvOk Tryz.prog ovz2 ∧ OvMono ovz2 ∧ OvIds ovz2 :=
  ⟨ovWith_ok2 Tryz.checked.mixed ovp4_ok.1 ng_st0 (fun C h => by
      simp only [all2, List.mem_cons, List.not_mem_nil, or_false] at h
      rcases h with rfl | rfl | rfl | rfl | rfl | rfl | rfl | rfl | rfl | rfl | rfl | rfl | rfl
      · exact ⟨_, ovp4_ok.1, ovp4_ok.2.1, ovp4_ok.2.2, CIT_good⟩
      · exact ⟨_, ovz1_ok.1, ovz1_ok.2.1, ovz1_ok.2.2, CTX_good⟩
      · exact ⟨_, ovr4_ok.1, ovr4_ok.2.1, ovr4_ok.2.2, CM_good⟩
      · exact ⟨_, ovr4_ok.1, ovr4_ok.2.1, ovr4_ok.2.2, CC_good⟩
      · exact ⟨_, ovr5_ok.1, ovr5_ok.2.1, ovr5_ok.2.2, CH_good⟩
      · exact ⟨_, ovr6_ok.1, ovr6_ok.2.1, ovr6_ok.2.2, CK_good⟩
      · exact ⟨_, ovr3_ok.1, ovr3_ok.2.1, ovr3_ok.2.2, CO_good⟩
      · exact ⟨_, ovr3_ok.1, ovr3_ok.2.1, ovr3_ok.2.2, CRB_good⟩
      · exact ⟨_, ovr3_ok.1, ovr3_ok.2.1, ovr3_ok.2.2, CCV_good⟩
      · exact ⟨_, ovr3_ok.1, ovr3_ok.2.1, ovr3_ok.2.2, CSG_good⟩
      · exact ⟨_, ovp4_ok.1, ovp4_ok.2.1, ovp4_ok.2.2, COC_good⟩
      · exact ⟨_, ovp4_ok.1, ovp4_ok.2.1, ovp4_ok.2.2, CDG_good⟩
      · exact ⟨_, ovs1_ok.1, ovs1_ok.2.1, ovs1_ok.2.2, CIP_good⟩),
   ovWith_mono ovp4_ok.2.1 (fun x h => by cases h), ovWith_ids ovp4_ok.2.2⟩
end Go.Proofs.YtgmojlibppmfhaaGreatDoor

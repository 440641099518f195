/- Runs of the abstract interpreter, part 20: by an AI agent. -/
import Derived.Test.YtgmojlibppmfhaaGreatDoorPart19

namespace Go.Proofs.YtgmojlibppmfhaaGreatDoor
open Go Go.Ai
def dotB1 : ByteArray := ⟨⟨[46]⟩⟩
def ipB (x : Int) : ByteArray := digB (octF x 0) ++ dotB1 ++ digB (octF x 1) ++ dotB1 ++ digB (octF x 2) ++ dotB1 ++ digB (octF x 3)
theorem digB_size (n : Int) : 1 ≤ (digB n).size ∧ (digB n).size ≤ 3 := by
  unfold digB
  split
  · exact ⟨by show 1 ≤ 1; omega, by show 1 ≤ 3; omega⟩
  · split
    · exact ⟨by show 1 ≤ 2; omega, by show 2 ≤ 3; omega⟩
    · exact ⟨by show 1 ≤ 3; omega, by show 3 ≤ 3; omega⟩
theorem octF_range (x k : Int) : 0 ≤ octF x k ∧ octF x k < 256 := by unfold octF; repeat' split <;> omega
theorem Fip_all (x : Int) (h0 : 0 ≤ x) (h1 : x < 4294967296) : ∃ st', Go.Ai.call cx ovs1 1000 17 [.int .u32 x] ⟨keepIds st0.hp [], st0.ct⟩ = some (.string (ipB x), st') := by
  have s0 := digB_size (octF x 0)
  have s1 := digB_size (octF x 1)
  have s2 := digB_size (octF x 2)
  have s3 := digB_size (octF x 3)
  have d1 : dotB1.size = 1 := rfl
  exact path_call refs1 (toks := [.yes, .yes, .yes, .yes, .yes, .yes])
    (asm := [decide ((digB (octF x 0) ++ dotB1 ++ digB (octF x 1) ++ dotB1 ++ digB (octF x 2) ++ dotB1).size + (digB (octF x 3)).size ≤ (9223372036854775807 : Nat)) = true, CDG.pre [.int .i64 (octF x 3)], COC.pre [.int .u32 x, .int .i64 3],
      decide ((digB (octF x 0) ++ dotB1 ++ digB (octF x 1) ++ dotB1 ++ digB (octF x 2)).size + 1 ≤ (9223372036854775807 : Nat)) = true, decide ((digB (octF x 0) ++ dotB1 ++ digB (octF x 1) ++ dotB1).size + (digB (octF x 2)).size ≤ (9223372036854775807 : Nat)) = true, CDG.pre [.int .i64 (octF x 2)], COC.pre [.int .u32 x, .int .i64 2],
      decide ((digB (octF x 0) ++ dotB1 ++ digB (octF x 1)).size + 1 ≤ (9223372036854775807 : Nat)) = true, decide ((digB (octF x 0) ++ dotB1).size + (digB (octF x 1)).size ≤ (9223372036854775807 : Nat)) = true, CDG.pre [.int .i64 (octF x 1)], COC.pre [.int .u32 x, .int .i64 1],
      decide ((digB (octF x 0)).size + 1 ≤ (9223372036854775807 : Nat)) = true, CDG.pre [.int .i64 (octF x 0)], COC.pre [.int .u32 x, .int .i64 0]]) (by kernel_rfl)
    ⟨decide_eq_true (by simp only [ByteArray.size_append]; omega), ⟨_, rfl, octF_range x 3⟩, ⟨_, _, rfl, h0, h1, by omega, by omega⟩,
     decide_eq_true (by simp only [ByteArray.size_append]; omega), decide_eq_true (by simp only [ByteArray.size_append]; omega), ⟨_, rfl, octF_range x 2⟩, ⟨_, _, rfl, h0, h1, by omega, by omega⟩,
     decide_eq_true (by simp only [ByteArray.size_append]; omega), decide_eq_true (by simp only [ByteArray.size_append]; omega), ⟨_, rfl, octF_range x 1⟩, ⟨_, _, rfl, h0, h1, by omega, by omega⟩,
     decide_eq_true (by omega), ⟨_, rfl, octF_range x 0⟩, ⟨_, _, rfl, h0, h1, by omega, by omega⟩, trivial⟩
def CIP : FC := ⟨17, fun l => ∃ x, l = [.int .u32 x] ∧ 0 ≤ x ∧ x < 4294967296, fun l => match l with | [.int _ x] => .string (ipB x) | _ => undef, []⟩
theorem CIP_good : CIP.Good Tryz.prog ovs1 st0 := ⟨by kernel_rfl, fun args ⟨x, e, h0, h1⟩ => by subst e; exact ⟨rfl, rfl, 1000, Fip_all x h0 h1⟩⟩
end Go.Proofs.YtgmojlibppmfhaaGreatDoor

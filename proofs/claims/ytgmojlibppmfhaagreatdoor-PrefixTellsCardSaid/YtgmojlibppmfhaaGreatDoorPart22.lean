/- Runs of the abstract interpreter, part 22: by an AI agent. -/
import Derived.Test.YtgmojlibppmfhaaGreatDoorPart21

namespace Go.Proofs.YtgmojlibppmfhaaGreatDoor
open Go Go.Ai
def slashB : ByteArray := ⟨⟨[47]⟩⟩
def txB (x b : Int) : ByteArray := if mayF x b = true then ipB x ++ slashB ++ digB b else ⟨⟨[]⟩⟩
theorem ipB_size (x : Int) : (ipB x).size ≤ 15 := by
  have s0 := digB_size (octF x 0)
  have s1 := digB_size (octF x 1)
  have s2 := digB_size (octF x 2)
  have s3 := digB_size (octF x 3)
  have d1 : dotB1.size = 1 := rfl
  unfold ipB; simp only [ByteArray.size_append]; omega
theorem Ftx_all (x b : Int) (h0 : 0 ≤ x) (h1 : x < 4294967296) : ∃ st', Go.Ai.call cx ovz1 1000 8 [.agg #[.int .u32 x, .int .i64 b]] ⟨keepIds st0.hp [], st0.ct⟩ = some (.string (txB x b), st') := by
  have s0 := ipB_size x
  have s1 := digB_size b
  have d1 : slashB.size = 1 := rfl
  unfold txB
  by_cases hm : mayF x b = true
  · obtain ⟨b0, b1, _⟩ := mayF_range hm
    rw [if_pos hm]
    exact path_call refz1 (toks := [.ev, .no, .ev, .yes, .ev, .ev, .yes]) (asm := [decide ((ipB x ++ slashB).size + (digB b).size ≤ (9223372036854775807 : Nat)) = true, CDG.pre [.int .i64 b], beqV (.int .i64 b) (.int .i64 b) = true, decide ((ipB x).size + 1 ≤ (9223372036854775807 : Nat)) = true, CIP.pre [.int .u32 x], (!mayF x b) = false, CM.pre [.agg #[.int .u32 x, .int .i64 b]]]) (by kernel_rfl)
      ⟨decide_eq_true (by simp only [ByteArray.size_append]; omega), ⟨_, rfl, b0, by omega⟩, by simp [beqV], decide_eq_true (by omega), ⟨_, rfl, h0, h1⟩, by rw [hm]; rfl, ⟨_, _, rfl, h0, h1⟩, trivial⟩
  · rw [if_neg hm]
    exact path_call refz1 (toks := [.ev, .yes]) (asm := [(!mayF x b) = true, CM.pre [.agg #[.int .u32 x, .int .i64 b]]]) (by kernel_rfl) ⟨by simp [hm], ⟨_, _, rfl, h0, h1⟩, trivial⟩
def CTX : FC := ⟨8, fun l => ∃ x b, l = [.agg #[.int .u32 x, .int .i64 b]] ∧ 0 ≤ x ∧ x < 4294967296, fun l => match l with | [.agg ⟨[.int _ x, .int _ b]⟩] => .string (txB x b) | _ => undef, []⟩
theorem CTX_good : CTX.Good Tryz.prog ovz1 st0 := ⟨by kernel_rfl, fun args ⟨x, b, e, h0, h1⟩ => by subst e; exact ⟨rfl, rfl, 1000, Ftx_all x b h0 h1⟩⟩
end Go.Proofs.YtgmojlibppmfhaaGreatDoor

/- Runs of the abstract interpreter, part 34: by an AI agent. -/
import Derived.Test.YtgmojlibppmfhaaDoorPart33

namespace Go.Proofs.YtgmojlibppmfhaaDoor
open Go Go.Ai
/-! ### how many bytes bits need -/
def szF (b : Int) : Int := (b + 7) / 8
theorem F53_all (b : Int) (h0 : 0 ≤ b) (h1 : b ≤ 1000) : ∃ st', Go.Ai.call cx ovp2 1000 53 [.int .i64 b] ⟨keepIds st0.hp [], st0.ct⟩ = some (.int .i64 (szF b), st') :=
  path_call refp2 (toks := [.yes, .ev, .yes, .yes]) (asm := [decide ((-9223372036854775808 : Int) ≤ (b + 7) / 8 ∧ (b + 7) / 8 ≤ (9223372036854775807 : Int)) = true, decide ((0 : Int) ≤ b + 7 ∧ (0 : Int) < (8 : Int)) = true, decide ((-9223372036854775808 : Int) ≤ b + 7 ∧ b + 7 ≤ (9223372036854775807 : Int)) = true]) (by kernel_rfl)
    ⟨decide_eq_true (by omega), decide_eq_true (by omega), decide_eq_true (by omega), trivial⟩
def C53 : FC := ⟨53, fun l => ∃ b, l = [.int .i64 b] ∧ 0 ≤ b ∧ b ≤ 1000, fun l => match l with | [.int _ b] => .int .i64 (szF b) | _ => undef, []⟩
theorem C53_good : C53.Good Tryd.prog ovp2 st0 := ⟨by kernel_rfl, fun args ⟨b, e, h0, h1⟩ => by subst e; exact ⟨rfl, rfl, 1000, F53_all b h0 h1⟩⟩
end Go.Proofs.YtgmojlibppmfhaaDoor

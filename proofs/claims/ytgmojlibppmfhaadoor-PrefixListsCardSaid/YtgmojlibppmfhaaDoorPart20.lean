/- Runs of the abstract interpreter, part 20: by an AI agent. -/
import Derived.Test.YtgmojlibppmfhaaDoorPart19

namespace Go.Proofs.YtgmojlibppmfhaaDoor
open Go Go.Ai
/-! ### the other reference's row -/
noncomputable def c51 : Code := loopAt Tryd.prog 51 0
noncomputable def L51 : LC where
  c := c51
  nt := 64
  keys := [0, 1, 6, 7]
  outs := [6, 7]
  pre := fun l => ∃ s a n m, l = [.string s, .int .i64 a, .int .i64 n, .int .i64 m] ∧ s.size ≤ 1000 ∧ 0 ≤ a ∧ a ≤ 1000 ∧ 0 ≤ m ∧ m ≤ 11 ∧ 0 ≤ n ∧ n < ((10 ^ m.toNat : Nat) : Int)
  res := fun l => match l with
    | [.string s, .int _ a, .int _ n, .int _ m] => (.exit 0, [.int .i64 (rowR s a (11 - m).toNat n m).1, .int .i64 (rowR s a (11 - m).toNat n m).2])
    | _ => (.normal, [])
  ids := []
end Go.Proofs.YtgmojlibppmfhaaDoor

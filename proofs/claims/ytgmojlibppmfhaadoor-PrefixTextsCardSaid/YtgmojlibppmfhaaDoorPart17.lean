/- Runs of the abstract interpreter, part 17: by an AI agent. -/
import Derived.Test.YtgmojlibppmfhaaDoorPart16

namespace Go.Proofs.YtgmojlibppmfhaaDoor
open Go Go.Ai
/-! ### strings.Split at points: the loop -/
def rowS (cs : List Value) : AObj := .row 9 cs false true
def AllStr (cs : List Value) : Prop := ∀ v ∈ cs, ∃ s, v = .string s
def spl : Nat → ByteArray → Nat → List Value → ByteArray × Nat × List Value
  | 0, s, i, cs => (s, i, cs)
  | k + 1, s, i, cs => if iS s < 0 then (s, i, cs) else spl k (lS s) (i + 1) (setAt cs i [.string (fS s)])
noncomputable def L69 : ML where
  c := c69
  nt := 66
  keys := [0, 1, 2, 3, 9, 10]
  outs := [0, 10]
  ids := []
  s0 := 12
  n0 := 12
  n1 := 12
  X := ByteArray × Nat × List Value
  hv := fun x => [.string x.1, .string dotS, .int .i64 0, .int .i64 ((x.2.2.length : Int) - 1), .slice (some ⟨11, 0, none⟩) x.2.2.length x.2.2.length, .int .i64 x.2.1]
  ho := fun x => [(11, rowS x.2.2)]
  pre := fun x => x.1.size ≤ 1000 ∧ AllStr x.2.2 ∧ x.2.1 + 1 ≤ x.2.2.length ∧ x.2.2.length ≤ 2000
  ex := fun _ => .exit 0
  rv := fun x => [.string (spl (x.2.2.length - 1 - x.2.1) x.1 x.2.1 x.2.2).1, .int .i64 (spl (x.2.2.length - 1 - x.2.1) x.1 x.2.1 x.2.2).2.1]
  ro := fun x => [(11, rowS (spl (x.2.2.length - 1 - x.2.1) x.1 x.2.1 x.2.2).2.2)]
  get := fun vs hp => match vs with
    | [.string s, _, _, _, .slice (some a) _ _, .int _ i] => match hp.get a.block with
      | some (.row _ cs _ _) => some (true, fun _ => ((s, i.toNat, cs), [(11, .id a.block)]))
      | _ => none
    | _ => none
end Go.Proofs.YtgmojlibppmfhaaDoor

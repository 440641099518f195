/- Runs of the abstract interpreter, part 13: by an AI agent. -/
import Derived.Test.YtgmojlibppmfhaaDoorPart12

namespace Go.Proofs.YtgmojlibppmfhaaDoor
open Go Go.Ai
/-! ### prefix.number: Atoi's loop -/
noncomputable def c93 : Code := loopAt Tryd.prog 93 0
noncomputable def c69 : Code := loopAt Tryd.prog 69 0
noncomputable def L93 : ML where
  c := c93
  nt := 77
  keys := [6, 47, 48, 49]
  outs := [6]
  ids := []
  s0 := 12
  n0 := 12
  n1 := 12
  X := ByteArray × Nat × Int
  hv := fun x => [.int .i64 x.2.2, .slice (some ⟨11, 0, none⟩) x.1.size openCap, .int .i64 x.1.size, .int .i64 x.2.1]
  ho := fun x => [(11, rowB x.1)]
  pre := fun x => allD x.1 ∧ x.1.size ≤ 10 ∧ x.2.1 ≤ x.1.size ∧ 0 ≤ x.2.2 ∧ x.2.2 < ((10 ^ x.2.1 : Nat) : Int)
  ex := fun _ => .exit 0
  rv := fun x => [.int .i64 (valN x.1 (x.1.size - x.2.1) x.2.1 x.2.2)]
  ro := fun x => [(11, rowB x.1)]
  get := fun vs hp => match vs with
    | [.int _ n, .slice (some a) _ _, _, .int _ i] => match hp.get a.block with
      | some (.row _ cs _ _) => some (true, fun _ => ((⟨⟨cs.map toU8⟩⟩, i.toNat, n), [(11, .id a.block)]))
      | _ => none
    | _ => none
end Go.Proofs.YtgmojlibppmfhaaDoor

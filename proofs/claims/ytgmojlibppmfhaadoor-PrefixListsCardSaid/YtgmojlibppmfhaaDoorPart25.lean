/- Runs of the abstract interpreter, part 25: by an AI agent. -/
import Derived.Test.YtgmojlibppmfhaaDoorPart24

namespace Go.Proofs.YtgmojlibppmfhaaDoor
open Go Go.Ai
/-! ### the reference's address: its loop -/
noncomputable def c49 : Code := loopAt Tryd.prog 49 0
def adrR (s : ByteArray) : Nat → Nat → Int → Int → Bool → Bool × Int × Int × Bool
  | 0, _, a, x, f => (true, a, x, f)
  | j + 1, k, a, x, f =>
    if 0 < k ∧ ¬ (a < s.size ∧ byteAt s a.toNat = 46) then (false, a, x, f)
    else if rowM s (if 0 < k then a + 1 else a) = 0 then (false, (if 0 < k then a + 1 else a), x, f)
    else adrR s j (k + 1) ((if 0 < k then a + 1 else a) + rowM s (if 0 < k then a + 1 else a)) (256 * x + rowN s (if 0 < k then a + 1 else a) % 256)
      (if 255 < rowN s (if 0 < k then a + 1 else a) then false else f)
def exB (id : Nat) : Bool → Ex
  | true => .exit id
  | false => .ret
structure A49 where
  s : ByteArray
  a : Int
  x : Int
  f : Bool
  k : Nat
  ok : Bool
noncomputable def L49 : ML where
  c := c49
  nt := 51
  keys := [0, 2, 3, 4, 5, 6, 7, 8]
  outs := [2, 3, 4, 5, 6, 7]
  ids := []
  s0 := 11
  n0 := 11
  n1 := 11
  X := A49
  hv := fun x => [.string x.s, .int .u32 0, .int .i64 0, .bool false, .int .i64 x.a, .int .i64 x.x, .bool x.f, .int .i64 (x.k : Int)]
  ho := fun _ => []
  pre := fun x => x.s.size ≤ 1000 ∧ 0 ≤ x.a ∧ x.a ≤ x.s.size ∧ 0 ≤ x.x ∧ x.x < ((256 ^ x.k : Nat) : Int) ∧ x.k ≤ 4 ∧ (adrR x.s (4 - x.k) x.k x.a x.x x.f).1 = x.ok
  ex := fun x => exB 0 x.ok
  rv := fun x => [.int .u32 0, .int .i64 0, .bool false, .int .i64 (adrR x.s (4 - x.k) x.k x.a x.x x.f).2.1, .int .i64 (adrR x.s (4 - x.k) x.k x.a x.x x.f).2.2.1, .bool (adrR x.s (4 - x.k) x.k x.a x.x x.f).2.2.2]
  ro := fun _ => []
  get := fun vs _ => match vs with
    | [.string s, _, _, _, .int _ a, .int _ x, .bool f, .int _ k] => some ((adrR s (4 - k.toNat) k.toNat a x f).1, fun c => (⟨s, a, x, f, k.toNat, c⟩, []))
    | _ => none
end Go.Proofs.YtgmojlibppmfhaaDoor

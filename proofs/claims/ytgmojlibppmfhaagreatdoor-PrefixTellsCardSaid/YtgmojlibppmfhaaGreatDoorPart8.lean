/- Runs of the abstract interpreter, part 8: by an AI agent. -/
import Derived.Test.YtgmojlibppmfhaaGreatDoorPart7

namespace Go.Proofs.YtgmojlibppmfhaaGreatDoor
open Go Go.Ai
/-- the first loop's rounds -/
def firstLoop : Code → Option Code
  | .loop a => some a
  | .seq a b => match firstLoop a with
    | some c => some c
    | none => firstLoop b
  | .cond _ a b => match firstLoop a with
    | some c => some c
    | none => firstLoop b
  | .block _ a => firstLoop a
  | .scope a => firstLoop a
  | _ => none
def loopOf (P : Program) (f : Nat) : Code := match P.funcs[f]? with
  | some fn => match fn.body with
    | some c => match firstLoop c with
      | some a => a
      | none => .skip
    | none => .skip
  | none => .skip
noncomputable def c29 : Code := loopOf Tryz.prog 29
end Go.Proofs.YtgmojlibppmfhaaGreatDoor

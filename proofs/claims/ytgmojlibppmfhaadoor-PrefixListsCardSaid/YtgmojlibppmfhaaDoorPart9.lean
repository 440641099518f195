/- Runs of the abstract interpreter, part 9: by an AI agent. -/
import Derived.Test.YtgmojlibppmfhaaDoorPart8

namespace Go.Proofs.YtgmojlibppmfhaaDoor
open Go Go.Ai
/-! ### the loops' codes -/
def allLoops : Code → List Code
  | .loop a => a :: allLoops a
  | .seq a b => allLoops a ++ allLoops b
  | .cond _ a b => allLoops a ++ allLoops b
  | .block _ a => allLoops a
  | .scope a => allLoops a
  | _ => []
def loopAt (P : Program) (f k : Nat) : Code := match P.funcs[f]? with
  | some fn => match fn.body with
    | some c => (allLoops c).getD k .skip
    | none => .skip
  | none => .skip
noncomputable def c90 : Code := loopAt Tryd.prog 90 0
noncomputable def c89 : Code := loopAt Tryd.prog 89 0
noncomputable def c99 : Code := loopAt Tryd.prog 99 0
noncomputable def c66 : Code := loopAt Tryd.prog 66 0
/-- which bytes are digits -/
def digCells : List Value := List.replicate 48 (.bool false) ++ List.replicate 10 (.bool true) ++ List.replicate 198 (.bool false)
def asObj : AObj := .row 135 digCells false true
noncomputable def ovO0 : OvO := ovONone
theorem ref0 : OvRef ov0 ovO0 := ovONone_ref ov0_lp
noncomputable def stA : St := ⟨over0 (keepIds st0.hp []) [(st0.ct, asObj)], st0.ct + 1⟩
end Go.Proofs.YtgmojlibppmfhaaDoor

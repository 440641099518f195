/- Runs of the abstract interpreter, part 38: by an AI agent. -/
import Derived.Test.YtgmojlibppmfhaaDoorPart37

namespace Go.Proofs.YtgmojlibppmfhaaDoor
open Go Go.Ai
noncomputable def ovb1 : Ov := ovRows cx st0 [(Go.Ai.keyOf c26i 1, A26i.ml)] ovb0
noncomputable def ovOb1 : OvO := ovORows cx st0 [(Go.Ai.keyOf c26i 1, A26i.ml)] ovOb0
theorem refb1 : OvRef ovb1 ovOb1 := ovRows_ref refb0
theorem ovb1_ok : OvOk Tryd.prog ovb1 ∧ OvMono ovb1 ∧ OvIds ovb1 :=
  ovRows_all Tryd.checked.mixed ovb0_ok.1 ovb0_ok.2.1 ovb0_ok.2.2 ng_st0 (fun x h => by
    simp only [List.mem_singleton] at h; subst h; exact L26i_good)
end Go.Proofs.YtgmojlibppmfhaaDoor

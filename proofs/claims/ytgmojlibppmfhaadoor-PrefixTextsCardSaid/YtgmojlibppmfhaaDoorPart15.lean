/- Runs of the abstract interpreter, part 15: by an AI agent. -/
import Derived.Test.YtgmojlibppmfhaaDoorPart14

namespace Go.Proofs.YtgmojlibppmfhaaDoor
open Go Go.Ai
noncomputable def ovq1 : Ov := ovRows cx st0 [(Go.Ai.keyOf c93 1, L93)] ovn2
noncomputable def ovOq1 : OvO := ovORows cx st0 [(Go.Ai.keyOf c93 1, L93)] ovOn2
theorem refq1 : OvRef ovq1 ovOq1 := ovRows_ref refn2
theorem ovq1_ok : OvOk Tryd.prog ovq1 ∧ OvMono ovq1 ∧ OvIds ovq1 :=
  ovRows_all Tryd.checked.mixed ovn2_ok.1 ovn2_ok.2.1 ovn2_ok.2.2 ng_st0 (fun x h => by
    simp only [List.mem_cons, List.not_mem_nil, or_false] at h
    subst h; exact L93_good)
end Go.Proofs.YtgmojlibppmfhaaDoor

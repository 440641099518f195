/- Runs of the abstract interpreter, part 13: by an AI agent. -/
import Derived.Test.YtgmojlibppmfhaaDoorPart12

namespace Go.Proofs.YtgmojlibppmfhaaDoor
open Go Go.Ai
noncomputable def ls1 : List (Nat × ML) := [(Go.Ai.keyOf c90 1, L90), (Go.Ai.keyOf c89 1, L89), (Go.Ai.keyOf c99 1, L99)]
noncomputable def ovn1 : Ov := ovRows cx st0 ls1 ov0
noncomputable def ovOn1 : OvO := ovORows cx st0 ls1 ovO0
theorem refn1 : OvRef ovn1 ovOn1 := ovRows_ref ref0
theorem ng_st0 : (Cx.of Tryd.prog).ng ≤ st0.ct := of_decide_eq_true (by kernel_rfl)
theorem ovn1_ok : OvOk Tryd.prog ovn1 ∧ OvMono ovn1 ∧ OvIds ovn1 :=
  ovRows_all Tryd.checked.mixed ov0_ok.1 ov0_ok.2.1 ov0_ok.2.2 ng_st0 (fun x h => by
    simp only [ls1, List.mem_cons, List.not_mem_nil, or_false] at h
    rcases h with rfl | rfl | rfl
    · exact L90_good
    · exact L89_good
    · exact L99_good)
end Go.Proofs.YtgmojlibppmfhaaDoor

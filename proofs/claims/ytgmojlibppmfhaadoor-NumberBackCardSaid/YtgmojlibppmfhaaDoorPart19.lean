/- Runs of the abstract interpreter, part 19: by an AI agent. -/
import Derived.Test.YtgmojlibppmfhaaDoorPart18

namespace Go.Proofs.YtgmojlibppmfhaaDoor
open Go Go.Ai
def C124 : FC := ⟨124, fun l => ∃ n, l = [.int .u64 n] ∧ 0 ≤ n ∧ n < 4294967296, fun l => match l with | [.int _ n] => .int .i64 (lenF n) | _ => undef, []⟩
theorem C124_good : C124.Good Tryd.prog ov0 st0 := ⟨by kernel_rfl, fun args ⟨n, e, h0, h1⟩ => by subst e; exact ⟨rfl, rfl, 1000, F124_all n h0 h1⟩⟩
noncomputable def ov1 : Ov := ovWith st0 [C124] [] ov0
noncomputable def ovO1 : OvO := ovOWith st0 [C124] [] ovONone
theorem ref1 : OvRef ov1 ovO1 := ovWith_ref refb0
theorem ngb_st0 : (Cx.of Tryd.prog).ng ≤ st0.ct := Nat.le_of_ble_eq_true (by kernel_rfl)
theorem ov1_ok : OvOk Tryd.prog ov1 ∧ OvMono ov1 ∧ OvIds ov1 :=
  ⟨ovWith_ok Tryd.checked.mixed ov0_ok.1 ov0_ok.2.1 ov0_ok.2.2 ngb_st0 (fun C h => by simp at h; subst h; exact C124_good) (fun x h => by cases h),
   ovWith_mono ov0_ok.2.1 (fun x h => by cases h), ovWith_ids ov0_ok.2.2⟩
end Go.Proofs.YtgmojlibppmfhaaDoor

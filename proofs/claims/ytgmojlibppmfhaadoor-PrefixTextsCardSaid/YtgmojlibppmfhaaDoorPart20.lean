/- Runs of the abstract interpreter, part 20: by an AI agent. -/
import Derived.Test.YtgmojlibppmfhaaDoorPart19

namespace Go.Proofs.YtgmojlibppmfhaaDoor
open Go Go.Ai
/-! ### how many points -/
def cntI (s : ByteArray) (c : Int) : Int := cntByte (UInt8.ofNat c.toNat) s.data.toList 0
def C106 : FC := ⟨106, fun l => ∃ s c, l = [.string s, .int .u8 c], fun l => match l with | [.string s, .int _ c] => .int .i64 (cntI s c) | _ => undef, []⟩
theorem C106_good : C106.Good Tryd.prog ovq1 st0 := ⟨by kernel_rfl, fun args ⟨s, c, e⟩ => by
  subst e
  refine ⟨rfl, rfl, 1, ⟨keepIds st0.hp [], st0.ct⟩, ?_⟩
  have h : Go.Ai.call (Cx.of Tryd.prog) ovq1 1 106 [.string s, .int .u8 c] ⟨keepIds st0.hp [], st0.ct⟩ = some (goInt (cntByte (UInt8.ofNat c.toNat) s.data.toList 0), ⟨keepIds st0.hp [], st0.ct⟩) := by kernel_rfl
  exact h⟩
noncomputable def ovq2 : Ov := ovRows cx st0 [(Go.Ai.keyOf c69 1, L69)] ovn2
noncomputable def ovOq2 : OvO := ovORows cx st0 [(Go.Ai.keyOf c69 1, L69)] ovOn2
theorem refq2 : OvRef ovq2 ovOq2 := ovRows_ref refn2
theorem ovq2_ok : OvOk Tryd.prog ovq2 ∧ OvMono ovq2 ∧ OvIds ovq2 :=
  ovRows_all Tryd.checked.mixed ovn2_ok.1 ovn2_ok.2.1 ovn2_ok.2.2 ng_st0 (fun x h => by
    simp only [List.mem_cons, List.not_mem_nil, or_false] at h
    subst h; exact L69_good)
noncomputable def ovq3 : Ov := ovWith st0 [C48, C106] [] ovq2
noncomputable def ovOq3 : OvO := ovOWith st0 [C48, C106] [] ovOq2
theorem refq3 : OvRef ovq3 ovOq3 := ovWith_ref refq2
theorem ovq3_ok : OvOk Tryd.prog ovq3 ∧ OvMono ovq3 ∧ OvIds ovq3 :=
  ⟨ovWith_ok3 Tryd.checked.mixed ovq2_ok.1 ng_st0 (fun C h => by
      simp only [List.mem_cons, List.not_mem_nil, or_false] at h
      rcases h with rfl | rfl
      · exact ⟨ovq1, ovq1_ok.1, ovq1_ok.2.1, ovq1_ok.2.2, C48_good⟩
      · exact ⟨ovq1, ovq1_ok.1, ovq1_ok.2.1, ovq1_ok.2.2, C106_good⟩),
   ovWith_mono ovq2_ok.2.1 (fun x h => by cases h), ovWith_ids ovq2_ok.2.2⟩
end Go.Proofs.YtgmojlibppmfhaaDoor

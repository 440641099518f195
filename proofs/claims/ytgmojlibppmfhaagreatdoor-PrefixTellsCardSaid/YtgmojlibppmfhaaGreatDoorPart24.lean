/- Runs of the abstract interpreter, part 24: by an AI agent. -/
import Derived.Test.YtgmojlibppmfhaaGreatDoorPart23

namespace Go.Proofs.YtgmojlibppmfhaaGreatDoor
open Go Go.Ai
def octs (x : Int) : Value := .agg ⟨[.int .u8 (octF x 0), .int .u8 (octF x 1), .int .u8 (octF x 2), .int .u8 (octF x 3)]⟩
theorem Fby_3 (x : Int) (h : Holds [decide ((0 : Int) ≤ x ∧ x ≤ 255) = false, decide ((0 : Int) ≤ x / 256 ∧ x / 256 ≤ 255) = false, decide ((0 : Int) ≤ x / 65536 ∧ x / 65536 ≤ 255) = false, decide ((0 : Int) ≤ x / 16777216 ∧ x / 16777216 ≤ 255) = true]) : ∃ st', Go.Ai.call cx ovz2 1000 30 [.int .u32 x] ⟨keepIds st0.hp [], st0.ct⟩ = some (.agg ⟨[.int .u8 (x / 16777216), .int .u8 (IntKind.u8.wrap (x / 65536)), .int .u8 (IntKind.u8.wrap (x / 256)), .int .u8 (IntKind.u8.wrap x)]⟩, st') :=
  path_call refz2 (toks := [.ev, .yes, .ev, .no, .ev, .no, .no, .ev]) (by kernel_rfl) h
theorem Fby_2 (x : Int) (h : Holds [decide ((0 : Int) ≤ x ∧ x ≤ 255) = false, decide ((0 : Int) ≤ x / 256 ∧ x / 256 ≤ 255) = false, decide ((0 : Int) ≤ x / 65536 ∧ x / 65536 ≤ 255) = true, decide ((0 : Int) ≤ x / 16777216 ∧ x / 16777216 ≤ 255) = true]) : ∃ st', Go.Ai.call cx ovz2 1000 30 [.int .u32 x] ⟨keepIds st0.hp [], st0.ct⟩ = some (.agg ⟨[.int .u8 (x / 16777216), .int .u8 (x / 65536), .int .u8 (IntKind.u8.wrap (x / 256)), .int .u8 (IntKind.u8.wrap x)]⟩, st') :=
  path_call refz2 (toks := [.ev, .yes, .ev, .yes, .ev, .no, .no, .ev]) (by kernel_rfl) h
theorem Fby_1 (x : Int) (h : Holds [decide ((0 : Int) ≤ x ∧ x ≤ 255) = false, decide ((0 : Int) ≤ x / 256 ∧ x / 256 ≤ 255) = true, decide ((0 : Int) ≤ x / 65536 ∧ x / 65536 ≤ 255) = true, decide ((0 : Int) ≤ x / 16777216 ∧ x / 16777216 ≤ 255) = true]) : ∃ st', Go.Ai.call cx ovz2 1000 30 [.int .u32 x] ⟨keepIds st0.hp [], st0.ct⟩ = some (.agg ⟨[.int .u8 (x / 16777216), .int .u8 (x / 65536), .int .u8 (x / 256), .int .u8 (IntKind.u8.wrap x)]⟩, st') :=
  path_call refz2 (toks := [.ev, .yes, .ev, .yes, .ev, .yes, .no, .ev]) (by kernel_rfl) h
theorem Fby_0 (x : Int) (h : Holds [decide ((0 : Int) ≤ x ∧ x ≤ 255) = true, decide ((0 : Int) ≤ x / 256 ∧ x / 256 ≤ 255) = true, decide ((0 : Int) ≤ x / 65536 ∧ x / 65536 ≤ 255) = true, decide ((0 : Int) ≤ x / 16777216 ∧ x / 16777216 ≤ 255) = true]) : ∃ st', Go.Ai.call cx ovz2 1000 30 [.int .u32 x] ⟨keepIds st0.hp [], st0.ct⟩ = some (.agg ⟨[.int .u8 (x / 16777216), .int .u8 (x / 65536), .int .u8 (x / 256), .int .u8 x]⟩, st') :=
  path_call refz2 (toks := [.ev, .yes, .ev, .yes, .ev, .yes, .yes, .ev]) (by kernel_rfl) h
theorem wrap_u8 (x : Int) : IntKind.u8.wrap x = x % 256 := by simp [IntKind.wrap, IntKind.bits, IntKind.signed]
theorem Fby_all (x : Int) (h0 : 0 ≤ x) (h1 : x < 4294967296) : ∃ st', Go.Ai.call cx ovz2 1000 30 [.int .u32 x] ⟨keepIds st0.hp [], st0.ct⟩ = some (octs x, st') := by
  have D {p : Prop} [Decidable p] (h : p) : decide p = true := decide_eq_true h
  have N {p : Prop} [Decidable p] (h : ¬ p) : decide p = false := decide_eq_false h
  have e3 : octF x 0 = x / 16777216 := by have : octF x 0 = x / 256 / 256 / 256 % 256 := rfl; omega
  have e2 : octF x 1 = x / 65536 % 256 := by have : octF x 1 = x / 256 / 256 % 256 := rfl; omega
  have e1 : octF x 2 = x / 256 % 256 := rfl
  have e0 : octF x 3 = x % 256 := rfl
  unfold octs
  rw [e3, e2, e1, e0]
  by_cases a : x ≤ 255
  · have := Fby_0 x ⟨D (by omega), D (by omega), D (by omega), D (by omega), trivial⟩
    rwa [show x / 65536 % 256 = x / 65536 by omega, show x / 256 % 256 = x / 256 by omega, show x % 256 = x by omega]
  · by_cases b : x / 256 ≤ 255
    · have := Fby_1 x ⟨N (by omega), D (by omega), D (by omega), D (by omega), trivial⟩
      rw [wrap_u8] at this
      rwa [show x / 65536 % 256 = x / 65536 by omega, show x / 256 % 256 = x / 256 by omega]
    · by_cases c : x / 65536 ≤ 255
      · have := Fby_2 x ⟨N (by omega), N (by omega), D (by omega), D (by omega), trivial⟩
        rw [wrap_u8, wrap_u8] at this
        rwa [show x / 65536 % 256 = x / 65536 by omega]
      · have := Fby_3 x ⟨N (by omega), N (by omega), N (by omega), D (by omega), trivial⟩
        rwa [wrap_u8, wrap_u8, wrap_u8] at this
def CBY : FC := ⟨30, fun l => ∃ x, l = [.int .u32 x] ∧ 0 ≤ x ∧ x < 4294967296, fun l => match l with | [.int _ x] => octs x | _ => undef, []⟩
theorem CBY_good : CBY.Good Tryz.prog ovz2 st0 := ⟨by kernel_rfl, fun args ⟨x, e, h0, h1⟩ => by subst e; exact ⟨rfl, rfl, 1000, Fby_all x h0 h1⟩⟩
noncomputable def ovz3 : Ov := ovWith st0 [CBY] [] ovz2
noncomputable def ovOz3 : OvO := ovOWith st0 [CBY] [] ovOz2
theorem refz3 : OvRef ovz3 (splitO [23] ovOz3) := splitO_ref (ovWith_ref refz2)
theorem ovz3_ok : OvOk Tryz.prog ovz3 ∧ OvMono ovz3 ∧ OvIds ovz3 :=
  ⟨ovWith_ok Tryz.checked.mixed ovz2_ok.1 ovz2_ok.2.1 ovz2_ok.2.2 ng_st0 (fun C h => by
      simp only [List.mem_cons, List.not_mem_nil, or_false] at h
      subst h; exact CBY_good) (fun x h => by cases h),
   ovWith_mono ovz2_ok.2.1 (fun x h => by cases h), ovWith_ids ovz2_ok.2.2⟩
end Go.Proofs.YtgmojlibppmfhaaGreatDoor

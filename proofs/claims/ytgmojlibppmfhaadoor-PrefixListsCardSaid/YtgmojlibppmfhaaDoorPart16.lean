/- Runs of the abstract interpreter, part 16: by an AI agent. -/
import Derived.Test.YtgmojlibppmfhaaDoorPart15

namespace Go.Proofs.YtgmojlibppmfhaaDoor
open Go Go.Ai
/-! ### where a byte lies -/
def ixI (s : ByteArray) (c : Int) : Int := match idxByte (UInt8.ofNat c.toNat) s.data.toList 0 with
  | some i => i
  | none => -1
theorem orNeg_ix (s : ByteArray) (c : Int) : orNeg (idxByte (UInt8.ofNat c.toNat) s.data.toList 0) = .int .i64 (ixI s c) := by
  unfold ixI
  cases idxByte (UInt8.ofNat c.toNat) s.data.toList 0 <;> rfl
def C133 : FC := ⟨133, fun l => ∃ s c, l = [.string s, .int .u8 c], fun l => match l with | [.string s, .int _ c] => .int .i64 (ixI s c) | _ => undef, []⟩
theorem C133_good : C133.Good Tryd.prog ovn1 st0 := ⟨by kernel_rfl, fun args ⟨s, c, e⟩ => by
  subst e
  refine ⟨rfl, rfl, 1, ⟨keepIds st0.hp [], st0.ct⟩, ?_⟩
  have h : Go.Ai.call (Cx.of Tryd.prog) ovn1 1 133 [.string s, .int .u8 c] ⟨keepIds st0.hp [], st0.ct⟩ = some (orNeg (idxByte (UInt8.ofNat c.toNat) s.data.toList 0), ⟨keepIds st0.hp [], st0.ct⟩) := by kernel_rfl
  exact h.trans (by rw [orNeg_ix]; rfl)⟩
noncomputable def ovn2 : Ov := ovWith st0 [C65, C133] [] ovn1
noncomputable def ovOn2 : OvO := ovOWith st0 [C65, C133] [] ovOn1
theorem refn2 : OvRef ovn2 ovOn2 := ovWith_ref refn1
theorem ovn2_ok : OvOk Tryd.prog ovn2 ∧ OvMono ovn2 ∧ OvIds ovn2 :=
  ⟨ovWith_ok Tryd.checked.mixed ovn1_ok.1 ovn1_ok.2.1 ovn1_ok.2.2 ng_st0 (fun C h => by
      simp only [List.mem_cons, List.not_mem_nil, or_false] at h
      rcases h with rfl | rfl
      · exact C65_good
      · exact C133_good) (fun x h => by cases h),
   ovWith_mono ovn1_ok.2.1 (fun x h => by cases h), ovWith_ids ovn1_ok.2.2⟩
/-! ### the reference's row of digits -/
def rowR (s : ByteArray) (a : Int) : Nat → Int → Int → Int × Int
  | 0, n, m => (n, m)
  | k + 1, n, m => if a + m < s.size ∧ isD (byteAt s (a + m).toNat) = true then rowR s a k (10 * n + (byteAt s (a + m).toNat - 48)) (m + 1) else (n, m)
noncomputable def L66 : LC where
  c := c66
  nt := 60
  keys := [0, 1, 6, 7]
  outs := [6, 7]
  pre := fun l => ∃ s a n m, l = [.string s, .int .i64 a, .int .i64 n, .int .i64 m] ∧ s.size ≤ 1000 ∧ 0 ≤ a ∧ a ≤ 1000 ∧ 0 ≤ m ∧ m ≤ 11 ∧ 0 ≤ n ∧ n < ((10 ^ m.toNat : Nat) : Int)
  res := fun l => match l with
    | [.string s, .int _ a, .int _ n, .int _ m] => (.exit 0, [.int .i64 (rowR s a (11 - m).toNat n m).1, .int .i64 (rowR s a (11 - m).toNat n m).2])
    | _ => (.normal, [])
  ids := []
end Go.Proofs.YtgmojlibppmfhaaDoor

/- Runs of the abstract interpreter, part 22: by an AI agent. -/
import Derived.Test.YtgmojlibppmfhaaDoorPart21

namespace Go.Proofs.YtgmojlibppmfhaaDoor
open Go Go.Ai
def C40 : FC := ⟨40, fun l => ∃ n, l = [.int .u32 n] ∧ 0 ≤ n ∧ n < 4294967296, fun l => match l with | [.int _ n] => .string (decB n) | _ => undef, [2]⟩
theorem C40_good : C40.Good Tryd.prog ov2 st0 := ⟨by kernel_rfl, fun args ⟨n, e, h0, h1⟩ => by subst e; exact ⟨rfl, rfl, 1000, F40_all n h0 h1⟩⟩
noncomputable def ov3 : Ov := ovWith st0 [C40] [] ov2
noncomputable def ovO3 : OvO := ovOWith st0 [C40] [] ovO2
theorem ref3 : OvRef ov3 ovO3 := ovWith_ref ref2
theorem ov3_ok : OvOk Tryd.prog ov3 ∧ OvMono ov3 ∧ OvIds ov3 :=
  ⟨ovWith_ok Tryd.checked.mixed ov2_ok.1 ov2_ok.2.1 ov2_ok.2.2 ngb_st0 (fun C h => by simp at h; subst h; exact C40_good) (fun x h => by cases h),
   ovWith_mono ov2_ok.2.1 (fun x h => by cases h), ovWith_ids ov2_ok.2.2⟩

def dot1 : ByteArray := ⟨⟨[46]⟩⟩
def dotB (n : Int) : ByteArray := if n ≤ 65535 then decB n else decB (n / 65536) ++ dot1 ++ decB (n % 65536)
theorem decLf_len : ∀ (f k : Nat), (decLf f k).length ≤ f
  | 0, _ => by simp [decLf]
  | f + 1, k => by
    simp only [decLf]
    split
    · simp
    · have := decLf_len f (k / 10); simp; omega
theorem decB_size (n : Int) : (decB n).size ≤ 20 := decLf_len 20 _
theorem size_app (a b : ByteArray) : (a ++ b).size = a.size + b.size := ByteArray.size_append
theorem bits_ff (n : Int) (h0 : 0 ≤ n) (h1 : n < 4294967296) : bitsI .and .u32 n 65535 = n % 65536 := by
  obtain ⟨k, rfl⟩ : ∃ k : Nat, n = k := ⟨n.toNat, by omega⟩
  have : (BitVec.ofInt 32 (k : Int) &&& BitVec.ofInt 32 65535).toNat = k % 65536 := by
    rw [BitVec.toNat_and]
    have e1 : (BitVec.ofInt 32 (k : Int)).toNat = k := by simp; omega
    have e2 : (BitVec.ofInt 32 65535).toNat = 65535 := by decide
    rw [e1, e2]
    exact Nat.and_two_pow_sub_one_eq_mod k 16
  show IntKind.u32.wrap ((BitVec.ofInt 32 (k : Int) &&& BitVec.ofInt 32 65535).toNat : Int) = _
  rw [this]
  have h2 := wrap_in (k := .u32) (z := ((k % 65536 : Nat) : Int)) ⟨by simp [IntKind.min, IntKind.signed]; omega, by simp [IntKind.max, IntKind.signed, IntKind.bits]; omega⟩
  rw [h2]; omega
end Go.Proofs.YtgmojlibppmfhaaDoor

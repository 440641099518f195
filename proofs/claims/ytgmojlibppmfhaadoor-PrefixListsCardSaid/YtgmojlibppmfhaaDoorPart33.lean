/- Runs of the abstract interpreter, part 33: by an AI agent. -/
import Derived.Test.YtgmojlibppmfhaaDoorPart32

namespace Go.Proofs.YtgmojlibppmfhaaDoor
open Go Go.Ai
def octF (x k : Int) : Int := if k = 3 then x % 256 else if k = 2 then x / 256 % 256 else if k = 1 then x / 256 / 256 % 256 else x / 256 / 256 / 256 % 256
/-- a digit's byte, as the reference makes it -/
def dg (n : Int) : UInt8 := UInt8.ofNat ((48 : Int) + n % (10 : Int)).toNat
/-- the digits of a byte -/
def digB (n : Int) : ByteArray := if n < 10 then ⟨⟨[dg n]⟩⟩ else if n < 100 then ⟨⟨[dg (n / 10), dg n]⟩⟩ else ⟨⟨[dg (n / 10 / 10), dg (n / 10), dg n]⟩⟩
def dotB1 : ByteArray := ⟨⟨[46]⟩⟩
def ipB (x : Int) : ByteArray := digB (octF x 0) ++ dotB1 ++ digB (octF x 1) ++ dotB1 ++ digB (octF x 2) ++ dotB1 ++ digB (octF x 3)
theorem digB_size (n : Int) : 1 ≤ (digB n).size ∧ (digB n).size ≤ 3 := by
  unfold digB
  split
  · exact ⟨by show 1 ≤ 1; omega, by show 1 ≤ 3; omega⟩
  · split
    · exact ⟨by show 1 ≤ 2; omega, by show 2 ≤ 3; omega⟩
    · exact ⟨by show 1 ≤ 3; omega, by show 3 ≤ 3; omega⟩
theorem octF_range (x k : Int) : 0 ≤ octF x k ∧ octF x k < 256 := by unfold octF; repeat' split <;> omega
def slashB : ByteArray := ⟨⟨[47]⟩⟩
def txB (x b : Int) : ByteArray := if mayF x b = true then ipB x ++ slashB ++ digB b else ⟨⟨[]⟩⟩
theorem ipB_size (x : Int) : (ipB x).size ≤ 15 := by
  have s0 := digB_size (octF x 0)
  have s1 := digB_size (octF x 1)
  have s2 := digB_size (octF x 2)
  have s3 := digB_size (octF x 3)
  have d1 : dotB1.size = 1 := rfl
  unfold ipB; simp only [ByteArray.size_append]; omega

/-! strconv.Itoa of a byte's number: each of the 256 -/
noncomputable def itoaOk (f : Nat) (n : Nat) : Bool := match Go.Ai.call cx ovp3 1000 f [.int .i64 (n : Int)] ⟨keepIds st0.hp [2], st0.ct⟩ with
  | some (v, _) => beqV (.string (digB (n : Int))) v
  | none => false
noncomputable def upto (f : Nat) : Nat → Nat → Bool
  | _, 0 => true
  | n, k + 1 => itoaOk f n && upto f (n + 1) k
theorem upto_at {f : Nat} : ∀ (k n : Nat), upto f n k = true → ∀ i, n ≤ i → i < n + k → itoaOk f i = true
  | 0, n, _, i, h1, h2 => absurd h2 (by omega)
  | k + 1, n, h, i, h1, h2 => by
    unfold upto at h
    rw [Bool.and_eq_true] at h
    rcases Nat.eq_or_lt_of_le h1 with e | e
    · rw [← e]; exact h.1
    · exact upto_at k (n + 1) h.2 i e (by omega)
theorem itoa_0 : upto 56 0 64 = true := by kernel_rfl
theorem itoa_1 : upto 56 64 64 = true := by kernel_rfl
theorem itoa_2 : upto 56 128 64 = true := by kernel_rfl
theorem itoa_3 : upto 56 192 64 = true := by kernel_rfl
theorem itoa_all (n : Int) (h0 : 0 ≤ n) (h1 : n < 256) : ∃ st', Go.Ai.call cx ovp3 1000 56 [.int .i64 n] ⟨keepIds st0.hp [2], st0.ct⟩ = some (.string (digB n), st') := by
  obtain ⟨k, rfl⟩ := Int.eq_ofNat_of_zero_le h0
  have hk : itoaOk 56 k = true := by
    by_cases a : k < 64
    · exact upto_at _ _ itoa_0 k (by omega) (by omega)
    · by_cases b : k < 128
      · exact upto_at _ _ itoa_1 k (by omega) (by omega)
      · by_cases c : k < 192
        · exact upto_at _ _ itoa_2 k (by omega) (by omega)
        · exact upto_at _ _ itoa_3 k (by omega) (by omega)
  unfold itoaOk at hk
  split at hk
  · rename_i v st hc
    exact ⟨st, by rw [hc, beqV_eq _ _ hk]⟩
  · cases hk
def CIT : FC := ⟨56, fun l => ∃ n, l = [.int .i64 n] ∧ 0 ≤ n ∧ n < 256, fun l => match l with | [.int _ n] => .string (digB n) | _ => undef, [2]⟩
theorem CIT_good : CIT.Good Tryd.prog ovp3 st0 := ⟨by kernel_rfl, fun args ⟨n, e, h0, h1⟩ => by subst e; exact ⟨rfl, rfl, 1000, itoa_all n h0 h1⟩⟩
noncomputable def ovz2 : Ov := ovWith st0 [CIT] [] ovp3
noncomputable def ovOz2 : OvO := ovOWith st0 [CIT] [] ovOp3
theorem refz2 : OvRef ovz2 ovOz2 := ovWith_ref refp3
theorem ovz2_ok : OvOk Tryd.prog ovz2 ∧ OvMono ovz2 ∧ OvIds ovz2 :=
  ⟨ovWith_ok3 Tryd.checked.mixed ovp3_ok.1 ngc_st0 (fun C h => by
      simp only [List.mem_cons, List.not_mem_nil, or_false] at h
      subst h; exact ⟨_, ovp3_ok.1, ovp3_ok.2.1, ovp3_ok.2.2, CIT_good⟩),
   ovWith_mono ovp3_ok.2.1 (fun x h => by cases h), ovWith_ids ovp3_ok.2.2⟩

def octs (x : Int) : Value := .agg ⟨[.int .u8 (octF x 0), .int .u8 (octF x 1), .int .u8 (octF x 2), .int .u8 (octF x 3)]⟩
theorem Fby_3 (x : Int) (h : Holds [decide ((0 : Int) ≤ x ∧ x ≤ 255) = false, decide ((0 : Int) ≤ x / 256 ∧ x / 256 ≤ 255) = false, decide ((0 : Int) ≤ x / 65536 ∧ x / 65536 ≤ 255) = false, decide ((0 : Int) ≤ x / 16777216 ∧ x / 16777216 ≤ 255) = true]) : ∃ st', Go.Ai.call cx ovz2 1000 55 [.int .u32 x] ⟨keepIds st0.hp [], st0.ct⟩ = some (.agg ⟨[.int .u8 (x / 16777216), .int .u8 (IntKind.u8.wrap (x / 65536)), .int .u8 (IntKind.u8.wrap (x / 256)), .int .u8 (IntKind.u8.wrap x)]⟩, st') :=
  path_call refz2 (toks := [.ev, .yes, .ev, .no, .ev, .no, .no, .ev]) (by kernel_rfl) h
theorem Fby_2 (x : Int) (h : Holds [decide ((0 : Int) ≤ x ∧ x ≤ 255) = false, decide ((0 : Int) ≤ x / 256 ∧ x / 256 ≤ 255) = false, decide ((0 : Int) ≤ x / 65536 ∧ x / 65536 ≤ 255) = true, decide ((0 : Int) ≤ x / 16777216 ∧ x / 16777216 ≤ 255) = true]) : ∃ st', Go.Ai.call cx ovz2 1000 55 [.int .u32 x] ⟨keepIds st0.hp [], st0.ct⟩ = some (.agg ⟨[.int .u8 (x / 16777216), .int .u8 (x / 65536), .int .u8 (IntKind.u8.wrap (x / 256)), .int .u8 (IntKind.u8.wrap x)]⟩, st') :=
  path_call refz2 (toks := [.ev, .yes, .ev, .yes, .ev, .no, .no, .ev]) (by kernel_rfl) h
theorem Fby_1 (x : Int) (h : Holds [decide ((0 : Int) ≤ x ∧ x ≤ 255) = false, decide ((0 : Int) ≤ x / 256 ∧ x / 256 ≤ 255) = true, decide ((0 : Int) ≤ x / 65536 ∧ x / 65536 ≤ 255) = true, decide ((0 : Int) ≤ x / 16777216 ∧ x / 16777216 ≤ 255) = true]) : ∃ st', Go.Ai.call cx ovz2 1000 55 [.int .u32 x] ⟨keepIds st0.hp [], st0.ct⟩ = some (.agg ⟨[.int .u8 (x / 16777216), .int .u8 (x / 65536), .int .u8 (x / 256), .int .u8 (IntKind.u8.wrap x)]⟩, st') :=
  path_call refz2 (toks := [.ev, .yes, .ev, .yes, .ev, .yes, .no, .ev]) (by kernel_rfl) h
theorem Fby_0 (x : Int) (h : Holds [decide ((0 : Int) ≤ x ∧ x ≤ 255) = true, decide ((0 : Int) ≤ x / 256 ∧ x / 256 ≤ 255) = true, decide ((0 : Int) ≤ x / 65536 ∧ x / 65536 ≤ 255) = true, decide ((0 : Int) ≤ x / 16777216 ∧ x / 16777216 ≤ 255) = true]) : ∃ st', Go.Ai.call cx ovz2 1000 55 [.int .u32 x] ⟨keepIds st0.hp [], st0.ct⟩ = some (.agg ⟨[.int .u8 (x / 16777216), .int .u8 (x / 65536), .int .u8 (x / 256), .int .u8 x]⟩, st') :=
  path_call refz2 (toks := [.ev, .yes, .ev, .yes, .ev, .yes, .yes, .ev]) (by kernel_rfl) h
theorem wrap_u8 (x : Int) : IntKind.u8.wrap x = x % 256 := by simp [IntKind.wrap, IntKind.bits, IntKind.signed]
theorem Fby_all (x : Int) (h0 : 0 ≤ x) (h1 : x < 4294967296) : ∃ st', Go.Ai.call cx ovz2 1000 55 [.int .u32 x] ⟨keepIds st0.hp [], st0.ct⟩ = some (octs x, st') := by
  have D {p : Prop} [Decidable p] (h : p) : decide p = true := decide_eq_true h
  have N {p : Prop} [Decidable p] (h : ¬ p) : decide p = false := decide_eq_false h
  have e3 : octF x 0 = x / 16777216 := by have : octF x 0 = x / 256 / 256 / 256 % 256 := rfl; omega
  have e2 : octF x 1 = x / 65536 % 256 := by have : octF x 1 = x / 256 / 256 % 256 := rfl; omega
  have e1 : octF x 2 = x / 256 % 256 := rfl
  have e0 : octF x 3 = x % 256 := rfl
  unfold octs
  rw [e3, e2, e1, e0]
  by_cases a : x ≤ 255
  · have := Fby_0 x ⟨D (by omega), D (by omega), D (by omega), D (by omega), trivial⟩
    rwa [show x / 65536 % 256 = x / 65536 by omega, show x / 256 % 256 = x / 256 by omega, show x % 256 = x by omega]
  · by_cases b : x / 256 ≤ 255
    · have := Fby_1 x ⟨N (by omega), D (by omega), D (by omega), D (by omega), trivial⟩
      rw [wrap_u8] at this
      rwa [show x / 65536 % 256 = x / 65536 by omega, show x / 256 % 256 = x / 256 by omega]
    · by_cases c : x / 65536 ≤ 255
      · have := Fby_2 x ⟨N (by omega), N (by omega), D (by omega), D (by omega), trivial⟩
        rw [wrap_u8, wrap_u8] at this
        rwa [show x / 65536 % 256 = x / 65536 by omega]
      · have := Fby_3 x ⟨N (by omega), N (by omega), N (by omega), D (by omega), trivial⟩
        rwa [wrap_u8, wrap_u8, wrap_u8] at this
def CBY : FC := ⟨55, fun l => ∃ x, l = [.int .u32 x] ∧ 0 ≤ x ∧ x < 4294967296, fun l => match l with | [.int _ x] => octs x | _ => undef, []⟩
theorem CBY_good : CBY.Good Tryd.prog ovz2 st0 := ⟨by kernel_rfl, fun args ⟨x, e, h0, h1⟩ => by subst e; exact ⟨rfl, rfl, 1000, Fby_all x h0 h1⟩⟩
noncomputable def ovz3 : Ov := ovWith st0 [CBY] [] ovz2
noncomputable def ovOz3 : OvO := ovOWith st0 [CBY] [] ovOz2
theorem refz3 : OvRef ovz3 (splitO [56] ovOz3) := splitO_ref (ovWith_ref refz2)
theorem ovz3_ok : OvOk Tryd.prog ovz3 ∧ OvMono ovz3 ∧ OvIds ovz3 :=
  ⟨ovWith_ok Tryd.checked.mixed ovz2_ok.1 ovz2_ok.2.1 ovz2_ok.2.2 ngc_st0 (fun C h => by
      simp only [List.mem_cons, List.not_mem_nil, or_false] at h
      subst h; exact CBY_good) (fun x h => by cases h),
   ovWith_mono ovz2_ok.2.1 (fun x h => by cases h), ovWith_ids ovz2_ok.2.2⟩
end Go.Proofs.YtgmojlibppmfhaaDoor

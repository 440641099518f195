/- Runs of the abstract interpreter, part 21: by an AI agent. -/
import Derived.Test.YtgmojlibppmfhaaDoorPart20

namespace Go.Proofs.YtgmojlibppmfhaaDoor
open Go Go.Ai
theorem F40_p0 (n : Int) (h : Holds [(decide ((0 : Int) ≤ n ∧ n ≤ ↑(n + (1 : Int)).toNat)) = true, (decide ((0 : Int) ≤ n + (1 : Int) ∧ n + (1 : Int) ≤ (36 : Int))) = true, (decide ((-9223372036854775808 : Int) ≤ n + (1 : Int) ∧ n + (1 : Int) ≤ (9223372036854775807 : Int))) = true, (decide (n < (10 : Int))) = true, (decide ((-9223372036854775808 : Int) ≤ n ∧ n ≤ (9223372036854775807 : Int))) = true, (decide (n < (100 : Int))) = true, (decide ((0 : Int) ≤ n ∧ n ≤ (18446744073709551615 : Int))) = true]) : ∃ st', Go.Ai.call cx ov2 1000 40 [.int .u32 n] ⟨keepIds st0.hp [2], st0.ct⟩ = some (Value.string (digs36.extract n.toNat (n + (1 : Int)).toNat), st') :=
  path_call ref2 (toks := [.yes, .ev, .yes, .yes, .yes, .yes, .no, .yes, .no, .yes]) (by kernel_rfl) h
theorem F40_p1 (n : Int) (h : Holds [(decide ((0 : Int) ≤ n * (2 : Int) ∧ n * (2 : Int) ≤ ↑(n * (2 : Int) + (2 : Int)).toNat)) = true, (decide ((0 : Int) ≤ n * (2 : Int) + (2 : Int) ∧ n * (2 : Int) + (2 : Int) ≤ (200 : Int))) = true, (decide ((-9223372036854775808 : Int) ≤ n * (2 : Int) + (2 : Int) ∧ n * (2 : Int) + (2 : Int) ≤ (9223372036854775807 : Int))) = true, (decide ((-9223372036854775808 : Int) ≤ n * (2 : Int) ∧ n * (2 : Int) ≤ (9223372036854775807 : Int))) = true, (decide ((-9223372036854775808 : Int) ≤ n * (2 : Int) ∧ n * (2 : Int) ≤ (9223372036854775807 : Int))) = true, (decide (n < (10 : Int))) = false, (decide ((-9223372036854775808 : Int) ≤ n ∧ n ≤ (9223372036854775807 : Int))) = true, (decide (n < (100 : Int))) = true, (decide ((0 : Int) ≤ n ∧ n ≤ (18446744073709551615 : Int))) = true]) : ∃ st', Go.Ai.call cx ov2 1000 40 [.int .u32 n] ⟨keepIds st0.hp [2], st0.ct⟩ = some (Value.string (smalls.extract (n * (2 : Int)).toNat (n * (2 : Int) + (2 : Int)).toNat), st') :=
  path_call ref2 (toks := [.yes, .ev, .yes, .yes, .no, .yes, .yes, .yes, .no, .yes, .no, .yes]) (by kernel_rfl) h
theorem F40_p2 (n : Int) (h : Holds [ndF n = (3 : Int), (decide ((0 : Int) ≤ (48 : Int) + n / (100 : Int) ∧ (48 : Int) + n / (100 : Int) ≤ (255 : Int))) = true, (decide ((0 : Int) ≤ (48 : Int) + n / (100 : Int) ∧ (48 : Int) + n / (100 : Int) ≤ (4294967295 : Int))) = true, (decide ((0 : Int) ≤ n % (100 : Int) * (2 : Int) ∧ n % (100 : Int) * (2 : Int) < (200 : Int))) = true, (decide ((0 : Int) ≤ n % (100 : Int) * (2 : Int) + (1 : Int) ∧ n % (100 : Int) * (2 : Int) + (1 : Int) < (200 : Int))) = true, (decide ((0 : Int) ≤ n % (100 : Int) * (2 : Int) + (1 : Int) ∧ n % (100 : Int) * (2 : Int) + (1 : Int) ≤ (4294967295 : Int))) = true, (decide ((0 : Int) ≤ n / (100 : Int) ∧ n / (100 : Int) ≤ (4294967295 : Int))) = true, (decide ((0 : Int) ≤ n ∧ (0 : Int) < (100 : Int))) = true, (decide ((0 : Int) ≤ n % (100 : Int) * (2 : Int) ∧ n % (100 : Int) * (2 : Int) ≤ (4294967295 : Int))) = true, (decide ((0 : Int) ≤ n ∧ (0 : Int) < (100 : Int))) = true, (decide ((0 : Int) ≤ n ∧ n ≤ (4294967295 : Int))) = true, ndF n = (3 : Int), C101.pre [Value.int IntKind.u64 n], (decide (n < (100 : Int))) = false, (decide ((0 : Int) ≤ n ∧ n ≤ (18446744073709551615 : Int))) = true]) : ∃ st', Go.Ai.call cx ov2 1000 40 [.int .u32 n] ⟨keepIds st0.hp [2], st0.ct⟩ = some (Value.string { data := { toList := [UInt8.ofNat ((48 : Int) + n / (100 : Int)).toNat, UInt8.ofNat (byteAt smalls (n % (100 : Int) * (2 : Int)).toNat).toNat, UInt8.ofNat (byteAt smalls (n % (100 : Int) * (2 : Int) + (1 : Int)).toNat).toNat] } }, st') :=
  path_call ref2 (toks := [.yes, .ev, .no, .at (3), .ev, .ev, .ev, .yes, .ev, .ev, .ev, .yes, .yes, .ev, .yes, .yes, .ev, .ev, .yes, .yes, .yes, .ev, .ev, .ev, .ev, .ev, .ev, .yes, .yes, .ev, .ev, .at (3), .ev, .ev, .ev]) (by kernel_rfl) h
theorem F40_p3 (n : Int) (h : Holds [ndF n = (4 : Int), (decide ((0 : Int) ≤ n % (10000 : Int) / (100 : Int) * (2 : Int) ∧ n % (10000 : Int) / (100 : Int) * (2 : Int) < (200 : Int))) = true, (decide ((0 : Int) ≤ n % (10000 : Int) / (100 : Int) * (2 : Int) + (1 : Int) ∧ n % (10000 : Int) / (100 : Int) * (2 : Int) + (1 : Int) < (200 : Int))) = true, (decide ((0 : Int) ≤ n % (10000 : Int) / (100 : Int) * (2 : Int) + (1 : Int) ∧ n % (10000 : Int) / (100 : Int) * (2 : Int) + (1 : Int) ≤ (4294967295 : Int))) = true, (decide ((0 : Int) ≤ n % (10000 : Int) % (100 : Int) * (2 : Int) ∧ n % (10000 : Int) % (100 : Int) * (2 : Int) < (200 : Int))) = true, (decide ((0 : Int) ≤ n % (10000 : Int) % (100 : Int) * (2 : Int) + (1 : Int) ∧ n % (10000 : Int) % (100 : Int) * (2 : Int) + (1 : Int) < (200 : Int))) = true, (decide ((0 : Int) ≤ n % (10000 : Int) % (100 : Int) * (2 : Int) + (1 : Int) ∧ n % (10000 : Int) % (100 : Int) * (2 : Int) + (1 : Int) ≤ (4294967295 : Int))) = true, (decide ((0 : Int) ≤ n % (10000 : Int) % (100 : Int) * (2 : Int) ∧ n % (10000 : Int) % (100 : Int) * (2 : Int) ≤ (4294967295 : Int))) = true, (decide ((0 : Int) ≤ n % (10000 : Int) ∧ (0 : Int) < (100 : Int))) = true, (decide ((0 : Int) ≤ n % (10000 : Int) / (100 : Int) * (2 : Int) ∧ n % (10000 : Int) / (100 : Int) * (2 : Int) ≤ (4294967295 : Int))) = true, (decide ((0 : Int) ≤ n % (10000 : Int) / (100 : Int) ∧ n % (10000 : Int) / (100 : Int) ≤ (4294967295 : Int))) = true, (decide ((0 : Int) ≤ n % (10000 : Int) ∧ (0 : Int) < (100 : Int))) = true, (decide ((0 : Int) ≤ n / (10000 : Int) ∧ n / (10000 : Int) ≤ (4294967295 : Int))) = true, (decide ((0 : Int) ≤ n ∧ (0 : Int) < (10000 : Int))) = true, (decide ((0 : Int) ≤ n ∧ (0 : Int) < (10000 : Int))) = true, (decide ((0 : Int) ≤ n ∧ n ≤ (4294967295 : Int))) = true, ndF n = (4 : Int), C101.pre [Value.int IntKind.u64 n], (decide (n < (100 : Int))) = false, (decide ((0 : Int) ≤ n ∧ n ≤ (18446744073709551615 : Int))) = true]) : ∃ st', Go.Ai.call cx ov2 1000 40 [.int .u32 n] ⟨keepIds st0.hp [2], st0.ct⟩ = some (Value.string { data := { toList := [UInt8.ofNat (byteAt smalls (n % (10000 : Int) / (100 : Int) * (2 : Int)).toNat).toNat, UInt8.ofNat (byteAt smalls (n % (10000 : Int) / (100 : Int) * (2 : Int) + (1 : Int)).toNat).toNat, UInt8.ofNat (byteAt smalls (n % (10000 : Int) % (100 : Int) * (2 : Int)).toNat).toNat, UInt8.ofNat (byteAt smalls (n % (10000 : Int) % (100 : Int) * (2 : Int) + (1 : Int)).toNat).toNat] } }, st') :=
  path_call ref2 (toks := [.yes, .ev, .no, .at (4), .ev, .ev, .ev, .yes, .ev, .ev, .yes, .ev, .yes, .yes, .ev, .yes, .yes, .yes, .ev, .yes, .yes, .ev, .ev, .yes, .yes, .yes, .ev, .ev, .ev, .ev, .ev, .ev, .yes, .yes, .yes, .ev, .ev, .ev, .ev, .ev, .ev, .ev, .at (4), .ev, .ev, .ev]) (by kernel_rfl) h
theorem F40_p4 (n : Int) (h : Holds [ndF n = (5 : Int), (decide ((0 : Int) ≤ (48 : Int) + n / (10000 : Int) ∧ (48 : Int) + n / (10000 : Int) ≤ (255 : Int))) = true, (decide ((0 : Int) ≤ (48 : Int) + n / (10000 : Int) ∧ (48 : Int) + n / (10000 : Int) ≤ (4294967295 : Int))) = true, (decide ((0 : Int) ≤ n % (10000 : Int) / (100 : Int) * (2 : Int) ∧ n % (10000 : Int) / (100 : Int) * (2 : Int) < (200 : Int))) = true, (decide ((0 : Int) ≤ n % (10000 : Int) / (100 : Int) * (2 : Int) + (1 : Int) ∧ n % (10000 : Int) / (100 : Int) * (2 : Int) + (1 : Int) < (200 : Int))) = true, (decide ((0 : Int) ≤ n % (10000 : Int) / (100 : Int) * (2 : Int) + (1 : Int) ∧ n % (10000 : Int) / (100 : Int) * (2 : Int) + (1 : Int) ≤ (4294967295 : Int))) = true, (decide ((0 : Int) ≤ n % (10000 : Int) % (100 : Int) * (2 : Int) ∧ n % (10000 : Int) % (100 : Int) * (2 : Int) < (200 : Int))) = true, (decide ((0 : Int) ≤ n % (10000 : Int) % (100 : Int) * (2 : Int) + (1 : Int) ∧ n % (10000 : Int) % (100 : Int) * (2 : Int) + (1 : Int) < (200 : Int))) = true, (decide ((0 : Int) ≤ n % (10000 : Int) % (100 : Int) * (2 : Int) + (1 : Int) ∧ n % (10000 : Int) % (100 : Int) * (2 : Int) + (1 : Int) ≤ (4294967295 : Int))) = true, (decide ((0 : Int) ≤ n % (10000 : Int) % (100 : Int) * (2 : Int) ∧ n % (10000 : Int) % (100 : Int) * (2 : Int) ≤ (4294967295 : Int))) = true, (decide ((0 : Int) ≤ n % (10000 : Int) ∧ (0 : Int) < (100 : Int))) = true, (decide ((0 : Int) ≤ n % (10000 : Int) / (100 : Int) * (2 : Int) ∧ n % (10000 : Int) / (100 : Int) * (2 : Int) ≤ (4294967295 : Int))) = true, (decide ((0 : Int) ≤ n % (10000 : Int) / (100 : Int) ∧ n % (10000 : Int) / (100 : Int) ≤ (4294967295 : Int))) = true, (decide ((0 : Int) ≤ n % (10000 : Int) ∧ (0 : Int) < (100 : Int))) = true, (decide ((0 : Int) ≤ n / (10000 : Int) ∧ n / (10000 : Int) ≤ (4294967295 : Int))) = true, (decide ((0 : Int) ≤ n ∧ (0 : Int) < (10000 : Int))) = true, (decide ((0 : Int) ≤ n ∧ (0 : Int) < (10000 : Int))) = true, (decide ((0 : Int) ≤ n ∧ n ≤ (4294967295 : Int))) = true, ndF n = (5 : Int), C101.pre [Value.int IntKind.u64 n], (decide (n < (100 : Int))) = false, (decide ((0 : Int) ≤ n ∧ n ≤ (18446744073709551615 : Int))) = true]) : ∃ st', Go.Ai.call cx ov2 1000 40 [.int .u32 n] ⟨keepIds st0.hp [2], st0.ct⟩ = some (Value.string { data := { toList := [UInt8.ofNat ((48 : Int) + n / (10000 : Int)).toNat, UInt8.ofNat (byteAt smalls (n % (10000 : Int) / (100 : Int) * (2 : Int)).toNat).toNat, UInt8.ofNat (byteAt smalls (n % (10000 : Int) / (100 : Int) * (2 : Int) + (1 : Int)).toNat).toNat, UInt8.ofNat (byteAt smalls (n % (10000 : Int) % (100 : Int) * (2 : Int)).toNat).toNat, UInt8.ofNat (byteAt smalls (n % (10000 : Int) % (100 : Int) * (2 : Int) + (1 : Int)).toNat).toNat] } }, st') :=
  path_call ref2 (toks := [.yes, .ev, .no, .at (5), .ev, .ev, .ev, .yes, .ev, .ev, .yes, .ev, .yes, .yes, .ev, .yes, .yes, .yes, .ev, .yes, .yes, .ev, .ev, .yes, .yes, .yes, .ev, .ev, .ev, .ev, .ev, .ev, .yes, .yes, .yes, .ev, .ev, .ev, .ev, .ev, .ev, .ev, .yes, .yes, .ev, .ev, .at (5), .ev, .ev, .ev]) (by kernel_rfl) h
theorem F40_p5 (n : Int) (h : Holds [ndF n = (6 : Int), (decide ((0 : Int) ≤ n / (10000 : Int) % (100 : Int) * (2 : Int) ∧ n / (10000 : Int) % (100 : Int) * (2 : Int) < (200 : Int))) = true, (decide ((0 : Int) ≤ n / (10000 : Int) % (100 : Int) * (2 : Int) + (1 : Int) ∧ n / (10000 : Int) % (100 : Int) * (2 : Int) + (1 : Int) < (200 : Int))) = true, (decide ((0 : Int) ≤ n / (10000 : Int) % (100 : Int) * (2 : Int) + (1 : Int) ∧ n / (10000 : Int) % (100 : Int) * (2 : Int) + (1 : Int) ≤ (4294967295 : Int))) = true, (decide ((0 : Int) ≤ n / (10000 : Int) / (100 : Int) ∧ n / (10000 : Int) / (100 : Int) ≤ (4294967295 : Int))) = true, (decide ((0 : Int) ≤ n / (10000 : Int) ∧ (0 : Int) < (100 : Int))) = true, (decide ((0 : Int) ≤ n / (10000 : Int) % (100 : Int) * (2 : Int) ∧ n / (10000 : Int) % (100 : Int) * (2 : Int) ≤ (4294967295 : Int))) = true, (decide ((0 : Int) ≤ n / (10000 : Int) ∧ (0 : Int) < (100 : Int))) = true, (decide ((0 : Int) ≤ n % (10000 : Int) / (100 : Int) * (2 : Int) ∧ n % (10000 : Int) / (100 : Int) * (2 : Int) < (200 : Int))) = true, (decide ((0 : Int) ≤ n % (10000 : Int) / (100 : Int) * (2 : Int) + (1 : Int) ∧ n % (10000 : Int) / (100 : Int) * (2 : Int) + (1 : Int) < (200 : Int))) = true, (decide ((0 : Int) ≤ n % (10000 : Int) / (100 : Int) * (2 : Int) + (1 : Int) ∧ n % (10000 : Int) / (100 : Int) * (2 : Int) + (1 : Int) ≤ (4294967295 : Int))) = true, (decide ((0 : Int) ≤ n % (10000 : Int) % (100 : Int) * (2 : Int) ∧ n % (10000 : Int) % (100 : Int) * (2 : Int) < (200 : Int))) = true, (decide ((0 : Int) ≤ n % (10000 : Int) % (100 : Int) * (2 : Int) + (1 : Int) ∧ n % (10000 : Int) % (100 : Int) * (2 : Int) + (1 : Int) < (200 : Int))) = true, (decide ((0 : Int) ≤ n % (10000 : Int) % (100 : Int) * (2 : Int) + (1 : Int) ∧ n % (10000 : Int) % (100 : Int) * (2 : Int) + (1 : Int) ≤ (4294967295 : Int))) = true, (decide ((0 : Int) ≤ n % (10000 : Int) % (100 : Int) * (2 : Int) ∧ n % (10000 : Int) % (100 : Int) * (2 : Int) ≤ (4294967295 : Int))) = true, (decide ((0 : Int) ≤ n % (10000 : Int) ∧ (0 : Int) < (100 : Int))) = true, (decide ((0 : Int) ≤ n % (10000 : Int) / (100 : Int) * (2 : Int) ∧ n % (10000 : Int) / (100 : Int) * (2 : Int) ≤ (4294967295 : Int))) = true, (decide ((0 : Int) ≤ n % (10000 : Int) / (100 : Int) ∧ n % (10000 : Int) / (100 : Int) ≤ (4294967295 : Int))) = true, (decide ((0 : Int) ≤ n % (10000 : Int) ∧ (0 : Int) < (100 : Int))) = true, (decide ((0 : Int) ≤ n / (10000 : Int) ∧ n / (10000 : Int) ≤ (4294967295 : Int))) = true, (decide ((0 : Int) ≤ n ∧ (0 : Int) < (10000 : Int))) = true, (decide ((0 : Int) ≤ n ∧ (0 : Int) < (10000 : Int))) = true, (decide ((0 : Int) ≤ n ∧ n ≤ (4294967295 : Int))) = true, ndF n = (6 : Int), C101.pre [Value.int IntKind.u64 n], (decide (n < (100 : Int))) = false, (decide ((0 : Int) ≤ n ∧ n ≤ (18446744073709551615 : Int))) = true]) : ∃ st', Go.Ai.call cx ov2 1000 40 [.int .u32 n] ⟨keepIds st0.hp [2], st0.ct⟩ = some (Value.string { data := { toList := [UInt8.ofNat (byteAt smalls (n / (10000 : Int) % (100 : Int) * (2 : Int)).toNat).toNat, UInt8.ofNat (byteAt smalls (n / (10000 : Int) % (100 : Int) * (2 : Int) + (1 : Int)).toNat).toNat, UInt8.ofNat (byteAt smalls (n % (10000 : Int) / (100 : Int) * (2 : Int)).toNat).toNat, UInt8.ofNat (byteAt smalls (n % (10000 : Int) / (100 : Int) * (2 : Int) + (1 : Int)).toNat).toNat, UInt8.ofNat (byteAt smalls (n % (10000 : Int) % (100 : Int) * (2 : Int)).toNat).toNat, UInt8.ofNat (byteAt smalls (n % (10000 : Int) % (100 : Int) * (2 : Int) + (1 : Int)).toNat).toNat] } }, st') :=
  path_call ref2 (toks := [.yes, .ev, .no, .at (6), .ev, .ev, .ev, .yes, .ev, .ev, .yes, .ev, .yes, .yes, .ev, .yes, .yes, .yes, .ev, .yes, .yes, .ev, .ev, .yes, .yes, .yes, .ev, .ev, .ev, .ev, .ev, .ev, .yes, .yes, .yes, .ev, .ev, .ev, .ev, .ev, .ev, .ev, .yes, .yes, .ev, .yes, .yes, .ev, .ev, .yes, .yes, .yes, .ev, .ev, .ev, .ev, .ev, .ev, .at (6), .ev, .ev, .ev]) (by kernel_rfl) h
theorem F40_p6 (n : Int) (h : Holds [ndF n = (7 : Int), (decide ((0 : Int) ≤ (48 : Int) + n / (10000 : Int) / (100 : Int) ∧ (48 : Int) + n / (10000 : Int) / (100 : Int) ≤ (255 : Int))) = true, (decide ((0 : Int) ≤ (48 : Int) + n / (10000 : Int) / (100 : Int) ∧ (48 : Int) + n / (10000 : Int) / (100 : Int) ≤ (4294967295 : Int))) = true, (decide ((0 : Int) ≤ n / (10000 : Int) % (100 : Int) * (2 : Int) ∧ n / (10000 : Int) % (100 : Int) * (2 : Int) < (200 : Int))) = true, (decide ((0 : Int) ≤ n / (10000 : Int) % (100 : Int) * (2 : Int) + (1 : Int) ∧ n / (10000 : Int) % (100 : Int) * (2 : Int) + (1 : Int) < (200 : Int))) = true, (decide ((0 : Int) ≤ n / (10000 : Int) % (100 : Int) * (2 : Int) + (1 : Int) ∧ n / (10000 : Int) % (100 : Int) * (2 : Int) + (1 : Int) ≤ (4294967295 : Int))) = true, (decide ((0 : Int) ≤ n / (10000 : Int) / (100 : Int) ∧ n / (10000 : Int) / (100 : Int) ≤ (4294967295 : Int))) = true, (decide ((0 : Int) ≤ n / (10000 : Int) ∧ (0 : Int) < (100 : Int))) = true, (decide ((0 : Int) ≤ n / (10000 : Int) % (100 : Int) * (2 : Int) ∧ n / (10000 : Int) % (100 : Int) * (2 : Int) ≤ (4294967295 : Int))) = true, (decide ((0 : Int) ≤ n / (10000 : Int) ∧ (0 : Int) < (100 : Int))) = true, (decide ((0 : Int) ≤ n % (10000 : Int) / (100 : Int) * (2 : Int) ∧ n % (10000 : Int) / (100 : Int) * (2 : Int) < (200 : Int))) = true, (decide ((0 : Int) ≤ n % (10000 : Int) / (100 : Int) * (2 : Int) + (1 : Int) ∧ n % (10000 : Int) / (100 : Int) * (2 : Int) + (1 : Int) < (200 : Int))) = true, (decide ((0 : Int) ≤ n % (10000 : Int) / (100 : Int) * (2 : Int) + (1 : Int) ∧ n % (10000 : Int) / (100 : Int) * (2 : Int) + (1 : Int) ≤ (4294967295 : Int))) = true, (decide ((0 : Int) ≤ n % (10000 : Int) % (100 : Int) * (2 : Int) ∧ n % (10000 : Int) % (100 : Int) * (2 : Int) < (200 : Int))) = true, (decide ((0 : Int) ≤ n % (10000 : Int) % (100 : Int) * (2 : Int) + (1 : Int) ∧ n % (10000 : Int) % (100 : Int) * (2 : Int) + (1 : Int) < (200 : Int))) = true, (decide ((0 : Int) ≤ n % (10000 : Int) % (100 : Int) * (2 : Int) + (1 : Int) ∧ n % (10000 : Int) % (100 : Int) * (2 : Int) + (1 : Int) ≤ (4294967295 : Int))) = true, (decide ((0 : Int) ≤ n % (10000 : Int) % (100 : Int) * (2 : Int) ∧ n % (10000 : Int) % (100 : Int) * (2 : Int) ≤ (4294967295 : Int))) = true, (decide ((0 : Int) ≤ n % (10000 : Int) ∧ (0 : Int) < (100 : Int))) = true, (decide ((0 : Int) ≤ n % (10000 : Int) / (100 : Int) * (2 : Int) ∧ n % (10000 : Int) / (100 : Int) * (2 : Int) ≤ (4294967295 : Int))) = true, (decide ((0 : Int) ≤ n % (10000 : Int) / (100 : Int) ∧ n % (10000 : Int) / (100 : Int) ≤ (4294967295 : Int))) = true, (decide ((0 : Int) ≤ n % (10000 : Int) ∧ (0 : Int) < (100 : Int))) = true, (decide ((0 : Int) ≤ n / (10000 : Int) ∧ n / (10000 : Int) ≤ (4294967295 : Int))) = true, (decide ((0 : Int) ≤ n ∧ (0 : Int) < (10000 : Int))) = true, (decide ((0 : Int) ≤ n ∧ (0 : Int) < (10000 : Int))) = true, (decide ((0 : Int) ≤ n ∧ n ≤ (4294967295 : Int))) = true, ndF n = (7 : Int), C101.pre [Value.int IntKind.u64 n], (decide (n < (100 : Int))) = false, (decide ((0 : Int) ≤ n ∧ n ≤ (18446744073709551615 : Int))) = true]) : ∃ st', Go.Ai.call cx ov2 1000 40 [.int .u32 n] ⟨keepIds st0.hp [2], st0.ct⟩ = some (Value.string { data := { toList := [UInt8.ofNat ((48 : Int) + n / (10000 : Int) / (100 : Int)).toNat, UInt8.ofNat (byteAt smalls (n / (10000 : Int) % (100 : Int) * (2 : Int)).toNat).toNat, UInt8.ofNat (byteAt smalls (n / (10000 : Int) % (100 : Int) * (2 : Int) + (1 : Int)).toNat).toNat, UInt8.ofNat (byteAt smalls (n % (10000 : Int) / (100 : Int) * (2 : Int)).toNat).toNat, UInt8.ofNat (byteAt smalls (n % (10000 : Int) / (100 : Int) * (2 : Int) + (1 : Int)).toNat).toNat, UInt8.ofNat (byteAt smalls (n % (10000 : Int) % (100 : Int) * (2 : Int)).toNat).toNat, UInt8.ofNat (byteAt smalls (n % (10000 : Int) % (100 : Int) * (2 : Int) + (1 : Int)).toNat).toNat] } }, st') :=
  path_call ref2 (toks := [.yes, .ev, .no, .at (7), .ev, .ev, .ev, .yes, .ev, .ev, .yes, .ev, .yes, .yes, .ev, .yes, .yes, .yes, .ev, .yes, .yes, .ev, .ev, .yes, .yes, .yes, .ev, .ev, .ev, .ev, .ev, .ev, .yes, .yes, .yes, .ev, .ev, .ev, .ev, .ev, .ev, .ev, .yes, .yes, .ev, .yes, .yes, .ev, .ev, .yes, .yes, .yes, .ev, .ev, .ev, .ev, .ev, .ev, .yes, .yes, .ev, .ev, .at (7), .ev, .ev, .ev]) (by kernel_rfl) h
theorem F40_p7 (n : Int) (h : Holds [ndF n = (8 : Int), (decide ((0 : Int) ≤ n / (100000000 : Int) ∧ n / (100000000 : Int) ≤ (4294967295 : Int))) = true, (decide ((0 : Int) ≤ n % (100000000 : Int) / (10000 : Int) / (100 : Int) * (2 : Int) ∧ n % (100000000 : Int) / (10000 : Int) / (100 : Int) * (2 : Int) < (200 : Int))) = true, (decide ((0 : Int) ≤ n % (100000000 : Int) / (10000 : Int) / (100 : Int) * (2 : Int) + (1 : Int) ∧ n % (100000000 : Int) / (10000 : Int) / (100 : Int) * (2 : Int) + (1 : Int) < (200 : Int))) = true, (decide ((0 : Int) ≤ n % (100000000 : Int) / (10000 : Int) / (100 : Int) * (2 : Int) + (1 : Int) ∧ n % (100000000 : Int) / (10000 : Int) / (100 : Int) * (2 : Int) + (1 : Int) ≤ (4294967295 : Int))) = true, (decide ((0 : Int) ≤ n % (100000000 : Int) / (10000 : Int) % (100 : Int) * (2 : Int) ∧ n % (100000000 : Int) / (10000 : Int) % (100 : Int) * (2 : Int) < (200 : Int))) = true, (decide ((0 : Int) ≤ n % (100000000 : Int) / (10000 : Int) % (100 : Int) * (2 : Int) + (1 : Int) ∧ n % (100000000 : Int) / (10000 : Int) % (100 : Int) * (2 : Int) + (1 : Int) < (200 : Int))) = true, (decide ((0 : Int) ≤ n % (100000000 : Int) / (10000 : Int) % (100 : Int) * (2 : Int) + (1 : Int) ∧ n % (100000000 : Int) / (10000 : Int) % (100 : Int) * (2 : Int) + (1 : Int) ≤ (4294967295 : Int))) = true, (decide ((0 : Int) ≤ n % (100000000 : Int) % (10000 : Int) / (100 : Int) * (2 : Int) ∧ n % (100000000 : Int) % (10000 : Int) / (100 : Int) * (2 : Int) < (200 : Int))) = true, (decide ((0 : Int) ≤ n % (100000000 : Int) % (10000 : Int) / (100 : Int) * (2 : Int) + (1 : Int) ∧ n % (100000000 : Int) % (10000 : Int) / (100 : Int) * (2 : Int) + (1 : Int) < (200 : Int))) = true, (decide ((0 : Int) ≤ n % (100000000 : Int) % (10000 : Int) / (100 : Int) * (2 : Int) + (1 : Int) ∧ n % (100000000 : Int) % (10000 : Int) / (100 : Int) * (2 : Int) + (1 : Int) ≤ (4294967295 : Int))) = true, (decide ((0 : Int) ≤ n % (100000000 : Int) % (10000 : Int) % (100 : Int) * (2 : Int) ∧ n % (100000000 : Int) % (10000 : Int) % (100 : Int) * (2 : Int) < (200 : Int))) = true, (decide ((0 : Int) ≤ n % (100000000 : Int) % (10000 : Int) % (100 : Int) * (2 : Int) + (1 : Int) ∧ n % (100000000 : Int) % (10000 : Int) % (100 : Int) * (2 : Int) + (1 : Int) < (200 : Int))) = true, (decide ((0 : Int) ≤ n % (100000000 : Int) % (10000 : Int) % (100 : Int) * (2 : Int) + (1 : Int) ∧ n % (100000000 : Int) % (10000 : Int) % (100 : Int) * (2 : Int) + (1 : Int) ≤ (4294967295 : Int))) = true, (decide ((0 : Int) ≤ n % (100000000 : Int) / (10000 : Int) % (100 : Int) * (2 : Int) ∧ n % (100000000 : Int) / (10000 : Int) % (100 : Int) * (2 : Int) ≤ (4294967295 : Int))) = true, (decide ((0 : Int) ≤ n % (100000000 : Int) / (10000 : Int) ∧ (0 : Int) < (100 : Int))) = true, (decide ((0 : Int) ≤ n % (100000000 : Int) / (10000 : Int) / (100 : Int) * (2 : Int) ∧ n % (100000000 : Int) / (10000 : Int) / (100 : Int) * (2 : Int) ≤ (4294967295 : Int))) = true, (decide ((0 : Int) ≤ n % (100000000 : Int) / (10000 : Int) / (100 : Int) ∧ n % (100000000 : Int) / (10000 : Int) / (100 : Int) ≤ (4294967295 : Int))) = true, (decide ((0 : Int) ≤ n % (100000000 : Int) / (10000 : Int) ∧ (0 : Int) < (100 : Int))) = true, (decide ((0 : Int) ≤ n % (100000000 : Int) % (10000 : Int) % (100 : Int) * (2 : Int) ∧ n % (100000000 : Int) % (10000 : Int) % (100 : Int) * (2 : Int) ≤ (4294967295 : Int))) = true, (decide ((0 : Int) ≤ n % (100000000 : Int) % (10000 : Int) ∧ (0 : Int) < (100 : Int))) = true, (decide ((0 : Int) ≤ n % (100000000 : Int) % (10000 : Int) / (100 : Int) * (2 : Int) ∧ n % (100000000 : Int) % (10000 : Int) / (100 : Int) * (2 : Int) ≤ (4294967295 : Int))) = true, (decide ((0 : Int) ≤ n % (100000000 : Int) % (10000 : Int) / (100 : Int) ∧ n % (100000000 : Int) % (10000 : Int) / (100 : Int) ≤ (4294967295 : Int))) = true, (decide ((0 : Int) ≤ n % (100000000 : Int) % (10000 : Int) ∧ (0 : Int) < (100 : Int))) = true, (decide ((0 : Int) ≤ n % (100000000 : Int) ∧ (0 : Int) < (10000 : Int))) = true, (decide ((0 : Int) ≤ n % (100000000 : Int) / (10000 : Int) ∧ n % (100000000 : Int) / (10000 : Int) ≤ (4294967295 : Int))) = true, (decide ((0 : Int) ≤ n % (100000000 : Int) ∧ (0 : Int) < (10000 : Int))) = true, (decide ((0 : Int) ≤ n / (100000000 : Int) ∧ n / (100000000 : Int) ≤ (18446744073709551615 : Int))) = true, (decide ((0 : Int) ≤ n ∧ (0 : Int) < (100000000 : Int))) = true, (decide ((0 : Int) ≤ n % (100000000 : Int) ∧ n % (100000000 : Int) ≤ (4294967295 : Int))) = true, (decide ((0 : Int) ≤ n ∧ (0 : Int) < (100000000 : Int))) = true, ndF n = (8 : Int), C101.pre [Value.int IntKind.u64 n], (decide (n < (100 : Int))) = false, (decide ((0 : Int) ≤ n ∧ n ≤ (18446744073709551615 : Int))) = true]) : ∃ st', Go.Ai.call cx ov2 1000 40 [.int .u32 n] ⟨keepIds st0.hp [2], st0.ct⟩ = some (Value.string { data := { toList := [UInt8.ofNat (byteAt smalls (n % (100000000 : Int) / (10000 : Int) / (100 : Int) * (2 : Int)).toNat).toNat, UInt8.ofNat (byteAt smalls (n % (100000000 : Int) / (10000 : Int) / (100 : Int) * (2 : Int) + (1 : Int)).toNat).toNat, UInt8.ofNat (byteAt smalls (n % (100000000 : Int) / (10000 : Int) % (100 : Int) * (2 : Int)).toNat).toNat, UInt8.ofNat (byteAt smalls (n % (100000000 : Int) / (10000 : Int) % (100 : Int) * (2 : Int) + (1 : Int)).toNat).toNat, UInt8.ofNat (byteAt smalls (n % (100000000 : Int) % (10000 : Int) / (100 : Int) * (2 : Int)).toNat).toNat, UInt8.ofNat (byteAt smalls (n % (100000000 : Int) % (10000 : Int) / (100 : Int) * (2 : Int) + (1 : Int)).toNat).toNat, UInt8.ofNat (byteAt smalls (n % (100000000 : Int) % (10000 : Int) % (100 : Int) * (2 : Int)).toNat).toNat, UInt8.ofNat (byteAt smalls (n % (100000000 : Int) % (10000 : Int) % (100 : Int) * (2 : Int) + (1 : Int)).toNat).toNat] } }, st') :=
  path_call ref2 (toks := [.yes, .ev, .no, .at (8), .ev, .ev, .ev, .ev, .yes, .yes, .ev, .yes, .yes, .ev, .yes, .yes, .ev, .yes, .ev, .yes, .yes, .yes, .ev, .yes, .yes, .ev, .yes, .yes, .yes, .ev, .yes, .yes, .ev, .ev, .yes, .yes, .yes, .ev, .ev, .ev, .ev, .ev, .ev, .yes, .yes, .yes, .ev, .ev, .ev, .ev, .ev, .ev, .yes, .yes, .yes, .ev, .ev, .ev, .ev, .ev, .ev, .yes, .yes, .yes, .ev, .ev, .ev, .ev, .ev, .ev, .yes, .ev, .ev, .ev, .at (8), .ev, .ev, .ev]) (by kernel_rfl) h
theorem F40_p8 (n : Int) (h : Holds [ndF n = (9 : Int), (decide ((0 : Int) ≤ (48 : Int) + n / (100000000 : Int) ∧ (48 : Int) + n / (100000000 : Int) ≤ (255 : Int))) = true, (decide ((0 : Int) ≤ (48 : Int) + n / (100000000 : Int) ∧ (48 : Int) + n / (100000000 : Int) ≤ (4294967295 : Int))) = true, (decide ((0 : Int) ≤ n / (100000000 : Int) ∧ n / (100000000 : Int) ≤ (4294967295 : Int))) = true, (decide ((0 : Int) ≤ n % (100000000 : Int) / (10000 : Int) / (100 : Int) * (2 : Int) ∧ n % (100000000 : Int) / (10000 : Int) / (100 : Int) * (2 : Int) < (200 : Int))) = true, (decide ((0 : Int) ≤ n % (100000000 : Int) / (10000 : Int) / (100 : Int) * (2 : Int) + (1 : Int) ∧ n % (100000000 : Int) / (10000 : Int) / (100 : Int) * (2 : Int) + (1 : Int) < (200 : Int))) = true, (decide ((0 : Int) ≤ n % (100000000 : Int) / (10000 : Int) / (100 : Int) * (2 : Int) + (1 : Int) ∧ n % (100000000 : Int) / (10000 : Int) / (100 : Int) * (2 : Int) + (1 : Int) ≤ (4294967295 : Int))) = true, (decide ((0 : Int) ≤ n % (100000000 : Int) / (10000 : Int) % (100 : Int) * (2 : Int) ∧ n % (100000000 : Int) / (10000 : Int) % (100 : Int) * (2 : Int) < (200 : Int))) = true, (decide ((0 : Int) ≤ n % (100000000 : Int) / (10000 : Int) % (100 : Int) * (2 : Int) + (1 : Int) ∧ n % (100000000 : Int) / (10000 : Int) % (100 : Int) * (2 : Int) + (1 : Int) < (200 : Int))) = true, (decide ((0 : Int) ≤ n % (100000000 : Int) / (10000 : Int) % (100 : Int) * (2 : Int) + (1 : Int) ∧ n % (100000000 : Int) / (10000 : Int) % (100 : Int) * (2 : Int) + (1 : Int) ≤ (4294967295 : Int))) = true, (decide ((0 : Int) ≤ n % (100000000 : Int) % (10000 : Int) / (100 : Int) * (2 : Int) ∧ n % (100000000 : Int) % (10000 : Int) / (100 : Int) * (2 : Int) < (200 : Int))) = true, (decide ((0 : Int) ≤ n % (100000000 : Int) % (10000 : Int) / (100 : Int) * (2 : Int) + (1 : Int) ∧ n % (100000000 : Int) % (10000 : Int) / (100 : Int) * (2 : Int) + (1 : Int) < (200 : Int))) = true, (decide ((0 : Int) ≤ n % (100000000 : Int) % (10000 : Int) / (100 : Int) * (2 : Int) + (1 : Int) ∧ n % (100000000 : Int) % (10000 : Int) / (100 : Int) * (2 : Int) + (1 : Int) ≤ (4294967295 : Int))) = true, (decide ((0 : Int) ≤ n % (100000000 : Int) % (10000 : Int) % (100 : Int) * (2 : Int) ∧ n % (100000000 : Int) % (10000 : Int) % (100 : Int) * (2 : Int) < (200 : Int))) = true, (decide ((0 : Int) ≤ n % (100000000 : Int) % (10000 : Int) % (100 : Int) * (2 : Int) + (1 : Int) ∧ n % (100000000 : Int) % (10000 : Int) % (100 : Int) * (2 : Int) + (1 : Int) < (200 : Int))) = true, (decide ((0 : Int) ≤ n % (100000000 : Int) % (10000 : Int) % (100 : Int) * (2 : Int) + (1 : Int) ∧ n % (100000000 : Int) % (10000 : Int) % (100 : Int) * (2 : Int) + (1 : Int) ≤ (4294967295 : Int))) = true, (decide ((0 : Int) ≤ n % (100000000 : Int) / (10000 : Int) % (100 : Int) * (2 : Int) ∧ n % (100000000 : Int) / (10000 : Int) % (100 : Int) * (2 : Int) ≤ (4294967295 : Int))) = true, (decide ((0 : Int) ≤ n % (100000000 : Int) / (10000 : Int) ∧ (0 : Int) < (100 : Int))) = true, (decide ((0 : Int) ≤ n % (100000000 : Int) / (10000 : Int) / (100 : Int) * (2 : Int) ∧ n % (100000000 : Int) / (10000 : Int) / (100 : Int) * (2 : Int) ≤ (4294967295 : Int))) = true, (decide ((0 : Int) ≤ n % (100000000 : Int) / (10000 : Int) / (100 : Int) ∧ n % (100000000 : Int) / (10000 : Int) / (100 : Int) ≤ (4294967295 : Int))) = true, (decide ((0 : Int) ≤ n % (100000000 : Int) / (10000 : Int) ∧ (0 : Int) < (100 : Int))) = true, (decide ((0 : Int) ≤ n % (100000000 : Int) % (10000 : Int) % (100 : Int) * (2 : Int) ∧ n % (100000000 : Int) % (10000 : Int) % (100 : Int) * (2 : Int) ≤ (4294967295 : Int))) = true, (decide ((0 : Int) ≤ n % (100000000 : Int) % (10000 : Int) ∧ (0 : Int) < (100 : Int))) = true, (decide ((0 : Int) ≤ n % (100000000 : Int) % (10000 : Int) / (100 : Int) * (2 : Int) ∧ n % (100000000 : Int) % (10000 : Int) / (100 : Int) * (2 : Int) ≤ (4294967295 : Int))) = true, (decide ((0 : Int) ≤ n % (100000000 : Int) % (10000 : Int) / (100 : Int) ∧ n % (100000000 : Int) % (10000 : Int) / (100 : Int) ≤ (4294967295 : Int))) = true, (decide ((0 : Int) ≤ n % (100000000 : Int) % (10000 : Int) ∧ (0 : Int) < (100 : Int))) = true, (decide ((0 : Int) ≤ n % (100000000 : Int) ∧ (0 : Int) < (10000 : Int))) = true, (decide ((0 : Int) ≤ n % (100000000 : Int) / (10000 : Int) ∧ n % (100000000 : Int) / (10000 : Int) ≤ (4294967295 : Int))) = true, (decide ((0 : Int) ≤ n % (100000000 : Int) ∧ (0 : Int) < (10000 : Int))) = true, (decide ((0 : Int) ≤ n / (100000000 : Int) ∧ n / (100000000 : Int) ≤ (18446744073709551615 : Int))) = true, (decide ((0 : Int) ≤ n ∧ (0 : Int) < (100000000 : Int))) = true, (decide ((0 : Int) ≤ n % (100000000 : Int) ∧ n % (100000000 : Int) ≤ (4294967295 : Int))) = true, (decide ((0 : Int) ≤ n ∧ (0 : Int) < (100000000 : Int))) = true, ndF n = (9 : Int), C101.pre [Value.int IntKind.u64 n], (decide (n < (100 : Int))) = false, (decide ((0 : Int) ≤ n ∧ n ≤ (18446744073709551615 : Int))) = true]) : ∃ st', Go.Ai.call cx ov2 1000 40 [.int .u32 n] ⟨keepIds st0.hp [2], st0.ct⟩ = some (Value.string { data := { toList := [UInt8.ofNat ((48 : Int) + n / (100000000 : Int)).toNat, UInt8.ofNat (byteAt smalls (n % (100000000 : Int) / (10000 : Int) / (100 : Int) * (2 : Int)).toNat).toNat, UInt8.ofNat (byteAt smalls (n % (100000000 : Int) / (10000 : Int) / (100 : Int) * (2 : Int) + (1 : Int)).toNat).toNat, UInt8.ofNat (byteAt smalls (n % (100000000 : Int) / (10000 : Int) % (100 : Int) * (2 : Int)).toNat).toNat, UInt8.ofNat (byteAt smalls (n % (100000000 : Int) / (10000 : Int) % (100 : Int) * (2 : Int) + (1 : Int)).toNat).toNat, UInt8.ofNat (byteAt smalls (n % (100000000 : Int) % (10000 : Int) / (100 : Int) * (2 : Int)).toNat).toNat, UInt8.ofNat (byteAt smalls (n % (100000000 : Int) % (10000 : Int) / (100 : Int) * (2 : Int) + (1 : Int)).toNat).toNat, UInt8.ofNat (byteAt smalls (n % (100000000 : Int) % (10000 : Int) % (100 : Int) * (2 : Int)).toNat).toNat, UInt8.ofNat (byteAt smalls (n % (100000000 : Int) % (10000 : Int) % (100 : Int) * (2 : Int) + (1 : Int)).toNat).toNat] } }, st') :=
  path_call ref2 (toks := [.yes, .ev, .no, .at (9), .ev, .ev, .ev, .ev, .yes, .yes, .ev, .yes, .yes, .ev, .yes, .yes, .ev, .yes, .ev, .yes, .yes, .yes, .ev, .yes, .yes, .ev, .yes, .yes, .yes, .ev, .yes, .yes, .ev, .ev, .yes, .yes, .yes, .ev, .ev, .ev, .ev, .ev, .ev, .yes, .yes, .yes, .ev, .ev, .ev, .ev, .ev, .ev, .yes, .yes, .yes, .ev, .ev, .ev, .ev, .ev, .ev, .yes, .yes, .yes, .ev, .ev, .ev, .ev, .ev, .ev, .yes, .ev, .ev, .ev, .yes, .yes, .ev, .ev, .at (9), .ev, .ev, .ev]) (by kernel_rfl) h
theorem F40_p9 (n : Int) (h : Holds [ndF n = (10 : Int), (decide ((0 : Int) ≤ n / (100000000 : Int) % (100 : Int) * (2 : Int) ∧ n / (100000000 : Int) % (100 : Int) * (2 : Int) < (200 : Int))) = true, (decide ((0 : Int) ≤ n / (100000000 : Int) % (100 : Int) * (2 : Int) + (1 : Int) ∧ n / (100000000 : Int) % (100 : Int) * (2 : Int) + (1 : Int) < (200 : Int))) = true, (decide ((0 : Int) ≤ n / (100000000 : Int) % (100 : Int) * (2 : Int) + (1 : Int) ∧ n / (100000000 : Int) % (100 : Int) * (2 : Int) + (1 : Int) ≤ (4294967295 : Int))) = true, (decide ((0 : Int) ≤ n / (100000000 : Int) / (100 : Int) ∧ n / (100000000 : Int) / (100 : Int) ≤ (4294967295 : Int))) = true, (decide ((0 : Int) ≤ n / (100000000 : Int) ∧ (0 : Int) < (100 : Int))) = true, (decide ((0 : Int) ≤ n / (100000000 : Int) % (100 : Int) * (2 : Int) ∧ n / (100000000 : Int) % (100 : Int) * (2 : Int) ≤ (4294967295 : Int))) = true, (decide ((0 : Int) ≤ n / (100000000 : Int) ∧ (0 : Int) < (100 : Int))) = true, (decide ((0 : Int) ≤ n / (100000000 : Int) ∧ n / (100000000 : Int) ≤ (4294967295 : Int))) = true, (decide ((0 : Int) ≤ n % (100000000 : Int) / (10000 : Int) / (100 : Int) * (2 : Int) ∧ n % (100000000 : Int) / (10000 : Int) / (100 : Int) * (2 : Int) < (200 : Int))) = true, (decide ((0 : Int) ≤ n % (100000000 : Int) / (10000 : Int) / (100 : Int) * (2 : Int) + (1 : Int) ∧ n % (100000000 : Int) / (10000 : Int) / (100 : Int) * (2 : Int) + (1 : Int) < (200 : Int))) = true, (decide ((0 : Int) ≤ n % (100000000 : Int) / (10000 : Int) / (100 : Int) * (2 : Int) + (1 : Int) ∧ n % (100000000 : Int) / (10000 : Int) / (100 : Int) * (2 : Int) + (1 : Int) ≤ (4294967295 : Int))) = true, (decide ((0 : Int) ≤ n % (100000000 : Int) / (10000 : Int) % (100 : Int) * (2 : Int) ∧ n % (100000000 : Int) / (10000 : Int) % (100 : Int) * (2 : Int) < (200 : Int))) = true, (decide ((0 : Int) ≤ n % (100000000 : Int) / (10000 : Int) % (100 : Int) * (2 : Int) + (1 : Int) ∧ n % (100000000 : Int) / (10000 : Int) % (100 : Int) * (2 : Int) + (1 : Int) < (200 : Int))) = true, (decide ((0 : Int) ≤ n % (100000000 : Int) / (10000 : Int) % (100 : Int) * (2 : Int) + (1 : Int) ∧ n % (100000000 : Int) / (10000 : Int) % (100 : Int) * (2 : Int) + (1 : Int) ≤ (4294967295 : Int))) = true, (decide ((0 : Int) ≤ n % (100000000 : Int) % (10000 : Int) / (100 : Int) * (2 : Int) ∧ n % (100000000 : Int) % (10000 : Int) / (100 : Int) * (2 : Int) < (200 : Int))) = true, (decide ((0 : Int) ≤ n % (100000000 : Int) % (10000 : Int) / (100 : Int) * (2 : Int) + (1 : Int) ∧ n % (100000000 : Int) % (10000 : Int) / (100 : Int) * (2 : Int) + (1 : Int) < (200 : Int))) = true, (decide ((0 : Int) ≤ n % (100000000 : Int) % (10000 : Int) / (100 : Int) * (2 : Int) + (1 : Int) ∧ n % (100000000 : Int) % (10000 : Int) / (100 : Int) * (2 : Int) + (1 : Int) ≤ (4294967295 : Int))) = true, (decide ((0 : Int) ≤ n % (100000000 : Int) % (10000 : Int) % (100 : Int) * (2 : Int) ∧ n % (100000000 : Int) % (10000 : Int) % (100 : Int) * (2 : Int) < (200 : Int))) = true, (decide ((0 : Int) ≤ n % (100000000 : Int) % (10000 : Int) % (100 : Int) * (2 : Int) + (1 : Int) ∧ n % (100000000 : Int) % (10000 : Int) % (100 : Int) * (2 : Int) + (1 : Int) < (200 : Int))) = true, (decide ((0 : Int) ≤ n % (100000000 : Int) % (10000 : Int) % (100 : Int) * (2 : Int) + (1 : Int) ∧ n % (100000000 : Int) % (10000 : Int) % (100 : Int) * (2 : Int) + (1 : Int) ≤ (4294967295 : Int))) = true, (decide ((0 : Int) ≤ n % (100000000 : Int) / (10000 : Int) % (100 : Int) * (2 : Int) ∧ n % (100000000 : Int) / (10000 : Int) % (100 : Int) * (2 : Int) ≤ (4294967295 : Int))) = true, (decide ((0 : Int) ≤ n % (100000000 : Int) / (10000 : Int) ∧ (0 : Int) < (100 : Int))) = true, (decide ((0 : Int) ≤ n % (100000000 : Int) / (10000 : Int) / (100 : Int) * (2 : Int) ∧ n % (100000000 : Int) / (10000 : Int) / (100 : Int) * (2 : Int) ≤ (4294967295 : Int))) = true, (decide ((0 : Int) ≤ n % (100000000 : Int) / (10000 : Int) / (100 : Int) ∧ n % (100000000 : Int) / (10000 : Int) / (100 : Int) ≤ (4294967295 : Int))) = true, (decide ((0 : Int) ≤ n % (100000000 : Int) / (10000 : Int) ∧ (0 : Int) < (100 : Int))) = true, (decide ((0 : Int) ≤ n % (100000000 : Int) % (10000 : Int) % (100 : Int) * (2 : Int) ∧ n % (100000000 : Int) % (10000 : Int) % (100 : Int) * (2 : Int) ≤ (4294967295 : Int))) = true, (decide ((0 : Int) ≤ n % (100000000 : Int) % (10000 : Int) ∧ (0 : Int) < (100 : Int))) = true, (decide ((0 : Int) ≤ n % (100000000 : Int) % (10000 : Int) / (100 : Int) * (2 : Int) ∧ n % (100000000 : Int) % (10000 : Int) / (100 : Int) * (2 : Int) ≤ (4294967295 : Int))) = true, (decide ((0 : Int) ≤ n % (100000000 : Int) % (10000 : Int) / (100 : Int) ∧ n % (100000000 : Int) % (10000 : Int) / (100 : Int) ≤ (4294967295 : Int))) = true, (decide ((0 : Int) ≤ n % (100000000 : Int) % (10000 : Int) ∧ (0 : Int) < (100 : Int))) = true, (decide ((0 : Int) ≤ n % (100000000 : Int) ∧ (0 : Int) < (10000 : Int))) = true, (decide ((0 : Int) ≤ n % (100000000 : Int) / (10000 : Int) ∧ n % (100000000 : Int) / (10000 : Int) ≤ (4294967295 : Int))) = true, (decide ((0 : Int) ≤ n % (100000000 : Int) ∧ (0 : Int) < (10000 : Int))) = true, (decide ((0 : Int) ≤ n / (100000000 : Int) ∧ n / (100000000 : Int) ≤ (18446744073709551615 : Int))) = true, (decide ((0 : Int) ≤ n ∧ (0 : Int) < (100000000 : Int))) = true, (decide ((0 : Int) ≤ n % (100000000 : Int) ∧ n % (100000000 : Int) ≤ (4294967295 : Int))) = true, (decide ((0 : Int) ≤ n ∧ (0 : Int) < (100000000 : Int))) = true, ndF n = (10 : Int), C101.pre [Value.int IntKind.u64 n], (decide (n < (100 : Int))) = false, (decide ((0 : Int) ≤ n ∧ n ≤ (18446744073709551615 : Int))) = true]) : ∃ st', Go.Ai.call cx ov2 1000 40 [.int .u32 n] ⟨keepIds st0.hp [2], st0.ct⟩ = some (Value.string { data := { toList := [UInt8.ofNat (byteAt smalls (n / (100000000 : Int) % (100 : Int) * (2 : Int)).toNat).toNat, UInt8.ofNat (byteAt smalls (n / (100000000 : Int) % (100 : Int) * (2 : Int) + (1 : Int)).toNat).toNat, UInt8.ofNat (byteAt smalls (n % (100000000 : Int) / (10000 : Int) / (100 : Int) * (2 : Int)).toNat).toNat, UInt8.ofNat (byteAt smalls (n % (100000000 : Int) / (10000 : Int) / (100 : Int) * (2 : Int) + (1 : Int)).toNat).toNat, UInt8.ofNat (byteAt smalls (n % (100000000 : Int) / (10000 : Int) % (100 : Int) * (2 : Int)).toNat).toNat, UInt8.ofNat (byteAt smalls (n % (100000000 : Int) / (10000 : Int) % (100 : Int) * (2 : Int) + (1 : Int)).toNat).toNat, UInt8.ofNat (byteAt smalls (n % (100000000 : Int) % (10000 : Int) / (100 : Int) * (2 : Int)).toNat).toNat, UInt8.ofNat (byteAt smalls (n % (100000000 : Int) % (10000 : Int) / (100 : Int) * (2 : Int) + (1 : Int)).toNat).toNat, UInt8.ofNat (byteAt smalls (n % (100000000 : Int) % (10000 : Int) % (100 : Int) * (2 : Int)).toNat).toNat, UInt8.ofNat (byteAt smalls (n % (100000000 : Int) % (10000 : Int) % (100 : Int) * (2 : Int) + (1 : Int)).toNat).toNat] } }, st') :=
  path_call ref2 (toks := [.yes, .ev, .no, .at (10), .ev, .ev, .ev, .ev, .yes, .yes, .ev, .yes, .yes, .ev, .yes, .yes, .ev, .yes, .ev, .yes, .yes, .yes, .ev, .yes, .yes, .ev, .yes, .yes, .yes, .ev, .yes, .yes, .ev, .ev, .yes, .yes, .yes, .ev, .ev, .ev, .ev, .ev, .ev, .yes, .yes, .yes, .ev, .ev, .ev, .ev, .ev, .ev, .yes, .yes, .yes, .ev, .ev, .ev, .ev, .ev, .ev, .yes, .yes, .yes, .ev, .ev, .ev, .ev, .ev, .ev, .yes, .ev, .ev, .ev, .yes, .yes, .ev, .yes, .yes, .ev, .ev, .yes, .yes, .yes, .ev, .ev, .ev, .ev, .ev, .ev, .at (10), .ev, .ev, .ev]) (by kernel_rfl) h
set_option maxHeartbeats 4000000 in
theorem F40_all (n : Int) (h0 : 0 ≤ n) (h1 : n < 4294967296) : ∃ st', Go.Ai.call cx ov2 1000 40 [.int .u32 n] ⟨keepIds st0.hp [2], st0.ct⟩ = some (.string (decB n), st') := by
  have hN := ndF_tab n
  cases b0 : (decide ((0 : Int) ≤ n ∧ n ≤ (18446744073709551615 : Int)))
  ·
    have c0 := of_decide_eq_false b0
    (exfalso; omega)
  ·
    have c0 := of_decide_eq_true b0
    cases b1 : (decide (n < (100 : Int)))
    ·
      have c1 := of_decide_eq_false b1
      by_cases b2 : ndF n = (3 : Int)
      ·
        cases b3 : (decide ((0 : Int) ≤ n ∧ n ≤ (4294967295 : Int)))
        ·
          have c3 := of_decide_eq_false b3
          (exfalso; omega)
        ·
          have c3 := of_decide_eq_true b3
          cases b4 : (decide ((0 : Int) ≤ n ∧ (0 : Int) < (100 : Int)))
          ·
            have c4 := of_decide_eq_false b4
            (exfalso; omega)
          ·
            have c4 := of_decide_eq_true b4
            cases b5 : (decide ((0 : Int) ≤ n % (100 : Int) * (2 : Int) ∧ n % (100 : Int) * (2 : Int) ≤ (4294967295 : Int)))
            ·
              have c5 := of_decide_eq_false b5
              (exfalso; omega)
            ·
              have c5 := of_decide_eq_true b5
              cases b6 : (decide ((0 : Int) ≤ n / (100 : Int) ∧ n / (100 : Int) ≤ (4294967295 : Int)))
              ·
                have c6 := of_decide_eq_false b6
                (exfalso; omega)
              ·
                have c6 := of_decide_eq_true b6
                cases b7 : (decide ((0 : Int) ≤ n % (100 : Int) * (2 : Int) + (1 : Int) ∧ n % (100 : Int) * (2 : Int) + (1 : Int) ≤ (4294967295 : Int)))
                ·
                  have c7 := of_decide_eq_false b7
                  (exfalso; omega)
                ·
                  have c7 := of_decide_eq_true b7
                  cases b8 : (decide ((0 : Int) ≤ n % (100 : Int) * (2 : Int) + (1 : Int) ∧ n % (100 : Int) * (2 : Int) + (1 : Int) < (200 : Int)))
                  ·
                    have c8 := of_decide_eq_false b8
                    (exfalso; omega)
                  ·
                    have c8 := of_decide_eq_true b8
                    cases b9 : (decide ((0 : Int) ≤ n % (100 : Int) * (2 : Int) ∧ n % (100 : Int) * (2 : Int) < (200 : Int)))
                    ·
                      have c9 := of_decide_eq_false b9
                      (exfalso; omega)
                    ·
                      have c9 := of_decide_eq_true b9
                      cases b10 : (decide ((0 : Int) ≤ (48 : Int) + n / (100 : Int) ∧ (48 : Int) + n / (100 : Int) ≤ (4294967295 : Int)))
                      ·
                        have c10 := of_decide_eq_false b10
                        (exfalso; omega)
                      ·
                        have c10 := of_decide_eq_true b10
                        cases b11 : (decide ((0 : Int) ≤ (48 : Int) + n / (100 : Int) ∧ (48 : Int) + n / (100 : Int) ≤ (255 : Int)))
                        ·
                          have c11 := of_decide_eq_false b11
                          (exfalso; omega)
                        ·
                          have c11 := of_decide_eq_true b11
                          obtain ⟨st', h⟩ := F40_p2 n ⟨b2, b11, b10, b9, b8, b7, b6, b4, b5, b4, b3, b2, (by first | exact ⟨_, rfl, by omega, by omega⟩ | omega), b1, b0, trivial⟩
                          exact ⟨st', h.trans (congrArg (fun v => some (v, st')) (by refine congrArg Value.string ?_; obtain ⟨k, rfl⟩ : ∃ k : Nat, n = k := ⟨n.toNat, by omega⟩; refine bytes_eq ?_; rw [Int.toNat_natCast]; simp (disch := omega) only [decL_ge, decL_lt, List.cons_append, List.nil_append, smalls_lo, smalls_hi]; repeat (first | rfl | refine list_cons (dig_eq _ _ (by omega)) ?_)))⟩
      ·
        by_cases b3 : ndF n = (4 : Int)
        ·
          cases b4 : (decide ((0 : Int) ≤ n ∧ n ≤ (4294967295 : Int)))
          ·
            have c4 := of_decide_eq_false b4
            (exfalso; omega)
          ·
            have c4 := of_decide_eq_true b4
            cases b5 : (decide ((0 : Int) ≤ n ∧ (0 : Int) < (10000 : Int)))
            ·
              have c5 := of_decide_eq_false b5
              (exfalso; omega)
            ·
              have c5 := of_decide_eq_true b5
              cases b6 : (decide ((0 : Int) ≤ n / (10000 : Int) ∧ n / (10000 : Int) ≤ (4294967295 : Int)))
              ·
                have c6 := of_decide_eq_false b6
                (exfalso; omega)
              ·
                have c6 := of_decide_eq_true b6
                cases b7 : (decide ((0 : Int) ≤ n % (10000 : Int) ∧ (0 : Int) < (100 : Int)))
                ·
                  have c7 := of_decide_eq_false b7
                  (exfalso; omega)
                ·
                  have c7 := of_decide_eq_true b7
                  cases b8 : (decide ((0 : Int) ≤ n % (10000 : Int) / (100 : Int) ∧ n % (10000 : Int) / (100 : Int) ≤ (4294967295 : Int)))
                  ·
                    have c8 := of_decide_eq_false b8
                    (exfalso; omega)
                  ·
                    have c8 := of_decide_eq_true b8
                    cases b9 : (decide ((0 : Int) ≤ n % (10000 : Int) / (100 : Int) * (2 : Int) ∧ n % (10000 : Int) / (100 : Int) * (2 : Int) ≤ (4294967295 : Int)))
                    ·
                      have c9 := of_decide_eq_false b9
                      (exfalso; omega)
                    ·
                      have c9 := of_decide_eq_true b9
                      cases b10 : (decide ((0 : Int) ≤ n % (10000 : Int) % (100 : Int) * (2 : Int) ∧ n % (10000 : Int) % (100 : Int) * (2 : Int) ≤ (4294967295 : Int)))
                      ·
                        have c10 := of_decide_eq_false b10
                        (exfalso; omega)
                      ·
                        have c10 := of_decide_eq_true b10
                        cases b11 : (decide ((0 : Int) ≤ n % (10000 : Int) % (100 : Int) * (2 : Int) + (1 : Int) ∧ n % (10000 : Int) % (100 : Int) * (2 : Int) + (1 : Int) ≤ (4294967295 : Int)))
                        ·
                          have c11 := of_decide_eq_false b11
                          (exfalso; omega)
                        ·
                          have c11 := of_decide_eq_true b11
                          cases b12 : (decide ((0 : Int) ≤ n % (10000 : Int) % (100 : Int) * (2 : Int) + (1 : Int) ∧ n % (10000 : Int) % (100 : Int) * (2 : Int) + (1 : Int) < (200 : Int)))
                          ·
                            have c12 := of_decide_eq_false b12
                            (exfalso; omega)
                          ·
                            have c12 := of_decide_eq_true b12
                            cases b13 : (decide ((0 : Int) ≤ n % (10000 : Int) % (100 : Int) * (2 : Int) ∧ n % (10000 : Int) % (100 : Int) * (2 : Int) < (200 : Int)))
                            ·
                              have c13 := of_decide_eq_false b13
                              (exfalso; omega)
                            ·
                              have c13 := of_decide_eq_true b13
                              cases b14 : (decide ((0 : Int) ≤ n % (10000 : Int) / (100 : Int) * (2 : Int) + (1 : Int) ∧ n % (10000 : Int) / (100 : Int) * (2 : Int) + (1 : Int) ≤ (4294967295 : Int)))
                              ·
                                have c14 := of_decide_eq_false b14
                                (exfalso; omega)
                              ·
                                have c14 := of_decide_eq_true b14
                                cases b15 : (decide ((0 : Int) ≤ n % (10000 : Int) / (100 : Int) * (2 : Int) + (1 : Int) ∧ n % (10000 : Int) / (100 : Int) * (2 : Int) + (1 : Int) < (200 : Int)))
                                ·
                                  have c15 := of_decide_eq_false b15
                                  (exfalso; omega)
                                ·
                                  have c15 := of_decide_eq_true b15
                                  cases b16 : (decide ((0 : Int) ≤ n % (10000 : Int) / (100 : Int) * (2 : Int) ∧ n % (10000 : Int) / (100 : Int) * (2 : Int) < (200 : Int)))
                                  ·
                                    have c16 := of_decide_eq_false b16
                                    (exfalso; omega)
                                  ·
                                    have c16 := of_decide_eq_true b16
                                    obtain ⟨st', h⟩ := F40_p3 n ⟨b3, b16, b15, b14, b13, b12, b11, b10, b7, b9, b8, b7, b6, b5, b5, b4, b3, (by first | exact ⟨_, rfl, by omega, by omega⟩ | omega), b1, b0, trivial⟩
                                    exact ⟨st', h.trans (congrArg (fun v => some (v, st')) (by refine congrArg Value.string ?_; obtain ⟨k, rfl⟩ : ∃ k : Nat, n = k := ⟨n.toNat, by omega⟩; refine bytes_eq ?_; rw [Int.toNat_natCast]; simp (disch := omega) only [decL_ge, decL_lt, List.cons_append, List.nil_append, smalls_lo, smalls_hi]; repeat (first | rfl | refine list_cons (dig_eq _ _ (by omega)) ?_)))⟩
        ·
          by_cases b4 : ndF n = (5 : Int)
          ·
            cases b5 : (decide ((0 : Int) ≤ n ∧ n ≤ (4294967295 : Int)))
            ·
              have c5 := of_decide_eq_false b5
              (exfalso; omega)
            ·
              have c5 := of_decide_eq_true b5
              cases b6 : (decide ((0 : Int) ≤ n ∧ (0 : Int) < (10000 : Int)))
              ·
                have c6 := of_decide_eq_false b6
                (exfalso; omega)
              ·
                have c6 := of_decide_eq_true b6
                cases b7 : (decide ((0 : Int) ≤ n / (10000 : Int) ∧ n / (10000 : Int) ≤ (4294967295 : Int)))
                ·
                  have c7 := of_decide_eq_false b7
                  (exfalso; omega)
                ·
                  have c7 := of_decide_eq_true b7
                  cases b8 : (decide ((0 : Int) ≤ n % (10000 : Int) ∧ (0 : Int) < (100 : Int)))
                  ·
                    have c8 := of_decide_eq_false b8
                    (exfalso; omega)
                  ·
                    have c8 := of_decide_eq_true b8
                    cases b9 : (decide ((0 : Int) ≤ n % (10000 : Int) / (100 : Int) ∧ n % (10000 : Int) / (100 : Int) ≤ (4294967295 : Int)))
                    ·
                      have c9 := of_decide_eq_false b9
                      (exfalso; omega)
                    ·
                      have c9 := of_decide_eq_true b9
                      cases b10 : (decide ((0 : Int) ≤ n % (10000 : Int) / (100 : Int) * (2 : Int) ∧ n % (10000 : Int) / (100 : Int) * (2 : Int) ≤ (4294967295 : Int)))
                      ·
                        have c10 := of_decide_eq_false b10
                        (exfalso; omega)
                      ·
                        have c10 := of_decide_eq_true b10
                        cases b11 : (decide ((0 : Int) ≤ n % (10000 : Int) % (100 : Int) * (2 : Int) ∧ n % (10000 : Int) % (100 : Int) * (2 : Int) ≤ (4294967295 : Int)))
                        ·
                          have c11 := of_decide_eq_false b11
                          (exfalso; omega)
                        ·
                          have c11 := of_decide_eq_true b11
                          cases b12 : (decide ((0 : Int) ≤ n % (10000 : Int) % (100 : Int) * (2 : Int) + (1 : Int) ∧ n % (10000 : Int) % (100 : Int) * (2 : Int) + (1 : Int) ≤ (4294967295 : Int)))
                          ·
                            have c12 := of_decide_eq_false b12
                            (exfalso; omega)
                          ·
                            have c12 := of_decide_eq_true b12
                            cases b13 : (decide ((0 : Int) ≤ n % (10000 : Int) % (100 : Int) * (2 : Int) + (1 : Int) ∧ n % (10000 : Int) % (100 : Int) * (2 : Int) + (1 : Int) < (200 : Int)))
                            ·
                              have c13 := of_decide_eq_false b13
                              (exfalso; omega)
                            ·
                              have c13 := of_decide_eq_true b13
                              cases b14 : (decide ((0 : Int) ≤ n % (10000 : Int) % (100 : Int) * (2 : Int) ∧ n % (10000 : Int) % (100 : Int) * (2 : Int) < (200 : Int)))
                              ·
                                have c14 := of_decide_eq_false b14
                                (exfalso; omega)
                              ·
                                have c14 := of_decide_eq_true b14
                                cases b15 : (decide ((0 : Int) ≤ n % (10000 : Int) / (100 : Int) * (2 : Int) + (1 : Int) ∧ n % (10000 : Int) / (100 : Int) * (2 : Int) + (1 : Int) ≤ (4294967295 : Int)))
                                ·
                                  have c15 := of_decide_eq_false b15
                                  (exfalso; omega)
                                ·
                                  have c15 := of_decide_eq_true b15
                                  cases b16 : (decide ((0 : Int) ≤ n % (10000 : Int) / (100 : Int) * (2 : Int) + (1 : Int) ∧ n % (10000 : Int) / (100 : Int) * (2 : Int) + (1 : Int) < (200 : Int)))
                                  ·
                                    have c16 := of_decide_eq_false b16
                                    (exfalso; omega)
                                  ·
                                    have c16 := of_decide_eq_true b16
                                    cases b17 : (decide ((0 : Int) ≤ n % (10000 : Int) / (100 : Int) * (2 : Int) ∧ n % (10000 : Int) / (100 : Int) * (2 : Int) < (200 : Int)))
                                    ·
                                      have c17 := of_decide_eq_false b17
                                      (exfalso; omega)
                                    ·
                                      have c17 := of_decide_eq_true b17
                                      cases b18 : (decide ((0 : Int) ≤ (48 : Int) + n / (10000 : Int) ∧ (48 : Int) + n / (10000 : Int) ≤ (4294967295 : Int)))
                                      ·
                                        have c18 := of_decide_eq_false b18
                                        (exfalso; omega)
                                      ·
                                        have c18 := of_decide_eq_true b18
                                        cases b19 : (decide ((0 : Int) ≤ (48 : Int) + n / (10000 : Int) ∧ (48 : Int) + n / (10000 : Int) ≤ (255 : Int)))
                                        ·
                                          have c19 := of_decide_eq_false b19
                                          (exfalso; omega)
                                        ·
                                          have c19 := of_decide_eq_true b19
                                          obtain ⟨st', h⟩ := F40_p4 n ⟨b4, b19, b18, b17, b16, b15, b14, b13, b12, b11, b8, b10, b9, b8, b7, b6, b6, b5, b4, (by first | exact ⟨_, rfl, by omega, by omega⟩ | omega), b1, b0, trivial⟩
                                          exact ⟨st', h.trans (congrArg (fun v => some (v, st')) (by refine congrArg Value.string ?_; obtain ⟨k, rfl⟩ : ∃ k : Nat, n = k := ⟨n.toNat, by omega⟩; refine bytes_eq ?_; rw [Int.toNat_natCast]; simp (disch := omega) only [decL_ge, decL_lt, List.cons_append, List.nil_append, smalls_lo, smalls_hi]; repeat (first | rfl | refine list_cons (dig_eq _ _ (by omega)) ?_)))⟩
          ·
            by_cases b5 : ndF n = (6 : Int)
            ·
              cases b6 : (decide ((0 : Int) ≤ n ∧ n ≤ (4294967295 : Int)))
              ·
                have c6 := of_decide_eq_false b6
                (exfalso; omega)
              ·
                have c6 := of_decide_eq_true b6
                cases b7 : (decide ((0 : Int) ≤ n ∧ (0 : Int) < (10000 : Int)))
                ·
                  have c7 := of_decide_eq_false b7
                  (exfalso; omega)
                ·
                  have c7 := of_decide_eq_true b7
                  cases b8 : (decide ((0 : Int) ≤ n / (10000 : Int) ∧ n / (10000 : Int) ≤ (4294967295 : Int)))
                  ·
                    have c8 := of_decide_eq_false b8
                    (exfalso; omega)
                  ·
                    have c8 := of_decide_eq_true b8
                    cases b9 : (decide ((0 : Int) ≤ n % (10000 : Int) ∧ (0 : Int) < (100 : Int)))
                    ·
                      have c9 := of_decide_eq_false b9
                      (exfalso; omega)
                    ·
                      have c9 := of_decide_eq_true b9
                      cases b10 : (decide ((0 : Int) ≤ n % (10000 : Int) / (100 : Int) ∧ n % (10000 : Int) / (100 : Int) ≤ (4294967295 : Int)))
                      ·
                        have c10 := of_decide_eq_false b10
                        (exfalso; omega)
                      ·
                        have c10 := of_decide_eq_true b10
                        cases b11 : (decide ((0 : Int) ≤ n % (10000 : Int) / (100 : Int) * (2 : Int) ∧ n % (10000 : Int) / (100 : Int) * (2 : Int) ≤ (4294967295 : Int)))
                        ·
                          have c11 := of_decide_eq_false b11
                          (exfalso; omega)
                        ·
                          have c11 := of_decide_eq_true b11
                          cases b12 : (decide ((0 : Int) ≤ n % (10000 : Int) % (100 : Int) * (2 : Int) ∧ n % (10000 : Int) % (100 : Int) * (2 : Int) ≤ (4294967295 : Int)))
                          ·
                            have c12 := of_decide_eq_false b12
                            (exfalso; omega)
                          ·
                            have c12 := of_decide_eq_true b12
                            cases b13 : (decide ((0 : Int) ≤ n % (10000 : Int) % (100 : Int) * (2 : Int) + (1 : Int) ∧ n % (10000 : Int) % (100 : Int) * (2 : Int) + (1 : Int) ≤ (4294967295 : Int)))
                            ·
                              have c13 := of_decide_eq_false b13
                              (exfalso; omega)
                            ·
                              have c13 := of_decide_eq_true b13
                              cases b14 : (decide ((0 : Int) ≤ n % (10000 : Int) % (100 : Int) * (2 : Int) + (1 : Int) ∧ n % (10000 : Int) % (100 : Int) * (2 : Int) + (1 : Int) < (200 : Int)))
                              ·
                                have c14 := of_decide_eq_false b14
                                (exfalso; omega)
                              ·
                                have c14 := of_decide_eq_true b14
                                cases b15 : (decide ((0 : Int) ≤ n % (10000 : Int) % (100 : Int) * (2 : Int) ∧ n % (10000 : Int) % (100 : Int) * (2 : Int) < (200 : Int)))
                                ·
                                  have c15 := of_decide_eq_false b15
                                  (exfalso; omega)
                                ·
                                  have c15 := of_decide_eq_true b15
                                  cases b16 : (decide ((0 : Int) ≤ n % (10000 : Int) / (100 : Int) * (2 : Int) + (1 : Int) ∧ n % (10000 : Int) / (100 : Int) * (2 : Int) + (1 : Int) ≤ (4294967295 : Int)))
                                  ·
                                    have c16 := of_decide_eq_false b16
                                    (exfalso; omega)
                                  ·
                                    have c16 := of_decide_eq_true b16
                                    cases b17 : (decide ((0 : Int) ≤ n % (10000 : Int) / (100 : Int) * (2 : Int) + (1 : Int) ∧ n % (10000 : Int) / (100 : Int) * (2 : Int) + (1 : Int) < (200 : Int)))
                                    ·
                                      have c17 := of_decide_eq_false b17
                                      (exfalso; omega)
                                    ·
                                      have c17 := of_decide_eq_true b17
                                      cases b18 : (decide ((0 : Int) ≤ n % (10000 : Int) / (100 : Int) * (2 : Int) ∧ n % (10000 : Int) / (100 : Int) * (2 : Int) < (200 : Int)))
                                      ·
                                        have c18 := of_decide_eq_false b18
                                        (exfalso; omega)
                                      ·
                                        have c18 := of_decide_eq_true b18
                                        cases b19 : (decide ((0 : Int) ≤ n / (10000 : Int) ∧ (0 : Int) < (100 : Int)))
                                        ·
                                          have c19 := of_decide_eq_false b19
                                          (exfalso; omega)
                                        ·
                                          have c19 := of_decide_eq_true b19
                                          cases b20 : (decide ((0 : Int) ≤ n / (10000 : Int) % (100 : Int) * (2 : Int) ∧ n / (10000 : Int) % (100 : Int) * (2 : Int) ≤ (4294967295 : Int)))
                                          ·
                                            have c20 := of_decide_eq_false b20
                                            (exfalso; omega)
                                          ·
                                            have c20 := of_decide_eq_true b20
                                            cases b21 : (decide ((0 : Int) ≤ n / (10000 : Int) / (100 : Int) ∧ n / (10000 : Int) / (100 : Int) ≤ (4294967295 : Int)))
                                            ·
                                              have c21 := of_decide_eq_false b21
                                              (exfalso; omega)
                                            ·
                                              have c21 := of_decide_eq_true b21
                                              cases b22 : (decide ((0 : Int) ≤ n / (10000 : Int) % (100 : Int) * (2 : Int) + (1 : Int) ∧ n / (10000 : Int) % (100 : Int) * (2 : Int) + (1 : Int) ≤ (4294967295 : Int)))
                                              ·
                                                have c22 := of_decide_eq_false b22
                                                (exfalso; omega)
                                              ·
                                                have c22 := of_decide_eq_true b22
                                                cases b23 : (decide ((0 : Int) ≤ n / (10000 : Int) % (100 : Int) * (2 : Int) + (1 : Int) ∧ n / (10000 : Int) % (100 : Int) * (2 : Int) + (1 : Int) < (200 : Int)))
                                                ·
                                                  have c23 := of_decide_eq_false b23
                                                  (exfalso; omega)
                                                ·
                                                  have c23 := of_decide_eq_true b23
                                                  cases b24 : (decide ((0 : Int) ≤ n / (10000 : Int) % (100 : Int) * (2 : Int) ∧ n / (10000 : Int) % (100 : Int) * (2 : Int) < (200 : Int)))
                                                  ·
                                                    have c24 := of_decide_eq_false b24
                                                    (exfalso; omega)
                                                  ·
                                                    have c24 := of_decide_eq_true b24
                                                    obtain ⟨st', h⟩ := F40_p5 n ⟨b5, b24, b23, b22, b21, b19, b20, b19, b18, b17, b16, b15, b14, b13, b12, b9, b11, b10, b9, b8, b7, b7, b6, b5, (by first | exact ⟨_, rfl, by omega, by omega⟩ | omega), b1, b0, trivial⟩
                                                    exact ⟨st', h.trans (congrArg (fun v => some (v, st')) (by refine congrArg Value.string ?_; obtain ⟨k, rfl⟩ : ∃ k : Nat, n = k := ⟨n.toNat, by omega⟩; refine bytes_eq ?_; rw [Int.toNat_natCast]; simp (disch := omega) only [decL_ge, decL_lt, List.cons_append, List.nil_append, smalls_lo, smalls_hi]; repeat (first | rfl | refine list_cons (dig_eq _ _ (by omega)) ?_)))⟩
            ·
              by_cases b6 : ndF n = (7 : Int)
              ·
                cases b7 : (decide ((0 : Int) ≤ n ∧ n ≤ (4294967295 : Int)))
                ·
                  have c7 := of_decide_eq_false b7
                  (exfalso; omega)
                ·
                  have c7 := of_decide_eq_true b7
                  cases b8 : (decide ((0 : Int) ≤ n ∧ (0 : Int) < (10000 : Int)))
                  ·
                    have c8 := of_decide_eq_false b8
                    (exfalso; omega)
                  ·
                    have c8 := of_decide_eq_true b8
                    cases b9 : (decide ((0 : Int) ≤ n / (10000 : Int) ∧ n / (10000 : Int) ≤ (4294967295 : Int)))
                    ·
                      have c9 := of_decide_eq_false b9
                      (exfalso; omega)
                    ·
                      have c9 := of_decide_eq_true b9
                      cases b10 : (decide ((0 : Int) ≤ n % (10000 : Int) ∧ (0 : Int) < (100 : Int)))
                      ·
                        have c10 := of_decide_eq_false b10
                        (exfalso; omega)
                      ·
                        have c10 := of_decide_eq_true b10
                        cases b11 : (decide ((0 : Int) ≤ n % (10000 : Int) / (100 : Int) ∧ n % (10000 : Int) / (100 : Int) ≤ (4294967295 : Int)))
                        ·
                          have c11 := of_decide_eq_false b11
                          (exfalso; omega)
                        ·
                          have c11 := of_decide_eq_true b11
                          cases b12 : (decide ((0 : Int) ≤ n % (10000 : Int) / (100 : Int) * (2 : Int) ∧ n % (10000 : Int) / (100 : Int) * (2 : Int) ≤ (4294967295 : Int)))
                          ·
                            have c12 := of_decide_eq_false b12
                            (exfalso; omega)
                          ·
                            have c12 := of_decide_eq_true b12
                            cases b13 : (decide ((0 : Int) ≤ n % (10000 : Int) % (100 : Int) * (2 : Int) ∧ n % (10000 : Int) % (100 : Int) * (2 : Int) ≤ (4294967295 : Int)))
                            ·
                              have c13 := of_decide_eq_false b13
                              (exfalso; omega)
                            ·
                              have c13 := of_decide_eq_true b13
                              cases b14 : (decide ((0 : Int) ≤ n % (10000 : Int) % (100 : Int) * (2 : Int) + (1 : Int) ∧ n % (10000 : Int) % (100 : Int) * (2 : Int) + (1 : Int) ≤ (4294967295 : Int)))
                              ·
                                have c14 := of_decide_eq_false b14
                                (exfalso; omega)
                              ·
                                have c14 := of_decide_eq_true b14
                                cases b15 : (decide ((0 : Int) ≤ n % (10000 : Int) % (100 : Int) * (2 : Int) + (1 : Int) ∧ n % (10000 : Int) % (100 : Int) * (2 : Int) + (1 : Int) < (200 : Int)))
                                ·
                                  have c15 := of_decide_eq_false b15
                                  (exfalso; omega)
                                ·
                                  have c15 := of_decide_eq_true b15
                                  cases b16 : (decide ((0 : Int) ≤ n % (10000 : Int) % (100 : Int) * (2 : Int) ∧ n % (10000 : Int) % (100 : Int) * (2 : Int) < (200 : Int)))
                                  ·
                                    have c16 := of_decide_eq_false b16
                                    (exfalso; omega)
                                  ·
                                    have c16 := of_decide_eq_true b16
                                    cases b17 : (decide ((0 : Int) ≤ n % (10000 : Int) / (100 : Int) * (2 : Int) + (1 : Int) ∧ n % (10000 : Int) / (100 : Int) * (2 : Int) + (1 : Int) ≤ (4294967295 : Int)))
                                    ·
                                      have c17 := of_decide_eq_false b17
                                      (exfalso; omega)
                                    ·
                                      have c17 := of_decide_eq_true b17
                                      cases b18 : (decide ((0 : Int) ≤ n % (10000 : Int) / (100 : Int) * (2 : Int) + (1 : Int) ∧ n % (10000 : Int) / (100 : Int) * (2 : Int) + (1 : Int) < (200 : Int)))
                                      ·
                                        have c18 := of_decide_eq_false b18
                                        (exfalso; omega)
                                      ·
                                        have c18 := of_decide_eq_true b18
                                        cases b19 : (decide ((0 : Int) ≤ n % (10000 : Int) / (100 : Int) * (2 : Int) ∧ n % (10000 : Int) / (100 : Int) * (2 : Int) < (200 : Int)))
                                        ·
                                          have c19 := of_decide_eq_false b19
                                          (exfalso; omega)
                                        ·
                                          have c19 := of_decide_eq_true b19
                                          cases b20 : (decide ((0 : Int) ≤ n / (10000 : Int) ∧ (0 : Int) < (100 : Int)))
                                          ·
                                            have c20 := of_decide_eq_false b20
                                            (exfalso; omega)
                                          ·
                                            have c20 := of_decide_eq_true b20
                                            cases b21 : (decide ((0 : Int) ≤ n / (10000 : Int) % (100 : Int) * (2 : Int) ∧ n / (10000 : Int) % (100 : Int) * (2 : Int) ≤ (4294967295 : Int)))
                                            ·
                                              have c21 := of_decide_eq_false b21
                                              (exfalso; omega)
                                            ·
                                              have c21 := of_decide_eq_true b21
                                              cases b22 : (decide ((0 : Int) ≤ n / (10000 : Int) / (100 : Int) ∧ n / (10000 : Int) / (100 : Int) ≤ (4294967295 : Int)))
                                              ·
                                                have c22 := of_decide_eq_false b22
                                                (exfalso; omega)
                                              ·
                                                have c22 := of_decide_eq_true b22
                                                cases b23 : (decide ((0 : Int) ≤ n / (10000 : Int) % (100 : Int) * (2 : Int) + (1 : Int) ∧ n / (10000 : Int) % (100 : Int) * (2 : Int) + (1 : Int) ≤ (4294967295 : Int)))
                                                ·
                                                  have c23 := of_decide_eq_false b23
                                                  (exfalso; omega)
                                                ·
                                                  have c23 := of_decide_eq_true b23
                                                  cases b24 : (decide ((0 : Int) ≤ n / (10000 : Int) % (100 : Int) * (2 : Int) + (1 : Int) ∧ n / (10000 : Int) % (100 : Int) * (2 : Int) + (1 : Int) < (200 : Int)))
                                                  ·
                                                    have c24 := of_decide_eq_false b24
                                                    (exfalso; omega)
                                                  ·
                                                    have c24 := of_decide_eq_true b24
                                                    cases b25 : (decide ((0 : Int) ≤ n / (10000 : Int) % (100 : Int) * (2 : Int) ∧ n / (10000 : Int) % (100 : Int) * (2 : Int) < (200 : Int)))
                                                    ·
                                                      have c25 := of_decide_eq_false b25
                                                      (exfalso; omega)
                                                    ·
                                                      have c25 := of_decide_eq_true b25
                                                      cases b26 : (decide ((0 : Int) ≤ (48 : Int) + n / (10000 : Int) / (100 : Int) ∧ (48 : Int) + n / (10000 : Int) / (100 : Int) ≤ (4294967295 : Int)))
                                                      ·
                                                        have c26 := of_decide_eq_false b26
                                                        (exfalso; omega)
                                                      ·
                                                        have c26 := of_decide_eq_true b26
                                                        cases b27 : (decide ((0 : Int) ≤ (48 : Int) + n / (10000 : Int) / (100 : Int) ∧ (48 : Int) + n / (10000 : Int) / (100 : Int) ≤ (255 : Int)))
                                                        ·
                                                          have c27 := of_decide_eq_false b27
                                                          (exfalso; omega)
                                                        ·
                                                          have c27 := of_decide_eq_true b27
                                                          obtain ⟨st', h⟩ := F40_p6 n ⟨b6, b27, b26, b25, b24, b23, b22, b20, b21, b20, b19, b18, b17, b16, b15, b14, b13, b10, b12, b11, b10, b9, b8, b8, b7, b6, (by first | exact ⟨_, rfl, by omega, by omega⟩ | omega), b1, b0, trivial⟩
                                                          exact ⟨st', h.trans (congrArg (fun v => some (v, st')) (by refine congrArg Value.string ?_; obtain ⟨k, rfl⟩ : ∃ k : Nat, n = k := ⟨n.toNat, by omega⟩; refine bytes_eq ?_; rw [Int.toNat_natCast]; simp (disch := omega) only [decL_ge, decL_lt, List.cons_append, List.nil_append, smalls_lo, smalls_hi]; repeat (first | rfl | refine list_cons (dig_eq _ _ (by omega)) ?_)))⟩
              ·
                by_cases b7 : ndF n = (8 : Int)
                ·
                  cases b8 : (decide ((0 : Int) ≤ n ∧ (0 : Int) < (100000000 : Int)))
                  ·
                    have c8 := of_decide_eq_false b8
                    (exfalso; omega)
                  ·
                    have c8 := of_decide_eq_true b8
                    cases b9 : (decide ((0 : Int) ≤ n % (100000000 : Int) ∧ n % (100000000 : Int) ≤ (4294967295 : Int)))
                    ·
                      have c9 := of_decide_eq_false b9
                      (exfalso; omega)
                    ·
                      have c9 := of_decide_eq_true b9
                      cases b10 : (decide ((0 : Int) ≤ n / (100000000 : Int) ∧ n / (100000000 : Int) ≤ (18446744073709551615 : Int)))
                      ·
                        have c10 := of_decide_eq_false b10
                        (exfalso; omega)
                      ·
                        have c10 := of_decide_eq_true b10
                        cases b11 : (decide ((0 : Int) ≤ n % (100000000 : Int) ∧ (0 : Int) < (10000 : Int)))
                        ·
                          have c11 := of_decide_eq_false b11
                          (exfalso; omega)
                        ·
                          have c11 := of_decide_eq_true b11
                          cases b12 : (decide ((0 : Int) ≤ n % (100000000 : Int) / (10000 : Int) ∧ n % (100000000 : Int) / (10000 : Int) ≤ (4294967295 : Int)))
                          ·
                            have c12 := of_decide_eq_false b12
                            (exfalso; omega)
                          ·
                            have c12 := of_decide_eq_true b12
                            cases b13 : (decide ((0 : Int) ≤ n % (100000000 : Int) % (10000 : Int) ∧ (0 : Int) < (100 : Int)))
                            ·
                              have c13 := of_decide_eq_false b13
                              (exfalso; omega)
                            ·
                              have c13 := of_decide_eq_true b13
                              cases b14 : (decide ((0 : Int) ≤ n % (100000000 : Int) % (10000 : Int) / (100 : Int) ∧ n % (100000000 : Int) % (10000 : Int) / (100 : Int) ≤ (4294967295 : Int)))
                              ·
                                have c14 := of_decide_eq_false b14
                                (exfalso; omega)
                              ·
                                have c14 := of_decide_eq_true b14
                                cases b15 : (decide ((0 : Int) ≤ n % (100000000 : Int) % (10000 : Int) / (100 : Int) * (2 : Int) ∧ n % (100000000 : Int) % (10000 : Int) / (100 : Int) * (2 : Int) ≤ (4294967295 : Int)))
                                ·
                                  have c15 := of_decide_eq_false b15
                                  (exfalso; omega)
                                ·
                                  have c15 := of_decide_eq_true b15
                                  cases b16 : (decide ((0 : Int) ≤ n % (100000000 : Int) % (10000 : Int) % (100 : Int) * (2 : Int) ∧ n % (100000000 : Int) % (10000 : Int) % (100 : Int) * (2 : Int) ≤ (4294967295 : Int)))
                                  ·
                                    have c16 := of_decide_eq_false b16
                                    (exfalso; omega)
                                  ·
                                    have c16 := of_decide_eq_true b16
                                    cases b17 : (decide ((0 : Int) ≤ n % (100000000 : Int) / (10000 : Int) ∧ (0 : Int) < (100 : Int)))
                                    ·
                                      have c17 := of_decide_eq_false b17
                                      (exfalso; omega)
                                    ·
                                      have c17 := of_decide_eq_true b17
                                      cases b18 : (decide ((0 : Int) ≤ n % (100000000 : Int) / (10000 : Int) / (100 : Int) ∧ n % (100000000 : Int) / (10000 : Int) / (100 : Int) ≤ (4294967295 : Int)))
                                      ·
                                        have c18 := of_decide_eq_false b18
                                        (exfalso; omega)
                                      ·
                                        have c18 := of_decide_eq_true b18
                                        cases b19 : (decide ((0 : Int) ≤ n % (100000000 : Int) / (10000 : Int) / (100 : Int) * (2 : Int) ∧ n % (100000000 : Int) / (10000 : Int) / (100 : Int) * (2 : Int) ≤ (4294967295 : Int)))
                                        ·
                                          have c19 := of_decide_eq_false b19
                                          (exfalso; omega)
                                        ·
                                          have c19 := of_decide_eq_true b19
                                          cases b20 : (decide ((0 : Int) ≤ n % (100000000 : Int) / (10000 : Int) % (100 : Int) * (2 : Int) ∧ n % (100000000 : Int) / (10000 : Int) % (100 : Int) * (2 : Int) ≤ (4294967295 : Int)))
                                          ·
                                            have c20 := of_decide_eq_false b20
                                            (exfalso; omega)
                                          ·
                                            have c20 := of_decide_eq_true b20
                                            cases b21 : (decide ((0 : Int) ≤ n % (100000000 : Int) % (10000 : Int) % (100 : Int) * (2 : Int) + (1 : Int) ∧ n % (100000000 : Int) % (10000 : Int) % (100 : Int) * (2 : Int) + (1 : Int) ≤ (4294967295 : Int)))
                                            ·
                                              have c21 := of_decide_eq_false b21
                                              (exfalso; omega)
                                            ·
                                              have c21 := of_decide_eq_true b21
                                              cases b22 : (decide ((0 : Int) ≤ n % (100000000 : Int) % (10000 : Int) % (100 : Int) * (2 : Int) + (1 : Int) ∧ n % (100000000 : Int) % (10000 : Int) % (100 : Int) * (2 : Int) + (1 : Int) < (200 : Int)))
                                              ·
                                                have c22 := of_decide_eq_false b22
                                                (exfalso; omega)
                                              ·
                                                have c22 := of_decide_eq_true b22
                                                cases b23 : (decide ((0 : Int) ≤ n % (100000000 : Int) % (10000 : Int) % (100 : Int) * (2 : Int) ∧ n % (100000000 : Int) % (10000 : Int) % (100 : Int) * (2 : Int) < (200 : Int)))
                                                ·
                                                  have c23 := of_decide_eq_false b23
                                                  (exfalso; omega)
                                                ·
                                                  have c23 := of_decide_eq_true b23
                                                  cases b24 : (decide ((0 : Int) ≤ n % (100000000 : Int) % (10000 : Int) / (100 : Int) * (2 : Int) + (1 : Int) ∧ n % (100000000 : Int) % (10000 : Int) / (100 : Int) * (2 : Int) + (1 : Int) ≤ (4294967295 : Int)))
                                                  ·
                                                    have c24 := of_decide_eq_false b24
                                                    (exfalso; omega)
                                                  ·
                                                    have c24 := of_decide_eq_true b24
                                                    cases b25 : (decide ((0 : Int) ≤ n % (100000000 : Int) % (10000 : Int) / (100 : Int) * (2 : Int) + (1 : Int) ∧ n % (100000000 : Int) % (10000 : Int) / (100 : Int) * (2 : Int) + (1 : Int) < (200 : Int)))
                                                    ·
                                                      have c25 := of_decide_eq_false b25
                                                      (exfalso; omega)
                                                    ·
                                                      have c25 := of_decide_eq_true b25
                                                      cases b26 : (decide ((0 : Int) ≤ n % (100000000 : Int) % (10000 : Int) / (100 : Int) * (2 : Int) ∧ n % (100000000 : Int) % (10000 : Int) / (100 : Int) * (2 : Int) < (200 : Int)))
                                                      ·
                                                        have c26 := of_decide_eq_false b26
                                                        (exfalso; omega)
                                                      ·
                                                        have c26 := of_decide_eq_true b26
                                                        cases b27 : (decide ((0 : Int) ≤ n % (100000000 : Int) / (10000 : Int) % (100 : Int) * (2 : Int) + (1 : Int) ∧ n % (100000000 : Int) / (10000 : Int) % (100 : Int) * (2 : Int) + (1 : Int) ≤ (4294967295 : Int)))
                                                        ·
                                                          have c27 := of_decide_eq_false b27
                                                          (exfalso; omega)
                                                        ·
                                                          have c27 := of_decide_eq_true b27
                                                          cases b28 : (decide ((0 : Int) ≤ n % (100000000 : Int) / (10000 : Int) % (100 : Int) * (2 : Int) + (1 : Int) ∧ n % (100000000 : Int) / (10000 : Int) % (100 : Int) * (2 : Int) + (1 : Int) < (200 : Int)))
                                                          ·
                                                            have c28 := of_decide_eq_false b28
                                                            (exfalso; omega)
                                                          ·
                                                            have c28 := of_decide_eq_true b28
                                                            cases b29 : (decide ((0 : Int) ≤ n % (100000000 : Int) / (10000 : Int) % (100 : Int) * (2 : Int) ∧ n % (100000000 : Int) / (10000 : Int) % (100 : Int) * (2 : Int) < (200 : Int)))
                                                            ·
                                                              have c29 := of_decide_eq_false b29
                                                              (exfalso; omega)
                                                            ·
                                                              have c29 := of_decide_eq_true b29
                                                              cases b30 : (decide ((0 : Int) ≤ n % (100000000 : Int) / (10000 : Int) / (100 : Int) * (2 : Int) + (1 : Int) ∧ n % (100000000 : Int) / (10000 : Int) / (100 : Int) * (2 : Int) + (1 : Int) ≤ (4294967295 : Int)))
                                                              ·
                                                                have c30 := of_decide_eq_false b30
                                                                (exfalso; omega)
                                                              ·
                                                                have c30 := of_decide_eq_true b30
                                                                cases b31 : (decide ((0 : Int) ≤ n % (100000000 : Int) / (10000 : Int) / (100 : Int) * (2 : Int) + (1 : Int) ∧ n % (100000000 : Int) / (10000 : Int) / (100 : Int) * (2 : Int) + (1 : Int) < (200 : Int)))
                                                                ·
                                                                  have c31 := of_decide_eq_false b31
                                                                  (exfalso; omega)
                                                                ·
                                                                  have c31 := of_decide_eq_true b31
                                                                  cases b32 : (decide ((0 : Int) ≤ n % (100000000 : Int) / (10000 : Int) / (100 : Int) * (2 : Int) ∧ n % (100000000 : Int) / (10000 : Int) / (100 : Int) * (2 : Int) < (200 : Int)))
                                                                  ·
                                                                    have c32 := of_decide_eq_false b32
                                                                    (exfalso; omega)
                                                                  ·
                                                                    have c32 := of_decide_eq_true b32
                                                                    cases b33 : (decide ((0 : Int) ≤ n / (100000000 : Int) ∧ n / (100000000 : Int) ≤ (4294967295 : Int)))
                                                                    ·
                                                                      have c33 := of_decide_eq_false b33
                                                                      (exfalso; omega)
                                                                    ·
                                                                      have c33 := of_decide_eq_true b33
                                                                      obtain ⟨st', h⟩ := F40_p7 n ⟨b7, b33, b32, b31, b30, b29, b28, b27, b26, b25, b24, b23, b22, b21, b20, b17, b19, b18, b17, b16, b13, b15, b14, b13, b11, b12, b11, b10, b8, b9, b8, b7, (by first | exact ⟨_, rfl, by omega, by omega⟩ | omega), b1, b0, trivial⟩
                                                                      exact ⟨st', h.trans (congrArg (fun v => some (v, st')) (by refine congrArg Value.string ?_; obtain ⟨k, rfl⟩ : ∃ k : Nat, n = k := ⟨n.toNat, by omega⟩; refine bytes_eq ?_; rw [Int.toNat_natCast]; simp (disch := omega) only [decL_ge, decL_lt, List.cons_append, List.nil_append, smalls_lo, smalls_hi]; repeat (first | rfl | refine list_cons (dig_eq _ _ (by omega)) ?_)))⟩
                ·
                  by_cases b8 : ndF n = (9 : Int)
                  ·
                    cases b9 : (decide ((0 : Int) ≤ n ∧ (0 : Int) < (100000000 : Int)))
                    ·
                      have c9 := of_decide_eq_false b9
                      (exfalso; omega)
                    ·
                      have c9 := of_decide_eq_true b9
                      cases b10 : (decide ((0 : Int) ≤ n % (100000000 : Int) ∧ n % (100000000 : Int) ≤ (4294967295 : Int)))
                      ·
                        have c10 := of_decide_eq_false b10
                        (exfalso; omega)
                      ·
                        have c10 := of_decide_eq_true b10
                        cases b11 : (decide ((0 : Int) ≤ n / (100000000 : Int) ∧ n / (100000000 : Int) ≤ (18446744073709551615 : Int)))
                        ·
                          have c11 := of_decide_eq_false b11
                          (exfalso; omega)
                        ·
                          have c11 := of_decide_eq_true b11
                          cases b12 : (decide ((0 : Int) ≤ n % (100000000 : Int) ∧ (0 : Int) < (10000 : Int)))
                          ·
                            have c12 := of_decide_eq_false b12
                            (exfalso; omega)
                          ·
                            have c12 := of_decide_eq_true b12
                            cases b13 : (decide ((0 : Int) ≤ n % (100000000 : Int) / (10000 : Int) ∧ n % (100000000 : Int) / (10000 : Int) ≤ (4294967295 : Int)))
                            ·
                              have c13 := of_decide_eq_false b13
                              (exfalso; omega)
                            ·
                              have c13 := of_decide_eq_true b13
                              cases b14 : (decide ((0 : Int) ≤ n % (100000000 : Int) % (10000 : Int) ∧ (0 : Int) < (100 : Int)))
                              ·
                                have c14 := of_decide_eq_false b14
                                (exfalso; omega)
                              ·
                                have c14 := of_decide_eq_true b14
                                cases b15 : (decide ((0 : Int) ≤ n % (100000000 : Int) % (10000 : Int) / (100 : Int) ∧ n % (100000000 : Int) % (10000 : Int) / (100 : Int) ≤ (4294967295 : Int)))
                                ·
                                  have c15 := of_decide_eq_false b15
                                  (exfalso; omega)
                                ·
                                  have c15 := of_decide_eq_true b15
                                  cases b16 : (decide ((0 : Int) ≤ n % (100000000 : Int) % (10000 : Int) / (100 : Int) * (2 : Int) ∧ n % (100000000 : Int) % (10000 : Int) / (100 : Int) * (2 : Int) ≤ (4294967295 : Int)))
                                  ·
                                    have c16 := of_decide_eq_false b16
                                    (exfalso; omega)
                                  ·
                                    have c16 := of_decide_eq_true b16
                                    cases b17 : (decide ((0 : Int) ≤ n % (100000000 : Int) % (10000 : Int) % (100 : Int) * (2 : Int) ∧ n % (100000000 : Int) % (10000 : Int) % (100 : Int) * (2 : Int) ≤ (4294967295 : Int)))
                                    ·
                                      have c17 := of_decide_eq_false b17
                                      (exfalso; omega)
                                    ·
                                      have c17 := of_decide_eq_true b17
                                      cases b18 : (decide ((0 : Int) ≤ n % (100000000 : Int) / (10000 : Int) ∧ (0 : Int) < (100 : Int)))
                                      ·
                                        have c18 := of_decide_eq_false b18
                                        (exfalso; omega)
                                      ·
                                        have c18 := of_decide_eq_true b18
                                        cases b19 : (decide ((0 : Int) ≤ n % (100000000 : Int) / (10000 : Int) / (100 : Int) ∧ n % (100000000 : Int) / (10000 : Int) / (100 : Int) ≤ (4294967295 : Int)))
                                        ·
                                          have c19 := of_decide_eq_false b19
                                          (exfalso; omega)
                                        ·
                                          have c19 := of_decide_eq_true b19
                                          cases b20 : (decide ((0 : Int) ≤ n % (100000000 : Int) / (10000 : Int) / (100 : Int) * (2 : Int) ∧ n % (100000000 : Int) / (10000 : Int) / (100 : Int) * (2 : Int) ≤ (4294967295 : Int)))
                                          ·
                                            have c20 := of_decide_eq_false b20
                                            (exfalso; omega)
                                          ·
                                            have c20 := of_decide_eq_true b20
                                            cases b21 : (decide ((0 : Int) ≤ n % (100000000 : Int) / (10000 : Int) % (100 : Int) * (2 : Int) ∧ n % (100000000 : Int) / (10000 : Int) % (100 : Int) * (2 : Int) ≤ (4294967295 : Int)))
                                            ·
                                              have c21 := of_decide_eq_false b21
                                              (exfalso; omega)
                                            ·
                                              have c21 := of_decide_eq_true b21
                                              cases b22 : (decide ((0 : Int) ≤ n % (100000000 : Int) % (10000 : Int) % (100 : Int) * (2 : Int) + (1 : Int) ∧ n % (100000000 : Int) % (10000 : Int) % (100 : Int) * (2 : Int) + (1 : Int) ≤ (4294967295 : Int)))
                                              ·
                                                have c22 := of_decide_eq_false b22
                                                (exfalso; omega)
                                              ·
                                                have c22 := of_decide_eq_true b22
                                                cases b23 : (decide ((0 : Int) ≤ n % (100000000 : Int) % (10000 : Int) % (100 : Int) * (2 : Int) + (1 : Int) ∧ n % (100000000 : Int) % (10000 : Int) % (100 : Int) * (2 : Int) + (1 : Int) < (200 : Int)))
                                                ·
                                                  have c23 := of_decide_eq_false b23
                                                  (exfalso; omega)
                                                ·
                                                  have c23 := of_decide_eq_true b23
                                                  cases b24 : (decide ((0 : Int) ≤ n % (100000000 : Int) % (10000 : Int) % (100 : Int) * (2 : Int) ∧ n % (100000000 : Int) % (10000 : Int) % (100 : Int) * (2 : Int) < (200 : Int)))
                                                  ·
                                                    have c24 := of_decide_eq_false b24
                                                    (exfalso; omega)
                                                  ·
                                                    have c24 := of_decide_eq_true b24
                                                    cases b25 : (decide ((0 : Int) ≤ n % (100000000 : Int) % (10000 : Int) / (100 : Int) * (2 : Int) + (1 : Int) ∧ n % (100000000 : Int) % (10000 : Int) / (100 : Int) * (2 : Int) + (1 : Int) ≤ (4294967295 : Int)))
                                                    ·
                                                      have c25 := of_decide_eq_false b25
                                                      (exfalso; omega)
                                                    ·
                                                      have c25 := of_decide_eq_true b25
                                                      cases b26 : (decide ((0 : Int) ≤ n % (100000000 : Int) % (10000 : Int) / (100 : Int) * (2 : Int) + (1 : Int) ∧ n % (100000000 : Int) % (10000 : Int) / (100 : Int) * (2 : Int) + (1 : Int) < (200 : Int)))
                                                      ·
                                                        have c26 := of_decide_eq_false b26
                                                        (exfalso; omega)
                                                      ·
                                                        have c26 := of_decide_eq_true b26
                                                        cases b27 : (decide ((0 : Int) ≤ n % (100000000 : Int) % (10000 : Int) / (100 : Int) * (2 : Int) ∧ n % (100000000 : Int) % (10000 : Int) / (100 : Int) * (2 : Int) < (200 : Int)))
                                                        ·
                                                          have c27 := of_decide_eq_false b27
                                                          (exfalso; omega)
                                                        ·
                                                          have c27 := of_decide_eq_true b27
                                                          cases b28 : (decide ((0 : Int) ≤ n % (100000000 : Int) / (10000 : Int) % (100 : Int) * (2 : Int) + (1 : Int) ∧ n % (100000000 : Int) / (10000 : Int) % (100 : Int) * (2 : Int) + (1 : Int) ≤ (4294967295 : Int)))
                                                          ·
                                                            have c28 := of_decide_eq_false b28
                                                            (exfalso; omega)
                                                          ·
                                                            have c28 := of_decide_eq_true b28
                                                            cases b29 : (decide ((0 : Int) ≤ n % (100000000 : Int) / (10000 : Int) % (100 : Int) * (2 : Int) + (1 : Int) ∧ n % (100000000 : Int) / (10000 : Int) % (100 : Int) * (2 : Int) + (1 : Int) < (200 : Int)))
                                                            ·
                                                              have c29 := of_decide_eq_false b29
                                                              (exfalso; omega)
                                                            ·
                                                              have c29 := of_decide_eq_true b29
                                                              cases b30 : (decide ((0 : Int) ≤ n % (100000000 : Int) / (10000 : Int) % (100 : Int) * (2 : Int) ∧ n % (100000000 : Int) / (10000 : Int) % (100 : Int) * (2 : Int) < (200 : Int)))
                                                              ·
                                                                have c30 := of_decide_eq_false b30
                                                                (exfalso; omega)
                                                              ·
                                                                have c30 := of_decide_eq_true b30
                                                                cases b31 : (decide ((0 : Int) ≤ n % (100000000 : Int) / (10000 : Int) / (100 : Int) * (2 : Int) + (1 : Int) ∧ n % (100000000 : Int) / (10000 : Int) / (100 : Int) * (2 : Int) + (1 : Int) ≤ (4294967295 : Int)))
                                                                ·
                                                                  have c31 := of_decide_eq_false b31
                                                                  (exfalso; omega)
                                                                ·
                                                                  have c31 := of_decide_eq_true b31
                                                                  cases b32 : (decide ((0 : Int) ≤ n % (100000000 : Int) / (10000 : Int) / (100 : Int) * (2 : Int) + (1 : Int) ∧ n % (100000000 : Int) / (10000 : Int) / (100 : Int) * (2 : Int) + (1 : Int) < (200 : Int)))
                                                                  ·
                                                                    have c32 := of_decide_eq_false b32
                                                                    (exfalso; omega)
                                                                  ·
                                                                    have c32 := of_decide_eq_true b32
                                                                    cases b33 : (decide ((0 : Int) ≤ n % (100000000 : Int) / (10000 : Int) / (100 : Int) * (2 : Int) ∧ n % (100000000 : Int) / (10000 : Int) / (100 : Int) * (2 : Int) < (200 : Int)))
                                                                    ·
                                                                      have c33 := of_decide_eq_false b33
                                                                      (exfalso; omega)
                                                                    ·
                                                                      have c33 := of_decide_eq_true b33
                                                                      cases b34 : (decide ((0 : Int) ≤ n / (100000000 : Int) ∧ n / (100000000 : Int) ≤ (4294967295 : Int)))
                                                                      ·
                                                                        have c34 := of_decide_eq_false b34
                                                                        (exfalso; omega)
                                                                      ·
                                                                        have c34 := of_decide_eq_true b34
                                                                        cases b35 : (decide ((0 : Int) ≤ (48 : Int) + n / (100000000 : Int) ∧ (48 : Int) + n / (100000000 : Int) ≤ (4294967295 : Int)))
                                                                        ·
                                                                          have c35 := of_decide_eq_false b35
                                                                          (exfalso; omega)
                                                                        ·
                                                                          have c35 := of_decide_eq_true b35
                                                                          cases b36 : (decide ((0 : Int) ≤ (48 : Int) + n / (100000000 : Int) ∧ (48 : Int) + n / (100000000 : Int) ≤ (255 : Int)))
                                                                          ·
                                                                            have c36 := of_decide_eq_false b36
                                                                            (exfalso; omega)
                                                                          ·
                                                                            have c36 := of_decide_eq_true b36
                                                                            obtain ⟨st', h⟩ := F40_p8 n ⟨b8, b36, b35, b34, b33, b32, b31, b30, b29, b28, b27, b26, b25, b24, b23, b22, b21, b18, b20, b19, b18, b17, b14, b16, b15, b14, b12, b13, b12, b11, b9, b10, b9, b8, (by first | exact ⟨_, rfl, by omega, by omega⟩ | omega), b1, b0, trivial⟩
                                                                            exact ⟨st', h.trans (congrArg (fun v => some (v, st')) (by refine congrArg Value.string ?_; obtain ⟨k, rfl⟩ : ∃ k : Nat, n = k := ⟨n.toNat, by omega⟩; refine bytes_eq ?_; rw [Int.toNat_natCast]; simp (disch := omega) only [decL_ge, decL_lt, List.cons_append, List.nil_append, smalls_lo, smalls_hi]; repeat (first | rfl | refine list_cons (dig_eq _ _ (by omega)) ?_)))⟩
                  ·
                    by_cases b9 : ndF n = (10 : Int)
                    ·
                      cases b10 : (decide ((0 : Int) ≤ n ∧ (0 : Int) < (100000000 : Int)))
                      ·
                        have c10 := of_decide_eq_false b10
                        (exfalso; omega)
                      ·
                        have c10 := of_decide_eq_true b10
                        cases b11 : (decide ((0 : Int) ≤ n % (100000000 : Int) ∧ n % (100000000 : Int) ≤ (4294967295 : Int)))
                        ·
                          have c11 := of_decide_eq_false b11
                          (exfalso; omega)
                        ·
                          have c11 := of_decide_eq_true b11
                          cases b12 : (decide ((0 : Int) ≤ n / (100000000 : Int) ∧ n / (100000000 : Int) ≤ (18446744073709551615 : Int)))
                          ·
                            have c12 := of_decide_eq_false b12
                            (exfalso; omega)
                          ·
                            have c12 := of_decide_eq_true b12
                            cases b13 : (decide ((0 : Int) ≤ n % (100000000 : Int) ∧ (0 : Int) < (10000 : Int)))
                            ·
                              have c13 := of_decide_eq_false b13
                              (exfalso; omega)
                            ·
                              have c13 := of_decide_eq_true b13
                              cases b14 : (decide ((0 : Int) ≤ n % (100000000 : Int) / (10000 : Int) ∧ n % (100000000 : Int) / (10000 : Int) ≤ (4294967295 : Int)))
                              ·
                                have c14 := of_decide_eq_false b14
                                (exfalso; omega)
                              ·
                                have c14 := of_decide_eq_true b14
                                cases b15 : (decide ((0 : Int) ≤ n % (100000000 : Int) % (10000 : Int) ∧ (0 : Int) < (100 : Int)))
                                ·
                                  have c15 := of_decide_eq_false b15
                                  (exfalso; omega)
                                ·
                                  have c15 := of_decide_eq_true b15
                                  cases b16 : (decide ((0 : Int) ≤ n % (100000000 : Int) % (10000 : Int) / (100 : Int) ∧ n % (100000000 : Int) % (10000 : Int) / (100 : Int) ≤ (4294967295 : Int)))
                                  ·
                                    have c16 := of_decide_eq_false b16
                                    (exfalso; omega)
                                  ·
                                    have c16 := of_decide_eq_true b16
                                    cases b17 : (decide ((0 : Int) ≤ n % (100000000 : Int) % (10000 : Int) / (100 : Int) * (2 : Int) ∧ n % (100000000 : Int) % (10000 : Int) / (100 : Int) * (2 : Int) ≤ (4294967295 : Int)))
                                    ·
                                      have c17 := of_decide_eq_false b17
                                      (exfalso; omega)
                                    ·
                                      have c17 := of_decide_eq_true b17
                                      cases b18 : (decide ((0 : Int) ≤ n % (100000000 : Int) % (10000 : Int) % (100 : Int) * (2 : Int) ∧ n % (100000000 : Int) % (10000 : Int) % (100 : Int) * (2 : Int) ≤ (4294967295 : Int)))
                                      ·
                                        have c18 := of_decide_eq_false b18
                                        (exfalso; omega)
                                      ·
                                        have c18 := of_decide_eq_true b18
                                        cases b19 : (decide ((0 : Int) ≤ n % (100000000 : Int) / (10000 : Int) ∧ (0 : Int) < (100 : Int)))
                                        ·
                                          have c19 := of_decide_eq_false b19
                                          (exfalso; omega)
                                        ·
                                          have c19 := of_decide_eq_true b19
                                          cases b20 : (decide ((0 : Int) ≤ n % (100000000 : Int) / (10000 : Int) / (100 : Int) ∧ n % (100000000 : Int) / (10000 : Int) / (100 : Int) ≤ (4294967295 : Int)))
                                          ·
                                            have c20 := of_decide_eq_false b20
                                            (exfalso; omega)
                                          ·
                                            have c20 := of_decide_eq_true b20
                                            cases b21 : (decide ((0 : Int) ≤ n % (100000000 : Int) / (10000 : Int) / (100 : Int) * (2 : Int) ∧ n % (100000000 : Int) / (10000 : Int) / (100 : Int) * (2 : Int) ≤ (4294967295 : Int)))
                                            ·
                                              have c21 := of_decide_eq_false b21
                                              (exfalso; omega)
                                            ·
                                              have c21 := of_decide_eq_true b21
                                              cases b22 : (decide ((0 : Int) ≤ n % (100000000 : Int) / (10000 : Int) % (100 : Int) * (2 : Int) ∧ n % (100000000 : Int) / (10000 : Int) % (100 : Int) * (2 : Int) ≤ (4294967295 : Int)))
                                              ·
                                                have c22 := of_decide_eq_false b22
                                                (exfalso; omega)
                                              ·
                                                have c22 := of_decide_eq_true b22
                                                cases b23 : (decide ((0 : Int) ≤ n % (100000000 : Int) % (10000 : Int) % (100 : Int) * (2 : Int) + (1 : Int) ∧ n % (100000000 : Int) % (10000 : Int) % (100 : Int) * (2 : Int) + (1 : Int) ≤ (4294967295 : Int)))
                                                ·
                                                  have c23 := of_decide_eq_false b23
                                                  (exfalso; omega)
                                                ·
                                                  have c23 := of_decide_eq_true b23
                                                  cases b24 : (decide ((0 : Int) ≤ n % (100000000 : Int) % (10000 : Int) % (100 : Int) * (2 : Int) + (1 : Int) ∧ n % (100000000 : Int) % (10000 : Int) % (100 : Int) * (2 : Int) + (1 : Int) < (200 : Int)))
                                                  ·
                                                    have c24 := of_decide_eq_false b24
                                                    (exfalso; omega)
                                                  ·
                                                    have c24 := of_decide_eq_true b24
                                                    cases b25 : (decide ((0 : Int) ≤ n % (100000000 : Int) % (10000 : Int) % (100 : Int) * (2 : Int) ∧ n % (100000000 : Int) % (10000 : Int) % (100 : Int) * (2 : Int) < (200 : Int)))
                                                    ·
                                                      have c25 := of_decide_eq_false b25
                                                      (exfalso; omega)
                                                    ·
                                                      have c25 := of_decide_eq_true b25
                                                      cases b26 : (decide ((0 : Int) ≤ n % (100000000 : Int) % (10000 : Int) / (100 : Int) * (2 : Int) + (1 : Int) ∧ n % (100000000 : Int) % (10000 : Int) / (100 : Int) * (2 : Int) + (1 : Int) ≤ (4294967295 : Int)))
                                                      ·
                                                        have c26 := of_decide_eq_false b26
                                                        (exfalso; omega)
                                                      ·
                                                        have c26 := of_decide_eq_true b26
                                                        cases b27 : (decide ((0 : Int) ≤ n % (100000000 : Int) % (10000 : Int) / (100 : Int) * (2 : Int) + (1 : Int) ∧ n % (100000000 : Int) % (10000 : Int) / (100 : Int) * (2 : Int) + (1 : Int) < (200 : Int)))
                                                        ·
                                                          have c27 := of_decide_eq_false b27
                                                          (exfalso; omega)
                                                        ·
                                                          have c27 := of_decide_eq_true b27
                                                          cases b28 : (decide ((0 : Int) ≤ n % (100000000 : Int) % (10000 : Int) / (100 : Int) * (2 : Int) ∧ n % (100000000 : Int) % (10000 : Int) / (100 : Int) * (2 : Int) < (200 : Int)))
                                                          ·
                                                            have c28 := of_decide_eq_false b28
                                                            (exfalso; omega)
                                                          ·
                                                            have c28 := of_decide_eq_true b28
                                                            cases b29 : (decide ((0 : Int) ≤ n % (100000000 : Int) / (10000 : Int) % (100 : Int) * (2 : Int) + (1 : Int) ∧ n % (100000000 : Int) / (10000 : Int) % (100 : Int) * (2 : Int) + (1 : Int) ≤ (4294967295 : Int)))
                                                            ·
                                                              have c29 := of_decide_eq_false b29
                                                              (exfalso; omega)
                                                            ·
                                                              have c29 := of_decide_eq_true b29
                                                              cases b30 : (decide ((0 : Int) ≤ n % (100000000 : Int) / (10000 : Int) % (100 : Int) * (2 : Int) + (1 : Int) ∧ n % (100000000 : Int) / (10000 : Int) % (100 : Int) * (2 : Int) + (1 : Int) < (200 : Int)))
                                                              ·
                                                                have c30 := of_decide_eq_false b30
                                                                (exfalso; omega)
                                                              ·
                                                                have c30 := of_decide_eq_true b30
                                                                cases b31 : (decide ((0 : Int) ≤ n % (100000000 : Int) / (10000 : Int) % (100 : Int) * (2 : Int) ∧ n % (100000000 : Int) / (10000 : Int) % (100 : Int) * (2 : Int) < (200 : Int)))
                                                                ·
                                                                  have c31 := of_decide_eq_false b31
                                                                  (exfalso; omega)
                                                                ·
                                                                  have c31 := of_decide_eq_true b31
                                                                  cases b32 : (decide ((0 : Int) ≤ n % (100000000 : Int) / (10000 : Int) / (100 : Int) * (2 : Int) + (1 : Int) ∧ n % (100000000 : Int) / (10000 : Int) / (100 : Int) * (2 : Int) + (1 : Int) ≤ (4294967295 : Int)))
                                                                  ·
                                                                    have c32 := of_decide_eq_false b32
                                                                    (exfalso; omega)
                                                                  ·
                                                                    have c32 := of_decide_eq_true b32
                                                                    cases b33 : (decide ((0 : Int) ≤ n % (100000000 : Int) / (10000 : Int) / (100 : Int) * (2 : Int) + (1 : Int) ∧ n % (100000000 : Int) / (10000 : Int) / (100 : Int) * (2 : Int) + (1 : Int) < (200 : Int)))
                                                                    ·
                                                                      have c33 := of_decide_eq_false b33
                                                                      (exfalso; omega)
                                                                    ·
                                                                      have c33 := of_decide_eq_true b33
                                                                      cases b34 : (decide ((0 : Int) ≤ n % (100000000 : Int) / (10000 : Int) / (100 : Int) * (2 : Int) ∧ n % (100000000 : Int) / (10000 : Int) / (100 : Int) * (2 : Int) < (200 : Int)))
                                                                      ·
                                                                        have c34 := of_decide_eq_false b34
                                                                        (exfalso; omega)
                                                                      ·
                                                                        have c34 := of_decide_eq_true b34
                                                                        cases b35 : (decide ((0 : Int) ≤ n / (100000000 : Int) ∧ n / (100000000 : Int) ≤ (4294967295 : Int)))
                                                                        ·
                                                                          have c35 := of_decide_eq_false b35
                                                                          (exfalso; omega)
                                                                        ·
                                                                          have c35 := of_decide_eq_true b35
                                                                          cases b36 : (decide ((0 : Int) ≤ n / (100000000 : Int) ∧ (0 : Int) < (100 : Int)))
                                                                          ·
                                                                            have c36 := of_decide_eq_false b36
                                                                            (exfalso; omega)
                                                                          ·
                                                                            have c36 := of_decide_eq_true b36
                                                                            cases b37 : (decide ((0 : Int) ≤ n / (100000000 : Int) % (100 : Int) * (2 : Int) ∧ n / (100000000 : Int) % (100 : Int) * (2 : Int) ≤ (4294967295 : Int)))
                                                                            ·
                                                                              have c37 := of_decide_eq_false b37
                                                                              (exfalso; omega)
                                                                            ·
                                                                              have c37 := of_decide_eq_true b37
                                                                              cases b38 : (decide ((0 : Int) ≤ n / (100000000 : Int) / (100 : Int) ∧ n / (100000000 : Int) / (100 : Int) ≤ (4294967295 : Int)))
                                                                              ·
                                                                                have c38 := of_decide_eq_false b38
                                                                                (exfalso; omega)
                                                                              ·
                                                                                have c38 := of_decide_eq_true b38
                                                                                cases b39 : (decide ((0 : Int) ≤ n / (100000000 : Int) % (100 : Int) * (2 : Int) + (1 : Int) ∧ n / (100000000 : Int) % (100 : Int) * (2 : Int) + (1 : Int) ≤ (4294967295 : Int)))
                                                                                ·
                                                                                  have c39 := of_decide_eq_false b39
                                                                                  (exfalso; omega)
                                                                                ·
                                                                                  have c39 := of_decide_eq_true b39
                                                                                  cases b40 : (decide ((0 : Int) ≤ n / (100000000 : Int) % (100 : Int) * (2 : Int) + (1 : Int) ∧ n / (100000000 : Int) % (100 : Int) * (2 : Int) + (1 : Int) < (200 : Int)))
                                                                                  ·
                                                                                    have c40 := of_decide_eq_false b40
                                                                                    (exfalso; omega)
                                                                                  ·
                                                                                    have c40 := of_decide_eq_true b40
                                                                                    cases b41 : (decide ((0 : Int) ≤ n / (100000000 : Int) % (100 : Int) * (2 : Int) ∧ n / (100000000 : Int) % (100 : Int) * (2 : Int) < (200 : Int)))
                                                                                    ·
                                                                                      have c41 := of_decide_eq_false b41
                                                                                      (exfalso; omega)
                                                                                    ·
                                                                                      have c41 := of_decide_eq_true b41
                                                                                      obtain ⟨st', h⟩ := F40_p9 n ⟨b9, b41, b40, b39, b38, b36, b37, b36, b35, b34, b33, b32, b31, b30, b29, b28, b27, b26, b25, b24, b23, b22, b19, b21, b20, b19, b18, b15, b17, b16, b15, b13, b14, b13, b12, b10, b11, b10, b9, (by first | exact ⟨_, rfl, by omega, by omega⟩ | omega), b1, b0, trivial⟩
                                                                                      exact ⟨st', h.trans (congrArg (fun v => some (v, st')) (by refine congrArg Value.string ?_; obtain ⟨k, rfl⟩ : ∃ k : Nat, n = k := ⟨n.toNat, by omega⟩; refine bytes_eq ?_; rw [Int.toNat_natCast]; simp (disch := omega) only [decL_ge, decL_lt, List.cons_append, List.nil_append, smalls_lo, smalls_hi]; repeat (first | rfl | refine list_cons (dig_eq _ _ (by omega)) ?_)))⟩
                    ·
                      (exfalso; omega)
    ·
      have c1 := of_decide_eq_true b1
      cases b2 : (decide ((-9223372036854775808 : Int) ≤ n ∧ n ≤ (9223372036854775807 : Int)))
      ·
        have c2 := of_decide_eq_false b2
        (exfalso; omega)
      ·
        have c2 := of_decide_eq_true b2
        cases b3 : (decide (n < (10 : Int)))
        ·
          have c3 := of_decide_eq_false b3
          cases b4 : (decide ((-9223372036854775808 : Int) ≤ n * (2 : Int) ∧ n * (2 : Int) ≤ (9223372036854775807 : Int)))
          ·
            have c4 := of_decide_eq_false b4
            (exfalso; omega)
          ·
            have c4 := of_decide_eq_true b4
            cases b5 : (decide ((-9223372036854775808 : Int) ≤ n * (2 : Int) + (2 : Int) ∧ n * (2 : Int) + (2 : Int) ≤ (9223372036854775807 : Int)))
            ·
              have c5 := of_decide_eq_false b5
              (exfalso; omega)
            ·
              have c5 := of_decide_eq_true b5
              cases b6 : (decide ((0 : Int) ≤ n * (2 : Int) + (2 : Int) ∧ n * (2 : Int) + (2 : Int) ≤ (200 : Int)))
              ·
                have c6 := of_decide_eq_false b6
                (exfalso; omega)
              ·
                have c6 := of_decide_eq_true b6
                cases b7 : (decide ((0 : Int) ≤ n * (2 : Int) ∧ n * (2 : Int) ≤ ↑(n * (2 : Int) + (2 : Int)).toNat))
                ·
                  have c7 := of_decide_eq_false b7
                  (exfalso; omega)
                ·
                  have c7 := of_decide_eq_true b7
                  obtain ⟨st', h⟩ := F40_p1 n ⟨b7, b6, b5, b4, b4, b3, b2, b1, b0, trivial⟩
                  exact ⟨st', h.trans (congrArg (fun v => some (v, st')) (by exact congrArg Value.string (small2 n (by omega) (by omega))))⟩
        ·
          have c3 := of_decide_eq_true b3
          cases b4 : (decide ((-9223372036854775808 : Int) ≤ n + (1 : Int) ∧ n + (1 : Int) ≤ (9223372036854775807 : Int)))
          ·
            have c4 := of_decide_eq_false b4
            (exfalso; omega)
          ·
            have c4 := of_decide_eq_true b4
            cases b5 : (decide ((0 : Int) ≤ n + (1 : Int) ∧ n + (1 : Int) ≤ (36 : Int)))
            ·
              have c5 := of_decide_eq_false b5
              (exfalso; omega)
            ·
              have c5 := of_decide_eq_true b5
              cases b6 : (decide ((0 : Int) ≤ n ∧ n ≤ ↑(n + (1 : Int)).toNat))
              ·
                have c6 := of_decide_eq_false b6
                (exfalso; omega)
              ·
                have c6 := of_decide_eq_true b6
                obtain ⟨st', h⟩ := F40_p0 n ⟨b6, b5, b4, b3, b2, b1, b0, trivial⟩
                exact ⟨st', h.trans (congrArg (fun v => some (v, st')) (by exact congrArg Value.string (small1 n (by omega) (by omega))))⟩
end Go.Proofs.YtgmojlibppmfhaaDoor

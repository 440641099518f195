/- Runs of the abstract interpreter, part 11: by an AI agent. -/
import Derived.Test.YtgmojlibppmfhaaDoorPart10

namespace Go.Proofs.YtgmojlibppmfhaaDoor
open Go Go.Ai
/-! ### the left side's digits; a row of digits read -/
noncomputable def L89 : ML where
  c := c89
  nt := 16
  keys := [0, 1]
  outs := [0]
  ids := []
  s0 := 12
  n0 := 12
  n1 := 12
  X := ByteArray
  hv := fun s => [.string s, .pointer (some ⟨11, 0, none⟩)]
  ho := fun _ => [(11, asObj)]
  pre := fun s => s.size ≤ 9223372036854775807
  ex := fun _ => .exit 0
  rv := fun s => [.string (tL s.size s)]
  ro := fun _ => [(11, asObj)]
  get := fun vs _ => match vs with
    | [.string s, .pointer (some a)] => some (true, fun _ => (s, [(11, .id a.block)]))
    | _ => none
def rowB (s : ByteArray) : AObj := .row 5 (s.data.toList.map fun b => Value.int .u8 b.toNat) true true
def dB (s : ByteArray) (i : Nat) : Int := intAt (s.data.toList.map fun b => Value.int .u8 b.toNat) (0 + (i : Int).toNat * 1)
/-- the digits' number, from a place on -/
def valN (s : ByteArray) : Nat → Nat → Int → Int
  | 0, _, n => n
  | k + 1, i, n => valN s k (i + 1) (n * 10 + (byteAt s i - 48))
def allD (s : ByteArray) : Prop := ∀ i, i < s.size → isD (byteAt s i) = true
noncomputable def L99 : ML where
  c := c99
  nt := 172
  keys := [1, 8, 10, 11, 12, 13, 99, 100, 101]
  outs := [12, 13]
  ids := []
  s0 := 12
  n0 := 12
  n1 := 12
  X := ByteArray × Nat × Int
  hv := fun x => [.int .i64 10, .bool false, .int .u64 1844674407370955162, .int .u64 18446744073709551615, .bool false, .int .u64 x.2.2, .slice (some ⟨11, 0, none⟩) x.1.size openCap, .int .i64 x.1.size, .int .i64 x.2.1]
  ho := fun x => [(11, rowB x.1)]
  pre := fun x => allD x.1 ∧ x.1.size ≤ 10 ∧ x.2.1 ≤ x.1.size ∧ 0 ≤ x.2.2 ∧ x.2.2 < ((10 ^ x.2.1 : Nat) : Int)
  ex := fun _ => .exit 3
  rv := fun x => [.bool false, .int .u64 (valN x.1 (x.1.size - x.2.1) x.2.1 x.2.2)]
  ro := fun x => [(11, rowB x.1)]
  get := fun vs hp => match vs with
    | [_, _, _, _, _, .int _ n, .slice (some a) _ _, _, .int _ i] => match hp.get a.block with
      | some (.row _ cs _ _) => some (true, fun _ => ((⟨⟨cs.map toU8⟩⟩, i.toNat, n), [(11, .id a.block)]))
      | _ => none
    | _ => none
def R89_a0 (s : ByteArray) : List Prop := [(decide ((0 : Int) ≤ (1 : Int) ∧ (1 : Int) ≤ (s.size : Int))) = true, (!boolAt digCells (0 + (byteAt s 0).toNat * 1)) = false, digCells[0 + (byteAt s 0).toNat * 1]? = some (.bool (boolAt digCells (0 + (byteAt s 0).toNat * 1))), (decide ((0 : Int) ≤ byteAt s (0 : Nat) ∧ byteAt s (0 : Nat) < ((256 : Nat) : Int))) = true, (decide ((0 : Int) ≤ (0 : Int) ∧ (0 : Int) < (s.size : Int))) = true, (decide ((s.size : Int) > (0 : Int))) = true]
theorem R89_0 (s : ByteArray) (h : Holds (R89_a0 s)) :
    ∃ tmO st', (∀ tm2, Sub (putT L89.keys (L89.hv s) .nil) tm2 → ∃ tm2', run (Cx.of Tryd.prog) ov0 1000 L89.c L89.nt tm2 ⟨over0 (keepIds st0.hp L89.ids) (L89.ho s), L89.n0⟩ = some (.normal, tm2', st') ∧ Sub tmO tm2') ∧ readT tmO (ksOf L89.keys L89.outs .normal) = some [Value.string (s.extract (1 : Nat) s.size), Value.pointer (some { block := (11 : Nat), off := (0 : Nat) })] ∧ [11].map st'.hp.get = [some asObj] :=
  path_round ref0 (toks := [.yes, .yes, .no, .yes, .yes, .no, .ev, .yes]) (by kernel_rfl) h
def R89_a1 (s : ByteArray) : List Prop := [(decide ((s.size : Int) > (0 : Int))) = false]
theorem R89_1 (s : ByteArray) (h : Holds (R89_a1 s)) :
    ∃ tmO st', (∀ tm2, Sub (putT L89.keys (L89.hv s) .nil) tm2 → ∃ tm2', run (Cx.of Tryd.prog) ov0 1000 L89.c L89.nt tm2 ⟨over0 (keepIds st0.hp L89.ids) (L89.ho s), L89.n0⟩ = some ((.exit (0 : Nat)), tm2', st') ∧ Sub tmO tm2') ∧ readT tmO (ksOf L89.keys L89.outs (.exit (0 : Nat))) = some [Value.string s] ∧ [11].map st'.hp.get = [some asObj] :=
  path_round ref0 (toks := [.no]) (by kernel_rfl) h
def R89_a2 (s : ByteArray) : List Prop := [(!boolAt digCells (0 + (byteAt s 0).toNat * 1)) = true, digCells[0 + (byteAt s 0).toNat * 1]? = some (.bool (boolAt digCells (0 + (byteAt s 0).toNat * 1))), (decide ((0 : Int) ≤ byteAt s (0 : Nat) ∧ byteAt s (0 : Nat) < ((256 : Nat) : Int))) = true, (decide ((0 : Int) ≤ (0 : Int) ∧ (0 : Int) < (s.size : Int))) = true, (decide ((s.size : Int) > (0 : Int))) = true]
theorem R89_2 (s : ByteArray) (h : Holds (R89_a2 s)) :
    ∃ tmO st', (∀ tm2, Sub (putT L89.keys (L89.hv s) .nil) tm2 → ∃ tm2', run (Cx.of Tryd.prog) ov0 1000 L89.c L89.nt tm2 ⟨over0 (keepIds st0.hp L89.ids) (L89.ho s), L89.n0⟩ = some ((.exit (0 : Nat)), tm2', st') ∧ Sub tmO tm2') ∧ readT tmO (ksOf L89.keys L89.outs (.exit (0 : Nat))) = some [Value.string s] ∧ [11].map st'.hp.get = [some asObj] :=
  path_round ref0 (toks := [.yes, .yes, .no, .yes, .yes, .yes]) (by kernel_rfl) h
def R99_a0 (s : ByteArray) (i : Nat) (n : Int) : List Prop := [(decide ((-9223372036854775808 : Int) ≤ (i : Int) + (1 : Int) ∧ (i : Int) + (1 : Int) ≤ (9223372036854775807 : Int))) = true, (decide (n * (10 : Int) + (dB s i - (48 : Int)) > (18446744073709551615 : Int))) = false, (decide (n * (10 : Int) + (dB s i - (48 : Int)) < n * (10 : Int))) = false, (decide (n * (10 : Int) + (dB s i - (48 : Int)) < n * (10 : Int))) = false, (decide (n * (10 : Int) + (dB s i - (48 : Int)) < n * (10 : Int))) = false, (decide (n * (10 : Int) + (dB s i - (48 : Int)) < n * (10 : Int))) = false, (decide ((0 : Int) ≤ n * (10 : Int) + (dB s i - (48 : Int)) ∧ n * (10 : Int) + (dB s i - (48 : Int)) ≤ (18446744073709551615 : Int))) = true, (decide ((0 : Int) ≤ dB s i - (48 : Int) ∧ dB s i - (48 : Int) ≤ (18446744073709551615 : Int))) = true, (decide ((0 : Int) ≤ n * (10 : Int) ∧ n * (10 : Int) ≤ (18446744073709551615 : Int))) = true, (decide (n ≥ (1844674407370955162 : Int))) = false, (decide (dB s i - (48 : Int) ≥ (10 : Int))) = false, (decide ((0 : Int) ≤ dB s i - (48 : Int) ∧ dB s i - (48 : Int) ≤ (255 : Int))) = true, (decide (dB s i ≤ (57 : Int))) = true, (decide ((48 : Int) ≤ dB s i)) = true, (decide ((48 : Int) ≤ dB s i)) = true, (decide ((48 : Int) ≤ dB s i)) = true, (dB s i == (95 : Int)) = false, (dB s i == (95 : Int)) = false, (s.data.toList.map fun b => Value.int .u8 b.toNat)[0 + (i : Int).toNat * 1]? = some (Value.int .u8 (dB s i)), (decide ((0 : Int) ≤ (i : Int) ∧ (i : Int) < (s.size : Int))) = true, (decide ((i : Int) < (s.size : Int))) = true]
theorem R99_0 (s : ByteArray) (i : Nat) (n : Int) (h : Holds (R99_a0 s i n)) :
    ∃ tmO st', (∀ tm2, Sub (putT L99.keys (L99.hv (s, i, n)) .nil) tm2 → ∃ tm2', run (Cx.of Tryd.prog) ov0 1000 L99.c L99.nt tm2 ⟨over0 (keepIds st0.hp L99.ids) (L99.ho (s, i, n)), L99.n0⟩ = some (.normal, tm2', st') ∧ Sub tmO tm2') ∧ readT tmO (ksOf L99.keys L99.outs .normal) = some [Value.int IntKind.i64 (10 : Int), Value.bool false, Value.int IntKind.u64 (1844674407370955162 : Int), Value.int IntKind.u64 (18446744073709551615 : Int), Value.bool false, Value.int IntKind.u64 (n * (10 : Int) + (dB s i - (48 : Int))), Value.slice (some { block := (11 : Nat), off := (0 : Nat) }) s.size (1267650600228229401496703205376 : Nat), Value.int IntKind.i64 (s.size : Int), Value.int IntKind.i64 ((i : Int) + (1 : Int))] ∧ [11].map st'.hp.get = [some (rowB s)] :=
  path_round ref0 (toks := [.yes, .yes, .yes, .no, .no, .ev, .yes, .yes, .yes, .yes, .yes, .ev, .no, .no, .ev, .yes, .yes, .yes, .no, .no, .no, .no, .no, .yes]) (by kernel_rfl) h
def R99_a1 (s : ByteArray) (i : Nat) (n : Int) : List Prop := [(decide ((i : Int) < (s.size : Int))) = false]
theorem R99_1 (s : ByteArray) (i : Nat) (n : Int) (h : Holds (R99_a1 s i n)) :
    ∃ tmO st', (∀ tm2, Sub (putT L99.keys (L99.hv (s, i, n)) .nil) tm2 → ∃ tm2', run (Cx.of Tryd.prog) ov0 1000 L99.c L99.nt tm2 ⟨over0 (keepIds st0.hp L99.ids) (L99.ho (s, i, n)), L99.n0⟩ = some ((.exit (3 : Nat)), tm2', st') ∧ Sub tmO tm2') ∧ readT tmO (ksOf L99.keys L99.outs (.exit (3 : Nat))) = some [Value.bool false, Value.int IntKind.u64 n] ∧ [11].map st'.hp.get = [some (rowB s)] :=
  path_round ref0 (toks := [.no]) (by kernel_rfl) h
end Go.Proofs.YtgmojlibppmfhaaDoor

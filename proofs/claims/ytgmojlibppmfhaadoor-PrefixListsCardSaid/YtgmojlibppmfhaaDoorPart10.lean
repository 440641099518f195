/- Runs of the abstract interpreter, part 10: by an AI agent. -/
import Derived.Test.YtgmojlibppmfhaaDoorPart9

namespace Go.Proofs.YtgmojlibppmfhaaDoor
open Go Go.Ai
/-! ### digits -/
def isD (b : Int) : Bool := decide (48 ≤ b ∧ b ≤ 57)
def digOk (k : Nat) : Bool := match digCells[k]? with
  | some (.bool c) => c == isD k
  | _ => false
theorem dig_all : (List.range 256).all digOk = true := by kernel_rfl
theorem dig_at {b : Int} (h0 : 0 ≤ b) (h1 : b < 256) : digCells[0 + b.toNat * 1]? = some (.bool (boolAt digCells (0 + b.toNat * 1))) ∧ boolAt digCells (0 + b.toNat * 1) = isD b := by
  have h := List.all_eq_true.1 dig_all (0 + b.toNat * 1) (List.mem_range.2 (by omega))
  unfold digOk at h
  split at h
  · rename_i c hc
    have e : boolAt digCells (0 + b.toNat * 1) = c := by simp only [boolAt, hc]
    rw [e]
    refine ⟨hc, ?_⟩
    rw [eq_of_beq h]
    congr 1
    omega
  · cases h
def tR : Nat → ByteArray → ByteArray
  | 0, s => s
  | n + 1, s => if 0 < s.size ∧ isD (byteAt s (s.size - 1)) = true then tR n (s.extract 0 (s.size - 1)) else s
def tL : Nat → ByteArray → ByteArray
  | 0, s => s
  | n + 1, s => if 0 < s.size ∧ isD (byteAt s 0) = true then tL n (s.extract 1 s.size) else s
noncomputable def L90 : ML where
  c := c90
  nt := 22
  keys := [0, 1]
  outs := [0]
  ids := []
  s0 := 12
  n0 := 12
  n1 := 12
  X := ByteArray
  hv := fun s => [.string s, .pointer (some ⟨11, 0, none⟩)]
  ho := fun _ => [(11, asObj)]
  pre := fun s => s.size ≤ 9223372036854775807
  ex := fun _ => .exit 0
  rv := fun s => [.string (tR s.size s)]
  ro := fun _ => [(11, asObj)]
  get := fun vs _ => match vs with
    | [.string s, .pointer (some a)] => some (true, fun _ => (s, [(11, .id a.block)]))
    | _ => none
def bA (s : ByteArray) : Int := byteAt s ((s.size : Int) - 1).toNat
theorem R90_next (s : ByteArray) (h : Holds [decide ((0 : Int) ≤ (s.size : Int) - 1 ∧ (s.size : Int) - 1 ≤ (s.size : Int)) = true, decide ((-9223372036854775808 : Int) ≤ (s.size : Int) - 1 ∧ (s.size : Int) - 1 ≤ 9223372036854775807) = true, (!boolAt digCells (0 + (bA s).toNat * 1)) = false, digCells[0 + (bA s).toNat * 1]? = some (.bool (boolAt digCells (0 + (bA s).toNat * 1))), decide ((0 : Int) ≤ bA s ∧ bA s < (256 : Nat)) = true, decide ((0 : Int) ≤ (s.size : Int) - 1 ∧ (s.size : Int) - 1 < (s.size : Int)) = true, decide ((-9223372036854775808 : Int) ≤ (s.size : Int) - 1 ∧ (s.size : Int) - 1 ≤ 9223372036854775807) = true, decide ((s.size : Int) > 0) = true]) :
    ∃ tmO st', (∀ tm2, Sub (putT L90.keys (L90.hv s) .nil) tm2 → ∃ tm2', run (Cx.of Tryd.prog) ov0 1000 L90.c L90.nt tm2 ⟨over0 (keepIds st0.hp L90.ids) (L90.ho s), L90.n0⟩ = some (.normal, tm2', st') ∧ Sub tmO tm2') ∧ readT tmO (ksOf L90.keys L90.outs .normal) = some [.string (s.extract 0 ((s.size : Int) - 1).toNat), .pointer (some ⟨11, 0, none⟩)] ∧ [11].map st'.hp.get = [some asObj] :=
  path_round ref0 (toks := [.yes, .yes, .yes, .no, .yes, .yes, .no, .yes, .no, .yes]) (by kernel_rfl) h
theorem R90_end (s : ByteArray) (h : Holds [decide ((s.size : Int) > 0) = false]) :
    ∃ tmO st', (∀ tm2, Sub (putT L90.keys (L90.hv s) .nil) tm2 → ∃ tm2', run (Cx.of Tryd.prog) ov0 1000 L90.c L90.nt tm2 ⟨over0 (keepIds st0.hp L90.ids) (L90.ho s), L90.n0⟩ = some (.exit 0, tm2', st') ∧ Sub tmO tm2') ∧ readT tmO (ksOf L90.keys L90.outs (.exit 0)) = some [.string s] ∧ [11].map st'.hp.get = [some asObj] :=
  path_round ref0 (toks := [.no]) (by kernel_rfl) h
theorem R90_out (s : ByteArray) (h : Holds [(!boolAt digCells (0 + (bA s).toNat * 1)) = true, digCells[0 + (bA s).toNat * 1]? = some (.bool (boolAt digCells (0 + (bA s).toNat * 1))), decide ((0 : Int) ≤ bA s ∧ bA s < (256 : Nat)) = true, decide ((0 : Int) ≤ (s.size : Int) - 1 ∧ (s.size : Int) - 1 < (s.size : Int)) = true, decide ((-9223372036854775808 : Int) ≤ (s.size : Int) - 1 ∧ (s.size : Int) - 1 ≤ 9223372036854775807) = true, decide ((s.size : Int) > 0) = true]) :
    ∃ tmO st', (∀ tm2, Sub (putT L90.keys (L90.hv s) .nil) tm2 → ∃ tm2', run (Cx.of Tryd.prog) ov0 1000 L90.c L90.nt tm2 ⟨over0 (keepIds st0.hp L90.ids) (L90.ho s), L90.n0⟩ = some (.exit 0, tm2', st') ∧ Sub tmO tm2') ∧ readT tmO (ksOf L90.keys L90.outs (.exit 0)) = some [.string s] ∧ [11].map st'.hp.get = [some asObj] :=
  path_round ref0 (toks := [.yes, .yes, .yes, .no, .yes, .yes, .yes]) (by kernel_rfl) h
theorem map_one {hp : T AObj} {i : Nat} {o : AObj} (h : [i].map hp.get = [some o]) : hp.get i = some o := by simpa using h
theorem tR_next {s : ByteArray} (h0 : 0 < s.size) (hd : isD (byteAt s (s.size - 1)) = true) : tR s.size s = tR (s.extract 0 (s.size - 1)).size (s.extract 0 (s.size - 1)) := by
  have e : (s.extract 0 (s.size - 1)).size = s.size - 1 := by rw [ByteArray.size_extract]; omega
  rw [e]
  conv => lhs; rw [show s.size = (s.size - 1) + 1 by omega]
  rw [tR, if_pos ⟨h0, hd⟩]
theorem tR_stop {s : ByteArray} (h : ¬ (0 < s.size ∧ isD (byteAt s (s.size - 1)) = true)) : tR s.size s = s := by
  cases hs : s.size with
  | zero => rfl
  | succ n => rw [tR, if_neg h]
theorem L90_good : L90.Good Tryd.prog ov0 st0 where
  keep := by kernel_rfl
  b0 := of_decide_eq_true (by kernel_rfl)
  b1 := Nat.le_refl _
  b2 := Nat.le_refl _
  outs := of_decide_eq_true (by kernel_rfl)
  head := fun s _ => ⟨by kernel_rfl, fun i h1 h2 => by
    have h1 : 11 ≤ i := h1
    have h2 : i < 12 := h2
    obtain rfl : i = 11 := by omega
    rfl⟩
  tail := fun s _ => ⟨by kernel_rfl, by kernel_rfl⟩
  ok := ⟨fun (s : ByteArray) => s.size, fun (s : ByteArray) (hs : s.size ≤ 9223372036854775807) => by
    have e1 : ((s.size : Int) - 1).toNat = s.size - 1 := by omega
    have r := byteAt_range s (s.size - 1)
    have eb : bA s = byteAt s (s.size - 1) := by unfold bA; rw [e1]
    by_cases h0 : 0 < s.size
    · obtain ⟨d1, d2⟩ := dig_at (b := bA s) (by rw [eb]; exact r.1) (by rw [eb]; omega)
      by_cases hd : isD (byteAt s (s.size - 1)) = true
      · obtain ⟨tmO, st', g1, g2, g3⟩ := R90_next s ⟨decide_eq_true (by omega), decide_eq_true (by omega), by rw [d2, eb, hd]; rfl, d1, decide_eq_true (by rw [eb]; omega), decide_eq_true (by omega), decide_eq_true (by omega), decide_eq_true (by omega), trivial⟩
        have g3 := map_one g3
        refine ⟨1000, .normal, tmO, st', g1, .inl ⟨rfl, s.extract 0 (s.size - 1), [(11, .id 11)], _, g2, ?_, ?_, ⟨rfl, ?_, rfl⟩, ⟨⟨⟨true, ?_, fun _ => rfl⟩, trivial⟩, ⟨.inl ⟨?_, rfl⟩, .inl ⟨by kernel_rfl, by kernel_rfl⟩, trivial⟩, by kernel_rfl⟩, ?_⟩⟩
        · show (s.extract 0 (s.size - 1)).size ≤ _
          rw [ByteArray.size_extract]; omega
        · show (s.extract 0 (s.size - 1)).size < s.size
          rw [ByteArray.size_extract]; omega
        · show [Value.string _] = [Value.string _]
          rw [← tR_next h0 hd]
        · rw [g3]; kernel_rfl
        · rw [e1]; rfl
        · intro i h1 h2
          have h1 : 11 ≤ i := h1
          have h2 : i < 12 := h2
          obtain rfl : i = 11 := by omega
          rfl
      · obtain ⟨tmO, st', g1, g2, g3⟩ := R90_out s ⟨by rw [d2, eb]; simp [hd], d1, decide_eq_true (by rw [eb]; omega), decide_eq_true (by omega), decide_eq_true (by omega), decide_eq_true (by omega), trivial⟩
        refine ⟨1000, .exit 0, tmO, st', g1, .inr ⟨(by intro h; cases h), rfl, [], ?_, ⟨?_, trivial⟩, by kernel_rfl⟩⟩
        · rw [show (L90.rv s) = [.string s] from by show [Value.string _] = _; rw [tR_stop (by simp [hd])]]; exact g2
        · rw [show tauB L90.s0 [] 11 = 11 from rfl, map_one g3]; kernel_rfl
    · obtain ⟨tmO, st', g1, g2, g3⟩ := R90_end s ⟨decide_eq_false (by omega), trivial⟩
      refine ⟨1000, .exit 0, tmO, st', g1, .inr ⟨(by intro h; cases h), rfl, [], ?_, ⟨?_, trivial⟩, by kernel_rfl⟩⟩
      · rw [show (L90.rv s) = [.string s] from by show [Value.string _] = _; rw [tR_stop (by simp [h0])]]; exact g2
      · rw [show tauB L90.s0 [] 11 = 11 from rfl, map_one g3]; kernel_rfl⟩
end Go.Proofs.YtgmojlibppmfhaaDoor

/- Runs of the abstract interpreter, part 44: by an AI agent. -/
import Derived.Test.YtgmojlibppmfhaaDoorPart43

namespace Go.Proofs.YtgmojlibppmfhaaDoor
open Go Go.Ai
/-! ### the law's ways -/
def mN (n : Nat) : Nat := (if (40 : Int) < (n : Int) then (40 : Int) else (n : Int)).toNat - 0
def xL (cs : List Value) (n : Nat) : AX := ⟨cs, mN n, (0, 0), []⟩
def yL (cs : List Value) (n : Nat) : S78 := ⟨cs, mN n, 0⟩
def rhL (c : Nat) : Rho := [(11, .sl 11 0 (c - 0))]
def rh6 : Rho := [(11, .sl 12 0 openCap)]
def slL (n c : Nat) : Value := .slice (some ⟨11, 0, none⟩) (mN n) (c - 0)
def osL (cs : List Value) : List (Option AObj) := [some (.row 31 cs false false)]
def r5 (cs : List Value) (n c : Nat) : List Value := renL (sgo 11 11 13 12 (rhL c)) (fin5 (xL cs n))
def x6 (cs : List Value) (n c : Nat) : AX := ⟨r5 cs n c, (fin5 (xL cs n)).length / 2, (0, 0), []⟩
def r25 (cs : List Value) (n c : Nat) : List Value := renL (sgo 11 11 13 13 (rhL c)) (fin25 (xL cs n))
def r26 (cs : List Value) (n c : Nat) : List Value := renL (sgo 11 11 13 14 rh6) (fin25 (x6 cs n c))
def n25 (cs : List Value) (n : Nat) : Nat := (fin25 (xL cs n)).length / 1
def n26 (cs : List Value) (n c : Nat) : Nat := (fin25 (x6 cs n c)).length / 1
def sameB (cs : List Value) (n c : Nat) : Prop := eqS ⟨⟨bytesIn (r25 cs n c) 0 (n25 cs n)⟩⟩ ⟨⟨bytesIn (r26 cs n c) 0 (n26 cs n c)⟩⟩ = true
theorem LA_run (cs : List Value) (n c : Nat) : outF (callO cx ovbA ovObA 1000 5 [.slice (some ⟨11, 0, none⟩) n c] (stL cs) ⟨[.no, .no, .yes, .no, .ev, .ev, .ev, .ev, .ev, .yes, .yes, .yes, .yes, .yes, .yes, .yes, .yes, .ev, .ev], []⟩) = some (.bool true, [C22.pre [], sameB cs n c, sameB cs n c, sameB cs n c, sameB cs n c, AllB (sub (r26 cs n c) 0 (n26 cs n c)), Nat.ble (0 + n26 cs n c) (r26 cs n c).length = true, AllB (sub (r25 cs n c) 0 (n25 cs n)), Nat.ble (0 + n25 cs n) (r25 cs n c).length = true, FitS cx 11 A26a.ml (x6 cs n c) rh6 [.slice none 0 0, .slice (some ⟨12, 0, none⟩) ((fin5 (xL cs n)).length / 2) openCap, .int .i64 0] [some (.row 35 (r5 cs n c) true true)], A26a.ml.pre (x6 cs n c), A26a.ml.c = A26a.ml.c, FitS cx 11 A25.ml (xL cs n) (rhL c) [.slice none 0 0, slL n c, .int .i64 (mN n : Int), .int .i64 0] (osL cs), A25.ml.pre (xL cs n), A25.ml.c = A25.ml.c, FitS cx 11 L78a (yL cs n) (rhL c) [slL n c, .func (.func 59) #[] #[], .int .i64 (mN n : Int), .int .i64 0] (osL cs), L78a.pre (yL cs n), L78a.c = L78a.c, FitS cx 11 A5.ml (xL cs n) (rhL c) [.slice none 0 0, slL n c, .int .i64 0] (osL cs), A5.ml.pre (xL cs n), A5.ml.c = A5.ml.c, Nat.beq c 0 = false, decide ((0 : Int) ≤ (if (40 : Int) < (n : Int) then (40 : Int) else (n : Int)) ∧ (if (40 : Int) < (n : Int) then (40 : Int) else (n : Int)) ≤ (c : Int)) = true, isOpen c = false]) := by kernel_rfl
theorem LB_run (cs : List Value) (n c : Nat) : outF (callO cx ovbB ovObB 1000 5 [.slice (some ⟨11, 0, none⟩) n c] (stL cs) ⟨[.no, .no, .yes, .no, .ev, .ev, .yes, .ev, .ev, .ev, .ev, .ev, .ev, .ev], []⟩) = some (.bool true, [C22.pre [], FitS cx 11 A26b.ml (x6 cs n c) rh6 [.slice none 0 0, .slice (some ⟨12, 0, none⟩) ((fin5 (xL cs n)).length / 2) openCap, .int .i64 0] [some (.row 35 (r5 cs n c) true true)], A26b.ml.pre (x6 cs n c), A26b.ml.c = A26b.ml.c, decide ((badAt cs (mN n - 0) 0 : Int) ≥ 0) = true, FitS cx 11 L78b (yL cs n) (rhL c) [slL n c, .func (.func 59) #[] #[], .int .i64 (mN n : Int), .int .i64 0] (osL cs), L78b.pre (yL cs n), L78b.c = L78b.c, FitS cx 11 A5.ml (xL cs n) (rhL c) [.slice none 0 0, slL n c, .int .i64 0] (osL cs), A5.ml.pre (xL cs n), A5.ml.c = A5.ml.c, Nat.beq c 0 = false, decide ((0 : Int) ≤ (if (40 : Int) < (n : Int) then (40 : Int) else (n : Int)) ∧ (if (40 : Int) < (n : Int) then (40 : Int) else (n : Int)) ≤ (c : Int)) = true, isOpen c = false]) := by kernel_rfl
theorem LN_run (cs : List Value) (c : Nat) : outF (callO cx ovb1 ovOb1 1000 5 [.slice (some ⟨11, 0, none⟩) 0 c] (stL cs) ⟨[.no, .ev, .yes, .yes, .ev, .ev, .ev, .ev, .ev, .ev, .ev, .ev, .ev, .ev, .ev], []⟩) = some (.bool true, [C22.pre [], Nat.beq c 0 = true, decide ((0 : Int) ≤ 0 ∧ (0 : Int) ≤ (c : Int)) = true, isOpen c = false]) := by kernel_rfl
theorem LN1_run (cs : List Value) (c : Nat) : outF (callO cx ovb1 ovOb1 1000 5 [.slice (some ⟨11, 0, none⟩) 0 c] (stL cs) ⟨[.no, .ev, .yes, .no, .ev, .ev, .ev, .ev, .ev, .ev, .ev, .ev, .ev, .ev, .ev], []⟩) = some (.bool true, [C22.pre [], Nat.beq c 0 = false, decide ((0 : Int) ≤ 0 ∧ (0 : Int) ≤ (c : Int)) = true, isOpen c = false]) := by kernel_rfl
theorem LM_run : outF (callO cx ovb1 ovOb1 1000 5 [.slice none 0 0] stT ⟨[.ev, .ev, .ev, .ev, .ev, .ev, .ev, .ev, .ev, .ev, .ev, .ev, .ev], []⟩) = some (.bool true, [C22.pre []]) := by kernel_rfl
end Go.Proofs.YtgmojlibppmfhaaDoor

/- Runs of the abstract interpreter, part 14: by an AI agent. -/
import Derived.Test.YtgmojlibppmfhaaGreatDoorPart13

namespace Go.Proofs.YtgmojlibppmfhaaGreatDoor
open Go Go.Ai
/-! ### the reference's Has: it looks at one bit after the other -/
def rnd (x b z : Int) (i : Nat) : List Prop := [(!(bitR x (i : Int) == bitR z (i : Int))) = false, CB.pre [.int .u32 z, .int .i64 (i : Int)], CB.pre [.int .u32 x, .int .i64 (i : Int)], decide ((i : Int) < b) = true]
def rnds (x b z : Int) : Nat → List Prop
  | 0 => [(!mayF x b) = false, CM.pre [.agg #[.int .u32 x, .int .i64 b]]]
  | n + 1 => rnd x b z n ++ rnds x b z n
def rt : Nat → List An → List An
  | 0, l => l
  | n + 1, l => .ev :: .yes :: .ev :: .no :: .ev :: rt n l
def asmE (x b z : Int) (n : Nat) : List Prop := (decide ((n : Int) < b) = false) :: rnds x b z n
def asmM (x b z : Int) (n : Nat) : List Prop := ((!(bitR x (n : Int) == bitR z (n : Int))) = true) :: CB.pre [.int .u32 z, .int .i64 (n : Int)] :: CB.pre [.int .u32 x, .int .i64 (n : Int)] :: (decide ((n : Int) < b) = true) :: rnds x b z n
def HasE (n : Nat) : Prop := ∀ x b z : Int, Holds (asmE x b z n) → ∃ st', Go.Ai.call cx ovr5 1000 13 [.agg #[.int .u32 x, .int .i64 b], .int .u32 z] ⟨keepIds st0.hp [], st0.ct⟩ = some (.bool true, st')
def HasM (n : Nat) : Prop := ∀ x b z : Int, Holds (asmM x b z n) → ∃ st', Go.Ai.call cx ovr5 1000 13 [.agg #[.int .u32 x, .int .i64 b], .int .u32 z] ⟨keepIds st0.hp [], st0.ct⟩ = some (.bool false, st')
theorem hE0 : HasE 0 := fun x b z h => path_call refr5 (toks := .ev :: .no :: rt 0 [.ev, .no]) (asm := asmE x b z 0) (by kernel_rfl) h
theorem hE1 : HasE 1 := fun x b z h => path_call refr5 (toks := .ev :: .no :: rt 1 [.ev, .no]) (asm := asmE x b z 1) (by kernel_rfl) h
theorem hE2 : HasE 2 := fun x b z h => path_call refr5 (toks := .ev :: .no :: rt 2 [.ev, .no]) (asm := asmE x b z 2) (by kernel_rfl) h
theorem hE3 : HasE 3 := fun x b z h => path_call refr5 (toks := .ev :: .no :: rt 3 [.ev, .no]) (asm := asmE x b z 3) (by kernel_rfl) h
theorem hE4 : HasE 4 := fun x b z h => path_call refr5 (toks := .ev :: .no :: rt 4 [.ev, .no]) (asm := asmE x b z 4) (by kernel_rfl) h
theorem hE5 : HasE 5 := fun x b z h => path_call refr5 (toks := .ev :: .no :: rt 5 [.ev, .no]) (asm := asmE x b z 5) (by kernel_rfl) h
theorem hE6 : HasE 6 := fun x b z h => path_call refr5 (toks := .ev :: .no :: rt 6 [.ev, .no]) (asm := asmE x b z 6) (by kernel_rfl) h
theorem hE7 : HasE 7 := fun x b z h => path_call refr5 (toks := .ev :: .no :: rt 7 [.ev, .no]) (asm := asmE x b z 7) (by kernel_rfl) h
theorem hE8 : HasE 8 := fun x b z h => path_call refr5 (toks := .ev :: .no :: rt 8 [.ev, .no]) (asm := asmE x b z 8) (by kernel_rfl) h
theorem hE9 : HasE 9 := fun x b z h => path_call refr5 (toks := .ev :: .no :: rt 9 [.ev, .no]) (asm := asmE x b z 9) (by kernel_rfl) h
theorem hE10 : HasE 10 := fun x b z h => path_call refr5 (toks := .ev :: .no :: rt 10 [.ev, .no]) (asm := asmE x b z 10) (by kernel_rfl) h
theorem hE11 : HasE 11 := fun x b z h => path_call refr5 (toks := .ev :: .no :: rt 11 [.ev, .no]) (asm := asmE x b z 11) (by kernel_rfl) h
theorem hE12 : HasE 12 := fun x b z h => path_call refr5 (toks := .ev :: .no :: rt 12 [.ev, .no]) (asm := asmE x b z 12) (by kernel_rfl) h
theorem hE13 : HasE 13 := fun x b z h => path_call refr5 (toks := .ev :: .no :: rt 13 [.ev, .no]) (asm := asmE x b z 13) (by kernel_rfl) h
theorem hE14 : HasE 14 := fun x b z h => path_call refr5 (toks := .ev :: .no :: rt 14 [.ev, .no]) (asm := asmE x b z 14) (by kernel_rfl) h
theorem hE15 : HasE 15 := fun x b z h => path_call refr5 (toks := .ev :: .no :: rt 15 [.ev, .no]) (asm := asmE x b z 15) (by kernel_rfl) h
theorem hE16 : HasE 16 := fun x b z h => path_call refr5 (toks := .ev :: .no :: rt 16 [.ev, .no]) (asm := asmE x b z 16) (by kernel_rfl) h
theorem hE17 : HasE 17 := fun x b z h => path_call refr5 (toks := .ev :: .no :: rt 17 [.ev, .no]) (asm := asmE x b z 17) (by kernel_rfl) h
theorem hE18 : HasE 18 := fun x b z h => path_call refr5 (toks := .ev :: .no :: rt 18 [.ev, .no]) (asm := asmE x b z 18) (by kernel_rfl) h
theorem hE19 : HasE 19 := fun x b z h => path_call refr5 (toks := .ev :: .no :: rt 19 [.ev, .no]) (asm := asmE x b z 19) (by kernel_rfl) h
theorem hE20 : HasE 20 := fun x b z h => path_call refr5 (toks := .ev :: .no :: rt 20 [.ev, .no]) (asm := asmE x b z 20) (by kernel_rfl) h
theorem hE21 : HasE 21 := fun x b z h => path_call refr5 (toks := .ev :: .no :: rt 21 [.ev, .no]) (asm := asmE x b z 21) (by kernel_rfl) h
theorem hE22 : HasE 22 := fun x b z h => path_call refr5 (toks := .ev :: .no :: rt 22 [.ev, .no]) (asm := asmE x b z 22) (by kernel_rfl) h
theorem hE23 : HasE 23 := fun x b z h => path_call refr5 (toks := .ev :: .no :: rt 23 [.ev, .no]) (asm := asmE x b z 23) (by kernel_rfl) h
theorem hE24 : HasE 24 := fun x b z h => path_call refr5 (toks := .ev :: .no :: rt 24 [.ev, .no]) (asm := asmE x b z 24) (by kernel_rfl) h
theorem hE25 : HasE 25 := fun x b z h => path_call refr5 (toks := .ev :: .no :: rt 25 [.ev, .no]) (asm := asmE x b z 25) (by kernel_rfl) h
theorem hE26 : HasE 26 := fun x b z h => path_call refr5 (toks := .ev :: .no :: rt 26 [.ev, .no]) (asm := asmE x b z 26) (by kernel_rfl) h
theorem hE27 : HasE 27 := fun x b z h => path_call refr5 (toks := .ev :: .no :: rt 27 [.ev, .no]) (asm := asmE x b z 27) (by kernel_rfl) h
theorem hE28 : HasE 28 := fun x b z h => path_call refr5 (toks := .ev :: .no :: rt 28 [.ev, .no]) (asm := asmE x b z 28) (by kernel_rfl) h
theorem hE29 : HasE 29 := fun x b z h => path_call refr5 (toks := .ev :: .no :: rt 29 [.ev, .no]) (asm := asmE x b z 29) (by kernel_rfl) h
theorem hE30 : HasE 30 := fun x b z h => path_call refr5 (toks := .ev :: .no :: rt 30 [.ev, .no]) (asm := asmE x b z 30) (by kernel_rfl) h
theorem hE31 : HasE 31 := fun x b z h => path_call refr5 (toks := .ev :: .no :: rt 31 [.ev, .no]) (asm := asmE x b z 31) (by kernel_rfl) h
theorem hE32 : HasE 32 := fun x b z h => path_call refr5 (toks := .ev :: .no :: rt 32 [.ev, .no]) (asm := asmE x b z 32) (by kernel_rfl) h
theorem hM0 : HasM 0 := fun x b z h => path_call refr5 (toks := .ev :: .no :: rt 0 [.ev, .yes, .ev, .yes]) (asm := asmM x b z 0) (by kernel_rfl) h
theorem hM1 : HasM 1 := fun x b z h => path_call refr5 (toks := .ev :: .no :: rt 1 [.ev, .yes, .ev, .yes]) (asm := asmM x b z 1) (by kernel_rfl) h
theorem hM2 : HasM 2 := fun x b z h => path_call refr5 (toks := .ev :: .no :: rt 2 [.ev, .yes, .ev, .yes]) (asm := asmM x b z 2) (by kernel_rfl) h
theorem hM3 : HasM 3 := fun x b z h => path_call refr5 (toks := .ev :: .no :: rt 3 [.ev, .yes, .ev, .yes]) (asm := asmM x b z 3) (by kernel_rfl) h
theorem hM4 : HasM 4 := fun x b z h => path_call refr5 (toks := .ev :: .no :: rt 4 [.ev, .yes, .ev, .yes]) (asm := asmM x b z 4) (by kernel_rfl) h
theorem hM5 : HasM 5 := fun x b z h => path_call refr5 (toks := .ev :: .no :: rt 5 [.ev, .yes, .ev, .yes]) (asm := asmM x b z 5) (by kernel_rfl) h
theorem hM6 : HasM 6 := fun x b z h => path_call refr5 (toks := .ev :: .no :: rt 6 [.ev, .yes, .ev, .yes]) (asm := asmM x b z 6) (by kernel_rfl) h
theorem hM7 : HasM 7 := fun x b z h => path_call refr5 (toks := .ev :: .no :: rt 7 [.ev, .yes, .ev, .yes]) (asm := asmM x b z 7) (by kernel_rfl) h
theorem hM8 : HasM 8 := fun x b z h => path_call refr5 (toks := .ev :: .no :: rt 8 [.ev, .yes, .ev, .yes]) (asm := asmM x b z 8) (by kernel_rfl) h
theorem hM9 : HasM 9 := fun x b z h => path_call refr5 (toks := .ev :: .no :: rt 9 [.ev, .yes, .ev, .yes]) (asm := asmM x b z 9) (by kernel_rfl) h
theorem hM10 : HasM 10 := fun x b z h => path_call refr5 (toks := .ev :: .no :: rt 10 [.ev, .yes, .ev, .yes]) (asm := asmM x b z 10) (by kernel_rfl) h
theorem hM11 : HasM 11 := fun x b z h => path_call refr5 (toks := .ev :: .no :: rt 11 [.ev, .yes, .ev, .yes]) (asm := asmM x b z 11) (by kernel_rfl) h
theorem hM12 : HasM 12 := fun x b z h => path_call refr5 (toks := .ev :: .no :: rt 12 [.ev, .yes, .ev, .yes]) (asm := asmM x b z 12) (by kernel_rfl) h
theorem hM13 : HasM 13 := fun x b z h => path_call refr5 (toks := .ev :: .no :: rt 13 [.ev, .yes, .ev, .yes]) (asm := asmM x b z 13) (by kernel_rfl) h
theorem hM14 : HasM 14 := fun x b z h => path_call refr5 (toks := .ev :: .no :: rt 14 [.ev, .yes, .ev, .yes]) (asm := asmM x b z 14) (by kernel_rfl) h
theorem hM15 : HasM 15 := fun x b z h => path_call refr5 (toks := .ev :: .no :: rt 15 [.ev, .yes, .ev, .yes]) (asm := asmM x b z 15) (by kernel_rfl) h
theorem hM16 : HasM 16 := fun x b z h => path_call refr5 (toks := .ev :: .no :: rt 16 [.ev, .yes, .ev, .yes]) (asm := asmM x b z 16) (by kernel_rfl) h
theorem hM17 : HasM 17 := fun x b z h => path_call refr5 (toks := .ev :: .no :: rt 17 [.ev, .yes, .ev, .yes]) (asm := asmM x b z 17) (by kernel_rfl) h
theorem hM18 : HasM 18 := fun x b z h => path_call refr5 (toks := .ev :: .no :: rt 18 [.ev, .yes, .ev, .yes]) (asm := asmM x b z 18) (by kernel_rfl) h
theorem hM19 : HasM 19 := fun x b z h => path_call refr5 (toks := .ev :: .no :: rt 19 [.ev, .yes, .ev, .yes]) (asm := asmM x b z 19) (by kernel_rfl) h
theorem hM20 : HasM 20 := fun x b z h => path_call refr5 (toks := .ev :: .no :: rt 20 [.ev, .yes, .ev, .yes]) (asm := asmM x b z 20) (by kernel_rfl) h
theorem hM21 : HasM 21 := fun x b z h => path_call refr5 (toks := .ev :: .no :: rt 21 [.ev, .yes, .ev, .yes]) (asm := asmM x b z 21) (by kernel_rfl) h
theorem hM22 : HasM 22 := fun x b z h => path_call refr5 (toks := .ev :: .no :: rt 22 [.ev, .yes, .ev, .yes]) (asm := asmM x b z 22) (by kernel_rfl) h
theorem hM23 : HasM 23 := fun x b z h => path_call refr5 (toks := .ev :: .no :: rt 23 [.ev, .yes, .ev, .yes]) (asm := asmM x b z 23) (by kernel_rfl) h
theorem hM24 : HasM 24 := fun x b z h => path_call refr5 (toks := .ev :: .no :: rt 24 [.ev, .yes, .ev, .yes]) (asm := asmM x b z 24) (by kernel_rfl) h
theorem hM25 : HasM 25 := fun x b z h => path_call refr5 (toks := .ev :: .no :: rt 25 [.ev, .yes, .ev, .yes]) (asm := asmM x b z 25) (by kernel_rfl) h
theorem hM26 : HasM 26 := fun x b z h => path_call refr5 (toks := .ev :: .no :: rt 26 [.ev, .yes, .ev, .yes]) (asm := asmM x b z 26) (by kernel_rfl) h
theorem hM27 : HasM 27 := fun x b z h => path_call refr5 (toks := .ev :: .no :: rt 27 [.ev, .yes, .ev, .yes]) (asm := asmM x b z 27) (by kernel_rfl) h
theorem hM28 : HasM 28 := fun x b z h => path_call refr5 (toks := .ev :: .no :: rt 28 [.ev, .yes, .ev, .yes]) (asm := asmM x b z 28) (by kernel_rfl) h
theorem hM29 : HasM 29 := fun x b z h => path_call refr5 (toks := .ev :: .no :: rt 29 [.ev, .yes, .ev, .yes]) (asm := asmM x b z 29) (by kernel_rfl) h
theorem hM30 : HasM 30 := fun x b z h => path_call refr5 (toks := .ev :: .no :: rt 30 [.ev, .yes, .ev, .yes]) (asm := asmM x b z 30) (by kernel_rfl) h
theorem hM31 : HasM 31 := fun x b z h => path_call refr5 (toks := .ev :: .no :: rt 31 [.ev, .yes, .ev, .yes]) (asm := asmM x b z 31) (by kernel_rfl) h
theorem hE (n : Nat) (h : n ≤ 32) : HasE n := by
  obtain rfl | rfl | rfl | rfl | rfl | rfl | rfl | rfl | rfl | rfl | rfl | rfl | rfl | rfl | rfl | rfl | rfl | rfl | rfl | rfl | rfl | rfl | rfl | rfl | rfl | rfl | rfl | rfl | rfl | rfl | rfl | rfl | rfl : n = 0 ∨ n = 1 ∨ n = 2 ∨ n = 3 ∨ n = 4 ∨ n = 5 ∨ n = 6 ∨ n = 7 ∨ n = 8 ∨ n = 9 ∨ n = 10 ∨ n = 11 ∨ n = 12 ∨ n = 13 ∨ n = 14 ∨ n = 15 ∨ n = 16 ∨ n = 17 ∨ n = 18 ∨ n = 19 ∨ n = 20 ∨ n = 21 ∨ n = 22 ∨ n = 23 ∨ n = 24 ∨ n = 25 ∨ n = 26 ∨ n = 27 ∨ n = 28 ∨ n = 29 ∨ n = 30 ∨ n = 31 ∨ n = 32 := by omega
  · exact hE0
  · exact hE1
  · exact hE2
  · exact hE3
  · exact hE4
  · exact hE5
  · exact hE6
  · exact hE7
  · exact hE8
  · exact hE9
  · exact hE10
  · exact hE11
  · exact hE12
  · exact hE13
  · exact hE14
  · exact hE15
  · exact hE16
  · exact hE17
  · exact hE18
  · exact hE19
  · exact hE20
  · exact hE21
  · exact hE22
  · exact hE23
  · exact hE24
  · exact hE25
  · exact hE26
  · exact hE27
  · exact hE28
  · exact hE29
  · exact hE30
  · exact hE31
  · exact hE32
theorem hM (n : Nat) (h : n < 32) : HasM n := by
  obtain rfl | rfl | rfl | rfl | rfl | rfl | rfl | rfl | rfl | rfl | rfl | rfl | rfl | rfl | rfl | rfl | rfl | rfl | rfl | rfl | rfl | rfl | rfl | rfl | rfl | rfl | rfl | rfl | rfl | rfl | rfl | rfl : n = 0 ∨ n = 1 ∨ n = 2 ∨ n = 3 ∨ n = 4 ∨ n = 5 ∨ n = 6 ∨ n = 7 ∨ n = 8 ∨ n = 9 ∨ n = 10 ∨ n = 11 ∨ n = 12 ∨ n = 13 ∨ n = 14 ∨ n = 15 ∨ n = 16 ∨ n = 17 ∨ n = 18 ∨ n = 19 ∨ n = 20 ∨ n = 21 ∨ n = 22 ∨ n = 23 ∨ n = 24 ∨ n = 25 ∨ n = 26 ∨ n = 27 ∨ n = 28 ∨ n = 29 ∨ n = 30 ∨ n = 31 := by omega
  · exact hM0
  · exact hM1
  · exact hM2
  · exact hM3
  · exact hM4
  · exact hM5
  · exact hM6
  · exact hM7
  · exact hM8
  · exact hM9
  · exact hM10
  · exact hM11
  · exact hM12
  · exact hM13
  · exact hM14
  · exact hM15
  · exact hM16
  · exact hM17
  · exact hM18
  · exact hM19
  · exact hM20
  · exact hM21
  · exact hM22
  · exact hM23
  · exact hM24
  · exact hM25
  · exact hM26
  · exact hM27
  · exact hM28
  · exact hM29
  · exact hM30
  · exact hM31
theorem hN (x b z : Int) (h : Holds [(!mayF x b) = true, CM.pre [.agg #[.int .u32 x, .int .i64 b]]]) : ∃ st', Go.Ai.call cx ovr5 1000 13 [.agg #[.int .u32 x, .int .i64 b], .int .u32 z] ⟨keepIds st0.hp [], st0.ct⟩ = some (.bool false, st') :=
  path_call refr5 (toks := [.ev, .yes]) (by kernel_rfl) h
end Go.Proofs.YtgmojlibppmfhaaGreatDoor

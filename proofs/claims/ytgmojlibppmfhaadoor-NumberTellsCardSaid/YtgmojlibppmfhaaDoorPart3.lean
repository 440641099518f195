/- Runs of the abstract interpreter, part 3: by an AI agent. -/
import Derived.Test.YtgmojlibppmfhaaDoorPart2

namespace Go.Proofs.YtgmojlibppmfhaaDoor
open Go Go.Ai
theorem ref0 : OvRef ov0 ovONone := ovONone_ref ov0_lp
theorem F43_p0 (n : Int) (h : Holds [(Decidable.decide (n ≤ (0 : Int))) = true, (Decidable.decide (n ≥ (0 : Int))) = true, (Decidable.decide (n ≥ (0 : Int))) = true, (Decidable.decide (n ≥ (0 : Int))) = true, (Decidable.decide (n ≥ (0 : Int))) = true, (Decidable.decide (n ≥ (0 : Int))) = true]) : ∃ st', Go.Ai.call cx ov0 1000 43 [.int .u32 n] ⟨keepIds st0.hp [0], st0.ct⟩ = some (Go.Value.int Go.IntKind.i64 (1 : Int), st') :=
  path_call ref0 (toks := [.ev, .ev, .ev, .ev, .yes, .yes, .yes, .ev, .yes, .yes, .yes, .ev]) (by kernel_rfl) h
theorem F43_p1 (n : Int) (h : Holds [(Decidable.decide (n ≥ (4294967295 : Int))) = false, (Decidable.decide (n ≥ (4294967295 : Int))) = false, (Decidable.decide (n ≥ (4294967295 : Int))) = false, (Decidable.decide (n ≥ (4294967295 : Int))) = false, (Decidable.decide (n ≥ (4294967295 : Int))) = false, (Decidable.decide (n ≥ (65535 : Int))) = false, (Decidable.decide (n ≥ (65535 : Int))) = false, (Decidable.decide (n ≥ (65535 : Int))) = false, (Decidable.decide (n ≥ (65535 : Int))) = false, (Decidable.decide (n ≥ (65535 : Int))) = false, (Decidable.decide (n ≥ (64496 : Int))) = false, (Decidable.decide (n ≥ (64496 : Int))) = false, (Decidable.decide (n ≥ (64496 : Int))) = false, (Decidable.decide (n ≥ (64496 : Int))) = false, (Decidable.decide (n ≥ (64496 : Int))) = false, (Decidable.decide (n ≥ (4200000000 : Int))) = false, (Decidable.decide (n ≥ (4200000000 : Int))) = false, (Decidable.decide (n ≥ (4200000000 : Int))) = false, (Decidable.decide (n ≥ (4200000000 : Int))) = false, (Decidable.decide (n ≥ (4200000000 : Int))) = false, (Decidable.decide (n ≥ (64512 : Int))) = false, (Decidable.decide (n ≥ (64512 : Int))) = false, (Decidable.decide (n ≥ (64512 : Int))) = false, (Decidable.decide (n ≥ (64512 : Int))) = false, (Decidable.decide (n ≥ (64512 : Int))) = false, (Decidable.decide (n ≥ (23456 : Int))) = false, (Decidable.decide (n ≥ (23456 : Int))) = false, (Decidable.decide (n ≥ (23456 : Int))) = false, (Decidable.decide (n ≥ (23456 : Int))) = false, (Decidable.decide (n ≥ (23456 : Int))) = false, (Decidable.decide (n ≤ (0 : Int))) = false, (Decidable.decide (n ≥ (0 : Int))) = true, (Decidable.decide (n ≥ (0 : Int))) = true, (Decidable.decide (n ≥ (0 : Int))) = true, (Decidable.decide (n ≥ (0 : Int))) = true, (Decidable.decide (n ≥ (0 : Int))) = true]) : ∃ st', Go.Ai.call cx ov0 1000 43 [.int .u32 n] ⟨keepIds st0.hp [0], st0.ct⟩ = some (Go.Value.int Go.IntKind.i64 (5 : Int), st') :=
  path_call ref0 (toks := [.ev, .ev, .ev, .ev, .yes, .yes, .yes, .ev, .yes, .yes, .no, .ev, .ev, .ev, .ev, .no, .no, .no, .no, .no, .ev, .ev, .ev, .ev, .ev, .no, .no, .no, .no, .no, .ev, .ev, .ev, .ev, .ev, .no, .no, .no, .no, .no, .ev, .ev, .ev, .ev, .ev, .no, .no, .no, .no, .no, .ev, .ev, .ev, .ev, .ev, .no, .no, .no, .no, .no, .ev, .ev, .ev, .ev, .ev, .no, .no, .no, .no, .no, .ev, .ev, .ev]) (by kernel_rfl) h
theorem F43_p2 (n : Int) (h : Holds [(Decidable.decide (n ≤ (23456 : Int))) = true, (Decidable.decide (n ≥ (23456 : Int))) = true, (Decidable.decide (n ≥ (23456 : Int))) = true, (Decidable.decide (n ≥ (23456 : Int))) = true, (Decidable.decide (n ≥ (23456 : Int))) = true, (Decidable.decide (n ≥ (23456 : Int))) = true, (Decidable.decide (n ≤ (0 : Int))) = false, (Decidable.decide (n ≥ (0 : Int))) = true, (Decidable.decide (n ≥ (0 : Int))) = true, (Decidable.decide (n ≥ (0 : Int))) = true, (Decidable.decide (n ≥ (0 : Int))) = true, (Decidable.decide (n ≥ (0 : Int))) = true]) : ∃ st', Go.Ai.call cx ov0 1000 43 [.int .u32 n] ⟨keepIds st0.hp [0], st0.ct⟩ = some (Go.Value.int Go.IntKind.i64 (2 : Int), st') :=
  path_call ref0 (toks := [.ev, .ev, .ev, .ev, .yes, .yes, .yes, .ev, .yes, .yes, .no, .ev, .ev, .ev, .ev, .yes, .yes, .yes, .ev, .yes, .yes, .yes, .ev]) (by kernel_rfl) h
theorem F43_p3 (n : Int) (h : Holds [(Decidable.decide (n ≥ (4294967295 : Int))) = false, (Decidable.decide (n ≥ (4294967295 : Int))) = false, (Decidable.decide (n ≥ (4294967295 : Int))) = false, (Decidable.decide (n ≥ (4294967295 : Int))) = false, (Decidable.decide (n ≥ (4294967295 : Int))) = false, (Decidable.decide (n ≥ (65535 : Int))) = false, (Decidable.decide (n ≥ (65535 : Int))) = false, (Decidable.decide (n ≥ (65535 : Int))) = false, (Decidable.decide (n ≥ (65535 : Int))) = false, (Decidable.decide (n ≥ (65535 : Int))) = false, (Decidable.decide (n ≥ (64496 : Int))) = false, (Decidable.decide (n ≥ (64496 : Int))) = false, (Decidable.decide (n ≥ (64496 : Int))) = false, (Decidable.decide (n ≥ (64496 : Int))) = false, (Decidable.decide (n ≥ (64496 : Int))) = false, (Decidable.decide (n ≥ (4200000000 : Int))) = false, (Decidable.decide (n ≥ (4200000000 : Int))) = false, (Decidable.decide (n ≥ (4200000000 : Int))) = false, (Decidable.decide (n ≥ (4200000000 : Int))) = false, (Decidable.decide (n ≥ (4200000000 : Int))) = false, (Decidable.decide (n ≥ (64512 : Int))) = false, (Decidable.decide (n ≥ (64512 : Int))) = false, (Decidable.decide (n ≥ (64512 : Int))) = false, (Decidable.decide (n ≥ (64512 : Int))) = false, (Decidable.decide (n ≥ (64512 : Int))) = false, (Decidable.decide (n ≤ (23456 : Int))) = false, (Decidable.decide (n ≥ (23456 : Int))) = true, (Decidable.decide (n ≥ (23456 : Int))) = true, (Decidable.decide (n ≥ (23456 : Int))) = true, (Decidable.decide (n ≥ (23456 : Int))) = true, (Decidable.decide (n ≥ (23456 : Int))) = true, (Decidable.decide (n ≤ (0 : Int))) = false, (Decidable.decide (n ≥ (0 : Int))) = true, (Decidable.decide (n ≥ (0 : Int))) = true, (Decidable.decide (n ≥ (0 : Int))) = true, (Decidable.decide (n ≥ (0 : Int))) = true, (Decidable.decide (n ≥ (0 : Int))) = true]) : ∃ st', Go.Ai.call cx ov0 1000 43 [.int .u32 n] ⟨keepIds st0.hp [0], st0.ct⟩ = some (Go.Value.int Go.IntKind.i64 (5 : Int), st') :=
  path_call ref0 (toks := [.ev, .ev, .ev, .ev, .yes, .yes, .yes, .ev, .yes, .yes, .no, .ev, .ev, .ev, .ev, .yes, .yes, .yes, .ev, .yes, .yes, .no, .ev, .ev, .ev, .ev, .no, .no, .no, .no, .no, .ev, .ev, .ev, .ev, .ev, .no, .no, .no, .no, .no, .ev, .ev, .ev, .ev, .ev, .no, .no, .no, .no, .no, .ev, .ev, .ev, .ev, .ev, .no, .no, .no, .no, .no, .ev, .ev, .ev, .ev, .ev, .no, .no, .no, .no, .no, .ev, .ev, .ev]) (by kernel_rfl) h
theorem F43_p4 (n : Int) (h : Holds [(Decidable.decide (n ≤ (64511 : Int))) = true, (Decidable.decide (n ≥ (64496 : Int))) = true, (Decidable.decide (n ≥ (64496 : Int))) = true, (Decidable.decide (n ≥ (64496 : Int))) = true, (Decidable.decide (n ≥ (64496 : Int))) = true, (Decidable.decide (n ≥ (64496 : Int))) = true, (Decidable.decide (n ≥ (4200000000 : Int))) = false, (Decidable.decide (n ≥ (4200000000 : Int))) = false, (Decidable.decide (n ≥ (4200000000 : Int))) = false, (Decidable.decide (n ≥ (4200000000 : Int))) = false, (Decidable.decide (n ≥ (4200000000 : Int))) = false, (Decidable.decide (n ≥ (64512 : Int))) = false, (Decidable.decide (n ≥ (64512 : Int))) = false, (Decidable.decide (n ≥ (64512 : Int))) = false, (Decidable.decide (n ≥ (64512 : Int))) = false, (Decidable.decide (n ≥ (64512 : Int))) = false, (Decidable.decide (n ≤ (23456 : Int))) = false, (Decidable.decide (n ≥ (23456 : Int))) = true, (Decidable.decide (n ≥ (23456 : Int))) = true, (Decidable.decide (n ≥ (23456 : Int))) = true, (Decidable.decide (n ≥ (23456 : Int))) = true, (Decidable.decide (n ≥ (23456 : Int))) = true, (Decidable.decide (n ≤ (0 : Int))) = false, (Decidable.decide (n ≥ (0 : Int))) = true, (Decidable.decide (n ≥ (0 : Int))) = true, (Decidable.decide (n ≥ (0 : Int))) = true, (Decidable.decide (n ≥ (0 : Int))) = true, (Decidable.decide (n ≥ (0 : Int))) = true]) : ∃ st', Go.Ai.call cx ov0 1000 43 [.int .u32 n] ⟨keepIds st0.hp [0], st0.ct⟩ = some (Go.Value.int Go.IntKind.i64 (4 : Int), st') :=
  path_call ref0 (toks := [.ev, .ev, .ev, .ev, .yes, .yes, .yes, .ev, .yes, .yes, .no, .ev, .ev, .ev, .ev, .yes, .yes, .yes, .ev, .yes, .yes, .no, .ev, .ev, .ev, .ev, .no, .no, .no, .no, .no, .ev, .ev, .ev, .ev, .ev, .no, .no, .no, .no, .no, .ev, .ev, .ev, .ev, .ev, .yes, .yes, .yes, .ev, .yes, .yes, .yes, .ev]) (by kernel_rfl) h
theorem F43_p5 (n : Int) (h : Holds [(Decidable.decide (n ≤ (65534 : Int))) = true, (Decidable.decide (n ≥ (64512 : Int))) = true, (Decidable.decide (n ≥ (64512 : Int))) = true, (Decidable.decide (n ≥ (64512 : Int))) = true, (Decidable.decide (n ≥ (64512 : Int))) = true, (Decidable.decide (n ≥ (64512 : Int))) = true, (Decidable.decide (n ≤ (23456 : Int))) = false, (Decidable.decide (n ≥ (23456 : Int))) = true, (Decidable.decide (n ≥ (23456 : Int))) = true, (Decidable.decide (n ≥ (23456 : Int))) = true, (Decidable.decide (n ≥ (23456 : Int))) = true, (Decidable.decide (n ≥ (23456 : Int))) = true, (Decidable.decide (n ≤ (0 : Int))) = false, (Decidable.decide (n ≥ (0 : Int))) = true, (Decidable.decide (n ≥ (0 : Int))) = true, (Decidable.decide (n ≥ (0 : Int))) = true, (Decidable.decide (n ≥ (0 : Int))) = true, (Decidable.decide (n ≥ (0 : Int))) = true]) : ∃ st', Go.Ai.call cx ov0 1000 43 [.int .u32 n] ⟨keepIds st0.hp [0], st0.ct⟩ = some (Go.Value.int Go.IntKind.i64 (3 : Int), st') :=
  path_call ref0 (toks := [.ev, .ev, .ev, .ev, .yes, .yes, .yes, .ev, .yes, .yes, .no, .ev, .ev, .ev, .ev, .yes, .yes, .yes, .ev, .yes, .yes, .no, .ev, .ev, .ev, .ev, .yes, .yes, .yes, .ev, .yes, .yes, .yes, .ev]) (by kernel_rfl) h
theorem F43_p6 (n : Int) (h : Holds [(Decidable.decide (n ≤ (65551 : Int))) = true, (Decidable.decide (n ≥ (65535 : Int))) = true, (Decidable.decide (n ≥ (65535 : Int))) = true, (Decidable.decide (n ≥ (65535 : Int))) = true, (Decidable.decide (n ≥ (65535 : Int))) = true, (Decidable.decide (n ≥ (65535 : Int))) = true, (Decidable.decide (n ≤ (64511 : Int))) = false, (Decidable.decide (n ≥ (64496 : Int))) = true, (Decidable.decide (n ≥ (64496 : Int))) = true, (Decidable.decide (n ≥ (64496 : Int))) = true, (Decidable.decide (n ≥ (64496 : Int))) = true, (Decidable.decide (n ≥ (64496 : Int))) = true, (Decidable.decide (n ≥ (4200000000 : Int))) = false, (Decidable.decide (n ≥ (4200000000 : Int))) = false, (Decidable.decide (n ≥ (4200000000 : Int))) = false, (Decidable.decide (n ≥ (4200000000 : Int))) = false, (Decidable.decide (n ≥ (4200000000 : Int))) = false, (Decidable.decide (n ≤ (65534 : Int))) = false, (Decidable.decide (n ≥ (64512 : Int))) = true, (Decidable.decide (n ≥ (64512 : Int))) = true, (Decidable.decide (n ≥ (64512 : Int))) = true, (Decidable.decide (n ≥ (64512 : Int))) = true, (Decidable.decide (n ≥ (64512 : Int))) = true, (Decidable.decide (n ≤ (23456 : Int))) = false, (Decidable.decide (n ≥ (23456 : Int))) = true, (Decidable.decide (n ≥ (23456 : Int))) = true, (Decidable.decide (n ≥ (23456 : Int))) = true, (Decidable.decide (n ≥ (23456 : Int))) = true, (Decidable.decide (n ≥ (23456 : Int))) = true, (Decidable.decide (n ≤ (0 : Int))) = false, (Decidable.decide (n ≥ (0 : Int))) = true, (Decidable.decide (n ≥ (0 : Int))) = true, (Decidable.decide (n ≥ (0 : Int))) = true, (Decidable.decide (n ≥ (0 : Int))) = true, (Decidable.decide (n ≥ (0 : Int))) = true]) : ∃ st', Go.Ai.call cx ov0 1000 43 [.int .u32 n] ⟨keepIds st0.hp [0], st0.ct⟩ = some (Go.Value.int Go.IntKind.i64 (4 : Int), st') :=
  path_call ref0 (toks := [.ev, .ev, .ev, .ev, .yes, .yes, .yes, .ev, .yes, .yes, .no, .ev, .ev, .ev, .ev, .yes, .yes, .yes, .ev, .yes, .yes, .no, .ev, .ev, .ev, .ev, .yes, .yes, .yes, .ev, .yes, .yes, .no, .ev, .ev, .ev, .ev, .no, .no, .no, .no, .no, .ev, .ev, .ev, .ev, .ev, .yes, .yes, .yes, .ev, .yes, .yes, .no, .ev, .ev, .ev, .ev, .yes, .yes, .yes, .ev, .yes, .yes, .yes, .ev]) (by kernel_rfl) h
theorem F43_p7 (n : Int) (h : Holds [(Decidable.decide (n ≥ (4294967295 : Int))) = false, (Decidable.decide (n ≥ (4294967295 : Int))) = false, (Decidable.decide (n ≥ (4294967295 : Int))) = false, (Decidable.decide (n ≥ (4294967295 : Int))) = false, (Decidable.decide (n ≥ (4294967295 : Int))) = false, (Decidable.decide (n ≤ (65551 : Int))) = false, (Decidable.decide (n ≥ (65535 : Int))) = true, (Decidable.decide (n ≥ (65535 : Int))) = true, (Decidable.decide (n ≥ (65535 : Int))) = true, (Decidable.decide (n ≥ (65535 : Int))) = true, (Decidable.decide (n ≥ (65535 : Int))) = true, (Decidable.decide (n ≤ (64511 : Int))) = false, (Decidable.decide (n ≥ (64496 : Int))) = true, (Decidable.decide (n ≥ (64496 : Int))) = true, (Decidable.decide (n ≥ (64496 : Int))) = true, (Decidable.decide (n ≥ (64496 : Int))) = true, (Decidable.decide (n ≥ (64496 : Int))) = true, (Decidable.decide (n ≥ (4200000000 : Int))) = false, (Decidable.decide (n ≥ (4200000000 : Int))) = false, (Decidable.decide (n ≥ (4200000000 : Int))) = false, (Decidable.decide (n ≥ (4200000000 : Int))) = false, (Decidable.decide (n ≥ (4200000000 : Int))) = false, (Decidable.decide (n ≤ (65534 : Int))) = false, (Decidable.decide (n ≥ (64512 : Int))) = true, (Decidable.decide (n ≥ (64512 : Int))) = true, (Decidable.decide (n ≥ (64512 : Int))) = true, (Decidable.decide (n ≥ (64512 : Int))) = true, (Decidable.decide (n ≥ (64512 : Int))) = true, (Decidable.decide (n ≤ (23456 : Int))) = false, (Decidable.decide (n ≥ (23456 : Int))) = true, (Decidable.decide (n ≥ (23456 : Int))) = true, (Decidable.decide (n ≥ (23456 : Int))) = true, (Decidable.decide (n ≥ (23456 : Int))) = true, (Decidable.decide (n ≥ (23456 : Int))) = true, (Decidable.decide (n ≤ (0 : Int))) = false, (Decidable.decide (n ≥ (0 : Int))) = true, (Decidable.decide (n ≥ (0 : Int))) = true, (Decidable.decide (n ≥ (0 : Int))) = true, (Decidable.decide (n ≥ (0 : Int))) = true, (Decidable.decide (n ≥ (0 : Int))) = true]) : ∃ st', Go.Ai.call cx ov0 1000 43 [.int .u32 n] ⟨keepIds st0.hp [0], st0.ct⟩ = some (Go.Value.int Go.IntKind.i64 (5 : Int), st') :=
  path_call ref0 (toks := [.ev, .ev, .ev, .ev, .yes, .yes, .yes, .ev, .yes, .yes, .no, .ev, .ev, .ev, .ev, .yes, .yes, .yes, .ev, .yes, .yes, .no, .ev, .ev, .ev, .ev, .yes, .yes, .yes, .ev, .yes, .yes, .no, .ev, .ev, .ev, .ev, .no, .no, .no, .no, .no, .ev, .ev, .ev, .ev, .ev, .yes, .yes, .yes, .ev, .yes, .yes, .no, .ev, .ev, .ev, .ev, .yes, .yes, .yes, .ev, .yes, .yes, .no, .ev, .ev, .ev, .ev, .no, .no, .no, .no, .no, .ev, .ev, .ev]) (by kernel_rfl) h
theorem F43_p8 (n : Int) (h : Holds [(Decidable.decide (n ≤ (4294967294 : Int))) = true, (Decidable.decide (n ≥ (4200000000 : Int))) = true, (Decidable.decide (n ≥ (4200000000 : Int))) = true, (Decidable.decide (n ≥ (4200000000 : Int))) = true, (Decidable.decide (n ≥ (4200000000 : Int))) = true, (Decidable.decide (n ≥ (4200000000 : Int))) = true, (Decidable.decide (n ≤ (65534 : Int))) = false, (Decidable.decide (n ≥ (64512 : Int))) = true, (Decidable.decide (n ≥ (64512 : Int))) = true, (Decidable.decide (n ≥ (64512 : Int))) = true, (Decidable.decide (n ≥ (64512 : Int))) = true, (Decidable.decide (n ≥ (64512 : Int))) = true, (Decidable.decide (n ≤ (23456 : Int))) = false, (Decidable.decide (n ≥ (23456 : Int))) = true, (Decidable.decide (n ≥ (23456 : Int))) = true, (Decidable.decide (n ≥ (23456 : Int))) = true, (Decidable.decide (n ≥ (23456 : Int))) = true, (Decidable.decide (n ≥ (23456 : Int))) = true, (Decidable.decide (n ≤ (0 : Int))) = false, (Decidable.decide (n ≥ (0 : Int))) = true, (Decidable.decide (n ≥ (0 : Int))) = true, (Decidable.decide (n ≥ (0 : Int))) = true, (Decidable.decide (n ≥ (0 : Int))) = true, (Decidable.decide (n ≥ (0 : Int))) = true]) : ∃ st', Go.Ai.call cx ov0 1000 43 [.int .u32 n] ⟨keepIds st0.hp [0], st0.ct⟩ = some (Go.Value.int Go.IntKind.i64 (3 : Int), st') :=
  path_call ref0 (toks := [.ev, .ev, .ev, .ev, .yes, .yes, .yes, .ev, .yes, .yes, .no, .ev, .ev, .ev, .ev, .yes, .yes, .yes, .ev, .yes, .yes, .no, .ev, .ev, .ev, .ev, .yes, .yes, .yes, .ev, .yes, .yes, .no, .ev, .ev, .ev, .ev, .yes, .yes, .yes, .ev, .yes, .yes, .yes, .ev]) (by kernel_rfl) h
theorem F43_p9 (n : Int) (h : Holds [(Decidable.decide (n ≤ (4294967295 : Int))) = true, (Decidable.decide (n ≥ (4294967295 : Int))) = true, (Decidable.decide (n ≥ (4294967295 : Int))) = true, (Decidable.decide (n ≥ (4294967295 : Int))) = true, (Decidable.decide (n ≥ (4294967295 : Int))) = true, (Decidable.decide (n ≥ (4294967295 : Int))) = true, (Decidable.decide (n ≤ (65551 : Int))) = false, (Decidable.decide (n ≥ (65535 : Int))) = true, (Decidable.decide (n ≥ (65535 : Int))) = true, (Decidable.decide (n ≥ (65535 : Int))) = true, (Decidable.decide (n ≥ (65535 : Int))) = true, (Decidable.decide (n ≥ (65535 : Int))) = true, (Decidable.decide (n ≤ (64511 : Int))) = false, (Decidable.decide (n ≥ (64496 : Int))) = true, (Decidable.decide (n ≥ (64496 : Int))) = true, (Decidable.decide (n ≥ (64496 : Int))) = true, (Decidable.decide (n ≥ (64496 : Int))) = true, (Decidable.decide (n ≥ (64496 : Int))) = true, (Decidable.decide (n ≤ (4294967294 : Int))) = false, (Decidable.decide (n ≥ (4200000000 : Int))) = true, (Decidable.decide (n ≥ (4200000000 : Int))) = true, (Decidable.decide (n ≥ (4200000000 : Int))) = true, (Decidable.decide (n ≥ (4200000000 : Int))) = true, (Decidable.decide (n ≥ (4200000000 : Int))) = true, (Decidable.decide (n ≤ (65534 : Int))) = false, (Decidable.decide (n ≥ (64512 : Int))) = true, (Decidable.decide (n ≥ (64512 : Int))) = true, (Decidable.decide (n ≥ (64512 : Int))) = true, (Decidable.decide (n ≥ (64512 : Int))) = true, (Decidable.decide (n ≥ (64512 : Int))) = true, (Decidable.decide (n ≤ (23456 : Int))) = false, (Decidable.decide (n ≥ (23456 : Int))) = true, (Decidable.decide (n ≥ (23456 : Int))) = true, (Decidable.decide (n ≥ (23456 : Int))) = true, (Decidable.decide (n ≥ (23456 : Int))) = true, (Decidable.decide (n ≥ (23456 : Int))) = true, (Decidable.decide (n ≤ (0 : Int))) = false, (Decidable.decide (n ≥ (0 : Int))) = true, (Decidable.decide (n ≥ (0 : Int))) = true, (Decidable.decide (n ≥ (0 : Int))) = true, (Decidable.decide (n ≥ (0 : Int))) = true, (Decidable.decide (n ≥ (0 : Int))) = true]) : ∃ st', Go.Ai.call cx ov0 1000 43 [.int .u32 n] ⟨keepIds st0.hp [0], st0.ct⟩ = some (Go.Value.int Go.IntKind.i64 (4 : Int), st') :=
  path_call ref0 (toks := [.ev, .ev, .ev, .ev, .yes, .yes, .yes, .ev, .yes, .yes, .no, .ev, .ev, .ev, .ev, .yes, .yes, .yes, .ev, .yes, .yes, .no, .ev, .ev, .ev, .ev, .yes, .yes, .yes, .ev, .yes, .yes, .no, .ev, .ev, .ev, .ev, .yes, .yes, .yes, .ev, .yes, .yes, .no, .ev, .ev, .ev, .ev, .yes, .yes, .yes, .ev, .yes, .yes, .no, .ev, .ev, .ev, .ev, .yes, .yes, .yes, .ev, .yes, .yes, .no, .ev, .ev, .ev, .ev, .yes, .yes, .yes, .ev, .yes, .yes, .yes, .ev]) (by kernel_rfl) h
theorem F43_all (n : Int) (h0 : 0 ≤ n) (h1 : n < 4294967296) : ∃ st', Go.Ai.call cx ov0 1000 43 [.int .u32 n] ⟨keepIds st0.hp [0], st0.ct⟩ = some (.int .i64 (kindF n), st') := by
  cases b0 : (Decidable.decide (n ≥ (0 : Int)))
  ·
    have c0 := of_decide_eq_false b0
    (exfalso; omega)
  ·
    have c0 := of_decide_eq_true b0
    cases b1 : (Decidable.decide (n ≤ (0 : Int)))
    ·
      have c1 := of_decide_eq_false b1
      cases b2 : (Decidable.decide (n ≥ (23456 : Int)))
      ·
        have c2 := of_decide_eq_false b2
        cases b3 : (Decidable.decide (n ≥ (64512 : Int)))
        ·
          have c3 := of_decide_eq_false b3
          cases b4 : (Decidable.decide (n ≥ (4200000000 : Int)))
          ·
            have c4 := of_decide_eq_false b4
            cases b5 : (Decidable.decide (n ≥ (64496 : Int)))
            ·
              have c5 := of_decide_eq_false b5
              cases b6 : (Decidable.decide (n ≥ (65535 : Int)))
              ·
                have c6 := of_decide_eq_false b6
                cases b7 : (Decidable.decide (n ≥ (4294967295 : Int)))
                ·
                  have c7 := of_decide_eq_false b7
                  obtain ⟨st', h⟩ := F43_p1 n ⟨b7, b7, b7, b7, b7, b6, b6, b6, b6, b6, b5, b5, b5, b5, b5, b4, b4, b4, b4, b4, b3, b3, b3, b3, b3, b2, b2, b2, b2, b2, b1, b0, b0, b0, b0, b0, trivial⟩
                  exact ⟨st', h.trans (congrArg (fun v => some (v, st')) (by refine congrArg (Value.int .i64) ?_; unfold kindF; repeat' split <;> omega))⟩
                ·
                  have c7 := of_decide_eq_true b7
                  (exfalso; omega)
              ·
                have c6 := of_decide_eq_true b6
                (exfalso; omega)
            ·
              have c5 := of_decide_eq_true b5
              (exfalso; omega)
          ·
            have c4 := of_decide_eq_true b4
            (exfalso; omega)
        ·
          have c3 := of_decide_eq_true b3
          (exfalso; omega)
      ·
        have c2 := of_decide_eq_true b2
        cases b3 : (Decidable.decide (n ≤ (23456 : Int)))
        ·
          have c3 := of_decide_eq_false b3
          cases b4 : (Decidable.decide (n ≥ (64512 : Int)))
          ·
            have c4 := of_decide_eq_false b4
            cases b5 : (Decidable.decide (n ≥ (4200000000 : Int)))
            ·
              have c5 := of_decide_eq_false b5
              cases b6 : (Decidable.decide (n ≥ (64496 : Int)))
              ·
                have c6 := of_decide_eq_false b6
                cases b7 : (Decidable.decide (n ≥ (65535 : Int)))
                ·
                  have c7 := of_decide_eq_false b7
                  cases b8 : (Decidable.decide (n ≥ (4294967295 : Int)))
                  ·
                    have c8 := of_decide_eq_false b8
                    obtain ⟨st', h⟩ := F43_p3 n ⟨b8, b8, b8, b8, b8, b7, b7, b7, b7, b7, b6, b6, b6, b6, b6, b5, b5, b5, b5, b5, b4, b4, b4, b4, b4, b3, b2, b2, b2, b2, b2, b1, b0, b0, b0, b0, b0, trivial⟩
                    exact ⟨st', h.trans (congrArg (fun v => some (v, st')) (by refine congrArg (Value.int .i64) ?_; unfold kindF; repeat' split <;> omega))⟩
                  ·
                    have c8 := of_decide_eq_true b8
                    (exfalso; omega)
                ·
                  have c7 := of_decide_eq_true b7
                  (exfalso; omega)
              ·
                have c6 := of_decide_eq_true b6
                cases b7 : (Decidable.decide (n ≤ (64511 : Int)))
                ·
                  have c7 := of_decide_eq_false b7
                  (exfalso; omega)
                ·
                  have c7 := of_decide_eq_true b7
                  obtain ⟨st', h⟩ := F43_p4 n ⟨b7, b6, b6, b6, b6, b6, b5, b5, b5, b5, b5, b4, b4, b4, b4, b4, b3, b2, b2, b2, b2, b2, b1, b0, b0, b0, b0, b0, trivial⟩
                  exact ⟨st', h.trans (congrArg (fun v => some (v, st')) (by refine congrArg (Value.int .i64) ?_; unfold kindF; repeat' split <;> omega))⟩
            ·
              have c5 := of_decide_eq_true b5
              (exfalso; omega)
          ·
            have c4 := of_decide_eq_true b4
            cases b5 : (Decidable.decide (n ≤ (65534 : Int)))
            ·
              have c5 := of_decide_eq_false b5
              cases b6 : (Decidable.decide (n ≥ (4200000000 : Int)))
              ·
                have c6 := of_decide_eq_false b6
                cases b7 : (Decidable.decide (n ≥ (64496 : Int)))
                ·
                  have c7 := of_decide_eq_false b7
                  (exfalso; omega)
                ·
                  have c7 := of_decide_eq_true b7
                  cases b8 : (Decidable.decide (n ≤ (64511 : Int)))
                  ·
                    have c8 := of_decide_eq_false b8
                    cases b9 : (Decidable.decide (n ≥ (65535 : Int)))
                    ·
                      have c9 := of_decide_eq_false b9
                      (exfalso; omega)
                    ·
                      have c9 := of_decide_eq_true b9
                      cases b10 : (Decidable.decide (n ≤ (65551 : Int)))
                      ·
                        have c10 := of_decide_eq_false b10
                        cases b11 : (Decidable.decide (n ≥ (4294967295 : Int)))
                        ·
                          have c11 := of_decide_eq_false b11
                          obtain ⟨st', h⟩ := F43_p7 n ⟨b11, b11, b11, b11, b11, b10, b9, b9, b9, b9, b9, b8, b7, b7, b7, b7, b7, b6, b6, b6, b6, b6, b5, b4, b4, b4, b4, b4, b3, b2, b2, b2, b2, b2, b1, b0, b0, b0, b0, b0, trivial⟩
                          exact ⟨st', h.trans (congrArg (fun v => some (v, st')) (by refine congrArg (Value.int .i64) ?_; unfold kindF; repeat' split <;> omega))⟩
                        ·
                          have c11 := of_decide_eq_true b11
                          (exfalso; omega)
                      ·
                        have c10 := of_decide_eq_true b10
                        obtain ⟨st', h⟩ := F43_p6 n ⟨b10, b9, b9, b9, b9, b9, b8, b7, b7, b7, b7, b7, b6, b6, b6, b6, b6, b5, b4, b4, b4, b4, b4, b3, b2, b2, b2, b2, b2, b1, b0, b0, b0, b0, b0, trivial⟩
                        exact ⟨st', h.trans (congrArg (fun v => some (v, st')) (by refine congrArg (Value.int .i64) ?_; unfold kindF; repeat' split <;> omega))⟩
                  ·
                    have c8 := of_decide_eq_true b8
                    (exfalso; omega)
              ·
                have c6 := of_decide_eq_true b6
                cases b7 : (Decidable.decide (n ≤ (4294967294 : Int)))
                ·
                  have c7 := of_decide_eq_false b7
                  cases b8 : (Decidable.decide (n ≥ (64496 : Int)))
                  ·
                    have c8 := of_decide_eq_false b8
                    (exfalso; omega)
                  ·
                    have c8 := of_decide_eq_true b8
                    cases b9 : (Decidable.decide (n ≤ (64511 : Int)))
                    ·
                      have c9 := of_decide_eq_false b9
                      cases b10 : (Decidable.decide (n ≥ (65535 : Int)))
                      ·
                        have c10 := of_decide_eq_false b10
                        (exfalso; omega)
                      ·
                        have c10 := of_decide_eq_true b10
                        cases b11 : (Decidable.decide (n ≤ (65551 : Int)))
                        ·
                          have c11 := of_decide_eq_false b11
                          cases b12 : (Decidable.decide (n ≥ (4294967295 : Int)))
                          ·
                            have c12 := of_decide_eq_false b12
                            (exfalso; omega)
                          ·
                            have c12 := of_decide_eq_true b12
                            cases b13 : (Decidable.decide (n ≤ (4294967295 : Int)))
                            ·
                              have c13 := of_decide_eq_false b13
                              (exfalso; omega)
                            ·
                              have c13 := of_decide_eq_true b13
                              obtain ⟨st', h⟩ := F43_p9 n ⟨b13, b12, b12, b12, b12, b12, b11, b10, b10, b10, b10, b10, b9, b8, b8, b8, b8, b8, b7, b6, b6, b6, b6, b6, b5, b4, b4, b4, b4, b4, b3, b2, b2, b2, b2, b2, b1, b0, b0, b0, b0, b0, trivial⟩
                              exact ⟨st', h.trans (congrArg (fun v => some (v, st')) (by refine congrArg (Value.int .i64) ?_; unfold kindF; repeat' split <;> omega))⟩
                        ·
                          have c11 := of_decide_eq_true b11
                          (exfalso; omega)
                    ·
                      have c9 := of_decide_eq_true b9
                      (exfalso; omega)
                ·
                  have c7 := of_decide_eq_true b7
                  obtain ⟨st', h⟩ := F43_p8 n ⟨b7, b6, b6, b6, b6, b6, b5, b4, b4, b4, b4, b4, b3, b2, b2, b2, b2, b2, b1, b0, b0, b0, b0, b0, trivial⟩
                  exact ⟨st', h.trans (congrArg (fun v => some (v, st')) (by refine congrArg (Value.int .i64) ?_; unfold kindF; repeat' split <;> omega))⟩
            ·
              have c5 := of_decide_eq_true b5
              obtain ⟨st', h⟩ := F43_p5 n ⟨b5, b4, b4, b4, b4, b4, b3, b2, b2, b2, b2, b2, b1, b0, b0, b0, b0, b0, trivial⟩
              exact ⟨st', h.trans (congrArg (fun v => some (v, st')) (by refine congrArg (Value.int .i64) ?_; unfold kindF; repeat' split <;> omega))⟩
        ·
          have c3 := of_decide_eq_true b3
          obtain ⟨st', h⟩ := F43_p2 n ⟨b3, b2, b2, b2, b2, b2, b1, b0, b0, b0, b0, b0, trivial⟩
          exact ⟨st', h.trans (congrArg (fun v => some (v, st')) (by refine congrArg (Value.int .i64) ?_; unfold kindF; repeat' split <;> omega))⟩
    ·
      have c1 := of_decide_eq_true b1
      obtain ⟨st', h⟩ := F43_p0 n ⟨b1, b0, b0, b0, b0, b0, trivial⟩
      exact ⟨st', h.trans (congrArg (fun v => some (v, st')) (by refine congrArg (Value.int .i64) ?_; unfold kindF; repeat' split <;> omega))⟩
theorem F44_p0 (n : Int) (h : Holds [(n == (0 : Int)) = true]) : ∃ st', Go.Ai.call cx ov0 1000 44 [.int .u32 n] ⟨keepIds st0.hp [], st0.ct⟩ = some (Go.Value.int Go.IntKind.i64 (1 : Int), st') :=
  path_call ref0 (toks := [.yes]) (by kernel_rfl) h
theorem F44_p1 (n : Int) (h : Holds [(n == (4294967295 : Int)) = false, (Decidable.decide (n ≥ (65535 : Int))) = false, (Decidable.decide (n ≥ (65535 : Int))) = false, (Decidable.decide (n ≥ (65535 : Int))) = false, (Decidable.decide (n ≥ (64496 : Int))) = false, (Decidable.decide (n ≥ (64496 : Int))) = false, (Decidable.decide (n ≥ (64496 : Int))) = false, (Decidable.decide (n ≥ (4200000000 : Int))) = false, (Decidable.decide (n ≥ (4200000000 : Int))) = false, (Decidable.decide (n ≥ (4200000000 : Int))) = false, (Decidable.decide (n ≥ (64512 : Int))) = false, (Decidable.decide (n ≥ (64512 : Int))) = false, (Decidable.decide (n ≥ (64512 : Int))) = false, (n == (23456 : Int)) = false, (n == (0 : Int)) = false]) : ∃ st', Go.Ai.call cx ov0 1000 44 [.int .u32 n] ⟨keepIds st0.hp [], st0.ct⟩ = some (Go.Value.int Go.IntKind.i64 (5 : Int), st') :=
  path_call ref0 (toks := [.no, .no, .no, .no, .no, .ev, .ev, .ev, .no, .no, .ev, .no, .ev, .ev, .no, .no, .no, .ev, .ev, .ev, .no, .no, .ev, .no, .ev, .ev, .ev, .ev, .no]) (by kernel_rfl) h
theorem F44_p2 (n : Int) (h : Holds [(n == (23456 : Int)) = true, (n == (0 : Int)) = false]) : ∃ st', Go.Ai.call cx ov0 1000 44 [.int .u32 n] ⟨keepIds st0.hp [], st0.ct⟩ = some (Go.Value.int Go.IntKind.i64 (2 : Int), st') :=
  path_call ref0 (toks := [.no, .yes]) (by kernel_rfl) h
theorem F44_p3 (n : Int) (h : Holds [(Decidable.decide (n ≤ (64511 : Int))) = true, (Decidable.decide (n ≤ (64511 : Int))) = true, (Decidable.decide (n ≤ (64511 : Int))) = true, (Decidable.decide (n ≤ (64511 : Int))) = true, (Decidable.decide (n ≤ (64511 : Int))) = true, (Decidable.decide (n ≥ (64496 : Int))) = true, (Decidable.decide (n ≥ (64496 : Int))) = true, (Decidable.decide (n ≥ (64496 : Int))) = true, (Decidable.decide (n ≥ (4200000000 : Int))) = false, (Decidable.decide (n ≥ (4200000000 : Int))) = false, (Decidable.decide (n ≥ (4200000000 : Int))) = false, (Decidable.decide (n ≥ (64512 : Int))) = false, (Decidable.decide (n ≥ (64512 : Int))) = false, (Decidable.decide (n ≥ (64512 : Int))) = false, (n == (23456 : Int)) = false, (n == (0 : Int)) = false]) : ∃ st', Go.Ai.call cx ov0 1000 44 [.int .u32 n] ⟨keepIds st0.hp [], st0.ct⟩ = some (Go.Value.int Go.IntKind.i64 (4 : Int), st') :=
  path_call ref0 (toks := [.no, .no, .no, .no, .no, .ev, .ev, .ev, .no, .no, .ev, .no, .ev, .ev, .yes, .yes, .yes, .yes, .yes, .yes, .yes, .yes, .ev, .ev, .ev, .ev]) (by kernel_rfl) h
theorem F44_p4 (n : Int) (h : Holds [(Decidable.decide (n ≤ (65534 : Int))) = true, (Decidable.decide (n ≤ (65534 : Int))) = true, (Decidable.decide (n ≤ (65534 : Int))) = true, (Decidable.decide (n ≤ (65534 : Int))) = true, (Decidable.decide (n ≤ (65534 : Int))) = true, (Decidable.decide (n ≥ (64512 : Int))) = true, (Decidable.decide (n ≥ (64512 : Int))) = true, (Decidable.decide (n ≥ (64512 : Int))) = true, (n == (23456 : Int)) = false, (n == (0 : Int)) = false]) : ∃ st', Go.Ai.call cx ov0 1000 44 [.int .u32 n] ⟨keepIds st0.hp [], st0.ct⟩ = some (Go.Value.int Go.IntKind.i64 (3 : Int), st') :=
  path_call ref0 (toks := [.no, .no, .yes, .yes, .yes, .yes, .yes, .yes, .yes, .yes, .ev]) (by kernel_rfl) h
theorem F44_p5 (n : Int) (h : Holds [(Decidable.decide (n ≤ (65551 : Int))) = true, (Decidable.decide (n ≤ (65551 : Int))) = true, (Decidable.decide (n ≤ (65551 : Int))) = true, (Decidable.decide (n ≤ (64511 : Int))) = false, (Decidable.decide (n ≥ (65535 : Int))) = true, (Decidable.decide (n ≤ (64511 : Int))) = false, (Decidable.decide (n ≥ (65535 : Int))) = true, (Decidable.decide (n ≥ (65535 : Int))) = true, (Decidable.decide (n ≤ (64511 : Int))) = false, (Decidable.decide (n ≤ (64511 : Int))) = false, (Decidable.decide (n ≤ (64511 : Int))) = false, (Decidable.decide (n ≥ (64496 : Int))) = true, (Decidable.decide (n ≥ (64496 : Int))) = true, (Decidable.decide (n ≥ (64496 : Int))) = true, (Decidable.decide (n ≤ (65534 : Int))) = false, (Decidable.decide (n ≥ (4200000000 : Int))) = false, (Decidable.decide (n ≤ (65534 : Int))) = false, (Decidable.decide (n ≥ (4200000000 : Int))) = false, (Decidable.decide (n ≥ (4200000000 : Int))) = false, (Decidable.decide (n ≤ (65534 : Int))) = false, (Decidable.decide (n ≤ (65534 : Int))) = false, (Decidable.decide (n ≤ (65534 : Int))) = false, (Decidable.decide (n ≥ (64512 : Int))) = true, (Decidable.decide (n ≥ (64512 : Int))) = true, (Decidable.decide (n ≥ (64512 : Int))) = true, (n == (23456 : Int)) = false, (n == (0 : Int)) = false]) : ∃ st', Go.Ai.call cx ov0 1000 44 [.int .u32 n] ⟨keepIds st0.hp [], st0.ct⟩ = some (Go.Value.int Go.IntKind.i64 (4 : Int), st') :=
  path_call ref0 (toks := [.no, .no, .yes, .yes, .yes, .no, .no, .no, .no, .no, .no, .no, .no, .ev, .yes, .yes, .yes, .no, .no, .no, .yes, .yes, .no, .yes, .no, .yes, .yes, .yes, .ev]) (by kernel_rfl) h
theorem F44_p6 (n : Int) (h : Holds [(n == (4294967295 : Int)) = false, (Decidable.decide (n ≤ (65551 : Int))) = false, (Decidable.decide (n ≤ (65551 : Int))) = false, (Decidable.decide (n ≤ (65551 : Int))) = false, (Decidable.decide (n ≤ (64511 : Int))) = false, (Decidable.decide (n ≥ (65535 : Int))) = true, (Decidable.decide (n ≤ (64511 : Int))) = false, (Decidable.decide (n ≥ (65535 : Int))) = true, (Decidable.decide (n ≥ (65535 : Int))) = true, (Decidable.decide (n ≤ (64511 : Int))) = false, (Decidable.decide (n ≤ (64511 : Int))) = false, (Decidable.decide (n ≤ (64511 : Int))) = false, (Decidable.decide (n ≥ (64496 : Int))) = true, (Decidable.decide (n ≥ (64496 : Int))) = true, (Decidable.decide (n ≥ (64496 : Int))) = true, (Decidable.decide (n ≤ (65534 : Int))) = false, (Decidable.decide (n ≥ (4200000000 : Int))) = false, (Decidable.decide (n ≤ (65534 : Int))) = false, (Decidable.decide (n ≥ (4200000000 : Int))) = false, (Decidable.decide (n ≥ (4200000000 : Int))) = false, (Decidable.decide (n ≤ (65534 : Int))) = false, (Decidable.decide (n ≤ (65534 : Int))) = false, (Decidable.decide (n ≤ (65534 : Int))) = false, (Decidable.decide (n ≥ (64512 : Int))) = true, (Decidable.decide (n ≥ (64512 : Int))) = true, (Decidable.decide (n ≥ (64512 : Int))) = true, (n == (23456 : Int)) = false, (n == (0 : Int)) = false]) : ∃ st', Go.Ai.call cx ov0 1000 44 [.int .u32 n] ⟨keepIds st0.hp [], st0.ct⟩ = some (Go.Value.int Go.IntKind.i64 (5 : Int), st') :=
  path_call ref0 (toks := [.no, .no, .yes, .yes, .yes, .no, .no, .no, .no, .no, .no, .no, .no, .ev, .yes, .yes, .yes, .no, .no, .no, .yes, .yes, .no, .yes, .no, .no, .no, .no, .no]) (by kernel_rfl) h
theorem F44_p7 (n : Int) (h : Holds [(Decidable.decide (n ≤ (4294967294 : Int))) = true, (Decidable.decide (n ≤ (65534 : Int))) = false, (Decidable.decide (n ≥ (4200000000 : Int))) = true, (Decidable.decide (n ≤ (65534 : Int))) = false, (Decidable.decide (n ≥ (4200000000 : Int))) = true, (Decidable.decide (n ≥ (4200000000 : Int))) = true, (Decidable.decide (n ≤ (65534 : Int))) = false, (Decidable.decide (n ≤ (65534 : Int))) = false, (Decidable.decide (n ≤ (65534 : Int))) = false, (Decidable.decide (n ≥ (64512 : Int))) = true, (Decidable.decide (n ≥ (64512 : Int))) = true, (Decidable.decide (n ≥ (64512 : Int))) = true, (n == (23456 : Int)) = false, (n == (0 : Int)) = false]) : ∃ st', Go.Ai.call cx ov0 1000 44 [.int .u32 n] ⟨keepIds st0.hp [], st0.ct⟩ = some (Go.Value.int Go.IntKind.i64 (3 : Int), st') :=
  path_call ref0 (toks := [.no, .no, .yes, .yes, .yes, .no, .no, .no, .yes, .yes, .no, .yes, .no, .yes]) (by kernel_rfl) h
theorem F44_p8 (n : Int) (h : Holds [(n == (4294967295 : Int)) = true, (Decidable.decide (n ≤ (65551 : Int))) = false, (Decidable.decide (n ≤ (65551 : Int))) = false, (Decidable.decide (n ≤ (65551 : Int))) = false, (Decidable.decide (n ≤ (64511 : Int))) = false, (Decidable.decide (n ≥ (65535 : Int))) = true, (Decidable.decide (n ≤ (64511 : Int))) = false, (Decidable.decide (n ≥ (65535 : Int))) = true, (Decidable.decide (n ≥ (65535 : Int))) = true, (Decidable.decide (n ≤ (64511 : Int))) = false, (Decidable.decide (n ≤ (64511 : Int))) = false, (Decidable.decide (n ≤ (64511 : Int))) = false, (Decidable.decide (n ≥ (64496 : Int))) = true, (Decidable.decide (n ≥ (64496 : Int))) = true, (Decidable.decide (n ≥ (64496 : Int))) = true, (Decidable.decide (n ≤ (4294967294 : Int))) = false, (Decidable.decide (n ≤ (65534 : Int))) = false, (Decidable.decide (n ≥ (4200000000 : Int))) = true, (Decidable.decide (n ≤ (65534 : Int))) = false, (Decidable.decide (n ≥ (4200000000 : Int))) = true, (Decidable.decide (n ≥ (4200000000 : Int))) = true, (Decidable.decide (n ≤ (65534 : Int))) = false, (Decidable.decide (n ≤ (65534 : Int))) = false, (Decidable.decide (n ≤ (65534 : Int))) = false, (Decidable.decide (n ≥ (64512 : Int))) = true, (Decidable.decide (n ≥ (64512 : Int))) = true, (Decidable.decide (n ≥ (64512 : Int))) = true, (n == (23456 : Int)) = false, (n == (0 : Int)) = false]) : ∃ st', Go.Ai.call cx ov0 1000 44 [.int .u32 n] ⟨keepIds st0.hp [], st0.ct⟩ = some (Go.Value.int Go.IntKind.i64 (4 : Int), st') :=
  path_call ref0 (toks := [.no, .no, .yes, .yes, .yes, .no, .no, .no, .yes, .yes, .no, .yes, .no, .no, .yes, .yes, .yes, .no, .no, .no, .yes, .yes, .no, .yes, .no, .no, .no, .no, .yes]) (by kernel_rfl) h
theorem F44_all (n : Int) (h0 : 0 ≤ n) (h1 : n < 4294967296) : ∃ st', Go.Ai.call cx ov0 1000 44 [.int .u32 n] ⟨keepIds st0.hp [], st0.ct⟩ = some (.int .i64 (kindF n), st') := by
  cases b0 : (n == (0 : Int))
  ·
    have c0 := int_beq_false b0
    cases b1 : (n == (23456 : Int))
    ·
      have c1 := int_beq_false b1
      cases b2 : (Decidable.decide (n ≥ (64512 : Int)))
      ·
        have c2 := of_decide_eq_false b2
        cases b3 : (Decidable.decide (n ≥ (4200000000 : Int)))
        ·
          have c3 := of_decide_eq_false b3
          cases b4 : (Decidable.decide (n ≥ (64496 : Int)))
          ·
            have c4 := of_decide_eq_false b4
            cases b5 : (Decidable.decide (n ≥ (65535 : Int)))
            ·
              have c5 := of_decide_eq_false b5
              cases b6 : (n == (4294967295 : Int))
              ·
                have c6 := int_beq_false b6
                obtain ⟨st', h⟩ := F44_p1 n ⟨b6, b5, b5, b5, b4, b4, b4, b3, b3, b3, b2, b2, b2, b1, b0, trivial⟩
                exact ⟨st', h.trans (congrArg (fun v => some (v, st')) (by refine congrArg (Value.int .i64) ?_; unfold kindF; repeat' split <;> omega))⟩
              ·
                have c6 := int_beq_true b6
                (exfalso; omega)
            ·
              have c5 := of_decide_eq_true b5
              (exfalso; omega)
          ·
            have c4 := of_decide_eq_true b4
            cases b5 : (Decidable.decide (n ≤ (64511 : Int)))
            ·
              have c5 := of_decide_eq_false b5
              (exfalso; omega)
            ·
              have c5 := of_decide_eq_true b5
              obtain ⟨st', h⟩ := F44_p3 n ⟨b5, b5, b5, b5, b5, b4, b4, b4, b3, b3, b3, b2, b2, b2, b1, b0, trivial⟩
              exact ⟨st', h.trans (congrArg (fun v => some (v, st')) (by refine congrArg (Value.int .i64) ?_; unfold kindF; repeat' split <;> omega))⟩
        ·
          have c3 := of_decide_eq_true b3
          (exfalso; omega)
      ·
        have c2 := of_decide_eq_true b2
        cases b3 : (Decidable.decide (n ≤ (65534 : Int)))
        ·
          have c3 := of_decide_eq_false b3
          cases b4 : (Decidable.decide (n ≥ (4200000000 : Int)))
          ·
            have c4 := of_decide_eq_false b4
            cases b5 : (Decidable.decide (n ≥ (64496 : Int)))
            ·
              have c5 := of_decide_eq_false b5
              (exfalso; omega)
            ·
              have c5 := of_decide_eq_true b5
              cases b6 : (Decidable.decide (n ≤ (64511 : Int)))
              ·
                have c6 := of_decide_eq_false b6
                cases b7 : (Decidable.decide (n ≥ (65535 : Int)))
                ·
                  have c7 := of_decide_eq_false b7
                  (exfalso; omega)
                ·
                  have c7 := of_decide_eq_true b7
                  cases b8 : (Decidable.decide (n ≤ (65551 : Int)))
                  ·
                    have c8 := of_decide_eq_false b8
                    cases b9 : (n == (4294967295 : Int))
                    ·
                      have c9 := int_beq_false b9
                      obtain ⟨st', h⟩ := F44_p6 n ⟨b9, b8, b8, b8, b6, b7, b6, b7, b7, b6, b6, b6, b5, b5, b5, b3, b4, b3, b4, b4, b3, b3, b3, b2, b2, b2, b1, b0, trivial⟩
                      exact ⟨st', h.trans (congrArg (fun v => some (v, st')) (by refine congrArg (Value.int .i64) ?_; unfold kindF; repeat' split <;> omega))⟩
                    ·
                      have c9 := int_beq_true b9
                      (exfalso; omega)
                  ·
                    have c8 := of_decide_eq_true b8
                    obtain ⟨st', h⟩ := F44_p5 n ⟨b8, b8, b8, b6, b7, b6, b7, b7, b6, b6, b6, b5, b5, b5, b3, b4, b3, b4, b4, b3, b3, b3, b2, b2, b2, b1, b0, trivial⟩
                    exact ⟨st', h.trans (congrArg (fun v => some (v, st')) (by refine congrArg (Value.int .i64) ?_; unfold kindF; repeat' split <;> omega))⟩
              ·
                have c6 := of_decide_eq_true b6
                (exfalso; omega)
          ·
            have c4 := of_decide_eq_true b4
            cases b5 : (Decidable.decide (n ≤ (4294967294 : Int)))
            ·
              have c5 := of_decide_eq_false b5
              cases b6 : (Decidable.decide (n ≥ (64496 : Int)))
              ·
                have c6 := of_decide_eq_false b6
                (exfalso; omega)
              ·
                have c6 := of_decide_eq_true b6
                cases b7 : (Decidable.decide (n ≤ (64511 : Int)))
                ·
                  have c7 := of_decide_eq_false b7
                  cases b8 : (Decidable.decide (n ≥ (65535 : Int)))
                  ·
                    have c8 := of_decide_eq_false b8
                    (exfalso; omega)
                  ·
                    have c8 := of_decide_eq_true b8
                    cases b9 : (Decidable.decide (n ≤ (65551 : Int)))
                    ·
                      have c9 := of_decide_eq_false b9
                      cases b10 : (n == (4294967295 : Int))
                      ·
                        have c10 := int_beq_false b10
                        (exfalso; omega)
                      ·
                        have c10 := int_beq_true b10
                        obtain ⟨st', h⟩ := F44_p8 n ⟨b10, b9, b9, b9, b7, b8, b7, b8, b8, b7, b7, b7, b6, b6, b6, b5, b3, b4, b3, b4, b4, b3, b3, b3, b2, b2, b2, b1, b0, trivial⟩
                        exact ⟨st', h.trans (congrArg (fun v => some (v, st')) (by refine congrArg (Value.int .i64) ?_; unfold kindF; repeat' split <;> omega))⟩
                    ·
                      have c9 := of_decide_eq_true b9
                      (exfalso; omega)
                ·
                  have c7 := of_decide_eq_true b7
                  (exfalso; omega)
            ·
              have c5 := of_decide_eq_true b5
              obtain ⟨st', h⟩ := F44_p7 n ⟨b5, b3, b4, b3, b4, b4, b3, b3, b3, b2, b2, b2, b1, b0, trivial⟩
              exact ⟨st', h.trans (congrArg (fun v => some (v, st')) (by refine congrArg (Value.int .i64) ?_; unfold kindF; repeat' split <;> omega))⟩
        ·
          have c3 := of_decide_eq_true b3
          obtain ⟨st', h⟩ := F44_p4 n ⟨b3, b3, b3, b3, b3, b2, b2, b2, b1, b0, trivial⟩
          exact ⟨st', h.trans (congrArg (fun v => some (v, st')) (by refine congrArg (Value.int .i64) ?_; unfold kindF; repeat' split <;> omega))⟩
    ·
      have c1 := int_beq_true b1
      obtain ⟨st', h⟩ := F44_p2 n ⟨b1, b0, trivial⟩
      exact ⟨st', h.trans (congrArg (fun v => some (v, st')) (by refine congrArg (Value.int .i64) ?_; unfold kindF; repeat' split <;> omega))⟩
  ·
    have c0 := int_beq_true b0
    obtain ⟨st', h⟩ := F44_p0 n ⟨b0, trivial⟩
    exact ⟨st', h.trans (congrArg (fun v => some (v, st')) (by refine congrArg (Value.int .i64) ?_; unfold kindF; repeat' split <;> omega))⟩
theorem F124_p0 (n : Int) (h : Holds [(Decidable.decide ((-9223372036854775808 : Int) ≤ (0 : Int) + Go.Ai.byteAt Go.Proofs.YtgmojlibppmfhaaDoor.len8 n.toNat ∧ (0 : Int) + Go.Ai.byteAt Go.Proofs.YtgmojlibppmfhaaDoor.len8 n.toNat ≤ (9223372036854775807 : Int))) = true, (Decidable.decide ((-9223372036854775808 : Int) ≤ Go.Ai.byteAt Go.Proofs.YtgmojlibppmfhaaDoor.len8 n.toNat ∧ Go.Ai.byteAt Go.Proofs.YtgmojlibppmfhaaDoor.len8 n.toNat ≤ (9223372036854775807 : Int))) = true, (Decidable.decide ((0 : Int) ≤ n ∧ n < (256 : Int))) = true, (Decidable.decide ((0 : Int) ≤ n ∧ n ≤ (255 : Int))) = true, (Decidable.decide (n ≥ (256 : Int))) = false, (Decidable.decide (n ≥ (65536 : Int))) = false, (Decidable.decide (n ≥ (4294967296 : Int))) = false]) : ∃ st', Go.Ai.call cx ov0 1000 124 [.int .u64 n] ⟨keepIds st0.hp [], st0.ct⟩ = some (Go.Value.int Go.IntKind.i64 ((0 : Int) + Go.Ai.byteAt Go.Proofs.YtgmojlibppmfhaaDoor.len8 n.toNat), st') :=
  path_call ref0 (toks := [.no, .no, .no, .yes, .yes, .yes, .yes]) (by kernel_rfl) h
theorem F124_p1 (n : Int) (h : Holds [(Decidable.decide ((-9223372036854775808 : Int) ≤ (8 : Int) + Go.Ai.byteAt Go.Proofs.YtgmojlibppmfhaaDoor.len8 (n / (256 : Int)).toNat ∧ (8 : Int) + Go.Ai.byteAt Go.Proofs.YtgmojlibppmfhaaDoor.len8 (n / (256 : Int)).toNat ≤ (9223372036854775807 : Int))) = true, (Decidable.decide ((-9223372036854775808 : Int) ≤ Go.Ai.byteAt Go.Proofs.YtgmojlibppmfhaaDoor.len8 (n / (256 : Int)).toNat ∧ Go.Ai.byteAt Go.Proofs.YtgmojlibppmfhaaDoor.len8 (n / (256 : Int)).toNat ≤ (9223372036854775807 : Int))) = true, (Decidable.decide ((0 : Int) ≤ n / (256 : Int) ∧ n / (256 : Int) < (256 : Int))) = true, (Decidable.decide ((0 : Int) ≤ n / (256 : Int) ∧ n / (256 : Int) ≤ (255 : Int))) = true, (Decidable.decide (n ≥ (256 : Int))) = true, (Decidable.decide (n ≥ (65536 : Int))) = false, (Decidable.decide (n ≥ (4294967296 : Int))) = false]) : ∃ st', Go.Ai.call cx ov0 1000 124 [.int .u64 n] ⟨keepIds st0.hp [], st0.ct⟩ = some (Go.Value.int Go.IntKind.i64 ((8 : Int) + Go.Ai.byteAt Go.Proofs.YtgmojlibppmfhaaDoor.len8 (n / (256 : Int)).toNat), st') :=
  path_call ref0 (toks := [.no, .no, .yes, .ev, .ev, .yes, .yes, .yes, .yes]) (by kernel_rfl) h
theorem F124_p2 (n : Int) (h : Holds [(Decidable.decide ((-9223372036854775808 : Int) ≤ (16 : Int) + Go.Ai.byteAt Go.Proofs.YtgmojlibppmfhaaDoor.len8 (n / (65536 : Int)).toNat ∧ (16 : Int) + Go.Ai.byteAt Go.Proofs.YtgmojlibppmfhaaDoor.len8 (n / (65536 : Int)).toNat ≤ (9223372036854775807 : Int))) = true, (Decidable.decide ((-9223372036854775808 : Int) ≤ Go.Ai.byteAt Go.Proofs.YtgmojlibppmfhaaDoor.len8 (n / (65536 : Int)).toNat ∧ Go.Ai.byteAt Go.Proofs.YtgmojlibppmfhaaDoor.len8 (n / (65536 : Int)).toNat ≤ (9223372036854775807 : Int))) = true, (Decidable.decide ((0 : Int) ≤ n / (65536 : Int) ∧ n / (65536 : Int) < (256 : Int))) = true, (Decidable.decide ((0 : Int) ≤ n / (65536 : Int) ∧ n / (65536 : Int) ≤ (255 : Int))) = true, (Decidable.decide (n / (65536 : Int) ≥ (256 : Int))) = false, (Decidable.decide (n ≥ (65536 : Int))) = true, (Decidable.decide (n ≥ (4294967296 : Int))) = false]) : ∃ st', Go.Ai.call cx ov0 1000 124 [.int .u64 n] ⟨keepIds st0.hp [], st0.ct⟩ = some (Go.Value.int Go.IntKind.i64 ((16 : Int) + Go.Ai.byteAt Go.Proofs.YtgmojlibppmfhaaDoor.len8 (n / (65536 : Int)).toNat), st') :=
  path_call ref0 (toks := [.no, .yes, .ev, .ev, .no, .yes, .yes, .yes, .yes]) (by kernel_rfl) h
theorem F124_p3 (n : Int) (h : Holds [(Decidable.decide ((-9223372036854775808 : Int) ≤ (24 : Int) + Go.Ai.byteAt Go.Proofs.YtgmojlibppmfhaaDoor.len8 (n / (65536 : Int) / (256 : Int)).toNat ∧ (24 : Int) + Go.Ai.byteAt Go.Proofs.YtgmojlibppmfhaaDoor.len8 (n / (65536 : Int) / (256 : Int)).toNat ≤ (9223372036854775807 : Int))) = true, (Decidable.decide ((-9223372036854775808 : Int) ≤ Go.Ai.byteAt Go.Proofs.YtgmojlibppmfhaaDoor.len8 (n / (65536 : Int) / (256 : Int)).toNat ∧ Go.Ai.byteAt Go.Proofs.YtgmojlibppmfhaaDoor.len8 (n / (65536 : Int) / (256 : Int)).toNat ≤ (9223372036854775807 : Int))) = true, (Decidable.decide ((0 : Int) ≤ n / (65536 : Int) / (256 : Int) ∧ n / (65536 : Int) / (256 : Int) < (256 : Int))) = true, (Decidable.decide ((0 : Int) ≤ n / (65536 : Int) / (256 : Int) ∧ n / (65536 : Int) / (256 : Int) ≤ (255 : Int))) = true, (Decidable.decide (n / (65536 : Int) ≥ (256 : Int))) = true, (Decidable.decide (n ≥ (65536 : Int))) = true, (Decidable.decide (n ≥ (4294967296 : Int))) = false]) : ∃ st', Go.Ai.call cx ov0 1000 124 [.int .u64 n] ⟨keepIds st0.hp [], st0.ct⟩ = some (Go.Value.int Go.IntKind.i64 ((24 : Int) + Go.Ai.byteAt Go.Proofs.YtgmojlibppmfhaaDoor.len8 (n / (65536 : Int) / (256 : Int)).toNat), st') :=
  path_call ref0 (toks := [.no, .yes, .ev, .ev, .yes, .ev, .ev, .yes, .yes, .yes, .yes]) (by kernel_rfl) h
theorem F124_all (n : Int) (h0 : 0 ≤ n) (h1 : n < 4294967296) : ∃ st', Go.Ai.call cx ov0 1000 124 [.int .u64 n] ⟨keepIds st0.hp [], st0.ct⟩ = some (.int .i64 (lenF n), st') := by
  have r0 := byteAt_range len8 n.toNat; have r1 := byteAt_range len8 (n / 256).toNat; have r2 := byteAt_range len8 (n / 65536).toNat; have r3 := byteAt_range len8 (n / 65536 / 256).toNat
  cases b0 : (Decidable.decide (n ≥ (4294967296 : Int)))
  ·
    have c0 := of_decide_eq_false b0
    cases b1 : (Decidable.decide (n ≥ (65536 : Int)))
    ·
      have c1 := of_decide_eq_false b1
      cases b2 : (Decidable.decide (n ≥ (256 : Int)))
      ·
        have c2 := of_decide_eq_false b2
        cases b3 : (Decidable.decide ((0 : Int) ≤ n ∧ n ≤ (255 : Int)))
        ·
          have c3 := of_decide_eq_false b3
          (exfalso; omega)
        ·
          have c3 := of_decide_eq_true b3
          cases b4 : (Decidable.decide ((0 : Int) ≤ n ∧ n < (256 : Int)))
          ·
            have c4 := of_decide_eq_false b4
            (exfalso; omega)
          ·
            have c4 := of_decide_eq_true b4
            cases b5 : (Decidable.decide ((-9223372036854775808 : Int) ≤ Go.Ai.byteAt Go.Proofs.YtgmojlibppmfhaaDoor.len8 n.toNat ∧ Go.Ai.byteAt Go.Proofs.YtgmojlibppmfhaaDoor.len8 n.toNat ≤ (9223372036854775807 : Int)))
            ·
              have c5 := of_decide_eq_false b5
              (exfalso; omega)
            ·
              have c5 := of_decide_eq_true b5
              cases b6 : (Decidable.decide ((-9223372036854775808 : Int) ≤ (0 : Int) + Go.Ai.byteAt Go.Proofs.YtgmojlibppmfhaaDoor.len8 n.toNat ∧ (0 : Int) + Go.Ai.byteAt Go.Proofs.YtgmojlibppmfhaaDoor.len8 n.toNat ≤ (9223372036854775807 : Int)))
              ·
                have c6 := of_decide_eq_false b6
                (exfalso; omega)
              ·
                have c6 := of_decide_eq_true b6
                obtain ⟨st', h⟩ := F124_p0 n ⟨b6, b5, b4, b3, b2, b1, b0, trivial⟩
                exact ⟨st', h.trans (congrArg (fun v => some (v, st')) (by refine congrArg (Value.int .i64) ?_; rw [len8_is n (by omega) (by omega)]; omega))⟩
      ·
        have c2 := of_decide_eq_true b2
        cases b3 : (Decidable.decide ((0 : Int) ≤ n / (256 : Int) ∧ n / (256 : Int) ≤ (255 : Int)))
        ·
          have c3 := of_decide_eq_false b3
          (exfalso; omega)
        ·
          have c3 := of_decide_eq_true b3
          cases b4 : (Decidable.decide ((0 : Int) ≤ n / (256 : Int) ∧ n / (256 : Int) < (256 : Int)))
          ·
            have c4 := of_decide_eq_false b4
            (exfalso; omega)
          ·
            have c4 := of_decide_eq_true b4
            cases b5 : (Decidable.decide ((-9223372036854775808 : Int) ≤ Go.Ai.byteAt Go.Proofs.YtgmojlibppmfhaaDoor.len8 (n / (256 : Int)).toNat ∧ Go.Ai.byteAt Go.Proofs.YtgmojlibppmfhaaDoor.len8 (n / (256 : Int)).toNat ≤ (9223372036854775807 : Int)))
            ·
              have c5 := of_decide_eq_false b5
              (exfalso; omega)
            ·
              have c5 := of_decide_eq_true b5
              cases b6 : (Decidable.decide ((-9223372036854775808 : Int) ≤ (8 : Int) + Go.Ai.byteAt Go.Proofs.YtgmojlibppmfhaaDoor.len8 (n / (256 : Int)).toNat ∧ (8 : Int) + Go.Ai.byteAt Go.Proofs.YtgmojlibppmfhaaDoor.len8 (n / (256 : Int)).toNat ≤ (9223372036854775807 : Int)))
              ·
                have c6 := of_decide_eq_false b6
                (exfalso; omega)
              ·
                have c6 := of_decide_eq_true b6
                obtain ⟨st', h⟩ := F124_p1 n ⟨b6, b5, b4, b3, b2, b1, b0, trivial⟩
                exact ⟨st', h.trans (congrArg (fun v => some (v, st')) (by refine congrArg (Value.int .i64) ?_; rw [len8_is (n / 256) (by omega) (by omega), lenF_8 (x := n) (by omega) (by omega)]))⟩
    ·
      have c1 := of_decide_eq_true b1
      cases b2 : (Decidable.decide (n / (65536 : Int) ≥ (256 : Int)))
      ·
        have c2 := of_decide_eq_false b2
        cases b3 : (Decidable.decide ((0 : Int) ≤ n / (65536 : Int) ∧ n / (65536 : Int) ≤ (255 : Int)))
        ·
          have c3 := of_decide_eq_false b3
          (exfalso; omega)
        ·
          have c3 := of_decide_eq_true b3
          cases b4 : (Decidable.decide ((0 : Int) ≤ n / (65536 : Int) ∧ n / (65536 : Int) < (256 : Int)))
          ·
            have c4 := of_decide_eq_false b4
            (exfalso; omega)
          ·
            have c4 := of_decide_eq_true b4
            cases b5 : (Decidable.decide ((-9223372036854775808 : Int) ≤ Go.Ai.byteAt Go.Proofs.YtgmojlibppmfhaaDoor.len8 (n / (65536 : Int)).toNat ∧ Go.Ai.byteAt Go.Proofs.YtgmojlibppmfhaaDoor.len8 (n / (65536 : Int)).toNat ≤ (9223372036854775807 : Int)))
            ·
              have c5 := of_decide_eq_false b5
              (exfalso; omega)
            ·
              have c5 := of_decide_eq_true b5
              cases b6 : (Decidable.decide ((-9223372036854775808 : Int) ≤ (16 : Int) + Go.Ai.byteAt Go.Proofs.YtgmojlibppmfhaaDoor.len8 (n / (65536 : Int)).toNat ∧ (16 : Int) + Go.Ai.byteAt Go.Proofs.YtgmojlibppmfhaaDoor.len8 (n / (65536 : Int)).toNat ≤ (9223372036854775807 : Int)))
              ·
                have c6 := of_decide_eq_false b6
                (exfalso; omega)
              ·
                have c6 := of_decide_eq_true b6
                obtain ⟨st', h⟩ := F124_p2 n ⟨b6, b5, b4, b3, b2, b1, b0, trivial⟩
                exact ⟨st', h.trans (congrArg (fun v => some (v, st')) (by refine congrArg (Value.int .i64) ?_; rw [len8_is (n / 65536) (by omega) (by omega), lenF_8 (x := n) (by omega) (by omega), lenF_8 (x := n / 256) (by omega) (by omega), show n / 256 / 256 = n / 65536 by omega]; omega))⟩
      ·
        have c2 := of_decide_eq_true b2
        cases b3 : (Decidable.decide ((0 : Int) ≤ n / (65536 : Int) / (256 : Int) ∧ n / (65536 : Int) / (256 : Int) ≤ (255 : Int)))
        ·
          have c3 := of_decide_eq_false b3
          (exfalso; omega)
        ·
          have c3 := of_decide_eq_true b3
          cases b4 : (Decidable.decide ((0 : Int) ≤ n / (65536 : Int) / (256 : Int) ∧ n / (65536 : Int) / (256 : Int) < (256 : Int)))
          ·
            have c4 := of_decide_eq_false b4
            (exfalso; omega)
          ·
            have c4 := of_decide_eq_true b4
            cases b5 : (Decidable.decide ((-9223372036854775808 : Int) ≤ Go.Ai.byteAt Go.Proofs.YtgmojlibppmfhaaDoor.len8 (n / (65536 : Int) / (256 : Int)).toNat ∧ Go.Ai.byteAt Go.Proofs.YtgmojlibppmfhaaDoor.len8 (n / (65536 : Int) / (256 : Int)).toNat ≤ (9223372036854775807 : Int)))
            ·
              have c5 := of_decide_eq_false b5
              (exfalso; omega)
            ·
              have c5 := of_decide_eq_true b5
              cases b6 : (Decidable.decide ((-9223372036854775808 : Int) ≤ (24 : Int) + Go.Ai.byteAt Go.Proofs.YtgmojlibppmfhaaDoor.len8 (n / (65536 : Int) / (256 : Int)).toNat ∧ (24 : Int) + Go.Ai.byteAt Go.Proofs.YtgmojlibppmfhaaDoor.len8 (n / (65536 : Int) / (256 : Int)).toNat ≤ (9223372036854775807 : Int)))
              ·
                have c6 := of_decide_eq_false b6
                (exfalso; omega)
              ·
                have c6 := of_decide_eq_true b6
                obtain ⟨st', h⟩ := F124_p3 n ⟨b6, b5, b4, b3, b2, b1, b0, trivial⟩
                exact ⟨st', h.trans (congrArg (fun v => some (v, st')) (by refine congrArg (Value.int .i64) ?_; rw [len8_is (n / 65536 / 256) (by omega) (by omega), lenF_8 (x := n) (by omega) (by omega), lenF_8 (x := n / 256) (by omega) (by omega), lenF_8 (x := n / 256 / 256) (by omega) (by omega), show n / 256 / 256 / 256 = n / 65536 / 256 by omega]; omega))⟩
  ·
    have c0 := of_decide_eq_true b0
    (exfalso; omega)
end Go.Proofs.YtgmojlibppmfhaaDoor

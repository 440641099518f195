/- Runs of the abstract interpreter, part 38: by an AI agent. -/
import Derived.Test.YtgmojlibppmfhaaDoorPart37

namespace Go.Proofs.YtgmojlibppmfhaaDoor
open Go Go.Ai

theorem Fipt_3111 (x : Int) (h : Holds (pA 3 1 1 1 x)) : ∃ st', Go.Ai.call cx ovz3 1000 23 [.int .u32 x] ⟨keepIds st0.hp [2], st0.ct⟩ = some (.string (ipJ 3 1 1 1 x), st') :=
  path_call refz3 (toks := tkI 3 1 1 1) (by kernel_rfl) h
theorem Fipt_3112 (x : Int) (h : Holds (pA 3 1 1 2 x)) : ∃ st', Go.Ai.call cx ovz3 1000 23 [.int .u32 x] ⟨keepIds st0.hp [2], st0.ct⟩ = some (.string (ipJ 3 1 1 2 x), st') :=
  path_call refz3 (toks := tkI 3 1 1 2) (by kernel_rfl) h
theorem Fipt_3113 (x : Int) (h : Holds (pA 3 1 1 3 x)) : ∃ st', Go.Ai.call cx ovz3 1000 23 [.int .u32 x] ⟨keepIds st0.hp [2], st0.ct⟩ = some (.string (ipJ 3 1 1 3 x), st') :=
  path_call refz3 (toks := tkI 3 1 1 3) (by kernel_rfl) h
theorem Fipt_3121 (x : Int) (h : Holds (pA 3 1 2 1 x)) : ∃ st', Go.Ai.call cx ovz3 1000 23 [.int .u32 x] ⟨keepIds st0.hp [2], st0.ct⟩ = some (.string (ipJ 3 1 2 1 x), st') :=
  path_call refz3 (toks := tkI 3 1 2 1) (by kernel_rfl) h
theorem Fipt_3122 (x : Int) (h : Holds (pA 3 1 2 2 x)) : ∃ st', Go.Ai.call cx ovz3 1000 23 [.int .u32 x] ⟨keepIds st0.hp [2], st0.ct⟩ = some (.string (ipJ 3 1 2 2 x), st') :=
  path_call refz3 (toks := tkI 3 1 2 2) (by kernel_rfl) h
theorem Fipt_3123 (x : Int) (h : Holds (pA 3 1 2 3 x)) : ∃ st', Go.Ai.call cx ovz3 1000 23 [.int .u32 x] ⟨keepIds st0.hp [2], st0.ct⟩ = some (.string (ipJ 3 1 2 3 x), st') :=
  path_call refz3 (toks := tkI 3 1 2 3) (by kernel_rfl) h
theorem Fipt_3131 (x : Int) (h : Holds (pA 3 1 3 1 x)) : ∃ st', Go.Ai.call cx ovz3 1000 23 [.int .u32 x] ⟨keepIds st0.hp [2], st0.ct⟩ = some (.string (ipJ 3 1 3 1 x), st') :=
  path_call refz3 (toks := tkI 3 1 3 1) (by kernel_rfl) h
theorem Fipt_3132 (x : Int) (h : Holds (pA 3 1 3 2 x)) : ∃ st', Go.Ai.call cx ovz3 1000 23 [.int .u32 x] ⟨keepIds st0.hp [2], st0.ct⟩ = some (.string (ipJ 3 1 3 2 x), st') :=
  path_call refz3 (toks := tkI 3 1 3 2) (by kernel_rfl) h
theorem Fipt_3133 (x : Int) (h : Holds (pA 3 1 3 3 x)) : ∃ st', Go.Ai.call cx ovz3 1000 23 [.int .u32 x] ⟨keepIds st0.hp [2], st0.ct⟩ = some (.string (ipJ 3 1 3 3 x), st') :=
  path_call refz3 (toks := tkI 3 1 3 3) (by kernel_rfl) h
theorem Fipt_3211 (x : Int) (h : Holds (pA 3 2 1 1 x)) : ∃ st', Go.Ai.call cx ovz3 1000 23 [.int .u32 x] ⟨keepIds st0.hp [2], st0.ct⟩ = some (.string (ipJ 3 2 1 1 x), st') :=
  path_call refz3 (toks := tkI 3 2 1 1) (by kernel_rfl) h
theorem Fipt_3212 (x : Int) (h : Holds (pA 3 2 1 2 x)) : ∃ st', Go.Ai.call cx ovz3 1000 23 [.int .u32 x] ⟨keepIds st0.hp [2], st0.ct⟩ = some (.string (ipJ 3 2 1 2 x), st') :=
  path_call refz3 (toks := tkI 3 2 1 2) (by kernel_rfl) h
theorem Fipt_3213 (x : Int) (h : Holds (pA 3 2 1 3 x)) : ∃ st', Go.Ai.call cx ovz3 1000 23 [.int .u32 x] ⟨keepIds st0.hp [2], st0.ct⟩ = some (.string (ipJ 3 2 1 3 x), st') :=
  path_call refz3 (toks := tkI 3 2 1 3) (by kernel_rfl) h
theorem Fipt_3221 (x : Int) (h : Holds (pA 3 2 2 1 x)) : ∃ st', Go.Ai.call cx ovz3 1000 23 [.int .u32 x] ⟨keepIds st0.hp [2], st0.ct⟩ = some (.string (ipJ 3 2 2 1 x), st') :=
  path_call refz3 (toks := tkI 3 2 2 1) (by kernel_rfl) h
theorem Fipt_3222 (x : Int) (h : Holds (pA 3 2 2 2 x)) : ∃ st', Go.Ai.call cx ovz3 1000 23 [.int .u32 x] ⟨keepIds st0.hp [2], st0.ct⟩ = some (.string (ipJ 3 2 2 2 x), st') :=
  path_call refz3 (toks := tkI 3 2 2 2) (by kernel_rfl) h
theorem Fipt_3223 (x : Int) (h : Holds (pA 3 2 2 3 x)) : ∃ st', Go.Ai.call cx ovz3 1000 23 [.int .u32 x] ⟨keepIds st0.hp [2], st0.ct⟩ = some (.string (ipJ 3 2 2 3 x), st') :=
  path_call refz3 (toks := tkI 3 2 2 3) (by kernel_rfl) h
theorem Fipt_3231 (x : Int) (h : Holds (pA 3 2 3 1 x)) : ∃ st', Go.Ai.call cx ovz3 1000 23 [.int .u32 x] ⟨keepIds st0.hp [2], st0.ct⟩ = some (.string (ipJ 3 2 3 1 x), st') :=
  path_call refz3 (toks := tkI 3 2 3 1) (by kernel_rfl) h
theorem Fipt_3232 (x : Int) (h : Holds (pA 3 2 3 2 x)) : ∃ st', Go.Ai.call cx ovz3 1000 23 [.int .u32 x] ⟨keepIds st0.hp [2], st0.ct⟩ = some (.string (ipJ 3 2 3 2 x), st') :=
  path_call refz3 (toks := tkI 3 2 3 2) (by kernel_rfl) h
theorem Fipt_3233 (x : Int) (h : Holds (pA 3 2 3 3 x)) : ∃ st', Go.Ai.call cx ovz3 1000 23 [.int .u32 x] ⟨keepIds st0.hp [2], st0.ct⟩ = some (.string (ipJ 3 2 3 3 x), st') :=
  path_call refz3 (toks := tkI 3 2 3 3) (by kernel_rfl) h
theorem Fipt_3311 (x : Int) (h : Holds (pA 3 3 1 1 x)) : ∃ st', Go.Ai.call cx ovz3 1000 23 [.int .u32 x] ⟨keepIds st0.hp [2], st0.ct⟩ = some (.string (ipJ 3 3 1 1 x), st') :=
  path_call refz3 (toks := tkI 3 3 1 1) (by kernel_rfl) h
theorem Fipt_3312 (x : Int) (h : Holds (pA 3 3 1 2 x)) : ∃ st', Go.Ai.call cx ovz3 1000 23 [.int .u32 x] ⟨keepIds st0.hp [2], st0.ct⟩ = some (.string (ipJ 3 3 1 2 x), st') :=
  path_call refz3 (toks := tkI 3 3 1 2) (by kernel_rfl) h
theorem Fipt_3313 (x : Int) (h : Holds (pA 3 3 1 3 x)) : ∃ st', Go.Ai.call cx ovz3 1000 23 [.int .u32 x] ⟨keepIds st0.hp [2], st0.ct⟩ = some (.string (ipJ 3 3 1 3 x), st') :=
  path_call refz3 (toks := tkI 3 3 1 3) (by kernel_rfl) h
theorem Fipt_3321 (x : Int) (h : Holds (pA 3 3 2 1 x)) : ∃ st', Go.Ai.call cx ovz3 1000 23 [.int .u32 x] ⟨keepIds st0.hp [2], st0.ct⟩ = some (.string (ipJ 3 3 2 1 x), st') :=
  path_call refz3 (toks := tkI 3 3 2 1) (by kernel_rfl) h
theorem Fipt_3322 (x : Int) (h : Holds (pA 3 3 2 2 x)) : ∃ st', Go.Ai.call cx ovz3 1000 23 [.int .u32 x] ⟨keepIds st0.hp [2], st0.ct⟩ = some (.string (ipJ 3 3 2 2 x), st') :=
  path_call refz3 (toks := tkI 3 3 2 2) (by kernel_rfl) h
theorem Fipt_3323 (x : Int) (h : Holds (pA 3 3 2 3 x)) : ∃ st', Go.Ai.call cx ovz3 1000 23 [.int .u32 x] ⟨keepIds st0.hp [2], st0.ct⟩ = some (.string (ipJ 3 3 2 3 x), st') :=
  path_call refz3 (toks := tkI 3 3 2 3) (by kernel_rfl) h
theorem Fipt_3331 (x : Int) (h : Holds (pA 3 3 3 1 x)) : ∃ st', Go.Ai.call cx ovz3 1000 23 [.int .u32 x] ⟨keepIds st0.hp [2], st0.ct⟩ = some (.string (ipJ 3 3 3 1 x), st') :=
  path_call refz3 (toks := tkI 3 3 3 1) (by kernel_rfl) h
theorem Fipt_3332 (x : Int) (h : Holds (pA 3 3 3 2 x)) : ∃ st', Go.Ai.call cx ovz3 1000 23 [.int .u32 x] ⟨keepIds st0.hp [2], st0.ct⟩ = some (.string (ipJ 3 3 3 2 x), st') :=
  path_call refz3 (toks := tkI 3 3 3 2) (by kernel_rfl) h
theorem Fipt_3333 (x : Int) (h : Holds (pA 3 3 3 3 x)) : ∃ st', Go.Ai.call cx ovz3 1000 23 [.int .u32 x] ⟨keepIds st0.hp [2], st0.ct⟩ = some (.string (ipJ 3 3 3 3 x), st') :=
  path_call refz3 (toks := tkI 3 3 3 3) (by kernel_rfl) h
end Go.Proofs.YtgmojlibppmfhaaDoor

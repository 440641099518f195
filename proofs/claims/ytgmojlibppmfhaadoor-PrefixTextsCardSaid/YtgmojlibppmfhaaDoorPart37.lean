/- Runs of the abstract interpreter, part 37: by an AI agent. -/
import Derived.Test.YtgmojlibppmfhaaDoorPart36

namespace Go.Proofs.YtgmojlibppmfhaaDoor
open Go Go.Ai

theorem Fipt_2111 (x : Int) (h : Holds (pA 2 1 1 1 x)) : ∃ st', Go.Ai.call cx ovz3 1000 23 [.int .u32 x] ⟨keepIds st0.hp [2], st0.ct⟩ = some (.string (ipJ 2 1 1 1 x), st') :=
  path_call refz3 (toks := tkI 2 1 1 1) (by kernel_rfl) h
theorem Fipt_2112 (x : Int) (h : Holds (pA 2 1 1 2 x)) : ∃ st', Go.Ai.call cx ovz3 1000 23 [.int .u32 x] ⟨keepIds st0.hp [2], st0.ct⟩ = some (.string (ipJ 2 1 1 2 x), st') :=
  path_call refz3 (toks := tkI 2 1 1 2) (by kernel_rfl) h
theorem Fipt_2113 (x : Int) (h : Holds (pA 2 1 1 3 x)) : ∃ st', Go.Ai.call cx ovz3 1000 23 [.int .u32 x] ⟨keepIds st0.hp [2], st0.ct⟩ = some (.string (ipJ 2 1 1 3 x), st') :=
  path_call refz3 (toks := tkI 2 1 1 3) (by kernel_rfl) h
theorem Fipt_2121 (x : Int) (h : Holds (pA 2 1 2 1 x)) : ∃ st', Go.Ai.call cx ovz3 1000 23 [.int .u32 x] ⟨keepIds st0.hp [2], st0.ct⟩ = some (.string (ipJ 2 1 2 1 x), st') :=
  path_call refz3 (toks := tkI 2 1 2 1) (by kernel_rfl) h
theorem Fipt_2122 (x : Int) (h : Holds (pA 2 1 2 2 x)) : ∃ st', Go.Ai.call cx ovz3 1000 23 [.int .u32 x] ⟨keepIds st0.hp [2], st0.ct⟩ = some (.string (ipJ 2 1 2 2 x), st') :=
  path_call refz3 (toks := tkI 2 1 2 2) (by kernel_rfl) h
theorem Fipt_2123 (x : Int) (h : Holds (pA 2 1 2 3 x)) : ∃ st', Go.Ai.call cx ovz3 1000 23 [.int .u32 x] ⟨keepIds st0.hp [2], st0.ct⟩ = some (.string (ipJ 2 1 2 3 x), st') :=
  path_call refz3 (toks := tkI 2 1 2 3) (by kernel_rfl) h
theorem Fipt_2131 (x : Int) (h : Holds (pA 2 1 3 1 x)) : ∃ st', Go.Ai.call cx ovz3 1000 23 [.int .u32 x] ⟨keepIds st0.hp [2], st0.ct⟩ = some (.string (ipJ 2 1 3 1 x), st') :=
  path_call refz3 (toks := tkI 2 1 3 1) (by kernel_rfl) h
theorem Fipt_2132 (x : Int) (h : Holds (pA 2 1 3 2 x)) : ∃ st', Go.Ai.call cx ovz3 1000 23 [.int .u32 x] ⟨keepIds st0.hp [2], st0.ct⟩ = some (.string (ipJ 2 1 3 2 x), st') :=
  path_call refz3 (toks := tkI 2 1 3 2) (by kernel_rfl) h
theorem Fipt_2133 (x : Int) (h : Holds (pA 2 1 3 3 x)) : ∃ st', Go.Ai.call cx ovz3 1000 23 [.int .u32 x] ⟨keepIds st0.hp [2], st0.ct⟩ = some (.string (ipJ 2 1 3 3 x), st') :=
  path_call refz3 (toks := tkI 2 1 3 3) (by kernel_rfl) h
theorem Fipt_2211 (x : Int) (h : Holds (pA 2 2 1 1 x)) : ∃ st', Go.Ai.call cx ovz3 1000 23 [.int .u32 x] ⟨keepIds st0.hp [2], st0.ct⟩ = some (.string (ipJ 2 2 1 1 x), st') :=
  path_call refz3 (toks := tkI 2 2 1 1) (by kernel_rfl) h
theorem Fipt_2212 (x : Int) (h : Holds (pA 2 2 1 2 x)) : ∃ st', Go.Ai.call cx ovz3 1000 23 [.int .u32 x] ⟨keepIds st0.hp [2], st0.ct⟩ = some (.string (ipJ 2 2 1 2 x), st') :=
  path_call refz3 (toks := tkI 2 2 1 2) (by kernel_rfl) h
theorem Fipt_2213 (x : Int) (h : Holds (pA 2 2 1 3 x)) : ∃ st', Go.Ai.call cx ovz3 1000 23 [.int .u32 x] ⟨keepIds st0.hp [2], st0.ct⟩ = some (.string (ipJ 2 2 1 3 x), st') :=
  path_call refz3 (toks := tkI 2 2 1 3) (by kernel_rfl) h
theorem Fipt_2221 (x : Int) (h : Holds (pA 2 2 2 1 x)) : ∃ st', Go.Ai.call cx ovz3 1000 23 [.int .u32 x] ⟨keepIds st0.hp [2], st0.ct⟩ = some (.string (ipJ 2 2 2 1 x), st') :=
  path_call refz3 (toks := tkI 2 2 2 1) (by kernel_rfl) h
theorem Fipt_2222 (x : Int) (h : Holds (pA 2 2 2 2 x)) : ∃ st', Go.Ai.call cx ovz3 1000 23 [.int .u32 x] ⟨keepIds st0.hp [2], st0.ct⟩ = some (.string (ipJ 2 2 2 2 x), st') :=
  path_call refz3 (toks := tkI 2 2 2 2) (by kernel_rfl) h
theorem Fipt_2223 (x : Int) (h : Holds (pA 2 2 2 3 x)) : ∃ st', Go.Ai.call cx ovz3 1000 23 [.int .u32 x] ⟨keepIds st0.hp [2], st0.ct⟩ = some (.string (ipJ 2 2 2 3 x), st') :=
  path_call refz3 (toks := tkI 2 2 2 3) (by kernel_rfl) h
theorem Fipt_2231 (x : Int) (h : Holds (pA 2 2 3 1 x)) : ∃ st', Go.Ai.call cx ovz3 1000 23 [.int .u32 x] ⟨keepIds st0.hp [2], st0.ct⟩ = some (.string (ipJ 2 2 3 1 x), st') :=
  path_call refz3 (toks := tkI 2 2 3 1) (by kernel_rfl) h
theorem Fipt_2232 (x : Int) (h : Holds (pA 2 2 3 2 x)) : ∃ st', Go.Ai.call cx ovz3 1000 23 [.int .u32 x] ⟨keepIds st0.hp [2], st0.ct⟩ = some (.string (ipJ 2 2 3 2 x), st') :=
  path_call refz3 (toks := tkI 2 2 3 2) (by kernel_rfl) h
theorem Fipt_2233 (x : Int) (h : Holds (pA 2 2 3 3 x)) : ∃ st', Go.Ai.call cx ovz3 1000 23 [.int .u32 x] ⟨keepIds st0.hp [2], st0.ct⟩ = some (.string (ipJ 2 2 3 3 x), st') :=
  path_call refz3 (toks := tkI 2 2 3 3) (by kernel_rfl) h
theorem Fipt_2311 (x : Int) (h : Holds (pA 2 3 1 1 x)) : ∃ st', Go.Ai.call cx ovz3 1000 23 [.int .u32 x] ⟨keepIds st0.hp [2], st0.ct⟩ = some (.string (ipJ 2 3 1 1 x), st') :=
  path_call refz3 (toks := tkI 2 3 1 1) (by kernel_rfl) h
theorem Fipt_2312 (x : Int) (h : Holds (pA 2 3 1 2 x)) : ∃ st', Go.Ai.call cx ovz3 1000 23 [.int .u32 x] ⟨keepIds st0.hp [2], st0.ct⟩ = some (.string (ipJ 2 3 1 2 x), st') :=
  path_call refz3 (toks := tkI 2 3 1 2) (by kernel_rfl) h
theorem Fipt_2313 (x : Int) (h : Holds (pA 2 3 1 3 x)) : ∃ st', Go.Ai.call cx ovz3 1000 23 [.int .u32 x] ⟨keepIds st0.hp [2], st0.ct⟩ = some (.string (ipJ 2 3 1 3 x), st') :=
  path_call refz3 (toks := tkI 2 3 1 3) (by kernel_rfl) h
theorem Fipt_2321 (x : Int) (h : Holds (pA 2 3 2 1 x)) : ∃ st', Go.Ai.call cx ovz3 1000 23 [.int .u32 x] ⟨keepIds st0.hp [2], st0.ct⟩ = some (.string (ipJ 2 3 2 1 x), st') :=
  path_call refz3 (toks := tkI 2 3 2 1) (by kernel_rfl) h
theorem Fipt_2322 (x : Int) (h : Holds (pA 2 3 2 2 x)) : ∃ st', Go.Ai.call cx ovz3 1000 23 [.int .u32 x] ⟨keepIds st0.hp [2], st0.ct⟩ = some (.string (ipJ 2 3 2 2 x), st') :=
  path_call refz3 (toks := tkI 2 3 2 2) (by kernel_rfl) h
theorem Fipt_2323 (x : Int) (h : Holds (pA 2 3 2 3 x)) : ∃ st', Go.Ai.call cx ovz3 1000 23 [.int .u32 x] ⟨keepIds st0.hp [2], st0.ct⟩ = some (.string (ipJ 2 3 2 3 x), st') :=
  path_call refz3 (toks := tkI 2 3 2 3) (by kernel_rfl) h
theorem Fipt_2331 (x : Int) (h : Holds (pA 2 3 3 1 x)) : ∃ st', Go.Ai.call cx ovz3 1000 23 [.int .u32 x] ⟨keepIds st0.hp [2], st0.ct⟩ = some (.string (ipJ 2 3 3 1 x), st') :=
  path_call refz3 (toks := tkI 2 3 3 1) (by kernel_rfl) h
theorem Fipt_2332 (x : Int) (h : Holds (pA 2 3 3 2 x)) : ∃ st', Go.Ai.call cx ovz3 1000 23 [.int .u32 x] ⟨keepIds st0.hp [2], st0.ct⟩ = some (.string (ipJ 2 3 3 2 x), st') :=
  path_call refz3 (toks := tkI 2 3 3 2) (by kernel_rfl) h
theorem Fipt_2333 (x : Int) (h : Holds (pA 2 3 3 3 x)) : ∃ st', Go.Ai.call cx ovz3 1000 23 [.int .u32 x] ⟨keepIds st0.hp [2], st0.ct⟩ = some (.string (ipJ 2 3 3 3 x), st') :=
  path_call refz3 (toks := tkI 2 3 3 3) (by kernel_rfl) h
end Go.Proofs.YtgmojlibppmfhaaDoor

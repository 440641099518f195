/- Runs of the abstract interpreter, part 36: by an AI agent. -/
import Derived.Test.YtgmojlibppmfhaaDoorPart35

namespace Go.Proofs.YtgmojlibppmfhaaDoor
open Go Go.Ai

theorem Fipt_1111 (x : Int) (h : Holds (pA 1 1 1 1 x)) : ∃ st', Go.Ai.call cx ovz3 1000 23 [.int .u32 x] ⟨keepIds st0.hp [2], st0.ct⟩ = some (.string (ipJ 1 1 1 1 x), st') :=
  path_call refz3 (toks := tkI 1 1 1 1) (by kernel_rfl) h
theorem Fipt_1112 (x : Int) (h : Holds (pA 1 1 1 2 x)) : ∃ st', Go.Ai.call cx ovz3 1000 23 [.int .u32 x] ⟨keepIds st0.hp [2], st0.ct⟩ = some (.string (ipJ 1 1 1 2 x), st') :=
  path_call refz3 (toks := tkI 1 1 1 2) (by kernel_rfl) h
theorem Fipt_1113 (x : Int) (h : Holds (pA 1 1 1 3 x)) : ∃ st', Go.Ai.call cx ovz3 1000 23 [.int .u32 x] ⟨keepIds st0.hp [2], st0.ct⟩ = some (.string (ipJ 1 1 1 3 x), st') :=
  path_call refz3 (toks := tkI 1 1 1 3) (by kernel_rfl) h
theorem Fipt_1121 (x : Int) (h : Holds (pA 1 1 2 1 x)) : ∃ st', Go.Ai.call cx ovz3 1000 23 [.int .u32 x] ⟨keepIds st0.hp [2], st0.ct⟩ = some (.string (ipJ 1 1 2 1 x), st') :=
  path_call refz3 (toks := tkI 1 1 2 1) (by kernel_rfl) h
theorem Fipt_1122 (x : Int) (h : Holds (pA 1 1 2 2 x)) : ∃ st', Go.Ai.call cx ovz3 1000 23 [.int .u32 x] ⟨keepIds st0.hp [2], st0.ct⟩ = some (.string (ipJ 1 1 2 2 x), st') :=
  path_call refz3 (toks := tkI 1 1 2 2) (by kernel_rfl) h
theorem Fipt_1123 (x : Int) (h : Holds (pA 1 1 2 3 x)) : ∃ st', Go.Ai.call cx ovz3 1000 23 [.int .u32 x] ⟨keepIds st0.hp [2], st0.ct⟩ = some (.string (ipJ 1 1 2 3 x), st') :=
  path_call refz3 (toks := tkI 1 1 2 3) (by kernel_rfl) h
theorem Fipt_1131 (x : Int) (h : Holds (pA 1 1 3 1 x)) : ∃ st', Go.Ai.call cx ovz3 1000 23 [.int .u32 x] ⟨keepIds st0.hp [2], st0.ct⟩ = some (.string (ipJ 1 1 3 1 x), st') :=
  path_call refz3 (toks := tkI 1 1 3 1) (by kernel_rfl) h
theorem Fipt_1132 (x : Int) (h : Holds (pA 1 1 3 2 x)) : ∃ st', Go.Ai.call cx ovz3 1000 23 [.int .u32 x] ⟨keepIds st0.hp [2], st0.ct⟩ = some (.string (ipJ 1 1 3 2 x), st') :=
  path_call refz3 (toks := tkI 1 1 3 2) (by kernel_rfl) h
theorem Fipt_1133 (x : Int) (h : Holds (pA 1 1 3 3 x)) : ∃ st', Go.Ai.call cx ovz3 1000 23 [.int .u32 x] ⟨keepIds st0.hp [2], st0.ct⟩ = some (.string (ipJ 1 1 3 3 x), st') :=
  path_call refz3 (toks := tkI 1 1 3 3) (by kernel_rfl) h
theorem Fipt_1211 (x : Int) (h : Holds (pA 1 2 1 1 x)) : ∃ st', Go.Ai.call cx ovz3 1000 23 [.int .u32 x] ⟨keepIds st0.hp [2], st0.ct⟩ = some (.string (ipJ 1 2 1 1 x), st') :=
  path_call refz3 (toks := tkI 1 2 1 1) (by kernel_rfl) h
theorem Fipt_1212 (x : Int) (h : Holds (pA 1 2 1 2 x)) : ∃ st', Go.Ai.call cx ovz3 1000 23 [.int .u32 x] ⟨keepIds st0.hp [2], st0.ct⟩ = some (.string (ipJ 1 2 1 2 x), st') :=
  path_call refz3 (toks := tkI 1 2 1 2) (by kernel_rfl) h
theorem Fipt_1213 (x : Int) (h : Holds (pA 1 2 1 3 x)) : ∃ st', Go.Ai.call cx ovz3 1000 23 [.int .u32 x] ⟨keepIds st0.hp [2], st0.ct⟩ = some (.string (ipJ 1 2 1 3 x), st') :=
  path_call refz3 (toks := tkI 1 2 1 3) (by kernel_rfl) h
theorem Fipt_1221 (x : Int) (h : Holds (pA 1 2 2 1 x)) : ∃ st', Go.Ai.call cx ovz3 1000 23 [.int .u32 x] ⟨keepIds st0.hp [2], st0.ct⟩ = some (.string (ipJ 1 2 2 1 x), st') :=
  path_call refz3 (toks := tkI 1 2 2 1) (by kernel_rfl) h
theorem Fipt_1222 (x : Int) (h : Holds (pA 1 2 2 2 x)) : ∃ st', Go.Ai.call cx ovz3 1000 23 [.int .u32 x] ⟨keepIds st0.hp [2], st0.ct⟩ = some (.string (ipJ 1 2 2 2 x), st') :=
  path_call refz3 (toks := tkI 1 2 2 2) (by kernel_rfl) h
theorem Fipt_1223 (x : Int) (h : Holds (pA 1 2 2 3 x)) : ∃ st', Go.Ai.call cx ovz3 1000 23 [.int .u32 x] ⟨keepIds st0.hp [2], st0.ct⟩ = some (.string (ipJ 1 2 2 3 x), st') :=
  path_call refz3 (toks := tkI 1 2 2 3) (by kernel_rfl) h
theorem Fipt_1231 (x : Int) (h : Holds (pA 1 2 3 1 x)) : ∃ st', Go.Ai.call cx ovz3 1000 23 [.int .u32 x] ⟨keepIds st0.hp [2], st0.ct⟩ = some (.string (ipJ 1 2 3 1 x), st') :=
  path_call refz3 (toks := tkI 1 2 3 1) (by kernel_rfl) h
theorem Fipt_1232 (x : Int) (h : Holds (pA 1 2 3 2 x)) : ∃ st', Go.Ai.call cx ovz3 1000 23 [.int .u32 x] ⟨keepIds st0.hp [2], st0.ct⟩ = some (.string (ipJ 1 2 3 2 x), st') :=
  path_call refz3 (toks := tkI 1 2 3 2) (by kernel_rfl) h
theorem Fipt_1233 (x : Int) (h : Holds (pA 1 2 3 3 x)) : ∃ st', Go.Ai.call cx ovz3 1000 23 [.int .u32 x] ⟨keepIds st0.hp [2], st0.ct⟩ = some (.string (ipJ 1 2 3 3 x), st') :=
  path_call refz3 (toks := tkI 1 2 3 3) (by kernel_rfl) h
theorem Fipt_1311 (x : Int) (h : Holds (pA 1 3 1 1 x)) : ∃ st', Go.Ai.call cx ovz3 1000 23 [.int .u32 x] ⟨keepIds st0.hp [2], st0.ct⟩ = some (.string (ipJ 1 3 1 1 x), st') :=
  path_call refz3 (toks := tkI 1 3 1 1) (by kernel_rfl) h
theorem Fipt_1312 (x : Int) (h : Holds (pA 1 3 1 2 x)) : ∃ st', Go.Ai.call cx ovz3 1000 23 [.int .u32 x] ⟨keepIds st0.hp [2], st0.ct⟩ = some (.string (ipJ 1 3 1 2 x), st') :=
  path_call refz3 (toks := tkI 1 3 1 2) (by kernel_rfl) h
theorem Fipt_1313 (x : Int) (h : Holds (pA 1 3 1 3 x)) : ∃ st', Go.Ai.call cx ovz3 1000 23 [.int .u32 x] ⟨keepIds st0.hp [2], st0.ct⟩ = some (.string (ipJ 1 3 1 3 x), st') :=
  path_call refz3 (toks := tkI 1 3 1 3) (by kernel_rfl) h
theorem Fipt_1321 (x : Int) (h : Holds (pA 1 3 2 1 x)) : ∃ st', Go.Ai.call cx ovz3 1000 23 [.int .u32 x] ⟨keepIds st0.hp [2], st0.ct⟩ = some (.string (ipJ 1 3 2 1 x), st') :=
  path_call refz3 (toks := tkI 1 3 2 1) (by kernel_rfl) h
theorem Fipt_1322 (x : Int) (h : Holds (pA 1 3 2 2 x)) : ∃ st', Go.Ai.call cx ovz3 1000 23 [.int .u32 x] ⟨keepIds st0.hp [2], st0.ct⟩ = some (.string (ipJ 1 3 2 2 x), st') :=
  path_call refz3 (toks := tkI 1 3 2 2) (by kernel_rfl) h
theorem Fipt_1323 (x : Int) (h : Holds (pA 1 3 2 3 x)) : ∃ st', Go.Ai.call cx ovz3 1000 23 [.int .u32 x] ⟨keepIds st0.hp [2], st0.ct⟩ = some (.string (ipJ 1 3 2 3 x), st') :=
  path_call refz3 (toks := tkI 1 3 2 3) (by kernel_rfl) h
theorem Fipt_1331 (x : Int) (h : Holds (pA 1 3 3 1 x)) : ∃ st', Go.Ai.call cx ovz3 1000 23 [.int .u32 x] ⟨keepIds st0.hp [2], st0.ct⟩ = some (.string (ipJ 1 3 3 1 x), st') :=
  path_call refz3 (toks := tkI 1 3 3 1) (by kernel_rfl) h
theorem Fipt_1332 (x : Int) (h : Holds (pA 1 3 3 2 x)) : ∃ st', Go.Ai.call cx ovz3 1000 23 [.int .u32 x] ⟨keepIds st0.hp [2], st0.ct⟩ = some (.string (ipJ 1 3 3 2 x), st') :=
  path_call refz3 (toks := tkI 1 3 3 2) (by kernel_rfl) h
theorem Fipt_1333 (x : Int) (h : Holds (pA 1 3 3 3 x)) : ∃ st', Go.Ai.call cx ovz3 1000 23 [.int .u32 x] ⟨keepIds st0.hp [2], st0.ct⟩ = some (.string (ipJ 1 3 3 3 x), st') :=
  path_call refz3 (toks := tkI 1 3 3 3) (by kernel_rfl) h
end Go.Proofs.YtgmojlibppmfhaaDoor

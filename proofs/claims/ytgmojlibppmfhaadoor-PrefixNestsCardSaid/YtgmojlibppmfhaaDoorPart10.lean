/- Runs of the abstract interpreter, part 10: by an AI agent. -/
import Derived.Test.YtgmojlibppmfhaaDoorPart9

namespace Go.Proofs.YtgmojlibppmfhaaDoor
open Go Go.Ai
theorem w0_tt (x b y c z : Int) (h : Holds (pl cd0 (prw x b y c z b c true true))) : ∃ st', Go.Ai.call cx ovp4 1000 8 (args8 x b y c z) stN = some (.bool true, st') := path_call refp4 (toks := tk0 .yes .yes) (by kernel_rfl) h
theorem w0_tf (x b y c z : Int) (h : Holds (pl cd0 (prw x b y c z b (IntKind.u64.wrap c) true false))) : ∃ st', Go.Ai.call cx ovp4 1000 8 (args8 x b y c z) stN = some (.bool true, st') := path_call refp4 (toks := tk0 .yes .no) (by kernel_rfl) h
theorem w0_ft (x b y c z : Int) (h : Holds (pl cd0 (prw x b y c z (IntKind.u64.wrap b) c false true))) : ∃ st', Go.Ai.call cx ovp4 1000 8 (args8 x b y c z) stN = some (.bool true, st') := path_call refp4 (toks := tk0 .no .yes) (by kernel_rfl) h
theorem w0_ff (x b y c z : Int) (h : Holds (pl cd0 (prw x b y c z (IntKind.u64.wrap b) (IntKind.u64.wrap c) false false))) : ∃ st', Go.Ai.call cx ovp4 1000 8 (args8 x b y c z) stN = some (.bool true, st') := path_call refp4 (toks := tk0 .no .no) (by kernel_rfl) h
theorem w5_tt (x b y c z : Int) (h : Holds (pl cd5 (prw x b y c z b c true true))) : ∃ st', Go.Ai.call cx ovp4 1000 8 (args8 x b y c z) stN = some (.bool true, st') := path_call refp4 (toks := tk5 .yes .yes) (by kernel_rfl) h
theorem w5_tf (x b y c z : Int) (h : Holds (pl cd5 (prw x b y c z b (IntKind.u64.wrap c) true false))) : ∃ st', Go.Ai.call cx ovp4 1000 8 (args8 x b y c z) stN = some (.bool true, st') := path_call refp4 (toks := tk5 .yes .no) (by kernel_rfl) h
theorem w5_ft (x b y c z : Int) (h : Holds (pl cd5 (prw x b y c z (IntKind.u64.wrap b) c false true))) : ∃ st', Go.Ai.call cx ovp4 1000 8 (args8 x b y c z) stN = some (.bool true, st') := path_call refp4 (toks := tk5 .no .yes) (by kernel_rfl) h
theorem w5_ff (x b y c z : Int) (h : Holds (pl cd5 (prw x b y c z (IntKind.u64.wrap b) (IntKind.u64.wrap c) false false))) : ∃ st', Go.Ai.call cx ovp4 1000 8 (args8 x b y c z) stN = some (.bool true, st') := path_call refp4 (toks := tk5 .no .no) (by kernel_rfl) h
theorem w11_tt (x b y c z : Int) (h : Holds (pl cd11 (prw x b y c z b c true true))) : ∃ st', Go.Ai.call cx ovp4 1000 8 (args8 x b y c z) stN = some (.bool true, st') := path_call refp4 (toks := tk11 .yes .yes) (by kernel_rfl) h
theorem w11_tf (x b y c z : Int) (h : Holds (pl cd11 (prw x b y c z b (IntKind.u64.wrap c) true false))) : ∃ st', Go.Ai.call cx ovp4 1000 8 (args8 x b y c z) stN = some (.bool true, st') := path_call refp4 (toks := tk11 .yes .no) (by kernel_rfl) h
theorem w11_ft (x b y c z : Int) (h : Holds (pl cd11 (prw x b y c z (IntKind.u64.wrap b) c false true))) : ∃ st', Go.Ai.call cx ovp4 1000 8 (args8 x b y c z) stN = some (.bool true, st') := path_call refp4 (toks := tk11 .no .yes) (by kernel_rfl) h
theorem w11_ff (x b y c z : Int) (h : Holds (pl cd11 (prw x b y c z (IntKind.u64.wrap b) (IntKind.u64.wrap c) false false))) : ∃ st', Go.Ai.call cx ovp4 1000 8 (args8 x b y c z) stN = some (.bool true, st') := path_call refp4 (toks := tk11 .no .no) (by kernel_rfl) h
end Go.Proofs.YtgmojlibppmfhaaDoor

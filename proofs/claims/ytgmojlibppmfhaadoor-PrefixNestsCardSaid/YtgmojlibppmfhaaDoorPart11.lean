/- Runs of the abstract interpreter, part 11: by an AI agent. -/
import Derived.Test.YtgmojlibppmfhaaDoorPart10

namespace Go.Proofs.YtgmojlibppmfhaaDoor
open Go Go.Ai
theorem w1_tt (x b y c z : Int) (h : Holds (pl cd1 (prw x b y c z b c true true))) : ∃ st', Go.Ai.call cx ovp4 1000 8 (args8 x b y c z) stN = some (.bool true, st') := path_call refp4 (toks := tk1 .yes .yes) (by kernel_rfl) h
theorem w1_tf (x b y c z : Int) (h : Holds (pl cd1 (prw x b y c z b (IntKind.u64.wrap c) true false))) : ∃ st', Go.Ai.call cx ovp4 1000 8 (args8 x b y c z) stN = some (.bool true, st') := path_call refp4 (toks := tk1 .yes .no) (by kernel_rfl) h
theorem w1_ft (x b y c z : Int) (h : Holds (pl cd1 (prw x b y c z (IntKind.u64.wrap b) c false true))) : ∃ st', Go.Ai.call cx ovp4 1000 8 (args8 x b y c z) stN = some (.bool true, st') := path_call refp4 (toks := tk1 .no .yes) (by kernel_rfl) h
theorem w1_ff (x b y c z : Int) (h : Holds (pl cd1 (prw x b y c z (IntKind.u64.wrap b) (IntKind.u64.wrap c) false false))) : ∃ st', Go.Ai.call cx ovp4 1000 8 (args8 x b y c z) stN = some (.bool true, st') := path_call refp4 (toks := tk1 .no .no) (by kernel_rfl) h
theorem w7_tt (x b y c z : Int) (h : Holds (pl cd7 (prw x b y c z b c true true))) : ∃ st', Go.Ai.call cx ovp4 1000 8 (args8 x b y c z) stN = some (.bool true, st') := path_call refp4 (toks := tk7 .yes .yes) (by kernel_rfl) h
theorem w7_tf (x b y c z : Int) (h : Holds (pl cd7 (prw x b y c z b (IntKind.u64.wrap c) true false))) : ∃ st', Go.Ai.call cx ovp4 1000 8 (args8 x b y c z) stN = some (.bool true, st') := path_call refp4 (toks := tk7 .yes .no) (by kernel_rfl) h
theorem w7_ft (x b y c z : Int) (h : Holds (pl cd7 (prw x b y c z (IntKind.u64.wrap b) c false true))) : ∃ st', Go.Ai.call cx ovp4 1000 8 (args8 x b y c z) stN = some (.bool true, st') := path_call refp4 (toks := tk7 .no .yes) (by kernel_rfl) h
theorem w7_ff (x b y c z : Int) (h : Holds (pl cd7 (prw x b y c z (IntKind.u64.wrap b) (IntKind.u64.wrap c) false false))) : ∃ st', Go.Ai.call cx ovp4 1000 8 (args8 x b y c z) stN = some (.bool true, st') := path_call refp4 (toks := tk7 .no .no) (by kernel_rfl) h
theorem w13_tt (x b y c z : Int) (h : Holds (pl cd13 (prw x b y c z b c true true))) : ∃ st', Go.Ai.call cx ovp4 1000 8 (args8 x b y c z) stN = some (.bool true, st') := path_call refp4 (toks := tk13 .yes .yes) (by kernel_rfl) h
theorem w13_tf (x b y c z : Int) (h : Holds (pl cd13 (prw x b y c z b (IntKind.u64.wrap c) true false))) : ∃ st', Go.Ai.call cx ovp4 1000 8 (args8 x b y c z) stN = some (.bool true, st') := path_call refp4 (toks := tk13 .yes .no) (by kernel_rfl) h
theorem w13_ft (x b y c z : Int) (h : Holds (pl cd13 (prw x b y c z (IntKind.u64.wrap b) c false true))) : ∃ st', Go.Ai.call cx ovp4 1000 8 (args8 x b y c z) stN = some (.bool true, st') := path_call refp4 (toks := tk13 .no .yes) (by kernel_rfl) h
theorem w13_ff (x b y c z : Int) (h : Holds (pl cd13 (prw x b y c z (IntKind.u64.wrap b) (IntKind.u64.wrap c) false false))) : ∃ st', Go.Ai.call cx ovp4 1000 8 (args8 x b y c z) stN = some (.bool true, st') := path_call refp4 (toks := tk13 .no .no) (by kernel_rfl) h
end Go.Proofs.YtgmojlibppmfhaaDoor

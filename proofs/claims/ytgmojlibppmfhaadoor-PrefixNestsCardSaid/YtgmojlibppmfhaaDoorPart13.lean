/- Runs of the abstract interpreter, part 13: by an AI agent. -/
import Derived.Test.YtgmojlibppmfhaaDoorPart12

namespace Go.Proofs.YtgmojlibppmfhaaDoor
open Go Go.Ai
theorem w3_tt (x b y c z : Int) (h : Holds (pl cd3 (prw x b y c z b c true true))) : ∃ st', Go.Ai.call cx ovp4 1000 8 (args8 x b y c z) stN = some (.bool true, st') := path_call refp4 (toks := tk3 .yes .yes) (by kernel_rfl) h
theorem w3_tf (x b y c z : Int) (h : Holds (pl cd3 (prw x b y c z b (IntKind.u64.wrap c) true false))) : ∃ st', Go.Ai.call cx ovp4 1000 8 (args8 x b y c z) stN = some (.bool true, st') := path_call refp4 (toks := tk3 .yes .no) (by kernel_rfl) h
theorem w3_ft (x b y c z : Int) (h : Holds (pl cd3 (prw x b y c z (IntKind.u64.wrap b) c false true))) : ∃ st', Go.Ai.call cx ovp4 1000 8 (args8 x b y c z) stN = some (.bool true, st') := path_call refp4 (toks := tk3 .no .yes) (by kernel_rfl) h
theorem w3_ff (x b y c z : Int) (h : Holds (pl cd3 (prw x b y c z (IntKind.u64.wrap b) (IntKind.u64.wrap c) false false))) : ∃ st', Go.Ai.call cx ovp4 1000 8 (args8 x b y c z) stN = some (.bool true, st') := path_call refp4 (toks := tk3 .no .no) (by kernel_rfl) h
theorem w10_tt (x b y c z : Int) (h : Holds (pl cd10 (prw x b y c z b c true true))) : ∃ st', Go.Ai.call cx ovp4 1000 8 (args8 x b y c z) stN = some (.bool true, st') := path_call refp4 (toks := tk10 .yes .yes) (by kernel_rfl) h
theorem w10_tf (x b y c z : Int) (h : Holds (pl cd10 (prw x b y c z b (IntKind.u64.wrap c) true false))) : ∃ st', Go.Ai.call cx ovp4 1000 8 (args8 x b y c z) stN = some (.bool true, st') := path_call refp4 (toks := tk10 .yes .no) (by kernel_rfl) h
theorem w10_ft (x b y c z : Int) (h : Holds (pl cd10 (prw x b y c z (IntKind.u64.wrap b) c false true))) : ∃ st', Go.Ai.call cx ovp4 1000 8 (args8 x b y c z) stN = some (.bool true, st') := path_call refp4 (toks := tk10 .no .yes) (by kernel_rfl) h
theorem w10_ff (x b y c z : Int) (h : Holds (pl cd10 (prw x b y c z (IntKind.u64.wrap b) (IntKind.u64.wrap c) false false))) : ∃ st', Go.Ai.call cx ovp4 1000 8 (args8 x b y c z) stN = some (.bool true, st') := path_call refp4 (toks := tk10 .no .no) (by kernel_rfl) h
end Go.Proofs.YtgmojlibppmfhaaDoor

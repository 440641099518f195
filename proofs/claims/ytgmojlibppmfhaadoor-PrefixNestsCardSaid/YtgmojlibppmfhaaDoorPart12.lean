/- Runs of the abstract interpreter, part 12: by an AI agent. -/
import Derived.Test.YtgmojlibppmfhaaDoorPart11

namespace Go.Proofs.YtgmojlibppmfhaaDoor
open Go Go.Ai
theorem w2_tt (x b y c z : Int) (h : Holds (pl cd2 (prw x b y c z b c true true))) : ∃ st', Go.Ai.call cx ovp4 1000 8 (args8 x b y c z) stN = some (.bool true, st') := path_call refp4 (toks := tk2 .yes .yes) (by kernel_rfl) h
theorem w2_tf (x b y c z : Int) (h : Holds (pl cd2 (prw x b y c z b (IntKind.u64.wrap c) true false))) : ∃ st', Go.Ai.call cx ovp4 1000 8 (args8 x b y c z) stN = some (.bool true, st') := path_call refp4 (toks := tk2 .yes .no) (by kernel_rfl) h
theorem w2_ft (x b y c z : Int) (h : Holds (pl cd2 (prw x b y c z (IntKind.u64.wrap b) c false true))) : ∃ st', Go.Ai.call cx ovp4 1000 8 (args8 x b y c z) stN = some (.bool true, st') := path_call refp4 (toks := tk2 .no .yes) (by kernel_rfl) h
theorem w2_ff (x b y c z : Int) (h : Holds (pl cd2 (prw x b y c z (IntKind.u64.wrap b) (IntKind.u64.wrap c) false false))) : ∃ st', Go.Ai.call cx ovp4 1000 8 (args8 x b y c z) stN = some (.bool true, st') := path_call refp4 (toks := tk2 .no .no) (by kernel_rfl) h
theorem w8_tt (x b y c z : Int) (h : Holds (pl cd8 (prw x b y c z b c true true))) : ∃ st', Go.Ai.call cx ovp4 1000 8 (args8 x b y c z) stN = some (.bool true, st') := path_call refp4 (toks := tk8 .yes .yes) (by kernel_rfl) h
theorem w8_tf (x b y c z : Int) (h : Holds (pl cd8 (prw x b y c z b (IntKind.u64.wrap c) true false))) : ∃ st', Go.Ai.call cx ovp4 1000 8 (args8 x b y c z) stN = some (.bool true, st') := path_call refp4 (toks := tk8 .yes .no) (by kernel_rfl) h
theorem w8_ft (x b y c z : Int) (h : Holds (pl cd8 (prw x b y c z (IntKind.u64.wrap b) c false true))) : ∃ st', Go.Ai.call cx ovp4 1000 8 (args8 x b y c z) stN = some (.bool true, st') := path_call refp4 (toks := tk8 .no .yes) (by kernel_rfl) h
theorem w8_ff (x b y c z : Int) (h : Holds (pl cd8 (prw x b y c z (IntKind.u64.wrap b) (IntKind.u64.wrap c) false false))) : ∃ st', Go.Ai.call cx ovp4 1000 8 (args8 x b y c z) stN = some (.bool true, st') := path_call refp4 (toks := tk8 .no .no) (by kernel_rfl) h
theorem w16_tt (x b y c z : Int) (h : Holds (pl cd16 (prw x b y c z b c true true))) : ∃ st', Go.Ai.call cx ovp4 1000 8 (args8 x b y c z) stN = some (.bool true, st') := path_call refp4 (toks := tk16 .yes .yes) (by kernel_rfl) h
theorem w16_tf (x b y c z : Int) (h : Holds (pl cd16 (prw x b y c z b (IntKind.u64.wrap c) true false))) : ∃ st', Go.Ai.call cx ovp4 1000 8 (args8 x b y c z) stN = some (.bool true, st') := path_call refp4 (toks := tk16 .yes .no) (by kernel_rfl) h
theorem w16_ft (x b y c z : Int) (h : Holds (pl cd16 (prw x b y c z (IntKind.u64.wrap b) c false true))) : ∃ st', Go.Ai.call cx ovp4 1000 8 (args8 x b y c z) stN = some (.bool true, st') := path_call refp4 (toks := tk16 .no .yes) (by kernel_rfl) h
theorem w16_ff (x b y c z : Int) (h : Holds (pl cd16 (prw x b y c z (IntKind.u64.wrap b) (IntKind.u64.wrap c) false false))) : ∃ st', Go.Ai.call cx ovp4 1000 8 (args8 x b y c z) stN = some (.bool true, st') := path_call refp4 (toks := tk16 .no .no) (by kernel_rfl) h
end Go.Proofs.YtgmojlibppmfhaaDoor

/- Runs of the abstract interpreter, part 1: by an AI agent. -/
import Derived.Test.YtmimkeikienajaaDoorAi4
import Derived.Test.YtmimkeikienajaaDoorTie
import Derived.Test.YtmimkeikienajaaDoorCards
import Derived.SevenTiedAt

namespace Go.Proofs.YtmimkeikienajaaDoor
open Go Go.Ai

def ex : List (Nat × Xt) := []
def nm : List (String × TypeId) := []
def fs : List Nat := [188, 189, 191, 193, 194, 195, 196, 198, 200, 201, 206, 207, 208, 209, 210, 211, 212, 213, 214, 215]
set_option maxRecDepth 1000000
theorem nm_ok : nm.all (nameOk Tryd.prog) = true := by kernel_rfl
theorem ex_ok : ex.all (extFits Tryd.prog) = true := by kernel_rfl
noncomputable def cx : Cx := Cx.of Tryd.prog
noncomputable def st0 : St := ⟨over0 .nil [(1, .row 228 [.map (some 3)] false false), (2, .row 234 [.map (some 4)] false false), (3, .map [{ key := .int .u8 1, val := .agg #[.int .u8 64, .int .i64 2, .func (.func 188) #[] #[]], born := 0 }, { key := .int .u8 2, val := .agg #[.int .u8 64, .int .i64 2, .func (.func 189) #[] #[]], born := 0 }, { key := .int .u8 3, val := .agg #[.int .u8 64, .int .i64 2, .func (.func 191) #[] #[]], born := 0 }, { key := .int .u8 4, val := .agg #[.int .u8 128, .int .i64 2, .func (.func 193) #[] #[]], born := 0 }, { key := .int .u8 5, val := .agg #[.int .u8 64, .int .i64 2, .func (.func 194) #[] #[]], born := 0 }, { key := .int .u8 6, val := .agg #[.int .u8 64, .int .i64 1, .func (.func 195) #[] #[]], born := 0 }, { key := .int .u8 7, val := .agg #[.int .u8 192, .int .i64 1, .func (.func 196) #[] #[]], born := 0 }, { key := .int .u8 8, val := .agg #[.int .u8 192, .int .i64 2, .func (.func 198) #[] #[]], born := 0 }, { key := .int .u8 17, val := .agg #[.int .u8 192, .int .i64 1, .func (.func 200) #[] #[]], born := 0 }, { key := .int .u8 18, val := .agg #[.int .u8 192, .int .i64 1, .func (.func 201) #[] #[]], born := 0 }] true false), (4, .map [{ key := .int .u8 1, val := .func (.func 206) #[] #[], born := 0 }, { key := .int .u8 2, val := .func (.func 207) #[] #[], born := 0 }, { key := .int .u8 3, val := .func (.func 208) #[] #[], born := 0 }, { key := .int .u8 4, val := .func (.func 209) #[] #[], born := 0 }, { key := .int .u8 5, val := .func (.func 210) #[] #[], born := 0 }, { key := .int .u8 6, val := .func (.func 211) #[] #[], born := 0 }, { key := .int .u8 7, val := .func (.func 212) #[] #[], born := 0 }, { key := .int .u8 8, val := .func (.func 213) #[] #[], born := 0 }, { key := .int .u8 17, val := .func (.func 214) #[] #[], born := 0 }, { key := .int .u8 18, val := .func (.func 215) #[] #[], born := 0 }] true false)], 5⟩
def ids : List Nat := [1, 2, 3, 4]
noncomputable def ovE : Ov := ovOf cx ex
def fks : List Nat := [74, 95]
noncomputable def ov0 : Ov := ovFork cx fks 1000000 ovE
theorem ov0_ok : OvOk Tryd.prog ov0 ∧ OvMono ov0 ∧ OvIds ov0 := ovFork_all Tryd.checked.mixed (ovOf_ok ex_ok) (ovOf_mono ex) (ovOf_ids ex) fks 1000000
end Go.Proofs.YtmimkeikienajaaDoor

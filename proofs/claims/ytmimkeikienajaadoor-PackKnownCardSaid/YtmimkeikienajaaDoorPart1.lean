/- Runs of the abstract interpreter, part 1: by an AI agent. -/
import Derived.Test.YtmimkeikienajaaDoorAi4
import Derived.Test.YtmimkeikienajaaDoorTie
import Derived.Test.YtmimkeikienajaaDoorCards
import Derived.SevenTiedAt

namespace Go.Proofs.YtmimkeikienajaaDoor
open Go Go.Ai

def ex : List (Nat × Xt) := []
def nm : List (String × TypeId) := []
def fs : List Nat := []
set_option maxRecDepth 1000000
theorem nm_ok : nm.all (nameOk Tryd.prog) = true := by kernel_rfl
theorem ex_ok : ex.all (extFits Tryd.prog) = true := by kernel_rfl
noncomputable def cx : Cx := Cx.of Tryd.prog
noncomputable def st0 : St := ⟨over0 .nil [(0, .row 128 [.int .i64 0, .int .i64 0, .int .i64 29, .int .i64 4096, .int .i64 23, .int .i64 4096, .int .i64 21, .int .i64 4096, .int .i64 19, .int .i64 19, .int .i64 23, .int .i64 23] false false)], 3⟩
def ids : List Nat := [0]
noncomputable def ovE : Ov := ovOf cx ex
def fks : List Nat := [74, 95]
noncomputable def ov0 : Ov := ovFork cx fks 1000000 ovE
theorem ov0_ok : OvOk Tryd.prog ov0 ∧ OvMono ov0 ∧ OvIds ov0 := ovFork_all Tryd.checked.mixed (ovOf_ok ex_ok) (ovOf_mono ex) (ovOf_ids ex) fks 1000000
def me0 : HMemo := { f := 46, args := [.slice none 0 0, .slice (some ⟨3, 0, none⟩) 4068 4068, .slice (some ⟨4, 0, none⟩) 5 openCap], objs := [(3, .row 5 (rep 4068 [.int .u8 0]) false false), (4, .row 5 [.int .u8 32, .int .u8 0, .int .u8 0, .int .u8 0, .int .u8 1] true false)], n0 := 5, n1 := 20, v := .agg #[.int .u8 2, .slice (some ⟨19, 0, none⟩) 4077 openCap], news := [(19, .row 5 ([.int .u8 0, .int .u8 0, .int .u8 15, .int .u8 228] ++ rep 4068 [.int .u8 0] ++ [.int .u8 32, .int .u8 0, .int .u8 0, .int .u8 0, .int .u8 1]) true true)], ids := ids }
theorem me0_ok : hmemoOk cx ov0 1000000 st0 me0 = true := by kernel_rfl
def me1 : HMemo := { f := 46, args := [.slice none 0 0, .slice (some ⟨3, 0, none⟩) 4068 4068, .slice (some ⟨4, 0, none⟩) 5 openCap], objs := [(3, .row 5 (rep 4068 [.int .u8 0]) false false), (4, .row 5 [.int .u8 32, .int .u8 0, .int .u8 0, .int .u8 0, .int .u8 2] true false)], n0 := 5, n1 := 20, v := .agg #[.int .u8 2, .slice (some ⟨19, 0, none⟩) 4077 openCap], news := [(19, .row 5 ([.int .u8 0, .int .u8 0, .int .u8 15, .int .u8 228] ++ rep 4068 [.int .u8 0] ++ [.int .u8 32, .int .u8 0, .int .u8 0, .int .u8 0, .int .u8 2]) true true)], ids := ids }
theorem me1_ok : hmemoOk cx ov0 1000000 st0 me1 = true := by kernel_rfl
def me2 : HMemo := { f := 11, args := [.agg #[.int .u8 2, .slice (some ⟨3, 0, none⟩) 4077 openCap]], objs := [(3, .row 5 ([.int .u8 0, .int .u8 0, .int .u8 15, .int .u8 228] ++ rep 4068 [.int .u8 0] ++ [.int .u8 32, .int .u8 0, .int .u8 0, .int .u8 0, .int .u8 1]) true false)], n0 := 4, n1 := 17, v := .tuple #[.slice (some ⟨16, 0, none⟩) 4096 openCap, .int .i64 0], news := [(16, .row 5 (rep 16 [.int .u8 255] ++ [.int .u8 16, .int .u8 0, .int .u8 2, .int .u8 0, .int .u8 0, .int .u8 15, .int .u8 228] ++ rep 4068 [.int .u8 0] ++ [.int .u8 32, .int .u8 0, .int .u8 0, .int .u8 0, .int .u8 1]) true true)], ids := ids }
theorem me2_ok : hmemoOk cx ov0 1000000 st0 me2 = true := by kernel_rfl
def memos0 : List HMemo := [me0, me1, me2]
theorem memos0_ok : ∀ e ∈ memos0, ∃ n, hmemoOk cx ov0 n st0 e = true := hmemoAll_cons ⟨_, me0_ok⟩ (hmemoAll_cons ⟨_, me1_ok⟩ (hmemoAll_cons ⟨_, me2_ok⟩ (hmemoAll_nil)))
noncomputable def ov1 : Ov := ovHeap cx st0 memos0 1000000 ov0
theorem ov1_ok : OvOk Tryd.prog ov1 ∧ OvMono ov1 ∧ OvIds ov1 := ⟨ovHeap_ok Tryd.checked.mixed ov0_ok.1 ov0_ok.2.1 ov0_ok.2.2 memos0_ok, ovHeap_mono ov0_ok.2.1, ovHeap_ids ov0_ok.2.1 ov0_ok.2.2 memos0_ok⟩
end Go.Proofs.YtmimkeikienajaaDoor

/- The chapter's closed statement of lists (ListsKnown) holds: its examples and edges, each as the document says. -/
import Derived.Test.YtffmcdhgacjanaaGreatDoorAi4
import Derived.Test.YtffmcdhgacjanaaGreatDoorTie
import Derived.Test.YtffmcdhgacjanaaGreatDoorCards
import Derived.SevenTiedAt

namespace Go.Proofs.YtffmcdhgacjanaaGreatDoor
open Go Go.Ai

def ex : List (Nat × Xt) := [(202, .indexByte), (189, .count), (182, .same), (183, (.makeNoZero 5))]
def nm : List (String × TypeId) := [("errors.errorString", 256)]
set_option maxRecDepth 1000000
theorem nm_ok : nm.all (nameOk Tryz.prog) = true := by kernel_rfl
theorem ex_ok : ex.all (extFits Tryz.prog) = true := by kernel_rfl
noncomputable def cx : Cx := Cx.of Tryz.prog
noncomputable def st0 : St := startOf Tryz.prog nm [] Rows.listsKnownRow.laid
def ids : List Nat := [0, 1, 2, 3, 4, 6, 7, 8, 9, 10, 11, 12, 13]
noncomputable def ov0 : Ov := ovOf cx ex
theorem ov0_ok : OvOk Tryz.prog ov0 ∧ OvMono ov0 ∧ OvIds ov0 := ⟨ovOf_ok ex_ok, ovOf_mono ex, ovOf_ids ex⟩
def me0 : Memo := ⟨72, [.string ⟨#[57]⟩, .string ⟨#[48, 49, 50, 51, 52, 53, 54, 55, 56, 57]⟩], .string ⟨#[]⟩, ids⟩
theorem me0_ok : memoOk cx ov0 1000000 st0 me0 = true := memoF_ok (by kernel_rfl)
def me1 : Memo := ⟨72, [.string ⟨#[48, 57]⟩, .string ⟨#[48, 49, 50, 51, 52, 53, 54, 55, 56, 57]⟩], .string ⟨#[]⟩, ids⟩
theorem me1_ok : memoOk cx ov0 1000000 st0 me1 = true := memoF_ok (by kernel_rfl)
def me2 : Memo := ⟨72, [.string ⟨#[55]⟩, .string ⟨#[48, 49, 50, 51, 52, 53, 54, 55, 56, 57]⟩], .string ⟨#[]⟩, ids⟩
theorem me2_ok : memoOk cx ov0 1000000 st0 me2 = true := memoF_ok (by kernel_rfl)
def me3 : Memo := ⟨72, [.string ⟨#[49, 48]⟩, .string ⟨#[48, 49, 50, 51, 52, 53, 54, 55, 56, 57]⟩], .string ⟨#[]⟩, ids⟩
theorem me3_ok : memoOk cx ov0 1000000 st0 me3 = true := memoF_ok (by kernel_rfl)
def me4 : Memo := ⟨72, [.string ⟨#[48]⟩, .string ⟨#[48, 49, 50, 51, 52, 53, 54, 55, 56, 57]⟩], .string ⟨#[]⟩, ids⟩
theorem me4_ok : memoOk cx ov0 1000000 st0 me4 = true := memoF_ok (by kernel_rfl)
def me5 : Memo := ⟨72, [.string ⟨#[56]⟩, .string ⟨#[48, 49, 50, 51, 52, 53, 54, 55, 56, 57]⟩], .string ⟨#[]⟩, ids⟩
theorem me5_ok : memoOk cx ov0 1000000 st0 me5 = true := memoF_ok (by kernel_rfl)
def me6 : Memo := ⟨72, [.string ⟨#[51, 51]⟩, .string ⟨#[48, 49, 50, 51, 52, 53, 54, 55, 56, 57]⟩], .string ⟨#[]⟩, ids⟩
theorem me6_ok : memoOk cx ov0 1000000 st0 me6 = true := memoF_ok (by kernel_rfl)
def me7 : Memo := ⟨72, [.string ⟨#[50, 48]⟩, .string ⟨#[48, 49, 50, 51, 52, 53, 54, 55, 56, 57]⟩], .string ⟨#[]⟩, ids⟩
theorem me7_ok : memoOk cx ov0 1000000 st0 me7 = true := memoF_ok (by kernel_rfl)
def me8 : Memo := ⟨72, [.string ⟨#[49, 57]⟩, .string ⟨#[48, 49, 50, 51, 52, 53, 54, 55, 56, 57]⟩], .string ⟨#[]⟩, ids⟩
theorem me8_ok : memoOk cx ov0 1000000 st0 me8 = true := memoF_ok (by kernel_rfl)
def me9 : Memo := ⟨72, [.string ⟨#[49]⟩, .string ⟨#[48, 49, 50, 51, 52, 53, 54, 55, 56, 57]⟩], .string ⟨#[]⟩, ids⟩
theorem me9_ok : memoOk cx ov0 1000000 st0 me9 = true := memoF_ok (by kernel_rfl)
def me10 : Memo := ⟨72, [.string ⟨#[51, 50]⟩, .string ⟨#[48, 49, 50, 51, 52, 53, 54, 55, 56, 57]⟩], .string ⟨#[]⟩, ids⟩
theorem me10_ok : memoOk cx ov0 1000000 st0 me10 = true := memoF_ok (by kernel_rfl)
def me11 : Memo := ⟨72, [.string ⟨#[49]⟩, .string ⟨#[48, 49, 50, 51, 52, 53, 54, 55, 56, 57, 46]⟩], .string ⟨#[]⟩, ids⟩
theorem me11_ok : memoOk cx ov0 1000000 st0 me11 = true := memoF_ok (by kernel_rfl)
def me12 : Memo := ⟨72, [.string ⟨#[49, 46, 53]⟩, .string ⟨#[48, 49, 50, 51, 52, 53, 54, 55, 56, 57, 46]⟩], .string ⟨#[]⟩, ids⟩
theorem me12_ok : memoOk cx ov0 1000000 st0 me12 = true := memoF_ok (by kernel_rfl)
def me13 : Memo := ⟨72, [.string ⟨#[50]⟩, .string ⟨#[48, 49, 50, 51, 52, 53, 54, 55, 56, 57, 46]⟩], .string ⟨#[]⟩, ids⟩
theorem me13_ok : memoOk cx ov0 1000000 st0 me13 = true := memoF_ok (by kernel_rfl)
def me14 : Memo := ⟨72, [.string ⟨#[53]⟩, .string ⟨#[48, 49, 50, 51, 52, 53, 54, 55, 56, 57]⟩], .string ⟨#[]⟩, ids⟩
theorem me14_ok : memoOk cx ov0 1000000 st0 me14 = true := memoF_ok (by kernel_rfl)
def me15 : Memo := ⟨72, [.string ⟨#[50]⟩, .string ⟨#[48, 49, 50, 51, 52, 53, 54, 55, 56, 57]⟩], .string ⟨#[]⟩, ids⟩
theorem me15_ok : memoOk cx ov0 1000000 st0 me15 = true := memoF_ok (by kernel_rfl)
def me16 : Memo := ⟨72, [.string ⟨#[120]⟩, .string ⟨#[48, 49, 50, 51, 52, 53, 54, 55, 56, 57, 46]⟩], .string ⟨#[120]⟩, ids⟩
theorem me16_ok : memoOk cx ov0 1000000 st0 me16 = true := memoF_ok (by kernel_rfl)
def me17 : Memo := ⟨72, [.string ⟨#[48, 49]⟩, .string ⟨#[48, 49, 50, 51, 52, 53, 54, 55, 56, 57, 46]⟩], .string ⟨#[]⟩, ids⟩
theorem me17_ok : memoOk cx ov0 1000000 st0 me17 = true := memoF_ok (by kernel_rfl)
def me18 : Memo := ⟨72, [.string ⟨#[48, 49]⟩, .string ⟨#[48, 49, 50, 51, 52, 53, 54, 55, 56, 57]⟩], .string ⟨#[]⟩, ids⟩
theorem me18_ok : memoOk cx ov0 1000000 st0 me18 = true := memoF_ok (by kernel_rfl)
def me19 : Memo := ⟨72, [.string ⟨#[52, 50, 57, 52, 57, 54, 55, 50, 57, 54]⟩, .string ⟨#[48, 49, 50, 51, 52, 53, 54, 55, 56, 57, 46]⟩], .string ⟨#[]⟩, ids⟩
theorem me19_ok : memoOk cx ov0 1000000 st0 me19 = true := memoF_ok (by kernel_rfl)
def me20 : Memo := ⟨72, [.string ⟨#[52, 50, 57, 52, 57, 54, 55, 50, 57, 54]⟩, .string ⟨#[48, 49, 50, 51, 52, 53, 54, 55, 56, 57]⟩], .string ⟨#[]⟩, ids⟩
theorem me20_ok : memoOk cx ov0 1000000 st0 me20 = true := memoF_ok (by kernel_rfl)
def me21 : Memo := ⟨72, [.string ⟨#[42, 42]⟩, .string ⟨#[48, 49, 50, 51, 52, 53, 54, 55, 56, 57, 46]⟩], .string ⟨#[42, 42]⟩, ids⟩
theorem me21_ok : memoOk cx ov0 1000000 st0 me21 = true := memoF_ok (by kernel_rfl)
def me22 : Memo := ⟨72, [.string ⟨#[46, 46]⟩, .string ⟨#[48, 49, 50, 51, 52, 53, 54, 55, 56, 57, 46]⟩], .string ⟨#[]⟩, ids⟩
theorem me22_ok : memoOk cx ov0 1000000 st0 me22 = true := memoF_ok (by kernel_rfl)
def me23 : Memo := ⟨72, [.string ⟨#[46]⟩, .string ⟨#[48, 49, 50, 51, 52, 53, 54, 55, 56, 57]⟩], .string ⟨#[46]⟩, ids⟩
theorem me23_ok : memoOk cx ov0 1000000 st0 me23 = true := memoF_ok (by kernel_rfl)
def me24 : Memo := ⟨72, [.string ⟨#[54, 53, 53, 51, 53]⟩, .string ⟨#[48, 49, 50, 51, 52, 53, 54, 55, 56, 57]⟩], .string ⟨#[]⟩, ids⟩
theorem me24_ok : memoOk cx ov0 1000000 st0 me24 = true := memoF_ok (by kernel_rfl)
def me25 : Memo := ⟨72, [.string ⟨#[54, 53, 50, 56, 49]⟩, .string ⟨#[48, 49, 50, 51, 52, 53, 54, 55, 56, 57]⟩], .string ⟨#[]⟩, ids⟩
theorem me25_ok : memoOk cx ov0 1000000 st0 me25 = true := memoF_ok (by kernel_rfl)
def me26 : Memo := ⟨72, [.string ⟨#[54, 53, 53, 51, 54]⟩, .string ⟨#[48, 49, 50, 51, 52, 53, 54, 55, 56, 57]⟩], .string ⟨#[]⟩, ids⟩
theorem me26_ok : memoOk cx ov0 1000000 st0 me26 = true := memoF_ok (by kernel_rfl)
def me27 : Memo := ⟨72, [.string ⟨#[50, 58, 51]⟩, .string ⟨#[48, 49, 50, 51, 52, 53, 54, 55, 56, 57]⟩], .string ⟨#[58]⟩, ids⟩
theorem me27_ok : memoOk cx ov0 1000000 st0 me27 = true := memoF_ok (by kernel_rfl)
def me28 : Memo := ⟨72, [.string ⟨#[110, 111, 45, 119, 97, 121]⟩, .string ⟨#[48, 49, 50, 51, 52, 53, 54, 55, 56, 57]⟩], .string ⟨#[110, 111, 45, 119, 97, 121]⟩, ids⟩
theorem me28_ok : memoOk cx ov0 1000000 st0 me28 = true := memoF_ok (by kernel_rfl)
def me29 : Memo := ⟨72, [.string ⟨#[51]⟩, .string ⟨#[48, 49, 50, 51, 52, 53, 54, 55, 56, 57]⟩], .string ⟨#[]⟩, ids⟩
theorem me29_ok : memoOk cx ov0 1000000 st0 me29 = true := memoF_ok (by kernel_rfl)
def me30 : Memo := ⟨72, [.string ⟨#[52]⟩, .string ⟨#[48, 49, 50, 51, 52, 53, 54, 55, 56, 57]⟩], .string ⟨#[]⟩, ids⟩
theorem me30_ok : memoOk cx ov0 1000000 st0 me30 = true := memoF_ok (by kernel_rfl)
def me31 : Memo := ⟨72, [.string ⟨#[54]⟩, .string ⟨#[48, 49, 50, 51, 52, 53, 54, 55, 56, 57]⟩], .string ⟨#[]⟩, ids⟩
theorem me31_ok : memoOk cx ov0 1000000 st0 me31 = true := memoF_ok (by kernel_rfl)
def me32 : Memo := ⟨72, [.string ⟨#[49, 49]⟩, .string ⟨#[48, 49, 50, 51, 52, 53, 54, 55, 56, 57]⟩], .string ⟨#[]⟩, ids⟩
theorem me32_ok : memoOk cx ov0 1000000 st0 me32 = true := memoF_ok (by kernel_rfl)
def me33 : Memo := ⟨72, [.string ⟨#[49, 50]⟩, .string ⟨#[48, 49, 50, 51, 52, 53, 54, 55, 56, 57]⟩], .string ⟨#[]⟩, ids⟩
theorem me33_ok : memoOk cx ov0 1000000 st0 me33 = true := memoF_ok (by kernel_rfl)
def me34 : Memo := ⟨72, [.string ⟨#[49, 51]⟩, .string ⟨#[48, 49, 50, 51, 52, 53, 54, 55, 56, 57]⟩], .string ⟨#[]⟩, ids⟩
theorem me34_ok : memoOk cx ov0 1000000 st0 me34 = true := memoF_ok (by kernel_rfl)
def me35 : Memo := ⟨72, [.string ⟨#[49, 52]⟩, .string ⟨#[48, 49, 50, 51, 52, 53, 54, 55, 56, 57]⟩], .string ⟨#[]⟩, ids⟩
theorem me35_ok : memoOk cx ov0 1000000 st0 me35 = true := memoF_ok (by kernel_rfl)
def me36 : Memo := ⟨72, [.string ⟨#[49, 53]⟩, .string ⟨#[48, 49, 50, 51, 52, 53, 54, 55, 56, 57]⟩], .string ⟨#[]⟩, ids⟩
theorem me36_ok : memoOk cx ov0 1000000 st0 me36 = true := memoF_ok (by kernel_rfl)
def me37 : Memo := ⟨72, [.string ⟨#[49, 54]⟩, .string ⟨#[48, 49, 50, 51, 52, 53, 54, 55, 56, 57]⟩], .string ⟨#[]⟩, ids⟩
theorem me37_ok : memoOk cx ov0 1000000 st0 me37 = true := memoF_ok (by kernel_rfl)
def me38 : Memo := ⟨72, [.string ⟨#[49, 55]⟩, .string ⟨#[48, 49, 50, 51, 52, 53, 54, 55, 56, 57]⟩], .string ⟨#[]⟩, ids⟩
theorem me38_ok : memoOk cx ov0 1000000 st0 me38 = true := memoF_ok (by kernel_rfl)
def me39 : Memo := ⟨72, [.string ⟨#[49, 48]⟩, .string ⟨#[48, 49, 50, 51, 52, 53, 54, 55, 56, 57, 46]⟩], .string ⟨#[]⟩, ids⟩
theorem me39_ok : memoOk cx ov0 1000000 st0 me39 = true := memoF_ok (by kernel_rfl)
def me40 : Memo := ⟨72, [.string ⟨#[50, 48]⟩, .string ⟨#[48, 49, 50, 51, 52, 53, 54, 55, 56, 57, 46]⟩], .string ⟨#[]⟩, ids⟩
theorem me40_ok : memoOk cx ov0 1000000 st0 me40 = true := memoF_ok (by kernel_rfl)
def memos0 : List Memo := [me0, me1, me2, me3, me4, me5, me6, me7, me8, me9, me10, me11, me12, me13, me14, me15, me16, me17, me18, me19, me20, me21, me22, me23, me24, me25, me26, me27, me28, me29, me30, me31, me32, me33, me34, me35, me36, me37, me38, me39, me40]
theorem memos0_ok : ∀ e ∈ memos0, ∃ n, memoOk cx ov0 n st0 e = true := memoAll_cons ⟨_, me0_ok⟩ (memoAll_cons ⟨_, me1_ok⟩ (memoAll_cons ⟨_, me2_ok⟩ (memoAll_cons ⟨_, me3_ok⟩ (memoAll_cons ⟨_, me4_ok⟩ (memoAll_cons ⟨_, me5_ok⟩ (memoAll_cons ⟨_, me6_ok⟩ (memoAll_cons ⟨_, me7_ok⟩ (memoAll_cons ⟨_, me8_ok⟩ (memoAll_cons ⟨_, me9_ok⟩ (memoAll_cons ⟨_, me10_ok⟩ (memoAll_cons ⟨_, me11_ok⟩ (memoAll_cons ⟨_, me12_ok⟩ (memoAll_cons ⟨_, me13_ok⟩ (memoAll_cons ⟨_, me14_ok⟩ (memoAll_cons ⟨_, me15_ok⟩ (memoAll_cons ⟨_, me16_ok⟩ (memoAll_cons ⟨_, me17_ok⟩ (memoAll_cons ⟨_, me18_ok⟩ (memoAll_cons ⟨_, me19_ok⟩ (memoAll_cons ⟨_, me20_ok⟩ (memoAll_cons ⟨_, me21_ok⟩ (memoAll_cons ⟨_, me22_ok⟩ (memoAll_cons ⟨_, me23_ok⟩ (memoAll_cons ⟨_, me24_ok⟩ (memoAll_cons ⟨_, me25_ok⟩ (memoAll_cons ⟨_, me26_ok⟩ (memoAll_cons ⟨_, me27_ok⟩ (memoAll_cons ⟨_, me28_ok⟩ (memoAll_cons ⟨_, me29_ok⟩ (memoAll_cons ⟨_, me30_ok⟩ (memoAll_cons ⟨_, me31_ok⟩ (memoAll_cons ⟨_, me32_ok⟩ (memoAll_cons ⟨_, me33_ok⟩ (memoAll_cons ⟨_, me34_ok⟩ (memoAll_cons ⟨_, me35_ok⟩ (memoAll_cons ⟨_, me36_ok⟩ (memoAll_cons ⟨_, me37_ok⟩ (memoAll_cons ⟨_, me38_ok⟩ (memoAll_cons ⟨_, me39_ok⟩ (memoAll_cons ⟨_, me40_ok⟩ (memoAll_nil)))))))))))))))))))))))))))))))))))))))))
noncomputable def ov1 : Ov := ovMemo cx st0 memos0 1000000 ov0
theorem ov1_ok : OvOk Tryz.prog ov1 ∧ OvMono ov1 ∧ OvIds ov1 := ⟨ovMemo_ok Tryz.checked.mixed ov0_ok.1 ov0_ok.2.1 ov0_ok.2.2 memos0_ok, ovMemo_mono ov0_ok.2.1, ovMemo_ids ov0_ok.2.1 ov0_ok.2.2⟩
def me41 : Memo := ⟨23, [.string ⟨#[]⟩], .tuple #[.agg #[.bool false, .int .u32 0, .int .i64 0, .int .i64 0, .int .i64 0], .int .i64 5], ids⟩
theorem me41_ok : memoOk cx ov1 1000000 st0 me41 = true := memoF_ok (by kernel_rfl)
def me42 : Memo := ⟨23, [.string ⟨#[112, 101, 114, 109, 105, 116]⟩], .tuple #[.agg #[.bool false, .int .u32 0, .int .i64 0, .int .i64 0, .int .i64 0], .int .i64 5], ids⟩
theorem me42_ok : memoOk cx ov1 1000000 st0 me42 = true := memoF_ok (by kernel_rfl)
def me43 : Memo := ⟨23, [.string ⟨#[97, 108, 108, 111, 119, 32, 49, 48, 46, 48, 46, 48, 46, 48, 47, 56]⟩], .tuple #[.agg #[.bool false, .int .u32 0, .int .i64 0, .int .i64 0, .int .i64 0], .int .i64 5], ids⟩
theorem me43_ok : memoOk cx ov1 1000000 st0 me43 = true := memoF_ok (by kernel_rfl)
def me44 : Memo := ⟨23, [.string ⟨#[112, 101, 114, 109, 105, 116, 32, 32, 49, 48, 46, 48, 46, 48, 46, 48, 47, 56]⟩], .tuple #[.agg #[.bool false, .int .u32 0, .int .i64 0, .int .i64 0, .int .i64 0], .int .i64 5], ids⟩
theorem me44_ok : memoOk cx ov1 1000000 st0 me44 = true := memoF_ok (by kernel_rfl)
def me45 : Memo := ⟨23, [.string ⟨#[112, 101, 114, 109, 105, 116, 32, 49, 48, 46, 48, 46, 48, 46, 48, 47, 56, 32]⟩], .tuple #[.agg #[.bool false, .int .u32 0, .int .i64 0, .int .i64 0, .int .i64 0], .int .i64 5], ids⟩
theorem me45_ok : memoOk cx ov1 1000000 st0 me45 = true := memoF_ok (by kernel_rfl)
def me46 : Memo := ⟨23, [.string ⟨#[112, 101, 114, 109, 105, 116, 32, 49, 48, 46, 48, 46, 48, 46, 48, 47, 56, 32, 103, 101]⟩], .tuple #[.agg #[.bool false, .int .u32 0, .int .i64 0, .int .i64 0, .int .i64 0], .int .i64 5], ids⟩
theorem me46_ok : memoOk cx ov1 1000000 st0 me46 = true := memoF_ok (by kernel_rfl)
def me47 : Memo := ⟨23, [.string ⟨#[112, 101, 114, 109, 105, 116, 32, 49, 48, 46, 48, 46, 48, 46, 48, 47, 56, 32, 103, 101, 32, 57, 32, 103, 101, 32, 49, 48]⟩], .tuple #[.agg #[.bool false, .int .u32 0, .int .i64 0, .int .i64 0, .int .i64 0], .int .i64 5], ids⟩
theorem me47_ok : memoOk cx ov1 1000000 st0 me47 = true := memoF_ok (by kernel_rfl)
def me48 : Memo := ⟨23, [.string ⟨#[112, 101, 114, 109, 105, 116, 32, 49, 48, 46, 48, 46, 48, 46, 48, 47, 56, 32, 108, 101, 32, 57, 32, 103, 101, 32, 57]⟩], .tuple #[.agg #[.bool false, .int .u32 0, .int .i64 0, .int .i64 0, .int .i64 0], .int .i64 5], ids⟩
theorem me48_ok : memoOk cx ov1 1000000 st0 me48 = true := memoF_ok (by kernel_rfl)
def me49 : Memo := ⟨23, [.string ⟨#[112, 101, 114, 109, 105, 116, 32, 49, 48, 46, 48, 46, 48, 46, 48, 47, 56, 32, 101, 113, 32, 57]⟩], .tuple #[.agg #[.bool false, .int .u32 0, .int .i64 0, .int .i64 0, .int .i64 0], .int .i64 5], ids⟩
theorem me49_ok : memoOk cx ov1 1000000 st0 me49 = true := memoF_ok (by kernel_rfl)
def me50 : Memo := ⟨23, [.string ⟨#[112, 101, 114, 109, 105, 116, 32, 49, 48, 46, 48, 46, 48, 46, 48, 47, 56, 32, 103, 101, 32, 48, 57]⟩], .tuple #[.agg #[.bool false, .int .u32 0, .int .i64 0, .int .i64 0, .int .i64 0], .int .i64 5], ids⟩
theorem me50_ok : memoOk cx ov1 1000000 st0 me50 = true := memoF_ok (by kernel_rfl)
def me51 : Memo := ⟨23, [.string ⟨#[112, 101, 114, 109, 105, 116, 32, 49, 48, 46, 48, 46, 48, 46, 48, 47, 56, 32, 103, 101, 32, 55]⟩], .tuple #[.agg #[.bool false, .int .u32 0, .int .i64 0, .int .i64 0, .int .i64 0], .int .i64 24], ids⟩
theorem me51_ok : memoOk cx ov1 1000000 st0 me51 = true := memoF_ok (by kernel_rfl)
def me52 : Memo := ⟨23, [.string ⟨#[112, 101, 114, 109, 105, 116, 32, 49, 48, 46, 48, 46, 48, 46, 48, 47, 56, 32, 103, 101, 32, 51, 51]⟩], .tuple #[.agg #[.bool false, .int .u32 0, .int .i64 0, .int .i64 0, .int .i64 0], .int .i64 24], ids⟩
theorem me52_ok : memoOk cx ov1 1000000 st0 me52 = true := memoF_ok (by kernel_rfl)
def me53 : Memo := ⟨23, [.string ⟨#[112, 101, 114, 109, 105, 116, 32, 48, 46, 48, 46, 48, 46, 48, 47, 48, 32, 108, 101, 32, 48]⟩], .tuple #[.agg #[.bool false, .int .u32 0, .int .i64 0, .int .i64 0, .int .i64 0], .int .i64 24], ids⟩
theorem me53_ok : memoOk cx ov1 1000000 st0 me53 = true := memoF_ok (by kernel_rfl)
def me54 : Memo := ⟨23, [.string ⟨#[112, 101, 114, 109, 105, 116, 32, 49, 48, 46, 48, 46, 48, 46, 48, 47, 56, 32, 103, 101, 32, 50, 48, 32, 108, 101, 32, 49, 57]⟩], .tuple #[.agg #[.bool false, .int .u32 0, .int .i64 0, .int .i64 0, .int .i64 0], .int .i64 24], ids⟩
theorem me54_ok : memoOk cx ov1 1000000 st0 me54 = true := memoF_ok (by kernel_rfl)
def me55 : Memo := ⟨23, [.string ⟨#[112, 101, 114, 109, 105, 116, 32, 49, 48, 46, 48, 46, 48, 46, 49, 47, 56]⟩], .tuple #[.agg #[.bool false, .int .u32 0, .int .i64 0, .int .i64 0, .int .i64 0], .int .i64 24], ids⟩
theorem me55_ok : memoOk cx ov1 1000000 st0 me55 = true := memoF_ok (by kernel_rfl)
def me56 : Memo := ⟨23, [.string ⟨#[112, 101, 114, 109, 105, 116, 32, 49, 48, 46, 48, 46, 48, 47, 56]⟩], .tuple #[.agg #[.bool false, .int .u32 0, .int .i64 0, .int .i64 0, .int .i64 0], .int .i64 5], ids⟩
theorem me56_ok : memoOk cx ov1 1000000 st0 me56 = true := memoF_ok (by kernel_rfl)
def me57 : Memo := ⟨23, [.string ⟨#[100, 101, 110, 121, 32, 48, 46, 48, 46, 48, 46, 48, 47, 48, 32, 108, 101, 32, 51, 50]⟩], .tuple #[.agg #[.bool false, .int .u32 0, .int .i64 0, .int .i64 0, .int .i64 32], .int .i64 0], ids⟩
theorem me57_ok : memoOk cx ov1 1000000 st0 me57 = true := memoF_ok (by kernel_rfl)
def me58 : Memo := ⟨23, [.string ⟨#[100, 101, 110, 121, 32, 49, 48, 46, 48, 46, 48, 46, 48, 47, 56, 32, 103, 101, 32, 56]⟩], .tuple #[.agg #[.bool false, .int .u32 167772160, .int .i64 8, .int .i64 8, .int .i64 0], .int .i64 0], ids⟩
theorem me58_ok : memoOk cx ov1 1000000 st0 me58 = true := memoF_ok (by kernel_rfl)
def me59 : Memo := ⟨23, [.string ⟨#[112, 101, 114, 109, 105, 116, 32, 49, 48, 46, 48, 46, 48, 46, 48, 47, 56, 32, 103, 101, 32, 57, 32, 108, 101, 32, 57]⟩], .tuple #[.agg #[.bool true, .int .u32 167772160, .int .i64 8, .int .i64 9, .int .i64 9], .int .i64 0], ids⟩
theorem me59_ok : memoOk cx ov1 1000000 st0 me59 = true := memoF_ok (by kernel_rfl)
def me60 : Memo := ⟨74, [.string ⟨#[49]⟩], .tuple #[.int .u32 1, .int .i64 0], ids⟩
theorem me60_ok : memoOk cx ov1 1000000 st0 me60 = true := memoF_ok (by kernel_rfl)
def me61 : Memo := ⟨74, [.string ⟨#[49, 46, 53]⟩], .tuple #[.int .u32 65541, .int .i64 0], ids⟩
theorem me61_ok : memoOk cx ov1 1000000 st0 me61 = true := memoF_ok (by kernel_rfl)
def me62 : Memo := ⟨74, [.string ⟨#[50]⟩], .tuple #[.int .u32 2, .int .i64 0], ids⟩
theorem me62_ok : memoOk cx ov1 1000000 st0 me62 = true := memoF_ok (by kernel_rfl)
def me63 : Memo := ⟨74, [.string ⟨#[48, 49]⟩], .tuple #[.int .u32 0, .int .i64 5], ids⟩
theorem me63_ok : memoOk cx ov1 1000000 st0 me63 = true := memoF_ok (by kernel_rfl)
def me64 : Memo := ⟨74, [.string ⟨#[52, 50, 57, 52, 57, 54, 55, 50, 57, 54]⟩], .tuple #[.int .u32 0, .int .i64 24], ids⟩
theorem me64_ok : memoOk cx ov1 1000000 st0 me64 = true := memoF_ok (by kernel_rfl)
def me65 : Memo := ⟨74, [.string ⟨#[46, 46]⟩], .tuple #[.int .u32 0, .int .i64 5], ids⟩
theorem me65_ok : memoOk cx ov1 1000000 st0 me65 = true := memoF_ok (by kernel_rfl)
def me66 : Memo := ⟨77, [.string ⟨#[49, 58, 50]⟩], .tuple #[.int .u32 65538, .int .i64 0], ids⟩
theorem me66_ok : memoOk cx ov1 1000000 st0 me66 = true := memoF_ok (by kernel_rfl)
def me67 : Memo := ⟨77, [.string ⟨#[49, 58, 49]⟩], .tuple #[.int .u32 65537, .int .i64 0], ids⟩
theorem me67_ok : memoOk cx ov1 1000000 st0 me67 = true := memoF_ok (by kernel_rfl)
def me68 : Memo := ⟨77, [.string ⟨#[54, 53, 53, 51, 53, 58, 54, 53, 50, 56, 49]⟩], .tuple #[.int .u32 4294967041, .int .i64 0], ids⟩
theorem me68_ok : memoOk cx ov1 1000000 st0 me68 = true := memoF_ok (by kernel_rfl)
def me69 : Memo := ⟨77, [.string ⟨#[110, 111, 45, 101, 120, 112, 111, 114, 116]⟩], .tuple #[.int .u32 4294967041, .int .i64 0], ids⟩
theorem me69_ok : memoOk cx ov1 1000000 st0 me69 = true := memoF_ok (by kernel_rfl)
def me70 : Memo := ⟨77, [.string ⟨#[54, 53, 53, 51, 54, 58, 49]⟩], .tuple #[.int .u32 0, .int .i64 24], ids⟩
theorem me70_ok : memoOk cx ov1 1000000 st0 me70 = true := memoF_ok (by kernel_rfl)
def me71 : Memo := ⟨77, [.string ⟨#[49]⟩], .tuple #[.int .u32 0, .int .i64 5], ids⟩
theorem me71_ok : memoOk cx ov1 1000000 st0 me71 = true := memoF_ok (by kernel_rfl)
def me72 : Memo := ⟨77, [.string ⟨#[49, 58]⟩], .tuple #[.int .u32 0, .int .i64 5], ids⟩
theorem me72_ok : memoOk cx ov1 1000000 st0 me72 = true := memoF_ok (by kernel_rfl)
def me73 : Memo := ⟨77, [.string ⟨#[49, 58, 50, 58, 51]⟩], .tuple #[.int .u32 0, .int .i64 5], ids⟩
theorem me73_ok : memoOk cx ov1 1000000 st0 me73 = true := memoF_ok (by kernel_rfl)
def me74 : Memo := ⟨77, [.string ⟨#[110, 111, 45, 119, 97, 121]⟩], .tuple #[.int .u32 0, .int .i64 5], ids⟩
theorem me74_ok : memoOk cx ov1 1000000 st0 me74 = true := memoF_ok (by kernel_rfl)
def me75 : Memo := ⟨77, [.string ⟨#[49, 58, 51]⟩], .tuple #[.int .u32 65539, .int .i64 0], ids⟩
theorem me75_ok : memoOk cx ov1 1000000 st0 me75 = true := memoF_ok (by kernel_rfl)
def me76 : Memo := ⟨77, [.string ⟨#[49, 58, 52]⟩], .tuple #[.int .u32 65540, .int .i64 0], ids⟩
theorem me76_ok : memoOk cx ov1 1000000 st0 me76 = true := memoF_ok (by kernel_rfl)
def me77 : Memo := ⟨77, [.string ⟨#[49, 58, 53]⟩], .tuple #[.int .u32 65541, .int .i64 0], ids⟩
theorem me77_ok : memoOk cx ov1 1000000 st0 me77 = true := memoF_ok (by kernel_rfl)
def me78 : Memo := ⟨77, [.string ⟨#[49, 58, 54]⟩], .tuple #[.int .u32 65542, .int .i64 0], ids⟩
theorem me78_ok : memoOk cx ov1 1000000 st0 me78 = true := memoF_ok (by kernel_rfl)
def me79 : Memo := ⟨77, [.string ⟨#[49, 58, 55]⟩], .tuple #[.int .u32 65543, .int .i64 0], ids⟩
theorem me79_ok : memoOk cx ov1 1000000 st0 me79 = true := memoF_ok (by kernel_rfl)
def me80 : Memo := ⟨77, [.string ⟨#[49, 58, 56]⟩], .tuple #[.int .u32 65544, .int .i64 0], ids⟩
theorem me80_ok : memoOk cx ov1 1000000 st0 me80 = true := memoF_ok (by kernel_rfl)
def me81 : Memo := ⟨77, [.string ⟨#[49, 58, 57]⟩], .tuple #[.int .u32 65545, .int .i64 0], ids⟩
theorem me81_ok : memoOk cx ov1 1000000 st0 me81 = true := memoF_ok (by kernel_rfl)
def me82 : Memo := ⟨77, [.string ⟨#[49, 58, 49, 48]⟩], .tuple #[.int .u32 65546, .int .i64 0], ids⟩
theorem me82_ok : memoOk cx ov1 1000000 st0 me82 = true := memoF_ok (by kernel_rfl)
def me83 : Memo := ⟨77, [.string ⟨#[49, 58, 49, 49]⟩], .tuple #[.int .u32 65547, .int .i64 0], ids⟩
theorem me83_ok : memoOk cx ov1 1000000 st0 me83 = true := memoF_ok (by kernel_rfl)
def me84 : Memo := ⟨77, [.string ⟨#[49, 58, 49, 50]⟩], .tuple #[.int .u32 65548, .int .i64 0], ids⟩
theorem me84_ok : memoOk cx ov1 1000000 st0 me84 = true := memoF_ok (by kernel_rfl)
def me85 : Memo := ⟨77, [.string ⟨#[49, 58, 49, 51]⟩], .tuple #[.int .u32 65549, .int .i64 0], ids⟩
theorem me85_ok : memoOk cx ov1 1000000 st0 me85 = true := memoF_ok (by kernel_rfl)
def me86 : Memo := ⟨77, [.string ⟨#[49, 58, 49, 52]⟩], .tuple #[.int .u32 65550, .int .i64 0], ids⟩
theorem me86_ok : memoOk cx ov1 1000000 st0 me86 = true := memoF_ok (by kernel_rfl)
def me87 : Memo := ⟨77, [.string ⟨#[49, 58, 49, 53]⟩], .tuple #[.int .u32 65551, .int .i64 0], ids⟩
theorem me87_ok : memoOk cx ov1 1000000 st0 me87 = true := memoF_ok (by kernel_rfl)
def me88 : Memo := ⟨77, [.string ⟨#[49, 58, 49, 54]⟩], .tuple #[.int .u32 65552, .int .i64 0], ids⟩
theorem me88_ok : memoOk cx ov1 1000000 st0 me88 = true := memoF_ok (by kernel_rfl)
def me89 : Memo := ⟨77, [.string ⟨#[49, 58, 49, 55]⟩], .tuple #[.int .u32 65553, .int .i64 0], ids⟩
theorem me89_ok : memoOk cx ov1 1000000 st0 me89 = true := memoF_ok (by kernel_rfl)
def me90 : Memo := ⟨77, [.string ⟨#[50, 58, 49]⟩], .tuple #[.int .u32 131073, .int .i64 0], ids⟩
theorem me90_ok : memoOk cx ov1 1000000 st0 me90 = true := memoF_ok (by kernel_rfl)
def me91 : Memo := ⟨77, [.string ⟨#[110, 111, 45, 97, 100, 118, 101, 114, 116, 105, 115, 101]⟩], .tuple #[.int .u32 4294967042, .int .i64 0], ids⟩
theorem me91_ok : memoOk cx ov1 1000000 st0 me91 = true := memoF_ok (by kernel_rfl)
def me92 : Memo := ⟨18, [.agg #[.bool false, .int .u32 0, .int .i64 8, .int .i64 4, .int .i64 0]], .bool false, ids⟩
theorem me92_ok : memoOk cx ov1 1000000 st0 me92 = true := memoF_ok (by kernel_rfl)
def me93 : Memo := ⟨20, [.agg #[.bool false, .int .u32 0, .int .i64 8, .int .i64 4, .int .i64 0], .agg #[.int .u32 0, .int .i64 8]], .bool false, ids⟩
theorem me93_ok : memoOk cx ov1 1000000 st0 me93 = true := memoF_ok (by kernel_rfl)
def me94 : Memo := ⟨20, [.agg #[.bool false, .int .u32 16777216, .int .i64 8, .int .i64 0, .int .i64 0], .agg #[.int .u32 0, .int .i64 0]], .bool false, ids⟩
theorem me94_ok : memoOk cx ov1 1000000 st0 me94 = true := memoF_ok (by kernel_rfl)
def me95 : Memo := ⟨20, [.agg #[.bool true, .int .u32 0, .int .i64 0, .int .i64 0, .int .i64 0], .agg #[.int .u32 0, .int .i64 0]], .bool true, ids⟩
theorem me95_ok : memoOk cx ov1 1000000 st0 me95 = true := memoF_ok (by kernel_rfl)
def me96 : Memo := ⟨23, [.string ⟨#[112, 101, 114, 109, 105, 116, 32, 49, 48, 46, 48, 46, 48, 46, 48, 47, 56, 32, 103, 101, 32, 57, 32, 108, 101, 32, 49, 54]⟩], .tuple #[.agg #[.bool true, .int .u32 167772160, .int .i64 8, .int .i64 9, .int .i64 16], .int .i64 0], ids⟩
theorem me96_ok : memoOk cx ov1 1000000 st0 me96 = true := memoF_ok (by kernel_rfl)
def me97 : Memo := ⟨74, [.string ⟨#[49, 48]⟩], .tuple #[.int .u32 10, .int .i64 0], ids⟩
theorem me97_ok : memoOk cx ov1 1000000 st0 me97 = true := memoF_ok (by kernel_rfl)
def me98 : Memo := ⟨74, [.string ⟨#[50, 48]⟩], .tuple #[.int .u32 20, .int .i64 0], ids⟩
theorem me98_ok : memoOk cx ov1 1000000 st0 me98 = true := memoF_ok (by kernel_rfl)
def me99 : Memo := ⟨20, [.agg #[.bool true, .int .u32 167772160, .int .i64 8, .int .i64 9, .int .i64 16], .agg #[.int .u32 167837696, .int .i64 16]], .bool true, ids⟩
theorem me99_ok : memoOk cx ov1 1000000 st0 me99 = true := memoF_ok (by kernel_rfl)
def me100 : Memo := ⟨20, [.agg #[.bool true, .int .u32 167772160, .int .i64 8, .int .i64 9, .int .i64 16], .agg #[.int .u32 167772160, .int .i64 8]], .bool false, ids⟩
theorem me100_ok : memoOk cx ov1 1000000 st0 me100 = true := memoF_ok (by kernel_rfl)
def me101 : Memo := ⟨20, [.agg #[.bool true, .int .u32 167772160, .int .i64 8, .int .i64 9, .int .i64 16], .agg #[.int .u32 167837952, .int .i64 24]], .bool false, ids⟩
theorem me101_ok : memoOk cx ov1 1000000 st0 me101 = true := memoF_ok (by kernel_rfl)
def memos1 : List Memo := [me41, me42, me43, me44, me45, me46, me47, me48, me49, me50, me51, me52, me53, me54, me55, me56, me57, me58, me59, me60, me61, me62, me63, me64, me65, me66, me67, me68, me69, me70, me71, me72, me73, me74, me75, me76, me77, me78, me79, me80, me81, me82, me83, me84, me85, me86, me87, me88, me89, me90, me91, me92, me93, me94, me95, me96, me97, me98, me99, me100, me101]
theorem memos1_ok : ∀ e ∈ memos1, ∃ n, memoOk cx ov1 n st0 e = true := memoAll_cons ⟨_, me41_ok⟩ (memoAll_cons ⟨_, me42_ok⟩ (memoAll_cons ⟨_, me43_ok⟩ (memoAll_cons ⟨_, me44_ok⟩ (memoAll_cons ⟨_, me45_ok⟩ (memoAll_cons ⟨_, me46_ok⟩ (memoAll_cons ⟨_, me47_ok⟩ (memoAll_cons ⟨_, me48_ok⟩ (memoAll_cons ⟨_, me49_ok⟩ (memoAll_cons ⟨_, me50_ok⟩ (memoAll_cons ⟨_, me51_ok⟩ (memoAll_cons ⟨_, me52_ok⟩ (memoAll_cons ⟨_, me53_ok⟩ (memoAll_cons ⟨_, me54_ok⟩ (memoAll_cons ⟨_, me55_ok⟩ (memoAll_cons ⟨_, me56_ok⟩ (memoAll_cons ⟨_, me57_ok⟩ (memoAll_cons ⟨_, me58_ok⟩ (memoAll_cons ⟨_, me59_ok⟩ (memoAll_cons ⟨_, me60_ok⟩ (memoAll_cons ⟨_, me61_ok⟩ (memoAll_cons ⟨_, me62_ok⟩ (memoAll_cons ⟨_, me63_ok⟩ (memoAll_cons ⟨_, me64_ok⟩ (memoAll_cons ⟨_, me65_ok⟩ (memoAll_cons ⟨_, me66_ok⟩ (memoAll_cons ⟨_, me67_ok⟩ (memoAll_cons ⟨_, me68_ok⟩ (memoAll_cons ⟨_, me69_ok⟩ (memoAll_cons ⟨_, me70_ok⟩ (memoAll_cons ⟨_, me71_ok⟩ (memoAll_cons ⟨_, me72_ok⟩ (memoAll_cons ⟨_, me73_ok⟩ (memoAll_cons ⟨_, me74_ok⟩ (memoAll_cons ⟨_, me75_ok⟩ (memoAll_cons ⟨_, me76_ok⟩ (memoAll_cons ⟨_, me77_ok⟩ (memoAll_cons ⟨_, me78_ok⟩ (memoAll_cons ⟨_, me79_ok⟩ (memoAll_cons ⟨_, me80_ok⟩ (memoAll_cons ⟨_, me81_ok⟩ (memoAll_cons ⟨_, me82_ok⟩ (memoAll_cons ⟨_, me83_ok⟩ (memoAll_cons ⟨_, me84_ok⟩ (memoAll_cons ⟨_, me85_ok⟩ (memoAll_cons ⟨_, me86_ok⟩ (memoAll_cons ⟨_, me87_ok⟩ (memoAll_cons ⟨_, me88_ok⟩ (memoAll_cons ⟨_, me89_ok⟩ (memoAll_cons ⟨_, me90_ok⟩ (memoAll_cons ⟨_, me91_ok⟩ (memoAll_cons ⟨_, me92_ok⟩ (memoAll_cons ⟨_, me93_ok⟩ (memoAll_cons ⟨_, me94_ok⟩ (memoAll_cons ⟨_, me95_ok⟩ (memoAll_cons ⟨_, me96_ok⟩ (memoAll_cons ⟨_, me97_ok⟩ (memoAll_cons ⟨_, me98_ok⟩ (memoAll_cons ⟨_, me99_ok⟩ (memoAll_cons ⟨_, me100_ok⟩ (memoAll_cons ⟨_, me101_ok⟩ (memoAll_nil)))))))))))))))))))))))))))))))))))))))))))))))))))))))))))))
noncomputable def ov2 : Ov := ovMemo cx st0 memos1 1000000 ov1
theorem ov2_ok : OvOk Tryz.prog ov2 ∧ OvMono ov2 ∧ OvIds ov2 := ⟨ovMemo_ok Tryz.checked.mixed ov1_ok.1 ov1_ok.2.1 ov1_ok.2.2 memos1_ok, ovMemo_mono ov1_ok.2.1, ovMemo_ids ov1_ok.2.1 ov1_ok.2.2⟩
theorem known_run : closedRun Tryz.prog ov2 nm [] Rows.listsKnownRow.laid 1000000 6 = true := by kernel_rfl
end Go.Proofs.YtffmcdhgacjanaaGreatDoor

namespace Go.Proofs.YtffmcdhgacjanaaGreatDoor
open Go Go.Ai Go.ChangeShapes Go.WideShapes Go.RowKit

theorem own : ownKnob Tryz.prog.godebug = none := by kernel_rfl

noncomputable def laidW (os : Os) : World := pinWorld (World.doorLaid Tryz.prog 4000 os) [(6, Pinned.utf8First)]

/-- The door's own heap, tables laid by hand, meets the condition. -/
theorem door_met (os : Os) (args : Array Value) : laidMetH Tryz.prog Rows.listsKnownRow.laid ((laidW os).forCall (fun _ _ => 0) ⟨#[], args, []⟩).memory :=
  laidMetH_of_parts3 (fuel := 8) (laidMet_of_run' 8 (by kernel_rfl) (by kernel_rfl)) (by kernel_rfl) (by kernel_rfl)

set_option maxRecDepth 100000 in
theorem lifted (os : Os) (started : os.Started) (H : Type) (enc : TypeId × Value → H) :
    ReturnsInHanded {} Tryz.checked os 6 .any (fun w args => (Rows.listsKnownSpec.pre enc Tryz.prog Tryz.f6 [] false w args ∧ laidMetH Tryz.prog Rows.listsKnownRow.laid w) ∧ sizedMet enc Tryz.prog Tryz.f6 (OpenSpec.ofChange Rows.listsKnownSpec) false w args)
      (Rows.listsKnownSpec.post enc Tryz.prog Tryz.f6 false true false false) :=
  closed_lifted (C := Tryz.checked) (tb := 4) started own (by kernel_rfl) Tryz.func6 rfl rfl (by kernel_rfl) rfl rfl
    (fun W hW => closed_calls Tryz.checked.mixed ov2_ok.1 ov2_ok.2.1 ov2_ok.2.2 nm_ok known_run Tryz.func6 rfl (by decide) hW)
    (ChangeSpec.witness_shaped (enc := enc) (C := Tryz.checked) (os := os) (X := fun w _ => laidMetH Tryz.prog Rows.listsKnownRow.laid w) false (laidW os) #[] 8 rfl (World.shaped_of_RefB (by kernel_rfl) (by kernel_rfl)) (by kernel_rfl) (by kernel_rfl) (by kernel_rfl) (door_met os _))

theorem known_holds : Rows.ListsKnownSaid :=
  OpenClaim.holds_of_wide 6 Tryz.f6 rfl rfl rfl rfl rfl rfl rfl ⟨rfl, rfl, rfl, rfl, rfl⟩ rfl rfl rfl rfl rfl (by kernel_rfl) Tryz.func6 (by kernel_rfl)
    (of_decide_eq_true (by kernel_rfl)) (by unfold Func.isWrapper; first | (rw [if_pos (by decide +kernel)]; kernel_rfl) | (rw [if_neg (by decide +kernel)]; exact ⟨rfl, rfl⟩))
    (fun os started H enc _ => lifted os started H enc)

theorem card_holds : Rows.ListsKnownCardSaid :=
  Claim7.holds_tied_plain_at .later [] [.data, .data, .data, .data, .sentinel, .sentinel, .mapped, .mapped, .pinned] true (true, "e0abcfcefc7c2076dbd42030ad07bb71aa98f37c83b6963f00f9ec8cf1e1ce33") true
    known_holds (fun _ h => by cases h) (by kernel_rfl) (fun _ h => by cases h) listsKnown_row_tie rfl ⟨rfl, rfl⟩ (by kernel_rfl) rfl
    (fun f fn hf hfn => by
      obtain rfl : f = 6 := Option.some.inj ((show Tryz.prog.funcNamed "consulate/consulatelaw23.ListsKnown" = some 6 by kernel_rfl).symm.trans hf) |>.symm
      obtain rfl : fn = Tryz.f6 := (Option.some.inj (Tryz.func6.symm.trans hfn)).symm
      exact ⟨by kernel_rfl, fun j t ht => by
        rw [show Tryz.f6.params = #[] from rfl] at ht
        simp at ht⟩)
    (by kernel_rfl)
#print axioms card_holds
end Go.Proofs.YtffmcdhgacjanaaGreatDoor

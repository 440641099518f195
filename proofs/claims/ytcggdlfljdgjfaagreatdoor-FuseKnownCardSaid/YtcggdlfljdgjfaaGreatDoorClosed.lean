/- FuseKnown of the program's package fuse (layer 9), a closed statement, returns true; all package variables laid as the row says. -/
import Derived.Test.YtcggdlfljdgjfaaGreatDoorAi3
import Derived.Test.YtcggdlfljdgjfaaGreatDoorTie
import Derived.Test.YtcggdlfljdgjfaaGreatDoorCards
import Derived.SevenTiedAt

namespace Go.Proofs.YtcggdlfljdgjfaaGreatDoor
open Go Go.Ai

def ex : List (Nat × Xt) := [(93, .indexByte), (113, .count), (88, .same), (89, (.makeNoZero 5))]
def nm : List (String × TypeId) := [("errors.errorString", 164)]
set_option maxRecDepth 1000000
theorem nm_ok : nm.all (nameOk Tryz.prog) = true := by kernel_rfl
theorem ex_ok : ex.all (extFits Tryz.prog) = true := by kernel_rfl
noncomputable def cx : Cx := Cx.of Tryz.prog
noncomputable def st0 : St := startOf Tryz.prog nm [] Rows.fuseKnownRow.laid
def ids : List Nat := [0, 2, 3, 4, 5, 6, 7, 8, 9, 10]
noncomputable def ov0 : Ov := ovOf cx ex
theorem ov0_ok : OvOk Tryz.prog ov0 ∧ OvMono ov0 ∧ OvIds ov0 := ⟨ovOf_ok ex_ok, ovOf_mono ex, ovOf_ids ex⟩
def me0 : Memo := ⟨51, [.string ⟨#[49]⟩], .bool true, ids⟩
theorem me0_ok : memoOk cx ov0 1000000 st0 me0 = true := memoF_ok (by kernel_rfl)
def me1 : Memo := ⟨51, [.string ⟨#[50]⟩], .bool true, ids⟩
theorem me1_ok : memoOk cx ov0 1000000 st0 me1 = true := memoF_ok (by kernel_rfl)
def me2 : Memo := ⟨42, [.string ⟨#[49]⟩], .tuple #[.int .u32 1, .int .i64 0], ids⟩
theorem me2_ok : memoOk cx ov0 1000000 st0 me2 = true := memoF_ok (by kernel_rfl)
def me3 : Memo := ⟨42, [.string ⟨#[50]⟩], .tuple #[.int .u32 2, .int .i64 0], ids⟩
theorem me3_ok : memoOk cx ov0 1000000 st0 me3 = true := memoF_ok (by kernel_rfl)
def me4 : Memo := ⟨46, [.int .u32 1], .string ⟨#[49]⟩, ids⟩
theorem me4_ok : memoOk cx ov0 1000000 st0 me4 = true := memoF_ok (by kernel_rfl)
def me5 : Memo := ⟨46, [.int .u32 2], .string ⟨#[50]⟩, ids⟩
theorem me5_ok : memoOk cx ov0 1000000 st0 me5 = true := memoF_ok (by kernel_rfl)
def me6 : Memo := ⟨51, [.string ⟨#[51]⟩], .bool true, ids⟩
theorem me6_ok : memoOk cx ov0 1000000 st0 me6 = true := memoF_ok (by kernel_rfl)
def me7 : Memo := ⟨51, [.string ⟨#[52]⟩], .bool true, ids⟩
theorem me7_ok : memoOk cx ov0 1000000 st0 me7 = true := memoF_ok (by kernel_rfl)
def me8 : Memo := ⟨42, [.string ⟨#[51]⟩], .tuple #[.int .u32 3, .int .i64 0], ids⟩
theorem me8_ok : memoOk cx ov0 1000000 st0 me8 = true := memoF_ok (by kernel_rfl)
def me9 : Memo := ⟨42, [.string ⟨#[52]⟩], .tuple #[.int .u32 4, .int .i64 0], ids⟩
theorem me9_ok : memoOk cx ov0 1000000 st0 me9 = true := memoF_ok (by kernel_rfl)
def me10 : Memo := ⟨46, [.int .u32 3], .string ⟨#[51]⟩, ids⟩
theorem me10_ok : memoOk cx ov0 1000000 st0 me10 = true := memoF_ok (by kernel_rfl)
def me11 : Memo := ⟨46, [.int .u32 4], .string ⟨#[52]⟩, ids⟩
theorem me11_ok : memoOk cx ov0 1000000 st0 me11 = true := memoF_ok (by kernel_rfl)
def me12 : Memo := ⟨51, [.string ⟨#[57]⟩], .bool true, ids⟩
theorem me12_ok : memoOk cx ov0 1000000 st0 me12 = true := memoF_ok (by kernel_rfl)
def me13 : Memo := ⟨51, [.string ⟨#[56]⟩], .bool true, ids⟩
theorem me13_ok : memoOk cx ov0 1000000 st0 me13 = true := memoF_ok (by kernel_rfl)
def me14 : Memo := ⟨42, [.string ⟨#[57]⟩], .tuple #[.int .u32 9, .int .i64 0], ids⟩
theorem me14_ok : memoOk cx ov0 1000000 st0 me14 = true := memoF_ok (by kernel_rfl)
def me15 : Memo := ⟨42, [.string ⟨#[56]⟩], .tuple #[.int .u32 8, .int .i64 0], ids⟩
theorem me15_ok : memoOk cx ov0 1000000 st0 me15 = true := memoF_ok (by kernel_rfl)
def me16 : Memo := ⟨46, [.int .u32 9], .string ⟨#[57]⟩, ids⟩
theorem me16_ok : memoOk cx ov0 1000000 st0 me16 = true := memoF_ok (by kernel_rfl)
def me17 : Memo := ⟨46, [.int .u32 8], .string ⟨#[56]⟩, ids⟩
theorem me17_ok : memoOk cx ov0 1000000 st0 me17 = true := memoF_ok (by kernel_rfl)
def me18 : Memo := ⟨51, [.string ⟨#[53]⟩], .bool true, ids⟩
theorem me18_ok : memoOk cx ov0 1000000 st0 me18 = true := memoF_ok (by kernel_rfl)
def me19 : Memo := ⟨42, [.string ⟨#[53]⟩], .tuple #[.int .u32 5, .int .i64 0], ids⟩
theorem me19_ok : memoOk cx ov0 1000000 st0 me19 = true := memoF_ok (by kernel_rfl)
def me20 : Memo := ⟨46, [.int .u32 5], .string ⟨#[53]⟩, ids⟩
theorem me20_ok : memoOk cx ov0 1000000 st0 me20 = true := memoF_ok (by kernel_rfl)
def me21 : Memo := ⟨51, [.string ⟨#[54]⟩], .bool true, ids⟩
theorem me21_ok : memoOk cx ov0 1000000 st0 me21 = true := memoF_ok (by kernel_rfl)
def me22 : Memo := ⟨51, [.string ⟨#[55]⟩], .bool true, ids⟩
theorem me22_ok : memoOk cx ov0 1000000 st0 me22 = true := memoF_ok (by kernel_rfl)
def me23 : Memo := ⟨42, [.string ⟨#[54]⟩], .tuple #[.int .u32 6, .int .i64 0], ids⟩
theorem me23_ok : memoOk cx ov0 1000000 st0 me23 = true := memoF_ok (by kernel_rfl)
def me24 : Memo := ⟨42, [.string ⟨#[55]⟩], .tuple #[.int .u32 7, .int .i64 0], ids⟩
theorem me24_ok : memoOk cx ov0 1000000 st0 me24 = true := memoF_ok (by kernel_rfl)
def me25 : Memo := ⟨46, [.int .u32 6], .string ⟨#[54]⟩, ids⟩
theorem me25_ok : memoOk cx ov0 1000000 st0 me25 = true := memoF_ok (by kernel_rfl)
def me26 : Memo := ⟨46, [.int .u32 7], .string ⟨#[55]⟩, ids⟩
theorem me26_ok : memoOk cx ov0 1000000 st0 me26 = true := memoF_ok (by kernel_rfl)
def me27 : Memo := ⟨51, [.string ⟨#[55, 48, 48, 48, 48]⟩], .bool true, ids⟩
theorem me27_ok : memoOk cx ov0 1000000 st0 me27 = true := memoF_ok (by kernel_rfl)
def me28 : Memo := ⟨51, [.string ⟨#[55, 48, 48, 48, 49]⟩], .bool true, ids⟩
theorem me28_ok : memoOk cx ov0 1000000 st0 me28 = true := memoF_ok (by kernel_rfl)
def me29 : Memo := ⟨51, [.string ⟨#[55, 48, 48, 48, 50]⟩], .bool true, ids⟩
theorem me29_ok : memoOk cx ov0 1000000 st0 me29 = true := memoF_ok (by kernel_rfl)
def me30 : Memo := ⟨42, [.string ⟨#[55, 48, 48, 48, 48]⟩], .tuple #[.int .u32 70000, .int .i64 0], ids⟩
theorem me30_ok : memoOk cx ov0 1000000 st0 me30 = true := memoF_ok (by kernel_rfl)
def me31 : Memo := ⟨42, [.string ⟨#[55, 48, 48, 48, 49]⟩], .tuple #[.int .u32 70001, .int .i64 0], ids⟩
theorem me31_ok : memoOk cx ov0 1000000 st0 me31 = true := memoF_ok (by kernel_rfl)
def me32 : Memo := ⟨42, [.string ⟨#[55, 48, 48, 48, 50]⟩], .tuple #[.int .u32 70002, .int .i64 0], ids⟩
theorem me32_ok : memoOk cx ov0 1000000 st0 me32 = true := memoF_ok (by kernel_rfl)
def me33 : Memo := ⟨46, [.int .u32 23456], .string ⟨#[50, 51, 52, 53, 54]⟩, ids⟩
theorem me33_ok : memoOk cx ov0 1000000 st0 me33 = true := memoF_ok (by kernel_rfl)
def me34 : Memo := ⟨46, [.int .u32 70001], .string ⟨#[55, 48, 48, 48, 49]⟩, ids⟩
theorem me34_ok : memoOk cx ov0 1000000 st0 me34 = true := memoF_ok (by kernel_rfl)
def memos0 : List Memo := [me0, me1, me2, me3, me4, me5, me6, me7, me8, me9, me10, me11, me12, me13, me14, me15, me16, me17, me18, me19, me20, me21, me22, me23, me24, me25, me26, me27, me28, me29, me30, me31, me32, me33, me34]
theorem memos0_ok : ∀ e ∈ memos0, ∃ n, memoOk cx ov0 n st0 e = true := memoAll_cons ⟨_, me0_ok⟩ (memoAll_cons ⟨_, me1_ok⟩ (memoAll_cons ⟨_, me2_ok⟩ (memoAll_cons ⟨_, me3_ok⟩ (memoAll_cons ⟨_, me4_ok⟩ (memoAll_cons ⟨_, me5_ok⟩ (memoAll_cons ⟨_, me6_ok⟩ (memoAll_cons ⟨_, me7_ok⟩ (memoAll_cons ⟨_, me8_ok⟩ (memoAll_cons ⟨_, me9_ok⟩ (memoAll_cons ⟨_, me10_ok⟩ (memoAll_cons ⟨_, me11_ok⟩ (memoAll_cons ⟨_, me12_ok⟩ (memoAll_cons ⟨_, me13_ok⟩ (memoAll_cons ⟨_, me14_ok⟩ (memoAll_cons ⟨_, me15_ok⟩ (memoAll_cons ⟨_, me16_ok⟩ (memoAll_cons ⟨_, me17_ok⟩ (memoAll_cons ⟨_, me18_ok⟩ (memoAll_cons ⟨_, me19_ok⟩ (memoAll_cons ⟨_, me20_ok⟩ (memoAll_cons ⟨_, me21_ok⟩ (memoAll_cons ⟨_, me22_ok⟩ (memoAll_cons ⟨_, me23_ok⟩ (memoAll_cons ⟨_, me24_ok⟩ (memoAll_cons ⟨_, me25_ok⟩ (memoAll_cons ⟨_, me26_ok⟩ (memoAll_cons ⟨_, me27_ok⟩ (memoAll_cons ⟨_, me28_ok⟩ (memoAll_cons ⟨_, me29_ok⟩ (memoAll_cons ⟨_, me30_ok⟩ (memoAll_cons ⟨_, me31_ok⟩ (memoAll_cons ⟨_, me32_ok⟩ (memoAll_cons ⟨_, me33_ok⟩ (memoAll_cons ⟨_, me34_ok⟩ (memoAll_nil)))))))))))))))))))))))))))))))))))
noncomputable def ov1 : Ov := ovMemo cx st0 memos0 1000000 ov0
theorem ov1_ok : OvOk Tryz.prog ov1 ∧ OvMono ov1 ∧ OvIds ov1 := ⟨ovMemo_ok Tryz.checked.mixed ov0_ok.1 ov0_ok.2.1 ov0_ok.2.2 memos0_ok, ovMemo_mono ov0_ok.2.1, ovMemo_ids ov0_ok.2.1 ov0_ok.2.2⟩
def me35 : Memo := ⟨12, [], .bool true, ids⟩
theorem me35_ok : memoOk cx ov1 1000000 st0 me35 = true := memoF_ok (by kernel_rfl)
def memos1 : List Memo := [me35]
theorem memos1_ok : ∀ e ∈ memos1, ∃ n, memoOk cx ov1 n st0 e = true := memoAll_cons ⟨_, me35_ok⟩ (memoAll_nil)
noncomputable def ov2 : Ov := ovMemo cx st0 memos1 1000000 ov1
theorem ov2_ok : OvOk Tryz.prog ov2 ∧ OvMono ov2 ∧ OvIds ov2 := ⟨ovMemo_ok Tryz.checked.mixed ov1_ok.1 ov1_ok.2.1 ov1_ok.2.2 memos1_ok, ovMemo_mono ov1_ok.2.1, ovMemo_ids ov1_ok.2.1 ov1_ok.2.2⟩
theorem known_run : closedRun Tryz.prog ov2 nm [] Rows.fuseKnownRow.laid 1000000 4 = true := by kernel_rfl
end Go.Proofs.YtcggdlfljdgjfaaGreatDoor

namespace Go.Proofs.YtcggdlfljdgjfaaGreatDoor
open Go Go.Ai Go.ChangeShapes Go.WideShapes Go.RowKit

theorem own : ownKnob Tryz.prog.godebug = none := by kernel_rfl

noncomputable def laidW (os : Os) : World := pinWorld (World.doorLaid Tryz.prog 4000 os) [(5, Pinned.utf8First)]

/-- The door's own heap, tables laid by hand, meets the condition. -/
theorem door_met (os : Os) (args : Array Value) : laidMetH Tryz.prog Rows.fuseKnownRow.laid ((laidW os).forCall (fun _ _ => 0) ⟨#[], args, []⟩).memory :=
  laidMetH_of_parts3 (fuel := 8) (laidMet_of_run' 8 (by kernel_rfl) (by kernel_rfl)) (by kernel_rfl) (by kernel_rfl)

set_option maxRecDepth 100000 in
theorem lifted (os : Os) (started : os.Started) (H : Type) (enc : TypeId × Value → H) :
    ReturnsInHanded {} Tryz.checked os 4 .any (fun w args => (Rows.fuseKnownSpec.pre enc Tryz.prog Tryz.f4 [] false w args ∧ laidMetH Tryz.prog Rows.fuseKnownRow.laid w) ∧ sizedMet enc Tryz.prog Tryz.f4 (OpenSpec.ofChange Rows.fuseKnownSpec) false w args)
      (Rows.fuseKnownSpec.post enc Tryz.prog Tryz.f4 false true false false) :=
  closed_lifted (C := Tryz.checked) (tb := 4) started own (by kernel_rfl) Tryz.func4 rfl rfl (by kernel_rfl) rfl rfl
    (fun W hW => closed_calls Tryz.checked.mixed ov2_ok.1 ov2_ok.2.1 ov2_ok.2.2 nm_ok known_run Tryz.func4 rfl (by decide) hW)
    (ChangeSpec.witness_shaped (enc := enc) (C := Tryz.checked) (os := os) (X := fun w _ => laidMetH Tryz.prog Rows.fuseKnownRow.laid w) false (laidW os) #[] 8 rfl (World.shaped_of_RefB (by kernel_rfl) (by kernel_rfl)) (by kernel_rfl) (by kernel_rfl) (by kernel_rfl) (door_met os _))

theorem known_holds : Rows.FuseKnownSaid :=
  OpenClaim.holds_of_wide 4 Tryz.f4 rfl rfl rfl rfl rfl rfl rfl ⟨rfl, rfl, rfl, rfl, rfl⟩ rfl rfl rfl rfl rfl (by kernel_rfl) Tryz.func4 (by kernel_rfl)
    (of_decide_eq_true (by kernel_rfl)) (by unfold Func.isWrapper; first | (rw [if_pos (by decide +kernel)]; kernel_rfl) | (rw [if_neg (by decide +kernel)]; exact ⟨rfl, rfl⟩))
    (fun os started H enc _ => lifted os started H enc)

theorem card_holds : Rows.FuseKnownCardSaid :=
  Claim7.holds_tied_plain_at .later [] [.data, .data, .data, .data, .sentinel, .sentinel, .data, .pinned] true (true, "a1c2aad69e4d26a54ba751431bf57dfa120af2e0e9461c4c336c127355691759") true
    known_holds (fun _ h => by cases h) (by kernel_rfl) (fun _ h => by cases h) fuseKnown_row_tie rfl ⟨rfl, rfl⟩ (by kernel_rfl) rfl
    (fun f fn hf hfn => by
      obtain rfl : f = 4 := Option.some.inj ((show Tryz.prog.funcNamed "consulate/consulatelaw09.FuseKnown" = some 4 by kernel_rfl).symm.trans hf) |>.symm
      obtain rfl : fn = Tryz.f4 := (Option.some.inj (Tryz.func4.symm.trans hfn)).symm
      exact ⟨by kernel_rfl, fun j t ht => by
        rw [show Tryz.f4.params = #[] from rfl] at ht
        simp at ht⟩)
    (by kernel_rfl)
#print axioms card_holds
end Go.Proofs.YtcggdlfljdgjfaaGreatDoor

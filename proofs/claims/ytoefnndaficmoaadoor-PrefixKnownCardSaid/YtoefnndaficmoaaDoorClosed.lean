/- PrefixKnown of the program prefix (layer 2), a closed statement, returns true; all package variables laid as the row says. -/
import Derived.Test.YtoefnndaficmoaaDoorAi3
import Derived.Test.YtoefnndaficmoaaDoorTie
import Derived.Test.YtoefnndaficmoaaDoorCards
import Derived.SevenTiedAt

namespace Go.Proofs.YtoefnndaficmoaaDoor
open Go Go.Ai

def ex : List (Nat × Xt) := [(102, .indexByte), (77, .count), (94, .same), (95, (.makeNoZero 5))]
def nm : List (String × TypeId) := [("errors.errorString", 160)]
set_option maxRecDepth 1000000
theorem nm_ok : nm.all (nameOk Tryd.prog) = true := by kernel_rfl
theorem ex_ok : ex.all (extFits Tryd.prog) = true := by kernel_rfl
noncomputable def cx : Cx := Cx.of Tryd.prog
noncomputable def st0 : St := startOf Tryd.prog nm [] Rows.prefixKnownRow.laid
def ids : List Nat := [1, 2, 3, 4, 5, 6, 7, 8, 9]
noncomputable def ov0 : Ov := ovOf cx ex
theorem ov0_ok : OvOk Tryd.prog ov0 ∧ OvMono ov0 ∧ OvIds ov0 := ⟨ovOf_ok ex_ok, ovOf_mono ex, ovOf_ids ex⟩
def me0 : Memo := ⟨9, [.string ⟨#[]⟩], .tuple #[.int .u32 0, .int .i64 5], ids⟩
theorem me0_ok : memoOk cx ov0 1000000 st0 me0 = true := by kernel_rfl
def me1 : Memo := ⟨9, [.string ⟨#[49, 46, 50, 46, 51]⟩], .tuple #[.int .u32 0, .int .i64 5], ids⟩
theorem me1_ok : memoOk cx ov0 1000000 st0 me1 = true := by kernel_rfl
def me2 : Memo := ⟨9, [.string ⟨#[49, 46, 50, 46, 51, 46, 52, 46, 53]⟩], .tuple #[.int .u32 0, .int .i64 5], ids⟩
theorem me2_ok : memoOk cx ov0 1000000 st0 me2 = true := by kernel_rfl
def me3 : Memo := ⟨9, [.string ⟨#[49, 46, 50, 46, 51, 46, 52]⟩], .tuple #[.int .u32 16909060, .int .i64 0], ids⟩
theorem me3_ok : memoOk cx ov0 1000000 st0 me3 = true := by kernel_rfl
def me4 : Memo := ⟨9, [.string ⟨#[50, 53, 54, 46, 48, 46, 48, 46, 48]⟩], .tuple #[.int .u32 0, .int .i64 24], ids⟩
theorem me4_ok : memoOk cx ov0 1000000 st0 me4 = true := by kernel_rfl
def me5 : Memo := ⟨9, [.string ⟨#[50, 53, 54, 46, 48, 46, 48, 46, 120]⟩], .tuple #[.int .u32 0, .int .i64 5], ids⟩
theorem me5_ok : memoOk cx ov0 1000000 st0 me5 = true := by kernel_rfl
def me6 : Memo := ⟨9, [.string ⟨#[48, 49, 46, 50, 46, 51, 46, 52]⟩], .tuple #[.int .u32 0, .int .i64 5], ids⟩
theorem me6_ok : memoOk cx ov0 1000000 st0 me6 = true := by kernel_rfl
def me7 : Memo := ⟨9, [.string ⟨#[49, 46, 46, 51, 46, 52]⟩], .tuple #[.int .u32 0, .int .i64 5], ids⟩
theorem me7_ok : memoOk cx ov0 1000000 st0 me7 = true := by kernel_rfl
def me8 : Memo := ⟨9, [.string ⟨#[49, 46, 50, 46, 51, 46, 52, 32]⟩], .tuple #[.int .u32 0, .int .i64 5], ids⟩
theorem me8_ok : memoOk cx ov0 1000000 st0 me8 = true := by kernel_rfl
def me9 : Memo := ⟨9, [.string ⟨#[43, 49, 46, 50, 46, 51, 46, 52]⟩], .tuple #[.int .u32 0, .int .i64 5], ids⟩
theorem me9_ok : memoOk cx ov0 1000000 st0 me9 = true := by kernel_rfl
def me10 : Memo := ⟨9, [.string ⟨#[49, 46, 50, 46, 51, 46, 57, 57, 57, 57, 57, 57, 57, 57, 57, 57, 57]⟩], .tuple #[.int .u32 0, .int .i64 5], ids⟩
theorem me10_ok : memoOk cx ov0 1000000 st0 me10 = true := by kernel_rfl
def me11 : Memo := ⟨9, [.string ⟨#[49, 46, 50, 46, 51, 46, 57, 57, 57, 57, 57, 57, 57, 57, 57, 57]⟩], .tuple #[.int .u32 0, .int .i64 24], ids⟩
theorem me11_ok : memoOk cx ov0 1000000 st0 me11 = true := by kernel_rfl
def me12 : Memo := ⟨11, [.string ⟨#[49, 46, 50, 46, 51, 46, 52, 47]⟩], .tuple #[.agg #[.int .u32 0, .int .i64 0], .int .i64 5], ids⟩
theorem me12_ok : memoOk cx ov0 1000000 st0 me12 = true := by kernel_rfl
def me13 : Memo := ⟨11, [.string ⟨#[49, 46, 50, 46, 51, 46, 52]⟩], .tuple #[.agg #[.int .u32 0, .int .i64 0], .int .i64 5], ids⟩
theorem me13_ok : memoOk cx ov0 1000000 st0 me13 = true := by kernel_rfl
def me14 : Memo := ⟨11, [.string ⟨#[48, 46, 48, 46, 48, 46, 48, 47, 48]⟩], .tuple #[.agg #[.int .u32 0, .int .i64 0], .int .i64 0], ids⟩
theorem me14_ok : memoOk cx ov0 1000000 st0 me14 = true := by kernel_rfl
def me15 : Memo := ⟨11, [.string ⟨#[48, 46, 48, 46, 48, 46, 48, 47, 48, 48]⟩], .tuple #[.agg #[.int .u32 0, .int .i64 0], .int .i64 5], ids⟩
theorem me15_ok : memoOk cx ov0 1000000 st0 me15 = true := by kernel_rfl
def me16 : Memo := ⟨11, [.string ⟨#[49, 46, 50, 46, 51, 46, 52, 47, 51, 50]⟩], .tuple #[.agg #[.int .u32 16909060, .int .i64 32], .int .i64 0], ids⟩
theorem me16_ok : memoOk cx ov0 1000000 st0 me16 = true := by kernel_rfl
def me17 : Memo := ⟨11, [.string ⟨#[49, 46, 50, 46, 51, 46, 52, 47, 51, 50, 47]⟩], .tuple #[.agg #[.int .u32 0, .int .i64 0], .int .i64 5], ids⟩
theorem me17_ok : memoOk cx ov0 1000000 st0 me17 = true := by kernel_rfl
def me18 : Memo := ⟨11, [.string ⟨#[47, 56]⟩], .tuple #[.agg #[.int .u32 0, .int .i64 0], .int .i64 5], ids⟩
theorem me18_ok : memoOk cx ov0 1000000 st0 me18 = true := by kernel_rfl
def me19 : Memo := ⟨11, [.string ⟨#[51, 48, 48, 46, 48, 46, 48, 46, 48, 47, 56]⟩], .tuple #[.agg #[.int .u32 0, .int .i64 0], .int .i64 24], ids⟩
theorem me19_ok : memoOk cx ov0 1000000 st0 me19 = true := by kernel_rfl
def me20 : Memo := ⟨11, [.string ⟨#[51, 48, 48, 46, 48, 46, 48, 46, 48, 47, 120]⟩], .tuple #[.agg #[.int .u32 0, .int .i64 0], .int .i64 5], ids⟩
theorem me20_ok : memoOk cx ov0 1000000 st0 me20 = true := by kernel_rfl
def me21 : Memo := ⟨11, [.string ⟨#[49, 46, 50, 46, 51, 46, 52, 47, 45, 49]⟩], .tuple #[.agg #[.int .u32 0, .int .i64 0], .int .i64 5], ids⟩
theorem me21_ok : memoOk cx ov0 1000000 st0 me21 = true := by kernel_rfl
def me22 : Memo := ⟨11, [.string ⟨#[49, 50, 56, 46, 48, 46, 48, 46, 48, 47, 49]⟩], .tuple #[.agg #[.int .u32 2147483648, .int .i64 1], .int .i64 0], ids⟩
theorem me22_ok : memoOk cx ov0 1000000 st0 me22 = true := by kernel_rfl
def me23 : Memo := ⟨11, [.string ⟨#[54, 52, 46, 48, 46, 48, 46, 48, 47, 49]⟩], .tuple #[.agg #[.int .u32 0, .int .i64 0], .int .i64 24], ids⟩
theorem me23_ok : memoOk cx ov0 1000000 st0 me23 = true := by kernel_rfl
def me24 : Memo := ⟨23, [.agg #[.int .u32 0, .int .i64 (-1)], .int .u32 0], .bool false, ids⟩
theorem me24_ok : memoOk cx ov0 1000000 st0 me24 = true := by kernel_rfl
def me25 : Memo := ⟨24, [.agg #[.int .u32 0, .int .i64 0], .agg #[.int .u32 0, .int .i64 (-1)]], .bool false, ids⟩
theorem me25_ok : memoOk cx ov0 1000000 st0 me25 = true := by kernel_rfl
def me26 : Memo := ⟨24, [.agg #[.int .u32 0, .int .i64 (-1)], .agg #[.int .u32 1, .int .i64 32]], .bool false, ids⟩
theorem me26_ok : memoOk cx ov0 1000000 st0 me26 = true := by kernel_rfl
def me27 : Memo := ⟨23, [.agg #[.int .u32 0, .int .i64 33], .int .u32 0], .bool false, ids⟩
theorem me27_ok : memoOk cx ov0 1000000 st0 me27 = true := by kernel_rfl
def me28 : Memo := ⟨24, [.agg #[.int .u32 0, .int .i64 0], .agg #[.int .u32 0, .int .i64 33]], .bool false, ids⟩
theorem me28_ok : memoOk cx ov0 1000000 st0 me28 = true := by kernel_rfl
def me29 : Memo := ⟨24, [.agg #[.int .u32 0, .int .i64 33], .agg #[.int .u32 1, .int .i64 32]], .bool false, ids⟩
theorem me29_ok : memoOk cx ov0 1000000 st0 me29 = true := by kernel_rfl
def me30 : Memo := ⟨23, [.agg #[.int .u32 1, .int .i64 31], .int .u32 1], .bool false, ids⟩
theorem me30_ok : memoOk cx ov0 1000000 st0 me30 = true := by kernel_rfl
def me31 : Memo := ⟨24, [.agg #[.int .u32 0, .int .i64 0], .agg #[.int .u32 1, .int .i64 31]], .bool false, ids⟩
theorem me31_ok : memoOk cx ov0 1000000 st0 me31 = true := by kernel_rfl
def me32 : Memo := ⟨24, [.agg #[.int .u32 1, .int .i64 31], .agg #[.int .u32 1, .int .i64 32]], .bool false, ids⟩
theorem me32_ok : memoOk cx ov0 1000000 st0 me32 = true := by kernel_rfl
def me33 : Memo := ⟨23, [.agg #[.int .u32 2147483648, .int .i64 0], .int .u32 2147483648], .bool false, ids⟩
theorem me33_ok : memoOk cx ov0 1000000 st0 me33 = true := by kernel_rfl
def me34 : Memo := ⟨24, [.agg #[.int .u32 0, .int .i64 0], .agg #[.int .u32 2147483648, .int .i64 0]], .bool false, ids⟩
theorem me34_ok : memoOk cx ov0 1000000 st0 me34 = true := by kernel_rfl
def me35 : Memo := ⟨24, [.agg #[.int .u32 2147483648, .int .i64 0], .agg #[.int .u32 1, .int .i64 32]], .bool false, ids⟩
theorem me35_ok : memoOk cx ov0 1000000 st0 me35 = true := by kernel_rfl
def me36 : Memo := ⟨17, [], .bool true, ids⟩
theorem me36_ok : memoOk cx ov0 1000000 st0 me36 = true := by kernel_rfl
def memos0 : List Memo := [me0, me1, me2, me3, me4, me5, me6, me7, me8, me9, me10, me11, me12, me13, me14, me15, me16, me17, me18, me19, me20, me21, me22, me23, me24, me25, me26, me27, me28, me29, me30, me31, me32, me33, me34, me35, me36]
theorem memos0_ok : ∀ e ∈ memos0, ∃ n, memoOk cx ov0 n st0 e = true := memoAll_cons ⟨_, me0_ok⟩ (memoAll_cons ⟨_, me1_ok⟩ (memoAll_cons ⟨_, me2_ok⟩ (memoAll_cons ⟨_, me3_ok⟩ (memoAll_cons ⟨_, me4_ok⟩ (memoAll_cons ⟨_, me5_ok⟩ (memoAll_cons ⟨_, me6_ok⟩ (memoAll_cons ⟨_, me7_ok⟩ (memoAll_cons ⟨_, me8_ok⟩ (memoAll_cons ⟨_, me9_ok⟩ (memoAll_cons ⟨_, me10_ok⟩ (memoAll_cons ⟨_, me11_ok⟩ (memoAll_cons ⟨_, me12_ok⟩ (memoAll_cons ⟨_, me13_ok⟩ (memoAll_cons ⟨_, me14_ok⟩ (memoAll_cons ⟨_, me15_ok⟩ (memoAll_cons ⟨_, me16_ok⟩ (memoAll_cons ⟨_, me17_ok⟩ (memoAll_cons ⟨_, me18_ok⟩ (memoAll_cons ⟨_, me19_ok⟩ (memoAll_cons ⟨_, me20_ok⟩ (memoAll_cons ⟨_, me21_ok⟩ (memoAll_cons ⟨_, me22_ok⟩ (memoAll_cons ⟨_, me23_ok⟩ (memoAll_cons ⟨_, me24_ok⟩ (memoAll_cons ⟨_, me25_ok⟩ (memoAll_cons ⟨_, me26_ok⟩ (memoAll_cons ⟨_, me27_ok⟩ (memoAll_cons ⟨_, me28_ok⟩ (memoAll_cons ⟨_, me29_ok⟩ (memoAll_cons ⟨_, me30_ok⟩ (memoAll_cons ⟨_, me31_ok⟩ (memoAll_cons ⟨_, me32_ok⟩ (memoAll_cons ⟨_, me33_ok⟩ (memoAll_cons ⟨_, me34_ok⟩ (memoAll_cons ⟨_, me35_ok⟩ (memoAll_cons ⟨_, me36_ok⟩ (memoAll_nil)))))))))))))))))))))))))))))))))))))
noncomputable def ov1 : Ov := ovMemo cx st0 memos0 1000000 ov0
theorem ov1_ok : OvOk Tryd.prog ov1 ∧ OvMono ov1 ∧ OvIds ov1 := ⟨ovMemo_ok Tryd.checked.mixed ov0_ok.1 ov0_ok.2.1 ov0_ok.2.2 memos0_ok, ovMemo_mono ov0_ok.2.1, ovMemo_ids ov0_ok.2.1 ov0_ok.2.2⟩
theorem known_run : closedRun Tryd.prog ov1 nm [] Rows.prefixKnownRow.laid 1000000 6 = true := by kernel_rfl
end Go.Proofs.YtoefnndaficmoaaDoor

namespace Go.Proofs.YtoefnndaficmoaaDoor
open Go Go.Ai Go.ChangeShapes Go.WideShapes Go.RowKit

theorem own : ownKnob Tryd.prog.godebug = none := by kernel_rfl

noncomputable def laidW (os : Os) : World := pinWorld (World.doorLaid Tryd.prog 4000 os) [(4, Pinned.utf8First)]

/-- The door's own heap, tables laid by hand, meets the condition. -/
theorem door_met (os : Os) (args : Array Value) : laidMetH Tryd.prog Rows.prefixKnownRow.laid ((laidW os).forCall (fun _ _ => 0) ⟨#[], args, []⟩).memory :=
  laidMetH_of_parts3 (fuel := 8) (laidMet_of_run' 8 (by kernel_rfl) (by kernel_rfl)) (by kernel_rfl) (by kernel_rfl)

set_option maxRecDepth 100000 in
theorem lifted (os : Os) (started : os.Started) (H : Type) (enc : TypeId × Value → H) :
    ReturnsInHanded {} Tryd.checked os 6 .any (fun w args => (Rows.prefixKnownSpec.pre enc Tryd.prog Tryd.f6 [] false w args ∧ laidMetH Tryd.prog Rows.prefixKnownRow.laid w) ∧ sizedMet enc Tryd.prog Tryd.f6 (OpenSpec.ofChange Rows.prefixKnownSpec) false w args)
      (Rows.prefixKnownSpec.post enc Tryd.prog Tryd.f6 false true false false) :=
  closed_lifted (C := Tryd.checked) (tb := 4) started own (by kernel_rfl) Tryd.func6 rfl rfl (by kernel_rfl) rfl rfl
    (fun W hW => closed_calls Tryd.checked.mixed ov1_ok.1 ov1_ok.2.1 ov1_ok.2.2 nm_ok known_run Tryd.func6 rfl (by decide) hW)
    (ChangeSpec.witness_shaped (enc := enc) (C := Tryd.checked) (os := os) (X := fun w _ => laidMetH Tryd.prog Rows.prefixKnownRow.laid w) false (laidW os) #[] 8 rfl (World.shaped_of_RefB (by kernel_rfl) (by kernel_rfl)) (by kernel_rfl) (by kernel_rfl) (by kernel_rfl) (door_met os _))

theorem known_holds : Rows.PrefixKnownSaid :=
  OpenClaim.holds_of_wide 6 Tryd.f6 rfl rfl rfl rfl rfl rfl rfl ⟨rfl, rfl, rfl, rfl, rfl⟩ rfl rfl rfl rfl rfl (by kernel_rfl) Tryd.func6 (by kernel_rfl)
    (of_decide_eq_true (by kernel_rfl)) (by unfold Func.isWrapper; first | (rw [if_pos (by decide +kernel)]; kernel_rfl) | (rw [if_neg (by decide +kernel)]; exact ⟨rfl, rfl⟩))
    (fun os started H enc _ => lifted os started H enc)

theorem card_holds : Rows.PrefixKnownCardSaid :=
  Claim7.holds_tied_plain_at .later [] [.data, .data, .data, .data, .sentinel, .sentinel, .pinned] true (true, "f3f1dcb836f74bd7d59d29e0380c1fb07eb88b2f40879ce5fbb846448931de86") true
    known_holds (fun _ h => by cases h) (by kernel_rfl) (fun _ h => by cases h) prefixKnown_row_tie rfl ⟨rfl, rfl⟩ (by kernel_rfl) rfl
    (fun f fn hf hfn => by
      obtain rfl : f = 6 := Option.some.inj ((show Tryd.prog.funcNamed "consulate/consulatelaw02.PrefixKnown" = some 6 by kernel_rfl).symm.trans hf) |>.symm
      obtain rfl : fn = Tryd.f6 := (Option.some.inj (Tryd.func6.symm.trans hfn)).symm
      exact ⟨by kernel_rfl, fun j t ht => by
        rw [show Tryd.f6.params = #[] from rfl] at ht
        simp at ht⟩)
    (by kernel_rfl)
#print axioms card_holds
end Go.Proofs.YtoefnndaficmoaaDoor

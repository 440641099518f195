/- PrefixTells (chapter 02): for any two prefixes, any address and any number the law returns true, and nothing that was there has turned. -/
import Derived.Test.YtgmojlibppmfhaaGreatDoorPart32

namespace Go.Proofs.YtgmojlibppmfhaaGreatDoor
open Go Go.Ai Go.ChangeShapes Go.WideShapes Go.RowKit

theorem own : ownKnob Tryz.prog.godebug = none := by kernel_rfl

noncomputable def laidW (os : Os) : World := pinWorld (World.doorLaid Tryz.prog 4000 os) [(6, Pinned.utf8First)]

/-- The door's own heap, tables laid by hand, meets the condition. -/
theorem door_met (os : Os) (args : Array Value) : laidMetH Tryz.prog Rows.prefixTellsRow.laid ((laidW os).forCall (fun _ _ => 0) ⟨#[], args, []⟩).memory :=
  laidMetH_of_parts3 (fuel := 8) (laidMet_of_run' 8 (by kernel_rfl) (by kernel_rfl)) (by kernel_rfl) (by kernel_rfl)

def argsOk (args : Array Value) : Prop := ∃ (x b y c z k : Int), args = #[.agg #[.int .u32 x, .int .i64 b], .agg #[.int .u32 y, .int .i64 c], .int .u32 z, .int .i64 k] ∧ 0 ≤ x ∧ x < 4294967296 ∧ 0 ≤ y ∧ y < 4294967296 ∧ 0 ≤ z ∧ z < 4294967296 ∧ -9223372036854775808 ≤ k ∧ k < 9223372036854775808
set_option maxRecDepth 1000000 in
theorem arg_shape {H : Type} {enc : TypeId × Value → H} (W : World) (base : Nat) (args : Array Value) (ds : List (DataW H)) (p : List MemPlace)
    (hval : ∀ (j : Nat) t v, Tryz.f3.params[j]? = some t → args[j]? = some v → Value.okWide Tryz.checked.prog W .any base t v)
    (hA : DataW.TrodAll enc Tryz.checked.prog W 0 (fun _ => true) true Tryz.f3.params.toList args.toList ds p) :
    argsOk args ∧ p = [] ∧ Rows.prefixTellsSpec.fn H ds = { results := [.lit (.bool true)], args := ds } ∧ ∀ (W' : World) (sp : Nat → Bool), DataW.TrodAll enc Tryz.checked.prog W' 0 sp true Tryz.f3.params.toList args.toList ds [] := by
  rw [show Tryz.f3.params.toList = [25, 25, 22, 3] from rfl] at hA
  obtain ⟨v0, v1, v2, v3, d0, d1, d2, d3, p0, p1, p2, p3, hargs, rfl, rfl, t0, t1, t2, t3⟩ := trodAll_four hA
  subst hargs
  have m1 : IntKind.u32.min = 0 := by decide
  have m2 : IntKind.u32.max = 4294967295 := by decide
  obtain ⟨x, b, rfl, rfl, gx, _, k0⟩ := arg_pair2 (P := Tryz.checked.prog) (t0 := 23) (t1 := 3) (k0 := .u32) (k1 := .i64) (by kernel_rfl) (by kernel_rfl) (by kernel_rfl) (by kernel_rfl) (by kernel_rfl) (by kernel_rfl) (hval 0 25 v0 (by kernel_rfl) rfl) t0
  obtain ⟨y, c, rfl, rfl, gy, _, k1⟩ := arg_pair2 (P := Tryz.checked.prog) (t0 := 23) (t1 := 3) (k0 := .u32) (k1 := .i64) (by kernel_rfl) (by kernel_rfl) (by kernel_rfl) (by kernel_rfl) (by kernel_rfl) (by kernel_rfl) (hval 1 25 v1 (by kernel_rfl) rfl) t1
  obtain ⟨z, rfl, rfl, gz, k2⟩ := arg_int (k := .u32) (P := Tryz.checked.prog) (by kernel_rfl) (hval 2 22 v2 (by kernel_rfl) rfl) t2
  obtain ⟨k, rfl, rfl, gk, k3⟩ := arg_int (k := .i64) (P := Tryz.checked.prog) (by kernel_rfl) (hval 3 3 v3 (by kernel_rfl) rfl) t3
  have m3 : IntKind.i64.min = -9223372036854775808 := by decide
  have m4 : IntKind.i64.max = 9223372036854775807 := by decide
  rw [m1, m2] at gx gy gz
  rw [m3, m4] at gk
  refine ⟨⟨x, b, y, c, z, k, rfl, gx.1, by omega, gy.1, by omega, gz.1, by omega, gk.1, by omega⟩, rfl, rfl, fun W' sp => ?_⟩
  rw [show Tryz.f3.params.toList = [25, 25, 22, 3] from rfl]
  exact all_four k0 k1 k2 k3 W' sp
set_option maxRecDepth 100000 in
theorem lifted (os : Os) (started : os.Started) (H : Type) (enc : TypeId × Value → H) :
    ReturnsInHanded {} Tryz.checked os 3 .any (fun w args => (Rows.prefixTellsSpec.pre enc Tryz.prog Tryz.f3 [] false w args ∧ laidMetH Tryz.prog Rows.prefixTellsRow.laid w) ∧ sizedMet enc Tryz.prog Tryz.f3 (OpenSpec.ofChange Rows.prefixTellsSpec) false w args)
      (Rows.prefixTellsSpec.post enc Tryz.prog Tryz.f3 false true false false) :=
  open_lifted (C := Tryz.checked) (tb := 4) started own (by kernel_rfl) Tryz.func3 rfl (by kernel_rfl) rfl argsOk arg_shape
    (fun W args ⟨x, b, y, c, z, k, e, h0, h1, h2, h3, h4, h5, h6, h7⟩ hW => by
      subst e
      obtain ⟨st', hrun⟩ := law3 x b y c z k h0 h1 h2 h3 h4 h5 h6 h7
      exact open_calls Tryz.checked.mixed ovz5_ok.1 ovz5_ok.2.1 ovz5_ok.2.2 nm_ok stN_is (args := [.agg #[.int .u32 x, .int .i64 b], .agg #[.int .u32 y, .int .i64 c], .int .u32 z, .int .i64 k]) rfl hrun Tryz.func3 rfl (by decide) hW)
    (ChangeSpec.witness_shaped (enc := enc) (C := Tryz.checked) (os := os) (X := fun w _ => laidMetH Tryz.prog Rows.prefixTellsRow.laid w) false (laidW os) #[.agg #[.int .u32 0, .int .i64 0], .agg #[.int .u32 0, .int .i64 0], .int .u32 0, .int .i64 0] 8 rfl (World.shaped_of_RefB (by kernel_rfl) (by kernel_rfl)) (by kernel_rfl) (by kernel_rfl) (by kernel_rfl) (door_met os _))

theorem known_holds : Rows.PrefixTellsSaid :=
  OpenClaim.holds_of_wide 3 Tryz.f3 rfl rfl rfl rfl rfl rfl rfl ⟨rfl, rfl, rfl, rfl, rfl⟩ rfl rfl rfl rfl rfl (by kernel_rfl) Tryz.func3 (by kernel_rfl)
    (of_decide_eq_true (by kernel_rfl)) (by unfold Func.isWrapper; first | (rw [if_pos (by decide +kernel)]; kernel_rfl) | (rw [if_neg (by decide +kernel)]; exact ⟨rfl, rfl⟩))
    (fun os started H enc _ => lifted os started H enc)

set_option maxRecDepth 1000000 in
theorem card_holds : Rows.PrefixTellsCardSaid :=
  Claim7.holds_tied_plain_at .later [] [.data, .data, .data, .data, .sentinel, .sentinel, .pinned] true (true, "b46abc1b11c8f1a9beaddf52dab21159467804733770fa972bca498bbcb9a0e7") true
    known_holds (fun _ h => by cases h) (by kernel_rfl) (fun _ h => by cases h) prefixTells_row_tie rfl ⟨rfl, rfl⟩ (by kernel_rfl) rfl
    (fun f fn hf hfn => by
      obtain rfl : f = 3 := Option.some.inj ((show Tryz.prog.funcNamed "consulate/consulatelaw02.PrefixTells" = some 3 by kernel_rfl).symm.trans hf) |>.symm
      obtain rfl : fn = Tryz.f3 := (Option.some.inj (Tryz.func3.symm.trans hfn)).symm
      exact ⟨by kernel_rfl, fun j t ht => by
        rw [show Tryz.f3.params = #[25, 25, 22, 3] from rfl] at ht
        have hj : j = 0 ∨ j = 1 ∨ j = 2 ∨ j = 3 := by
          have := (Array.getElem?_eq_some_iff.1 ht).1
          simp at this; omega
        have h3 : t = 25 ∨ t = 22 ∨ t = 3 := by
          rcases hj with rfl | rfl | rfl | rfl
          · left; simpa using ht.symm
          · left; simpa using ht.symm
          · right; left; simpa using ht.symm
          · right; right; simpa using ht.symm
        rcases h3 with rfl | rfl | rfl
        · exact (by kernel_rfl : Tryz.checked.prog.wantsStandIn 25 = false)
        · exact (by kernel_rfl : Tryz.checked.prog.wantsStandIn 22 = false)
        · exact (by kernel_rfl : Tryz.checked.prog.wantsStandIn 3 = false)⟩)
    (by kernel_rfl)
#print axioms card_holds
end Go.Proofs.YtgmojlibppmfhaaGreatDoor

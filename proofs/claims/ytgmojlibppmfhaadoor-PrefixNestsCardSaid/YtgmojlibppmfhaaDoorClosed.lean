/- PrefixNests (chapter 02): for any two prefixes and any address the law returns true, and nothing that was there has turned. -/
import Derived.Test.YtgmojlibppmfhaaDoorPart17

namespace Go.Proofs.YtgmojlibppmfhaaDoor
open Go Go.Ai Go.ChangeShapes Go.WideShapes Go.RowKit

theorem own : ownKnob Tryd.prog.godebug = none := by kernel_rfl

noncomputable def laidW (os : Os) : World := pinWorld (World.doorLaid Tryd.prog 4000 os) [(5, Pinned.utf8First)]

/-- The door's own heap, tables laid by hand, meets the condition. -/
theorem door_met (os : Os) (args : Array Value) : laidMetH Tryd.prog Rows.prefixNestsRow.laid ((laidW os).forCall (fun _ _ => 0) ⟨#[], args, []⟩).memory :=
  laidMetH_of_parts3 (fuel := 8) (laidMet_of_run' 8 (by kernel_rfl) (by kernel_rfl)) (by kernel_rfl) (by kernel_rfl)

def argsOk (args : Array Value) : Prop := ∃ (x b y c z : Int), args = #[.agg #[.int .u32 x, .int .i64 b], .agg #[.int .u32 y, .int .i64 c], .int .u32 z] ∧ 0 ≤ x ∧ x < 4294967296 ∧ 0 ≤ y ∧ y < 4294967296 ∧ 0 ≤ z ∧ z < 4294967296
set_option maxRecDepth 1000000 in
theorem arg_shape {H : Type} {enc : TypeId × Value → H} (W : World) (base : Nat) (args : Array Value) (ds : List (DataW H)) (p : List MemPlace)
    (hval : ∀ (j : Nat) t v, Tryd.f8.params[j]? = some t → args[j]? = some v → Value.okWide Tryd.checked.prog W .any base t v)
    (hA : DataW.TrodAll enc Tryd.checked.prog W 0 (fun _ => true) true Tryd.f8.params.toList args.toList ds p) :
    argsOk args ∧ p = [] ∧ Rows.prefixNestsSpec.fn H ds = { results := [.lit (.bool true)], args := ds } ∧ ∀ (W' : World) (sp : Nat → Bool), DataW.TrodAll enc Tryd.checked.prog W' 0 sp true Tryd.f8.params.toList args.toList ds [] := by
  rw [show Tryd.f8.params.toList = [31, 31, 23] from rfl] at hA
  obtain ⟨v0, v1, v2, d0, d1, d2, p0, p1, p2, hargs, rfl, rfl, t0, t1, t2⟩ := trodAll_three hA
  subst hargs
  have m1 : IntKind.u32.min = 0 := by decide
  have m2 : IntKind.u32.max = 4294967295 := by decide
  obtain ⟨x, b, rfl, rfl, gx, _, k0⟩ := arg_pair2 (P := Tryd.checked.prog) (t0 := 24) (t1 := 3) (k0 := .u32) (k1 := .i64) (by kernel_rfl) (by kernel_rfl) (by kernel_rfl) (by kernel_rfl) (by kernel_rfl) (by kernel_rfl) (hval 0 31 v0 (by kernel_rfl) rfl) t0
  obtain ⟨y, c, rfl, rfl, gy, _, k1⟩ := arg_pair2 (P := Tryd.checked.prog) (t0 := 24) (t1 := 3) (k0 := .u32) (k1 := .i64) (by kernel_rfl) (by kernel_rfl) (by kernel_rfl) (by kernel_rfl) (by kernel_rfl) (by kernel_rfl) (hval 1 31 v1 (by kernel_rfl) rfl) t1
  obtain ⟨z, rfl, rfl, gz, k2⟩ := arg_int (k := .u32) (P := Tryd.checked.prog) (by kernel_rfl) (hval 2 23 v2 (by kernel_rfl) rfl) t2
  rw [m1, m2] at gx gy gz
  refine ⟨⟨x, b, y, c, z, rfl, gx.1, by omega, gy.1, by omega, gz.1, by omega⟩, rfl, rfl, fun W' sp => ?_⟩
  rw [show Tryd.f8.params.toList = [31, 31, 23] from rfl]
  exact all_three k0 k1 k2 W' sp
set_option maxRecDepth 100000 in
theorem lifted (os : Os) (started : os.Started) (H : Type) (enc : TypeId × Value → H) :
    ReturnsInHanded {} Tryd.checked os 8 .any (fun w args => (Rows.prefixNestsSpec.pre enc Tryd.prog Tryd.f8 [] false w args ∧ laidMetH Tryd.prog Rows.prefixNestsRow.laid w) ∧ sizedMet enc Tryd.prog Tryd.f8 (OpenSpec.ofChange Rows.prefixNestsSpec) false w args)
      (Rows.prefixNestsSpec.post enc Tryd.prog Tryd.f8 false true false false) :=
  open_lifted (C := Tryd.checked) (tb := 4) started own (by kernel_rfl) Tryd.func8 rfl (by kernel_rfl) rfl argsOk arg_shape
    (fun W args ⟨x, b, y, c, z, e, h0, h1, h2, h3, h4, h5⟩ hW => by
      subst e
      obtain ⟨st', hrun⟩ := law8 x b y c z h0 h1 h2 h3 h4 h5
      exact open_calls Tryd.checked.mixed ovp4_ok.1 ovp4_ok.2.1 ovp4_ok.2.2 nm_ok stN_is (args := [.agg #[.int .u32 x, .int .i64 b], .agg #[.int .u32 y, .int .i64 c], .int .u32 z]) rfl hrun Tryd.func8 rfl (by decide) hW)
    (ChangeSpec.witness_shaped (enc := enc) (C := Tryd.checked) (os := os) (X := fun w _ => laidMetH Tryd.prog Rows.prefixNestsRow.laid w) false (laidW os) #[.agg #[.int .u32 0, .int .i64 0], .agg #[.int .u32 0, .int .i64 0], .int .u32 0] 8 rfl (World.shaped_of_RefB (by kernel_rfl) (by kernel_rfl)) (by kernel_rfl) (by kernel_rfl) (by kernel_rfl) (door_met os _))

theorem known_holds : Rows.PrefixNestsSaid :=
  OpenClaim.holds_of_wide 8 Tryd.f8 rfl rfl rfl rfl rfl rfl rfl ⟨rfl, rfl, rfl, rfl, rfl⟩ rfl rfl rfl rfl rfl (by kernel_rfl) Tryd.func8 (by kernel_rfl)
    (of_decide_eq_true (by kernel_rfl)) (by unfold Func.isWrapper; first | (rw [if_pos (by decide +kernel)]; kernel_rfl) | (rw [if_neg (by decide +kernel)]; exact ⟨rfl, rfl⟩))
    (fun os started H enc _ => lifted os started H enc)

set_option maxRecDepth 1000000 in
theorem card_holds : Rows.PrefixNestsCardSaid :=
  Claim7.holds_tied_plain_at .later [] [.data, .data, .data, .data, .sentinel, .sentinel, .pinned] true (true, "469ca3d41323f9666fbc8ec578ab810e9a9158c66402a3ba0137bfc458320f63") true
    known_holds (fun _ h => by cases h) (by kernel_rfl) (fun _ h => by cases h) prefixNests_row_tie rfl ⟨rfl, rfl⟩ (by kernel_rfl) rfl
    (fun f fn hf hfn => by
      obtain rfl : f = 8 := Option.some.inj ((show Tryd.prog.funcNamed "consulate/consulatelaw02.PrefixNests" = some 8 by kernel_rfl).symm.trans hf) |>.symm
      obtain rfl : fn = Tryd.f8 := (Option.some.inj (Tryd.func8.symm.trans hfn)).symm
      exact ⟨by kernel_rfl, fun j t ht => by
        rw [show Tryd.f8.params = #[31, 31, 23] from rfl] at ht
        have hj : j = 0 ∨ j = 1 ∨ j = 2 := by
          have := (Array.getElem?_eq_some_iff.1 ht).1
          simp at this; omega
        have h3 : t = 31 ∨ t = 23 := by
          rcases hj with rfl | rfl | rfl
          · left; simpa using ht.symm
          · left; simpa using ht.symm
          · right; simpa using ht.symm
        rcases h3 with rfl | rfl
        · exact (by kernel_rfl : Tryd.checked.prog.wantsStandIn 31 = false)
        · exact (by kernel_rfl : Tryd.checked.prog.wantsStandIn 23 = false)⟩)
    (by kernel_rfl)
#print axioms card_holds
end Go.Proofs.YtgmojlibppmfhaaDoor

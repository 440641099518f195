/- PrefixTexts (chapter 02): for any address and any text the law returns true, and nothing that was there has turned. -/
import Derived.Test.YtgmojlibppmfhaaDoorPart43

namespace Go.Proofs.YtgmojlibppmfhaaDoor
open Go Go.Ai Go.ChangeShapes Go.WideShapes Go.RowKit

theorem own : ownKnob Tryd.prog.godebug = none := by kernel_rfl

noncomputable def laidW (os : Os) : World := pinWorld (World.doorLaid Tryd.prog 4000 os) [(5, Pinned.utf8First)]

/-- The door's own heap, tables laid by hand, meets the condition. -/
theorem door_met (os : Os) (args : Array Value) : laidMetH Tryd.prog Rows.prefixTextsRow.laid ((laidW os).forCall (fun _ _ => 0) ⟨#[], args, []⟩).memory :=
  laidMetH_of_parts3 (fuel := 8) (laidMet_of_run' 8 (by kernel_rfl) (by kernel_rfl)) (by kernel_rfl) (by kernel_rfl)

def argsOk (args : Array Value) : Prop := ∃ (x0 : Int) (x1 : ByteArray), args = #[.int .u32 x0, .string x1] ∧ 0 ≤ x0 ∧ x0 < 4294967296 ∧ x1.size ≤ maxLen
set_option maxRecDepth 1000000 in
theorem arg_shape {H : Type} {enc : TypeId × Value → H} (W : World) (base : Nat) (args : Array Value) (ds : List (DataW H)) (p : List MemPlace)
    (hval : ∀ (j : Nat) t v, Tryd.f4.params[j]? = some t → args[j]? = some v → Value.okWide Tryd.checked.prog W .any base t v)
    (hA : DataW.TrodAll enc Tryd.checked.prog W 0 (fun _ => true) true Tryd.f4.params.toList args.toList ds p) :
    argsOk args ∧ p = [] ∧ Rows.prefixTextsSpec.fn H ds = { results := [.lit (.bool true)], args := ds } ∧ ∀ (W' : World) (sp : Nat → Bool), DataW.TrodAll enc Tryd.checked.prog W' 0 sp true Tryd.f4.params.toList args.toList ds [] := by
  rw [show Tryd.f4.params.toList = [23, 9] from rfl] at hA
  obtain ⟨v0, v1, d0, d1, p0, p1, hargs, rfl, rfl, t0, t1⟩ := trodAll_two hA
  subst hargs
  obtain ⟨x0, rfl, rfl, g0, k0⟩ := arg_int (k := .u32) (P := Tryd.checked.prog) (by kernel_rfl) (hval 0 23 v0 (by kernel_rfl) rfl) t0
  obtain ⟨x1, rfl, rfl, g1, k1⟩ := arg_string (P := Tryd.checked.prog) (by kernel_rfl) (hval 1 9 v1 (by kernel_rfl) rfl) t1
  have a0 : 0 ≤ x0 ∧ x0 < 4294967296 := by
    have e1 : IntKind.u32.min = 0 := by decide
    have e2 : IntKind.u32.max = 4294967295 := by decide
    rw [e1, e2] at g0; omega
  refine ⟨⟨x0, x1, rfl, a0.1, a0.2, g1⟩, rfl, rfl, fun W' sp => ?_⟩
  rw [show Tryd.f4.params.toList = [23, 9] from rfl]
  exact all_two k0 k1 W' sp
set_option maxRecDepth 100000 in
theorem lifted (os : Os) (started : os.Started) (H : Type) (enc : TypeId × Value → H) :
    ReturnsInHanded {} Tryd.checked os 4 .any (fun w args => (Rows.prefixTextsSpec.pre enc Tryd.prog Tryd.f4 [] false w args ∧ laidMetH Tryd.prog Rows.prefixTextsRow.laid w) ∧ sizedMet enc Tryd.prog Tryd.f4 (OpenSpec.ofChange Rows.prefixTextsSpec) false w args)
      (Rows.prefixTextsSpec.post enc Tryd.prog Tryd.f4 false true false false) :=
  open_lifted (C := Tryd.checked) (tb := 4) started own (by kernel_rfl) Tryd.func4 rfl (by kernel_rfl) rfl argsOk arg_shape
    (fun W args ⟨x0, x1, e, h0, h1, h2⟩ hW => by
      subst e
      obtain ⟨st', hrun⟩ := F4_all x0 x1 h0 h1 h2
      exact open_calls Tryd.checked.mixed ovt_ok.1 ovt_ok.2.1 ovt_ok.2.2 nm_ok stT_is (args := [.int .u32 x0, .string x1]) rfl hrun Tryd.func4 rfl (by decide) hW)
    (ChangeSpec.witness_shaped (enc := enc) (C := Tryd.checked) (os := os) (X := fun w _ => laidMetH Tryd.prog Rows.prefixTextsRow.laid w) false (laidW os) #[.int .u32 0, .string ⟨#[]⟩] 8 rfl (World.shaped_of_RefB (by kernel_rfl) (by kernel_rfl)) (by kernel_rfl) (by kernel_rfl) (by kernel_rfl) (door_met os _))

theorem known_holds : Rows.PrefixTextsSaid :=
  OpenClaim.holds_of_wide 4 Tryd.f4 rfl rfl rfl rfl rfl rfl rfl ⟨rfl, rfl, rfl, rfl, rfl⟩ rfl rfl rfl rfl rfl (by kernel_rfl) Tryd.func4 (by kernel_rfl)
    (of_decide_eq_true (by kernel_rfl)) (by unfold Func.isWrapper; first | (rw [if_pos (by decide +kernel)]; kernel_rfl) | (rw [if_neg (by decide +kernel)]; exact ⟨rfl, rfl⟩))
    (fun os started H enc _ => lifted os started H enc)

set_option maxRecDepth 1000000 in
theorem card_holds : Rows.PrefixTextsCardSaid :=
  Claim7.holds_tied_plain_at .later [] [.data, .data, .data, .data, .sentinel, .sentinel, .pinned] true (true, "469ca3d41323f9666fbc8ec578ab810e9a9158c66402a3ba0137bfc458320f63") true
    known_holds (fun _ h => by cases h) (by kernel_rfl) (fun _ h => by cases h) prefixTexts_row_tie rfl ⟨rfl, rfl⟩ (by kernel_rfl) rfl
    (fun f fn hf hfn => by
      obtain rfl : f = 4 := Option.some.inj ((show Tryd.prog.funcNamed "consulate/consulatelaw02.PrefixTexts" = some 4 by kernel_rfl).symm.trans hf) |>.symm
      obtain rfl : fn = Tryd.f4 := (Option.some.inj (Tryd.func4.symm.trans hfn)).symm
      exact ⟨by kernel_rfl, fun j t ht => by
        rw [show Tryd.f4.params = #[23, 9] from rfl] at ht
        have hj : j = 0 ∨ j = 1 := by
          have := (Array.getElem?_eq_some_iff.1 ht).1
          simp at this; omega
        rcases hj with rfl | rfl
        · have ht : t = 23 := by simpa using ht.symm
          subst ht
          exact (by kernel_rfl : Tryd.checked.prog.wantsStandIn 23 = false)
        · have ht : t = 9 := by simpa using ht.symm
          subst ht
          exact (by kernel_rfl : Tryd.checked.prog.wantsStandIn 9 = false)⟩)
    (by kernel_rfl)
#print axioms card_holds
end Go.Proofs.YtgmojlibppmfhaaDoor

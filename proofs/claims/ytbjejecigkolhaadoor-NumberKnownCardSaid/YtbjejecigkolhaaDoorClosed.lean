/- A closed statement of chapter 04 is true: 'consulatelaw04.NumberKnown' returns true, in every world in which the listed package variables hold what the program's text lays; by running it in a verified interpreter, in the kernel. -/
import Derived.Test.YtbjejecigkolhaaDoorAi3
import Derived.Test.YtbjejecigkolhaaDoorTie
import Derived.Test.YtbjejecigkolhaaDoorCards
import Derived.SevenTiedAt

namespace Go.Proofs.YtbjejecigkolhaaDoor
open Go Go.Ai

def ex : List (Nat × Xt) := [(63, .indexByte)]
def nm : List (String × TypeId) := [("errors.errorString", 107)]
set_option maxRecDepth 1000000
theorem nm_ok : nm.all (nameOk Tryd.prog) = true := by kernel_rfl
theorem ex_ok : ex.all (extFits Tryd.prog) = true := by kernel_rfl
theorem start_ok : (laidStart Tryd.prog nm [] Rows.numberKnownRow.laid).isSome = true := by kernel_rfl
theorem known_run : closedRun Tryd.prog ex nm [] Rows.numberKnownRow.laid 100000 7 = true := by kernel_rfl
end Go.Proofs.YtbjejecigkolhaaDoor

namespace Go.Proofs.YtbjejecigkolhaaDoor
open Go Go.Ai Go.ChangeShapes Go.WideShapes Go.RowKit

theorem own : ownKnob Tryd.prog.godebug = none := by kernel_rfl

noncomputable def laidW (os : Os) : World := pinWorld (World.doorLaid Tryd.prog 4000 os) [(5, Pinned.utf8First)]

/-- The door's own heap, one table laid by hand, meets the condition. -/
theorem door_met (os : Os) (args : Array Value) : laidMetH Tryd.prog Rows.numberKnownRow.laid ((laidW os).forCall (fun _ _ => 0) ⟨#[], args, []⟩).memory :=
  laidMetH_of_parts3 (fuel := 8) (laidMet_of_run' 8 (by kernel_rfl) (by kernel_rfl)) (by kernel_rfl) (by kernel_rfl)

set_option maxRecDepth 100000 in
theorem lifted (os : Os) (started : os.Started) (H : Type) (enc : TypeId × Value → H) :
    ReturnsInHanded {} Tryd.checked os 7 .any (fun w args => (Rows.numberKnownSpec.pre enc Tryd.prog Tryd.f7 [] false w args ∧ laidMetH Tryd.prog Rows.numberKnownRow.laid w) ∧ sizedMet enc Tryd.prog Tryd.f7 (OpenSpec.ofChange Rows.numberKnownSpec) false w args)
      (Rows.numberKnownSpec.post enc Tryd.prog Tryd.f7 false true false false) :=
  closed_lifted (C := Tryd.checked) (tb := 4) started own (by kernel_rfl) Tryd.func7 rfl (by decide) rfl rfl (by kernel_rfl) rfl rfl known_run
    (ChangeSpec.witness_shaped (enc := enc) (C := Tryd.checked) (os := os) (X := fun w _ => laidMetH Tryd.prog Rows.numberKnownRow.laid w) false (laidW os) #[] 8 rfl (World.shaped_of_RefB (by kernel_rfl) (by kernel_rfl)) (by kernel_rfl) (by kernel_rfl) (by kernel_rfl) (door_met os _))

theorem known_holds : Rows.NumberKnownSaid :=
  OpenClaim.holds_of_wide 7 Tryd.f7 rfl rfl rfl rfl rfl rfl rfl ⟨rfl, rfl, rfl, rfl, rfl⟩ rfl rfl rfl rfl rfl (by kernel_rfl) Tryd.func7 (by kernel_rfl)
    (of_decide_eq_true (by kernel_rfl)) (by unfold Func.isWrapper; first | (rw [if_pos (by decide +kernel)]; kernel_rfl) | (rw [if_neg (by decide +kernel)]; exact ⟨rfl, rfl⟩))
    (fun os started H enc _ => lifted os started H enc)

theorem card_holds : Rows.NumberKnownCardSaid :=
  Claim7.holds_tied_plain_at .later [] [.data, .data, .data, .data, .sentinel, .sentinel, .data, .pinned] true (true, "5ebddb9af7955939ef147fcd26a7e2a7b27ddcd8e819c49241ade69484920856") true
    known_holds (fun _ h => by cases h) (by kernel_rfl) (fun _ h => by cases h) numberKnown_row_tie rfl ⟨rfl, rfl⟩ (by kernel_rfl) rfl
    (fun f fn hf hfn => by
      obtain rfl : f = 7 := Option.some.inj ((show Tryd.prog.funcNamed "consulate/consulatelaw04.NumberKnown" = some 7 by kernel_rfl).symm.trans hf) |>.symm
      obtain rfl : fn = Tryd.f7 := (Option.some.inj (Tryd.func7.symm.trans hfn)).symm
      exact ⟨by kernel_rfl, fun j t ht => by
        rw [show Tryd.f7.params = #[] from rfl] at ht
        simp at ht⟩)
    (by kernel_rfl)
#print axioms card_holds
end Go.Proofs.YtbjejecigkolhaaDoor

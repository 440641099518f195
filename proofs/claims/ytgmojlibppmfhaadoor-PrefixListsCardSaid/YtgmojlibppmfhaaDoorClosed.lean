/- PrefixLists (chapter 02): for any list of prefixes the law returns true, and nothing that was there has turned. -/
import Derived.Test.YtgmojlibppmfhaaDoorPart46

namespace Go.Proofs.YtgmojlibppmfhaaDoor
open Go Go.Ai Go.ChangeShapes Go.WideShapes Go.RowKit

theorem own : ownKnob Tryd.prog.godebug = none := by kernel_rfl

noncomputable def laidW (os : Os) : World := pinWorld (World.doorLaid Tryd.prog 4000 os) [(5, Pinned.utf8First)]

/-- The door's own heap, tables laid by hand, meets the condition. -/
theorem door_met (os : Os) (args : Array Value) : laidMetH Tryd.prog Rows.prefixListsRow.laid ((laidW os).forCall (fun _ _ => 0) ⟨#[], args, []⟩).memory :=
  laidMetH_of_parts3 (fuel := 8) (laidMet_of_run' 8 (by kernel_rfl) (by kernel_rfl)) (by kernel_rfl) (by kernel_rfl)
noncomputable def flds : Field × Field := match Tryd.prog.underlying 31 with
  | some (.struct ⟨[a, b]⟩) => (a, b)
  | _ => (default, default)
def argsOk (W : World) (args : Array Value) : Prop := args = #[.slice none 0 0] ∨ ∃ (a : Addr) (n : Nat) (l : List (Int × Int)), args = #[.slice (some a) n l.length] ∧ n ≤ l.length ∧ l.length ≤ maxLen ∧ (∀ p ∈ l, 0 ≤ p.1 ∧ p.1 < 4294967296) ∧ InRow W a (pairC .u32 .i64 l)
set_option maxRecDepth 1000000 in
theorem arg_shape {H : Type} {enc : TypeId × Value → H} (W : World) (base : Nat) (args : Array Value) (ds : List (DataW H)) (p : List MemPlace)
    (hval : ∀ (j : Nat) t v, Tryd.f5.params[j]? = some t → args[j]? = some v → Value.okWide Tryd.checked.prog W .any base t v)
    (hA : DataW.TrodAll enc Tryd.checked.prog W 0 (fun _ => true) true Tryd.f5.params.toList args.toList ds p) : argsOk W args := by
  rw [show Tryd.f5.params.toList = [38] from rfl] at hA
  obtain ⟨v0, d0, hargs, rfl, t0⟩ := trodAll_one hA
  subst hargs
  rcases arg_pairs (P := Tryd.checked.prog) (e := 31) (f0 := flds.1) (f1 := flds.2) (k0 := .u32) (k1 := .i64) (by kernel_rfl) (by kernel_rfl) (by kernel_rfl) (by kernel_rfl) (by kernel_rfl) (by kernel_rfl) (by kernel_rfl) (by kernel_rfl) (by kernel_rfl) (hval 0 38 v0 (by kernel_rfl) rfl) t0 with rfl | ⟨a, n, l, rfl, h1, h2, h3, h4⟩
  · exact .inl rfl
  · refine .inr ⟨a, n, l, rfl, h1, h2, fun p hp => ?_, h4⟩
    have e1 : IntKind.u32.min = 0 := by decide
    have e2 : IntKind.u32.max = 4294967295 := by decide
    have := (h3 p hp).1
    rw [e1, e2] at this; omega
theorem law_calls (W : World) (args : Array Value) (hA : argsOk W args) (hL : laidMetH Tryd.checked.prog Rows.prefixListsRow.laid W) : Calls Tryd.checked.prog 5 args W fun e W' => e = .returned (.bool true) ∧ Stays W W' := by
  have hb := begins_laid nm_ok stT_is hL
  rcases hA with rfl | ⟨a, n, l, rfl, h1, h2, h3, hsp, hblk, hcs, hne⟩
  · obtain ⟨st', hrun⟩ := LM
    exact begins_calls Tryd.checked.mixed ovb1_ok.1 ovb1_ok.2.1 ovb1_ok.2.2 (args := [.slice none 0 0]) (cargs := [.slice none 0 0]) (begins_flat hb (v := .slice none 0 0) rfl) hrun Tryd.func5 rfl (by decide)
  · have hr := begins_row hb (len := n) (cap := l.length) 31 hsp hblk h2 hcs (pairC_flat _ _ l) hne
    rw [ctT] at hr
    have hr : Begins Tryd.checked.prog (stL (pairC .u32 .i64 l)) W [.slice (some ⟨11, 0, none⟩) n l.length] [.slice (some a) n l.length] := hr
    have h2' : l.length ≤ 9223372036854775807 := h2
    by_cases h0 : n = 0
    · subst h0
      obtain ⟨st', hrun⟩ := LN (pairC .u32 .i64 l) h2'
      exact begins_calls Tryd.checked.mixed ovb1_ok.1 ovb1_ok.2.1 ovb1_ok.2.2 hr hrun Tryd.func5 rfl (by decide)
    · have h : Lst l n := ⟨Nat.pos_of_ne_zero h0, h1, h2', h3⟩
      by_cases hM : ∀ i < mN n, mayF (pA (pairC .u32 .i64 l) i) (pB (pairC .u32 .i64 l) i) = true
      · obtain ⟨st', hrun⟩ := LA h hM
        exact begins_calls Tryd.checked.mixed ovbA_ok.1 ovbA_ok.2.1 ovbA_ok.2.2 hr hrun Tryd.func5 rfl (by decide)
      · simp only [Classical.not_forall, Bool.not_eq_true] at hM
        obtain ⟨i, hi, hM⟩ := hM
        obtain ⟨st', hrun⟩ := LB h hi hM
        exact begins_calls Tryd.checked.mixed ovbB_ok.1 ovbB_ok.2.1 ovbB_ok.2.2 hr hrun Tryd.func5 rfl (by decide)
set_option maxRecDepth 100000 in
theorem lifted (os : Os) (started : os.Started) (H : Type) (enc : TypeId × Value → H) :
    ReturnsInHanded {} Tryd.checked os 5 .any (fun w args => (Rows.prefixListsSpec.pre enc Tryd.prog Tryd.f5 [] false w args ∧ laidMetH Tryd.prog Rows.prefixListsRow.laid w) ∧ sizedMet enc Tryd.prog Tryd.f5 (OpenSpec.ofChange Rows.prefixListsSpec) false w args)
      (Rows.prefixListsSpec.post enc Tryd.prog Tryd.f5 false true false false) :=
  rows_lifted (C := Tryd.checked) (tb := 4) (n := 8) started own (by kernel_rfl) Tryd.func5 rfl (by kernel_rfl) rfl (by kernel_rfl) argsOk
    (fun ds hd => by
      match ds, hd with
      | [d], _ => rfl)
    (fun W base args ds p hv hA => arg_shape W base args ds p hv hA) law_calls
    (ChangeSpec.witness_shaped (enc := enc) (C := Tryd.checked) (os := os) (X := fun w _ => laidMetH Tryd.prog Rows.prefixListsRow.laid w) false (laidW os) #[.slice none 0 0] 8 rfl (World.shaped_of_RefB (by kernel_rfl) (by kernel_rfl)) (by kernel_rfl) (by kernel_rfl) (by kernel_rfl) (door_met os _))

theorem known_holds : Rows.PrefixListsSaid :=
  OpenClaim.holds_of_wide 5 Tryd.f5 rfl rfl rfl rfl rfl rfl rfl ⟨rfl, rfl, rfl, rfl, rfl⟩ rfl rfl rfl rfl rfl (by kernel_rfl) Tryd.func5 (by kernel_rfl)
    (of_decide_eq_true (by kernel_rfl)) (by unfold Func.isWrapper; first | (rw [if_pos (by decide +kernel)]; kernel_rfl) | (rw [if_neg (by decide +kernel)]; exact ⟨rfl, rfl⟩))
    (fun os started H enc _ => lifted os started H enc)

set_option maxRecDepth 1000000 in
theorem card_holds : Rows.PrefixListsCardSaid :=
  Claim7.holds_tied_plain_at .later [] [.data, .data, .data, .data, .sentinel, .sentinel, .pinned] true (true, "469ca3d41323f9666fbc8ec578ab810e9a9158c66402a3ba0137bfc458320f63") true
    known_holds (fun _ h => by cases h) (by kernel_rfl) (fun _ h => by cases h) prefixLists_row_tie rfl ⟨rfl, rfl⟩ (by kernel_rfl) rfl
    (fun f fn hf hfn => by
      obtain rfl : f = 5 := Option.some.inj ((show Tryd.prog.funcNamed "consulate/consulatelaw02.PrefixLists" = some 5 by kernel_rfl).symm.trans hf) |>.symm
      obtain rfl : fn = Tryd.f5 := (Option.some.inj (Tryd.func5.symm.trans hfn)).symm
      exact ⟨by kernel_rfl, fun j t ht => by
        rw [show Tryd.f5.params = #[38] from rfl] at ht
        have hj : j = 0 := by
          have := (Array.getElem?_eq_some_iff.1 ht).1
          simp at this; omega
        subst hj
        have ht : t = 38 := by simpa using ht.symm
        subst ht
        exact (by kernel_rfl : Tryd.checked.prog.wantsStandIn 38 = false)⟩)
    (by kernel_rfl)
#print axioms card_holds
end Go.Proofs.YtgmojlibppmfhaaDoor

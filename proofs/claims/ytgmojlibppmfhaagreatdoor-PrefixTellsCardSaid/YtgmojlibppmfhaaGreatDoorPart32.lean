/- Runs of the abstract interpreter, part 32: by an AI agent. -/
import Derived.Test.YtgmojlibppmfhaaGreatDoorPart31
import Derived.ChangeSame

/-! ### an argument that is a pair of two numbers; three arguments -/
namespace Go.Ai
open Go Go.ChangeShapes Go.WideShapes Go.RowKit Go.ChangeMaps
section
variable {P : Program} {H : Type} {enc : TypeId × Value → H} {w : World} {base : Nat} {spare : Nat → Bool} {held : Bool}
theorem arg_pair {r : Reach} {b0 : Nat} {t : TypeId} {f0 f1 : Field} {k0 k1 : IntKind} {v : Value} {d : DataW H} {ps : List MemPlace} (ht : P.underlying t = some (.struct #[f0, f1]))
    (e0 : P.underlying f0.type = some (.int k0)) (e1 : P.underlying f1.type = some (.int k1)) (o0 : f0.offset = 0) (o1 : f1.offset = 1) (hc : P.cellsOf t = 2) (c0 : P.cellsOf f0.type = 1) (c1 : P.cellsOf f1.type = 1)
    (hval : Value.okWide P w r b0 t v) (hd : DataW.Trod enc P w base spare held t v d ps) :
    ∃ m n, v = .agg #[.int k0 m, .int k1 n] ∧ ps = [] ∧ (k0.min ≤ m ∧ m ≤ k0.max) ∧ (k1.min ≤ n ∧ n ≤ k1.max) ∧ ∀ (w' : World) (base' : Nat) (sp' : Nat → Bool) (held' : Bool), DataW.Trod enc P w' base' sp' held' t v d [] := by
  unfold Value.okWide at hval
  rw [ht] at hval
  obtain ⟨cs, rfl, hsz, _⟩ := hval
  obtain ⟨fuel, hf⟩ := hd
  obtain ⟨y0, y1, n, hx, hl, h0, h1⟩ := trod_struct2 ht hf
  rw [hc] at hl
  rw [o0, c0] at h0
  rw [o1, c1] at h1
  obtain ⟨l⟩ := cs
  simp only [Value.cells] at hl h0 h1
  match l, hl with
  | [u, u'], _ =>
    obtain ⟨m, g1, g2, g3⟩ := DataW.trod_int e0 h0
    obtain ⟨m', g1', g2', g3'⟩ := DataW.trod_int e1 h1
    simp at g1 g1'
    subst g1 g1'
    subst g2 g2'
    simp only [Prod.mk.injEq, List.append_nil] at hx
    obtain ⟨rfl, rfl⟩ := hx
    refine ⟨m, m', rfl, rfl, by simpa [Lit.wf] using g3, by simpa [Lit.wf] using g3', fun w' base' sp' held' => ⟨2, ?_⟩⟩
    have := trod_struct2_mk (enc := enc) (w := w') (base := base') (spare := sp') (held := held') (n := 1) (cs := [.int k0 m, .int k1 m']) (y0 := (.lit (.int k0 m), [])) (y1 := (.lit (.int k1 m'), [])) ht (by rw [hc]; rfl)
      (by rw [o0, c0]; exact trod_int_mk 0 e0 g3) (by rw [o1, c1]; exact trod_int_mk 0 e1 g3')
    simpa [Value.cells] using this
def isPair (P : Program) (t t0 t1 : TypeId) : Bool := match P.underlying t with
  | some (.struct ⟨[f0, f1]⟩) => Nat.beq f0.type t0 && (Nat.beq f0.offset 0 && (Nat.beq f1.type t1 && Nat.beq f1.offset 1))
  | _ => false
theorem arg_pair2 {r : Reach} {b0 : Nat} {t t0 t1 : TypeId} {k0 k1 : IntKind} {v : Value} {d : DataW H} {ps : List MemPlace} (ht : isPair P t t0 t1 = true)
    (e0 : P.underlying t0 = some (.int k0)) (e1 : P.underlying t1 = some (.int k1)) (hc : P.cellsOf t = 2) (c0 : P.cellsOf t0 = 1) (c1 : P.cellsOf t1 = 1)
    (hval : Value.okWide P w r b0 t v) (hd : DataW.Trod enc P w base spare held t v d ps) :
    ∃ m n, v = .agg #[.int k0 m, .int k1 n] ∧ ps = [] ∧ (k0.min ≤ m ∧ m ≤ k0.max) ∧ (k1.min ≤ n ∧ n ≤ k1.max) ∧ ∀ (w' : World) (base' : Nat) (sp' : Nat → Bool) (held' : Bool), DataW.Trod enc P w' base' sp' held' t v d [] := by
  unfold isPair at ht
  split at ht
  · rename_i f0 f1 hu
    simp only [Bool.and_eq_true] at ht
    obtain ⟨h1, h2, h3, h4⟩ := ht
    have h1 := Nat.eq_of_beq_eq_true h1
    have h3 := Nat.eq_of_beq_eq_true h3
    subst h1 h3
    exact arg_pair hu e0 e1 (Nat.eq_of_beq_eq_true h2) (Nat.eq_of_beq_eq_true h4) hc c0 c1 hval hd
  · cases ht
theorem all_three {t t' t'' : TypeId} {v v' v'' : Value} {d d' d'' : DataW H} (h : ∀ (w' : World) (base' : Nat) (sp' : Nat → Bool) (held' : Bool), DataW.Trod enc P w' base' sp' held' t v d [])
    (h' : ∀ (w' : World) (base' : Nat) (sp' : Nat → Bool) (held' : Bool), DataW.Trod enc P w' base' sp' held' t' v' d' []) (h'' : ∀ (w' : World) (base' : Nat) (sp' : Nat → Bool) (held' : Bool), DataW.Trod enc P w' base' sp' held' t'' v'' d'' [])
    (W' : World) (sp : Nat → Bool) : DataW.TrodAll enc P W' 0 sp true [t, t', t''] [v, v', v''] [d, d', d''] [] := by
  simpa using trodAll_mk3 (h W' 0 sp true) (h' W' 0 sp true) (h'' W' 0 sp true)
theorem all_four {t t' t'' t3 : TypeId} {v v' v'' v3 : Value} {d d' d'' d3 : DataW H} (h : ∀ (w' : World) (base' : Nat) (sp' : Nat → Bool) (held' : Bool), DataW.Trod enc P w' base' sp' held' t v d [])
    (h' : ∀ (w' : World) (base' : Nat) (sp' : Nat → Bool) (held' : Bool), DataW.Trod enc P w' base' sp' held' t' v' d' []) (h'' : ∀ (w' : World) (base' : Nat) (sp' : Nat → Bool) (held' : Bool), DataW.Trod enc P w' base' sp' held' t'' v'' d'' [])
    (h3 : ∀ (w' : World) (base' : Nat) (sp' : Nat → Bool) (held' : Bool), DataW.Trod enc P w' base' sp' held' t3 v3 d3 [])
    (W' : World) (sp : Nat → Bool) : DataW.TrodAll enc P W' 0 sp true [t, t', t'', t3] [v, v', v'', v3] [d, d', d'', d3] [] := by
  simpa using trodAll_mk4 (h W' 0 sp true) (h' W' 0 sp true) (h'' W' 0 sp true) (h3 W' 0 sp true)
end
end Go.Ai

/- The abstract interpreter and its soundness, part 2 of 5: by an AI agent. -/
import Derived.Test.YtgmojlibppmfhaaDoorAi1
import Derived.RangeFuncLeaves
import Derived.OrdersIn
import Derived.LoopNIn

/-! append. -/
namespace Go.Ai
open Go

section
variable {P : Program} {w : World}

/-- what append puts behind -/
def ContentIs (P : Program) (w : World) (z : Value) (xd : TypeDesc) (size n : Nat) (x : Value) (cl : List Value) : Prop :=
  ((xd = .string ∨ ∃ q, xd = .slice q) ∧ (Builtin.lenOf x).run P w = .ok n w ∧ (Builtin.firstCells size n x).run P w = .ok cl.toArray w) ∨
  (∃ k k', xd = .int k ∧ x = .int k' n ∧ cl = (Builtin.zeroCells z.cells n).toList ∧ z.cells.size = size)

theorem wrap_small {n : Nat} (h : n ≤ 70368744177664) : IntKind.i64.wrap (n : Int) = n := by
  have h1 : (n : Int) % 18446744073709551616 = n := by omega
  simp [IntKind.wrap, IntKind.bits, IntKind.signed, h1]
  omega

theorem firstCells_drew {size n : Nat} {x : Value} {l : Array Value} (h : (Builtin.firstCells size n x).run P w = .ok l w) : (Builtin.firstCells size n x).run P w.drew = .ok l w.drew := by
  cases x with
  | slice oa k c =>
    cases oa with
    | none => simp [Builtin.firstCells] at h ⊢; exact h
    | some a =>
      simp only [Builtin.firstCells] at h ⊢
      have key : ∀ (n : Nat) (i : Nat) (acc : Array Value) (l : Array Value), (loadCellsFrom a i n acc).run P w = .ok l w → (loadCellsFrom a i n acc).run P w.drew = .ok l w.drew := by
        intro n
        induction n with
        | zero => intro i acc l h; simp [loadCellsFrom] at h ⊢; exact h
        | succ n ih =>
          intro i acc l h
          simp only [loadCellsFrom, Sem.run_bind] at h ⊢
          have hl : (load (a.add i)).run P w.drew = match (load (a.add i)).run P w with | .ok v _ => .ok v w.drew | .halt x _ => .halt x w.drew := by
            simp only [run_load]
            have h1 : w.drew.cell? (a.add i) = w.cell? (a.add i) := rfl
            have h2 : w.drew.farLoad P (a.add i) (Mode.plain == .atomic) = w.farLoad P (a.add i) (Mode.plain == .atomic) := rfl
            rw [h1, h2]
            cases w.cell? (a.add i) with
            | some v => rfl
            | none => cases w.farLoad P (a.add i) (Mode.plain == .atomic) <;> rfl
          rw [hl]
          cases hr : (load (a.add i)).run P w with
          | halt x w' => rw [hr] at h; simp at h
          | ok v w' =>
            have hw : w' = w := by
              simp only [run_load] at hr
              split at hr
              · simp at hr; exact hr.2.symm
              · split at hr
                · simp at hr; exact hr.2.symm
                · simp at hr
            subst hw
            rw [hr] at h
            simp only [Result.andThen_ok] at h ⊢
            exact ih _ _ _ h
      exact key _ _ _ _ h
  | string s => simp [Builtin.firstCells] at h ⊢; exact h
  | _ => simp [Builtin.firstCells] at h

set_option maxHeartbeats 2000000 in
theorem append_room {e : TypeId} {i : TypeInfo} {z : Value} {sT xT ty : TypeId} {base : Option Addr} {sLen sCap : Nat} {x : Value} {n : Nat} {cl : List Value} {xd : TypeDesc}
    (hs : (Cx.of P).desc sT = some (.slice e)) (hi : (Cx.of P).ty.get e = some i) (hz : (Cx.of P).zero e = some z) (hx : (Cx.of P).desc xT = some xd) (hK : ContentIs P w z xd i.size n x cl)
    (h63 : sLen + n ≤ 70368744177664) (hby : (sLen + n) * i.bytes ≤ 70368744177664) (hroom : sLen + n ≤ sCap) :
    (Builtin.append_ #[sT, xT] ty #[.slice base sLen sCap, x]).run P w = match base with
      | some a => ((storeCells (a.add (sLen * i.size)) cl).run P w).andThen fun _ w' => .ok (.slice base (sLen + n) sCap) w'
      | none => .ok (.slice base (sLen + n) sCap) w := by
  have us := run_underlying w hs
  have ux := run_underlying w hx
  have ht := run_typeInfo w hi
  have hzz := run_zeroValue w hz
  rcases hK with ⟨hxi, hn, hf⟩ | ⟨k, k', rfl, rfl, rfl, hzs⟩
  · rcases hxi with rfl | ⟨q, rfl⟩ <;> cases base <;> simp [Builtin.append_, us, ux, sizeOf, ht, hn, hf, hroom]
  · have hw := wrap_small (n := n) (by omega)
    have hn0 : ¬ ((n : Int) < 0) := by omega
    have h48 : ¬ ((281474976710656 : Int) < (n : Int) * (i.bytes : Int)) := by
      have h1 : n * i.bytes ≤ (sLen + n) * i.bytes := Nat.mul_le_mul_right _ (by omega)
      have h2 : ((n * i.bytes : Nat) : Int) = (n : Int) * (i.bytes : Int) := by simp
      omega
    by_cases h0 : n * i.size = 0
    · have hzc : (Builtin.zeroCells z.cells n) = #[] := by
        apply Array.eq_empty_of_size_eq_zero
        rw [size_zeroCells, hzs]; exact h0
      cases base <;> simp [Builtin.append_, us, ux, sizeOf, ht, asInt, asIntOf, hw, hn0, h48, h0, hzc, hroom]
    · cases base <;> simp [Builtin.append_, us, ux, sizeOf, ht, asInt, asIntOf, hw, hn0, h48, h0, hzz, hroom]

set_option maxHeartbeats 4000000 in
theorem append_grow {e : TypeId} {i : TypeInfo} {z : Value} {sT xT ty : TypeId} {base : Option Addr} {sLen sCap : Nat} {x : Value} {n : Nat} {old cl : List Value} {xd : TypeDesc}
    (hs : (Cx.of P).desc sT = some (.slice e)) (hi : (Cx.of P).ty.get e = some i) (hz : (Cx.of P).zero e = some z) (hx : (Cx.of P).desc xT = some xd) (hK : ContentIs P w z xd i.size n x cl)
    (ho : (Builtin.firstCells i.size sLen (.slice base sLen sCap)).run P w.drew = .ok old.toArray w.drew) (hroom : ¬ sLen + n ≤ sCap)
    (h63 : sLen + n ≤ 70368744177664) (hby : (sLen + n) * i.bytes ≤ 70368744177664) :
    (Builtin.append_ #[sT, xT] ty #[.slice base sLen sCap, x]).run P w =
      .ok (.slice (some ⟨w.heap.size, 0, none⟩) (sLen + n) (grownCap w (sLen + n) sCap e))
        (w.drew.alloc (.cells (old.toArray ++ cl.toArray ++ Builtin.zeroCells z.cells (grownCap w (sLen + n) sCap e - (sLen + n))) e)) := by
  have us := run_underlying w hs
  have ux := run_underlying w hx
  have ht := run_typeInfo w hi
  have ht' := run_typeInfo w.drew hi
  have hzz := run_zeroValue w.drew hz
  have h48 : ¬ (281474976710656 < Builtin.nextslicecap (sLen + n) sCap * i.bytes) := by
    have := growslice_fits (need := sLen + n) (old := sCap) (bytes := i.bytes) (by omega) (by omega)
    omega
  have h63'' : ¬ (9223372036854775807 < (sLen : Int) + (n : Int)) := by omega
  rcases hK with ⟨hxi, hn, hf⟩ | ⟨k, k', rfl, rfl, rfl, hzs⟩
  · have hf := firstCells_drew hf
    rcases hxi with rfl | ⟨q, rfl⟩ <;> simp [Builtin.append_, us, ux, sizeOf, ht, ht', hn, hf, ho, hroom, h48, h63'', Question.forced, newRow, grownCap, hzz] <;> (congr 2; apply Array.ext'; simp)
  · have hw := wrap_small (n := n) (by omega)
    have hn0 : ¬ ((n : Int) < 0) := by omega
    have h47 : ¬ ((281474976710656 : Int) < (n : Int) * (i.bytes : Int)) := by
      have h1 : n * i.bytes ≤ (sLen + n) * i.bytes := Nat.mul_le_mul_right _ (by omega)
      have h2 : ((n * i.bytes : Nat) : Int) = (n : Int) * (i.bytes : Int) := by simp
      omega
    by_cases h0 : n * i.size = 0
    · have hzc : (Builtin.zeroCells z.cells n) = #[] := by
        apply Array.eq_empty_of_size_eq_zero
        rw [size_zeroCells, hzs]; exact h0
      simp [Builtin.append_, us, ux, sizeOf, ht, ht', asInt, asIntOf, hw, hn0, h47, h0, hzc, ho, hroom, h48, h63'', Question.forced, newRow, grownCap, hzz]
    · simp [Builtin.append_, us, ux, sizeOf, ht, ht', asInt, asIntOf, hw, hn0, h47, h0, ho, hroom, h48, h63'', Question.forced, newRow, grownCap, hzz] <;> (congr 2; apply Array.ext'; simp)

end

section
variable {P : Program} {m : Nat → Option Loc} {st : St} {w : World}

theorem content_run (hR : Rep (Cx.of P) m st.G w) {size n : Nat} {xd : TypeDesc} {x cx : Value} {l : List Value} (h : contentA st size xd x = some (n, l)) (hx : VRep m x cx) :
    (xd = .string ∨ ∃ q, xd = .slice q) ∧ (Builtin.lenOf cx).run P w = .ok n w ∧ l.length = n * size ∧
      ∃ cl : List Value, (∀ μ, Ext m μ → l.map (conc μ) = cl) ∧ (Builtin.firstCells size n cx).run P w = .ok cl.toArray w := by
  have hx0 := hx _ (some0_ext m)
  unfold contentA at h
  cases xd <;> simp only at h <;> (try (simp at h; done))
  · cases x <;> simp only at h <;> (try (simp at h; done))
    rename_i b
    split at h <;> (try (simp at h; done))
    rename_i hs
    have hs := Nat.eq_of_beq_eq_true hs
    subst hs
    simp only [Option.some.injEq, Prod.mk.injEq] at h
    obtain ⟨rfl, rfl⟩ := h
    simp at hx0; subst hx0
    refine ⟨.inl rfl, by simp [Builtin.lenOf], by simp, b.data.toList.map fun b => .int .u8 b.toNat, fun μ _ => ?_, ?_⟩
    · simp
    · simp only [Builtin.firstCells, Sem.run_pure]
      rw [show b.extract 0 b.size = b by simp]
      congr 1
      apply Array.ext'
      simp
  · rename_i q
    cases x <;> simp only at h <;> (try (simp at h; done))
    rename_i oa k c
    cases oa with
    | none =>
      simp only at h
      split at h <;> (try (simp at h; done))
      rename_i hk
      have hk := Nat.eq_of_beq_eq_true hk
      subst hk
      simp only [Option.some.injEq, Prod.mk.injEq] at h
      obtain ⟨rfl, rfl⟩ := h
      simp at hx0; subst hx0
      exact ⟨.inr ⟨q, rfl⟩, by simp [Builtin.lenOf], by simp, [], fun _ _ => rfl, by simp [Builtin.firstCells]⟩
    | some a =>
      simp only at h
      cases hr : readCells st a (k * size) with
      | none => rw [hr] at h; simp at h
      | some l' =>
        rw [hr] at h
        simp only [Option.some.injEq, Prod.mk.injEq] at h
        obtain ⟨rfl, rfl⟩ := h
        have hca : ∀ μ, Ext m μ → a.spot = none → concEnd (some0 m) a (concCap (some0 m) a.block c) = concAddr μ a := by
          intro μ hμ hs
          have h1 := hx μ hμ
          rw [← hx0] at h1
          simp only [conc_slice, Value.slice.injEq, Option.some.injEq] at h1
          rw [← h1.1, concEnd_none μ hs]
        obtain ⟨h1, h2⟩ := readCells_run hR hr (some0_ext m) (ca := concEnd (some0 m) a (concCap (some0 m) a.block c)) (hca _ (some0_ext m))
        simp only [conc_slice] at hx0; subst hx0
        refine ⟨.inr ⟨q, rfl⟩, by simp [Builtin.lenOf], h2, l'.map (conc (some0 m)), fun μ hμ => ?_, by simpa [Builtin.firstCells] using h1⟩
        have h3 := (readCells_run hR hr hμ (ca := concEnd (some0 m) a (concCap (some0 m) a.block c)) (hca _ hμ)).1
        rw [h1] at h3
        simp only [Result.ok.injEq, and_true] at h3
        exact (List.toArray_inj h3).symm

theorem contentZ_run (hR : Rep (Cx.of P) m st.G w) {size n : Nat} {xd : TypeDesc} {x cx z : Value} {zl l : List Value} (h : contentZ st zl size xd x = some (n, l)) (hx : VRep m x cx)
    (hzl : zl = z.cells.toList) (hzf : flat z = true) (hzs : z.cells.size = size) :
    l.length = n * size ∧ ∃ cl : List Value, (∀ μ, Ext m μ → l.map (conc μ) = cl) ∧ ContentIs P w z xd size n cx cl := by
  by_cases hk : ∃ k, xd = .int k
  · obtain ⟨k, rfl⟩ := hk
    simp only [contentZ] at h
    split at h <;> (try (simp at h; done))
    rename_i k' lI
    split at h <;> (try (simp at h; done))
    rename_i hb
    simp only [decide_eq_true_eq] at hb
    simp only [Option.some.injEq, Prod.mk.injEq] at h
    obtain ⟨rfl, rfl⟩ := h
    have hx0 := hx _ (some0_ext m)
    simp at hx0; subst hx0
    have hlen : zl.length = size := by rw [hzl, Array.length_toList, hzs]
    refine ⟨by rw [rep_length, hlen], rep lI.toNat zl, fun μ _ => ?_, .inr ⟨k, k', rfl, by rw [Int.toNat_of_nonneg hb.1], ?_, hzs⟩⟩
    · have hfl : flatL (rep lI.toNat zl) = true := by
        apply flatL_rep
        rw [hzl]
        exact flat_cells hzf
      rw [← concL_eq]
      exact concL_flat μ _ hfl
    · rw [hzl]
      have := made_rep z.cells lI.toNat
      unfold Builtin.zeroCells
      rw [this]
  · have : contentZ st zl size xd x = contentA st size xd x := by
      unfold contentZ
      split
      · rename_i k; exact absurd ⟨k, rfl⟩ hk
      · rfl
    rw [this] at h
    obtain ⟨h1, h2, h3, cl, h4, h5⟩ := content_run hR h hx
    exact ⟨h3, cl, h4, .inl ⟨h1, h2, h5⟩⟩

theorem readCells_cs {a : Addr} {n : Nat} {l cs : List Value} {e : TypeId} {o wr : Bool} (h : readCells st a n = some l) (hg : st.hp.get a.block = some (.row e cs o wr))
    {j : Nat} {v : Value} (hj : l[j]? = some v) : cs[a.off + j]? = some v := by
  cases n with
  | zero => simp [readCells] at h; subst h; simp at hj
  | succ n =>
    simp only [readCells] at h
    split at h
    · simp at h
    · rw [hg] at h
      simp only at h
      cases hd : dropCells a.off cs with
      | none => rw [hd] at h; simp at h
      | some q =>
        rw [hd] at h
        obtain ⟨_, rfl⟩ := dropCells_eq _ _ _ hd
        obtain ⟨_, rfl⟩ := takeCells_eq _ _ _ (takeC_eq _ _ _ h).1
        rw [List.getElem?_take] at hj
        split at hj
        · rwa [List.getElem?_drop] at hj
        · cases hj

/-- behind a grown row -/
theorem grown_rep {e : TypeId} {i : TypeInfo} {z : Value} {old l cold cl : List Value} {need cap0 : Nat} {id : Nat} (hid : m id = none)
    (hi : (Cx.of P).ty.get e = some i) (hzn : z.cells.size = i.size) (hlen : (old ++ l).length = need * i.size) (h63 : need ≤ 70368744177664)
    (ho : ∀ μ, Ext m μ → old.map (conc μ) = cold) (hl : ∀ μ, Ext m μ → l.map (conc μ) = cl) :
    ∀ μ, Ext (setM m id ⟨w.heap.size, 0, grownCap w need cap0 e, .nilFunc⟩) μ →
      ObjRep (Cx.of P) μ (w.drew.alloc (.cells (cold.toArray ++ cl.toArray ++ Builtin.zeroCells z.cells (grownCap w need cap0 e - need)) e)) id (.row e (old ++ l) true true) ∧
      conc μ (.slice (some ⟨id, 0, none⟩) need openCap) = .slice (some ⟨w.heap.size, 0, none⟩) need (grownCap w need cap0 e) := by
  intro μ hμ
  have hμ' : Ext m μ := hμ.mono (setM_mono hid)
  have hloc : μ id = ⟨w.heap.size, 0, grownCap w need cap0 e, .nilFunc⟩ := hμ _ _ (setM_same _ _)
  have hge := grownCap_ge w need cap0 e
  have hle : grownCap w need cap0 e ≤ 9223372036854775807 := by
    have := grownCap_le_maxLen w need cap0 e (by unfold maxLen; omega)
    unfold maxLen at this; omega
  have hcs : (old ++ l).map (conc μ) = cold ++ cl := by rw [List.map_append, ho μ hμ', hl μ hμ']
  have hcl : (cold ++ cl).length = need * i.size := by rw [← hcs, List.length_map]; exact hlen
  have hsz : (cold.toArray ++ cl.toArray ++ Builtin.zeroCells z.cells (grownCap w need cap0 e - need)).size = grownCap w need cap0 e * i.size := by
    simp only [Array.size_append, List.size_toArray, size_zeroCells, hzn]
    rw [List.length_append] at hcl
    rw [hcl, ← Nat.add_mul]
    congr 1; omega
  have hmul : need * i.size ≤ grownCap w need cap0 e * i.size := Nat.mul_le_mul_right _ hge
  refine ⟨⟨cold.toArray ++ cl.toArray ++ Builtin.zeroCells z.cells (grownCap w need cap0 e - need), _, (0, 0), ?_, ?_, ?_, ?_, ?_, fun _ => ⟨rfl, fun h => by cases h⟩⟩, ?_⟩
  · rw [hloc]; exact heap_alloc_new w.drew _
  · rw [hloc, hsz, hlen]; simp; exact hmul
  · intro j v hj _
    rw [hloc]
    have hj' : j < (cold ++ cl).length := by rw [← hcs, List.length_map]; exact (List.getElem?_eq_some_iff.1 hj).1
    rw [← Array.getElem?_toList]
    simp only [Array.toList_append, Nat.zero_add]
    rw [List.getElem?_append_left hj', ← hcs, List.getElem?_map, hj]; rfl
  · intro _ k _; simp
  · intro _ n hn
    obtain ⟨i', hi', hn'⟩ := size_info hn
    rw [hi] at hi'; injection hi' with hi'; subst hi'
    subst hn'
    rw [hloc, hsz, hlen]
    refine ⟨by simp, hmul, hle⟩
  · have : isOpen openCap = true := by rw [isOpen_iff]; decide
    simp [concAddr, hloc, concEnd, concCap, this]

theorem growA_spec {e : TypeId} {old l : List Value} {need : Nat} {hp : T AObj} {ct : Nat} {v : Value} {st' : St} (h : growA e old l need hp ct = some (v, st')) :
    (∀ x ∈ l, isCell x = true) ∧ v = .slice (some ⟨ct, 0, none⟩) need openCap ∧ st' = ⟨hp.set ct (.row e (old ++ l) true true), ct + 1⟩ := by
  unfold growA at h
  split at h
  · rename_i hc; simp at h; exact ⟨allCells_mem hc, h.1.symm, h.2.symm⟩
  · simp at h

theorem appendA_sound (hR : Rep (Cx.of P) m st.G w) {sT xT ty : TypeId} {s x cs cx v : Value} {st' : St} (h : appendA (Cx.of P) [sT, xT] s x st = some (v, st'))
    (hs : VRep m s cs) (hx : VRep m x cx) (hfresh : ∀ i, st.ct ≤ i → i < st'.ct → m i = none) :
    ∃ w' cv m', (Builtin.append_ #[sT, xT] ty #[cs, cx]).run P w = .ok cv w' ∧ Step (Cx.of P) m st.G w st.ct m' st'.G w' st'.ct ∧ VRep m' v cv ∧ st.ct ≤ st'.ct := by
  unfold appendA at h
  simp only at h
  split at h <;> (try (simp at h; done))
  rename_i e xd hds hdx
  cases hi : (Cx.of P).ty.get e with
  | none => rw [hi] at h; simp at h
  | some i =>
    rw [hi] at h
    simp only at h
    cases hzn : zeroN (Cx.of P) e i.size with
    | none => rw [hzn] at h; simp at h
    | some zl =>
      rw [hzn] at h
      simp only at h
      obtain ⟨z, hz, hzf, hzs, hzl⟩ := zeroN_spec hzn
      cases hc : contentZ st zl i.size xd x with
      | none => rw [hc] at h; simp at h
      | some nl =>
        obtain ⟨n, l⟩ := nl
        rw [hc] at h
        simp only at h
        cases s <;> simp only at h <;> (try (simp at h; done))
        rename_i base len cap
        split at h <;> (try (simp at h; done))
        rename_i hb
        simp only [Bool.and_eq_true] at hb
        obtain ⟨⟨⟨hb1, hb2⟩, hb3⟩, hb4⟩ := hb
        have hb1 := Nat.le_of_ble_eq_true hb1
        have hb2 := Nat.le_of_ble_eq_true hb2
        have hb3 := Nat.le_of_ble_eq_true hb3
        obtain ⟨hll, cl, hcl, hK⟩ := contentZ_run hR hc hx hzl hzf hzs
        have hs0 := hs _ (some0_ext m)
        unfold appendTo at h
        simp only at h
        have hcll : cl.length = n * i.size := by rw [← hcl _ (some0_ext m), List.length_map]; exact hll
        cases base with
        | none =>
          simp only at h
          split at h <;> (try (simp at h; done))
          rename_i h0
          simp only [Bool.and_eq_true] at h0
          have hl0 := Nat.eq_of_beq_eq_true h0.1
          have hc0 := Nat.eq_of_beq_eq_true h0.2
          subst hl0; subst hc0
          simp at hs0; subst hs0
          cases n with
          | zero =>
            simp at h; obtain ⟨rfl, rfl⟩ := h
            have hr := append_room (ty := ty) (base := none) (sLen := 0) (sCap := 0) hds hi hz hdx hK hb2 hb1 (Nat.le_refl _)
            exact ⟨w, _, m, hr, Step.refl hR, fun μ _ => by simp, Nat.le_refl _⟩
          | succ n =>
            simp only at h
            obtain ⟨_, rfl, rfl⟩ := growA_spec h
            have hid : m st.ct = none := hfresh _ (Nat.le_refl _) (by simp)
            have hr := append_grow (ty := ty) (base := none) (sLen := 0) (sCap := 0) (old := []) hds hi hz hdx hK (by simp [Builtin.firstCells]) (by omega) hb2 hb1
            have hg := grown_rep (P := P) (w := w) (old := []) (cold := []) (need := 0 + (n + 1)) (cap0 := 0) hid hi hzs (by simp; rw [hll]) hb2 (fun _ _ => rfl) hcl
            simp only [Nat.zero_add] at hr hg
            refine ⟨_, _, _, hr, ?_, fun μ hμ => (hg μ hμ).2, by simp⟩
            refine Step.new hR hid (Nat.le_refl _) (by simp) rfl (by simp) rfl rfl rfl (fun b hb => heap_alloc_old w.drew _ b hb) ?_ (fun μ hμ => (hg μ hμ).1)
            intro j oj hj
            simp only [St.G, T.get_set] at hj
            split at hj
            · rename_i e; subst e; injection hj with hj; exact .inl ⟨rfl, hj.symm⟩
            · rename_i hne; exact .inr ⟨hne, hj⟩
        | some a =>
          simp only at h
          simp only [conc_slice] at hs0
          have hcapμ : ∀ μ, Ext m μ → concCap μ a.block cap = concCap (some0 m) a.block cap ∧ concEnd μ a (concCap μ a.block cap) = concEnd (some0 m) a (concCap (some0 m) a.block cap) := by
            intro μ hμ
            have h1 := hs μ hμ
            rw [← hs0] at h1
            simp only [conc_slice, Value.slice.injEq, Option.some.injEq] at h1
            exact ⟨h1.2.2, h1.1⟩
          cases hop : isOpen cap with
          | false =>
            rw [hop] at h
            simp only at h
            cases hsp : a.spot with
            | some q => rw [hsp] at h; simp at h
            | none =>
              rw [hsp] at h
              simp only at h
              have hcap : concCap (some0 m) a.block cap = cap := by simp [concCap, hop]
              rw [hcap, concEnd_none _ hsp] at hs0
              subst hs0
              have hconc : ∀ μ, Ext m μ → concAddr (some0 m) a = concAddr μ a := by
                intro μ hμ
                have := (hcapμ μ hμ).2
                rw [concEnd_none _ hsp, concEnd_none _ hsp] at this
                exact this.symm
              split at h
              · rename_i hroom
                have hroom := Nat.le_of_ble_eq_true hroom
                cases hw : writeCells st (a.add (len * i.size)) l with
                | none => rw [hw] at h; simp at h
                | some st2 =>
                  rw [hw] at h
                  simp at h; obtain ⟨rfl, rfl⟩ := h
                  have hr := append_room (ty := ty) (base := some (concAddr (some0 m) a)) (sLen := len) (sCap := cap) hds hi hz hdx hK hb2 hb1 hroom
                  obtain ⟨w', h1, h2, h3⟩ := writeCells_run hR hw hcl (ca := (concAddr (some0 m) a).add (len * i.size)) (fun μ hμ _ => by rw [hconc μ hμ, concAddr_add]) st.ct
                  simp only [h1, Result.andThen_ok] at hr
                  refine ⟨w', _, m, hr, by rw [h3]; exact h2, fun μ hμ => ?_, by omega⟩
                  have : concCap μ a.block cap = cap := by simp [concCap, hop]
                  simp only [conc_slice, this, concEnd_none μ hsp, hconc μ hμ]
              · rename_i hroom
                have hroom' : ¬ len + n ≤ cap := fun hle => by
                  have : Nat.ble (len + n) cap = true := Nat.ble_eq.mpr hle
                  rw [this] at hroom; cases hroom
                cases hrd : readCells st a (len * i.size) with
                | none => rw [hrd] at h; simp at h
                | some old =>
                  rw [hrd] at h
                  simp only at h
                  obtain ⟨_, rfl, rfl⟩ := growA_spec h
                  have hid : m st.ct = none := hfresh _ (Nat.le_refl _) (by simp)
                  obtain ⟨ho1, ho2⟩ := readCells_run hR hrd (some0_ext m) (ca := concAddr (some0 m) a) (fun _ => rfl)
                  have hold : ∀ μ, Ext m μ → old.map (conc μ) = old.map (conc (some0 m)) := by
                    intro μ hμ
                    have := (readCells_run hR hrd hμ (ca := concAddr (some0 m) a) (fun _ => hconc μ hμ)).1
                    rw [ho1] at this
                    simp only [Result.ok.injEq, and_true] at this
                    exact (List.toArray_inj this).symm
                  have hofc : (Builtin.firstCells i.size len (.slice (some (concAddr (some0 m) a)) len cap)).run P w = .ok (old.map (conc (some0 m))).toArray w := by
                    simpa [Builtin.firstCells] using ho1
                  have hr := append_grow (ty := ty) (base := some (concAddr (some0 m) a)) (sLen := len) (sCap := cap) hds hi hz hdx hK (firstCells_drew hofc) hroom' hb2 hb1
                  have hg := grown_rep (P := P) (w := w) (old := old) (need := len + n) (cap0 := cap) hid hi hzs (by rw [List.length_append, ho2, hll, Nat.add_mul]) hb2 hold hcl
                  refine ⟨_, _, _, hr, ?_, fun μ hμ => (hg μ hμ).2, by simp⟩
                  refine Step.new hR hid (Nat.le_refl _) (by simp) rfl (by simp) rfl rfl rfl (fun b hb => heap_alloc_old w.drew _ b hb) ?_ (fun μ hμ => (hg μ hμ).1)
                  intro j oj hj
                  simp only [St.G, T.get_set] at hj
                  split at hj
                  · rename_i e; subst e; injection hj with hj; exact .inl ⟨rfl, hj.symm⟩
                  · rename_i hne; exact .inr ⟨hne, hj⟩
          | true =>
            rw [hop] at h
            simp only at h
            cases n with
            | zero =>
              simp only at h
              split at h <;> (try (simp at h; done))
              rename_i hok
              simp at h; obtain ⟨rfl, rfl⟩ := h
              have hroom : len + 0 ≤ concCap (some0 m) a.block cap := by
                simp only [Bool.or_eq_true] at hok
                rcases hok with h0 | hok
                · have := Nat.eq_of_beq_eq_true h0; omega
                · obtain ⟨_, _, h3, h4, _⟩ := openOk_spec hR hok (some0_ext m) hop
                  omega
              have hcl0 : cl = [] := List.eq_nil_of_length_eq_zero (by simpa using hcll)
              subst hcl0
              subst hs0
              have hr := append_room (ty := ty) (base := some (concEnd (some0 m) a (concCap (some0 m) a.block cap))) (sLen := len) (sCap := concCap (some0 m) a.block cap) hds hi hz hdx hK hb2 hb1 hroom
              simp only [storeCells, Sem.run_pure, Result.andThen_ok] at hr
              refine ⟨w, _, m, hr, Step.refl hR, hs, Nat.le_refl _⟩
            | succ n =>
              simp only at h
              cases hok : openOk (Cx.of P) st a len cap i.size with
              | false => rw [hok] at h; simp at h
              | true =>
                rw [hok] at h
                simp only at h
                obtain ⟨hsp, hn1, hk, hcc, hoff, hcap, hc63, e2, cs, wr, hg, hes, hfit, hcs2⟩ := openOk_spec hR hok (some0_ext m) hop
                rw [hg] at h
                cases wr with
                | false => simp at h
                | true =>
                  simp only at h
                  obtain ⟨loc, hloc, _⟩ := hR.dom _ _ hg
                  have hat : ∀ μ, Ext m μ → μ a.block = loc := fun μ hμ => hμ _ _ hloc
                  rw [hat _ (some0_ext m)] at hk hcc hc63 hcs2
                  rw [concEnd_none _ hsp, hcc] at hs0
                  subst hs0
                  have hconc : ∀ μ, Ext m μ → concAddr (some0 m) a = concAddr μ a := by
                    intro μ hμ
                    simp only [concAddr, hat _ hμ, hat _ (some0_ext m)]
                  have hcapA : ∀ μ, Ext m μ → concCap μ a.block cap = loc.cap - (openCap - cap) := by
                    intro μ hμ
                    rw [(hcapμ μ hμ).1, hcc]
                  split at h
                  · rename_i hfit2
                    have hfit2 := Nat.le_of_ble_eq_true hfit2
                    have hroom : len + (n + 1) ≤ loc.cap - (openCap - cap) := by
                      have : ((len + (n + 1)) + (openCap - cap)) * i.size ≤ loc.cap * i.size := by rw [Nat.add_mul]; omega
                      have := Nat.le_of_mul_le_mul_right this (by omega)
                      omega
                    cases hw : writeCells st (a.add (len * i.size)) l with
                    | none => rw [hw] at h; simp at h
                    | some st2 =>
                      rw [hw] at h
                      simp at h; obtain ⟨rfl, rfl⟩ := h
                      have hr := append_room (ty := ty) (base := some (concAddr (some0 m) a)) (sLen := len) (sCap := loc.cap - (openCap - cap)) hds hi hz hdx hK hb2 hb1 hroom
                      obtain ⟨w', h1, h2, h3⟩ := writeCells_run hR hw hcl (ca := (concAddr (some0 m) a).add (len * i.size)) (fun μ hμ _ => by rw [hconc μ hμ, concAddr_add]) st.ct
                      simp only [h1, Result.andThen_ok] at hr
                      refine ⟨w', _, m, hr, by rw [h3]; exact h2, fun μ hμ => ?_, by omega⟩
                      simp only [conc_slice, hcapA μ hμ, concEnd_none μ hsp, hconc μ hμ]
                  · split at h <;> (try (simp at h; done))
                    rename_i hbe
                    have hee : e2 = e := Nat.eq_of_beq_eq_true hbe
                    subst hee
                    cases hrd : readCells st a (len * i.size) with
                    | none => rw [hrd] at h; simp at h
                    | some old =>
                      rw [hrd] at h
                      simp only at h
                      obtain ⟨hcellsl, rfl, rfl⟩ := growA_spec h
                      have hid : m st.ct = none := hfresh _ (Nat.le_refl _) (by simp)
                      have hneid : st.ct ≠ a.block := fun e => by rw [e, hloc] at hid; cases hid
                      obtain ⟨ho1, ho2⟩ := readCells_run hR hrd (some0_ext m) (ca := concAddr (some0 m) a) (fun _ => rfl)
                      have hold : ∀ μ, Ext m μ → old.map (conc μ) = old.map (conc (some0 m)) := by
                        intro μ hμ
                        have := (readCells_run hR hrd hμ (ca := concAddr (some0 m) a) (fun _ => hconc μ hμ)).1
                        rw [ho1] at this
                        simp only [Result.ok.injEq, and_true] at this
                        exact (List.toArray_inj this).symm
                      have hol : (old ++ l).length = (len + (n + 1)) * i.size := by rw [List.length_append, ho2, hll, ← Nat.add_mul]
                      have hGsub : ∀ j oj, St.G ⟨(st.hp.del a.block).set st.ct (.row e2 (old ++ l) true true), st.ct + 1⟩ j oj → (j = st.ct ∧ oj = .row e2 (old ++ l) true true) ∨ (j ≠ st.ct ∧ j ≠ a.block ∧ st.G j oj) := by
                        intro j oj hj
                        simp only [St.G, T.get_set, T.get_del] at hj
                        split at hj
                        · rename_i e; subst e; injection hj with hj; exact .inl ⟨rfl, hj.symm⟩
                        · rename_i hne
                          split at hj
                          · cases hj
                          · rename_i hne2; exact .inr ⟨hne, hne2, hj⟩
                      by_cases hroom : len + (n + 1) ≤ loc.cap - (openCap - cap)
                      · -- in place
                        have hr := append_room (ty := ty) (base := some (concAddr (some0 m) a)) (sLen := len) (sCap := loc.cap - (openCap - cap)) hds hi hz hdx hK hb2 hb1 hroom
                        obtain ⟨cells, _, fz, hb, hsz, hcs, hfz, hopn, he⟩ := hR.obj _ (some0_ext m) _ _ hg
                        obtain rfl := (he rfl).1.symm
                        rw [hat _ (some0_ext m)] at hb hsz hcs hopn
                        obtain ⟨hop1, hop2, hop3⟩ := hopn rfl _ hes
                        have hmul : (openCap - cap) * i.size + (len + (n + 1)) * i.size ≤ loc.cap * i.size := by
                          rw [← Nat.add_mul]; exact Nat.mul_le_mul_right _ (by omega)
                        have hlm : (len + (n + 1)) * i.size = len * i.size + (n + 1) * i.size := Nat.add_mul _ _ _
                        have hcell : ∀ v ∈ cl, isCell v = true := by
                          rw [← hcl _ (some0_ext m)]
                          intro v hv'
                          obtain ⟨u, hu, rfl⟩ := List.mem_map.1 hv'
                          rw [isCell_conc]
                          exact hcellsl u hu
                        obtain ⟨w', hrun, hw⟩ := storeCells_run (P := P) (b := loc.blk) (e := e2) (fz := fz) (off := loc.base + a.off + len * i.size) cl 0 cells w hb (by omega) (hfz rfl) hcell
                        have hca : (concAddr (some0 m) a).add (len * i.size) = ⟨loc.blk, loc.base + a.off + len * i.size, none⟩ := by
                          simp only [concAddr, hat _ (some0_ext m), add_mk]
                        simp only [hca, hrun] at hr
                        simp only [Result.andThen_ok] at hr
                        refine ⟨w', _, setM m st.ct ⟨loc.blk, loc.base + a.off, loc.cap - (openCap - cap), .nilFunc⟩, hr, ?_, fun μ hμ => ?_, by simp⟩
                        · refine Step.move (id0 := a.block) (o := .row e2 cs true true) (o2 := .row e2 (old ++ l) true true) hR hg rfl hloc hid (Nat.le_refl _) (by simp) rfl hw.size hw.os hw.tape hw.output hw.other hGsub ?_
                          intro μ hμ
                          have hμ' : Ext m μ := hμ.mono (setM_mono hid)
                          have hnew : μ st.ct = ⟨loc.blk, loc.base + a.off, loc.cap - (openCap - cap), .nilFunc⟩ := hμ _ _ (setM_same _ _)
                          have hsz' : (⟨List.take (loc.base + a.off + len * i.size + 0) cells.toList ++ cl ++ List.drop (loc.base + a.off + len * i.size + 0 + cl.length) cells.toList⟩ : Array Value).size = cells.size := by
                            simp; omega
                          refine ⟨⟨List.take (loc.base + a.off + len * i.size + 0) cells.toList ++ cl ++ List.drop (loc.base + a.off + len * i.size + 0 + cl.length) cells.toList⟩, _, fz, ?_, ?_, ?_, ?_, ?_, fun _ => ⟨rfl, fun h => by cases h⟩⟩
                          · rw [hnew]; exact hw.here
                          · rw [hnew, hsz', hol]; simp only; omega
                          · intro j v hj hjc
                            rw [hnew, ← Array.getElem?_toList]
                            simp only [Nat.add_zero]
                            by_cases hj1 : j < len * i.size
                            · rw [List.getElem?_append_left (by omega)] at hj
                              rw [List.append_assoc, List.getElem?_append_left (by simp; omega), List.getElem?_take_of_lt (by omega), Array.getElem?_toList]
                              have h5 := readCells_cs hrd hg hj
                              obtain ⟨cells', _, fz', hb', _, hcs', _, _, _⟩ := hR.obj μ hμ' _ _ hg
                              rw [hat _ hμ'] at hb' hcs'
                              rw [hb] at hb'
                              injection hb' with hb'
                              injection hb' with hb1 _ _
                              subst hb1
                              rw [show loc.base + a.off + j = loc.base + (a.off + j) by omega]
                              exact hcs' _ _ h5 hjc
                            · have hjl : j < (old ++ l).length := (List.getElem?_eq_some_iff.1 hj).1
                              rw [List.getElem?_append_right (by omega)] at hj
                              rw [List.append_assoc, List.getElem?_append_right (by simp; omega), List.getElem?_append_left (by simp; omega), ← hcl μ hμ', List.getElem?_map]
                              simp only [List.length_take, Array.length_toList]
                              rw [show loc.base + a.off + j - min (loc.base + a.off + len * i.size) cells.size = j - old.length by omega, hj]
                              rfl
                          · intro _ k hk
                            rw [hsz'] at hk
                            exact hfz rfl k hk
                          · intro _ q hq
                            rw [hes] at hq; injection hq with hq; subst hq
                            rw [hnew, hsz', hol]
                            simp only
                            have : (loc.cap - (openCap - cap)) * i.size + (openCap - cap) * i.size = loc.cap * i.size := by
                              rw [← Nat.add_mul]; congr 1; omega
                            have h6 : (len + (n + 1)) * i.size ≤ (loc.cap - (openCap - cap)) * i.size := Nat.mul_le_mul_right _ hroom
                            omega
                        · have hnew : μ st.ct = ⟨loc.blk, loc.base + a.off, loc.cap - (openCap - cap), .nilFunc⟩ := hμ _ _ (setM_same _ _)
                          have hoo : isOpen openCap = true := by rw [isOpen_iff]; decide
                          simp only [conc_slice, concCap, hoo, if_true, hnew, Nat.sub_self, Nat.sub_zero, concEnd, concAddr, hat _ (some0_ext m), Nat.add_zero]
                      · have hofc : (Builtin.firstCells i.size len (.slice (some (concAddr (some0 m) a)) len (loc.cap - (openCap - cap)))).run P w = .ok (old.map (conc (some0 m))).toArray w := by
                          simpa [Builtin.firstCells] using ho1
                        have hr := append_grow (ty := ty) (base := some (concAddr (some0 m) a)) (sLen := len) (sCap := loc.cap - (openCap - cap)) hds hi hz hdx hK (firstCells_drew hofc) hroom hb2 hb1
                        have hgr := grown_rep (P := P) (w := w) (old := old) (need := len + (n + 1)) (cap0 := loc.cap - (openCap - cap)) hid hi hzs hol hb2 hold hcl
                        refine ⟨_, _, _, hr, ?_, fun μ hμ => (hgr μ hμ).2, by simp⟩
                        refine Step.new hR hid (Nat.le_refl _) (by simp) rfl (by simp) rfl rfl rfl (fun b hb => heap_alloc_old w.drew _ b hb) ?_ (fun μ hμ => (hgr μ hμ).1)
                        intro j oj hj
                        rcases hGsub j oj hj with h7 | ⟨h7, _, h8⟩
                        · exact .inl h7
                        · exact .inr ⟨h7, h8⟩

end
end Go.Ai

/-! Operations that change memory. -/
namespace Go.Ai
open Go

section
variable {P : Program} {m : Nat → Option Loc} {st : St} {w : World}

theorem copyA_sound (hR : Rep (Cx.of P) m st.G w) {dT ty : TypeId} {ts : Array TypeId} (hts : ts[0]? = some dT) {d x cd cx v : Value} {st' : St} (h : copyA (Cx.of P) dT d x st = some (v, st'))
    (hd : VRep m d cd) (hx : VRep m x cx) :
    ∃ w' cv, (Builtin.copy_ ts ty #[cd, cx]).run P w = .ok cv w' ∧ Step (Cx.of P) m st.G w st.ct m st'.G w' st'.ct ∧ VRep m v cv ∧ st'.ct = st.ct := by
  have hd0 := hd _ (some0_ext m)
  have hx0 := hx _ (some0_ext m)
  unfold copyA at h
  split at h <;> (try (simp at h; done))
  rename_i base dl dc e hde
  have ud := run_underlying w hde
  cases hs : (Cx.of P).size e with
  | none => rw [hs] at h; simp at h
  | some n =>
    rw [hs] at h
    simp only at h
    have uz := run_sizeOf w hs
    cases x <;> (try (simp at h; done))
    case string s =>
      simp at hx0; subst hx0
      cases base with
      | none =>
        simp only at h
        split at h <;> (try (simp at h; done))
        rename_i h0
        have h0 := Nat.eq_of_beq_eq_true h0
        subst h0
        simp at h; obtain ⟨rfl, rfl⟩ := h
        simp at hd0; subst hd0
        refine ⟨w, _, ?_, Step.refl hR, fun μ _ => conc_goInt μ 0, rfl⟩
        simp [Builtin.copy_, hts, ud, Builtin.lenOf, uz, Builtin.firstCells]
      | some a =>
        simp only at h
        cases hw : writeCells st a ((s.data.toList.take (Nat.min s.size dl)).map fun b => Value.int .u8 b.toNat) with
        | none => rw [hw] at h; simp at h
        | some st2 =>
          rw [hw] at h
          simp at h; obtain ⟨rfl, rfl⟩ := h
          simp only [conc_slice] at hd0; subst hd0
          have hca : ∀ μ, Ext m μ → a.spot = none → concEnd (some0 m) a (concCap (some0 m) a.block dc) = concAddr μ a := by
            intro μ hμ hsp
            have h1 := hd μ hμ
            simp only [conc_slice, Value.slice.injEq, Option.some.injEq] at h1
            rw [← h1.1, concEnd_none μ hsp]
          obtain ⟨w', h1, h2, h3⟩ := writeCells_run hR hw (cvs := (s.data.toList.take (Nat.min s.size dl)).map fun b => Value.int .u8 b.toNat) (fun μ _ => by simp [Function.comp_def]) hca st.ct
          refine ⟨w', _, ?_, by rw [h3]; exact h2, fun μ _ => conc_goInt μ _, h3⟩
          rw [List.map_take] at h1
          simp [Builtin.copy_, hts, ud, Builtin.lenOf, uz, Builtin.firstCells, ByteArray.data_extract, h1]
    case slice oa sl sc =>
      cases oa with
      | none =>
        simp at hx0; subst hx0
        have hsl : Nat.beq sl 0 = true ∧ v = goInt 0 ∧ st' = st := by
          cases base <;> simp only at h <;> (split at h <;> (try (simp at h; done))) <;> (rename_i h0; simp at h; exact ⟨h0, h.1.symm, h.2.symm⟩)
        obtain ⟨h0, rfl, rfl⟩ := hsl
        have h0 := Nat.eq_of_beq_eq_true h0
        subst h0
        refine ⟨w, _, ?_, Step.refl hR, fun μ _ => conc_goInt μ 0, rfl⟩
        cases base with
        | none => simp at hd0; subst hd0; simp [Builtin.copy_, hts, ud, Builtin.lenOf, uz, Builtin.firstCells]
        | some a => simp only [conc_slice] at hd0; subst hd0; simp [Builtin.copy_, hts, ud, Builtin.lenOf, uz, Builtin.firstCells, storeCells]
      | some b =>
        simp only at h
        simp only [conc_slice] at hx0; subst hx0
        cases base with
        | none =>
          simp only at h
          split at h <;> (try (simp at h; done))
          rename_i h0
          have h0 := Nat.eq_of_beq_eq_true h0
          subst h0
          simp at h; obtain ⟨rfl, rfl⟩ := h
          simp at hd0; subst hd0
          refine ⟨w, _, ?_, Step.refl hR, fun μ _ => conc_goInt μ 0, rfl⟩
          simp [Builtin.copy_, hts, ud, Builtin.lenOf, uz, Builtin.firstCells, loadCells, loadCellsFrom]
        | some a =>
          simp only at h
          cases hr : readCells st b (Nat.min sl dl * n) with
          | none => rw [hr] at h; simp at h
          | some l =>
            rw [hr] at h
            simp only at h
            cases hw : writeCells st a l with
            | none => rw [hw] at h; simp at h
            | some st2 =>
              rw [hw] at h
              simp at h; obtain ⟨rfl, rfl⟩ := h
              simp only [conc_slice] at hd0; subst hd0
              have hca : ∀ μ, Ext m μ → a.spot = none → concEnd (some0 m) a (concCap (some0 m) a.block dc) = concAddr μ a := by
                intro μ hμ hsp
                have h1 := hd μ hμ
                simp only [conc_slice, Value.slice.injEq, Option.some.injEq] at h1
                rw [← h1.1, concEnd_none μ hsp]
              have hcb : ∀ μ, Ext m μ → b.spot = none → concEnd (some0 m) b (concCap (some0 m) b.block sc) = concAddr μ b := by
                intro μ hμ hsp
                have h1 := hx μ hμ
                simp only [conc_slice, Value.slice.injEq, Option.some.injEq] at h1
                rw [← h1.1, concEnd_none μ hsp]
              obtain ⟨r1, r2⟩ := readCells_run hR hr (some0_ext m) (hcb _ (some0_ext m))
              have hl : ∀ μ, Ext m μ → l.map (conc μ) = l.map (conc (some0 m)) := by
                intro μ hμ
                have := (readCells_run hR hr hμ (hcb μ hμ)).1
                rw [r1] at this
                simp only [Result.ok.injEq, and_true] at this
                exact (List.toArray_inj this).symm
              obtain ⟨w', h1, h2, h3⟩ := writeCells_run hR hw hl hca st.ct
              refine ⟨w', _, ?_, by rw [h3]; exact h2, fun μ _ => conc_goInt μ _, h3⟩
              simp [Builtin.copy_, hts, ud, Builtin.lenOf, uz, Builtin.firstCells, r1, h1]

/-! ### maps -/
theorem eraseIdx_map' {α β : Type} (f : α → β) : ∀ (l : List α) (i : Nat), (l.map f).eraseIdx i = (l.eraseIdx i).map f := by
  intro l
  induction l with
  | nil => intro i; rfl
  | cons x l ih => intro i; cases i with
    | zero => rfl
    | succ i => simp [ih]
theorem setObj_run {b : Nat} {o o' : Obj} (h : w.heap[b]? = some o) (ho : ∀ c e f, o ≠ .cells c e f) : (setObj b o').run P w = .ok () { w with heap := w.heap.setIfInBounds b o' } := by
  cases o <;> first | exact absurd rfl (ho _ _ _) | simp only [setObj, Sem.run, h]

theorem setObj_here {b : Nat} {o o' : Obj} (h : w.heap[b]? = some o) : ({ w with heap := w.heap.setIfInBounds b o' } : World).heap[b]? = some o' := by
  have hlt : b < w.heap.size := (Array.getElem?_eq_some_iff.1 h).1
  simp [hlt]

/-- an object that is no row turns -/
theorem setObj_step (hR : Rep (Cx.of P) m st.G w) {r : Nat} {ob ob2 : AObj} {l : Loc} {o2 : Obj} (hg : st.hp.get r = some ob) (hwr : ob.isWr = true) (hl : m r = some l)
    (hobj : ∀ μ, Ext m μ → ∀ w' : World, w'.heap[l.blk]? = some o2 → ObjRep (Cx.of P) μ w' r ob2) (ct : Nat) :
    Step (Cx.of P) m st.G w ct m ({ st with hp := st.hp.set r ob2 } : St).G { w with heap := w.heap.setIfInBounds l.blk o2 } ct := by
  obtain ⟨l', hl', hlt⟩ := hR.dom _ _ hg
  rw [hl] at hl'; injection hl' with hl'; subst hl'
  refine Step.upd (id := r) (o := ob) (o2 := ob2) hR hg hwr hl (by simp) rfl rfl rfl ?_ ?_ ?_
  · intro b hb
    simp [Ne.symm hb]
  · intro j oj hj
    simp only [St.G, T.get_set] at hj
    split at hj
    · rename_i e; subst e; injection hj with hj; exact .inl ⟨rfl, hj.symm⟩
    · rename_i hne; exact .inr ⟨hne, hj⟩
  · intro μ hμ
    refine hobj μ hμ _ ?_
    simp [hlt]

theorem perm_set {α : Type} {l1 l2 : List α} (h : l1.Perm l2) {i j : Nat} {x : α} (h1 : l1[i]? = some x) (h2 : l2[j]? = some x) (y : α) : (l1.set i y).Perm (l2.set j y) ∧ (l1.eraseIdx i).Perm (l2.eraseIdx j) := by
  have key : ∀ (l : List α) (i : Nat) (x : α), l[i]? = some x → l.Perm (x :: l.eraseIdx i) ∧ ∀ y, (l.set i y).Perm (y :: l.eraseIdx i) := by
    intro l
    induction l with
    | nil => intro i x h; simp at h
    | cons z l ih =>
      intro i x h
      cases i with
      | zero => simp at h; subst h; exact ⟨List.Perm.refl _, fun y => List.Perm.refl _⟩
      | succ i =>
        simp at h
        obtain ⟨q1, q2⟩ := ih i x h
        exact ⟨(List.Perm.cons z q1).trans (List.Perm.swap x z _), fun y => (List.Perm.cons z (q2 y)).trans (List.Perm.swap y z _)⟩
  obtain ⟨a1, a2⟩ := key l1 i x h1
  obtain ⟨b1, b2⟩ := key l2 j x h2
  have he : (l1.eraseIdx i).Perm (l2.eraseIdx j) := (a1.symm.trans (h.trans b1)).cons_inv
  exact ⟨(a2 y).trans ((List.Perm.cons y he).trans (b2 y).symm), he⟩

theorem mem_born {es : List MapEntry} {c : Nat} (h : ∀ e ∈ es, e.born < c) : c ∉ es.map (·.born) := by
  intro hm
  obtain ⟨e, he, hb⟩ := List.mem_map.1 hm
  have := h e he
  omega

/-- the entry of a key, whatever the places -/
theorem map_find (hR : Rep (Cx.of P) m st.G w) {r : Nat} {es : List MapEntry} {lk wr : Bool} (hg : st.hp.get r = some (.map es lk wr)) {l : Loc} (hl : m r = some l) {kt : TypeId} {k : Value} {q : Option (Nat × MapEntry)}
    (hf : findMU (Cx.of P) kt k es = some q) :
    ∃ (ces : List MapEntry) (clock : Nat), w.heap[l.blk]? = some (.map ⟨ces⟩ clock) ∧ (getObj l.blk).run P w = .ok (.map ⟨ces⟩ clock) w ∧ ces.length = es.length ∧
      ((q = none ∧ (Instr.findKey kt k ces).run P w = .ok none w ∧ ∀ μ, Ext m μ → ∃ es' : List MapEntry, ces = es'.map (concE μ) ∧ (es'.map kvOf).Perm (es.map kvOf) ∧ (es'.map (·.born)).Nodup ∧ (∀ e ∈ es', e.born < clock) ∧ (lk = true → clock = l.cap)) ∨
       ∃ i e j, q = some (i, e) ∧ es[i]? = some e ∧ (∃ cv, (Instr.findKey kt k ces).run P w = .ok (some (j, cv)) w) ∧ (ces[j]?).map (·.key) = some e.key ∧ j < ces.length ∧
        ∀ μ, Ext m μ → ∃ es' : List MapEntry, ces = es'.map (concE μ) ∧ (es'.map kvOf).Perm (es.map kvOf) ∧ (es'.map (·.born)).Nodup ∧ (∀ e ∈ es', e.born < clock) ∧ (lk = true → clock = l.cap) ∧ (es'.map kvOf)[j]? = some (kvOf e)) := by
  have hμ0 := some0_ext m
  have hat : ∀ μ, Ext m μ → μ r = l := fun μ hμ => hμ _ _ hl
  obtain ⟨es0, clock, hgo, hb, hp, hn, hlt, hlk⟩ := map_obj (P := P) hR hg hμ0
  rw [hat _ hμ0] at hgo hb hlk
  have other : ∀ μ, Ext m μ → ∃ es' : List MapEntry, es0.map (concE (some0 m)) = es'.map (concE μ) ∧ (es'.map kvOf).Perm (es.map kvOf) ∧ (es'.map (·.born)).Nodup ∧ (∀ e ∈ es', e.born < clock) ∧ (lk = true → clock = l.cap) := by
    intro μ hμ
    obtain ⟨es1, clock1, _, hb1, hp1, hn1, hlt1, hlk1⟩ := map_obj (P := P) hR hg hμ
    rw [hat _ hμ, hb] at hb1
    injection hb1 with hb1
    injection hb1 with hb1 hc1
    subst hc1
    rw [hat _ hμ] at hlk1
    exact ⟨es1, by simpa using hb1, hp1, hn1, hlt1, hlk1⟩
  have hlen0 : (es0.map (concE (some0 m))).length = es.length := by
    have := hp.length_eq
    simpa using this
  refine ⟨es0.map (concE (some0 m)), clock, hb, hgo, hlen0, ?_⟩
  rcases findU_perm hf hp with ⟨h1, rfl⟩ | ⟨i, e, j, e', rfl, h1, h2, h3, h4, h5⟩
  · exact .inl ⟨rfl, by simpa using findKey_run w h1 (some0 m), other⟩
  · have hrun := findKey_run w h1 (some0 m)
    simp only [Option.map_some] at hrun
    refine .inr ⟨i, e, j, rfl, h2, ⟨_, hrun⟩, ?_, by rw [List.length_map]; exact (List.getElem?_eq_some_iff.1 h3).1, fun μ hμ => ?_⟩
    · rw [List.getElem?_map, h3]; simp [concE, h4]
    · obtain ⟨es1, q1, q2, q3, q4, q5⟩ := other μ hμ
      refine ⟨es1, q1, q2, q3, q4, q5, ?_⟩
      rcases findU_perm hf q2 with ⟨_, hx⟩ | ⟨i', e2, j', e'', hx, k1, k2, k3, k4, k5⟩
      · cases hx
      · injection hx with hx
        simp only [Prod.mk.injEq] at hx
        obtain ⟨rfl, rfl⟩ := hx
        have hrun1 := findKey_run w k1 μ
        rw [← q1, hrun] at hrun1
        simp at hrun1
        obtain ⟨rfl, _⟩ := hrun1
        rw [List.getElem?_map, k3]
        simp [kvOf, k4, k5]

theorem concE_born (μ : Nat → Loc) (es : List MapEntry) : (es.map (concE μ)).map (·.born) = es.map (·.born) := by
  simp [Function.comp_def, concE]

theorem updateA_sound (hR : Rep (Cx.of P) m st.G w) {t : TypeId} {mv k v cv : Value} {cm ck : Value} {st' : St} (h : updateA (Cx.of P) t mv k v st = some st')
    (hm : VRep m mv cm) (hk : VRep m k ck) (hv : VRep m v cv) :
    ∃ w', (Instr.mapUpdate t cm ck cv).run P w = .ok () w' ∧ Step (Cx.of P) m st.G w st.ct m st'.G w' st'.ct ∧ st'.ct = st.ct := by
  have hμ0 := some0_ext m
  unfold updateA at h
  split at h <;> (try (simp at h; done))
  rename_i kt et r hd hkf
  have ud := run_underlying w hd
  have hck : k = ck := by rw [← hk _ hμ0, conc_flat _ _ hkf]
  subst hck
  split at h <;> (try (simp at h; done))
  rename_i es hg
  obtain ⟨l, hl, hlt⟩ := hR.dom _ _ hg
  have hat : ∀ μ, Ext m μ → μ r = l := fun μ hμ => hμ _ _ hl
  have hkeys := (hR.obj _ hμ0 _ _ hg).2
  have hm0 := hm _ hμ0
  simp only [conc_map, hat _ hμ0] at hm0
  subst hm0
  cases hc : quiet (Cx.of P).P (Instr.checkKey false 10000 kt k) with
  | none => rw [hc] at h; simp at h
  | some u =>
    rw [hc] at h
    have hck : (Instr.checkKey false 10000 kt k).run P w = .ok u w := quiet_run hc w
    cases hf : findMU (Cx.of P) kt k es with
    | none => rw [hf] at h; simp at h
    | some q =>
      rw [hf] at h
      obtain ⟨ces, clock, hb, hgo, hlen, ⟨rfl, hfr, hall⟩ | ⟨i, e, j, rfl, hei, ⟨cw, hfr⟩, hkj, hjl, hall⟩⟩ := map_find (P := P) hR hg hl hf
      · simp at h; subst h
        refine ⟨{ w with heap := w.heap.setIfInBounds l.blk (.map ⟨ces ++ [{ key := k, val := cv, born := clock }]⟩ (clock + 1)) }, ?_, ?_, rfl⟩
        · simp only [Instr.mapUpdate, Sem.run_bind, ud, Result.andThen_ok, hgo, hck, hfr]
          rw [setObj_run hb (by simp)]
          simp
        · refine setObj_step hR hg rfl hl ?_ _
          intro μ hμ w' hw'
          obtain ⟨es', q1, q2, q3, q4, _⟩ := hall μ hμ
          refine ⟨⟨es' ++ [{ key := k, val := v, born := clock }], clock + 1, ?_, ?_, ?_, ?_, by simp⟩, ?_⟩
          · rw [hat _ hμ, hw', List.map_append, ← q1]
            simp [concE, hv μ hμ]
          · rw [List.map_append, List.map_append]
            exact List.Perm.append q2 (List.Perm.refl _)
          · rw [List.map_append, List.nodup_append]
            refine ⟨q3, by simp, ?_⟩
            intro a ha b hb hab
            simp at hb
            subst hb; subst hab
            exact mem_born q4 ha
          · intro e he
            rcases List.mem_append.1 he with he | he
            · have := q4 e he; omega
            · simp at he; subst he; simp
          · intro e he
            rcases List.mem_append.1 he with he | he
            · exact hkeys e he
            · simp at he; subst he; exact hkf
      · simp only at h
        split at h <;> (try (simp at h; done))
        rename_i hsb
        simp at h; subst h
        obtain ⟨ce, hce, hcek⟩ : ∃ ce, ces[j]? = some ce ∧ ce.key = e.key := by
          cases hcj : ces[j]? with
          | none => rw [hcj] at hkj; simp at hkj
          | some ce => rw [hcj] at hkj; simp at hkj; exact ⟨ce, rfl, hkj⟩
        refine ⟨{ w with heap := w.heap.setIfInBounds l.blk (.map ⟨ces.set j { ce with key := k, val := cv }⟩ clock) }, ?_, ?_, rfl⟩
        · simp only [Instr.mapUpdate, Sem.run_bind, ud, Result.andThen_ok, hgo, hck, hfr, List.getElem?_toArray, hce, Option.map_some, Option.getD_some, hcek, Instr.keyThatStays, hsb, if_true, Sem.run_pure]
          rw [setObj_run hb (by simp)]
          congr 4
          apply Array.ext'
          rw [Array.toList_modify]
          apply List.ext_getElem?
          intro i2
          simp only [List.getElem?_modify, List.getElem?_set]
          by_cases hij : j = i2
          · subst hij
            have hcj : ces[j]'hjl = ce := by
              have := List.getElem?_eq_getElem hjl
              rw [hce] at this; injection this with this; exact this.symm
            simp [hjl, hcj]
          · simp [hij]
        · refine setObj_step hR hg rfl hl ?_ _
          intro μ hμ w' hw'
          obtain ⟨es', q1, q2, q3, q4, _, q6⟩ := hall μ hμ
          have hjl' : j < es'.length := by rw [q1, List.length_map] at hjl; exact hjl
          have he'j : es'[j]? = some es'[j] := List.getElem?_eq_getElem hjl'
          have hborn : ce.born = es'[j].born := by
            rw [q1, List.getElem?_map, he'j] at hce
            simp at hce; subst hce; rfl
          refine ⟨⟨es'.set j { key := k, val := v, born := ce.born }, clock, ?_, ?_, ?_, ?_, by simp⟩, ?_⟩
          · rw [hat _ hμ, hw', List.map_set, ← q1]
            simp [concE, hv μ hμ]
          · rw [List.map_set, List.map_set]
            exact (perm_set q2 q6 (by rw [List.getElem?_map, hei]; rfl) _).1
          · rw [List.map_set]
            have : (es'.map (·.born)).set j ce.born = es'.map (·.born) := by
              rw [hborn]
              apply List.ext_getElem?
              intro i2
              rw [List.getElem?_set]
              by_cases hij : j = i2
              · subst hij; simp [hjl']
              · simp [hij]
            simp only [this]; exact q3
          · intro e2 he2
            rcases List.mem_or_eq_of_mem_set he2 with he2 | rfl
            · exact q4 e2 he2
            · simp only [hborn]; exact q4 _ (List.getElem_mem hjl')
          · intro e2 he2
            rcases List.mem_or_eq_of_mem_set he2 with he2 | rfl
            · exact hkeys e2 he2
            · exact hkf

theorem deleteA_sound (hR : Rep (Cx.of P) m st.G w) {t ty : TypeId} {ts : Array TypeId} (hts : ts[0]? = some t) {mv k v cm ck : Value} {st' : St} (h : deleteA (Cx.of P) t mv k st = some (v, st'))
    (hm : VRep m mv cm) (hk : VRep m k ck) :
    ∃ w', (Builtin.delete_ ts ty #[cm, ck]).run P w = .ok (.tuple #[]) w' ∧ Step (Cx.of P) m st.G w st.ct m st'.G w' st'.ct ∧ st'.ct = st.ct ∧ v = .tuple #[] := by
  have hμ0 := some0_ext m
  unfold deleteA at h
  split at h <;> (try (simp at h; done))
  rename_i kt et hd hkf
  have ud := run_underlying w hd
  have hck : k = ck := by rw [← hk _ hμ0, conc_flat _ _ hkf]
  subst hck
  · split at h <;> (try (simp at h; done))
    rename_i hq
    have hck : (Instr.checkKey true 10000 kt k).run P w = .ok _ w := quiet_run hq w
    have hm0 := hm _ hμ0
    simp only [conc_nilmap] at hm0
    subst hm0
    simp at h; obtain ⟨rfl, rfl⟩ := h
    exact ⟨w, by simp [Builtin.delete_, hts, ud, hck], Step.refl hR, rfl, rfl⟩
  rename_i kt et r hd hkf
  have ud := run_underlying w hd
  have hck : k = ck := by rw [← hk _ hμ0, conc_flat _ _ hkf]
  subst hck
  split at h <;> (try (simp at h; done))
  rename_i es hg
  obtain ⟨l, hl, hlt⟩ := hR.dom _ _ hg
  have hat : ∀ μ, Ext m μ → μ r = l := fun μ hμ => hμ _ _ hl
  have hkeys := (hR.obj _ hμ0 _ _ hg).2
  have hm0 := hm _ hμ0
  simp only [conc_map, hat _ hμ0] at hm0
  subst hm0
  cases hc : quiet (Cx.of P).P (Instr.checkKey es.isEmpty 10000 kt k) with
  | none => rw [hc] at h; simp at h
  | some u =>
    rw [hc] at h
    have hck : (Instr.checkKey es.isEmpty 10000 kt k).run P w = .ok u w := quiet_run hc w
    cases hf : findMU (Cx.of P) kt k es with
    | none => rw [hf] at h; simp at h
    | some q =>
      rw [hf] at h
      obtain ⟨ces, clock, hb, hgo, hlen, hcase⟩ := map_find (P := P) hR hg hl hf
      have hemp : (⟨ces⟩ : Array MapEntry).isEmpty = es.isEmpty := by cases es <;> cases ces <;> simp at hlen ⊢
      rcases hcase with ⟨rfl, hfr, hall⟩ | ⟨i, e, j, rfl, hei, ⟨cw, hfr⟩, hkj, hjl, hall⟩
      · simp at h; obtain ⟨rfl, rfl⟩ := h
        refine ⟨{ w with heap := w.heap.setIfInBounds l.blk (.map ⟨ces⟩ clock) }, ?_, ?_, rfl, rfl⟩
        · simp [Builtin.delete_, hts, ud, hgo, hemp, hck, hfr, setObj_run hb]
        · have : ({ w with heap := w.heap.setIfInBounds l.blk (.map ⟨ces⟩ clock) } : World) = w := by
            have : w.heap.setIfInBounds l.blk (.map ⟨ces⟩ clock) = w.heap := by
              apply Array.ext_getElem?
              intro i
              by_cases hi : i = l.blk
              · subst hi; simp [hlt]; exact (Array.getElem?_eq_some_iff.1 hb).2.symm
              · simp [Ne.symm hi]
            rw [this]
          rw [this]
          exact Step.refl hR
      · simp at h; obtain ⟨rfl, rfl⟩ := h
        refine ⟨{ w with heap := w.heap.setIfInBounds l.blk (.map ⟨ces.eraseIdx j⟩ clock) }, ?_, ?_, rfl, rfl⟩
        · simp [Builtin.delete_, hts, ud, hgo, hemp, hck, hfr, Array.eraseIdxIfInBounds, hjl, setObj_run hb]
        · refine setObj_step hR hg rfl hl ?_ _
          intro μ hμ w' hw'
          obtain ⟨es', q1, q2, q3, q4, _, q6⟩ := hall μ hμ
          refine ⟨⟨es'.eraseIdx j, clock, ?_, ?_, ?_, ?_, by simp⟩, ?_⟩
          · rw [hat _ hμ, hw', ← eraseIdx_map', ← q1]
          · rw [← eraseIdx_map', ← eraseIdx_map']
            exact (perm_set q2 q6 (by rw [List.getElem?_map, hei]; rfl) (kvOf e)).2
          · rw [← eraseIdx_map']
            exact q3.sublist (List.eraseIdx_sublist ..)
          · intro e2 he2
            exact q4 e2 (List.mem_of_mem_eraseIdx he2)
          · intro e' he'
            exact hkeys e' (List.mem_of_mem_eraseIdx he')

theorem clearA_sound (hR : Rep (Cx.of P) m st.G w) {t ty : TypeId} {ts : Array TypeId} (hts : ts[0]? = some t) {x v cm : Value} {st' : St} (h : clearA (Cx.of P) t x st = some (v, st'))
    (hd : ∃ d, P.underlying t = some d ∧ ∀ e, (Cx.of P).desc t = some (.slice e) → d = .slice e) (hm : VRep m x cm) :
    ∃ w', (Builtin.clear_ ts ty #[cm]).run P w = .ok (.tuple #[]) w' ∧ Step (Cx.of P) m st.G w st.ct m st'.G w' st'.ct ∧ st'.ct = st.ct ∧ v = .tuple #[] := by
  have hμ0 := some0_ext m
  obtain ⟨d, hd, hds⟩ := hd
  have ud : (underlying t).run P w = .ok d w := by simp [underlying, hd]
  unfold clearA at h
  split at h <;> (try (simp at h; done))
  · simp at h; obtain ⟨rfl, rfl⟩ := h
    have hm0 := hm _ hμ0
    simp only [conc_nilmap] at hm0
    subst hm0
    exact ⟨w, by simp [Builtin.clear_, hts, ud], Step.refl hR, rfl, rfl⟩
  · rename_i r
    split at h <;> (try (simp at h; done))
    rename_i es hg
    simp at h; obtain ⟨rfl, rfl⟩ := h
    obtain ⟨l, hl, hlt⟩ := hR.dom _ _ hg
    have hat : ∀ μ, Ext m μ → μ r = l := fun μ hμ => hμ _ _ hl
    obtain ⟨es0, clock, hgo, hb, hp, hn, hlt2, hlk⟩ := map_obj (P := P) hR hg hμ0
    rw [hat _ hμ0] at hgo hb
    have hm0 := hm _ hμ0
    simp only [conc_map, hat _ hμ0] at hm0
    subst hm0
    refine ⟨{ w with heap := w.heap.setIfInBounds l.blk (.map #[] clock) }, ?_, ?_, rfl, rfl⟩
    · cases d <;> simp [Builtin.clear_, hts, ud, hgo, setObj_run hb]
    · refine setObj_step hR hg rfl hl ?_ _
      intro μ hμ w' hw'
      exact ⟨⟨[], clock, by rw [hat _ hμ, hw']; rfl, List.Perm.refl _, by simp, by simp, by simp⟩, by simp⟩
  · simp at h; obtain ⟨rfl, rfl⟩ := h
    have hm0 := hm _ hμ0
    simp only [conc_nilslice] at hm0
    subst hm0
    exact ⟨w, by cases d <;> simp [Builtin.clear_, hts, ud], Step.refl hR, rfl, rfl⟩
  · rename_i a n c
    split at h
    · simp at h; obtain ⟨rfl, rfl⟩ := h
      have hm0 := hm _ hμ0
      simp only [conc_slice] at hm0
      subst hm0
      exact ⟨w, by cases d <;> simp [Builtin.clear_, hts, ud], Step.refl hR, rfl, rfl⟩
    · rename_i k
      split at h <;> (try (simp at h; done))
      rename_i e hdt
      have hde := hds e hdt
      subst hde
      split at h <;> (try (simp at h; done))
      rename_i z hz
      split at h <;> (try (simp at h; done))
      rename_i zs hzs
      split at h <;> (try (simp at h; done))
      rename_i st2 hw
      simp at h; obtain ⟨rfl, rfl⟩ := h
      obtain ⟨zv, hzv, hzf, hzl, rfl⟩ := zeroN_spec hzs
      have hrep : ∀ μ, (rep (k + 1) zv.cells.toList).map (conc μ) = rep (k + 1) zv.cells.toList := fun μ => map_flat (flatL_rep (flat_cells hzf) _) μ
      have hca : ∀ μ, Ext m μ → a.spot = none → concEnd (some0 m) a (concCap (some0 m) a.block c) = concAddr μ a := by
        intro μ hμ hsp
        have h1 := hm μ hμ
        rw [← hm _ hμ0] at h1
        simp only [conc_slice, Value.slice.injEq, Option.some.injEq] at h1
        rw [← h1.1, concEnd_none μ hsp]
      obtain ⟨w', h1, h2, h3⟩ := writeCells_run hR hw (fun μ _ => hrep μ) hca st.ct
      have hm0 := hm _ hμ0
      simp only [conc_slice] at hm0
      subst hm0
      refine ⟨w', ?_, by rw [h3]; exact h2, h3, rfl⟩
      have hzc : Builtin.zeroCells zv.cells (k + 1) = ⟨rep (k + 1) zv.cells.toList⟩ := made_rep _ _
      simp [Builtin.clear_, hts, ud, run_zeroValue w hzv, hzc, h1]

theorem run_loadBytesI : ∀ (xs : List Int) (a : Addr) (acc : ByteArray), (∀ j x, xs[j]? = some x → w.cell? (a.add j) = some (.int .u8 x)) →
    (loadBytes a acc xs.length).run P w = .ok ⟨acc.data ++ (xs.map fun n => UInt8.ofNat n.toNat).toArray⟩ w
  | [], a, acc, _ => by simp [loadBytes]
  | x :: l, a, acc, h => by
    have h0 : w.cell? a = some (.int .u8 x) := by
      have := h 0 x rfl
      simpa [Addr.add] using this
    have ih := run_loadBytesI l (a.add 1) (acc.push x.toNat.toUInt8) (fun j y hy => by
      have := h (j + 1) y (by simpa using hy)
      have e : (a.add 1).add j = a.add (j + 1) := by
        unfold Addr.add
        by_cases hj : j = 0
        · subst hj; simp
        · simp [hj]; omega
      rw [e]; exact this)
    simp only [List.length_cons, loadBytes, Sem.run_bind, run_load, h0, Result.andThen, ih]
    congr 2
    apply Array.ext'
    simp [ByteArray.push]

theorem run_sliceData {ts : Array TypeId} {ty : TypeId} {a : Addr} {n c : Nat} (hc : c ≠ 0) : (Builtin.unsafeSliceData_ ts ty #[.slice (some a) n c]).run P w = .ok (.pointer (some a)) w := by
  have hdef : Builtin.unsafeSliceData_ ts ty #[.slice (some a) n c] =
      (do
        if c ≠ 0 then pure (.pointer (some a))
        else if (← viewAt a.block).isSome then pure (.pointer (some a))
        else pure (.pointer (some ⟨← newObj (.view a (← elemOf ty)), 0, none⟩))) := rfl
  rw [hdef, if_pos hc, Sem.run_pure]

theorem sliceDataA_sound (hR : Rep (Cx.of P) m st.G w) {t ty : TypeId} {ts : Array TypeId} {x v cm : Value} {st' : St} (h : sliceDataA (Cx.of P) t x st = some (v, st')) (hm : VRep m x cm) :
    ∃ cv, (Builtin.unsafeSliceData_ ts ty #[cm]).run P w = .ok cv w ∧ VRep m v cv ∧ st' = st := by
  have hμ0 := some0_ext m
  have hm0 := hm _ hμ0
  unfold sliceDataA at h
  split at h <;> (try (simp at h; done))
  · simp at h; obtain ⟨rfl, rfl⟩ := h
    simp only [conc_nilslice] at hm0
    subst hm0
    exact ⟨.pointer none, rfl, fun μ _ => by simp, rfl⟩
  · rename_i a n c
    split at h <;> (try (simp at h; done))
    rename_i hsp
    simp only [conc_slice] at hm0
    have same : concCap (some0 m) a.block c ≠ 0 → v = .pointer (some a) → ∃ cv, (Builtin.unsafeSliceData_ ts ty #[cm]).run P w = .ok cv w ∧ VRep m v cv ∧ st = st := by
      intro hc hv
      subst hv; subst hm0
      refine ⟨_, run_sliceData hc, fun μ hμ => ?_, rfl⟩
      have h1 := hm μ hμ
      simp only [conc_slice, Value.slice.injEq, Option.some.injEq] at h1
      rw [conc_ptr, ← concEnd_none μ hsp, h1.1]
    split at h
    · rename_i hop
      split at h <;> (try (simp at h; done))
      simp at h; obtain ⟨rfl, rfl⟩ := h
      exact same (by simp [concCap, hop]) rfl
    · rename_i hop
      split at h <;> (try (simp at h; done))
      split at h <;> (try (simp at h; done))
      split at h <;> (try (simp at h; done))
      rename_i z hz
      split at h <;> (try (simp at h; done))
      rename_i hok
      simp at h; obtain ⟨rfl, rfl⟩ := h
      obtain ⟨_, _, h3, h4, _⟩ := openOk_spec hR hok hμ0 hop
      exact same (by rw [h4]; omega) rfl

theorem freeze_heap {b off n : Nat} {c : Array Value} {e : TypeId} {fz : Nat × Nat} (hb : w.heap[b]? = some (.cells c e fz)) :
    ∃ fz', (w.freeze ⟨b, off, none⟩ n).heap[b]? = some (.cells c e fz') ∧ (∀ k, k ≠ b → (w.freeze ⟨b, off, none⟩ n).heap[k]? = w.heap[k]?) ∧ (w.freeze ⟨b, off, none⟩ n).heap.size = w.heap.size := by
  unfold World.freeze
  split
  · exact ⟨fz, hb, fun _ _ => rfl, rfl⟩
  · have hlt : b < w.heap.size := (Array.getElem?_eq_some_iff.1 hb).1
    have hbe : w.heap[b] = .cells c e fz := (Array.getElem?_eq_some_iff.1 hb).2
    refine ⟨if fz.1 == fz.2 then (off, off + n) else (min fz.1 off, max fz.2 (off + n)), ?_, fun k hk => ?_, ?_⟩
    · show (w.heap.modify b _)[b]? = _
      rw [Array.getElem?_eq_getElem (by rw [Array.size_modify]; exact hlt), Array.getElem_modify_self, hbe]
    · show (w.heap.modify b _)[k]? = _
      rw [Array.getElem?_modify, if_neg (Ne.symm hk)]
    · exact Array.size_modify ..

theorem freeze_rest (a : Addr) (n : Nat) : (w.freeze a n).os = w.os ∧ (w.freeze a n).tape = w.tape ∧ (w.freeze a n).output = w.output := by
  unfold World.freeze
  split <;> exact ⟨rfl, rfl, rfl⟩

theorem liesAt_ones {e : TypeId} (hc : P.cellsOf e = 1) (count off n : Nat) (hn : off + n ≤ count) : liesAt P P.depth e count off e n = true := by
  have hd : P.depth = (2 * (P.types.size + Made.depth) + 1) + 1 := rfl
  rw [hd]
  simp only [liesAt, Bool.or_eq_true]
  left
  rw [hd]
  simp [rowAt, hc, hn, sameLayout, Nat.mod_one]

theorem unsafeStringA_sound (hR : Rep (Cx.of P) m st.G w) {t ty : TypeId} {ts : Array TypeId} (hts : ts[0]? = some t) {p l v cp cl : Value} {st' : St} (h : unsafeStringA (Cx.of P) t p l st = some (v, st'))
    (hp : VRep m p cp) (hl : VRep m l cl) :
    ∃ w' cv, (Builtin.unsafeString_ ts ty #[cp, cl]).run P w = .ok cv w' ∧ Step (Cx.of P) m st.G w st.ct m st'.G w' st'.ct ∧ st'.ct = st.ct ∧ VRep m v cv := by
  have hμ0 := some0_ext m
  unfold unsafeStringA at h
  split at h <;> (try (simp at h; done))
  rename_i oa k n
  have hl0 := hl _ hμ0
  simp only [conc_int] at hl0
  subst hl0
  split at h <;> (try (simp at h; done))
  rename_i hn
  simp only [decide_eq_true_eq] at hn
  obtain ⟨q, rfl⟩ : ∃ q : Nat, n = q := ⟨n.toNat, by omega⟩
  simp only [Int.toNat_natCast] at h
  have hdef : ∀ x, Builtin.unsafeString_ ts ty #[.pointer x, .int k q] =
      (do
        let n ← asInt (.int k q)
        let some pt := ts[0]? | stuck "unsafe.String: no argument types"
        if n < 0 then runtimePanic (.error "unsafe.String: len out of range")
        if n > IntKind.i64.max then unsupported (.unsafePointer "String: a length above the largest int")
        match x with
        | none =>
          if n = 0 then pure (.string .empty)
          else runtimePanic (.error "unsafe.String: ptr is nil and len is not zero")
        | some a =>
          if n = 0 then pure (.string .empty)
          else if ← variablesAt a (← elemOf pt) n.toNat then do
            let s ← loadBytes a .empty n.toNat
            freeze a n.toNat
            pure (.string s)
          else unsupported (.unsafePointer "String: not so many bytes at ptr")) := fun x => rfl
  have hneg : ¬ (q : Int) < 0 := by omega
  have hmax : IntKind.i64.max = 9223372036854775807 := rfl
  have hbig : ¬ (9223372036854775807 : Int) < (q : Int) := by omega
  split at h
  · rename_i h0
    simp at h; obtain ⟨rfl, rfl⟩ := h
    have hp0 := hp _ hμ0
    refine ⟨w, .string .empty, ?_, Step.refl hR, rfl, fun μ _ => by simp; rfl⟩
    cases oa with
    | none =>
      simp only [conc_nilptr] at hp0
      subst hp0
      rw [hdef]
      simp [asInt, asIntOf, hts, hmax]
    | some a =>
      simp only [conc_ptr] at hp0
      subst hp0
      rw [hdef]
      simp [asInt, asIntOf, hts, hmax]
  · rename_i q'
    cases oa with
    | none => simp at h
    | some a =>
      simp only at h
      split at h <;> (try (simp at h; done))
      rename_i e hdt
      split at h <;> (try (simp at h; done))
      rename_i e' cs o hz hg
      split at h <;> (try (simp at h; done))
      rename_i cells1 he' hrd
      have he' := Nat.eq_of_beq_eq_true he'
      subst he'
      split at h <;> (try (simp at h; done))
      rename_i bs hbs
      simp at h; obtain ⟨rfl, rfl⟩ := h
      obtain ⟨ns, rfl, rfl⟩ := bytesOfCells_eq _ _ hbs
      obtain ⟨hlen, hsp, hcell⟩ := readCells_cell hR hrd hμ0
      rw [List.length_map] at hlen
      have hsp := hsp (by omega)
      have hp0 := hp _ hμ0
      simp only [conc_ptr] at hp0
      subst hp0
      obtain ⟨cells, e2, fz, hb, hsz, hcs, _, hopn, hwr⟩ := hR.obj _ hμ0 _ _ hg
      obtain ⟨rfl, hbase⟩ := hwr rfl
      obtain ⟨lo, hlo, hlt⟩ := hR.dom _ _ hg
      have hloc := hμ0 _ _ hlo
      have hwithin : a.off + (q' + 1) ≤ cs.length := by
        have hx := hrd
        simp only [readCells, hsp, hg] at hx
        cases hdc : dropCells a.off cs with
        | none => rw [hdc] at hx; simp at hx
        | some r =>
          rw [hdc] at hx
          obtain ⟨h1, rfl⟩ := dropCells_eq _ _ _ hdc
          have := (takeCells_eq _ _ _ (takeC_eq _ _ _ hx).1).1
          simp at this; omega
      have hld := run_loadBytesI (P := P) (w := w) ns (concAddr (some0 m) a) .empty (fun j x hj => by
        have := hcell j (.int .u8 x) (by rw [List.getElem?_map, hj]; rfl)
        simpa using this)
      rw [hlen] at hld
      have hva : (variablesAt (concAddr (some0 m) a) e2 (q' + 1)).run P w = .ok true w := by
        have h0 : (shape (concAddr (some0 m) a).block).run P w = .ok (some (e2, cells.size)) w := shape_cells hb
        unfold variablesAt
        simp only [Sem.run_bind, run_program, Result.andThen_ok, h0, cellsOf_of hz, Nat.div_one, Sem.run_pure]
        rw [liesAt_ones (cellsOf_of hz)]
        simp only [concAddr]; omega
      obtain ⟨fz', g1, g2, g3⟩ := freeze_heap (w := w) (off := (some0 m a.block).base + a.off) (n := q' + 1) hb
      refine ⟨w.freeze (concAddr (some0 m) a) (q' + 1), .string ⟨(ns.map fun n => UInt8.ofNat n.toNat).toArray⟩, ?_, ?_, rfl, fun μ _ => by simp⟩
      · rw [hdef]
        have hne : ¬ ((q' + 1 : Nat) : Int) = 0 := by omega
        have hel : (elemOf t).run P w = .ok e2 w := by simp [elemOf, run_underlying w hdt]
        have hld' : (loadBytes (concAddr (some0 m) a) .empty (q' + 1)).run P w = .ok ⟨(ns.map fun n => UInt8.ofNat n.toNat).toArray⟩ w := by
          rw [hld]; congr 2; simp
        simp only [asInt, asIntOf, hts, hmax, Sem.run_bind, Sem.run_pure, Result.andThen_ok, hneg, hbig, hne, if_false, gt_iff_lt, hel, Int.toNat_natCast, hva, hld', run_freeze, if_true]
      · refine Step.upd (id := a.block) (o := .row e2 cs o true) (o2 := .row e2 cs o false) hR hg rfl hlo g3 (freeze_rest _ _).1 (freeze_rest _ _).2.1 (freeze_rest _ _).2.2 (fun b hbne => g2 b (by rw [hloc]; exact hbne)) ?_ ?_
        · intro j oj hj
          simp only [St.G, T.get_set] at hj
          split at hj
          · rename_i e; subst e; injection hj with hj; exact .inl ⟨rfl, hj.symm⟩
          · rename_i hne; exact .inr ⟨hne, hj⟩
        · intro μ hμ
          obtain ⟨cells', e3, fz3, hb', hsz', hcs', _, hopn', _⟩ := hR.obj μ hμ _ _ hg
          have hlμ := hμ _ _ hlo
          rw [hlμ] at hb'
          rw [hloc] at hb g1
          rw [hb] at hb'
          injection hb' with hb'
          injection hb' with hb1 hb2 hb3
          subst hb1; subst hb2; subst hb3
          refine ⟨cells, e2, fz', ?_, hsz', hcs', (fun h => by cases h), hopn', (fun h => by cases h)⟩
          rw [hlμ]
          simp only [concAddr, hloc]
          exact g1

/-- all of them in one -/
theorem heavyOp_sound (hR : Rep (Cx.of P) m st.G w) {tm : T Value} {ρ : Operand → Value} (hρ : ∀ x v, ev (Cx.of P) tm x = some v → VRep m v (ρ x))
    {o : Oper} {v : Value} {st' : St} (h : heavyOp (Cx.of P) tm st o.op = some (v, st')) (hfresh : ∀ i, st.ct ≤ i → i < st'.ct → m i = none) :
    ∃ w' cv m', ((execOp ρ o).run P w = .ok (.value cv) w' ∨ ((execOp ρ o).run P w = .ok .skip w' ∧ cv = undef)) ∧
      Step (Cx.of P) m st.G w st.ct m' st'.G w' st'.ct ∧ VRep m' v cv ∧ st.ct ≤ st'.ct := by
  have val : ∀ {s : Sem Value} {r : Value} {w' : World}, s.run P w = .ok r w' → (do pure (.value (← s)) : Sem Next).run P w = .ok (.value r) w' := by
    intro s r w' hs; simp [hs]
  have unit_ : ∀ {s : Sem Unit} {w' : World}, s.run P w = .ok () w' → (do s; pure .skip : Sem Next).run P w = .ok .skip w' := by
    intro s w' hs; simp [hs]
  have hμ0 := some0_ext m
  unfold execOp
  cases hop : o.op <;> rw [hop] at h <;> simp only [heavyOp] at h <;> (try (simp at h; done)) <;> simp only
  case store t x y =>
    split at h <;> (try (simp at h; done))
    rename_i a xv hx hy
    cases hs : (Cx.of P).size t with
    | none => rw [hs] at h; simp at h
    | some n =>
      rw [hs] at h
      simp only at h
      split at h <;> (try (simp at h; done))
      rename_i hn
      have hn := Nat.eq_of_beq_eq_true hn
      cases hw : writeCells st a xv.cells.toList with
      | none => rw [hw] at h; simp at h
      | some st2 =>
        rw [hw] at h
        simp at h; obtain ⟨rfl, rfl⟩ := h
        have hx' := hρ x _ hx
        have hy' := hρ y _ hy
        have hx0 := hx' _ hμ0
        simp only [conc_ptr] at hx0
        obtain ⟨w', h1, h2, h3⟩ := writeCells_run hR hw (cvs := (ρ y).cells.toList) (fun μ hμ => by rw [← hy' μ hμ, conc_cells_list]) (ca := concAddr (some0 m) a) (fun μ hμ _ => by
          have := hx' μ hμ
          rw [← hx0] at this
          simpa using this.symm) st.ct
        refine ⟨w', undef, m, .inr ⟨unit_ ?_, rfl⟩, by rw [h3]; exact h2, fun μ _ => by simp, by omega⟩
        have hsz : (ρ y).cells.size = n := by rw [← hy' _ hμ0, conc_cells, concA_eq]; simpa using hn
        rw [← hx0]
        simp [Instr.storeAt, Instr.sureAddr, storeVar, run_sizeOf w hs, hsz, h1]
  case insert t mm k x =>
    split at h <;> (try (simp at h; done))
    rename_i mv kv xv hm hk hx
    cases hu : updateA (Cx.of P) t mv kv xv st with
    | none => rw [hu] at h; simp at h
    | some st2 =>
      rw [hu] at h
      simp at h; obtain ⟨rfl, rfl⟩ := h
      obtain ⟨w', h1, h2, h3⟩ := updateA_sound hR hu (hρ _ _ hm) (hρ _ _ hk) (hρ _ _ hx)
      exact ⟨w', undef, m, .inr ⟨unit_ h1, rfl⟩, h2, fun μ _ => by simp, by omega⟩
  case mapUpdate t mm k x =>
    split at h <;> (try (simp at h; done))
    rename_i mv kv xv hm hk hx
    cases hu : updateA (Cx.of P) t mv kv xv st with
    | none => rw [hu] at h; simp at h
    | some st2 =>
      rw [hu] at h
      simp at h; obtain ⟨rfl, rfl⟩ := h
      obtain ⟨w', h1, h2, h3⟩ := updateA_sound hR hu (hρ _ _ hm) (hρ _ _ hk) (hρ _ _ hx)
      exact ⟨w', undef, m, .inr ⟨unit_ h1, rfl⟩, h2, fun μ _ => by simp, by omega⟩
  case range t x =>
    have fresh_ : st'.ct = st.ct + 1 → m st.ct = none := fun h => hfresh _ (Nat.le_refl _) (by omega)
    have step_ : ∀ {ob : AObj} {o2 : Obj}, m st.ct = none → (∀ μ, Ext (setM m st.ct ⟨w.heap.size, 0, 0, .nilFunc⟩) μ → ∀ w' : World, w'.heap[w.heap.size]? = some o2 → ObjRep (Cx.of P) μ w' st.ct ob) →
        Step (Cx.of P) m st.G w st.ct (setM m st.ct ⟨w.heap.size, 0, 0, .nilFunc⟩) (⟨st.hp.set st.ct ob, st.ct + 1⟩ : St).G { w with heap := w.heap.push o2 } (st.ct + 1) := by
      intro ob o2 hid hobj
      have hnew := New.push w o2
      refine Step.new hR hid (Nat.le_refl _) (Nat.lt_succ_self _) rfl hnew.size hnew.os hnew.tape hnew.output hnew.old ?_ (fun μ hμ => hobj μ hμ _ (push_here w _))
      intro j oj hj
      simp only [St.G, T.get_set] at hj
      split at hj
      · rename_i e; subst e; injection hj with hj; exact .inl ⟨rfl, hj.symm⟩
      · rename_i hne; exact .inr ⟨hne, hj⟩
    split at h <;> (try (simp at h; done))
    · rename_i hx hd
      have hu := run_underlying w hd
      simp at h; obtain ⟨rfl, rfl⟩ := h
      have hid := fresh_ rfl
      have ex : ρ x = .map none := by rw [← hρ x _ hx _ hμ0]; simp
      refine ⟨_, .pointer (some ⟨w.heap.size, 0, none⟩), _, .inl (val (w' := { w with heap := w.heap.push (.mapIter none 0 #[] 0) }) ?_), step_ hid (fun μ hμ w' hw' => ?_), fun μ hμ => ?_, by simp⟩
      · rw [ex]; simp [Instr.range, hu]
      · have hloc : μ st.ct = ⟨w.heap.size, 0, 0, .nilFunc⟩ := hμ _ _ (setM_same _ _)
        exact ⟨by rw [hloc], by rw [hloc]; exact hw'⟩
      · have hloc : μ st.ct = ⟨w.heap.size, 0, 0, .nilFunc⟩ := hμ _ _ (setM_same _ _)
        simp [concAddr, hloc]
    · rename_i r _k _e hx hd
      split at h <;> (try (simp at h; done))
      rename_i es lk wr hg
      have hu := run_underlying w hd
      simp at h; obtain ⟨rfl, rfl⟩ := h
      have hid := fresh_ rfl
      obtain ⟨l, hl, _⟩ := hR.dom _ _ hg
      obtain ⟨es', clock, hgo, hb, _, _, _, hlk⟩ := map_obj (P := P) hR hg hμ0
      rw [hμ0 _ _ hl] at hgo hb hlk
      have ex : ρ x = .map (some l.blk) := by rw [← hρ x _ hx _ hμ0]; simp [hμ0 _ _ hl]
      refine ⟨_, .pointer (some ⟨w.heap.size, 0, none⟩), _, .inl (val (w' := { w with heap := w.heap.push (.mapIter (some l.blk) clock #[] clock) }) ?_), step_ hid (fun μ hμ w' hw' => ?_), fun μ hμ => ?_, by simp⟩
      · rw [ex]; simp [Instr.range, hu, hgo]
      · have hloc : μ st.ct = ⟨w.heap.size, 0, 0, .nilFunc⟩ := hμ _ _ (setM_same _ _)
        have hr : μ r = l := hμ _ _ (setM_mono hid _ _ hl)
        exact ⟨by rw [hloc], clock, by rw [hloc, hr]; exact hw', by rw [hr]; exact hlk⟩
      · have hloc : μ st.ct = ⟨w.heap.size, 0, 0, .nilFunc⟩ := hμ _ _ (setM_same _ _)
        simp [concAddr, hloc]
  case next it isString =>
    cases isString with
    | false => simp at h
    | true =>
      simp only at h
      split at h <;> (try (simp at h; done))
      rename_i a hi
      split at h <;> (try (simp at h; done))
      rename_i s pos hoff hg
      obtain ⟨l, hl, hlt⟩ := hR.dom _ _ hg
      obtain ⟨hb, hbase⟩ := hR.obj _ hμ0 _ _ hg
      have hat : ∀ μ, Ext m μ → μ a.block = l := fun μ hμ => hμ _ _ hl
      rw [hat _ hμ0] at hb hbase
      have hit := hρ it _ hi _ hμ0
      simp only [conc_ptr, concAddr, hat _ hμ0, hbase, hoff, Nat.add_zero] at hit
      have hgo : (getObj l.blk).run P w = .ok (.stringIter s pos) w := by simp [getObj, Sem.run, hb]
      split at h
      · rename_i hlt2
        have hlt2 : pos < s.size := Nat.le_of_ble_eq_true hlt2
        simp at h; obtain ⟨rfl, rfl⟩ := h
        refine ⟨{ w with heap := w.heap.setIfInBounds l.blk (.stringIter s (pos + (Utf8.decode s pos).2)) }, .tuple #[.bool true, goInt pos, .int .i32 (Utf8.decode s pos).1], m, .inl (val ?_), ?_, ?_, Nat.le_refl _⟩
        · rw [← hit]
          simp [Instr.next, hgo, hlt2, setObj_run hb]
        · refine setObj_step hR hg rfl hl ?_ _
          intro μ hμ w' hw'
          exact ⟨by rw [hat _ hμ]; exact hw', by rw [hat _ hμ]; exact hbase⟩
        · intro μ _; simp [concA_eq]
      · rename_i hlt2
        have hlt2 : ¬ pos < s.size := by
          intro hc
          have : Nat.blt pos s.size = true := Nat.ble_eq.mpr hc
          rw [this] at hlt2; cases hlt2
        simp at h; obtain ⟨rfl, rfl⟩ := h
        refine ⟨w, .tuple #[.bool false], m, .inl (val ?_), Step.refl hR, ?_, Nat.le_refl _⟩
        · rw [← hit]
          simp [Instr.next, hgo, hlt2]
        · intro μ _; simp [concA_eq]
  case call c =>
    unfold heavyCall at h
    split at h <;> (try (simp at h; done))
    rename_i b hc
    cases ha : evs (Cx.of P) tm c.args.toList with
    | none => rw [ha] at h; simp at h
    | some as =>
      rw [ha] at h
      simp only at h
      have ea : ∀ μ, Ext m μ → c.args.map ρ = (as.map (conc μ)).toArray := by
        intro μ hμ
        have e := evs_map μ (fun x v hx => (hρ x v hx μ hμ).symm) ha
        rw [← e]; apply Array.ext'; simp
      simp only [resolve, hc, Sem.run_bind, Sem.run_pure, Result.andThen_ok, invoke, builtin]
      have ea0 := ea _ hμ0
      cases b <;> (try (simp at h; done)) <;> simp only at h ⊢
      case append =>
        split at h <;> (try (simp at h; done))
        rename_i s x
        have e2 : c.args.map ρ = #[conc (some0 m) s, conc (some0 m) x] := by rw [ea0]; simp
        have vs : VRep m s (conc (some0 m) s) := by
          intro μ hμ
          have := (ea μ hμ).symm.trans e2
          simp at this; exact this.1
        have vx : VRep m x (conc (some0 m) x) := by
          intro μ hμ
          have := (ea μ hμ).symm.trans e2
          simp at this; exact this.2
        have h' := h
        unfold appendA at h'
        split at h' <;> (try (simp at h'; done))
        rename_i sT xT hts
        rw [hts] at h
        have hts' : c.argTypes = #[sT, xT] := by apply Array.ext'; simp [hts]
        obtain ⟨w', cv, m', h1, h2, h3, h4⟩ := appendA_sound (ty := o.type) hR h vs vx hfresh
        refine ⟨w', cv, m', .inl ?_, h2, h3, h4⟩
        rw [e2, hts']
        exact val h1
      case copy =>
        split at h <;> (try (simp at h; done))
        rename_i d x dT rest hts
        have e2 : c.args.map ρ = #[conc (some0 m) d, conc (some0 m) x] := by rw [ea0]; simp
        have vs : VRep m d (conc (some0 m) d) := by
          intro μ hμ
          have := (ea μ hμ).symm.trans e2
          simp at this; exact this.1
        have vx : VRep m x (conc (some0 m) x) := by
          intro μ hμ
          have := (ea μ hμ).symm.trans e2
          simp at this; exact this.2
        have ht' : c.argTypes[0]? = some dT := by rw [← Array.getElem?_toList, hts]; rfl
        obtain ⟨w', cv, h1, h2, h3, h4⟩ := copyA_sound (ty := o.type) hR ht' h vs vx
        refine ⟨w', cv, m, .inl ?_, h2, h3, by omega⟩
        rw [e2]
        exact val h1
      case delete =>
        split at h <;> (try (simp at h; done))
        rename_i d x dT rest hts
        have e2 : c.args.map ρ = #[conc (some0 m) d, conc (some0 m) x] := by rw [ea0]; simp
        have vs : VRep m d (conc (some0 m) d) := by
          intro μ hμ
          have := (ea μ hμ).symm.trans e2
          simp at this; exact this.1
        have vx : VRep m x (conc (some0 m) x) := by
          intro μ hμ
          have := (ea μ hμ).symm.trans e2
          simp at this; exact this.2
        have ht' : c.argTypes[0]? = some dT := by rw [← Array.getElem?_toList, hts]; rfl
        obtain ⟨w', h1, h2, h3, h4⟩ := deleteA_sound (ty := o.type) hR ht' h vs vx
        refine ⟨w', .tuple #[], m, .inl ?_, h2, fun μ _ => ?_, by omega⟩
        · rw [e2]
          exact val h1
        · rw [h4]; simp [concA_eq]
      case clear =>
        split at h <;> (try (simp at h; done))
        rename_i x t rest hts
        have e2 : c.args.map ρ = #[conc (some0 m) x] := by rw [ea0]; simp
        have vx : VRep m x (conc (some0 m) x) := by
          intro μ hμ
          have := (ea μ hμ).symm.trans e2
          simpa using this
        have ht' : c.argTypes[0]? = some t := by rw [← Array.getElem?_toList, hts]; rfl
        split at h <;> (try (simp at h; done))
        rename_i d hdt
        obtain ⟨w', h1, h2, h3, h4⟩ := clearA_sound (ty := o.type) hR ht' h ⟨d, Cx.desc_under hdt, fun e he => by rw [hdt] at he; injection he⟩ vx
        refine ⟨w', .tuple #[], m, .inl ?_, h2, fun μ _ => ?_, by omega⟩
        · rw [e2]
          exact val h1
        · rw [h4]; simp [concA_eq]
      case unsafeSliceData =>
        split at h <;> (try (simp at h; done))
        rename_i x t rest hts
        have e2 : c.args.map ρ = #[conc (some0 m) x] := by rw [ea0]; simp
        have vx : VRep m x (conc (some0 m) x) := by
          intro μ hμ
          have := (ea μ hμ).symm.trans e2
          simpa using this
        obtain ⟨cv, h1, h2, rfl⟩ := sliceDataA_sound (ts := c.argTypes) (ty := o.type) hR h vx
        refine ⟨w, cv, m, .inl ?_, Step.refl hR, h2, Nat.le_refl _⟩
        rw [e2]
        exact val h1
      case unsafeString =>
        split at h <;> (try (simp at h; done))
        rename_i d x dT rest hts
        have e2 : c.args.map ρ = #[conc (some0 m) d, conc (some0 m) x] := by rw [ea0]; simp
        have vs : VRep m d (conc (some0 m) d) := by
          intro μ hμ
          have := (ea μ hμ).symm.trans e2
          simp at this; exact this.1
        have vx : VRep m x (conc (some0 m) x) := by
          intro μ hμ
          have := (ea μ hμ).symm.trans e2
          simp at this; exact this.2
        have ht' : c.argTypes[0]? = some dT := by rw [← Array.getElem?_toList, hts]; rfl
        obtain ⟨w', cv, h1, h2, h3, h4⟩ := unsafeStringA_sound (ty := o.type) hR ht' h vs vx
        refine ⟨w', cv, m, .inl ?_, h2, h4, by omega⟩
        rw [e2]
        exact val h1

end
end Go.Ai

/-! Running code: what the abstract interpreter says of it is so. -/
namespace Go.Ai
open Go

/-! ### the counter never falls -/
theorem writeCells_ct {st st' : St} {a : Addr} {vs : List Value} (h : writeCells st a vs = some st') : st'.ct = st.ct := by
  unfold writeCells at h
  split at h <;> (try (simp at h; done))
  split at h <;> (try (simp at h; done))
  split at h <;> (try (simp at h; done))
  simp at h; subst h; rfl

theorem growA_ct {e : TypeId} {old l : List Value} {need : Nat} {hp : T AObj} {ct : Nat} {v : Value} {st' : St} (h : growA e old l need hp ct = some (v, st')) : st'.ct = ct + 1 := by
  obtain ⟨_, _, rfl⟩ := growA_spec h; rfl

theorem appendTo_ct {cx : Cx} {e : TypeId} {i : TypeInfo} {s : Value} {n : Nat} {l : List Value} {st st' : St} {v : Value} (h : appendTo cx e i s n l st = some (v, st')) : st.ct ≤ st'.ct := by
  unfold appendTo at h
  repeat' (split at h)
  all_goals first
    | (simp at h; done)
    | (have := growA_ct h; omega)
    | (simp at h; obtain ⟨_, rfl⟩ := h; first | exact Nat.le_refl _ | (have := writeCells_ct (by assumption); omega))

theorem appendA_ct {cx : Cx} {ts : List TypeId} {s x : Value} {st st' : St} {v : Value} (h : appendA cx ts s x st = some (v, st')) : st.ct ≤ st'.ct := by
  unfold appendA at h
  repeat' (split at h)
  all_goals first
    | (simp at h; done)
    | exact appendTo_ct h

theorem copyA_ct {cx : Cx} {t : TypeId} {d x : Value} {st st' : St} {v : Value} (h : copyA cx t d x st = some (v, st')) : st'.ct = st.ct := by
  unfold copyA at h
  repeat' (split at h)
  all_goals first
    | (simp at h; done)
    | (simp at h; obtain ⟨_, rfl⟩ := h; first | rfl | exact writeCells_ct (by assumption))

theorem updateA_ct {cx : Cx} {t : TypeId} {m k v : Value} {st st' : St} (h : updateA cx t m k v st = some st') : st'.ct = st.ct := by
  unfold updateA at h
  repeat' (split at h)
  all_goals first
    | (simp at h; done)
    | (simp at h; subst h; rfl)

theorem deleteA_ct {cx : Cx} {t : TypeId} {m k v : Value} {st st' : St} (h : deleteA cx t m k st = some (v, st')) : st'.ct = st.ct := by
  unfold deleteA at h
  repeat' (split at h)
  all_goals first
    | (simp at h; done)
    | (simp at h; obtain ⟨_, rfl⟩ := h; rfl)

theorem clearA_ct {cx : Cx} {t : TypeId} {x v : Value} {st st' : St} (h : clearA cx t x st = some (v, st')) : st'.ct = st.ct := by
  unfold clearA at h
  repeat' (split at h)
  all_goals first
    | (simp at h; done)
    | (simp at h; obtain ⟨_, rfl⟩ := h; first | rfl | exact writeCells_ct (by assumption))

theorem sliceDataA_ct {cx : Cx} {t : TypeId} {x v : Value} {st st' : St} (h : sliceDataA cx t x st = some (v, st')) : st'.ct = st.ct := by
  unfold sliceDataA at h
  repeat' (split at h)
  all_goals first
    | (simp at h; done)
    | (simp at h; obtain ⟨_, rfl⟩ := h; rfl)

theorem unsafeStringA_ct {cx : Cx} {t : TypeId} {p l v : Value} {st st' : St} (h : unsafeStringA cx t p l st = some (v, st')) : st'.ct = st.ct := by
  unfold unsafeStringA at h
  repeat' (split at h)
  all_goals first
    | (simp at h; done)
    | (simp at h; obtain ⟨_, rfl⟩ := h; rfl)

theorem heavyOp_ct {cx : Cx} {tm : T Value} {st st' : St} {op : Op} {v : Value} (h : heavyOp cx tm st op = some (v, st')) : st.ct ≤ st'.ct := by
  cases op <;> simp only [heavyOp] at h <;> (try (simp at h; done))
  case store =>
    repeat' (split at h)
    all_goals first
      | (simp at h; done)
      | (simp at h; obtain ⟨_, rfl⟩ := h; have := writeCells_ct (by assumption); omega)
  case insert =>
    repeat' (split at h)
    all_goals first
      | (simp at h; done)
      | (simp at h; obtain ⟨_, rfl⟩ := h; have := updateA_ct (by assumption); omega)
  case mapUpdate =>
    repeat' (split at h)
    all_goals first
      | (simp at h; done)
      | (simp at h; obtain ⟨_, rfl⟩ := h; have := updateA_ct (by assumption); omega)
  case range =>
    repeat' (split at h)
    all_goals first
      | (simp at h; done)
      | (simp at h; obtain ⟨_, rfl⟩ := h; simp)
  case next =>
    repeat' (split at h)
    all_goals first
      | (simp at h; done)
      | (simp at h; obtain ⟨_, rfl⟩ := h; exact Nat.le_refl _)
  case call c =>
    unfold heavyCall at h
    repeat' (split at h)
    all_goals first
      | (simp at h; done)
      | exact appendA_ct h
      | (have := copyA_ct h; omega)
      | (have := deleteA_ct h; omega)
      | (have := clearA_ct h; omega)
      | (have := sliceDataA_ct h; omega)
      | (have := unsafeStringA_ct h; omega)

structure OvMono (ov : Ov) : Prop where
  fn : ∀ f g args st v st', ov f = some g → g args st = some (v, st') → st.ct ≤ st'.ct
  lp : ∀ a g nt tm st ex tm' st', ov.lp a = some g → g nt tm st = some (ex, tm', st') → st.ct ≤ st'.ct
  keeps : ∀ a g nt tm st ex tm' st', ov.lp a = some g → g nt tm st = some (ex, tm', st') → ∀ t, t ∉ dstsOf a → tm'.get t = tm.get t
def RunMono (ih : CodeRun) : Prop := ∀ c nt tm st ex tm' st', ih c nt tm st = some (ex, tm', st') → st.ct ≤ st'.ct

theorem callA_ct {cx : Cx} {ov : Ov} {ih : CodeRun} (hov : OvMono ov) (hih : RunMono ih) {f : Nat} {args : List Value} {st st' : St} {v : Value} (h : callA cx ov ih f args st = some (v, st')) : st.ct ≤ st'.ct := by
  unfold callA at h
  split at h
  · exact hov.fn _ _ _ _ _ _ (by assumption) h
  · split at h <;> (try (simp at h; done))
    split at h <;> (try (simp at h; done))
    split at h <;> (try (simp at h; done))
    split at h <;> (try (simp at h; done))
    rename_i hc
    have := hih _ _ _ _ _ _ _ hc
    split at h <;> (try (simp at h; done))
    split at h <;> (try (simp at h; done))
    split at h <;> (try (simp at h; done)) <;> (simp at h; obtain ⟨_, rfl⟩ := h; exact this)

theorem yieldA_some {ih : CodeRun} {l : Nat} {as : List Value} {st st' : St} {v : Value} (h : yieldA ih l as st = some (v, st')) :
    ∃ tm nt ps as1 bo t1 t2 s2 tm2 nt2 ps2 as2 bo2 e2 t3 s3 tm3 nt3 ps3 as3 bo3, st.hp.get l = some (.loopO .ready none tm nt ps as1 bo) ∧ noRF as1 = true ∧ noRF bo = true ∧ roundTm nt ps as tm = some t1 ∧ ih as1 nt t1 st = some (.normal, t2, s2) ∧
      s2.hp.get l = some (.loopO .ready none tm2 nt2 ps2 as2 bo2) ∧ ih bo nt t2 { s2 with hp := s2.hp.set l (.loopO .busy none tm2 nt2 ps2 as2 bo2) } = some (e2, t3, s3) ∧ s3.hp.get l = some (.loopO .busy none tm3 nt3 ps3 as3 bo3) ∧
      ((e2 = .normal ∧ v = .bool true ∧ st' = { s3 with hp := s3.hp.set l (.loopO .ready none tm3 nt3 ps3 as3 bo3) }) ∨ (e2 ≠ .normal ∧ v = .bool false ∧ st' = { s3 with hp := s3.hp.set l (.loopO .done (some e2) tm3 nt3 ps3 as3 bo3) })) := by
  unfold yieldA at h
  split at h <;> (try (simp at h; done))
  rename_i tm nt ps as1 bo hl
  split at h <;> (try (simp at h; done))
  rename_i t1 hno ht1
  split at h <;> (try (simp at h; done))
  rename_i e1 t2 s2 h1
  split at h <;> (try (simp at h; done))
  rename_i tm2 nt2 ps2 as2 bo2 hl2
  split at h <;> (try (simp at h; done))
  rename_i e2 t3 s3 h2
  split at h <;> (try (simp at h; done))
  rename_i tm3 nt3 ps3 as3 bo3 hl3
  simp only [Bool.and_eq_true] at hno
  refine ⟨tm, nt, ps, as1, bo, t1, t2, s2, tm2, nt2, ps2, as2, bo2, e2, t3, s3, tm3, nt3, ps3, as3, bo3, hl, hno.1, hno.2, ht1, h1, hl2, h2, hl3, ?_⟩
  split at h
  · simp at h; exact .inl ⟨rfl, h.1.symm, h.2.symm⟩
  · rename_i hne
    simp at h; exact .inr ⟨fun e => hne e, h.1.symm, h.2.symm⟩

theorem yieldA_ct {ih : CodeRun} (hih : RunMono ih) {l : Nat} {as : List Value} {st st' : St} {v : Value} (h : yieldA ih l as st = some (v, st')) : st.ct ≤ st'.ct := by
  obtain ⟨tm, nt, ps, as1, bo, t1, t2, s2, tm2, nt2, ps2, as2, bo2, e2, t3, s3, tm3, nt3, ps3, as3, bo3, _, _, _, _, h1, _, h2, _, h3⟩ := yieldA_some h
  have a := hih _ _ _ _ _ _ _ h1
  have b := hih _ _ _ _ _ _ _ h2
  simp only at b
  rcases h3 with ⟨_, _, rfl⟩ | ⟨_, _, rfl⟩ <;> (simp only; omega)

theorem rangeA_some {cx : Cx} {ov : Ov} {ih : CodeRun} {f : Operand} {ps : List Tmp} {assign body : Code} {nt : Nat} {tm tm' : T Value} {st st' : St} {ex : Ex} (h : rangeA cx ov ih f ps assign body nt tm st = some (ex, tm', st')) :
    ∃ k first captured v s2 ls pend tm2 nt2 ps2 as2 bo2, ev cx tm f = some (.func (.func k) first captured) ∧ entersA cx k = true ∧
      callA cx ov ih k (first.toList ++ .func (.yield st.ct) #[] #[] :: captured.toList) ⟨st.hp.set st.ct (.loopO .ready none tm nt ps assign body), st.ct + 1⟩ = some (v, s2) ∧
      s2.hp.get st.ct = some (.loopO ls pend tm2 nt2 ps2 as2 bo2) ∧ ls ≠ .busy ∧ tm' = tm ∧ st' = { s2 with hp := s2.hp.del st.ct } ∧ (match pend with | none => ex = .normal | some e => ex = e) := by
  unfold rangeA at h
  split at h <;> (try (simp at h; done))
  rename_i fn first captured hf
  split at h <;> (try (simp at h; done))
  rename_i k
  split at h <;> (try (simp at h; done))
  rename_i hk
  split at h <;> (try (simp at h; done))
  rename_i v s2 hc
  split at h <;> (try (simp at h; done))
  rename_i ls pend tm2 nt2 ps2 as2 bo2 hl
  split at h <;> (try (simp at h; done))
  rename_i hb
  refine ⟨k, first, captured, v, s2, ls, pend, tm2, nt2, ps2, as2, bo2, hf, hk, hc, hl, fun e => hb e, ?_⟩
  split at h
  · simp at h; exact ⟨h.2.1.symm, h.2.2.symm, h.1.symm⟩
  · simp at h; exact ⟨h.2.1.symm, h.2.2.symm, h.1.symm⟩

theorem rangeA_ct {cx : Cx} {ov : Ov} {ih : CodeRun} (hov : OvMono ov) (hih : RunMono ih) {f : Operand} {ps : List Tmp} {assign body : Code} {nt : Nat} {tm tm' : T Value} {st st' : St} {ex : Ex} (h : rangeA cx ov ih f ps assign body nt tm st = some (ex, tm', st')) : st.ct ≤ st'.ct := by
  obtain ⟨k, first, captured, v, s2, ls, pend, tm2, nt2, ps2, as2, bo2, _, _, h1, _, _, _, rfl, _⟩ := rangeA_some h
  have := callA_ct hov hih h1
  simp only at this ⊢
  omega

theorem scopeA_ct {ih : CodeRun} (hih : RunMono ih) {body : Code} {nt : Nat} : ∀ {n : Nat} {c : Code} {tm tm' : T Value} {st st' : St} {ex : Ex}, scopeA ih body nt n c tm st = some (ex, tm', st') → st.ct ≤ st'.ct := by
  intro n
  induction n with
  | zero => intro c tm tm' st st' ex h; simp [scopeA] at h
  | succ n ihn =>
    intro c tm tm' st st' ex h
    simp only [scopeA] at h
    split at h <;> (try (simp at h; done))
    rename_i h1
    have := hih _ _ _ _ _ _ _ h1
    split at h
    · split at h
      · exact Nat.le_trans this (ihn h)
      · simp at h; obtain ⟨_, _, rfl⟩ := h; exact this
    · simp at h; obtain ⟨_, _, rfl⟩ := h; exact this

theorem opA_ct {cx : Cx} {ov : Ov} {ih : CodeRun} (hov : OvMono ov) (hih : RunMono ih) {tm : T Value} {st st' : St} {o : Oper} {v : Value} (h : opA cx ov ih tm st o = some (v, st')) : st.ct ≤ st'.ct := by
  unfold opA at h
  split at h
  · split at h <;> (try (simp at h; done))
    simp at h; obtain ⟨_, rfl⟩ := h; exact Nat.le_refl _
  · split at h <;> (try (simp at h; done))
    simp at h; obtain ⟨_, rfl⟩ := h; simp
  · split at h <;> (try (simp at h; done))
    simp at h; obtain ⟨_, rfl⟩ := h; exact Nat.le_refl _
  · split at h
    · rename_i hh
      simp at h; subst h
      exact heavyOp_ct hh
    · unfold callOp at h
      split at h <;> (try (simp at h; done))
      split at h <;> (try (simp at h; done))
      split at h <;> (try (simp at h; done))
      split at h <;> (try (simp at h; done))
      · exact callA_ct hov hih h
      · split at h <;> (try (simp at h; done))
        exact yieldA_ct hih h

theorem opsA_ct {cx : Cx} {ov : Ov} {ih : CodeRun} (hov : OvMono ov) (hih : RunMono ih) {nt : Nat} {all : List Oper} : ∀ {l : List Oper} {tm tm' : T Value} {st st' : St}, opsA cx ov ih nt all l tm st = some (tm', st') → st.ct ≤ st'.ct := by
  intro l
  induction l with
  | nil => intro tm tm' st st' h; simp [opsA] at h; obtain ⟨_, rfl⟩ := h; exact Nat.le_refl _
  | cons o l ih2 =>
    intro tm tm' st st' h
    simp only [opsA] at h
    split at h <;> (try (simp at h; done))
    · split at h <;> (try (simp at h; done))
      rename_i ho
      split at h <;> (try (simp at h; done))
      exact Nat.le_trans (opA_ct hov hih ho) (ih2 h)
    · split at h <;> (try (simp at h; done))
      exact ih2 h

theorem putD_st {nt : Nat} {ds ds' : DS} {d : Option Tmp} {v : Value} (h : putD nt ds d v = some ds') : ds'.st = ds.st ∧ ds'.pend = ds.pend ∧ ds'.past = ds.past ∧ ds'.reads = ds.reads ∧ putDst nt ds.tm d v = some ds'.tm := by
  unfold putD at h
  split at h
  · rename_i tm hp
    simp at h; subst h; exact ⟨rfl, rfl, rfl, rfl, hp⟩
  · simp at h

theorem stepD_ct {cx : Cx} {ov : Ov} {ih : CodeRun} (hov : OvMono ov) (hih : RunMono ih) {nt : Nat} {all : List Oper} {befs : List Nat} {i : Nat} {o : Oper} {ds ds' : DS} (h : stepD cx ov ih nt all befs i o ds = some ds') : ds.st.ct ≤ ds'.st.ct := by
  unfold stepD at h
  split at h
  · simp at h
  · obtain ⟨h1, _⟩ := putD_st h; rw [h1]; exact Nat.le_refl _
  · split at h
    · split at h <;> (try (simp at h; done))
      obtain ⟨h1, _⟩ := putD_st h; rw [h1]; exact Nat.le_refl _
    · split at h <;> (try (simp at h; done))
      obtain ⟨h1, _⟩ := putD_st h; rw [h1]; simp
    · split at h <;> (try (simp at h; done))
      split at h <;> (try (simp at h; done))
      obtain ⟨h1, _⟩ := putD_st h; rw [h1]; exact Nat.le_refl _
    · split at h <;> (try (simp at h; done))
      rename_i ho
      split at h <;> (try (simp at h; done))
      obtain ⟨h1, _⟩ := putD_st h; rw [h1]
      have := opA_ct hov hih ho
      exact this

theorem stepsD_ct {cx : Cx} {ov : Ov} {ih : CodeRun} (hov : OvMono ov) (hih : RunMono ih) {nt : Nat} {all : List Oper} {befs : List Nat} : ∀ {l : List Oper} {i : Nat} {ds ds' : DS}, stepsD cx ov ih nt all befs i l ds = some ds' → ds.st.ct ≤ ds'.st.ct := by
  intro l
  induction l with
  | nil => intro i ds ds' h; simp [stepsD] at h; subst h; exact Nat.le_refl _
  | cons o l ih2 =>
    intro i ds ds' h
    simp only [stepsD] at h
    split at h <;> (try (simp at h; done))
    rename_i h1
    exact Nat.le_trans (stepD_ct hov hih h1) (ih2 h)

/-! ### equality of values, by sight -/
mutual
theorem beqV_eq : ∀ (a b : Value), beqV a b = true → a = b
  | .bool a, b, h => by cases b <;> simp_all [beqV]
  | .int j a, b, h => by cases b <;> simp_all [beqV]
  | .float .., b, h => by cases b <;> simp_all [beqV]
  | .complex .., b, h => by cases b <;> simp_all [beqV]
  | .string a, b, h => by cases b <;> simp_all [beqV, eqStr_eq]
  | .pointer a, b, h => by cases b <;> simp_all [beqV]
  | .slice a n c, b, h => by
    cases b <;> simp only [beqV, Bool.and_eq_true, decide_eq_true_eq] at h <;> (try (simp at h; done))
    obtain ⟨⟨h1, h2⟩, h3⟩ := h
    rw [h1, Nat.eq_of_beq_eq_true h2, Nat.eq_of_beq_eq_true h3]
  | .map a, b, h => by cases b <;> simp_all [beqV]
  | .chan a, b, h => by cases b <;> simp_all [beqV]
  | .func f x y, b, h => by
    cases b <;> simp only [beqV, Bool.and_eq_true, decide_eq_true_eq] at h <;> (try (simp at h; done))
    obtain ⟨⟨h1, h2⟩, h3⟩ := h
    rw [h1, beqVA_eq _ _ h2, beqVA_eq _ _ h3]
  | .nilFunc, b, h => by cases b <;> simp_all [beqV]
  | .iface t v, b, h => by
    cases b <;> simp only [beqV, Bool.and_eq_true] at h <;> (try (simp at h; done))
    rw [Nat.eq_of_beq_eq_true h.1, beqV_eq _ _ h.2]
  | .nilIface, b, h => by cases b <;> simp_all [beqV]
  | .agg x, b, h => by
    cases b <;> simp only [beqV] at h <;> (try (simp at h; done))
    rw [beqVA_eq _ _ h]
  | .tuple x, b, h => by
    cases b <;> simp only [beqV] at h <;> (try (simp at h; done))
    rw [beqVA_eq _ _ h]
theorem beqVA_eq : ∀ (a b : Array Value), beqVA a b = true → a = b
  | ⟨a⟩, ⟨b⟩, h => by simp only [beqVA] at h; rw [beqVL_eq a b h]
theorem beqVL_eq : ∀ (a b : List Value), beqVL a b = true → a = b
  | [], [], _ => rfl
  | [], _ :: _, h => by simp [beqVL] at h
  | _ :: _, [], h => by simp [beqVL] at h
  | x :: a, y :: b, h => by simp only [beqVL, Bool.and_eq_true] at h; rw [beqV_eq _ _ h.1, beqVL_eq _ _ h.2]
end

theorem meetOne_spec (x : Nat) (a b : T Value) (t : Nat) : (t ≠ x → (meetOne x a b).get t = a.get t) ∧ ∀ v, (meetOne x a b).get t = some v → a.get t = some v ∧ (t = x → flat v = true ∧ b.get t = some v) := by
  have del : (t ≠ x → (a.del x).get t = a.get t) ∧ ∀ v, (a.del x).get t = some v → a.get t = some v ∧ (t = x → flat v = true ∧ b.get t = some v) := by
    refine ⟨fun h => by rw [T.get_del, if_neg h], fun v h => ?_⟩
    rw [T.get_del] at h
    split at h
    · cases h
    · rename_i hne; exact ⟨h, fun e => absurd e hne⟩
  unfold meetOne
  split
  · rename_i x1 hx1
    split
    · rename_i y hy
      split
      · rename_i hb
        simp only [Bool.and_eq_true] at hb
        have := beqV_eq _ _ hb.2
        subst this
        refine ⟨fun _ => rfl, fun v h => ⟨h, fun e => ?_⟩⟩
        subst e
        rw [hx1] at h; injection h with h; subst h
        exact ⟨hb.1, hy⟩
      · exact del
    · exact del
  · rename_i hx1
    refine ⟨fun _ => rfl, fun v h => ⟨h, fun e => ?_⟩⟩
    subst e
    rw [hx1] at h; cases h

theorem meetT_spec : ∀ (l : List Nat) (a b : T Value) (t : Nat), (t ∉ l → (meetT l a b).get t = a.get t) ∧ ∀ v, (meetT l a b).get t = some v → a.get t = some v ∧ (t ∈ l → flat v = true ∧ b.get t = some v) := by
  intro l
  induction l with
  | nil => intro a b t; exact ⟨fun _ => rfl, fun v h => ⟨h, fun ht => by cases ht⟩⟩
  | cons x l ih =>
    intro a b t
    simp only [meetT]
    obtain ⟨h1, h2⟩ := ih (meetOne x a b) b t
    have key := meetOne_spec x a b t
    refine ⟨fun ht => ?_, fun v hv => ?_⟩
    · rw [h1 (fun h => ht (List.mem_cons_of_mem _ h)), key.1 (fun e => ht (by simp [e]))]
    · obtain ⟨g1, g2⟩ := h2 v hv
      obtain ⟨k1, k2⟩ := key.2 v g1
      refine ⟨k1, fun ht => ?_⟩
      rcases List.mem_cons.1 ht with e | ht
      · exact k2 e
      · exact g2 ht

def cOf (one : Value → Value → Option Rd) (e : MapEntry) : Int :=
  match one e.key e.val with
  | some r => r.c
  | none => 0

/-- what is said of a way out holds of each of the ways out -/
def LvOk (l : List Nat) (one : Value → Value → Option Rd) (es : List MapEntry) (ex : Ex) (tl : T Value) : Prop :=
  ∀ e ∈ es, ∀ r, one e.key e.val = some r → ∀ ex2 t2, r.lv = some (ex2, t2) → ex2 = ex ∧ ∀ t ∈ l, ∀ v, tl.get t = some v → flat v = true ∧ t2.get t = some v
def SrcOk (l : List Nat) (one : Value → Value → Option Rd) (es : List MapEntry) (ex : Ex) (tl : T Value) : Prop :=
  ∃ e ∈ es, ∃ r, one e.key e.val = some r ∧ ∃ t0, r.lv = some (ex, t0) ∧ ∀ t, t ∉ l → tl.get t = t0.get t

theorem joinLv_spec {l : List Nat} {a b c : Option (Ex × T Value)} (h : joinLv l a b = some c) :
    (c = none → a = none ∧ b = none) ∧ ∀ ex tl, c = some (ex, tl) →
      (∀ ex0 t0, a = some (ex0, t0) → ex0 = ex ∧ ∀ t, (t ∉ l → tl.get t = t0.get t) ∧ ∀ v, tl.get t = some v → t0.get t = some v) ∧
      (∀ ex2 t2, b = some (ex2, t2) → ex2 = ex ∧ (∀ t ∈ l, ∀ v, tl.get t = some v → flat v = true ∧ t2.get t = some v) ∧ (a = none → ∀ t, t ∉ l → tl.get t = t2.get t)) ∧ (a = none → b ≠ none) := by
  cases b with
  | none =>
    have : c = a := by cases a <;> simp [joinLv] at h <;> exact h.symm
    subst this
    refine ⟨fun h => ⟨h, rfl⟩, fun ex tl hc => ⟨fun ex0 t0 ha => ?_, fun ex2 t2 hb => (by cases hb), fun h => (by rw [h] at hc; cases hc)⟩⟩
    rw [hc] at ha; injection ha with ha; injection ha with h1 h2; subst h1; subst h2
    exact ⟨rfl, fun t => ⟨fun _ => rfl, fun v h => h⟩⟩
  | some b =>
    obtain ⟨ex2, t2⟩ := b
    cases a with
    | none =>
      simp only [joinLv, Option.some.injEq] at h
      subst h
      refine ⟨fun h => (by cases h), fun ex tl hc => ?_⟩
      injection hc with hc; injection hc with h1 h2; subst h1; subst h2
      refine ⟨fun ex0 t0 ha => (by cases ha), fun ex3 t3 hb => ?_, fun _ h => (by cases h)⟩
      injection hb with hb; injection hb with h1 h2; subst h1; subst h2
      exact ⟨rfl, fun t ht v hv => ((meetT_spec l _ _ t).2 v hv).2 ht, fun _ t ht => (meetT_spec l _ _ t).1 ht⟩
    | some a =>
      obtain ⟨ex1, t1⟩ := a
      simp only [joinLv] at h
      split at h <;> (try (simp at h; done))
      rename_i he
      simp only [decide_eq_true_eq] at he
      subst he
      simp only [Option.some.injEq] at h
      subst h
      refine ⟨fun h => (by cases h), fun ex tl hc => ?_⟩
      injection hc with hc; injection hc with h1 h2; subst h1; subst h2
      refine ⟨fun ex0 t0 ha => ?_, fun ex3 t3 hb => ?_, fun h => (by cases h)⟩
      · injection ha with ha; injection ha with h1 h2; subst h1; subst h2
        exact ⟨rfl, fun t => ⟨fun ht => (meetT_spec l _ _ t).1 ht, fun v hv => ((meetT_spec l _ _ t).2 v hv).1⟩⟩
      · injection hb with hb; injection hb with h1 h2; subst h1; subst h2
        exact ⟨rfl, fun t ht v hv => ((meetT_spec l _ _ t).2 v hv).2 ht, fun h => by cases h⟩

theorem sumRounds_spec {one : Value → Value → Option Rd} {f : Int → Int → Int} {l : List Nat} : ∀ (es : List MapEntry) (ct : Nat) (z : Int) (lv : Option (Ex × T Value)) (ct' : Nat) (z' : Int) (lv' : Option (Ex × T Value)),
    sumRounds one f l es ct z lv = some (ct', z', lv') → ct ≤ ct' ∧ (∀ e ∈ es, ∃ r, one e.key e.val = some r ∧ r.ct ≤ ct') ∧ z' = (es.map (cOf one)).foldl f z ∧
      (lv' = none → lv = none ∧ ∀ e ∈ es, ∀ r, one e.key e.val = some r → r.lv = none) ∧
      ∀ ex tl, lv' = some (ex, tl) → LvOk l one es ex tl ∧ (∀ ex0 t0, lv = some (ex0, t0) → ex0 = ex ∧ ∀ t, (t ∉ l → tl.get t = t0.get t) ∧ ∀ v, tl.get t = some v → t0.get t = some v) ∧ (lv = none → SrcOk l one es ex tl) := by
  intro es
  induction es with
  | nil =>
    intro ct z lv ct' z' lv' h
    simp only [sumRounds, Option.some.injEq, Prod.mk.injEq] at h
    obtain ⟨rfl, rfl, rfl⟩ := h
    refine ⟨Nat.le_refl _, fun e he => (by cases he), rfl, fun h => ⟨h, fun e he => (by cases he)⟩, fun ex tl hl => ⟨fun e he => (by cases he), fun ex0 t0 h0 => ?_, fun h0 => (by rw [h0] at hl; cases hl)⟩⟩
    rw [hl] at h0; injection h0 with h0; injection h0 with h1 h2; subst h1; subst h2
    exact ⟨rfl, fun t => ⟨fun _ => rfl, fun v h => h⟩⟩
  | cons x es ih =>
    intro ct z lv ct' z' lv' h
    simp only [sumRounds] at h
    split at h <;> (try (simp at h; done))
    rename_i r hr
    split at h <;> (try (simp at h; done))
    rename_i lv1 hj
    obtain ⟨h1, h2, h3, h4, h5⟩ := ih _ _ _ _ _ _ h
    obtain ⟨j1, j2⟩ := joinLv_spec hj
    have hmax1 : ct ≤ Nat.max ct r.ct := Nat.le_max_left _ _
    have hmax2 : r.ct ≤ Nat.max ct r.ct := Nat.le_max_right _ _
    have hc : cOf one x = r.c := by simp [cOf, hr]
    refine ⟨by omega, fun e he => ?_, by rw [h3, List.map_cons, List.foldl_cons, hc], fun hl => ?_, fun ex tl hl => ?_⟩
    · rcases List.mem_cons.1 he with rfl | he
      · exact ⟨r, hr, by omega⟩
      · exact h2 e he
    · obtain ⟨k1, k2⟩ := h4 hl
      obtain ⟨k3, k4⟩ := j1 k1
      refine ⟨k3, fun e he r2 hr2 => ?_⟩
      rcases List.mem_cons.1 he with rfl | he
      · rw [hr] at hr2; injection hr2 with hr2; subst hr2; exact k4
      · exact k2 e he r2 hr2
    · obtain ⟨k1, k2, k3⟩ := h5 ex tl hl
      refine ⟨fun e he r2 hr2 ex2 t2 h2' => ?_, fun ex0 t0 h0 => ?_, fun h0 => ?_⟩
      · rcases List.mem_cons.1 he with rfl | he
        · rw [hr] at hr2; injection hr2 with hr2; subst hr2
          cases hlv1 : lv1 with
          | none => rw [(j1 hlv1).2] at h2'; cases h2'
          | some q =>
            obtain ⟨ex1, t1⟩ := q
            obtain ⟨a1, a2⟩ := k2 ex1 t1 hlv1
            obtain ⟨b1, b2, _⟩ := (j2 ex1 t1 hlv1).2.1 ex2 t2 h2'
            subst a1; subst b1
            exact ⟨rfl, fun t ht v hv => b2 t ht v ((a2 t).2 v hv)⟩
        · exact k1 e he r2 hr2 ex2 t2 h2'
      · cases hlv1 : lv1 with
        | none => rw [(j1 hlv1).1] at h0; cases h0
        | some q =>
          obtain ⟨ex1, t1⟩ := q
          obtain ⟨a1, a2⟩ := k2 ex1 t1 hlv1
          obtain ⟨b1, b2⟩ := (j2 ex1 t1 hlv1).1 ex0 t0 h0
          subst a1; subst b1
          exact ⟨rfl, fun t => ⟨fun ht => by rw [(a2 t).1 ht, (b2 t).1 ht], fun v hv => (b2 t).2 v ((a2 t).2 v hv)⟩⟩
      · cases hlv1 : lv1 with
        | none =>
          obtain ⟨e, he, r2, hr2, t0, ht0, hs⟩ := k3 hlv1
          exact ⟨e, List.mem_cons_of_mem _ he, r2, hr2, t0, ht0, hs⟩
        | some q =>
          obtain ⟨ex1, t1⟩ := q
          obtain ⟨a1, a2⟩ := k2 ex1 t1 hlv1
          cases hlr : r.lv with
          | none => exact absurd hlr ((j2 ex1 t1 hlv1).2.2 h0)
          | some q =>
            obtain ⟨ex2, t2⟩ := q
            obtain ⟨b1, _, b3⟩ := (j2 ex1 t1 hlv1).2.1 ex2 t2 hlr
            subst a1; subst b1
            exact ⟨x, by simp, r, hr, t2, hlr, fun t ht => by rw [(a2 t).1 ht, b3 h0 t ht]⟩

theorem loopG_some {cx : Cx} {ov : Ov} {ih : CodeRun} {c : Code} {L : MapLoop} {nt : Nat} {F : FoldI} {tm tm' : T Value} {st st' : St} {ex : Ex} (h : loopG cx ov ih c L nt F tm st = some (ex, tm', st')) :
    ∃ a m lk es q, tm.get L.it = some (.pointer (some a)) ∧ a.spot = none ∧ a.off = 0 ∧ st.hp.get a.block = some (.iterM m lk) ∧ entriesOf st m = some es ∧
      sumRounds (roundG cx ov ih nt L F tm ⟨(st.hp.del a.block).mapO frz, st.ct⟩) (foldZ F) (dstsOf c) es st.ct (startZ F) none = some q ∧
      behindLoop nt L F tm ⟨st.hp.del a.block, st.ct⟩ (fullOf st m lk) q = some (ex, tm', st') := by
  unfold loopG at h
  split at h <;> (try (simp at h; done))
  rename_i a ha
  split at h <;> (try (simp at h; done))
  rename_i hs
  split at h <;> (try (simp at h; done))
  rename_i m lk hm
  split at h <;> (try (simp at h; done))
  rename_i es hes
  split at h <;> (try (simp at h; done))
  rename_i q hq
  simp only [Bool.and_eq_true, Option.isNone_iff_eq_none] at hs
  exact ⟨a, m, lk, es, q, ha, hs.1, Nat.eq_of_beq_eq_true hs.2, hm, hes, hq, h⟩

theorem behindLoop_some {nt : Nat} {L : MapLoop} {F : FoldI} {tm0 tm' : T Value} {st st' : St} {full : Bool} {ct : Nat} {z : Int} {lv : Option (Ex × T Value)} {ex : Ex} (h : behindLoop nt L F tm0 st full (ct, z, lv) = some (ex, tm', st')) :
    st' = ⟨st.hp, ct⟩ ∧ ((lv = none ∧ ex = .exit L.xid ∧ ∃ t1 t2, putDst nt tm0 (some L.d1) (.tuple #[.bool false]) = some t1 ∧ putDst nt t1 (some L.d2) (.bool false) = some t2 ∧
        ((F = none ∧ tm' = t2) ∨ ∃ F' k z0, F = some (F', k, z0) ∧ full = true ∧ putDst nt t2 (some F'.r) (.int k z) = some tm')) ∨ (lv = some (ex, tm') ∧ full = true)) := by
  unfold behindLoop at h
  simp only at h
  split at h
  · split at h <;> (try (simp at h; done))
    rename_i t1 h1
    split at h <;> (try (simp at h; done))
    rename_i t2 h2
    split at h
    · simp at h; obtain ⟨rfl, rfl, rfl⟩ := h
      exact ⟨rfl, .inl ⟨rfl, rfl, t1, _, h1, h2, .inl ⟨rfl, rfl⟩⟩⟩
    · split at h <;> (try (simp at h; done))
      rename_i h3
      simp at h; obtain ⟨rfl, rfl, rfl⟩ := h
      exact ⟨rfl, .inl ⟨rfl, rfl, t1, t2, h1, h2, .inr ⟨_, _, _, rfl, rfl, h3⟩⟩⟩
  · split at h <;> (try (simp at h; done))
    simp at h; obtain ⟨rfl, rfl, rfl⟩ := h
    exact ⟨rfl, .inr ⟨rfl, rfl⟩⟩

theorem loopM_some {cx : Cx} {ov : Ov} {ih : CodeRun} {c : Code} {L : MapLoop} {nt : Nat} {tm tm' : T Value} {st st' : St} {ex : Ex} (h : loopM cx ov ih c L nt tm st = some (ex, tm', st')) :
    ∃ F, (F = none ∨ F = foldI L tm) ∧ loopG cx ov ih c L nt F (forget (dstsOf c) tm) st = some (ex, tm', st') := by
  unfold loopM at h
  split at h
  · rename_i q hq
    simp at h; subst h
    exact ⟨none, .inl rfl, hq⟩
  · split at h
    · rename_i q hq
      exact ⟨some q, .inr hq.symm, h⟩
    · simp at h

theorem loopM_st {cx : Cx} {ov : Ov} {ih : CodeRun} {c : Code} {L : MapLoop} {nt : Nat} {tm tm' : T Value} {st st' : St} {ex : Ex} (h : loopM cx ov ih c L nt tm st = some (ex, tm', st')) :
    ∃ b ct, st' = ⟨st.hp.del b, ct⟩ ∧ st.ct ≤ ct := by
  obtain ⟨F, _, h⟩ := loopM_some h
  obtain ⟨a, m, lk, es, ⟨ct, z, lv⟩, _, _, _, _, _, h1, h2⟩ := loopG_some h
  exact ⟨a.block, ct, (behindLoop_some h2).1, (sumRounds_spec _ _ _ _ _ _ _ h1).1⟩

theorem loopM_ct {cx : Cx} {ov : Ov} {ih : CodeRun} {c : Code} {L : MapLoop} {nt : Nat} {tm tm' : T Value} {st st' : St} {ex : Ex} (h : loopM cx ov ih c L nt tm st = some (ex, tm', st')) : st.ct ≤ st'.ct := by
  obtain ⟨b, ct, rfl, h1⟩ := loopM_st h
  exact h1

theorem stepA_ct {cx : Cx} {ov : Ov} {ih : CodeRun} (hov : OvMono ov) (hih : RunMono ih) : RunMono (stepA cx ov ih) := by
  intro c nt tm st ex tm' st' h
  unfold stepA at h
  cases c <;> simp only at h <;> (try (simp at h; done))
  case skip => simp at h; obtain ⟨_, _, rfl⟩ := h; exact Nat.le_refl _
  case label => simp at h; obtain ⟨_, _, rfl⟩ := h; exact Nat.le_refl _
  case ret => simp at h; obtain ⟨_, _, rfl⟩ := h; exact Nat.le_refl _
  case exit => simp at h; obtain ⟨_, _, rfl⟩ := h; exact Nat.le_refl _
  case goto => simp at h; obtain ⟨_, _, rfl⟩ := h; exact Nat.le_refl _
  case scope a => exact scopeA_ct hih h
  case rangeFunc f ps as bo => exact rangeA_ct hov hih h
  case seq a b =>
    split at h <;> (try (simp at h; done))
    rename_i h1
    have := hih _ _ _ _ _ _ _ h1
    split at h
    · exact Nat.le_trans this (hih _ _ _ _ _ _ _ h)
    · simp at h; obtain ⟨_, _, rfl⟩ := h; exact this
  case cond x a b =>
    split at h <;> (try (simp at h; done)) <;> exact hih _ _ _ _ _ _ _ h
  case block id a =>
    split at h <;> (try (simp at h; done))
    rename_i h1
    have := hih _ _ _ _ _ _ _ h1
    split at h
    · split at h <;> (simp at h; obtain ⟨_, _, rfl⟩ := h; exact this)
    · simp at h; obtain ⟨_, _, rfl⟩ := h; exact this
  case loop a =>
    split at h
    · exact hov.lp _ _ _ _ _ _ _ _ (by assumption) h
    split at h
    · exact loopM_ct h
    · split at h <;> (try (simp at h; done))
      rename_i h1
      have := hih _ _ _ _ _ _ _ h1
      split at h
      · exact Nat.le_trans this (hih _ _ _ _ _ _ _ h)
      · simp at h; obtain ⟨_, _, rfl⟩ := h; exact this
  case region id ops draw =>
    split at h
    · split at h <;> (try (simp at h; done))
      rename_i h1
      simp at h; obtain ⟨_, _, rfl⟩ := h
      exact opsA_ct hov hih h1
    · split at h <;> (try (simp at h; done))
      rename_i h1
      simp at h; obtain ⟨_, _, rfl⟩ := h
      unfold drawA at h1
      split at h1 <;> (try (simp at h1; done))
      split at h1 <;> (try (simp at h1; done))
      rename_i h2
      simp at h1; obtain ⟨_, rfl⟩ := h1
      exact stepsD_ct hov hih h2

theorem run_ct {cx : Cx} {ov : Ov} (hov : OvMono ov) : ∀ n, RunMono (run cx ov n) := by
  intro n
  induction n with
  | zero => intro c nt tm st ex tm' st' h; simp [run] at h
  | succ n ih => exact stepA_ct hov ih

end Go.Ai

/-! Soundness of single operations and of calls, with what holds of temporaries. -/
namespace Go.Ai
open Go

def TmRep (m : Nat → Option Loc) (tm : T Value) (tmps : Array Value) : Prop := ∀ t v, tm.get t = some v → ∃ cv, tmps[t]? = some cv ∧ VRep m v cv
def VReps (m : Nat → Option Loc) (vs cvs : List Value) : Prop := ∀ μ, Ext m μ → vs.map (conc μ) = cvs

theorem TmRep.mono {m m' : Nat → Option Loc} {tm : T Value} {tmps : Array Value} (h : TmRep m tm tmps) (hm : ∀ i l, m i = some l → m' i = some l) : TmRep m' tm tmps :=
  fun t v ht => let ⟨cv, h1, h2⟩ := h t v ht; ⟨cv, h1, h2.mono hm⟩

theorem TmRep.set {m : Nat → Option Loc} {tm : T Value} {tmps : Array Value} (h : TmRep m tm tmps) {d : Nat} {v cv : Value} (hd : d < tmps.size) (hv : VRep m v cv) : TmRep m (tm.set d v) (tmps.setIfInBounds d cv) := by
  intro t u ht
  rw [T.get_set] at ht
  by_cases e : t = d
  · subst e
    simp at ht; subst ht
    exact ⟨cv, by simp [hd], hv⟩
  · simp [e] at ht
    obtain ⟨cu, h1, h2⟩ := h t u ht
    exact ⟨cu, by simp [Ne.symm e, h1], h2⟩

section
variable {P : Program} {m : Nat → Option Loc} {G : Nat → AObj → Prop} {w : World}

theorem eval_rep (hg : ∀ g, g < P.globals.size → m g = some ⟨g, 0, 0, .nilFunc⟩) {tm : T Value} {a : Act} (ht : TmRep m tm a.tmps) : ∀ x v, ev (Cx.of P) tm x = some v → VRep m v (a.eval x) := by
  intro x v h
  cases x with
  | tmp t =>
    simp only [ev] at h
    obtain ⟨cv, h1, h2⟩ := ht t v h
    simp only [Act.eval]
    rw [show a.tmps.getD t undef = cv by simp [h1]]
    exact h2
  | const u =>
    simp only [ev] at h
    split at h <;> (try (simp at h; done))
    rename_i hf
    simp at h; subst h
    exact fun μ _ => conc_flat μ _ hf
  | global g =>
    simp only [ev] at h
    split at h <;> (try (simp at h; done))
    rename_i hb
    have hlt : g < P.globals.size := Nat.le_of_ble_eq_true hb
    simp at h; subst h
    intro μ hμ
    have := hμ g _ (hg g hlt)
    simp [concAddr, this, Act.eval]
  | func f =>
    simp [ev] at h; subst h
    intro μ _
    simp [concA_eq, Act.eval]

theorem evs_rep (hg : ∀ g, g < P.globals.size → m g = some ⟨g, 0, 0, .nilFunc⟩) {tm : T Value} {a : Act} (ht : TmRep m tm a.tmps) {l : List Operand} {vs : List Value} (h : evs (Cx.of P) tm l = some vs) :
    VReps m vs (l.map a.eval) := by
  intro μ hμ
  exact (evs_map μ (fun x v hx => (eval_rep hg ht x v hx μ hμ).symm) h).symm

end

/-- a call of a function, with or without a body -/
def FnOk (P : Program) (f : FuncId) (cargs : Array Value) (w : World) (R : Value → World → Prop) : Prop :=
  (∃ v w', (callFunc f cargs).run P w = .ok (.value v) w' ∧ R v w') ∨
  ((callFunc f cargs).run P w = .ok (.enter f cargs) w ∧ Calls P f cargs w fun e w' => ∃ v, e = .returned v ∧ R v w')

def CallPost (cx : Cx) (m : Nat → Option Loc) (st : St) (w : World) (v : Value) (st' : St) (cv : Value) (w' : World) : Prop :=
  ∃ m', Step cx m st.G w st.ct m' st'.G w' st'.ct ∧ VRep m' v cv

def Fresh (m : Nat → Option Loc) (a b : Nat) : Prop := ∀ i, a ≤ i → i < b → m i = none


def exitOf : Ex → Exit
  | .normal => .normal
  | .exit id => .exit id
  | .ret => .ret
  | .goto l => .goto l

/-- every function is let in; a frame of a round, or of none -/
def FR (ro : Option Nat) : Fence := { Fence.wide with round := ro }
theorem FR_none : FR none = Fence.wide := rfl

/-! ### the marks that ranges over functions leave among the deferred calls -/
def mark (r : Nat) : Deferred := { target := .collected r, args := #[] }
def Marks (B : Nat) (w : World) (ds : List Deferred) : Prop := ∃ rs : List Nat, ds = rs.map mark ∧ rs.Nodup ∧ ∀ r ∈ rs, B ≤ r ∧ w.heap[r]? = some (.deferred (some []))
theorem Marks.nil (B : Nat) (w : World) : Marks B w [] := ⟨[], rfl, List.nodup_nil, fun r h => by simp at h⟩

theorem ObjRep.not_deferred {cx : Cx} {μ : Nat → Loc} {w : World} {id : Nat} {o : AObj} (h : ObjRep cx μ w id o) (x : Option (List Deferred)) : w.heap[(μ id).blk]? ≠ some (.deferred x) := by
  intro e
  cases o with
  | row ee cs o wr => obtain ⟨cells, e', fz, hb, _⟩ := h; rw [e] at hb; cases hb
  | map es lk wr => obtain ⟨⟨es', clock, hb, _⟩, _⟩ := h; rw [e] at hb; cases hb
  | iterS s pos => have hb := h.1; rw [e] at hb; cases hb
  | iterM mm lk =>
    cases mm with
    | none => have hb := h.2; rw [e] at hb; cases hb
    | some r => obtain ⟨_, c, hb, _⟩ := h; rw [e] at hb; cases hb
  | loopO ls pend tm nt ps as bo => obtain ⟨_, r, hb, _⟩ := h; rw [e] at hb; cases hb

theorem Marks.step {cx : Cx} {m m' : Nat → Option Loc} {G G' : Nat → AObj → Prop} {w w' : World} {ct ct' B : Nat} {ds : List Deferred} (hR : Rep cx m G w) (hs : Step cx m G w ct m' G' w' ct') (h : Marks B w ds) : Marks B w' ds := by
  obtain ⟨rs, h1, h2, h3⟩ := h
  refine ⟨rs, h1, h2, fun r hr => ⟨(h3 r hr).1, ?_⟩⟩
  obtain ⟨_, h4⟩ := h3 r hr
  rw [hs.fr.block r (Array.getElem?_eq_some_iff.1 h4).1 ?_]
  · exact h4
  · intro id o l hg _ hl he
    refine (hR.obj _ (some0_ext m) id o hg).not_deferred (some []) ?_
    rw [some0_ext m _ _ hl, he]; exact h4

/-- the blocks of marks are shut; all else is as it was -/
structure ShutB (rs : List Nat) (w w' : World) : Prop where
  size : w'.heap.size = w.heap.size
  os : w'.os = w.os
  tape : w'.tape = w.tape
  output : w'.output = w.output
  block : ∀ b, b ∉ rs → w'.heap[b]? = w.heap[b]?

theorem Step.shut {cx : Cx} {m m' : Nat → Option Loc} {G G' : Nat → AObj → Prop} {w w' w2 : World} {ct ct' : Nat} {rs : List Nat} (hs : Step cx m G w ct m' G' w' ct') (hsh : ShutB rs w' w2)
    (hrs : ∀ r ∈ rs, w.heap.size ≤ r ∧ w'.heap[r]? = some (.deferred (some []))) : Step cx m G w ct m' G' w2 ct' where
  mono := hs.mono
  dom := hs.dom
  rep := {
    dom := fun id o hg => by obtain ⟨l, h1, h2⟩ := hs.rep.dom id o hg; exact ⟨l, h1, by rw [hsh.size]; exact h2⟩
    obj := fun μ hμ id o hg => by
      have ho := hs.rep.obj μ hμ id o hg
      refine ho.congr (hsh.block _ fun hm => ?_)
      exact ho.not_deferred _ (hrs _ hm).2
    inj := hs.rep.inj
    glob := hs.rep.glob }
  fr := {
    size := by rw [hsh.size]; exact hs.fr.size
    os := hsh.os.trans hs.fr.os
    tape := hsh.tape.trans hs.fr.tape
    output := hsh.output.trans hs.fr.output
    block := fun b hb hno => by
      rw [hsh.block b fun hm => by have := (hrs b hm).1; omega]
      exact hs.fr.block b hb hno }
  prov := hs.prov

theorem leaves_marks {P : Program} {F : Fence} {n : Nat} {fn : Func} {tmps : Array Value} {R : Ending → World → Prop} : ∀ (rs : List Nat) (w : World), rs.Nodup → (∀ r ∈ rs, w.heap[r]? = some (.deferred (some []))) →
    (∀ w2, ShutB rs w w2 → ∃ v, (results fn tmps).run P w2 = .ok v w2 ∧ R (.returned v) w2) → LeavesInM F n P fn tmps R (rs.map mark) .returning w := by
  intro rs
  induction rs with
  | nil => intro w _ _ h; exact h w ⟨rfl, rfl, rfl, rfl, fun _ _ => rfl⟩
  | cons r rs ih =>
    intro w hn hb h
    have hbr := hb r (by simp)
    rw [List.nodup_cons] at hn
    refine ⟨by simp, .inl ⟨r, { w with heap := w.heap.setIfInBounds r (.deferred none) }, rfl, ?_, ?_⟩⟩
    · have hgo : (getObj r).run P w = .ok (.deferred (some [])) w := by simp [getObj, Sem.run, hbr]
      simp [Instr.takeDeferred, hgo, setObj_run hbr]
    · refine ih _ hn.2 (fun r' hr' => ?_) (fun w2 hw2 => h w2 ?_)
      · have hne : r' ≠ r := fun e => hn.1 (e ▸ hr')
        show (w.heap.setIfInBounds r _)[r']? = _
        rw [Array.getElem?_setIfInBounds_ne (Ne.symm hne)]
        exact hb r' (by simp [hr'])
      · refine ⟨hw2.size.trans (by simp), hw2.os, hw2.tape, hw2.output, fun b hbn => ?_⟩
        simp only [List.mem_cons, not_or] at hbn
        rw [hw2.block b hbn.2]
        show (w.heap.setIfInBounds r _)[b]? = _
        rw [Array.getElem?_setIfInBounds_ne (Ne.symm hbn.1)]

def Post (cx : Cx) (m : Nat → Option Loc) (st : St) (w : World) (size B : Nat) (ex : Ex) (tm' : T Value) (st' : St) (e : Exit) (a' : Act) (w' : World) : Prop :=
  e = exitOf ex ∧ ∃ m', Step cx m st.G w st.ct m' st'.G w' st'.ct ∧ TmRep m' tm' a'.tmps ∧ Marks B w' a'.defers ∧ a'.tmps.size = size

structure OvOk (P : Program) (ov : Ov) : Prop where
  fn : ∀ f g args st v st', ov f = some g → g args st = some (v, st') →
    ∀ m w cargs, Rep (Cx.of P) m st.G w → VReps m args cargs → Fresh m st.ct st'.ct → FnOk P f cargs.toArray w (CallPost (Cx.of P) m st w v st')
  lp : ∀ c g nt tm st ex tm' st', ov.lp c = some g → g nt tm st = some (ex, tm', st') →
    ∃ k, ∀ ro, (ro = none ∨ noRF c = true) → ∀ m w a B, Rep (Cx.of P) m st.G w → TmRep m tm a.tmps → Marks B w a.defers → B ≤ w.heap.size → nt ≤ a.tmps.size → Fresh m st.ct st'.ct →
      Code.roundsIn (FR ro) 0 P c (Post (Cx.of P) m st w a.tmps.size B ex tm' st') k a w

def RunOk (P : Program) (ih : CodeRun) : Prop := ∀ c nt tm st ex tm' st', ih c nt tm st = some (ex, tm', st') →
  ∀ ro, (ro = none ∨ noRF c = true) → ∀ m w a B, Rep (Cx.of P) m st.G w → TmRep m tm a.tmps → Marks B w a.defers → B ≤ w.heap.size → nt ≤ a.tmps.size → Fresh m st.ct st'.ct →
    c.wpIn (FR ro) 0 P (Post (Cx.of P) m st w a.tmps.size B ex tm' st') a w

section
variable {P : Program} {ov : Ov} {ih : CodeRun}

theorem setParams_get : ∀ (l : List Value) (n : Nat) (t : T Value) (i : Nat), (setParams l n t).get i = if n ≤ i ∧ i < n + l.length then l[i - n]? else t.get i := by
  intro l
  induction l with
  | nil => intro n t i; simp only [setParams, List.length_nil]; rw [if_neg (by omega)]
  | cons x l ih =>
    intro n t i
    simp only [setParams, ih, T.get_set, List.length_cons]
    by_cases h : n = i
    · subst h; rw [if_neg (by omega), if_pos rfl, if_pos (by omega)]; simp
    · by_cases h1 : n ≤ i
      · by_cases h2 : i < n + 1 + l.length
        · rw [if_pos ⟨by omega, h2⟩, if_pos ⟨h1, by omega⟩]
          rw [show i - n = (i - (n + 1)) + 1 by omega]; simp
        · rw [if_neg (by omega), if_neg (by omega), if_neg (by omega)]
      · rw [if_neg (by omega), if_neg (by omega), if_neg (by omega)]

theorem params_rep {m : Nat → Option Loc} {args cargs : List Value} (h : VReps m args cargs) (k : Nat) :
    TmRep m (setParams args 0 .nil) (cargs.toArray ++ Array.replicate k undef) := by
  have h0 := h _ (some0_ext m)
  have hlen : args.length = cargs.length := by rw [← h0]; simp
  intro t v ht
  rw [setParams_get] at ht
  split at ht
  · rename_i hc
    simp only [Nat.sub_zero, Nat.zero_add] at ht hc
    have hlt : t < cargs.length := by omega
    refine ⟨cargs[t], ?_, ?_⟩
    · rw [Array.getElem?_append_left (by simpa using hlt)]; simp [hlt]
    · intro μ hμ
      have h1 := h μ hμ
      have h2 : (args.map (conc μ))[t]? = some (conc μ v) := by simp [ht]
      rw [h1] at h2
      simp [hlt] at h2
      exact h2.symm
  · simp [T.get_nil] at ht

/-- the results of a function -/
theorem results_run {m : Nat → Option Loc} {st : St} {w : World} (hR : Rep (Cx.of P) m st.G w) {tm : T Value} {tmps : Array Value} (ht : TmRep m tm tmps) :
    ∀ {l : List ResultVar} {vs : List Value}, resultsOf (Cx.of P) tm st l = some vs → ∀ μ, Ext m μ →
      (l.mapM fun (r : ResultVar) => match r with
        | .tmp t => (pure (tmps.getD t undef) : Sem Value)
        | .cell a t => do loadVar t (← asAddr (tmps.getD a undef))).run P w = .ok (vs.map (conc μ)) w := by
  intro l
  induction l with
  | nil => intro vs h μ _; simp [resultsOf] at h; subst h; rfl
  | cons r l ihl =>
    intro vs h μ hμ
    simp only [resultsOf] at h
    cases hr : resultOf (Cx.of P) tm st r with
    | none => rw [hr] at h; simp at h
    | some v =>
      cases hl : resultsOf (Cx.of P) tm st l with
      | none => rw [hr, hl] at h; simp at h
      | some q =>
        rw [hr, hl] at h
        simp at h; subst h
        rw [List.mapM_cons]
        have hd : (match r with
          | .tmp t => (pure (tmps.getD t undef) : Sem Value)
          | .cell a t => do loadVar t (← asAddr (tmps.getD a undef))).run P w = .ok (conc μ v) w := by
          cases r with
          | tmp t =>
            simp only [resultOf] at hr
            obtain ⟨cv, h1, h2⟩ := ht t v hr
            simp only [Sem.run_pure]
            rw [show tmps.getD t undef = cv by simp [h1], h2 μ hμ]
          | cell a t =>
            simp only [resultOf] at hr
            cases ha : tm.get a with
            | none => rw [ha] at hr; simp at hr
            | some av =>
              rw [ha] at hr
              cases av <;> (try (simp at hr; done))
              rename_i oa
              cases oa <;> simp only at hr <;> (try (simp at hr; done))
              rename_i ad
              obtain ⟨cv, h1, h2⟩ := ht a _ ha
              have h3 := h2 μ hμ
              simp only [conc_ptr] at h3
              simp only [Sem.run_bind]
              rw [show tmps.getD a undef = cv by simp [h1], ← h3]
              simp only [asAddr, Sem.run_pure, Result.andThen_ok]
              exact loadVar_run hR hμ hr
        simp only [Sem.run_bind, hd, Result.andThen_ok, ihl hl μ hμ, Sem.run_pure, List.map_cons]

theorem callA_sound (hov : OvOk P ov) (_hovm : OvMono ov) (hih : RunOk P ih) (_hihm : RunMono ih) {f : Nat} {args : List Value} {st st' : St} {v : Value} (h : callA (Cx.of P) ov ih f args st = some (v, st'))
    {m : Nat → Option Loc} {w : World} {cargs : List Value} (hR : Rep (Cx.of P) m st.G w) (ha : VReps m args cargs) (hf : Fresh m st.ct st'.ct) :
    FnOk P f cargs.toArray w (CallPost (Cx.of P) m st w v st') := by
  unfold callA at h
  cases ho : ov f with
  | some g => rw [ho] at h; exact hov.fn f g args st v st' ho h m w cargs hR ha hf
  | none =>
    rw [ho] at h
    simp only at h
    cases hfn : (Cx.of P).fn.get f with
    | none => rw [hfn] at h; simp at h
    | some fn =>
      rw [hfn] at h
      simp only at h
      cases hb : fn.body with
      | none => rw [hb] at h; simp at h
      | some c =>
        rw [hb] at h
        simp only at h
        have hfn' : P.funcs[f]? = some fn := by rw [← Cx.fn_get]; exact hfn
        cases hn : Nat.ble args.length fn.ntmps with
        | false => rw [hn] at h; simp at h
        | true =>
        rw [hn] at h
        have hn := Nat.le_of_ble_eq_true hn
        simp only at h
        cases hr : ih c fn.ntmps (setParams args 0 .nil) st with
        | none => rw [hr] at h; simp at h
        | some q =>
          obtain ⟨ex, tm, st1⟩ := q
          rw [hr] at h
          simp only at h
          have hlen : args.length = cargs.length := by rw [← ha _ (some0_ext m)]; simp
          cases hname : decide (fn.name = "runtime.NumGoroutine") with
          | true => rw [hname] at h; simp at h
          | false =>
          rw [hname] at h
          simp only at h
          simp only [decide_eq_false_iff_not] at hname
          refine .inr ⟨?_, ?_⟩
          · simp only [callFunc, Sem.run_bind, run_program, Result.andThen_ok, hfn']
            simp [hname, hb]
          · refine callsIn_wide.1 (callsIn_of_wp_marks (F := FR none) (n := 0) hfn' hb trivial ?_)
            have hex : ex = .normal ∨ ex = .ret := by
              cases ex with
              | normal => exact .inl rfl
              | ret => exact .inr rfl
              | exit id => simp at h
              | goto l => simp at h
            have hres : ∃ vs, resultsOf (Cx.of P) tm st1 fn.results.toList = some vs ∧ st' = st1 ∧ ((∃ x, vs = [x] ∧ v = x) ∨ ((∀ x, vs ≠ [x]) ∧ v = .tuple ⟨vs⟩)) := by
              have h' : (match resultsOf (Cx.of P) tm st1 fn.results.toList with
                | some [v] => some (v, st1)
                | some vs => some (Value.tuple ⟨vs⟩, st1)
                | none => none) = some (v, st') := by
                rcases hex with rfl | rfl <;> exact h
              split at h'
              · rename_i x hx; simp at h'; exact ⟨_, hx, h'.2.symm, .inl ⟨x, rfl, h'.1.symm⟩⟩
              · rename_i vs hne hx
                simp at h'
                exact ⟨_, hx, h'.2.symm, .inr ⟨fun x e => hne x e, h'.1.symm⟩⟩
              · simp at h'
            obtain ⟨vs, hvs, rfl, hv⟩ := hres
            have hwp := hih c fn.ntmps _ st ex tm st' hr none (.inl rfl) m w { tmps := cargs.toArray ++ Array.replicate (fn.ntmps - cargs.toArray.size) undef, defers := [] } w.heap.size hR (params_rep ha _) (Marks.nil _ _) (Nat.le_refl _) (by simp; omega) hf
            refine wpIn_mono hwp ?_
            rintro e a' w1 ⟨rfl, m', hs1, ht, hd, _⟩
            obtain ⟨rs, hrs1, hrs2, hrs3⟩ := hd
            have fin : LeavesInM (FR none) 0 P fn a'.tmps (fun e w' => ∃ x, e = .returned x ∧ CallPost (Cx.of P) m st w v st' x w') a'.defers .returning w1 := by
             rw [hrs1]
             refine leaves_marks rs w1 hrs2 (fun r hr => (hrs3 r hr).2) fun w' hsh => ?_
             have hs := hs1.shut hsh hrs3
             have hrun : ∀ μ, Ext m' μ → ∃ cv, (results fn a'.tmps).run P w' = .ok cv w' ∧ cv = conc μ v := by
               intro μ hμ
               have h1 := results_run hs.rep ht hvs μ hμ
               have h2 : (fn.results.mapM fun (r : ResultVar) => match r with
                 | .tmp t => (pure (a'.tmps.getD t undef) : Sem Value)
                 | .cell a t => do loadVar t (← asAddr (a'.tmps.getD a undef))).run P w' = .ok (vs.map (conc μ)).toArray w' := by
                 rw [Array.mapM_eq_mapM_toList]
                 simp only [Sem.run_map, h1, Result.andThen_ok]
               refine ⟨conc μ v, ?_, rfl⟩
               unfold results
               simp only [Sem.run_bind]
               refine (congrArg (fun r => Result.andThen r _) h2).trans ?_
               simp only [Result.andThen_ok, Sem.run_pure]
               congr 1
               rcases hv with ⟨x, rfl, rfl⟩ | ⟨hne, rfl⟩
               · simp
               · have : ¬ (vs.map (conc μ)).toArray.size = 1 := by
                   simp
                   intro h1
                   match vs, h1, hne with
                   | [x], _, hne => exact hne x rfl
                 rw [dif_neg this]
                 simp [concA_mk]
             obtain ⟨cv, hc1, hc2⟩ := hrun _ (some0_ext m')
             have hcv : VRep m' v cv := by
               intro μ hμ
               obtain ⟨cv', h1, h2⟩ := hrun μ hμ
               rw [hc1] at h1
               injection h1 with h1
               rw [h1, h2]
             exact ⟨cv, hc1, cv, rfl, m', hs, hcv⟩
            rcases hex with rfl | rfl
            · exact fin
            · exact fin

end
end Go.Ai

/-! Soundness of regions in the text's order, of code, of the whole. -/
namespace Go.Ai
open Go

theorem LetsOut.mono {Q Q' : Exit → Act → World → Prop} (h : ∀ e a w, Q e a w → Q' e a w) (hl : LetsOut Q) : LetsOut Q' :=
  let ⟨a, w, hq⟩ := hl; ⟨a, w, h _ _ _ hq⟩

theorem operWp_mono {P : Program} {F : Fence} {k : Nat} {o : Oper} {a : Act} {w : World} {K K' : Act → World → Prop} {Q Q' : Exit → Act → World → Prop} (hK : ∀ a w, K a w → K' a w) (hQ : ∀ e a w, Q e a w → Q' e a w)
    (h : o.wpIn F k P a w K Q) : o.wpIn F k P a w K' Q' := by
  unfold Oper.wpIn at *
  refine ⟨h.1, ?_⟩
  have h := h.2
  generalize (o.semAt F.round a.eval).run P w = r at *
  cases r with
  | ok n w' =>
    cases n <;> simp only [Oper.uponIn] at h ⊢ <;>
      first
        | exact hK _ _ h
        | exact ⟨h.1, CallsIn.mono h.2 (fun e w'' he => by cases e <;> first | exact hK _ _ he | exact hQ _ _ _ he | exact LetsOut.mono hQ he)⟩
        | exact ⟨h.1, RowsIn.mono h.2 (fun _ _ he => hK _ _ he)⟩
        | exact ⟨h.1, RoundIn.mono h.2 (fun e w'' he => by cases e <;> first | exact hK _ _ he | exact hQ _ _ _ he | exact LetsOut.mono hQ he)⟩
  | halt x w' => cases x <;> simp only [Oper.uponIn] at h ⊢; exact hQ _ _ _ h

theorem wpOps_mono {P : Program} {F : Fence} {k : Nat} {ops : Array Oper} {Q Q' : Exit → Act → World → Prop} (hQ : ∀ e a w, Q e a w → Q' e a w) : ∀ {l : List Nat} {a : Act} {w : World}, wpOpsIn F k P ops Q l a w → wpOpsIn F k P ops Q' l a w := by
  intro l
  induction l with
  | nil => intro a w h; exact hQ _ _ _ h
  | cons i l ih =>
    intro a w h
    simp only [wpOpsIn] at h ⊢
    split at h
    · exact ih h
    · split
      · rename_i hw
        rw [if_pos hw] at h
        exact operWp_mono (fun _ _ => ih) hQ h
      · rename_i hw
        rw [if_neg hw] at h
        exact ⟨h.1, ih h.2⟩

/-- only what does not end normally is handed on -/
theorem operWp_exc {P : Program} {F : Fence} {k : Nat} {o : Oper} {a : Act} {w : World} {K K' : Act → World → Prop} {Q Q' : Exit → Act → World → Prop} (hK : ∀ a w, K a w → K' a w) (hQ : ∀ e a w, e ≠ .normal → Q e a w → Q' e a w)
    (h : o.wpIn F k P a w K Q) : o.wpIn F k P a w K' Q' := by
  unfold Oper.wpIn at *
  refine ⟨h.1, ?_⟩
  have h := h.2
  have hL : LetsOut Q → LetsOut Q' := fun ⟨a, w, hq⟩ => ⟨a, w, hQ _ _ _ (by simp) hq⟩
  generalize (o.semAt F.round a.eval).run P w = r at *
  cases r with
  | ok n w' =>
    cases n <;> simp only [Oper.uponIn] at h ⊢ <;>
      first
        | exact hK _ _ h
        | exact ⟨h.1, CallsIn.mono h.2 (fun e w'' he => by cases e <;> first | exact hK _ _ he | exact hQ _ _ _ (by simp) he | exact hL he)⟩
        | exact ⟨h.1, RowsIn.mono h.2 (fun _ _ he => hK _ _ he)⟩
        | exact ⟨h.1, RoundIn.mono h.2 (fun e w'' he => by cases e <;> first | exact hK _ _ he | exact hQ _ _ _ (by simp) he | exact hL he)⟩
  | halt x w' => cases x <;> simp only [Oper.uponIn] at h ⊢; exact hQ _ _ _ (by simp) h

theorem wpOps_append {P : Program} {F : Fence} {k : Nat} {ops : Array Oper} {Q : Exit → Act → World → Prop} {l2 : List Nat} : ∀ {l1 : List Nat} {a : Act} {w : World}, wpOpsIn F k P ops (fun x a w => x = .normal ∧ wpOpsIn F k P ops Q l2 a w) l1 a w → wpOpsIn F k P ops Q (l1 ++ l2) a w := by
  intro l1
  induction l1 with
  | nil => intro a w h; exact h.2
  | cons i l ih =>
    intro a w h
    simp only [List.cons_append, wpOpsIn] at h ⊢
    split at h
    · exact ih h
    · split
      · rename_i hw
        rw [if_pos hw] at h
        exact operWp_exc (fun _ _ => ih) (fun e a w hne hq => absurd hq.1 hne) h
      · rename_i hw
        rw [if_neg hw] at h
        exact ⟨h.1, ih h.2⟩

theorem Fresh.after {P : Program} {m m1 : Nat → Option Loc} {G G1 : Nat → AObj → Prop} {w w1 : World} {ct ct1 ct2 : Nat} (hf : Fresh m ct ct2) (hs : Step (Cx.of P) m G w ct m1 G1 w1 ct1) (h1 : ct ≤ ct1) : Fresh m1 ct1 ct2 := by
  intro i hi1 hi2
  cases hm : m1 i with
  | none => rfl
  | some l =>
    rcases hs.dom i l hm with h4 | h4
    · rw [hf i (by omega) hi2] at h4; cases h4
    · omega

section
variable {P : Program} {ov : Ov} {ih : CodeRun} {m : Nat → Option Loc} {st : St} {w : World}

theorem Step.newObj (hR : Rep (Cx.of P) m st.G w) {ob : AObj} {l : Loc} {w' : World} (hid : m st.ct = none) (hnew : New w w') (hl : l.blk = w.heap.size)
    (hobj : ∀ μ, Ext (setM m st.ct l) μ → ObjRep (Cx.of P) μ w' st.ct ob) :
    Step (Cx.of P) m st.G w st.ct (setM m st.ct l) (⟨st.hp.set st.ct ob, st.ct + 1⟩ : St).G w' (st.ct + 1) := by
  refine Step.new hR hid (Nat.le_refl _) (Nat.lt_succ_self _) hl hnew.size hnew.os hnew.tape hnew.output hnew.old ?_ hobj
  intro j oj hj
  simp only [St.G, T.get_set] at hj
  split at hj
  · rename_i e; subst e; injection hj with hj; exact .inl ⟨rfl, hj.symm⟩
  · rename_i hne; exact .inr ⟨hne, hj⟩

/-- what an operation comes to in the model: a value, or nothing, or a call that comes to a value, or a round -/
inductive Does (P : Program) (o : Oper) (ρ : Operand → Value) (w : World) (R : Value → World → Prop) : Prop
  | value (cv : Value) (w' : World) (h : (execOp ρ o).run P w = .ok (.value cv) w') (r : R cv w')
  | skip (w' : World) (h : (execOp ρ o).run P w = .ok .skip w') (r : R undef w')
  | enter (f : FuncId) (args : Array Value) (h : (execOp ρ o).run P w = .ok (.enter f args) w) (hc : Calls P f args w fun e w' => ∃ v, e = .returned v ∧ R v w')
  | round (l : Nat) (f : FuncId) (tmps : Array Value) (assign body : Code) (h : (execOp ρ o).run P w = .ok (.round l f tmps assign body) w) (hc : RoundIn (FR none) 0 P l f tmps assign body w fun e w' => ∃ v, e = .returned v ∧ R v w')

theorem Does.wp {o : Oper} {a : Act} {R : Value → World → Prop} {K : Act → World → Prop} {Q : Exit → Act → World → Prop} {ro : Option Nat} (h : Does P o a.eval w R) (hnd : ∀ c, o.op ≠ .defer c)
    (hK : ∀ cv w', R cv w' → K (a.put o.dst cv) w') : o.wpIn (FR ro) 0 P a w K Q := by
  refine ⟨fun _ _ => trivial, ?_⟩
  rw [Oper.semAt_eq _ _ _ hnd]
  cases h with
  | value cv w' h r => rw [h]; exact hK _ _ r
  | skip w' h r => rw [h]; exact hK _ _ r
  | enter f args h hc =>
    rw [h]
    refine ⟨fun h => by simp [FR, Fence.wide] at h, ?_⟩
    change CallsIn Fence.wide (0 - 1) P f args w _
    refine callsIn_wide.2 (hc.mono ?_)
    rintro e w' ⟨v, rfl, r⟩
    exact hK _ _ r
  | round l f tmps assign body h hc =>
    rw [h]
    refine ⟨fun h => by simp [FR, Fence.wide] at h, ?_⟩
    change RoundIn (FR none) (0 - 1) P l f tmps assign body w _
    refine RoundIn.mono hc ?_
    rintro e w' ⟨v, rfl, r⟩
    exact hK _ _ r

theorem opA_nodefer {cx : Cx} {tm : T Value} {o : Oper} {v : Value} {st' : St} (h : opA cx ov ih tm st o = some (v, st')) : ∀ c, o.op ≠ .defer c := by
  intro c hc
  simp [opA, hc, kindOf, pureOp] at h

/-! ### a round -/
theorem loop_obj (hR : Rep (Cx.of P) m st.G w) {l : Nat} {ls : LoopState} {pend : Option Ex} {tm : T Value} {nt : Nat} {ps : List Tmp} {assign body : Code} (hg : st.hp.get l = some (.loopO ls pend tm nt ps assign body)) {lo : Loc} (hl : m l = some lo) :
    lo.base = 0 ∧ ∃ r : Loop, w.heap[lo.blk]? = some (.loop r) ∧ r.state = ls ∧ r.pending = pend.map jumpOf ∧ TmRep m tm r.tmps ∧ nt ≤ r.tmps.size ∧ r.params.toList = ps ∧ r.assign = assign ∧ r.body = body := by
  have hloc : ∀ μ, Ext m μ → μ l = lo := fun μ hμ => hμ _ _ hl
  obtain ⟨hb0, r, hb, h1, h2, h3, h4, h5, h6, h7⟩ := hR.obj _ (some0_ext m) _ _ hg
  rw [hloc _ (some0_ext m)] at hb0 hb
  refine ⟨hb0, r, hb, h1, h2, fun t v ht => ?_, h4, h5, h6, h7⟩
  refine ⟨conc (some0 m) v, h3 t v ht, fun μ hμ => ?_⟩
  obtain ⟨_, r', hb', _, _, h3', _⟩ := hR.obj μ hμ _ _ hg
  rw [hloc _ hμ, hb] at hb'
  injection hb' with hb'; injection hb' with hb'; subst hb'
  have := h3' t v ht
  rw [h3 t v ht] at this
  injection this with this
  exact this.symm

theorem loop_set (hR : Rep (Cx.of P) m st.G w) {l : Nat} {ls ls' : LoopState} {pend pend' : Option Ex} {tm : T Value} {nt : Nat} {ps : List Tmp} {assign body : Code} (hg : st.hp.get l = some (.loopO ls pend tm nt ps assign body)) {lo : Loc} (hl : m l = some lo)
    {r : Loop} (hb : w.heap[lo.blk]? = some (.loop r)) (ct : Nat) :
    Step (Cx.of P) m st.G w ct m ({ st with hp := st.hp.set l (.loopO ls' pend' tm nt ps assign body) } : St).G { w with heap := w.heap.setIfInBounds lo.blk (.loop { r with state := ls', pending := pend'.map jumpOf }) } ct := by
  refine setObj_step hR hg rfl hl ?_ ct
  intro μ hμ w' hw'
  have hloc : μ l = lo := hμ _ _ hl
  obtain ⟨hb0, r', hb', h1, h2, h3, h4, h5, h6, h7⟩ := hR.obj μ hμ _ _ hg
  rw [hloc, hb] at hb'
  injection hb' with hb'; injection hb' with hb'; subst hb'
  exact ⟨hb0, { r with state := ls', pending := pend'.map jumpOf }, by rw [hloc]; exact hw', rfl, rfl, h3, h4, h5, h6, h7⟩

theorem roundTm_rep {nt : Nat} : ∀ (ps : List Tmp) (vs : List Value) (tm t1 : T Value) (cvs : List Value) (tmps : Array Value), roundTm nt ps vs tm = some t1 → VReps m vs cvs → TmRep m tm tmps → nt ≤ tmps.size →
    ps.length = cvs.length ∧ TmRep m t1 ((ps.zip cvs).foldl (fun t p => t.setIfInBounds p.1 p.2) tmps) ∧ nt ≤ ((ps.zip cvs).foldl (fun t p => t.setIfInBounds p.1 p.2) tmps).size := by
  intro ps
  induction ps with
  | nil =>
    intro vs tm t1 cvs tmps h hv ht hn
    have h0 := hv _ (some0_ext m)
    cases vs with
    | nil => simp [roundTm] at h; subst h; simp at h0; subst h0; exact ⟨rfl, ht, hn⟩
    | cons v vs => simp [roundTm] at h
  | cons p ps ih =>
    intro vs tm t1 cvs tmps h hv ht hn
    cases vs with
    | nil => simp [roundTm] at h
    | cons v vs =>
      simp only [roundTm] at h
      split at h <;> (try (simp at h; done))
      rename_i hb
      have hb : p < nt := Nat.le_of_ble_eq_true hb
      have h0 := hv _ (some0_ext m)
      simp only [List.map_cons] at h0
      subst h0
      have hv1 : VRep m v (conc (some0 m) v) := fun μ hμ => by have := hv μ hμ; simp at this; exact this.1
      have hv2 : VReps m vs (vs.map (conc (some0 m))) := fun μ hμ => by have := hv μ hμ; simp only [List.map_cons, List.cons.injEq] at this; exact this.2
      obtain ⟨h1, h2, h3⟩ := ih vs _ t1 _ (tmps.setIfInBounds p (conc (some0 m) v)) h hv2 (ht.set (Nat.lt_of_lt_of_le hb hn) hv1) (by simpa using hn)
      exact ⟨by simp [h1], h2, h3⟩

theorem getLoop_run {l : Nat} {r : Loop} (hb : w.heap[l]? = some (.loop r)) : (Instr.getLoop l).run P w = .ok r w := by
  have hgo : (getObj l).run P w = .ok (.loop r) w := by simp [getObj, Sem.run, hb]
  simp [Instr.getLoop, hgo]

theorem yieldA_does (hih : RunOk P ih) (hihm : RunMono ih) {l : Nat} {as : List Value} {v : Value} {st' : St} (h : yieldA ih l as st = some (v, st')) (hR : Rep (Cx.of P) m st.G w) {cas : List Value} (ha : VReps m as cas) (hf : Fresh m st.ct st'.ct) :
    ∃ lo fn tmps assign body, m l = some lo ∧ (Instr.yield lo.blk cas.toArray).run P w = .ok (.round lo.blk fn tmps assign body) w ∧
      RoundIn (FR none) 0 P lo.blk fn tmps assign body w fun e w' => ∃ x, e = .returned x ∧ CallPost (Cx.of P) m st w v st' x w' := by
  obtain ⟨tm, nt, ps, as1, bo, t1, t2, s2, tm2, nt2, ps2, as2, bo2, e2, t3, s3, tm3, nt3, ps3, as3, bo3, hg, hn1, hn2, hrt, h1, hg2, h2, hg3, hlast⟩ := yieldA_some h
  have c1 := hihm _ _ _ _ _ _ _ h1
  have c2 := hihm _ _ _ _ _ _ _ h2
  simp only at c2
  have hct : st'.ct = s3.ct := by rcases hlast with ⟨_, _, rfl⟩ | ⟨_, _, rfl⟩ <;> rfl
  obtain ⟨lo, hl, hlt⟩ := hR.dom _ _ hg
  obtain ⟨_, r, hb, hst, hpe, htm, hnt, hps, has, hbo⟩ := loop_obj hR hg hl
  obtain ⟨q1, q2, q3⟩ := roundTm_rep ps as tm t1 cas r.tmps hrt ha htm hnt
  have hfold : (r.params.zip cas.toArray).foldl (fun tmps (t, a) => tmps.setIfInBounds t a) r.tmps = (ps.zip cas).foldl (fun t p => t.setIfInBounds p.1 p.2) r.tmps := by
    rw [← Array.foldl_toList, Array.toList_zip, hps]
  refine ⟨lo, r.fn, (r.params.zip cas.toArray).foldl (fun tmps (t, a) => tmps.setIfInBounds t a) r.tmps, r.assign, r.body, hl, ?_, ?_⟩
  · simp only [Instr.yield, Sem.run_bind, getLoop_run hb, Result.andThen_ok]
    have hsz : cas.toArray.size = r.params.size := by rw [← Array.length_toList (xs := r.params), hps, q1]; simp
    rw [if_neg (by simpa using hsz)]
    simp only [Sem.run_pure]
  · subst has; subst hbo
    refine roundIn_of_wpIn (F := FR none) trivial ?_
    have hwp1 := hih _ _ _ _ _ _ _ h1 (some lo.blk) (.inr hn1) m w { tmps := (r.params.zip cas.toArray).foldl (fun tmps (t, a) => tmps.setIfInBounds t a) r.tmps, defers := [] } 0 hR (by rw [hfold]; exact q2) (Marks.nil _ _) (Nat.zero_le _) (by rw [hfold]; exact q3) (fun i hi1 hi2 => hf i hi1 (by omega))
    refine wpIn_mono hwp1 ?_
    rintro e a1 w1 ⟨rfl, m1, s1, ht1, hmk1, hsz1⟩
    have hl1 := s1.mono _ _ hl
    obtain ⟨_, r1, hb1, hst1, _⟩ := loop_obj s1.rep hg2 hl1
    have sb := loop_set (ls' := .busy) (pend' := none) s1.rep hg2 hl1 hb1 s2.ct
    have hpend : r1.pending = none := by
      obtain ⟨_, r1', hb1', _, hp1, _⟩ := loop_obj s1.rep hg2 hl1
      rw [hb1] at hb1'; injection hb1' with hb1'; injection hb1' with hb1'; subst hb1'
      simpa using hp1
    refine ⟨{ w1 with heap := w1.heap.setIfInBounds lo.blk (.loop { r1 with state := .busy, pending := none }) }, ?_, ?_⟩
    · simp only [Instr.beginRound, Sem.run_bind, getLoop_run hb1, Result.andThen_ok, setObj_run hb1 (o' := .loop { r1 with state := .busy }) (by intros; simp), hst1, Sem.run_pure]
      have : ({ r1 with state := .busy } : Loop) = { r1 with state := .busy, pending := none } := by rw [← hpend]
      rw [this]
    have hfr : Fresh m1 s2.ct s3.ct := Fresh.after (ct2 := s3.ct) (fun i hi1 hi2 => hf i hi1 (by omega)) s1 c1
    have hwp2 := hih _ _ _ _ _ _ _ h2 (some lo.blk) (.inr hn2) m1 _ a1 0 sb.rep ht1 (hmk1.step s1.rep sb) (Nat.zero_le _) (by rw [hsz1, hfold]; exact q3) hfr
    refine wpIn_mono hwp2 ?_
    rintro e a3 w3 ⟨rfl, m3, s3', ht3, _, _⟩
    have hl3 := s3'.mono _ _ hl1
    obtain ⟨_, r3, hb3, hst3, _⟩ := loop_obj s3'.rep hg3 hl3
    have all : Step (Cx.of P) m st.G w st.ct m3 s3.G w3 s3.ct := (s1.trans sb c1 (Nat.le_refl _)).trans s3' c1 c2
    have fin : ∀ (jump : Option Ex) (b : Bool), (v = .bool b) → b = jump.isNone → st' = { s3 with hp := s3.hp.set l (.loopO (if jump.isNone then .ready else .done) jump tm3 nt3 ps3 as3 bo3) } →
        ∃ x w', (Instr.endRound lo.blk (jump.map jumpOf)).run P w3 = .ok x w' ∧ ∃ y, Ending.returned x = .returned y ∧ CallPost (Cx.of P) m st w v st' y w' := by
      intro jump b hv hbj hs
      have s4 := loop_set (ls' := if jump.isNone then .ready else .done) (pend' := jump) s3'.rep hg3 hl3 hb3 s3.ct
      refine ⟨.bool jump.isNone, { w3 with heap := w3.heap.setIfInBounds lo.blk (.loop { r3 with state := if jump.isNone then .ready else .done, pending := jump.map jumpOf }) }, ?_, .bool jump.isNone, rfl, m3, ?_, ?_⟩
      · simp only [Instr.endRound, Sem.run_bind, getLoop_run hb3, Result.andThen_ok, Option.isNone_map]
        rw [setObj_run hb3 (by intros; simp)]
        simp
      · rw [hs]
        exact all.trans s4 (by omega) (Nat.le_refl _)
      · intro μ _; rw [hv, hbj]; simp
    rcases hlast with ⟨rfl, hv, hs⟩ | ⟨hne, hv, hs⟩
    · exact fin none true hv rfl hs
    · cases e2 with
      | normal => exact absurd rfl hne
      | exit id => exact fin (some (.exit id)) false hv rfl hs
      | ret => exact fin (some .ret) false hv rfl hs
      | goto t => exact fin (some (.goto t)) false hv rfl hs

theorem opA_does (hov : OvOk P ov) (hovm : OvMono ov) (hih : RunOk P ih) (hihm : RunMono ih) {tm : T Value} {o : Oper} {v : Value} {st' : St} (h : opA (Cx.of P) ov ih tm st o = some (v, st'))
    (hR : Rep (Cx.of P) m st.G w) {a : Act} (ht : TmRep m tm a.tmps) (hf : Fresh m st.ct st'.ct) : Does P o a.eval w (CallPost (Cx.of P) m st w v st') := by
  have hρ := eval_rep hR.glob ht
  have hμ0 := some0_ext m
  have same : (∀ μ, Ext m μ → (execOp a.eval o).run P w = .ok (.value (conc μ v)) w) → st' = st → Does P o a.eval w (CallPost (Cx.of P) m st w v st') := by
    intro h1 h2
    subst h2
    refine .value _ _ (h1 _ hμ0) ⟨m, Step.refl hR, fun μ hμ => ?_⟩
    have := h1 μ hμ
    rw [h1 _ hμ0] at this
    injection this with this
    injection this with this
    exact this.symm
  unfold opA at h
  split at h
  · split at h <;> (try (simp at h; done))
    rename_i u hp
    simp at h; obtain ⟨rfl, rfl⟩ := h
    exact same (fun μ hμ => pureOp_sound (fun x v hx => (hρ x v hx μ hμ).symm) hp w) rfl
  · split at h <;> (try (simp at h; done))
    rename_i ob f hp
    simp at h; obtain ⟨rfl, rfl⟩ := h
    have hid : m st.ct = none := hf _ (Nat.le_refl _) (by simp)
    obtain ⟨w', cv, l, h1, h2, h3, h4⟩ := allocOp_sound hid hρ hp
    exact .value _ _ h1 ⟨_, Step.newObj hR hid h2 h3 (fun μ hμ => (h4 μ hμ).1), fun μ hμ => (h4 μ hμ).2⟩
  · split at h <;> (try (simp at h; done))
    rename_i u hp
    simp at h; obtain ⟨rfl, rfl⟩ := h
    exact same (fun μ hμ => readOp_sound hR hμ (fun x v hx => (hρ x v hx μ hμ).symm) hp) rfl
  · split at h
    · rename_i r hh
      simp at h; subst h
      obtain ⟨w', cv, m', h1, h2, h3, h4⟩ := heavyOp_sound hR hρ hh hf
      rcases h1 with h1 | ⟨h1, rfl⟩
      · exact .value _ _ h1 ⟨m', h2, h3⟩
      · exact .skip _ h1 ⟨m', h2, h3⟩
    · unfold callOp at h
      split at h <;> (try (simp at h; done))
      rename_i c hop
      split at h <;> (try (simp at h; done))
      rename_i f hc
      split at h <;> (try (simp at h; done))
      rename_i fn first captured as hfv has
      split at h <;> (try (simp at h; done))
      case h_2 l =>
        split at h <;> (try (simp at h; done))
        rename_i hfirst hcap
        have hargs := evs_rep hR.glob ht has
        obtain ⟨lo, fn, tmps, assign, body, hl, h1, h2⟩ := yieldA_does hih hihm h hR hargs hf
        have hfn := hρ f _ hfv _ hμ0
        have e1 : first = #[] := by apply Array.ext'; simpa using hfirst
        have e2 : captured = #[] := by apply Array.ext'; simpa using hcap
        subst e1; subst e2
        simp only [conc_func, concFn_yield, hμ0 _ _ hl, concA_eq] at hfn
        refine .round lo.blk fn tmps assign body ?_ h2
        unfold execOp
        rw [hop]
        simp only [resolve, hc, Sem.run_bind]
        rw [← hfn]
        simp only [Deferred.ofValue, Sem.run_pure, Result.andThen_ok, invoke]
        have : (Instr.yield lo.blk (c.args.toList.map a.eval).toArray).run P w = _ := h1
        rw [show (Array.map (conc (some0 m)) #[] ++ Array.map a.eval c.args : Array Value) = (c.args.toList.map a.eval).toArray by apply Array.ext'; simp]
        exact this
      rename_i k
      have hfn := hρ f _ hfv
      have hargs := evs_rep hR.glob ht has
      have hfn0 := hfn _ hμ0
      simp only [conc_func, concFn_func] at hfn0
      have hall : VReps m (first.toList ++ as ++ captured.toList) ((concA (some0 m) first).toList ++ c.args.toList.map a.eval ++ (concA (some0 m) captured).toList) := by
        intro μ hμ
        have h1 := hfn μ hμ
        rw [← hfn0] at h1
        simp only [conc_func, concFn_func, Value.func.injEq, true_and] at h1
        rw [List.map_append, List.map_append, hargs μ hμ, ← concA_toList, ← concA_toList, h1.1, h1.2]
      have hfo := callA_sound hov hovm hih hihm h hR hall hf
      have hrun : (execOp a.eval o).run P w = (callFunc k ((concA (some0 m) first).toList ++ c.args.toList.map a.eval ++ (concA (some0 m) captured).toList).toArray).run P w := by
        unfold execOp
        rw [hop]
        simp only [resolve, hc, Sem.run_bind]
        rw [← hfn0]
        simp only [Deferred.ofValue, Sem.run_pure, Result.andThen_ok, invoke]
        congr 2
        apply Array.ext'
        simp
      rcases hfo with ⟨cv, w', h1, h2⟩ | ⟨h1, h2⟩
      · exact .value _ _ (hrun.trans h1) h2
      · exact .enter _ _ (hrun.trans h1) h2

theorem wanted_eq {all : List Oper} {tm : T Value} {o : Oper} {b : Bool} (h : wantedA all tm o = some b) {tmps : Array Value} (ht : TmRep m tm tmps) :
    Region.wanted o (yielded all.toArray tmps) = b := by
  unfold wantedA at h
  unfold Region.wanted
  split at h
  · simp at h; subst h; rename_i hg; rw [hg]
  · rename_i j want hg
    rw [hg]
    simp only
    split at h <;> (try (simp at h; done))
    rename_i p hp
    split at h <;> (try (simp at h; done))
    rename_i d hd
    have hy : ∀ cv, tmps[d]? = some cv → yielded all.toArray tmps j = (match cv with | .bool b => some b | _ => none) := by
      intro cv hcv
      simp only [yielded, List.getElem?_toArray, hp, Option.bind_some, hd, hcv]
      cases cv <;> rfl
    split at h
    · rename_i b' hb
      simp at h; subst h
      obtain ⟨cv, h1, h2⟩ := ht d _ hb
      have := h2 _ (some0_ext m)
      simp at this; subst this
      rw [hy _ h1]
      cases b' <;> cases want <;> rfl
    · simp at h
    · rename_i u hne hne2 hb
      simp at h; subst h
      obtain ⟨cv, h1, h2⟩ := ht d _ hb
      have h3 := h2 _ (some0_ext m)
      rw [hy _ h1]
      cases u with
      | bool b' => exact absurd rfl (hne b')
      | chan r => exact absurd rfl (hne2 r)
      | pointer a => cases a <;> simp at h3 <;> subst h3 <;> rfl
      | slice a n c => cases a <;> simp at h3 <;> subst h3 <;> rfl
      | map r => cases r <;> simp at h3 <;> subst h3 <;> rfl
      | _ => simp [conc] at h3; subst h3; rfl
    · simp at h

theorem putDst_rep {nt : Nat} {tm tm' : T Value} {d : Option Tmp} {v cv : Value} (h : putDst nt tm d v = some tm') {a : Act} (ht : TmRep m tm a.tmps) (hv : VRep m v cv) (hn : nt ≤ a.tmps.size) :
    TmRep m tm' (a.put d cv).tmps ∧ (a.put d cv).defers = a.defers ∧ (a.put d cv).tmps.size = a.tmps.size := by
  unfold putDst at h
  cases d with
  | none => simp at h; subst h; exact ⟨ht, rfl, rfl⟩
  | some d =>
    simp only at h
    split at h <;> (try (simp at h; done))
    rename_i hb
    have hb : d < nt := Nat.le_of_ble_eq_true hb
    simp at h; subst h
    exact ⟨ht.set (Nat.lt_of_lt_of_le hb hn) hv, rfl, by simp [Act.put]⟩

/-- what holds behind some operations -/
def OpsPost (P : Program) (m : Nat → Option Loc) (st : St) (w : World) (size : Nat) (ds : List Deferred) (tm' : T Value) (st' : St) (e : Exit) (a' : Act) (w' : World) : Prop :=
  e = .normal ∧ ∃ m', Step (Cx.of P) m st.G w st.ct m' st'.G w' st'.ct ∧ TmRep m' tm' a'.tmps ∧ a'.defers = ds ∧ a'.tmps.size = size

theorem opsA_sound (hov : OvOk P ov) (hovm : OvMono ov) (hih : RunOk P ih) (hihm : RunMono ih) {nt : Nat} {all : List Oper} : ∀ (n : Nat) (l : List Oper), l <+: all.drop n → ∀ {tm tm' : T Value} {st st' : St}, opsA (Cx.of P) ov ih nt all l tm st = some (tm', st') →
    ∀ {m : Nat → Option Loc} {w : World} {a : Act} {ro : Option Nat}, Rep (Cx.of P) m st.G w → TmRep m tm a.tmps → nt ≤ a.tmps.size → Fresh m st.ct st'.ct →
    wpOpsIn (FR ro) 0 P all.toArray (OpsPost P m st w a.tmps.size a.defers tm' st') ((List.range l.length).map (n + ·)) a w := by
  intro n l
  induction l generalizing n with
  | nil =>
    intro _ tm tm' st st' h m w a ro hR ht hn hf
    simp [opsA] at h; obtain ⟨rfl, rfl⟩ := h
    exact ⟨rfl, m, Step.refl hR, ht, rfl, rfl⟩
  | cons o l ihl =>
    intro hdrop tm tm' st st' h m w a ro hR ht hn hf
    obtain ⟨tail, htail⟩ := hdrop
    have hat : all[n]? = some o := by
      have := congrArg (·[0]?) htail.symm
      simpa using this
    have hdrop' : l <+: all.drop (n + 1) := ⟨tail, by rw [← List.drop_drop, ← htail]; rfl⟩
    have hrange : (List.range (o :: l).length).map (n + ·) = n :: (List.range l.length).map (n + 1 + ·) := by
      rw [List.length_cons, List.range_succ_eq_map]
      simp [Function.comp_def, Nat.add_assoc, Nat.add_comm 1]
    rw [hrange]
    simp only [wpOpsIn, List.getElem?_toArray, hat]
    simp only [opsA] at h
    split at h <;> (try (simp at h; done))
    · rename_i hw
      rw [wanted_eq hw ht]
      simp only [if_true]
      split at h <;> (try (simp at h; done))
      rename_i v st1 ho
      split at h <;> (try (simp at h; done))
      rename_i tm1 hp
      have hct1 := opA_ct hovm hihm ho
      have hct2 := opsA_ct hovm hihm h
      refine (opA_does hov hovm hih hihm ho hR ht (fun i h1 h2 => hf i h1 (by omega))).wp (opA_nodefer ho) ?_
      rintro cv w1 ⟨m1, hs1, hv1⟩
      obtain ⟨h1, h2, h3⟩ := putDst_rep hp (ht.mono hs1.mono) hv1 hn
      have := ihl (n + 1) hdrop' h (ro := ro) hs1.rep h1 (by omega) (fun i hi1 hi2 => by
        cases hm : m1 i with
        | none => rfl
        | some l =>
          rcases hs1.dom i l hm with h4 | h4
          · rw [hf i (by omega) hi2] at h4; cases h4
          · omega)
      refine wpOps_mono ?_ this
      rintro e a' w' ⟨rfl, m', hs', ht', hd', hsz'⟩
      exact ⟨rfl, m', hs1.trans hs' hct1 hct2, ht', hd'.trans h2, by omega⟩
    · rename_i hw
      rw [wanted_eq hw ht]
      simp only [Bool.false_eq_true, if_false]
      split at h <;> (try (simp at h; done))
      rename_i tm1 hp
      obtain ⟨h1, h2, h3⟩ := putDst_rep hp ht (fun μ _ => conc_undef μ) hn
      have := ihl (n + 1) hdrop' h (ro := ro) hR h1 (by omega) hf
      rw [h3, h2] at this
      exact ⟨fun _ _ => trivial, this⟩

end
end Go.Ai

/-! Regions whose order is open. -/
namespace Go.Ai
open Go

/-! ### what stands ahead -/
theorem befOf_spec {acc : List Nat} {i : Nat} : ∀ (es : List Edge), (befOf acc es).testBit i = true → ∃ e ∈ es, Region.binds .any e = true ∧ (e.on = i ∨ (acc.getD e.on 0).testBit i = true) := by
  intro es
  induction es with
  | nil => intro h; simp [befOf] at h
  | cons e es ih =>
    intro h
    simp only [befOf] at h
    split at h
    · rename_i hb
      rw [Nat.testBit_or, Nat.testBit_or, Bool.or_eq_true, Bool.or_eq_true] at h
      rcases h with (h | h) | h
      · rw [Nat.testBit_two_pow] at h
        exact ⟨e, by simp, hb, .inl (of_decide_eq_true h)⟩
      · exact ⟨e, by simp, hb, .inr h⟩
      · obtain ⟨e', he', h'⟩ := ih h
        exact ⟨e', by simp [he'], h'⟩
    · obtain ⟨e', he', h'⟩ := ih h
      exact ⟨e', by simp [he'], h'⟩

theorem befsOf_pre : ∀ (l : List Oper) (acc : List Nat), ∃ r, befsOf l acc = acc ++ r := by
  intro l
  induction l with
  | nil => intro acc; exact ⟨[], by simp [befsOf]⟩
  | cons o l ih =>
    intro acc
    obtain ⟨r, hr⟩ := ih (acc ++ [befOf acc o.after.toList])
    exact ⟨befOf acc o.after.toList :: r, by simp [befsOf, hr]⟩

theorem befsOf_get : ∀ (l : List Oper) (acc : List Nat) (k : Nat) (o : Oper), l[k]? = some o →
    (befsOf l acc).getD (acc.length + k) 0 = befOf ((befsOf l acc).take (acc.length + k)) o.after.toList := by
  intro l
  induction l with
  | nil => intro acc k o h; simp at h
  | cons x l ih =>
    intro acc k o h
    cases k with
    | zero =>
      simp at h; subst h
      obtain ⟨r, hr⟩ := befsOf_pre l (acc ++ [befOf acc x.after.toList])
      simp only [befsOf, hr, Nat.add_zero]
      simp
    | succ k =>
      simp at h
      have := ih (acc ++ [befOf acc x.after.toList]) k o h
      simp only [befsOf]
      rw [List.length_append, List.length_singleton] at this
      rw [show acc.length + (k + 1) = acc.length + 1 + k by omega]
      exact this

theorem tiedOk_spec {cx : Cx} {all : List Oper} {bef : Nat} {y : Oper} : ∀ (l : List Oper) (i0 : Nat), tiedOk cx all bef y i0 l = true → ∀ k x, l[k]? = some x → tied cx all x y = true → bef.testBit (i0 + k) = true := by
  intro l
  induction l with
  | nil => intro i0 _ k x h; simp at h
  | cons z l ih =>
    intro i0 h k x hk ht
    simp only [tiedOk, Bool.and_eq_true, Bool.or_eq_true, Bool.not_eq_true'] at h
    cases k with
    | zero =>
      simp at hk; subst hk
      rcases h.1 with h | h
      · exact h
      · rw [ht] at h; cases h
    | succ k =>
      simp at hk
      have := ih (i0 + 1) h.2 k x hk ht
      rwa [show i0 + (k + 1) = i0 + 1 + k by omega]

theorem drawOkFrom_spec {cx : Cx} {all : List Oper} {befs : List Nat} : ∀ (l : List Oper) (j0 : Nat), drawOkFrom cx all befs j0 l = true → ∀ k y, l[k]? = some y →
    tiedOk cx all (befs.getD (j0 + k) 0) y 0 (all.take (j0 + k)) = true ∧ backOk (j0 + k) y.after.toList = true := by
  intro l
  induction l with
  | nil => intro j0 _ k x h; simp at h
  | cons z l ih =>
    intro j0 h k y hk
    simp only [drawOkFrom, Bool.and_eq_true] at h
    cases k with
    | zero => simp at hk; subst hk; exact ⟨h.1.1, h.1.2⟩
    | succ k =>
      simp at hk
      have := ih (j0 + 1) h.2 k y hk
      rwa [show j0 + (k + 1) = j0 + 1 + k by omega]

theorem backOk_spec {j : Nat} : ∀ (l : List Edge), backOk j l = true → ∀ e ∈ l, Region.binds .any e = true → e.on < j := by
  intro l
  induction l with
  | nil => intro _ e he; simp at he
  | cons x l ih =>
    intro h e he hb
    simp only [backOk, Bool.and_eq_true, Bool.or_eq_true, Bool.not_eq_true'] at h
    rcases List.mem_cons.1 he with rfl | he
    · rcases h.1 with h1 | h1
      · rw [hb] at h1; cases h1
      · exact Nat.le_of_ble_eq_true h1
    · exact ih h.2 e he hb

theorem limit_get {tm : T Value} : ∀ (l : List Tmp) (t : Nat) (v : Value), (limit tm l).get t = some v → t ∈ l ∧ tm.get t = some v := by
  intro l
  induction l with
  | nil => intro t v h; simp [limit, T.get_nil] at h
  | cons x l ih =>
    intro t v h
    simp only [limit] at h
    split at h
    · rename_i u hu
      rw [T.get_set] at h
      split at h
      · rename_i e; subst e; simp at h; subst h; exact ⟨by simp, hu⟩
      · obtain ⟨h1, h2⟩ := ih _ _ h; exact ⟨by simp [h1], h2⟩
    · obtain ⟨h1, h2⟩ := ih _ _ h; exact ⟨by simp [h1], h2⟩

theorem mergeP_get {bef : Nat} : ∀ (l : Pend) (hp : T AObj) (id : Nat) (o : AObj), (mergeP bef l hp).get id = some o → hp.get id = some o ∨ ∃ j, bef.testBit j = true ∧ (j, id, o) ∈ l := by
  intro l
  induction l with
  | nil => intro hp id o h; exact .inl h
  | cons p l ih =>
    obtain ⟨j, i2, ob⟩ := p
    intro hp id o h
    simp only [mergeP] at h
    split at h
    · rename_i hb
      rw [T.get_set] at h
      split at h
      · rename_i e; subst e; simp at h; subst h; exact .inr ⟨j, hb, by simp⟩
      · rcases ih _ _ _ h with h | ⟨j', h1, h2⟩
        · exact .inl h
        · exact .inr ⟨j', h1, by simp [h2]⟩
    · rcases ih _ _ _ h with h | ⟨j', h1, h2⟩
      · exact .inl h
      · exact .inr ⟨j', h1, by simp [h2]⟩
theorem restP_mem {bef : Nat} : ∀ (l : Pend) (p : Nat × Nat × AObj), p ∈ restP bef l → p ∈ l ∧ bef.testBit p.1 = false := by
  intro l
  induction l with
  | nil => intro p h; simp [restP] at h
  | cons x l ih =>
    intro p h
    simp only [restP] at h
    split at h
    · obtain ⟨h1, h2⟩ := ih p h; exact ⟨by simp [h1], h2⟩
    · rename_i hb
      rcases List.mem_cons.1 h with rfl | h
      · exact ⟨by simp, hb⟩
      · obtain ⟨h1, h2⟩ := ih p h; exact ⟨by simp [h1], h2⟩
theorem mergeAll_get : ∀ (l : Pend) (hp : T AObj) (id : Nat) (o : AObj), (mergeAll l hp).get id = some o → hp.get id = some o ∨ ∃ j, (j, id, o) ∈ l := by
  intro l
  induction l with
  | nil => intro hp id o h; exact .inl h
  | cons p l ih =>
    obtain ⟨j, i2, ob⟩ := p
    intro hp id o h
    simp only [mergeAll] at h
    rw [T.get_set] at h
    split at h
    · rename_i e; subst e; simp at h; subst h; exact .inr ⟨j, by simp⟩
    · rcases ih _ _ _ h with h | ⟨j', h2⟩
      · exact .inl h
      · exact .inr ⟨j', by simp [h2]⟩

theorem pastOk_spec {cx : Cx} {bef : Nat} {tm : T Value} {op : Op} {v : Value} : ∀ (l : List (Nat × T AObj × Pend)), pastOk cx bef tm op v l = true → ∀ h hp pd, (h, hp, pd) ∈ l → bef.testBit h = false → readAt cx tm hp pd bef op = some v := by
  intro l
  induction l with
  | nil => intro _ h hp pd hm; simp at hm
  | cons p l ih =>
    obtain ⟨h1, hp1, pd1⟩ := p
    intro hk h hp pd hm hb
    simp only [pastOk, Bool.and_eq_true, Bool.or_eq_true] at hk
    rcases List.mem_cons.1 hm with he | hm
    · simp only [Prod.mk.injEq] at he
      obtain ⟨rfl, rfl, rfl⟩ := he
      rcases hk.1 with h2 | h2
      · rw [hb] at h2; cases h2
      · unfold readIs at h2
        split at h2
        · rename_i u hu; rw [hu, beqV_eq _ _ h2]
        · cases h2
    · exact ih hk.2 h hp pd hm hb

theorem readsOk_spec {cx : Cx} {befs : List Nat} {bef : Nat} {hp : T AObj} {pd : Pend} : ∀ (l : List (Nat × T Value × Op × Value)), readsOk cx befs bef hp pd l = true →
    ∀ r tm op v, (r, tm, op, v) ∈ l → bef.testBit r = false → readAt cx tm hp pd (befs.getD r 0) op = some v := by
  intro l
  induction l with
  | nil => intro _ r tm op v hm; simp at hm
  | cons p l ih =>
    obtain ⟨r1, tm1, op1, v1⟩ := p
    intro hk r tm op v hm hb
    simp only [readsOk, Bool.and_eq_true, Bool.or_eq_true] at hk
    rcases List.mem_cons.1 hm with he | hm
    · simp only [Prod.mk.injEq] at he
      obtain ⟨rfl, rfl, rfl, rfl⟩ := he
      rcases hk.1 with h2 | h2
      · rw [hb] at h2; cases h2
      · unfold readIs at h2
        split at h2
        · rename_i u hu; rw [hu, beqV_eq _ _ h2]
        · cases h2
    · exact ih hk.2 r tm op v hm hb

theorem dstIn_iff {d : Option Tmp} {l : List Tmp} : dstIn d l = true ↔ ∃ t, d = some t ∧ t ∈ l := by
  cases d with
  | none => simp [dstIn]
  | some d =>
    simp only [dstIn, List.any_eq_true, Option.some.injEq, exists_eq_left']
    constructor
    · rintro ⟨x, hx, he⟩
      rw [Nat.eq_of_beq_eq_true he]; exact hx
    · intro h; exact ⟨d, h, by simp⟩

/-! ### one step in the text's order -/
inductive SD (cx : Cx) (ov : Ov) (ih : CodeRun) (nt : Nat) (all : List Oper) (befs : List Nat) (i : Nat) (o : Oper) (ds ds' : DS) : Prop
  | skip (hw : wantedA all (limit ds.tm (looks all o)) o = some false) (hp : putDst nt ds.tm o.dst undef = some ds'.tm) (h1 : ds'.st = ds.st) (h2 : ds'.pend = ds.pend) (h3 : ds'.past = ds.past) (h4 : ds'.reads = ds.reads)
  | val (hw : wantedA all (limit ds.tm (looks all o)) o = some true) (hk : kindOf cx o.op = .pure) (v : Value) (hv : pureOp cx (limit ds.tm (looks all o)) o.op = some v) (hp : putDst nt ds.tm o.dst v = some ds'.tm)
      (h1 : ds'.st = ds.st) (h2 : ds'.pend = ds.pend) (h3 : ds'.past = ds.past) (h4 : ds'.reads = ds.reads)
  | alloc (hw : wantedA all (limit ds.tm (looks all o)) o = some true) (hk : kindOf cx o.op = .alloc) (ob : AObj) (f : Nat → Value) (hv : allocOp cx (limit ds.tm (looks all o)) o.op = some (ob, f)) (hp : putDst nt ds.tm o.dst (f ds.st.ct) = some ds'.tm)
      (h1 : ds'.st = ⟨ds.st.hp, ds.st.ct + 1⟩) (h2 : ds'.pend = (i, ds.st.ct, ob) :: ds.pend) (h3 : ds'.past = ds.past) (h4 : ds'.reads = ds.reads)
  | read (hw : wantedA all (limit ds.tm (looks all o)) o = some true) (hk : kindOf cx o.op = .read) (v : Value) (hv : readAt cx (limit ds.tm (looks all o)) ds.st.hp ds.pend (befs.getD i 0) o.op = some v)
      (hpast : pastOk cx (befs.getD i 0) (limit ds.tm (looks all o)) o.op v ds.past = true) (hp : putDst nt ds.tm o.dst v = some ds'.tm)
      (h1 : ds'.st = ds.st) (h2 : ds'.pend = ds.pend) (h3 : ds'.past = ds.past) (h4 : ds'.reads = (i, limit ds.tm (looks all o), o.op, v) :: ds.reads)
  | heavy (hw : wantedA all (limit ds.tm (looks all o)) o = some true) (hk : kindOf cx o.op = .heavy) (v : Value) (hv : opA cx ov ih (limit ds.tm (looks all o)) ⟨mergeP (befs.getD i 0) ds.pend ds.st.hp, ds.st.ct⟩ o = some (v, ds'.st))
      (hreads : readsOk cx befs (befs.getD i 0) ds'.st.hp (restP (befs.getD i 0) ds.pend) ds.reads = true) (hp : putDst nt ds.tm o.dst v = some ds'.tm)
      (h2 : ds'.pend = restP (befs.getD i 0) ds.pend) (h3 : ds'.past = (i, ds.st.hp, ds.pend) :: ds.past) (h4 : ds'.reads = ds.reads)

theorem stepD_sd {cx : Cx} {ov : Ov} {ih : CodeRun} {nt : Nat} {all : List Oper} {befs : List Nat} {i : Nat} {o : Oper} {ds ds' : DS} (h : stepD cx ov ih nt all befs i o ds = some ds') : SD cx ov ih nt all befs i o ds ds' := by
  unfold stepD at h
  split at h
  · simp at h
  · rename_i hw
    obtain ⟨h1, h2, h3, h4, h5⟩ := putD_st h
    exact .skip hw h5 h1 h2 h3 h4
  · rename_i hw
    split at h
    · rename_i hk
      split at h <;> (try (simp at h; done))
      rename_i v hv
      obtain ⟨h1, h2, h3, h4, h5⟩ := putD_st h
      exact .val hw hk v hv h5 h1 h2 h3 h4
    · rename_i hk
      split at h <;> (try (simp at h; done))
      rename_i ob f hv
      obtain ⟨h1, h2, h3, h4, h5⟩ := putD_st h
      exact .alloc hw hk ob f hv h5 h1 h2 h3 h4
    · rename_i hk
      split at h <;> (try (simp at h; done))
      rename_i v hv
      split at h <;> (try (simp at h; done))
      rename_i hpast
      obtain ⟨h1, h2, h3, h4, h5⟩ := putD_st h
      exact .read hw hk v hv hpast h5 h1 h2 h3 h4
    · rename_i hk
      split at h <;> (try (simp at h; done))
      rename_i v st' hv
      split at h <;> (try (simp at h; done))
      rename_i hreads
      obtain ⟨h1, h2, h3, h4, h5⟩ := putD_st h
      simp only at h1 h2 h3 h4 h5
      exact .heavy hw hk v (by rw [h1]; exact hv) (by rw [h1]; exact hreads) h5 h2 h3 h4

theorem SD.put {cx : Cx} {ov : Ov} {ih : CodeRun} {nt : Nat} {all : List Oper} {befs : List Nat} {i : Nat} {o : Oper} {ds ds' : DS} (h : SD cx ov ih nt all befs i o ds ds') : ∃ v, putDst nt ds.tm o.dst v = some ds'.tm := by
  cases h <;> exact ⟨_, by assumption⟩

theorem putDst_get {nt : Nat} {tm tm' : T Value} {d : Option Tmp} {v : Value} (h : putDst nt tm d v = some tm') (t : Nat) : (d ≠ some t → tm'.get t = tm.get t) ∧ (d = some t → tm'.get t = some v ∧ t < nt) := by
  unfold putDst at h
  split at h
  · simp at h; subst h; exact ⟨fun _ => rfl, fun h => by cases h⟩
  · rename_i d
    split at h <;> (try (simp at h; done))
    rename_i hb
    simp at h; subst h
    refine ⟨fun hne => ?_, fun he => ?_⟩
    · rw [T.get_set, if_neg (fun e => hne (by rw [e]))]
    · injection he with he; subst he
      exact ⟨by rw [T.get_set, if_pos rfl], Nat.le_of_ble_eq_true hb⟩

theorem trace_ex {cx : Cx} {ov : Ov} {ih : CodeRun} {nt : Nat} {all : List Oper} {befs : List Nat} : ∀ (l : List Oper) (i : Nat) (ds ds' : DS), stepsD cx ov ih nt all befs i l ds = some ds' →
    ∃ D : Nat → DS, D i = ds ∧ D (i + l.length) = ds' ∧ ∀ k o, l[k]? = some o → SD cx ov ih nt all befs (i + k) o (D (i + k)) (D (i + k + 1)) := by
  intro l
  induction l with
  | nil => intro i ds ds' h; simp [stepsD] at h; subst h; exact ⟨fun _ => ds, rfl, rfl, fun k o hk => by simp at hk⟩
  | cons o l ihl =>
    intro i ds ds' h
    simp only [stepsD] at h
    split at h <;> (try (simp at h; done))
    rename_i ds1 h1
    obtain ⟨D, d0, dn, hs⟩ := ihl (i + 1) ds1 ds' h
    refine ⟨fun k => if k = i then ds else D k, by simp, ?_, ?_⟩
    · simp only [List.length_cons]
      rw [if_neg (by omega), show i + (l.length + 1) = i + 1 + l.length by omega]
      exact dn
    · intro k p hk
      cases k with
      | zero =>
        simp at hk; subst hk
        simp only [Nat.add_zero, if_true]
        rw [if_neg (by omega), d0]
        exact stepD_sd h1
      | succ k =>
        simp at hk
        have := hs k p hk
        have e1 : ¬ (i + (k + 1) = i) := by omega
        have e2 : ¬ (i + (k + 1) + 1 = i) := by omega
        simp only [e1, e2, if_false]
        rw [show i + (k + 1) = i + 1 + k by omega]
        exact this

end Go.Ai

/-! Regions whose order is open: any order comes to the same. -/
namespace Go.Ai
open Go

section
variable {P : Program} {ov : Ov} {ih : CodeRun} {nt : Nat} {all : List Oper} {D : Nat → DS}

/-- executed, and heavy -/
def EH (P : Program) (all : List Oper) (D : Nat → DS) (k : Nat) : Prop :=
  ∃ o, all[k]? = some o ∧ wantedA all (limit (D k).tm (looks all o)) o = some true ∧ kindOf (Cx.of P) o.op = .heavy

def AL (P : Program) (all : List Oper) (D : Nat → DS) (j id : Nat) (o : AObj) : Prop :=
  ∃ p f, all[j]? = some p ∧ wantedA all (limit (D j).tm (looks all p)) p = some true ∧ kindOf (Cx.of P) p.op = .alloc ∧
    allocOp (Cx.of P) (limit (D j).tm (looks all p)) p.op = some (o, f) ∧ id = (D j).st.ct

def GL (P : Program) (all : List Oper) (D : Nat → DS) (L : Nat → Prop) (q : Nat) (id : Nat) (o : AObj) : Prop :=
  (D q).st.hp.get id = some o ∨ (∃ j, L j ∧ (j, id, o) ∈ (D q).pend) ∨ (∃ j, q ≤ j ∧ L j ∧ AL P all D j id o)

def TL (all : List Oper) (D : Nat → DS) (L : Nat → Prop) (t : Nat) (v : Value) : Prop :=
  (∃ j o, L j ∧ all[j]? = some o ∧ o.dst = some t ∧ (D (j + 1)).tm.get t = some v ∧ ∀ j' o', L j' → all[j']? = some o' → o'.dst = some t → j' ≤ j) ∨
  ((∀ j o, L j → all[j]? = some o → o.dst ≠ some t) ∧ (D 0).tm.get t = some v)

abbrev Steps (P : Program) (ov : Ov) (ih : CodeRun) (nt : Nat) (all : List Oper) (D : Nat → DS) : Prop :=
  ∀ k o, all[k]? = some o → SD (Cx.of P) ov ih nt all (befsOf all []) k o (D k) (D (k + 1))

theorem eh_not {k : Nat} {o : Oper} (ho : all[k]? = some o) (h : ¬ EH P all D k) : wantedA all (limit (D k).tm (looks all o)) o = some true → kindOf (Cx.of P) o.op ≠ .heavy :=
  fun h1 h2 => h ⟨o, ho, h1, h2⟩

theorem GL_move (hS : Steps P ov ih nt all D) {q : Nat} (hq : q < all.length) (hne : ¬ EH P all D q) (L : Nat → Prop) (id : Nat) (o : AObj) : GL P all D L q id o ↔ GL P all D L (q + 1) id o := by
  obtain ⟨p, hp⟩ : ∃ p, all[q]? = some p := ⟨all[q], List.getElem?_eq_getElem hq⟩
  have hsd := hS q p hp
  have third : (∀ i2 o2, ¬ AL P all D q i2 o2) → ((∃ j, q ≤ j ∧ L j ∧ AL P all D j id o) ↔ ∃ j, q + 1 ≤ j ∧ L j ∧ AL P all D j id o) := by
    intro hno
    constructor
    · rintro ⟨j, h1, h2, h3⟩
      by_cases e : j = q
      · subst e; exact absurd h3 (hno _ _)
      · exact ⟨j, by omega, h2, h3⟩
    · rintro ⟨j, h1, h2, h3⟩; exact ⟨j, by omega, h2, h3⟩
  unfold GL
  cases hsd with
  | skip hw hput h1 h2 h3 h4 =>
    rw [h1, h2, third]
    rintro i2 o2 ⟨p', f, hp', hw', _⟩
    rw [hp] at hp'; injection hp' with hp'; subst hp'
    rw [hw] at hw'; cases hw'
  | val hw hk v hv hput h1 h2 h3 h4 =>
    rw [h1, h2, third]
    rintro i2 o2 ⟨p', f, hp', _, hk', _⟩
    rw [hp] at hp'; injection hp' with hp'; subst hp'
    rw [hk] at hk'; cases hk'
  | read hw hk v hv hpast hput h1 h2 h3 h4 =>
    rw [h1, h2, third]
    rintro i2 o2 ⟨p', f, hp', _, hk', _⟩
    rw [hp] at hp'; injection hp' with hp'; subst hp'
    rw [hk] at hk'; cases hk'
  | heavy hw hk => exact absurd ⟨p, hp, hw, hk⟩ hne
  | alloc hw hk ob f hv hput h1 h2 h3 h4 =>
    rw [h1, h2]
    simp only
    have hal : AL P all D q (D q).st.ct ob := ⟨p, f, hp, hw, hk, hv, rfl⟩
    have huniq : ∀ i2 o2, AL P all D q i2 o2 → i2 = (D q).st.ct ∧ o2 = ob := by
      rintro i2 o2 ⟨p', f', hp', _, _, hv', hi⟩
      rw [hp] at hp'; injection hp' with hp'; subst hp'
      rw [hv] at hv'; simp at hv'; exact ⟨hi, hv'.1.symm⟩
    constructor
    · rintro (h | ⟨j, hj, hm⟩ | ⟨j, g1, g2, g3⟩)
      · exact .inl h
      · exact .inr (.inl ⟨j, hj, by simp [hm]⟩)
      · by_cases e : j = q
        · subst e
          obtain ⟨rfl, rfl⟩ := huniq _ _ g3
          exact .inr (.inl ⟨j, g2, by simp⟩)
        · exact .inr (.inr ⟨j, by omega, g2, g3⟩)
    · rintro (h | ⟨j, hj, hm⟩ | ⟨j, h1, h2, h3⟩)
      · exact .inl h
      · rcases List.mem_cons.1 hm with he | hm
        · simp only [Prod.mk.injEq] at he
          obtain ⟨rfl, rfl, rfl⟩ := he
          exact .inr (.inr ⟨j, Nat.le_refl _, hj, hal⟩)
        · exact .inr (.inl ⟨j, hj, hm⟩)
      · exact .inr (.inr ⟨j, by omega, h2, h3⟩)

theorem GL_range (hS : Steps P ov ih nt all D) (L : Nat → Prop) (id : Nat) (o : AObj) : ∀ (d q : Nat), q + d ≤ all.length → (∀ h, q ≤ h → h < q + d → ¬ EH P all D h) → (GL P all D L q id o ↔ GL P all D L (q + d) id o) := by
  intro d
  induction d with
  | zero => intro q _ _; exact Iff.rfl
  | succ d ihd =>
    intro q hq hne
    rw [ihd q (by omega) (fun h h1 h2 => hne h h1 (by omega))]
    exact GL_move hS (by omega) (hne _ (by omega) (by omega)) L id o

theorem GL_between (hS : Steps P ov ih nt all D) (L : Nat → Prop) {q q' : Nat} (hq : q ≤ all.length) (hq' : q' ≤ all.length) (h1 : ∀ h, q ≤ h → h < q' → ¬ EH P all D h) (h2 : ∀ h, q' ≤ h → h < q → ¬ EH P all D h) (id : Nat) (o : AObj) :
    GL P all D L q id o ↔ GL P all D L q' id o := by
  rcases Nat.le_total q q' with h | h
  · have := GL_range hS L id o (q' - q) q (by omega) (fun k h3 h4 => h1 k h3 (by omega))
    rwa [show q + (q' - q) = q' by omega] at this
  · have := GL_range hS L id o (q - q') q' (by omega) (fun k h3 h4 => h2 k h3 (by omega))
    rw [show q' + (q - q') = q by omega] at this
    exact this.symm

/-- what the logs hold -/
theorem past_mem (hS : Steps P ov ih nt all D) {h : Nat} (hE : EH P all D h) : ∀ d, h + 1 + d ≤ all.length → (h, (D h).st.hp, (D h).pend) ∈ (D (h + 1 + d)).past := by
  intro d
  induction d with
  | zero =>
    intro hle
    obtain ⟨o, ho, hw, hk⟩ := hE
    cases hS h o ho with
    | skip hw' => rw [hw] at hw'; cases hw'
    | val _ hk' => rw [hk] at hk'; cases hk'
    | alloc _ hk' => rw [hk] at hk'; cases hk'
    | read _ hk' => rw [hk] at hk'; cases hk'
    | heavy _ _ v hv hr hput h2 h3 h4 => rw [Nat.add_zero, h3]; simp
  | succ d ihd =>
    intro hle
    have := ihd (by omega)
    obtain ⟨p, hp⟩ : ∃ p, all[h + 1 + d]? = some p := ⟨all[h + 1 + d], List.getElem?_eq_getElem (by omega)⟩
    have hs := hS _ p hp
    rw [show h + 1 + (d + 1) = h + 1 + d + 1 by omega]
    cases hs with
    | skip _ _ _ _ h3 => rw [h3]; exact this
    | val _ _ _ _ _ _ _ h3 => rw [h3]; exact this
    | alloc _ _ _ _ _ _ _ _ h3 => rw [h3]; exact this
    | read _ _ _ _ _ _ _ _ h3 => rw [h3]; exact this
    | heavy _ _ _ _ _ _ _ h3 => rw [h3]; simp [this]

theorem reads_mem (hS : Steps P ov ih nt all D) {r : Nat} {x : Nat × T Value × Op × Value} (hx : x ∈ (D (r + 1)).reads) : ∀ d, r + 1 + d ≤ all.length → x ∈ (D (r + 1 + d)).reads := by
  intro d
  induction d with
  | zero => intro _; exact hx
  | succ d ihd =>
    intro hle
    have := ihd (by omega)
    obtain ⟨p, hp⟩ : ∃ p, all[r + 1 + d]? = some p := ⟨all[r + 1 + d], List.getElem?_eq_getElem (by omega)⟩
    have hs := hS _ p hp
    rw [show r + 1 + (d + 1) = r + 1 + d + 1 by omega]
    cases hs with
    | skip _ _ _ _ _ h4 => rw [h4]; exact this
    | val _ _ _ _ _ _ _ _ h4 => rw [h4]; exact this
    | alloc _ _ _ _ _ _ _ _ _ h4 => rw [h4]; exact this
    | read _ _ _ _ _ _ _ _ _ h4 => rw [h4]; simp [this]
    | heavy _ _ _ _ _ _ _ _ h4 => rw [h4]; exact this

theorem ct_mono (hovm : OvMono ov) (hihm : RunMono ih) (hS : Steps P ov ih nt all D) : ∀ d k, k + d ≤ all.length → (D k).st.ct ≤ (D (k + d)).st.ct := by
  intro d
  induction d with
  | zero => intro k _; exact Nat.le_refl _
  | succ d ihd =>
    intro k hle
    refine Nat.le_trans (ihd k (by omega)) ?_
    obtain ⟨p, hp⟩ : ∃ p, all[k + d]? = some p := ⟨all[k + d], List.getElem?_eq_getElem (by omega)⟩
    have hs := hS _ p hp
    rw [show k + (d + 1) = k + d + 1 by omega]
    cases hs with
    | skip _ _ h1 => rw [h1]; exact Nat.le_refl _
    | val _ _ _ _ _ h1 => rw [h1]; exact Nat.le_refl _
    | alloc _ _ _ _ _ _ h1 => rw [h1]; simp
    | read _ _ _ _ _ _ h1 => rw [h1]; exact Nat.le_refl _
    | heavy _ _ _ hv => have := opA_ct hovm hihm hv; exact this

/-- temporaries -/
theorem tm_keep (hS : Steps P ov ih nt all D) {k : Nat} {o : Oper} (ho : all[k]? = some o) {t : Nat} (hd : o.dst ≠ some t) : (D (k + 1)).tm.get t = (D k).tm.get t := by
  obtain ⟨v, hp⟩ := (hS k o ho).put
  exact (putDst_get hp t).1 hd

theorem tm_last (hS : Steps P ov ih nt all D) (t : Nat) (v : Value) : ∀ i, i ≤ all.length → (D i).tm.get t = some v →
    (∃ j o, j < i ∧ all[j]? = some o ∧ o.dst = some t ∧ (D (j + 1)).tm.get t = some v ∧ ∀ j' o', j' < i → all[j']? = some o' → o'.dst = some t → j' ≤ j) ∨
    ((∀ j o, j < i → all[j]? = some o → o.dst ≠ some t) ∧ (D 0).tm.get t = some v) := by
  intro i
  induction i with
  | zero => intro _ h; exact .inr ⟨fun j o hj => by omega, h⟩
  | succ i ihi =>
    intro hle h
    obtain ⟨p, hp⟩ : ∃ p, all[i]? = some p := ⟨all[i], List.getElem?_eq_getElem (by omega)⟩
    by_cases hd : p.dst = some t
    · exact .inl ⟨i, p, by omega, hp, hd, h, fun j' o' h1 _ _ => by omega⟩
    · rw [tm_keep hS hp hd] at h
      rcases ihi (by omega) h with ⟨j, o, h1, h2, h3, h4, h5⟩ | ⟨h1, h2⟩
      · refine .inl ⟨j, o, by omega, h2, h3, h4, fun j' o' h6 h7 h8 => ?_⟩
        by_cases e : j' = i
        · subst e; rw [hp] at h7; injection h7 with h7; subst h7; exact absurd h8 hd
        · exact h5 j' o' (by omega) h7 h8
      · refine .inr ⟨fun j o h6 h7 h8 => ?_, h2⟩
        by_cases e : j = i
        · subst e; rw [hp] at h7; injection h7 with h7; subst h7; exact hd h8
        · exact h1 j o (by omega) h7 h8

end
end Go.Ai

/-! No object appears out of nowhere. -/
namespace Go.Ai
open Go

def Ids (st st' : St) : Prop := ∀ id o, st'.hp.get id = some o → (∃ o', st.hp.get id = some o') ∨ (st.ct ≤ id ∧ id < st'.ct)

theorem Ids.refl (st : St) : Ids st st := fun _ o h => .inl ⟨o, h⟩
theorem Ids.trans {a b c : St} (h : Ids a b) (h' : Ids b c) (h1 : a.ct ≤ b.ct) (h2 : b.ct ≤ c.ct) : Ids a c := by
  intro id o hg
  rcases h' id o hg with ⟨o', hg'⟩ | h3
  · rcases h id o' hg' with h4 | h4
    · exact .inl h4
    · exact .inr ⟨h4.1, by omega⟩
  · exact .inr ⟨by omega, h3.2⟩

theorem Ids.set {st : St} {r : Nat} {ob o : AObj} (h : st.hp.get r = some ob) : Ids st { st with hp := st.hp.set r o } := by
  intro id o' hg
  simp only [T.get_set] at hg
  split at hg
  · rename_i e; subst e; exact .inl ⟨_, h⟩
  · exact .inl ⟨_, hg⟩
theorem Ids.add {st : St} {o : AObj} : Ids st ⟨st.hp.set st.ct o, st.ct + 1⟩ := by
  intro id o' hg
  simp only [T.get_set] at hg
  split at hg
  · rename_i e; subst e; exact .inr ⟨Nat.le_refl _, by simp⟩
  · exact .inl ⟨_, hg⟩

theorem writeCells_ids {st st' : St} {a : Addr} {vs : List Value} (h : writeCells st a vs = some st') : Ids st st' := by
  unfold writeCells at h
  split at h <;> (try (simp at h; done))
  rename_i hg
  split at h <;> (try (simp at h; done))
  split at h <;> (try (simp at h; done))
  simp at h; subst h; exact Ids.set hg

theorem growA_ids {e : TypeId} {old l : List Value} {need : Nat} {st : St} {v : Value} {st' : St} (h : growA e old l need st.hp st.ct = some (v, st')) : Ids st st' := by
  obtain ⟨_, _, rfl⟩ := growA_spec h; exact Ids.add
theorem growA_ids' {e : TypeId} {old l : List Value} {need r : Nat} {st : St} {v : Value} {st' : St} (h : growA e old l need (st.hp.del r) st.ct = some (v, st')) : Ids st st' := by
  obtain ⟨_, _, rfl⟩ := growA_spec h
  intro id o' hg
  simp only [T.get_set, T.get_del] at hg
  split at hg
  · rename_i e; subst e; exact .inr ⟨Nat.le_refl _, by simp⟩
  · split at hg
    · cases hg
    · exact .inl ⟨_, hg⟩

theorem appendTo_ids {cx : Cx} {e : TypeId} {i : TypeInfo} {s : Value} {n : Nat} {l : List Value} {st st' : St} {v : Value} (h : appendTo cx e i s n l st = some (v, st')) : Ids st st' := by
  unfold appendTo at h
  repeat' (split at h)
  all_goals first
    | (simp at h; done)
    | exact growA_ids h
    | exact growA_ids' h
    | (simp at h; obtain ⟨_, rfl⟩ := h; first | exact Ids.refl _ | exact writeCells_ids (by assumption))

theorem appendA_ids {cx : Cx} {ts : List TypeId} {s x : Value} {st st' : St} {v : Value} (h : appendA cx ts s x st = some (v, st')) : Ids st st' := by
  unfold appendA at h
  repeat' (split at h)
  all_goals first
    | (simp at h; done)
    | exact appendTo_ids h

theorem copyA_ids {cx : Cx} {t : TypeId} {d x : Value} {st st' : St} {v : Value} (h : copyA cx t d x st = some (v, st')) : Ids st st' := by
  unfold copyA at h
  repeat' (split at h)
  all_goals first
    | (simp at h; done)
    | (simp at h; obtain ⟨_, rfl⟩ := h; first | exact Ids.refl _ | exact writeCells_ids (by assumption))

theorem updateA_ids {cx : Cx} {t : TypeId} {m k v : Value} {st st' : St} (h : updateA cx t m k v st = some st') : Ids st st' := by
  unfold updateA at h
  split at h <;> (try (simp at h; done))
  split at h <;> (try (simp at h; done))
  rename_i hg
  repeat' (split at h)
  all_goals first
    | (simp at h; done)
    | (simp at h; subst h; exact Ids.set hg)

theorem deleteA_ids {cx : Cx} {t : TypeId} {m k v : Value} {st st' : St} (h : deleteA cx t m k st = some (v, st')) : Ids st st' := by
  unfold deleteA at h
  split at h <;> (try (simp at h; done))
  · split at h <;> (try (simp at h; done))
    simp at h; obtain ⟨_, rfl⟩ := h; exact Ids.refl _
  split at h <;> (try (simp at h; done))
  rename_i hg
  repeat' (split at h)
  all_goals first
    | (simp at h; done)
    | (simp at h; obtain ⟨_, rfl⟩ := h; first | exact Ids.set hg | exact Ids.refl _)

theorem clearA_ids {cx : Cx} {t : TypeId} {x v : Value} {st st' : St} (h : clearA cx t x st = some (v, st')) : Ids st st' := by
  unfold clearA at h
  split at h <;> (try (simp at h; done))
  · simp at h; obtain ⟨_, rfl⟩ := h; exact Ids.refl _
  · split at h <;> (try (simp at h; done))
    rename_i hg
    simp at h; obtain ⟨_, rfl⟩ := h; exact Ids.set hg
  · simp at h; obtain ⟨_, rfl⟩ := h; exact Ids.refl _
  · repeat' (split at h)
    all_goals first
      | (simp at h; done)
      | (simp at h; obtain ⟨_, rfl⟩ := h; first | exact Ids.refl _ | exact writeCells_ids (by assumption))

theorem sliceDataA_ids {cx : Cx} {t : TypeId} {x v : Value} {st st' : St} (h : sliceDataA cx t x st = some (v, st')) : Ids st st' := by
  unfold sliceDataA at h
  repeat' (split at h)
  all_goals first
    | (simp at h; done)
    | (simp at h; obtain ⟨_, rfl⟩ := h; exact Ids.refl _)

theorem unsafeStringA_ids {cx : Cx} {t : TypeId} {p l v : Value} {st st' : St} (h : unsafeStringA cx t p l st = some (v, st')) : Ids st st' := by
  unfold unsafeStringA at h
  repeat' (split at h)
  all_goals first
    | (simp at h; done)
    | (simp at h; obtain ⟨_, rfl⟩ := h; first | exact Ids.refl _ | exact Ids.set (by assumption))

theorem heavyOp_ids {cx : Cx} {tm : T Value} {st st' : St} {op : Op} {v : Value} (h : heavyOp cx tm st op = some (v, st')) : Ids st st' := by
  cases op <;> simp only [heavyOp] at h <;> (try (simp at h; done))
  case store =>
    repeat' (split at h)
    all_goals first
      | (simp at h; done)
      | (simp at h; obtain ⟨_, rfl⟩ := h; exact writeCells_ids (by assumption))
  case insert =>
    repeat' (split at h)
    all_goals first
      | (simp at h; done)
      | (simp at h; obtain ⟨_, rfl⟩ := h; exact updateA_ids (by assumption))
  case mapUpdate =>
    repeat' (split at h)
    all_goals first
      | (simp at h; done)
      | (simp at h; obtain ⟨_, rfl⟩ := h; exact updateA_ids (by assumption))
  case range =>
    repeat' (split at h)
    all_goals first
      | (simp at h; done)
      | (simp at h; obtain ⟨_, rfl⟩ := h; exact Ids.add)
  case next =>
    split at h <;> (try (simp at h; done))
    split at h <;> (try (simp at h; done))
    split at h <;> (try (simp at h; done))
    rename_i hg
    split at h
    · simp at h; obtain ⟨_, rfl⟩ := h; exact Ids.set hg
    · simp at h; obtain ⟨_, rfl⟩ := h; exact Ids.refl _
  case call c =>
    unfold heavyCall at h
    repeat' (split at h)
    all_goals first
      | (simp at h; done)
      | exact appendA_ids h
      | exact copyA_ids h
      | exact deleteA_ids h
      | exact clearA_ids h
      | exact sliceDataA_ids h
      | exact unsafeStringA_ids h

structure OvIds (ov : Ov) : Prop where
  fn : ∀ f g args st v st', ov f = some g → g args st = some (v, st') → Ids st st'
  lp : ∀ a g nt tm st ex tm' st', ov.lp a = some g → g nt tm st = some (ex, tm', st') → Ids st st'
def RunIds (ih : CodeRun) : Prop := ∀ c nt tm st ex tm' st', ih c nt tm st = some (ex, tm', st') → Ids st st'

theorem callA_ids {cx : Cx} {ov : Ov} {ih : CodeRun} (hov : OvIds ov) (hih : RunIds ih) {f : Nat} {args : List Value} {st st' : St} {v : Value} (h : callA cx ov ih f args st = some (v, st')) : Ids st st' := by
  unfold callA at h
  split at h
  · exact hov.fn _ _ _ _ _ _ (by assumption) h
  · split at h <;> (try (simp at h; done))
    split at h <;> (try (simp at h; done))
    split at h <;> (try (simp at h; done))
    split at h <;> (try (simp at h; done))
    rename_i hc
    have := hih _ _ _ _ _ _ _ hc
    split at h <;> (try (simp at h; done))
    split at h <;> (try (simp at h; done))
    split at h <;> (try (simp at h; done)) <;> (simp at h; obtain ⟨_, rfl⟩ := h; exact this)

theorem yieldA_ids {ih : CodeRun} (hihm : RunMono ih) (hih : RunIds ih) {l : Nat} {as : List Value} {st st' : St} {v : Value} (h : yieldA ih l as st = some (v, st')) : Ids st st' := by
  obtain ⟨tm, nt, ps, as1, bo, t1, t2, s2, tm2, nt2, ps2, as2, bo2, e2, t3, s3, tm3, nt3, ps3, as3, bo3, _, _, _, _, h1, hg2, h2, hg3, h3⟩ := yieldA_some h
  have a := hihm _ _ _ _ _ _ _ h1
  have b := hihm _ _ _ _ _ _ _ h2
  have c := hih _ _ _ _ _ _ _ h1
  have d := hih _ _ _ _ _ _ _ h2
  have e := (c.trans (Ids.set hg2) a (Nat.le_refl _)).trans d a b
  rcases h3 with ⟨_, _, rfl⟩ | ⟨_, _, rfl⟩
  · exact e.trans (Ids.set hg3) (Nat.le_trans a b) (Nat.le_refl _)
  · exact e.trans (Ids.set hg3) (Nat.le_trans a b) (Nat.le_refl _)

theorem Ids.del {st : St} {r : Nat} : Ids st { st with hp := st.hp.del r } := by
  intro id o' hg
  simp only [T.get_del] at hg
  split at hg
  · cases hg
  · exact .inl ⟨_, hg⟩

theorem rangeA_ids {cx : Cx} {ov : Ov} {ih : CodeRun} (hovm : OvMono ov) (hihm : RunMono ih) (hov : OvIds ov) (hih : RunIds ih) {f : Operand} {ps : List Tmp} {assign body : Code} {nt : Nat} {tm tm' : T Value} {st st' : St} {ex : Ex} (h : rangeA cx ov ih f ps assign body nt tm st = some (ex, tm', st')) : Ids st st' := by
  obtain ⟨k, first, captured, v, s2, ls, pend, tm2, nt2, ps2, as2, bo2, _, _, h1, _, _, _, rfl, _⟩ := rangeA_some h
  have a := callA_ct hovm hihm h1
  simp only at a
  exact (Ids.add.trans (callA_ids hov hih h1) (Nat.le_succ _) a).trans Ids.del (by omega) (Nat.le_refl _)

theorem scopeA_ids {ih : CodeRun} (hihm : RunMono ih) (hih : RunIds ih) {body : Code} {nt : Nat} : ∀ {n : Nat} {c : Code} {tm tm' : T Value} {st st' : St} {ex : Ex}, scopeA ih body nt n c tm st = some (ex, tm', st') → Ids st st' := by
  intro n
  induction n with
  | zero => intro c tm tm' st st' ex h; simp [scopeA] at h
  | succ n ihn =>
    intro c tm tm' st st' ex h
    simp only [scopeA] at h
    split at h <;> (try (simp at h; done))
    rename_i h1
    have a := hihm _ _ _ _ _ _ _ h1
    have b := hih _ _ _ _ _ _ _ h1
    split at h
    · split at h
      · exact b.trans (ihn h) a (scopeA_ct hihm h)
      · simp at h; obtain ⟨_, _, rfl⟩ := h; exact b
    · simp at h; obtain ⟨_, _, rfl⟩ := h; exact b

theorem opA_ids {cx : Cx} {ov : Ov} {ih : CodeRun} (hihm : RunMono ih) (hov : OvIds ov) (hih : RunIds ih) {tm : T Value} {st st' : St} {o : Oper} {v : Value} (h : opA cx ov ih tm st o = some (v, st')) : Ids st st' := by
  unfold opA at h
  split at h
  · split at h <;> (try (simp at h; done))
    simp at h; obtain ⟨_, rfl⟩ := h; exact Ids.refl _
  · split at h <;> (try (simp at h; done))
    simp at h; obtain ⟨_, rfl⟩ := h; exact Ids.add
  · split at h <;> (try (simp at h; done))
    simp at h; obtain ⟨_, rfl⟩ := h; exact Ids.refl _
  · split at h
    · rename_i hh
      simp at h; subst h
      exact heavyOp_ids hh
    · unfold callOp at h
      split at h <;> (try (simp at h; done))
      split at h <;> (try (simp at h; done))
      split at h <;> (try (simp at h; done))
      split at h <;> (try (simp at h; done))
      · exact callA_ids hov hih h
      · split at h <;> (try (simp at h; done))
        exact yieldA_ids hihm hih h

theorem opsA_ids {cx : Cx} {ov : Ov} {ih : CodeRun} (hovm : OvMono ov) (hihm : RunMono ih) (hov : OvIds ov) (hih : RunIds ih) {nt : Nat} {all : List Oper} : ∀ {l : List Oper} {tm tm' : T Value} {st st' : St}, opsA cx ov ih nt all l tm st = some (tm', st') → Ids st st' := by
  intro l
  induction l with
  | nil => intro tm tm' st st' h; simp [opsA] at h; obtain ⟨_, rfl⟩ := h; exact Ids.refl _
  | cons o l ih2 =>
    intro tm tm' st st' h
    simp only [opsA] at h
    split at h <;> (try (simp at h; done))
    · split at h <;> (try (simp at h; done))
      rename_i ho
      split at h <;> (try (simp at h; done))
      exact (opA_ids hihm hov hih ho).trans (ih2 h) (opA_ct hovm hihm ho) (opsA_ct hovm hihm h)
    · split at h <;> (try (simp at h; done))
      exact ih2 h

section
variable {P : Program} {ov : Ov} {ih : CodeRun} {nt : Nat} {all : List Oper} {D : Nat → DS}

/-- in the text's order: whence the objects are -/
structure Whence (D : Nat → DS) (k : Nat) : Prop where
  hp : ∀ id o, (D k).st.hp.get id = some o → (∃ o', (D 0).st.hp.get id = some o') ∨ ∃ j, j < k ∧ (D j).st.ct ≤ id ∧ id < (D (j + 1)).st.ct ∧ ∀ i2 ob, (j, i2, ob) ∉ (D k).pend
  pend : ∀ j id ob, (j, id, ob) ∈ (D k).pend → j < k ∧ (D j).st.ct ≤ id ∧ id < (D (j + 1)).st.ct

theorem whence (_hovm : OvMono ov) (hihm : RunMono ih) (hov : OvIds ov) (hih : RunIds ih) (hS : Steps P ov ih nt all D) (h0 : (D 0).pend = []) : ∀ k, k ≤ all.length → Whence D k := by
  intro k
  induction k with
  | zero => intro _; exact ⟨fun id o h => .inl ⟨o, h⟩, fun j id ob h => by rw [h0] at h; simp at h⟩
  | succ k ihk =>
    intro hle
    have hW := ihk (by omega)
    obtain ⟨p, hp⟩ : ∃ p, all[k]? = some p := ⟨all[k], List.getElem?_eq_getElem (by omega)⟩
    have keep : (D (k + 1)).st.hp = (D k).st.hp → (D (k + 1)).pend = (D k).pend → Whence D (k + 1) := by
      intro h1 h2
      refine ⟨fun id o h => ?_, fun j id ob h => ?_⟩
      · rw [h1] at h
        rcases hW.hp id o h with h3 | ⟨j, h3, h4, h5, h6⟩
        · exact .inl h3
        · exact .inr ⟨j, by omega, h4, h5, by rw [h2]; exact h6⟩
      · rw [h2] at h
        obtain ⟨h3, h4⟩ := hW.pend j id ob h
        exact ⟨by omega, h4⟩
    cases hS k p hp with
    | skip _ _ h1 h2 => exact keep (by rw [h1]) h2
    | val _ _ _ _ _ h1 h2 => exact keep (by rw [h1]) h2
    | read _ _ _ _ _ _ h1 h2 => exact keep (by rw [h1]) h2
    | alloc _ _ ob f _ _ h1 h2 =>
      refine ⟨fun id o h => ?_, fun j id ob' h => ?_⟩
      · rw [h1] at h
        rcases hW.hp id o h with h3 | ⟨j, h3, h4, h5, h6⟩
        · exact .inl h3
        · refine .inr ⟨j, by omega, h4, h5, fun i2 ob2 hm => ?_⟩
          rw [h2] at hm
          rcases List.mem_cons.1 hm with he | hm
          · simp only [Prod.mk.injEq] at he; omega
          · exact h6 _ _ hm
      · rw [h2] at h
        rcases List.mem_cons.1 h with he | hm
        · simp only [Prod.mk.injEq] at he
          obtain ⟨rfl, rfl, rfl⟩ := he
          exact ⟨by omega, Nat.le_refl _, by rw [h1]; simp⟩
        · obtain ⟨h3, h4⟩ := hW.pend j id ob' hm
          exact ⟨by omega, h4⟩
    | heavy _ _ v hv _ _ h2 =>
      have hids := opA_ids hihm hov hih hv
      refine ⟨fun id o h => ?_, fun j id ob h => ?_⟩
      · have sub : ∀ i2 ob2, ∀ j, (j, i2, ob2) ∈ (D (k + 1)).pend → (j, i2, ob2) ∈ (D k).pend := by
          intro i2 ob2 j hm; rw [h2] at hm; exact (restP_mem _ _ hm).1
        rcases hids id o h with ⟨o', h3⟩ | h3
        · rcases mergeP_get _ _ _ _ h3 with h3 | ⟨j, h4, h5⟩
          · rcases hW.hp id o' h3 with h3 | ⟨j, h3, h4, h5, h6⟩
            · exact .inl h3
            · exact .inr ⟨j, by omega, h4, h5, fun i2 ob2 hm => h6 _ _ (sub _ _ _ hm)⟩
          · obtain ⟨h6, h7⟩ := hW.pend j id o' h5
            refine .inr ⟨j, by omega, h7.1, h7.2, fun i2 ob2 hm => ?_⟩
            rw [h2] at hm
            have := (restP_mem _ _ hm).2
            rw [h4] at this; cases this
        · refine .inr ⟨k, by omega, h3.1, h3.2, fun i2 ob2 hm => ?_⟩
          obtain ⟨h6, _⟩ := hW.pend k i2 ob2 (sub _ _ _ hm)
          omega
      · rw [h2] at h
        obtain ⟨h3, h4⟩ := hW.pend j id ob (restP_mem _ _ h).1
        exact ⟨by omega, h4⟩

end
end Go.Ai

/-! Regions whose order is open: the theorem. -/
namespace Go.Ai
open Go

section
variable {P : Program} {ov : Ov} {ih : CodeRun} {nt : Nat} {all : List Oper} {D : Nat → DS}

/-- all that the look says of the operations -/
structure Looked (P : Program) (all : List Oper) : Prop where
  nosel : noSelectA all = true
  tied : ∀ i j x y, i < j → all[i]? = some x → all[j]? = some y → tied (Cx.of P) all x y = true → ((befsOf all []).getD j 0).testBit i = true
  back : ∀ j y, all[j]? = some y → ∀ e ∈ y.after, Region.binds .any e = true → e.on < j
  bef : ∀ j y, all[j]? = some y → ∀ i, ((befsOf all []).getD j 0).testBit i = true → ∃ e ∈ y.after, Region.binds .any e = true ∧ (e.on = i ∨ (e.on < j ∧ ((befsOf all []).getD e.on 0).testBit i = true))

theorem looked_of (h : drawOk (Cx.of P) all = true) : Looked P all := by
  unfold drawOk at h
  simp only [Bool.and_eq_true] at h
  have hs := drawOkFrom_spec all 0 h.2
  refine ⟨h.1, ?_, ?_, ?_⟩
  · intro i j x y hij hx hy ht
    have := (hs j y hy).1
    rw [Nat.zero_add] at this
    have := tiedOk_spec _ 0 this i x (by rw [List.getElem?_take_of_lt hij]; exact hx) ht
    rwa [Nat.zero_add] at this
  · intro j y hy e he hb
    have := (hs j y hy).2
    rw [Nat.zero_add] at this
    exact backOk_spec _ this e (by simpa using he) hb
  · intro j y hy i hi
    have hg := befsOf_get all [] j y hy
    simp only [List.length_nil, Nat.zero_add] at hg
    rw [hg] at hi
    obtain ⟨e, he, hb, h2⟩ := befOf_spec _ hi
    refine ⟨e, by simpa using he, hb, ?_⟩
    rcases h2 with h2 | h2
    · exact .inl h2
    · right
      by_cases hlt : e.on < j
      · refine ⟨hlt, ?_⟩
        have : ((befsOf all []).take j).getD e.on 0 = (befsOf all []).getD e.on 0 := by
          simp [List.getD, List.getElem?_take_of_lt hlt]
        rwa [this] at h2
      · have : ((befsOf all []).take j).getD e.on 0 = 0 := by
          have : ((befsOf all []).take j)[e.on]? = none := by
            rw [List.getElem?_take]; simp [hlt]
          simp [List.getD, this]
        rw [this] at h2
        simp at h2

theorem noSel (h : noSelectA all = true) {j : Nat} {o : Oper} (ho : all[j]? = some o) (cs : Array SelectCase) (b : Bool) : o.op ≠ .select cs b := by
  have : ∀ (l : List Oper), noSelectA l = true → ∀ o ∈ l, o.op ≠ .select cs b := by
    intro l
    induction l with
    | nil => intro _ o ho; simp at ho
    | cons x l ih =>
      intro h o ho
      simp only [noSelectA, Bool.and_eq_true] at h
      rcases List.mem_cons.1 ho with rfl | ho
      · intro e; rw [e] at h; simp at h
      · exact ih h.2 o ho
  exact this all h o (List.mem_of_getElem? ho)

/-- whatever is listed, all ahead of it is -/
theorem closed_of (hL : Looked P all) {L : Nat → Prop} (hd : ∀ j y, L j → all[j]? = some y → ∀ e ∈ y.after, Region.binds .any e = true → L e.on) (hlt : ∀ j, L j → j < all.length) :
    ∀ j, L j → ∀ i, ((befsOf all []).getD j 0).testBit i = true → L i := by
  intro j
  induction j using Nat.strongRecOn with
  | _ j ihj =>
    intro hj i hi
    obtain ⟨y, hy⟩ : ∃ y, all[j]? = some y := ⟨all[j]'(hlt j hj), List.getElem?_eq_getElem _⟩
    obtain ⟨e, he, hb, h2⟩ := hL.bef j y hy i hi
    have hLe := hd j y hj hy e he hb
    rcases h2 with rfl | ⟨h3, h4⟩
    · exact hLe
    · exact ihj e.on h3 hLe i h4

structure Inv (P : Program) (all : List Oper) (D : Nat → DS) (m0 : Nat → Option Loc) (st : St) (w0 : World) (size : Nat) (ds : List Deferred) (L : Nat → Prop) (a : Act) (w : World) : Prop where
  ex : ∃ q, q ≤ all.length ∧ (∀ h, EH P all D h → (L h ↔ h < q)) ∧ ∃ m, Step (Cx.of P) m0 st.G w0 st.ct m (GL P all D L q) w (D all.length).st.ct ∧
    (∀ i l, m i = some l → m0 i = some l ∨ ∃ j, L j ∧ j < all.length ∧ (D j).st.ct ≤ i ∧ i < (D (j + 1)).st.ct) ∧
    (∀ t v, TL all D L t v → ∃ cv, a.tmps[t]? = some cv ∧ VRep m v cv)
  defers : a.defers = ds
  size : a.tmps.size = size

/-- what is looked at is as it was in the text's order -/
theorem look_rep (hS : Steps P ov ih nt all D) (hL : Looked P all) {L : Nat → Prop} (hcl : ∀ j, L j → ∀ i, ((befsOf all []).getD j 0).testBit i = true → L i)
    {i : Nat} {o : Oper} (ho : all[i]? = some o) (hi : ¬ L i) (hbef : ∀ j, ((befsOf all []).getD i 0).testBit j = true → L j) (_hlt : ∀ j, L j → j < all.length)
    {t : Nat} {v : Value} (h : (limit (D i).tm (looks all o)).get t = some v) : TL all D L t v := by
  obtain ⟨hlk, hget⟩ := limit_get _ _ _ h
  have hil : i < all.length := (List.getElem?_eq_some_iff.1 ho).1
  have before : ∀ j x, j < i → all[j]? = some x → x.dst = some t → L j := by
    intro j x hji hx hd
    refine hbef j (hL.tied j i x o hji hx ho ?_)
    have : dstIn x.dst (looks all o) = true := dstIn_iff.2 ⟨t, hd, hlk⟩
    simp [tied, this]
  have after : ∀ j x, L j → all[j]? = some x → x.dst = some t → j < i := by
    intro j x hj hx hd
    rcases Nat.lt_trichotomy j i with h1 | h1 | h1
    · exact h1
    · subst h1; exact absurd hj hi
    · have : dstIn x.dst (looks all o) = true := dstIn_iff.2 ⟨t, hd, hlk⟩
      exact absurd (hcl j hj i (hL.tied i j o x h1 ho hx (by simp [tied, this]))) hi
  rcases tm_last hS t v i (by omega) hget with ⟨j, x, h1, h2, h3, h4, h5⟩ | ⟨h1, h2⟩
  · exact .inl ⟨j, x, before j x h1 h2 h3, h2, h3, h4, fun j' o' h6 h7 h8 => h5 j' o' (after j' o' h6 h7 h8) h7 h8⟩
  · exact .inr ⟨fun j x hj hx hd => h1 j x (after j x hj hx hd) hx hd, h2⟩

/-- behind one more -/
theorem TL_more (_hS : Steps P ov ih nt all D) (hL : Looked P all) {L : Nat → Prop} (hcl : ∀ j, L j → ∀ i, ((befsOf all []).getD j 0).testBit i = true → L i)
    {i : Nat} {o : Oper} (ho : all[i]? = some o) (hi : ¬ L i) (_hlt : ∀ j, L j → j < all.length) {t : Nat} {v : Value} (h : TL all D (fun j => L j ∨ j = i) t v) :
    (o.dst = some t ∧ (D (i + 1)).tm.get t = some v) ∨ (o.dst ≠ some t ∧ TL all D L t v) := by
  by_cases hd : o.dst = some t
  · left
    refine ⟨hd, ?_⟩
    rcases h with ⟨j, x, h1, h2, h3, h4, h5⟩ | ⟨h1, _⟩
    · have hij : i ≤ j := h5 i o (.inr rfl) ho hd
      rcases Nat.lt_or_ge i j with h6 | h6
      · rcases h1 with h1 | h1
        · have : dstIn o.dst x.dst.toList = true := dstIn_iff.2 ⟨t, hd, by simp [h3]⟩
          exact absurd (hcl j h1 i (hL.tied i j o x h6 ho h2 (by simp [tied, this]))) hi
        · omega
      · obtain rfl : j = i := by omega
        exact h4
    · exact absurd hd (h1 i o (.inr rfl) ho)
  · right
    refine ⟨hd, ?_⟩
    rcases h with ⟨j, x, h1, h2, h3, h4, h5⟩ | ⟨h1, h2⟩
    · rcases h1 with h1 | h1
      · exact .inl ⟨j, x, h1, h2, h3, h4, fun j' o' h6 h7 h8 => h5 j' o' (.inl h6) h7 h8⟩
      · subst h1; rw [ho] at h2; injection h2 with h2; subst h2; exact absurd h3 hd
    · exact .inr ⟨fun j x hj => h1 j x (.inl hj), h2⟩

/-- temporaries behind the operation's own -/
theorem tmps_more (hS : Steps P ov ih nt all D) (hL : Looked P all) {L : Nat → Prop} (hcl : ∀ j, L j → ∀ i, ((befsOf all []).getD j 0).testBit i = true → L i)
    {i : Nat} {o : Oper} (ho : all[i]? = some o) (hi : ¬ L i) (hlt : ∀ j, L j → j < all.length) {m m' : Nat → Option Loc} (hm : ∀ i l, m i = some l → m' i = some l) {a : Act} (hn : nt ≤ a.tmps.size)
    (ht : ∀ t v, TL all D L t v → ∃ cv, a.tmps[t]? = some cv ∧ VRep m v cv) {u cu : Value} (hp : putDst nt (D i).tm o.dst u = some (D (i + 1)).tm) (hu : VRep m' u cu) :
    ∀ t v, TL all D (fun j => L j ∨ j = i) t v → ∃ cv, (a.put o.dst cu).tmps[t]? = some cv ∧ VRep m' v cv := by
  intro t v h
  rcases TL_more hS hL hcl ho hi hlt h with ⟨hd, hv⟩ | ⟨hd, h⟩
  · obtain ⟨h1, h2⟩ := (putDst_get hp t).2 hd
    rw [hv] at h1; injection h1 with h1; subst h1
    refine ⟨cu, ?_, hu⟩
    rw [hd]
    show (a.tmps.setIfInBounds t cu)[t]? = some cu
    rw [Array.getElem?_setIfInBounds_self_of_lt (by omega)]
  · obtain ⟨cv, h1, h2⟩ := ht t v h
    refine ⟨cv, ?_, h2.mono hm⟩
    cases hdd : o.dst with
    | none => exact h1
    | some d =>
      have : d ≠ t := fun e => hd (by rw [hdd, e])
      simp only [Act.put]
      rw [Array.getElem?_setIfInBounds_ne this]; exact h1

theorem put_more (a : Act) (d : Option Tmp) (v : Value) : (a.put d v).defers = a.defers ∧ (a.put d v).tmps.size = a.tmps.size := by
  cases d <;> simp [Act.put]

theorem eh_iff {i : Nat} {o : Oper} (_ho : all[i]? = some o) {L : Nat → Prop} {q : Nat} (hq : ∀ h, EH P all D h → (L h ↔ h < q)) (hne : ¬ EH P all D i) : ∀ h, EH P all D h → ((L h ∨ h = i) ↔ h < q) := by
  intro h hE
  have : h ≠ i := fun e => hne (e ▸ hE)
  simp [this, hq h hE]

end
end Go.Ai

/-! Regions whose order is open: the step, and the end. -/
namespace Go.Ai
open Go

theorem Step.trans2 {cx : Cx} {m m1 m2 : Nat → Option Loc} {G G1 G2 : Nat → AObj → Prop} {w w1 w2 : World} {ct cn c1 c2 : Nat} (h : Step cx m G w ct m1 G1 w1 cn) (h' : Step cx m1 G1 w1 c1 m2 G2 w2 c2) (hc : ct ≤ c1) (hc' : c2 ≤ cn) :
    Step cx m G w ct m2 G2 w2 cn where
  mono := fun i l hi => h'.mono i l (h.mono i l hi)
  dom := fun i l hi => by
    rcases h'.dom i l hi with h1 | h1
    · exact h.dom i l h1
    · exact .inr ⟨by omega, by omega⟩
  rep := h'.rep
  fr := {
    size := Nat.le_trans h.fr.size h'.fr.size
    os := h'.fr.os.trans h.fr.os
    tape := h'.fr.tape.trans h.fr.tape
    output := h'.fr.output.trans h.fr.output
    block := fun b hb hno => by
      rw [h'.fr.block b (Nat.lt_of_lt_of_le hb h.fr.size) ?_, h.fr.block b hb hno]
      intro id o l hg hw hl he
      rcases h.prov id o l hg hl with h1 | ⟨id0, o0, l0, hg0, hw0, hl0, he0⟩
      · omega
      · exact hno id0 o0 l0 hg0 (hw0 hw) hl0 (he0.trans he) }
  prov := fun id o l hg hl => by
    rcases h'.prov id o l hg hl with h1 | ⟨id0, o0, l0, hg0, hw0, hl0, he0⟩
    · exact .inl (Nat.le_trans h.fr.size h1)
    · rcases h.prov id0 o0 l0 hg0 hl0 with h2 | ⟨id1, o1, l1, hg1, hw1, hl1, he1⟩
      · exact .inl (by omega)
      · exact .inr ⟨id1, o1, l1, hg1, fun h => hw1 (hw0 h), hl1, he1.trans he0⟩

section
variable {P : Program} {ov : Ov} {ih : CodeRun} {nt : Nat} {all : List Oper} {D : Nat → DS}

/-- what neither makes nor changes memory -/
theorem same_val {ρ : Operand → Value} {o : Oper} {m : Nat → Option Loc} {w : World} {v : Value} (h : ∀ μ, Ext m μ → (execOp ρ o).run P w = .ok (.value (conc μ v)) w) :
    ∃ cv, (execOp ρ o).run P w = .ok (.value cv) w ∧ VRep m v cv := by
  refine ⟨_, h _ (some0_ext m), fun μ hμ => ?_⟩
  have := h μ hμ
  rw [h _ (some0_ext m)] at this
  injection this with this
  injection this with this
  exact this.symm

theorem last_ex {p : Nat → Prop} (a : Nat) : ∀ d, (∃ h, a < h ∧ h < a + d ∧ p h) → ∃ h, a < h ∧ h < a + d ∧ p h ∧ ∀ k, h < k → k < a + d → ¬ p k := by
  intro d
  induction d with
  | zero => rintro ⟨h, h1, h2, _⟩; omega
  | succ d ih =>
    rintro ⟨h, h1, h2, h3⟩
    by_cases hp : p (a + d) ∧ a < a + d
    · exact ⟨a + d, hp.2, by omega, hp.1, fun k h4 h5 => by omega⟩
    · obtain ⟨k, h4, h5, h6, h7⟩ := ih ⟨h, h1, by
        rcases Nat.lt_or_ge h (a + d) with h8 | h8
        · exact h8
        · exfalso; obtain rfl : h = a + d := by omega
          exact hp ⟨h3, h1⟩, h3⟩
      refine ⟨k, h4, by omega, h6, fun k' h8 h9 hk' => ?_⟩
      rcases Nat.lt_or_ge k' (a + d) with h10 | h10
      · exact h7 k' h8 h10 hk'
      · obtain rfl : k' = a + d := by omega
        exact hp ⟨hk', by omega⟩
theorem first_ex {p : Nat → Prop} : ∀ d (a : Nat), (∃ h, a ≤ h ∧ h < a + d ∧ p h) → ∃ h, a ≤ h ∧ h < a + d ∧ p h ∧ ∀ k, a ≤ k → k < h → ¬ p k := by
  intro d
  induction d with
  | zero => rintro a ⟨h, h1, h2, _⟩; omega
  | succ d ih =>
    rintro a ⟨h, h1, h2, h3⟩
    by_cases hp : p a
    · exact ⟨a, Nat.le_refl _, by omega, hp, fun k _ _ => by omega⟩
    · obtain ⟨k, h4, h5, h6, h7⟩ := ih (a + 1) ⟨h, by
        rcases Nat.lt_or_ge a h with h8 | h8
        · exact h8
        · exfalso; obtain rfl : h = a := by omega
          exact hp h3, by omega, h3⟩
      refine ⟨k, by omega, by omega, h6, fun k' h8 h9 hk' => ?_⟩
      rcases Nat.lt_or_ge a k' with h10 | h10
      · exact h7 k' h10 h9 hk'
      · obtain rfl : k' = a := by omega
        exact hp hk'

theorem wpOp_of {ops : Array Oper} {Q : Exit → Act → World → Prop} {i : Nat} {K : Act → World → Prop} {a : Act} {w : World} {o : Oper} (ho : ops[i]? = some o)
    {ro : Option Nat} (h1 : Region.wanted o (yielded ops a.tmps) = true → o.wpIn (FR ro) 0 P a w K Q) (h2 : Region.wanted o (yielded ops a.tmps) = false → K (a.put o.dst undef) w) : wpOpIn (FR ro) 0 P ops Q i K a w := by
  unfold wpOpIn
  simp only [ho]
  split
  · rename_i hw; exact h1 hw
  · rename_i hw; exact ⟨fun _ _ => trivial, h2 (by simpa using hw)⟩

theorem merged_sub {L : Nat → Prop} {q bef : Nat} (hb : ∀ j, bef.testBit j = true → L j) (n : Nat) : ∀ id o, (⟨mergeP bef (D q).pend (D q).st.hp, n⟩ : St).G id o → GL P all D L q id o := by
  intro id o h
  rcases mergeP_get _ _ _ _ h with h | ⟨j, h1, h2⟩
  · exact .inl h
  · exact .inr (.inl ⟨j, hb j h1, h2⟩)

theorem inv_step (hov : OvOk P ov) (hovm : OvMono ov) (hovi : OvIds ov) (hih : RunOk P ih) (hihm : RunMono ih) (hihi : RunIds ih) (hS : Steps P ov ih nt all D) (hL : Looked P all) {m0 : Nat → Option Loc} {st : St} {w0 : World} {size : Nat} {ds : List Deferred} {ro : Option Nat}
    (h0 : (D 0).pend = []) (hold : ∀ id o, (D 0).st.hp.get id = some o → ¬ (st.ct ≤ id ∧ id < (D all.length).st.ct)) (hct0 : (D 0).st.ct = st.ct) (hfresh : Fresh m0 st.ct (D all.length).st.ct) (hnt : nt ≤ size)
    {L : Nat → Prop} (hcl : ∀ j, L j → ∀ i, ((befsOf all []).getD j 0).testBit i = true → L i) (hlt : ∀ j, L j → j < all.length)
    {i : Nat} {o : Oper} (ho : all[i]? = some o) (hi : ¬ L i) (hbef : ∀ j, ((befsOf all []).getD i 0).testBit j = true → L j)
    {a : Act} {w : World} (hI : Inv P all D m0 st w0 size ds L a w) {Q : Exit → Act → World → Prop} {K : Act → World → Prop} (hK : ∀ a' w', Inv P all D m0 st w0 size ds (fun j => L j ∨ j = i) a' w' → K a' w') :
    wpOpIn (FR ro) 0 P all.toArray Q i K a w := by
  obtain ⟨⟨q, hqn, hq, m, hs, hdm, htm⟩, hdef, hsz⟩ := hI
  have hil : i < all.length := (List.getElem?_eq_some_iff.1 ho).1
  have hcti : (D i).st.ct ≤ (D (i + 1)).st.ct := ct_mono hovm hihm hS 1 i (by omega)
  have hctn : (D (i + 1)).st.ct ≤ (D all.length).st.ct := by
    have := ct_mono hovm hihm hS (all.length - (i + 1)) (i + 1) (by omega)
    rwa [show i + 1 + (all.length - (i + 1)) = all.length by omega] at this
  have hct1 : st.ct ≤ (D i).st.ct := by
    have := ct_mono hovm hihm hS i 0 (by omega)
    rw [Nat.zero_add, hct0] at this
    exact this
  -- what is new here is not told yet
  have hnewid : Fresh m (D i).st.ct (D (i + 1)).st.ct := by
    intro k hk1 hk2
    cases hm : m k with
    | none => rfl
    | some l =>
      rcases hdm k l hm with h1 | ⟨j, hj, hjl, h1, h2⟩
      · rw [hfresh k (by omega) (by omega)] at h1; cases h1
      · exfalso
        rcases Nat.lt_trichotomy j i with h3 | h3 | h3
        · have := ct_mono hovm hihm hS (i - (j + 1)) (j + 1) (by omega)
          rw [show j + 1 + (i - (j + 1)) = i by omega] at this
          omega
        · subst h3; exact hi hj
        · have := ct_mono hovm hihm hS (j - (i + 1)) (i + 1) (by omega)
          rw [show i + 1 + (j - (i + 1)) = j by omega] at this
          omega
  have htl : TmRep m (limit (D i).tm (looks all o)) a.tmps := fun t v hv => htm t v (look_rep hS hL hcl ho hi hbef hlt hv)
  have hLi : ∀ (id : Nat) (ob : AObj) (q : Nat), GL P all D (fun j => L j ∨ j = i) q id ob → GL P all D L q id ob ∨ AL P all D i id ob ∨ (i, id, ob) ∈ (D q).pend := by
    rintro id ob q (h | ⟨j, hj | hj, hm⟩ | ⟨j, h1, hj | hj, h2⟩)
    · exact .inl (.inl h)
    · exact .inl (.inr (.inl ⟨j, hj, hm⟩))
    · subst hj; exact .inr (.inr hm)
    · exact .inl (.inr (.inr ⟨j, h1, hj, h2⟩))
    · subst hj; exact .inr (.inl h2)
  have hdm' : ∀ (m' : Nat → Option Loc), (∀ k l, m' k = some l → m k = some l ∨ ((D i).st.ct ≤ k ∧ k < (D (i + 1)).st.ct)) →
      ∀ k l, m' k = some l → m0 k = some l ∨ ∃ j, (L j ∨ j = i) ∧ j < all.length ∧ (D j).st.ct ≤ k ∧ k < (D (j + 1)).st.ct := by
    intro m' h k l hk
    rcases h k l hk with h1 | h1
    · rcases hdm k l h1 with h2 | ⟨j, h2, h3⟩
      · exact .inl h2
      · exact .inr ⟨j, .inl h2, h3⟩
    · exact .inr ⟨i, .inr rfl, hil, h1⟩
  -- entries that are not merged were made
  have pend_al : ∀ d, d ≤ all.length → ∀ j id ob, (j, id, ob) ∈ (D d).pend → (D 0).pend = [] → AL P all D j id ob ∧ j < d := by
    intro d
    induction d with
    | zero => intro _ j id ob hm h0; rw [h0] at hm; simp at hm
    | succ d ihd =>
      intro hle j id ob hm h0
      obtain ⟨p, hp⟩ : ∃ p, all[d]? = some p := ⟨all[d], List.getElem?_eq_getElem (by omega)⟩
      cases hS d p hp with
      | skip _ _ _ h2 => rw [h2] at hm; obtain ⟨g1, g2⟩ := ihd (by omega) j id ob hm h0; exact ⟨g1, by omega⟩
      | val _ _ _ _ _ _ h2 => rw [h2] at hm; obtain ⟨g1, g2⟩ := ihd (by omega) j id ob hm h0; exact ⟨g1, by omega⟩
      | read _ _ _ _ _ _ _ h2 => rw [h2] at hm; obtain ⟨g1, g2⟩ := ihd (by omega) j id ob hm h0; exact ⟨g1, by omega⟩
      | heavy _ _ _ _ _ _ h2 =>
        rw [h2] at hm
        obtain ⟨g1, g2⟩ := ihd (by omega) j id ob (restP_mem _ _ hm).1 h0; exact ⟨g1, by omega⟩
      | alloc hw hk ob' f hv hput h1 h2 =>
        rw [h2] at hm
        rcases List.mem_cons.1 hm with he | hm
        · simp only [Prod.mk.injEq] at he
          obtain ⟨rfl, rfl, rfl⟩ := he
          exact ⟨⟨p, f, hp, hw, hk, hv, rfl⟩, by omega⟩
        · obtain ⟨g1, g2⟩ := ihd (by omega) j id ob hm h0; exact ⟨g1, by omega⟩
  have pend_i : ∀ d, d ≤ all.length → ∀ id ob, (i, id, ob) ∈ (D d).pend → AL P all D i id ob := fun d hd id ob hm => (pend_al d hd i id ob hm h0).1
  have hat : all.toArray[i]? = some o := by simpa using ho
  -- an operation that yields a value and leaves all as it is
  have quietly : (∀ id ob, ¬ AL P all D i id ob) → ¬ EH P all D i → ∀ u cu, putDst nt (D i).tm o.dst u = some (D (i + 1)).tm → VRep m u cu → K (a.put o.dst cu) w := by
    intro hnal hne u cu hp hu
    obtain ⟨hd1, hd2⟩ := put_more a o.dst cu
    refine hK _ _ ⟨⟨q, hqn, eh_iff ho hq hne, m, hs.sub fun id ob hg => ?_, hdm' m (fun k l h => .inl h), tmps_more hS hL hcl ho hi hlt (fun _ _ h => h) (by omega) htm hp hu⟩, hd1.trans hdef, hd2.trans hsz⟩
    rcases hLi id ob q hg with h | h | h
    · exact h
    · exact absurd h (hnal _ _)
    · exact absurd (pend_i q hqn _ _ h) (hnal _ _)
  have nal : kindOf (Cx.of P) o.op ≠ .alloc → ∀ id ob, ¬ AL P all D i id ob := by
    rintro hk id ob ⟨p', f, hp', _, hk', _⟩
    rw [ho] at hp'; injection hp' with hp'; subst hp'
    exact hk hk'
  have neh : kindOf (Cx.of P) o.op ≠ .heavy → ¬ EH P all D i := by
    rintro hk ⟨p', hp', _, hk'⟩
    rw [ho] at hp'; injection hp' with hp'; subst hp'
    exact hk hk'
  have hval : ∀ cv w', (∀ c, o.op ≠ .defer c) → (execOp a.eval o).run P w = .ok (.value cv) w' → K (a.put o.dst cv) w' → o.wpIn (FR ro) 0 P a w K Q := by
    intro cv w' hnd h1 h2
    refine ⟨fun _ _ => trivial, ?_⟩
    rw [Oper.semAt_eq _ _ _ hnd, h1]; exact h2
  cases hS i o ho with
  | skip hw hput h1 h2 h3 h4 =>
    refine wpOp_of hat (fun hw' => ?_) (fun _ => ?_)
    · rw [wanted_eq hw htl] at hw'; cases hw'
    · refine quietly ?_ ?_ _ _ hput (fun μ _ => conc_undef μ)
      · rintro id ob ⟨p', f, hp', hw', _⟩
        rw [ho] at hp'; injection hp' with hp'; subst hp'
        rw [hw] at hw'; cases hw'
      · rintro ⟨p', hp', hw', _⟩
        rw [ho] at hp'; injection hp' with hp'; subst hp'
        rw [hw] at hw'; cases hw'
  | val hw hk v hv hput h1 h2 h3 h4 =>
    refine wpOp_of hat (fun _ => ?_) (fun hw' => by rw [wanted_eq hw htl] at hw'; cases hw')
    have hρ := eval_rep hs.rep.glob htl
    obtain ⟨cv, hc1, hc2⟩ := same_val (P := P) (w := w) (fun μ hμ => pureOp_sound (fun x v hx => (hρ x v hx μ hμ).symm) hv w)
    exact hval _ _ (fun c hc => by rw [hc] at hv; simp [pureOp] at hv) hc1 (quietly (nal (by rw [hk]; decide)) (neh (by rw [hk]; decide)) _ _ hput hc2)
  | read hw hk v hv hpast hput h1 h2 h3 h4 =>
    refine wpOp_of hat (fun _ => ?_) (fun hw' => by rw [wanted_eq hw htl] at hw'; cases hw')
    have hρ := eval_rep hs.rep.glob htl
    have hnei : ¬ EH P all D i := neh (by rw [hk]; decide)
    obtain ⟨q2, hq2n, hgl, hrd⟩ : ∃ q2, q2 ≤ all.length ∧ (∀ id ob, GL P all D L q id ob ↔ GL P all D L q2 id ob) ∧
        readAt (Cx.of P) (limit (D i).tm (looks all o)) (D q2).st.hp (D q2).pend ((befsOf all []).getD i 0) o.op = some v := by
      rcases Nat.lt_or_ge i q with hlt1 | hge
      · -- behind, in the text's order
        by_cases hE : ∃ h, i < h ∧ h < i + (q - i) ∧ EH P all D h
        · obtain ⟨h, g1, g2, g3, g4⟩ := last_ex i (q - i) hE
          have hLh : L h := (hq h g3).2 (by omega)
          refine ⟨h + 1, by omega, fun id ob => GL_between hS L hqn (by omega) (fun k k1 k2 => by omega) (fun k k1 k2 => g4 k (by omega) (by omega)) id ob, ?_⟩
          obtain ⟨p', hp', hw', hk'⟩ := g3
          cases hS h p' hp' with
          | skip hw2 => rw [hw'] at hw2; cases hw2
          | val _ hk2 => rw [hk'] at hk2; cases hk2
          | alloc _ hk2 => rw [hk'] at hk2; cases hk2
          | read _ hk2 => rw [hk'] at hk2; cases hk2
          | heavy _ _ v' hv' hr hput' e2 e3 e4 =>
            have hmem := reads_mem hS (r := i) (x := (i, limit (D i).tm (looks all o), o.op, v)) (by rw [h4]; simp) (h - (i + 1)) (by omega)
            rw [show i + 1 + (h - (i + 1)) = h by omega] at hmem
            have hbit : ((befsOf all []).getD h 0).testBit i = false := by
              cases hb : ((befsOf all []).getD h 0).testBit i with
              | false => rfl
              | true => exact absurd (hcl h hLh i hb) hi
            have := readsOk_spec _ hr _ _ _ _ hmem hbit
            rw [e2]; exact this
        · refine ⟨i, by omega, fun id ob => GL_between hS L hqn (by omega) (fun k k1 k2 => by omega) (fun k k1 k2 hk' => ?_) id ob, hv⟩
          by_cases e : k = i
          · subst e; exact hnei hk'
          · exact hE ⟨k, by omega, by omega, hk'⟩
      · by_cases hE : ∃ h, q ≤ h ∧ h < q + (i - q) ∧ EH P all D h
        · obtain ⟨h, g1, g2, g3, g4⟩ := first_ex (i - q) q hE
          have hLh : ¬ L h := fun hl => by have := (hq h g3).1 hl; omega
          refine ⟨h, by omega, fun id ob => GL_between hS L hqn (by omega) (fun k k1 k2 => g4 k k1 k2) (fun k k1 k2 => by omega) id ob, ?_⟩
          have hmem := past_mem hS g3 (i - (h + 1)) (by omega)
          rw [show h + 1 + (i - (h + 1)) = i by omega] at hmem
          have hbit : ((befsOf all []).getD i 0).testBit h = false := by
            cases hb : ((befsOf all []).getD i 0).testBit h with
            | false => rfl
            | true => exact absurd (hbef h hb) hLh
          exact pastOk_spec _ hpast _ _ _ hmem hbit
        · exact ⟨i, by omega, fun id ob => GL_between hS L hqn (by omega) (fun k k1 k2 hk' => hE ⟨k, k1, by omega, hk'⟩) (fun k k1 k2 => by omega) id ob, hv⟩
    have hR2 : Rep (Cx.of P) m (⟨mergeP ((befsOf all []).getD i 0) (D q2).pend (D q2).st.hp, 0⟩ : St).G w := hs.rep.sub fun id ob hg => (hgl id ob).2 (merged_sub hbef 0 id ob hg)
    obtain ⟨cv, hc1, hc2⟩ := same_val (P := P) (w := w) (fun μ hμ => readOp_sound hR2 hμ (fun x v hx => (hρ x v hx μ hμ).symm) hrd)
    exact hval _ _ (fun c hc => by rw [hc] at hrd; simp [readAt, readOp] at hrd) hc1 (quietly (nal (by rw [hk]; decide)) (neh (by rw [hk]; decide)) _ _ hput hc2)
  | alloc hw hk ob f hv hput h1 h2 h3 h4 =>
    refine wpOp_of hat (fun _ => ?_) (fun hw' => by rw [wanted_eq hw htl] at hw'; cases hw')
    have hop : opA (Cx.of P) ov ih (limit (D i).tm (looks all o)) ⟨.nil, (D i).st.ct⟩ o = some (f (D i).st.ct, ⟨T.set .nil (D i).st.ct ob, (D i).st.ct + 1⟩) := by
      unfold opA; rw [hk]; simp only [hv]
    have he1 : (D (i + 1)).st.ct = (D i).st.ct + 1 := by rw [h1]
    have hR2 : Rep (Cx.of P) m (⟨.nil, (D i).st.ct⟩ : St).G w := hs.rep.sub fun id ob hg => by simp [St.G, T.get_nil] at hg
    refine (opA_does hov hovm hih hihm hop hR2 htl (by rw [← he1]; exact hnewid)).wp (opA_nodefer hop) ?_
    rintro cv w' ⟨m', hs', hv'⟩
    have hfr : Step (Cx.of P) m (GL P all D L q) w (D i).st.ct m' (GL P all D (fun j => L j ∨ j = i) q) w' ((D i).st.ct + 1) := by
      refine Step.frame (GR := GL P all D L q) hs.rep hs' (fun id o' hg => by simp [St.G, T.get_nil] at hg) (fun _ _ h => h) (fun id o1 o2 hg => by simp [St.G, T.get_nil] at hg) ?_
      intro id ob' hg
      have hal : AL P all D i id ob' → (⟨T.set .nil (D i).st.ct ob, (D i).st.ct + 1⟩ : St).G id ob' := by
        rintro ⟨p', f', hp', _, _, hv2, hid⟩
        rw [ho] at hp'; injection hp' with hp'; subst hp'
        rw [hv] at hv2; simp at hv2
        simp [St.G, T.get_set, hid, hv2.1]
      rcases hLi id ob' q hg with h | h | h
      · exact .inr h
      · exact .inl (hal h)
      · exact .inl (hal (pend_i q hqn _ _ h))
    obtain ⟨hd1, hd2⟩ := put_more a o.dst cv
    refine hK _ _ ⟨⟨q, hqn, eh_iff ho hq (neh (by rw [hk]; decide)), m', hs.trans2 hfr hct1 (by omega), hdm' m' (fun k l h => ?_), tmps_more hS hL hcl ho hi hlt hs'.mono (by omega) htm hput hv'⟩, hd1.trans hdef, hd2.trans hsz⟩
    rcases hs'.dom k l h with h5 | h5
    · exact .inl h5
    · exact .inr (by rw [he1]; exact h5)
  | heavy hw hk v hv hr hput h2 h3 h4 =>
    refine wpOp_of hat (fun _ => ?_) (fun hw' => by rw [wanted_eq hw htl] at hw'; cases hw')
    have hEi : EH P all D i := ⟨o, ho, hw, hk⟩
    have hqi : q ≤ i := by
      rcases Nat.lt_or_ge i q with h | h
      · exact absurd ((hq i hEi).2 h) hi
      · exact h
    have hnoE : ∀ h, q ≤ h → h < i → ¬ EH P all D h := by
      intro h g1 g2 hE
      have hE' := hE
      obtain ⟨p', hp', _, hk'⟩ := hE
      have := hL.tied h i p' o g2 hp' ho (by simp [tied, hk, hk'])
      have := (hq h hE').1 (hbef h this)
      omega
    have hgl : ∀ id ob, GL P all D L q id ob ↔ GL P all D L i id ob := fun id ob => GL_between hS L hqn (by omega) hnoE (fun k k1 k2 => by omega) id ob
    have hsi : Rep (Cx.of P) m (GL P all D L i) w := hs.rep.sub fun id ob hg => (hgl id ob).2 hg
    have hsub := merged_sub (P := P) (all := all) (D := D) (q := i) hbef (D i).st.ct
    have hR2 := hsi.sub hsub
    refine (opA_does hov hovm hih hihm hv hR2 htl hnewid).wp (opA_nodefer hv) ?_
    rintro cv w' ⟨m', hs', hv'⟩
    have hW := whence hovm hihm hovi hihi hS h0 i (by omega)
    have lt_of : ∀ j id ob, (j, id, ob) ∈ (D i).pend → j < i := fun j id ob hm => (hW.pend j id ob hm).1
    have ctle : ∀ j k, j ≤ k → k ≤ all.length → (D j).st.ct ≤ (D k).st.ct := by
      intro j k h1 h2
      have := ct_mono hovm hihm hS (k - j) j (by omega)
      rwa [show j + (k - j) = k by omega] at this
    have apart : ∀ j k id, j < all.length → k < all.length → (D j).st.ct ≤ id → id < (D (j + 1)).st.ct → (D k).st.ct ≤ id → id < (D (k + 1)).st.ct → j = k := by
      intro j k id h1 h2 h3 h4 h5 h6
      rcases Nat.lt_trichotomy j k with h | h | h
      · have := ctle (j + 1) k h (by omega); omega
      · exact h
      · have := ctle (k + 1) j h (by omega); omega
    have hfr : Step (Cx.of P) m (GL P all D L i) w (D i).st.ct m' (GL P all D (fun j => L j ∨ j = i) (i + 1)) w' (D (i + 1)).st.ct := by
      refine Step.frame (GR := fun id ob => (∃ j, L j ∧ (j, id, ob) ∈ restP ((befsOf all []).getD i 0) (D i).pend) ∨ ∃ j, i + 1 ≤ j ∧ L j ∧ AL P all D j id ob) hsi hs' hsub ?_ ?_ ?_
      · rintro id ob (⟨j, hj, hm⟩ | ⟨j, g1, g2, g3⟩)
        · exact .inr (.inl ⟨j, hj, (restP_mem _ _ hm).1⟩)
        · exact .inr (.inr ⟨j, by omega, g2, g3⟩)
      · -- the two parts have nothing in common
        intro id o1 o2 hg hg2
        have hr2 : ∃ j, j < all.length ∧ j ≠ i ∧ (D j).st.ct ≤ id ∧ id < (D (j + 1)).st.ct ∧ (((befsOf all []).getD i 0).testBit j = true → i < j) ∧ (j < i → ∃ ob, (j, id, ob) ∈ (D i).pend) := by
          rcases hg2 with ⟨j, hj, hm⟩ | ⟨j, g1, g2, p', f', hp', hw', hk', hv2, rfl⟩
          · obtain ⟨g1, g2⟩ := restP_mem _ _ hm
            obtain ⟨g3, g4, g5⟩ := hW.pend j id o2 g1
            exact ⟨j, by omega, by omega, g4, g5, fun hb => (by rw [g2] at hb; cases hb), fun _ => ⟨_, g1⟩⟩
          · have hjl := (List.getElem?_eq_some_iff.1 hp').1
            refine ⟨j, hjl, by omega, Nat.le_refl _, ?_, fun _ => by omega, fun h => by omega⟩
            cases hS j p' hp' with
            | skip hw2 => rw [hw'] at hw2; cases hw2
            | val _ hk2 => rw [hk'] at hk2; cases hk2
            | read _ hk2 => rw [hk'] at hk2; cases hk2
            | heavy _ hk2 => rw [hk'] at hk2; cases hk2
            | alloc _ _ _ _ _ _ e1 => rw [e1]; simp
        obtain ⟨j, hjl, hji, g1, g2, g3, g4⟩ := hr2
        rcases mergeP_get _ _ _ _ hg with hg | ⟨k, hb, hm⟩
        · rcases hW.hp id o1 hg with ⟨o', h5⟩ | ⟨k, h5, h6, h7, h8⟩
          · refine hold id o' h5 ⟨?_, ?_⟩
            · have := ctle 0 j (by omega) (by omega); omega
            · have := ctle (j + 1) all.length (by omega) (by omega); omega
          · have := apart j k id hjl (by omega) g1 g2 h6 h7
            subst this
            obtain ⟨ob, hm⟩ := g4 h5
            exact h8 _ _ hm
        · obtain ⟨h5, h6, h7⟩ := hW.pend k id o1 hm
          have := apart j k id hjl (by omega) g1 g2 h6 h7
          subst this
          have := g3 hb
          omega
      · intro id ob hg
        rcases hg with hg | ⟨j, hj, hm⟩ | ⟨j, g1, hj, g2⟩
        · exact .inl hg
        · rw [h2] at hm
          refine .inr (.inl ⟨j, ?_, hm⟩)
          rcases hj with hj | hj
          · exact hj
          · have := lt_of j id ob (restP_mem _ _ hm).1; omega
        · rcases hj with hj | hj
          · exact .inr (.inr ⟨j, g1, hj, g2⟩)
          · omega
    have hs2 : Step (Cx.of P) m0 st.G w0 st.ct m (GL P all D L i) w (D all.length).st.ct := hs.sub fun id ob hg => (hgl id ob).2 hg
    obtain ⟨hd1, hd2⟩ := put_more a o.dst cv
    refine hK _ _ ⟨⟨i + 1, by omega, ?_, m', hs2.trans2 hfr hct1 hctn, hdm' m' hs'.dom, tmps_more hS hL hcl ho hi hlt hs'.mono (by omega) htm hput hv'⟩, hd1.trans hdef, hd2.trans hsz⟩
    intro h hE
    constructor
    · rintro (h5 | h5)
      · have := (hq h hE).1 h5; omega
      · omega
    · intro h5
      rcases Nat.lt_or_ge h i with h6 | h6
      · left
        refine (hq h hE).2 ?_
        rcases Nat.lt_or_ge h q with h7 | h7
        · exact h7
        · exact absurd hE (hnoE h h7 h6)
      · right; omega

end
end Go.Ai

/- The abstract interpreter and its soundness, part 3 of 4: by an AI agent. -/
import Derived.Test.YtmimkeikienajaaDoorAi2

/-! Regions whose order is open: the theorem; no object appears out of nowhere in code. -/
namespace Go.Ai
open Go

section
variable {P : Program} {ov : Ov} {ih : CodeRun} {nt : Nat} {all : List Oper} {D : Nat → DS}

theorem mem_all_of_count {l : List Bool} (h : l.count true = l.length) {j : Nat} (hj : j < l.length) : l[j]? = some true := by
  have := List.count_eq_length.1 h
  have h2 := this l[j] (List.getElem_mem hj)
  rw [List.getElem?_eq_getElem hj, ← h2]

theorem any_of (hov : OvOk P ov) (hovm : OvMono ov) (hovi : OvIds ov) (hih : RunOk P ih) (hihm : RunMono ih) (hihi : RunIds ih) (hS : Steps P ov ih nt all D) (hL : Looked P all) {m0 : Nat → Option Loc} {st : St} {w0 : World} {size : Nat} {ds : List Deferred} {ro : Option Nat}
    (h0 : (D 0).pend = []) (hold : ∀ id o, (D 0).st.hp.get id = some o → ¬ (st.ct ≤ id ∧ id < (D all.length).st.ct)) (hct0 : (D 0).st.ct = st.ct) (hfresh : Fresh m0 st.ct (D all.length).st.ct) (hnt : nt ≤ size)
    {Q : Exit → Act → World → Prop} (hQ : ∀ a w, Inv P all D m0 st w0 size ds (fun j => j < all.length) a w → Q .normal a w) :
    ∀ (fuel : Nat) (listed : Array Bool) (a : Act) (w : World), listed.size = all.length → listed.toList.count true + fuel = all.length →
      (∀ (j : Nat) (y : Oper), listed[j]? = some true → all[j]? = some y → ∀ e ∈ y.after, Region.binds .any e = true → listed[e.on]? = some true) →
      Inv P all D m0 st w0 size ds (fun j => listed[j]? = some true) a w → wpAnyIn (FR ro) 0 P .any all.toArray Q fuel listed a w := by
  have allIn : ∀ (listed : Array Bool) (a : Act) (w : World), listed.size = all.length → (∀ j, j < all.length → listed[j]? = some true) → Inv P all D m0 st w0 size ds (fun j => listed[j]? = some true) a w → Q .normal a w := by
    intro listed a w hsz h hI
    refine hQ _ _ ?_
    have : (fun j => j < all.length) = fun j => listed[j]? = some true := by
      funext j
      apply propext
      exact ⟨h j, fun h2 => by have := (Array.getElem?_eq_some_iff.1 h2).1; omega⟩
    rw [this]; exact hI
  have getF : ∀ (listed : Array Bool) j, listed.getD j false = true ↔ listed[j]? = some true := by
    intro listed j
    rw [Array.getD_eq_getD_getElem?]
    cases listed[j]? with
    | none => simp
    | some b => simp
  have none_ready : ∀ (listed : Array Bool), listed.size = all.length → Region.ready .any all.toArray listed = [] → ∀ j, j < all.length → listed[j]? = some true := by
    intro listed hsz hr j
    induction j using Nat.strongRecOn with
    | _ j ihj =>
      intro hj
      obtain ⟨y, hy⟩ : ∃ y, all[j]? = some y := ⟨all[j], List.getElem?_eq_getElem hj⟩
      have hjs : j < listed.size := by omega
      cases hb : listed[j] with
      | true => rw [Array.getElem?_eq_getElem hjs, hb]
      | false =>
        exfalso
        have : j ∈ Region.ready .any all.toArray listed := by
          rw [mem_ready]
          refine ⟨by simp [hjs, hb], y, by simpa using hy, fun e he heb => ?_⟩
          rw [getF]
          have := hL.back j y hy e he heb
          exact ihj e.on this (by omega)
        rw [hr] at this; simp at this
  intro fuel
  induction fuel with
  | zero =>
    intro listed a w hsz hc hd hI
    have hall : ∀ j, j < all.length → listed[j]? = some true := by
      intro j hj
      have := mem_all_of_count (l := listed.toList) (by simp only [Array.length_toList]; omega) (j := j) (by simp; omega)
      simpa using this
    refine ⟨?_, allIn _ _ _ hsz hall hI⟩
    cases hr : Region.ready .any all.toArray listed with
    | nil => rfl
    | cons x l =>
      exfalso
      have : x ∈ Region.ready .any all.toArray listed := by rw [hr]; simp
      rw [mem_ready] at this
      obtain ⟨h1, y, hy, _⟩ := this
      have hx : x < all.length := by simpa using (Array.getElem?_eq_some_iff.1 hy).1
      have := hall x hx
      rw [Array.getD_eq_getD_getElem?, this] at h1
      simp at h1
  | succ fuel ihf =>
    intro listed a w hsz hc hd hI
    refine ⟨fun hr => allIn _ _ _ hsz (none_ready _ hsz hr) hI, fun i hi => ?_⟩
    rw [mem_ready] at hi
    obtain ⟨h1, o, ho, hdeps⟩ := hi
    have hoL : all[i]? = some o := by simpa using ho
    have hil : i < all.length := (List.getElem?_eq_some_iff.1 hoL).1
    have his : i < listed.size := by omega
    have hfalse : listed[i] = false := by simpa [his] using h1
    have hlt : ∀ j, listed[j]? = some true → j < all.length := fun j h2 => by have := (Array.getElem?_eq_some_iff.1 h2).1; omega
    have hcl := closed_of hL hd hlt
    have hbef : ∀ j, ((befsOf all []).getD i 0).testBit j = true → listed[j]? = some true := by
      intro j hj
      obtain ⟨e, he, hb, h2⟩ := hL.bef i o hoL j hj
      have he1 := (getF _ _).1 (hdeps e he hb)
      rcases h2 with rfl | ⟨_, h3⟩
      · exact he1
      · exact hcl _ he1 _ h3
    have hni : ¬ listed[i]? = some true := by rw [Array.getElem?_eq_getElem his, hfalse]; simp
    have hset : ∀ j, (listed.setIfInBounds i true)[j]? = some true ↔ (listed[j]? = some true ∨ j = i) := by
      intro j
      by_cases e : j = i
      · subst e; simp [his]
      · rw [Array.getElem?_setIfInBounds_ne (Ne.symm e)]; simp [e]
    refine inv_step hov hovm hovi hih hihm hihi hS hL h0 hold hct0 hfresh hnt hcl hlt hoL hni hbef hI ?_
    intro a' w' hI'
    refine ihf _ a' w' (by simp [hsz]) ?_ ?_ ?_
    · have : (listed.setIfInBounds i true).toList.count true = listed.toList.count true + 1 := by
        rw [Array.toList_setIfInBounds, List.count_set (by simpa using his)]
        simp [hfalse]
      omega
    · intro j y hj hy e he hb
      rw [hset] at hj ⊢
      rcases hj with hj | hj
      · exact .inl (hd j y hj hy e he hb)
      · subst hj; rw [hoL] at hy; injection hy with hy; subst hy
        exact .inl ((getF _ _).1 (hdeps e he hb))
    · have : (fun j => (listed.setIfInBounds i true)[j]? = some true) = fun j => listed[j]? = some true ∨ j = i := by
        funext j; exact propext (hset j)
      rw [this]; exact hI'

theorem drawA_ex {tm tm' : T Value} {st st' : St} (h : drawA (Cx.of P) ov ih nt all tm st = some (tm', st')) :
    drawOk (Cx.of P) all = true ∧ ∃ D : Nat → DS, D 0 = ⟨tm, st, [], [], []⟩ ∧ Steps P ov ih nt all D ∧ tm' = (D all.length).tm ∧ st' = ⟨mergeAll (D all.length).pend (D all.length).st.hp, (D all.length).st.ct⟩ := by
  unfold drawA at h
  split at h <;> (try (simp at h; done))
  rename_i hok
  split at h <;> (try (simp at h; done))
  rename_i ds hds
  simp at h
  obtain ⟨D, d0, dn, hs⟩ := trace_ex _ _ _ _ hds
  rw [Nat.zero_add] at dn
  refine ⟨hok, D, d0, fun k o hk => ?_, by rw [dn]; exact h.1.symm, by rw [dn]; exact h.2.symm⟩
  have := hs k o hk
  rwa [Nat.zero_add] at this

theorem drawA_ids (hovm : OvMono ov) (hovi : OvIds ov) (hihm : RunMono ih) (hihi : RunIds ih) {tm tm' : T Value} {st st' : St} (h : drawA (Cx.of P) ov ih nt all tm st = some (tm', st')) : Ids st st' := by
  obtain ⟨_, D, h0, hS, _, rfl⟩ := drawA_ex h
  have hW := whence hovm hihm hovi hihi hS (by rw [h0]) all.length (Nat.le_refl _)
  have ctle : ∀ j k, j ≤ k → k ≤ all.length → (D j).st.ct ≤ (D k).st.ct := by
    intro j k h1 h2
    have := ct_mono hovm hihm hS (k - j) j (by omega)
    rwa [show j + (k - j) = k by omega] at this
  have hc0 : (D 0).st = st := by rw [h0]
  intro id o hg
  have fin : ∀ j, j < all.length → (D j).st.ct ≤ id → id < (D (j + 1)).st.ct → st.ct ≤ id ∧ id < (D all.length).st.ct := by
    intro j h1 h2 h3
    have := ctle 0 j (by omega) (by omega)
    rw [hc0] at this
    have := ctle (j + 1) all.length (by omega) (by omega)
    omega
  rcases mergeAll_get _ _ _ _ hg with hg | ⟨j, hm⟩
  · rcases hW.hp id o hg with h1 | ⟨j, h1, h2, h3, _⟩
    · rw [hc0] at h1; exact .inl h1
    · exact .inr (fin j h1 h2 h3)
  · obtain ⟨h1, h2, h3⟩ := hW.pend j id o hm
    exact .inr (fin j h1 h2 h3)

theorem drawA_sound (hmix : P.follows .mixedOrders = true) (hov : OvOk P ov) (hovm : OvMono ov) (hovi : OvIds ov) (hih : RunOk P ih) (hihm : RunMono ih) (hihi : RunIds ih)
    {id nt : Nat} {ops : Array Oper} {tm tm' : T Value} {st st' : St} (h : drawA (Cx.of P) ov ih nt ops.toList tm st = some (tm', st')) {m : Nat → Option Loc} {w : World} {a : Act}
    (hR : Rep (Cx.of P) m st.G w) (ht : TmRep m tm a.tmps) {ro : Option Nat} (hn : nt ≤ a.tmps.size) (hf : Fresh m st.ct st'.ct) :
    (Code.region id ops true).wpIn (FR ro) 0 P (OpsPost P m st w a.tmps.size a.defers tm' st') a w := by
  obtain ⟨hok, D, h0, hS, rfl, rfl⟩ := drawA_ex h
  have hL := looked_of hok
  have hc0 : (D 0).st = st := by rw [h0]
  have hW := whence hovm hihm hovi hihi hS (by rw [h0]) ops.toList.length (Nat.le_refl _)
  refine wpIn_region_any hmix ?_
  have main := any_of (ro := ro) (Q := OpsPost P m st w a.tmps.size a.defers (D ops.toList.length).tm ⟨mergeAll (D ops.toList.length).pend (D ops.toList.length).st.hp, (D ops.toList.length).st.ct⟩) (m0 := m) (st := st) (w0 := w) (size := a.tmps.size) (ds := a.defers)
    hov hovm hovi hih hihm hihi hS hL (by rw [h0]) ?_ (by rw [hc0]) hf hn ?_
    ops.size (Array.replicate ops.size false) a { w with drawn := w.drawn + 1 } (by simp) (by simp [List.count_replicate]) (by
      intro j y hj
      rw [Array.getElem?_replicate] at hj
      split at hj <;> simp at hj) ?_
  · simpa using main
  · intro i o hg hlt
    rw [hc0] at hg
    obtain ⟨l, h1, _⟩ := hR.dom i o hg
    rw [hf i hlt.1 hlt.2] at h1; cases h1
  · rintro a' w' ⟨⟨q, hqn, hq, m', hs, hdm, htm⟩, hdef, hsz⟩
    refine ⟨rfl, m', hs.sub ?_, ?_, hdef, hsz⟩
    · intro i o hg
      have hEl : ∀ h, EH P ops.toList D h → h < ops.toList.length := by
        rintro h ⟨p, hp, _⟩
        exact (List.getElem?_eq_some_iff.1 hp).1
      refine (GL_between hS _ hqn (Nat.le_refl _) (fun h h1 h2 hE => ?_) (fun h h1 h2 => by omega) i o).2 ?_
      · have := (hq h hE).1 h2; omega
      · rcases mergeAll_get _ _ _ _ hg with hg | ⟨j, hm⟩
        · exact .inl hg
        · exact .inr (.inl ⟨j, (hW.pend j i o hm).1, hm⟩)
    · intro t v hv
      refine htm t v ?_
      rcases tm_last hS t v _ (Nat.le_refl _) hv with ⟨j, x, h1, h2⟩ | h1
      · exact .inl ⟨j, x, h1, h2⟩
      · exact .inr h1
  · have hno : ∀ (j : Nat), ¬ (Array.replicate ops.size false)[j]? = some true := by
      intro j hj
      rw [Array.getElem?_replicate] at hj
      split at hj <;> simp at hj
    refine ⟨⟨0, Nat.zero_le _, fun h _ => ⟨fun h1 => absurd h1 (hno h), fun h1 => by omega⟩, m, ?_, fun i l h => .inl h, ?_⟩, rfl, rfl⟩
    · refine Step.wider ((Step.drew (ct := st.ct) hR).sub ?_) (Nat.le_refl _) ?_
      · rintro i o (h1 | ⟨j, h1, _⟩ | ⟨j, _, h1, _⟩)
        · rw [hc0] at h1; exact h1
        · exact absurd h1 (hno j)
        · exact absurd h1 (hno j)
      · have := ct_mono hovm hihm hS ops.toList.length 0 (by omega)
        rw [Nat.zero_add, hc0] at this; exact this
    · rintro t v (⟨j, x, h1, _⟩ | ⟨_, h1⟩)
      · exact absurd h1 (hno j)
      · rw [h0] at h1; exact ht t v h1

theorem stepA_ids (hovm : OvMono ov) (hovi : OvIds ov) (hihm : RunMono ih) (hihi : RunIds ih) : RunIds (stepA (Cx.of P) ov ih) := by
  intro c nt tm st ex tm' st' h
  unfold stepA at h
  cases c <;> simp only at h <;> (try (simp at h; done))
  case skip => simp at h; obtain ⟨_, _, rfl⟩ := h; exact Ids.refl _
  case label => simp at h; obtain ⟨_, _, rfl⟩ := h; exact Ids.refl _
  case ret => simp at h; obtain ⟨_, _, rfl⟩ := h; exact Ids.refl _
  case exit => simp at h; obtain ⟨_, _, rfl⟩ := h; exact Ids.refl _
  case goto => simp at h; obtain ⟨_, _, rfl⟩ := h; exact Ids.refl _
  case scope a => exact scopeA_ids hihm hihi h
  case rangeFunc f ps as bo => exact rangeA_ids hovm hihm hovi hihi h
  case seq a b =>
    split at h <;> (try (simp at h; done))
    rename_i h1
    have h2 := hihi _ _ _ _ _ _ _ h1
    have h3 := hihm _ _ _ _ _ _ _ h1
    split at h
    · exact h2.trans (hihi _ _ _ _ _ _ _ h) h3 (hihm _ _ _ _ _ _ _ h)
    · simp at h; obtain ⟨_, _, rfl⟩ := h; exact h2
  case cond x a b =>
    split at h <;> (try (simp at h; done)) <;> exact hihi _ _ _ _ _ _ _ h
  case block id a =>
    split at h <;> (try (simp at h; done))
    rename_i h1
    have h2 := hihi _ _ _ _ _ _ _ h1
    split at h
    · split at h <;> (simp at h; obtain ⟨_, _, rfl⟩ := h; exact h2)
    · simp at h; obtain ⟨_, _, rfl⟩ := h; exact h2
  case loop a =>
    split at h
    · exact hovi.lp _ _ _ _ _ _ _ _ (by assumption) h
    split at h
    · obtain ⟨b, ct, rfl, _⟩ := loopM_st h
      intro id o hg
      simp only [T.get_del] at hg
      split at hg
      · cases hg
      · exact .inl ⟨o, hg⟩
    · split at h <;> (try (simp at h; done))
      rename_i h1
      have h2 := hihi _ _ _ _ _ _ _ h1
      have h3 := hihm _ _ _ _ _ _ _ h1
      split at h
      · exact h2.trans (hihi _ _ _ _ _ _ _ h) h3 (hihm _ _ _ _ _ _ _ h)
      · simp at h; obtain ⟨_, _, rfl⟩ := h; exact h2
  case region id ops draw =>
    split at h
    · split at h <;> (try (simp at h; done))
      rename_i h1
      simp at h; obtain ⟨_, _, rfl⟩ := h
      exact opsA_ids hovm hihm hovi hihi h1
    · split at h <;> (try (simp at h; done))
      rename_i h1
      simp at h; obtain ⟨_, _, rfl⟩ := h
      exact drawA_ids hovm hovi hihm hihi h1

theorem run_ids (hovm : OvMono ov) (hovi : OvIds ov) : ∀ n, RunIds (run (Cx.of P) ov n) := by
  intro n
  induction n with
  | zero => intro c nt tm st ex tm' st' h; simp [run] at h
  | succ n ih => exact stepA_ids hovm hovi (run_ct hovm n) ih

end
end Go.Ai

/-! Ranges over maps. -/
namespace Go.Ai
open Go

theorem T.get_mapO {α : Type} (f : α → Option α) : ∀ (t : T α) (n : Nat), (t.mapO f).get n = (t.get n).bind f := by
  intro t
  induction t with
  | nil => intro n; simp [T.mapO, T.get_nil]
  | node v l r ihl ihr =>
    intro n
    cases n with
    | zero => cases v <;> simp [T.mapO, T.get_zero]
    | succ k =>
      simp only [T.mapO, T.get_succ]
      by_cases h : k % 2 = 0
      · rw [if_pos h, if_pos h]; exact ihl _
      · rw [if_neg h, if_neg h]; exact ihr _

theorem forget_get : ∀ (l : List Tmp) (tm : T Value) (t : Nat), (forget l tm).get t = if t ∈ l then none else tm.get t := by
  intro l
  induction l with
  | nil => intro tm t; simp [forget]
  | cons x l ih =>
    intro tm t
    simp only [forget, ih, T.get_del, List.mem_cons]
    by_cases h1 : t ∈ l
    · simp [h1]
    · by_cases h2 : x = t
      · subst h2; simp
      · simp [h1, Ne.symm h2]

/-! ### what code doesn't assign stays -/
def Keeps (l : List Tmp) (tm tm' : T Value) : Prop := ∀ t, t ∉ l → tm'.get t = tm.get t
theorem Keeps.refl (l : List Tmp) (tm : T Value) : Keeps l tm tm := fun _ _ => rfl
theorem Keeps.trans {l : List Tmp} {a b c : T Value} (h : Keeps l a b) (h' : Keeps l b c) : Keeps l a c := fun t ht => (h' t ht).trans (h t ht)
theorem Keeps.mono {l l' : List Tmp} {a b : T Value} (h : Keeps l a b) (hs : ∀ t ∈ l, t ∈ l') : Keeps l' a b := fun t ht => h t fun hx => ht (hs t hx)

def RunKeeps (ih : CodeRun) : Prop := ∀ c nt tm st ex tm' st', ih c nt tm st = some (ex, tm', st') → Keeps (dstsOf c) tm tm'

theorem putDst_keeps {nt : Nat} {tm tm' : T Value} {d : Option Tmp} {v : Value} (h : putDst nt tm d v = some tm') : Keeps d.toList tm tm' := by
  intro t ht
  exact (putDst_get h t).1 (by rintro rfl; simp at ht)

theorem opsA_keeps {cx : Cx} {ov : Ov} {ih : CodeRun} {nt : Nat} {all : List Oper} : ∀ {l : List Oper} {tm tm' : T Value} {st st' : St}, opsA cx ov ih nt all l tm st = some (tm', st') → Keeps (l.filterMap (·.dst)) tm tm' := by
  intro l
  induction l with
  | nil => intro tm tm' st st' h; simp [opsA] at h; obtain ⟨rfl, _⟩ := h; exact Keeps.refl _ _
  | cons o l ih2 =>
    intro tm tm' st st' h
    have step : ∀ {v tm1}, putDst nt tm o.dst v = some tm1 → Keeps ((o :: l).filterMap (·.dst)) tm tm1 := by
      intro v tm1 hp
      refine (putDst_keeps hp).mono fun t ht => ?_
      cases hd : o.dst with
      | none => rw [hd] at ht; simp at ht
      | some d => rw [hd] at ht; simp at ht; subst ht; simp [hd]
    have rest : ∀ {tm1 st1}, opsA cx ov ih nt all l tm1 st1 = some (tm', st') → Keeps ((o :: l).filterMap (·.dst)) tm1 tm' := by
      intro tm1 st1 h1
      refine (ih2 h1).mono fun t ht => ?_
      rw [List.filterMap_cons]
      cases o.dst <;> simp [ht]
    simp only [opsA] at h
    split at h <;> (try (simp at h; done))
    · split at h <;> (try (simp at h; done))
      split at h <;> (try (simp at h; done))
      rename_i hp
      exact (step hp).trans (rest h)
    · split at h <;> (try (simp at h; done))
      rename_i hp
      exact (step hp).trans (rest h)

theorem stepsD_keeps {cx : Cx} {ov : Ov} {ih : CodeRun} {nt : Nat} {all : List Oper} {befs : List Nat} : ∀ {l : List Oper} {i : Nat} {ds ds' : DS}, stepsD cx ov ih nt all befs i l ds = some ds' → Keeps (l.filterMap (·.dst)) ds.tm ds'.tm := by
  intro l
  induction l with
  | nil => intro i ds ds' h; simp [stepsD] at h; subst h; exact Keeps.refl _ _
  | cons o l ih2 =>
    intro i ds ds' h
    simp only [stepsD] at h
    split at h <;> (try (simp at h; done))
    rename_i ds1 h1
    obtain ⟨v, hp⟩ := (stepD_sd h1).put
    refine Keeps.trans (b := ds1.tm) ((putDst_keeps hp).mono fun t ht => ?_) ((ih2 h).mono fun t ht => ?_)
    · cases hd : o.dst with
      | none => rw [hd] at ht; simp at ht
      | some d => rw [hd] at ht; simp at ht; subst ht; simp [hd]
    · rw [List.filterMap_cons]
      cases o.dst <;> simp [ht]

/-! ### the form -/
theorem mapLoop_spec {c : Code} {L : MapLoop} (h : mapLoop c = some L) : ∃ i1 i2 r1 r2, c = .seq (.region i1 r1 false) (.seq (.cond (.tmp L.d2) .skip (.exit L.xid)) (.block L.bid (.seq (.region i2 r2 false) L.rest))) ∧
    r1.toList = [L.oN, L.oX] ∧ r2.toList = L.oE :: L.ops ∧ L.oN.op = .next (.tmp L.it) false ∧ L.oN.dst = some L.d1 ∧ L.oN.guard = none ∧ L.oX.op = .extract (.tmp L.d1) 0 ∧ L.oX.dst = some L.d2 ∧ L.oX.guard = none ∧
    L.oE.op = .entry (.tmp L.it) ∧ L.oE.dst = some L.d3 ∧ L.oE.guard = none := by
  unfold mapLoop at h
  split at h <;> (try (simp at h; done))
  rename_i a b
  split at h <;> (try (simp at h; done))
  rename_i i1 r1 c d
  split at h <;> (try (simp at h; done))
  rename_i x xid bid body
  split at h <;> (try (simp at h; done))
  rename_i e rest
  split at h <;> (try (simp at h; done))
  rename_i i2 r2
  unfold mapLoopOf at h
  split at h <;> (try (simp at h; done))
  rename_i oN oX hr1
  split at h <;> (try (simp at h; done))
  rename_i it hN
  split at h <;> (try (simp at h; done))
  rename_i oE ops hr2
  split at h <;> (try (simp at h; done))
  rename_i it' hE
  split at h <;> (try (simp at h; done))
  rename_i d1' hX
  split at h <;> (try (simp at h; done))
  rename_i d1 d2 d3 d2' hd1 hd2 hd3
  split at h <;> (try (simp at h; done))
  rename_i hc
  simp only [Bool.and_eq_true, Option.isNone_iff_eq_none] at hc
  obtain ⟨⟨⟨⟨⟨h1, h2⟩, h3⟩, h4⟩, h5⟩, h6⟩ := hc
  have h1 := Nat.eq_of_beq_eq_true h1
  have h2 := Nat.eq_of_beq_eq_true h2
  have h3 := Nat.eq_of_beq_eq_true h3
  subst h1; subst h2; subst h3
  simp at h; subst h
  exact ⟨i1, i2, r1, r2, rfl, hr1, hr2, hN, hd1, h4, hX, hd2, h5, hE, hd3, h6⟩

theorem headRound_some {nt : Nat} {L : MapLoop} {tm t3 : T Value} {k v : Value} (h : headRound nt L tm k v = some t3) :
    ∃ t1 t2, putDst nt tm (some L.d1) (.tuple #[.bool true, k, v]) = some t1 ∧ putDst nt t1 (some L.d2) (.bool true) = some t2 ∧ putDst nt t2 (some L.d3) (.tuple #[k, v]) = some t3 := by
  unfold headRound at h
  split at h <;> (try (simp at h; done))
  rename_i t1 h1
  split at h <;> (try (simp at h; done))
  rename_i t2 h2
  exact ⟨t1, t2, h1, h2, h⟩

theorem endRound_some {bid ct : Nat} {c : Int} {tm : T Value} {ok : Bool} {ex : Ex} {r : Rd} (h : endRound bid ct c tm ok ex = some r) :
    r.ct = ct ∧ r.c = c ∧ ((r.lv = none ∧ ok = true ∧ (ex = .normal ∨ ex = .exit bid)) ∨ (r.lv = some (ex, tm) ∧ ex ≠ .normal ∧ ex ≠ .exit bid)) := by
  unfold endRound at h
  split at h
  · split at h <;> (try (simp at h; done))
    simp at h; subst h; exact ⟨rfl, rfl, .inl ⟨rfl, rfl, .inl rfl⟩⟩
  · rename_i b
    split at h
    · rename_i hb
      have := Nat.eq_of_beq_eq_true hb
      subst this
      split at h <;> (try (simp at h; done))
      simp at h; subst h; exact ⟨rfl, rfl, .inl ⟨rfl, rfl, .inr rfl⟩⟩
    · rename_i hb
      simp at h; subst h
      refine ⟨rfl, rfl, .inr ⟨rfl, by simp, fun e => ?_⟩⟩
      injection e with e
      subst e
      simp at hb
  · rename_i h1 h2
    simp at h; subst h
    exact ⟨rfl, rfl, .inr ⟨rfl, fun e => h1 e, fun e => h2 _ e⟩⟩

theorem plainRound_some {cx : Cx} {ov : Ov} {ih : CodeRun} {nt : Nat} {L : MapLoop} {t3 : T Value} {st0 : St} {r : Rd} (h : plainRound cx ov ih nt L t3 st0 = some r) :
    ∃ t4 s4 ex t5 s5, opsA cx ov ih nt (L.oE :: L.ops) L.ops t3 st0 = some (t4, s4) ∧ ih L.rest nt t4 s4 = some (ex, t5, s5) ∧ endRound L.bid s5.ct 0 t5 true ex = some r := by
  unfold plainRound at h
  split at h <;> (try (simp at h; done))
  rename_i t4 s4 h4
  split at h <;> (try (simp at h; done))
  rename_i ex t5 s5 h5
  exact ⟨t4, s4, ex, t5, s5, h4, h5, h⟩

theorem isSign_eq {v : Option Value} {s : Nat} (h : isSign v s = true) : v = some (.chan (some s)) := by
  unfold isSign at h
  split at h <;> (try (simp at h; done))
  rw [Nat.eq_of_beq_eq_true h]

theorem foldRound_some {cx : Cx} {ov : Ov} {ih : CodeRun} {nt : Nat} {L : MapLoop} {F : FoldF} {kd : IntKind} {sg : Nat} {t3 : T Value} {st0 : St} {r : Rd} (h : foldRound cx ov ih nt L F kd sg t3 st0 = some r) :
    ∃ t4 s4 t5 s5 c t6 t7 s7 ex t8 s8, opsA cx ov ih nt (L.oE :: L.ops) L.ops t3 st0 = some (t4, s4) ∧ opsA cx ov ih nt (F.pre ++ F.oB :: F.post) F.pre t4 s4 = some (t5, s5) ∧
      t5.get F.x = some (.chan (some sg)) ∧ t5.get F.y = some (.int kd c) ∧ putDst nt t5 (some F.tb) (.chan (some (sg + 1))) = some t6 ∧ opsA cx ov ih nt (F.pre ++ F.oB :: F.post) F.post t6 s5 = some (t7, s7) ∧
      ih F.rest2 nt t7 s7 = some (ex, t8, s8) ∧ endRound L.bid s8.ct c t8 (isSign (t8.get F.r) (sg + 1)) ex = some r := by
  unfold foldRound at h
  split at h <;> (try (simp at h; done))
  rename_i t4 s4 h4
  split at h <;> (try (simp at h; done))
  rename_i t5 s5 h5
  split at h <;> (try (simp at h; done))
  rename_i k c hx hy
  split at h <;> (try (simp at h; done))
  rename_i t6 hk h6
  simp only [decide_eq_true_eq] at hk
  subst hk
  split at h <;> (try (simp at h; done))
  rename_i t7 s7 h7
  split at h <;> (try (simp at h; done))
  rename_i ex t8 s8 h8
  exact ⟨t4, s4, t5, s5, c, t6, t7, s7, ex, t8, s8, h4, h5, isSign_eq hx, hy, h6, h7, h8, h⟩

theorem isBits_some {o : Oper} {q : BinOp × Nat × Nat × Nat} (h : isBits o = some q) : ∃ t u, o.op = .binOp q.1 t (.tmp q.2.1) (.tmp q.2.2.1) u ∧ o.dst = some q.2.2.2 ∧ bitsOp q.1 = true ∧ o.guard = none := by
  unfold isBits at h
  split at h <;> (try (simp at h; done))
  rename_i op t x y u ho
  split at h <;> (try (simp at h; done))
  rename_i tb hd
  split at h <;> (try (simp at h; done))
  rename_i hb
  simp only [Bool.and_eq_true, Option.isNone_iff_eq_none] at hb
  simp at h; subst h
  exact ⟨t, u, ho, hd, hb.1, hb.2⟩

theorem cutBits_some : ∀ {l pre0 pre post : List Oper} {oB : Oper} {q : BinOp × Nat × Nat × Nat}, cutBits pre0 l = some (pre, oB, q, post) → pre0 ++ l = pre ++ oB :: post ∧ isBits oB = some q := by
  intro l
  induction l with
  | nil => intro pre0 pre post oB q h; simp [cutBits] at h
  | cons o l ih =>
    intro pre0 pre post oB q h
    simp only [cutBits] at h
    split at h
    · rename_i q1 hq
      simp at h; obtain ⟨rfl, rfl, rfl, rfl⟩ := h
      exact ⟨rfl, hq⟩
    · obtain ⟨h1, h2⟩ := ih h
      exact ⟨by rw [← h1]; simp, h2⟩

theorem lastDst_mem : ∀ {l : List Oper} {r : Nat}, lastDst l = some r → r ∈ l.filterMap (·.dst) := by
  intro l
  induction l with
  | nil => intro r h; simp [lastDst] at h
  | cons o l ih =>
    intro r h
    cases l with
    | nil => simp only [lastDst] at h; simp [h]
    | cons o2 l =>
      simp only [lastDst] at h
      have := ih h
      rw [List.filterMap_cons]
      cases o.dst <;> simp [this]

theorem foldOf_some {c : Code} {F : FoldF} (h : foldOf c = some F) : ∃ ops t u, c = .seq (.region F.rid ops false) F.rest2 ∧ ops.toList = F.pre ++ F.oB :: F.post ∧ F.oB.op = .binOp F.op t (.tmp F.x) (.tmp F.y) u ∧ F.oB.dst = some F.tb ∧ F.oB.guard = none ∧
    bitsOp F.op = true ∧ F.r ∈ F.post.filterMap (·.dst) := by
  unfold foldOf at h
  split at h <;> (try (simp at h; done))
  rename_i a rest2
  split at h <;> (try (simp at h; done))
  rename_i rid ops
  split at h <;> (try (simp at h; done))
  rename_i pre oB q post hc
  split at h <;> (try (simp at h; done))
  rename_i r hr
  simp at h; subst h
  obtain ⟨h1, h2⟩ := cutBits_some hc
  obtain ⟨t, u, h3, h4, h5, h6⟩ := isBits_some h2
  exact ⟨ops, t, u, rfl, by simpa using h1, h3, h4, h6, h5, lastDst_mem hr⟩

/-- what a loop assigns -/
structure Asg (L : MapLoop) (asg : List Tmp) : Prop where
  d1 : L.d1 ∈ asg
  d2 : L.d2 ∈ asg
  d3 : L.d3 ∈ asg
  ops : ∀ t ∈ L.ops.filterMap (·.dst), t ∈ asg
  rest : ∀ t ∈ dstsOf L.rest, t ∈ asg

theorem mapLoop_asg {c : Code} {L : MapLoop} (hL : mapLoop c = some L) : Asg L (dstsOf c) := by
  obtain ⟨i1, i2, r1, r2, hc, hr1, hr2, _, hd1, _, _, hd2, _, _, hd3, _⟩ := mapLoop_spec hL
  have h : ∀ t, t = L.d1 ∨ t = L.d2 ∨ t = L.d3 ∨ t ∈ L.ops.filterMap (·.dst) ∨ t ∈ dstsOf L.rest → t ∈ dstsOf c := by
    intro t h
    rw [hc]
    simp only [dstsOf, hr1, hr2, List.mem_append, List.filterMap_cons, hd1, hd2, hd3, List.filterMap_nil, List.mem_cons, List.not_mem_nil, or_false]
    rcases h with h | h | h | h | h <;> simp [h]
  exact ⟨h _ (.inl rfl), h _ (.inr (.inl rfl)), h _ (.inr (.inr (.inl rfl))), fun t ht => h _ (.inr (.inr (.inr (.inl ht)))), fun t ht => h _ (.inr (.inr (.inr (.inr ht))))⟩

/-- and what the sum's region assigns -/
theorem foldOf_asg {L : MapLoop} {F : FoldF} (h : foldOf L.rest = some F) {asg : List Tmp} (ha : Asg L asg) : F.r ∈ asg ∧ F.tb ∈ asg ∧ (∀ t ∈ F.pre.filterMap (·.dst), t ∈ asg) ∧ (∀ t ∈ F.post.filterMap (·.dst), t ∈ asg) ∧ ∀ t ∈ dstsOf F.rest2, t ∈ asg := by
  obtain ⟨ops, t, u, hc, ho, _, hd, _, _, hr⟩ := foldOf_some h
  have key : ∀ t, t ∈ F.pre.filterMap (·.dst) ∨ t = F.tb ∨ t ∈ F.post.filterMap (·.dst) ∨ t ∈ dstsOf F.rest2 → t ∈ asg := by
    intro t ht
    refine ha.rest t ?_
    rw [hc]
    simp only [dstsOf, ho, List.filterMap_append, List.filterMap_cons, hd, List.mem_append, List.mem_cons]
    rcases ht with h | h | h | h <;> simp [h]
  exact ⟨key _ (.inr (.inr (.inl hr))), key _ (.inr (.inl rfl)), fun t h => key t (.inl h), fun t h => key t (.inr (.inr (.inl h))), fun t h => key t (.inr (.inr (.inr h)))⟩

theorem headRound_keeps {nt : Nat} {L : MapLoop} {tm t3 : T Value} {k v : Value} (h : headRound nt L tm k v = some t3) {asg : List Tmp} (ha : Asg L asg) : Keeps asg tm t3 := by
  obtain ⟨t1, t2, h1, h2, h3⟩ := headRound_some h
  intro t ht
  rw [(putDst_get h3 t).1 (by rintro ⟨⟩; exact ht ha.d3), (putDst_get h2 t).1 (by rintro ⟨⟩; exact ht ha.d2), (putDst_get h1 t).1 (by rintro ⟨⟩; exact ht ha.d1)]

theorem roundG_keeps {cx : Cx} {ov : Ov} {ih : CodeRun} (hih : RunKeeps ih) {nt : Nat} {L : MapLoop} {F : FoldI} {tm0 : T Value} {st0 : St} {k v : Value} {r : Rd} {asg : List Tmp} (ha : Asg L asg)
    (hF : ∀ q, F = some q → foldOf L.rest = some q.1) (h : roundG cx ov ih nt L F tm0 st0 k v = some r) {ex : Ex} {t' : T Value} (hl : r.lv = some (ex, t')) : Keeps asg tm0 t' := by
  unfold roundG at h
  split at h
  · split at h <;> (try (simp at h; done))
    rename_i t3 h3
    obtain ⟨t4, s4, ex2, t5, s5, h4, h5, h6⟩ := plainRound_some h
    obtain ⟨_, _, he⟩ := endRound_some h6
    rcases he with ⟨he, _⟩ | ⟨he, _⟩
    · rw [he] at hl; cases hl
    · rw [he] at hl; injection hl with hl; injection hl with e1 e2; subst e2
      exact (headRound_keeps h3 ha).trans (((opsA_keeps h4).mono ha.ops).trans ((hih _ _ _ _ _ _ _ h5).mono ha.rest))
  · rename_i F kd z
    obtain ⟨a1, a2, a3, a4, a5⟩ := foldOf_asg (hF _ rfl) ha
    split at h <;> (try (simp at h; done))
    rename_i t3 h3
    obtain ⟨t4, s4, t5, s5, c, t6, t7, s7, ex2, t8, s8, h4, h5, _, _, h6, h7, h8, h9⟩ := foldRound_some h
    obtain ⟨_, _, he⟩ := endRound_some h9
    rcases he with ⟨he, _⟩ | ⟨he, _⟩
    · rw [he] at hl; cases hl
    · rw [he] at hl; injection hl with hl; injection hl with e1 e2; subst e2
      have k0 : Keeps asg tm0 (tm0.set F.r (.chan (some st0.ct))) := fun t ht => by rw [T.get_set, if_neg (by rintro rfl; exact ht a1)]
      have k6 : Keeps asg t5 t6 := (putDst_keeps h6).mono fun t ht => by simp at ht; subst ht; exact a2
      exact k0.trans ((headRound_keeps h3 ha).trans (((opsA_keeps h4).mono ha.ops).trans (((opsA_keeps h5).mono a3).trans (k6.trans (((opsA_keeps h7).mono a4).trans ((hih _ _ _ _ _ _ _ h8).mono a5))))))

theorem foldI_of {L : MapLoop} {tm : T Value} {F : FoldI} (hF : F = none ∨ F = foldI L tm) : ∀ q, F = some q → foldOf L.rest = some q.1 ∧ tm.get q.1.r = some (.int q.2.1 q.2.2) ∧ q.1.r ≠ L.d1 ∧ q.1.r ≠ L.d2 := by
  intro q hq
  rcases hF with h | h
  · rw [h] at hq; cases hq
  · rw [hq] at h
    unfold foldI at h
    split at h <;> (try (simp at h; done))
    rename_i F1 h1
    split at h <;> (try (simp at h; done))
    rename_i hne
    split at h <;> (try (simp at h; done))
    rename_i k z h2
    simp at h; subst h
    simp only [Bool.or_eq_false_iff] at hne
    exact ⟨h1, h2, fun e => by simp only at e; rw [e] at hne; simp at hne, fun e => by simp only at e; rw [e] at hne; simp at hne⟩

theorem loopM_keeps {cx : Cx} {ov : Ov} {ih : CodeRun} (hih : RunKeeps ih) {c : Code} {L : MapLoop} (hL : mapLoop c = some L) {nt : Nat} {tm tm' : T Value} {st st' : St} {ex : Ex} (h : loopM cx ov ih c L nt tm st = some (ex, tm', st')) : Keeps (dstsOf c) tm tm' := by
  have ha := mapLoop_asg hL
  obtain ⟨F, hF, h⟩ := loopM_some h
  have hF := foldI_of hF
  obtain ⟨a, m, lk, es, ⟨ct, z, lv⟩, _, _, _, _, _, h1, h2⟩ := loopG_some h
  have k0 : Keeps (dstsOf c) tm (forget (dstsOf c) tm) := fun t ht => by rw [forget_get, if_neg ht]
  refine k0.trans ?_
  obtain ⟨_, he⟩ := behindLoop_some h2
  rcases he with ⟨_, _, t1, t2, p1, p2, h3⟩ | ⟨hl, _⟩
  · have k2 : Keeps (dstsOf c) (forget (dstsOf c) tm) t2 := fun t ht => by
      rw [(putDst_get p2 t).1 (by rintro ⟨⟩; exact ht ha.d2), (putDst_get p1 t).1 (by rintro ⟨⟩; exact ht ha.d1)]
    rcases h3 with ⟨_, rfl⟩ | ⟨F', k, z0, hF', _, p3⟩
    · exact k2
    · have hr := (foldOf_asg (hF _ hF').1 ha).1
      exact k2.trans ((putDst_keeps p3).mono fun t ht => by simp at ht; subst ht; exact hr)
  · obtain ⟨_, _, _, _, h5⟩ := sumRounds_spec _ _ _ _ _ _ _ h1
    obtain ⟨_, _, hs⟩ := h5 _ _ hl
    obtain ⟨e, he, r, hr, t0, hlv, hsame⟩ := hs rfl
    intro t ht
    rw [hsame t ht]
    exact roundG_keeps hih ha (fun q hq => (hF q hq).1) hr hlv t ht

theorem findLabel_dsts : ∀ (c : Code) (l : Nat) (r : Code), findLabel c l = some r → ∀ t ∈ dstsOf r, t ∈ dstsOf c := by
  intro c
  induction c with
  | seq a b iha ihb =>
    intro l r h t ht
    simp only [findLabel] at h
    split at h
    · rename_i ra hra
      simp at h; subst h
      simp only [dstsOf, List.mem_append] at ht ⊢
      exact ht.imp (iha _ _ hra t) id
    · simp only [dstsOf, List.mem_append]
      exact .inr (ihb _ _ h t ht)
  | label k =>
    intro l r h t ht
    simp only [findLabel] at h
    split at h
    · simp at h; subst h; simp [dstsOf] at ht
    · cases h
  | _ => intro l r h; simp [findLabel] at h

theorem scopeA_keeps {ih : CodeRun} (hih : RunKeeps ih) {body : Code} {nt : Nat} {l : List Tmp} (hl : ∀ t ∈ dstsOf body, t ∈ l) : ∀ {n : Nat} {c : Code} {tm tm' : T Value} {st st' : St} {ex : Ex}, scopeA ih body nt n c tm st = some (ex, tm', st') → (∀ t ∈ dstsOf c, t ∈ l) → Keeps l tm tm' := by
  intro n
  induction n with
  | zero => intro c tm tm' st st' ex h; simp [scopeA] at h
  | succ n ihn =>
    intro c tm tm' st st' ex h hc
    simp only [scopeA] at h
    split at h <;> (try (simp at h; done))
    rename_i h1
    have b := (hih _ _ _ _ _ _ _ h1).mono hc
    split at h
    · split at h
      · rename_i rest hf
        exact b.trans (ihn h fun t ht => hl t (findLabel_dsts _ _ _ hf t ht))
      · simp at h; obtain ⟨_, rfl, _⟩ := h; exact b
    · simp at h; obtain ⟨_, rfl, _⟩ := h; exact b

theorem stepA_keeps {cx : Cx} {ov : Ov} {ih : CodeRun} (hov : OvMono ov) (hih : RunKeeps ih) : RunKeeps (stepA cx ov ih) := by
  intro c nt tm st ex tm' st' h
  unfold stepA at h
  cases c <;> simp only at h <;> (try (simp at h; done))
  case skip => simp at h; obtain ⟨_, rfl, _⟩ := h; exact Keeps.refl _ _
  case label => simp at h; obtain ⟨_, rfl, _⟩ := h; exact Keeps.refl _ _
  case ret => simp at h; obtain ⟨_, rfl, _⟩ := h; exact Keeps.refl _ _
  case exit => simp at h; obtain ⟨_, rfl, _⟩ := h; exact Keeps.refl _ _
  case goto => simp at h; obtain ⟨_, rfl, _⟩ := h; exact Keeps.refl _ _
  case scope a => exact scopeA_keeps hih (fun t ht => by simp [dstsOf, ht]) h (fun t ht => by simp [dstsOf, ht])
  case rangeFunc f ps as bo =>
    obtain ⟨k, first, captured, v, s2, ls, pend, tm2, nt2, ps2, as2, bo2, _, _, _, _, _, rfl, _⟩ := rangeA_some h
    exact Keeps.refl _ _
  case seq a b =>
    split at h <;> (try (simp at h; done))
    rename_i h1
    have h2 : Keeps (dstsOf (.seq a b)) _ _ := (hih _ _ _ _ _ _ _ h1).mono fun t ht => by simp [dstsOf, ht]
    split at h
    · exact h2.trans ((hih _ _ _ _ _ _ _ h).mono fun t ht => by simp [dstsOf, ht])
    · simp at h; obtain ⟨_, rfl, _⟩ := h; exact h2
  case cond x a b =>
    split at h <;> (try (simp at h; done))
    · exact (hih _ _ _ _ _ _ _ h).mono fun t ht => by simp [dstsOf, ht]
    · exact (hih _ _ _ _ _ _ _ h).mono fun t ht => by simp [dstsOf, ht]
  case block id a =>
    split at h <;> (try (simp at h; done))
    rename_i h1
    have h2 := hih _ _ _ _ _ _ _ h1
    split at h
    · split at h <;> (simp at h; obtain ⟨_, rfl, _⟩ := h; exact h2)
    · simp at h; obtain ⟨_, rfl, _⟩ := h; exact h2
  case loop a =>
    split at h
    · exact fun t ht => hov.keeps a _ _ _ _ _ _ _ (by assumption) h t (by simpa [dstsOf] using ht)
    split at h
    · rename_i hL
      exact loopM_keeps hih hL h
    · split at h <;> (try (simp at h; done))
      rename_i h1
      have h2 := hih _ _ _ _ _ _ _ h1
      split at h
      · exact Keeps.trans h2 (hih _ _ _ _ _ _ _ h)
      · simp at h; obtain ⟨_, rfl, _⟩ := h; exact h2
  case region id ops draw =>
    split at h
    · split at h <;> (try (simp at h; done))
      rename_i h1
      simp at h; obtain ⟨_, rfl, _⟩ := h
      exact opsA_keeps h1
    · split at h <;> (try (simp at h; done))
      rename_i h1
      simp at h; obtain ⟨_, rfl, _⟩ := h
      unfold drawA at h1
      split at h1 <;> (try (simp at h1; done))
      split at h1 <;> (try (simp at h1; done))
      rename_i h2
      simp at h1; obtain ⟨rfl, _⟩ := h1
      exact stepsD_keeps h2

theorem run_keeps {cx : Cx} {ov : Ov} (hov : OvMono ov) : ∀ n, RunKeeps (run cx ov n) := by
  intro n
  induction n with
  | zero => intro c nt tm st ex tm' st' h; simp [run] at h
  | succ n ih => exact stepA_keeps hov ih

end Go.Ai

/-! Ranges over maps: what the model does, and the rule. -/
namespace Go.Ai
open Go

section
variable {P : Program} {w : World}

/-- the same but for what was drawn, and for one object -/
def Turned (w w' : World) (b : Nat) (o : Obj) : Prop := w'.heap = w.heap.setIfInBounds b o ∧ w'.os = w.os ∧ w'.tape = w.tape ∧ w'.output = w.output
def Alike (w w' : World) : Prop := w'.heap = w.heap ∧ w'.os = w.os ∧ w'.tape = w.tape ∧ w'.output = w.output

theorem marks_alike {B : Nat} {w w' : World} {ds : List Deferred} (h : Alike w w') (hm : Marks B w ds) : Marks B w' ds := by
  obtain ⟨rs, h1, h2, h3⟩ := hm
  exact ⟨rs, h1, h2, fun r hr => ⟨(h3 r hr).1, by rw [h.1]; exact (h3 r hr).2⟩⟩

theorem next_nil {b : Nat} {sp : Option Nat} {s l : Nat} {q : Array Nat} {t : TypeId} (hb : w.heap[b]? = some (.mapIter none s q l)) :
    (Instr.next (.pointer (some ⟨b, 0, sp⟩)) false t).run P w = .ok (.tuple #[.bool false]) w := by
  have hg : (getObj b).run P w = .ok (.mapIter none s q l) w := by simp [getObj, Sem.run, hb]
  simp [Instr.next, hg]

theorem choose_next (n : Nat) (hn : 0 < n) : ∃ k w', (choose (.mapNext n)).run P w = .ok k w' ∧ k < n ∧ Alike w w' := by
  rw [run_choose]
  split
  · exact ⟨0, w, rfl, hn, rfl, rfl, rfl, rfl⟩
  · exact ⟨_, w.drew, rfl, Nat.mod_lt _ hn, rfl, rfl, rfl, rfl⟩

theorem next_map {b mb : Nat} {sp : Option Nat} {c last clock : Nat} {seen : Array Nat} {es : Array MapEntry} {t : TypeId} (hb : w.heap[b]? = some (.mapIter (some mb) c seen last)) (hm : w.heap[mb]? = some (.map es clock))
    (hlast : seen.isEmpty = true ∨ last = clock) (hborn : ∀ e ∈ es.toList, e.born < clock) :
    (∃ w', (Instr.next (.pointer (some ⟨b, 0, sp⟩)) false t).run P w = .ok (.tuple #[.bool false]) w' ∧ Alike w w' ∧ ∀ e ∈ es.toList, e.born < c → seen.contains e.born = true) ∨
    ∃ e w', e ∈ es.toList ∧ seen.contains e.born = false ∧ (Instr.next (.pointer (some ⟨b, 0, sp⟩)) false t).run P w = .ok (.tuple #[.bool true, e.key, e.val]) w' ∧ Turned w w' b (.mapIter (some mb) c (seen.push e.born) clock) := by
  have hg : (getObj b).run P w = .ok (.mapIter (some mb) c seen last) w := by simp [getObj, Sem.run, hb]
  have hg2 : (getObj mb).run P w = .ok (.map es clock) w := by simp [getObj, Sem.run, hm]
  have hno : (!seen.isEmpty && !es.isEmpty && es.all (·.born ≥ last)) = false := by
    rcases hlast with h | h
    · simp [h]
    · subst h
      cases hes : es.isEmpty with
      | true => simp
      | false =>
        have hsz : 0 < es.size := by
          rcases Nat.eq_zero_or_pos es.size with h0 | h0
          · rw [Array.isEmpty_iff_size_eq_zero.2 h0] at hes; cases hes
          · exact h0
        have h0 := hborn es[0] (by simp)
        have : es.all (·.born ≥ last) = false := by
          rw [Array.all_eq_false]
          exact ⟨0, hsz, by simp; omega⟩
        simp [this]
  unfold Instr.next
  simp only [Sem.run_bind, hg, hg2, Result.andThen_ok, hno, Bool.false_eq_true, if_false]
  generalize hleft : es.filter (fun e => !seen.contains e.born) = left
  generalize hcand : ((if (left.filter fun e => decide (e.born < c)).isEmpty then #[none] else #[]) ++ (left.filter (fun e => decide (e.born < c)) ++ left.filter fun e => decide (e.born ≥ c)).map some : Array (Option MapEntry)) = cand
  have hpos : 0 < cand.size := by
    rw [← hcand]
    split
    · simp; omega
    · rename_i hne
      have : 0 < (left.filter fun e => decide (e.born < c)).size := by
        rcases Nat.eq_zero_or_pos (left.filter fun e => decide (e.born < c)).size with h0 | h0
        · exact absurd (Array.isEmpty_iff_size_eq_zero.2 h0) hne
        · exact h0
      simp only [Array.size_append, Array.size_map]
      omega
  obtain ⟨k, w1, hk, hlt, hal⟩ := choose_next (P := P) (w := w) cand.size hpos
  have hin : ∀ e, some e ∈ cand.toList → e ∈ es.toList ∧ seen.contains e.born = false := by
    intro e he
    rw [← hcand] at he
    have : e ∈ left := by
      simp only [Array.toList_append, Array.toList_map, List.mem_append, List.mem_map] at he
      rcases he with he | ⟨x, hx, hxe⟩
      · split at he <;> simp at he
      · injection hxe with hxe; subst hxe
        rcases hx with hx | hx <;> (simp only [Array.toList_filter, List.mem_filter] at hx; simpa using hx.1)
    rw [← hleft] at this
    simp only [Array.mem_filter, Bool.not_eq_true'] at this
    exact ⟨by simpa using this.1, this.2⟩
  have hck : cand[k]? = some cand[k] := Array.getElem?_eq_getElem hlt
  have hmem : cand[k] ∈ cand.toList := by simp
  simp only [hk, Result.andThen_ok, hck]
  cases hc : cand[k] with
  | none =>
    refine .inl ⟨w1, by simp, hal, fun e he hb => ?_⟩
    rw [hc] at hmem
    cases hse : seen.contains e.born with
    | true => rfl
    | false =>
      exfalso
      have hel : e ∈ left.filter (fun e => decide (e.born < c)) := by
        rw [Array.mem_filter, ← hleft, Array.mem_filter]
        exact ⟨⟨by simpa using he, by show (!seen.contains e.born) = true; rw [hse]; rfl⟩, by simpa using hb⟩
      have hne : (left.filter fun e => decide (e.born < c)).isEmpty = false := by
        cases hem : (left.filter fun e => decide (e.born < c)).isEmpty with
        | false => rfl
        | true => rw [Array.isEmpty_iff] at hem; rw [hem] at hel; simp at hel
      rw [← hcand, hne] at hmem
      simp at hmem
  | some e =>
    rw [hc] at hmem
    obtain ⟨h1, h2⟩ := hin e hmem
    refine .inr ⟨e, { w1 with heap := w1.heap.setIfInBounds b (.mapIter (some mb) c (seen.push e.born) clock) }, h1, h2, ?_, ?_⟩
    · have hb1 : w1.heap[b]? = some (.mapIter (some mb) c seen last) := by rw [hal.1]; exact hb
      simp only [Sem.run_bind]
      rw [setObj_run hb1 (by simp)]
      simp
    · exact ⟨by rw [hal.1], hal.2.1, hal.2.2.1, hal.2.2.2⟩

theorem entry_map {b mb : Nat} {sp : Option Nat} {c clock : Nat} {seen : Array Nat} {es : Array MapEntry} {e : MapEntry} (hb : w.heap[b]? = some (.mapIter (some mb) c (seen.push e.born) clock)) (hm : w.heap[mb]? = some (.map es clock))
    (he : e ∈ es.toList) (hnd : (es.toList.map (·.born)).Nodup) : (Instr.entry (.pointer (some ⟨b, 0, sp⟩))).run P w = .ok (.tuple #[e.key, e.val]) w := by
  have hg : (getObj b).run P w = .ok (.mapIter (some mb) c (seen.push e.born) clock) w := by simp [getObj, Sem.run, hb]
  have hg2 : (getObj mb).run P w = .ok (.map es clock) w := by simp [getObj, Sem.run, hm]
  have hf : es.find? (·.born == e.born) = some e := by
    rw [← Array.find?_toList]
    have : ∀ (l : List MapEntry), e ∈ l → (l.map (·.born)).Nodup → l.find? (·.born == e.born) = some e := by
      intro l
      induction l with
      | nil => intro h; simp at h
      | cons x l ih =>
        intro h hn
        simp only [List.map_cons, List.nodup_cons] at hn
        rw [List.find?_cons]
        rcases List.mem_cons.1 h with rfl | h
        · simp
        · have hne : (x.born == e.born) = false := by
            cases hx : x.born == e.born with
            | false => rfl
            | true =>
              rw [beq_iff_eq] at hx
              exact absurd (List.mem_map.2 ⟨e, h, hx.symm⟩) hn.1
          simp only [hne]
          exact ih h hn.2
    exact this _ he hnd
  simp [Instr.entry, hg, hg2, hf]

end

theorem Fresh.after' {P : Program} {m m1 : Nat → Option Loc} {G G1 : Nat → AObj → Prop} {w w1 : World} {ct ct1 ct2 ct3 : Nat} (hf : Fresh m ct ct3) (hs : Step (Cx.of P) m G w ct m1 G1 w1 ct1) (h1 : ct ≤ ct1) (h2 : ct2 ≤ ct3) : Fresh m1 ct1 ct2 := by
  intro i hi1 hi2
  cases hm : m1 i with
  | none => rfl
  | some l =>
    rcases hs.dom i l hm with h4 | h4
    · rw [hf i (by omega) (by omega)] at h4; cases h4
    · omega

section
variable {P : Program} {ov : Ov} {ih : CodeRun} {m : Nat → Option Loc} {st : St} {w0 : World}

/-- the heap at the loop's head, in a world in which the iterator alone has turned -/
theorem head_rep (hR : Rep (Cx.of P) m st.G w0) {ia : Nat} {mm : Option Nat} {lk : Bool} (hit : st.hp.get ia = some (.iterM mm lk)) {lit : Loc} (hl : m ia = some lit) {w : World} (hsz : w0.heap.size ≤ w.heap.size)
    (hb : ∀ b, b < w0.heap.size → b ≠ lit.blk → w.heap[b]? = w0.heap[b]?) (ct : Nat) : Rep (Cx.of P) m (⟨st.hp.del ia, ct⟩ : St).G w ∧ Rep (Cx.of P) m (⟨(st.hp.del ia).mapO frz, ct⟩ : St).G w := by
  have old : ∀ id o, (⟨st.hp.del ia, ct⟩ : St).G id o → st.G id o ∧ id ≠ ia := by
    intro id o hg
    simp only [St.G, T.get_del] at hg
    split at hg
    · cases hg
    · rename_i hne; exact ⟨hg, hne⟩
  have same : ∀ id o, (⟨st.hp.del ia, ct⟩ : St).G id o → ∃ l, m id = some l ∧ l.blk < w0.heap.size ∧ l.blk ≠ lit.blk := by
    intro id o hg
    obtain ⟨h1, h2⟩ := old id o hg
    obtain ⟨l, h3, h4⟩ := hR.dom id o h1
    exact ⟨l, h3, h4, fun e => h2 (hR.inj ia id _ o lit l hit h1 rfl hl h3 e.symm).symm⟩
  have obj : ∀ μ, Ext m μ → ∀ id o, (⟨st.hp.del ia, ct⟩ : St).G id o → ObjRep (Cx.of P) μ w id o := by
    intro μ hμ id o hg
    obtain ⟨l, h1, h2, h3⟩ := same id o hg
    refine (hR.obj μ hμ id o (old id o hg).1).congr ?_
    rw [hμ id l h1]
    exact hb _ h2 h3
  have fr : ∀ id o, (⟨(st.hp.del ia).mapO frz, ct⟩ : St).G id o → ∃ o0, (⟨st.hp.del ia, ct⟩ : St).G id o0 ∧ frz o0 = some o := by
    intro id o hg
    simp only [St.G, T.get_mapO, Option.bind_eq_some_iff] at hg
    exact hg
  refine ⟨⟨fun id o hg => ?_, obj, fun i j oi oj li lj hi hj => hR.inj i j oi oj li lj (old _ _ hi).1 (old _ _ hj).1, hR.glob⟩, ⟨fun id o hg => ?_, fun μ hμ id o hg => ?_, fun i j oi oj li lj hi _ hw => ?_, hR.glob⟩⟩
  · obtain ⟨l, h1, h2, _⟩ := same id o hg
    exact ⟨l, h1, by omega⟩
  · obtain ⟨o0, h0, _⟩ := fr id o hg
    obtain ⟨l, h1, h2, _⟩ := same id o0 h0
    exact ⟨l, h1, by omega⟩
  · obtain ⟨o0, h0, hf⟩ := fr id o hg
    have := obj μ hμ id o0 h0
    cases o0 <;> simp only [frz] at hf <;> (try (simp at hf; done)) <;> (simp at hf; subst hf)
    · obtain ⟨cells, e', fz, h1, h2, h3, _, h5, _⟩ := this
      exact ⟨cells, e', fz, h1, h2, h3, (fun h => by cases h), h5, (fun h => by cases h)⟩
    · exact this
  · obtain ⟨o0, _, hf⟩ := fr i oi hi
    cases o0 <;> simp only [frz] at hf <;> (try (simp at hf; done)) <;> (simp at hf; subst hf; simp [AObj.isWr] at hw)

theorem frozen_ro {t : T AObj} {ct id : Nat} {o : AObj} (hg : (⟨t.mapO frz, ct⟩ : St).G id o) : o.isWr = false := by
  simp only [St.G, T.get_mapO, Option.bind_eq_some_iff] at hg
  obtain ⟨o0, _, hf⟩ := hg
  cases o0 <;> simp only [frz] at hf <;> (try (simp at hf; done)) <;> (simp at hf; subst hf; rfl)

/-- at the loop's head -/
structure MJ (m : Nat → Option Loc) (w0 : World) (size ib B : Nat) (tm0 : T Value) (a : Act) (w : World) : Prop where
  hsz : w0.heap.size ≤ w.heap.size
  os : w.os = w0.os
  tape : w.tape = w0.tape
  output : w.output = w0.output
  block : ∀ b, b < w0.heap.size → b ≠ ib → w.heap[b]? = w0.heap[b]?
  tm : TmRep m tm0 a.tmps
  defers : Marks B w a.defers
  size : a.tmps.size = size

theorem eval_tmp {a : Act} {t : Nat} {v : Value} (h : a.tmps[t]? = some v) : a.eval (.tmp t) = v := by
  simp only [Act.eval]
  simp [h]

/-- the two operations at the head -/
theorem head_wp {L : MapLoop} {i1 : Nat} {r1 : Array Oper} (hr1 : r1.toList = [L.oN, L.oX]) (hN : L.oN.op = .next (.tmp L.it) false) (hd1 : L.oN.dst = some L.d1) (hg1 : L.oN.guard = none)
    (hX : L.oX.op = .extract (.tmp L.d1) 0) (hd2 : L.oX.dst = some L.d2) (hg2 : L.oX.guard = none) {Q : Exit → Act → World → Prop} {a : Act} {w w1 : World} {ptr tv v0 : Value} {vs : Array Value}
    (hp : a.tmps[L.it]? = some ptr) (hs1 : L.d1 < a.tmps.size) (htv : tv = .tuple vs) (hv0 : vs[0]? = some v0)
    (hrun : (Instr.next ptr false L.oN.type).run P w = .ok tv w1) (hK : Q .normal ((a.put (some L.d1) tv).put (some L.d2) v0) w1) {ro : Option Nat} : (Code.region i1 r1 false).wpIn (FR ro) 0 P Q a w := by
  refine wpIn_region ?_
  have hsz : r1.size = 2 := by rw [← Array.length_toList, hr1]; rfl
  have h0 : r1[0]? = some L.oN := by rw [← Array.getElem?_toList, hr1]; rfl
  have h1 : r1[1]? = some L.oX := by rw [← Array.getElem?_toList, hr1]; rfl
  have hw : ∀ (o : Oper) y, o.guard = none → Region.wanted o y = true := by intro o y h; unfold Region.wanted; rw [h]
  rw [hsz, show List.range 2 = [0, 1] by rfl]
  simp only [wpOpsIn, h0, h1, hw _ _ hg1, hw _ _ hg2, if_true]
  have e1 : (execOp a.eval L.oN).run P w = .ok (.value tv) w1 := by
    unfold execOp
    rw [hN]
    simp [eval_tmp hp, hrun]
  have e2 : (execOp (a.put (some L.d1) tv).eval L.oX).run P w1 = .ok (.value v0) w1 := by
    unfold execOp
    rw [hX]
    have : (a.put (some L.d1) tv).tmps[L.d1]? = some tv := by
      show (a.tmps.setIfInBounds L.d1 tv)[L.d1]? = _
      rw [Array.getElem?_setIfInBounds_self_of_lt hs1]
    simp only [eval_tmp this]
    subst htv
    simp [Instr.extract, hv0]
  refine ⟨fun _ _ => trivial, ?_⟩
  rw [Oper.semAt_eq _ _ _ (by intro c hc; rw [hN] at hc; cases hc), e1]
  simp only [Oper.uponIn, hd1]
  refine ⟨fun _ _ => trivial, ?_⟩
  rw [Oper.semAt_eq _ _ _ (by intro c hc; rw [hX] at hc; cases hc), e2]
  simp only [Oper.uponIn, hd2]
  exact hK

theorem Rep.setM {cx : Cx} {m : Nat → Option Loc} {G : Nat → AObj → Prop} {w : World} (hR : Rep cx m G w) {id : Nat} (hid : m id = none) (l : Loc) : Rep cx (setM m id l) G w where
  dom := fun i o hg => by
    obtain ⟨k, h1, h2⟩ := hR.dom i o hg
    exact ⟨k, setM_mono hid _ _ h1, h2⟩
  obj := fun μ hμ i o hg => hR.obj μ (hμ.mono (setM_mono hid)) i o hg
  inj := fun i j oi oj li lj hi hj hw hmi hmj => by
    obtain ⟨ki, h1, _⟩ := hR.dom i oi hi
    obtain ⟨kj, h2, _⟩ := hR.dom j oj hj
    rw [setM_mono hid _ _ h1] at hmi
    rw [setM_mono hid _ _ h2] at hmj
    injection hmi with e1; injection hmj with e2; subst e1; subst e2
    exact hR.inj i j oi oj _ _ hi hj hw h1 h2
  glob := fun g hg => setM_mono hid _ _ (hR.glob g hg)

/-- a sign more -/
theorem Step.sign {cx : Cx} {m : Nat → Option Loc} {G : Nat → AObj → Prop} {w : World} (hR : Rep cx m G w) {id : Nat} (hid : m id = none) (l : Loc) {ct ct' : Nat} (h1 : ct ≤ id) (h2 : id < ct') : Step cx m G w ct (setM m id l) G w ct' where
  mono := setM_mono hid
  dom := fun i k h => by
    simp only [Ai.setM] at h
    split at h
    · rename_i e; subst e; exact .inr ⟨h1, h2⟩
    · exact .inl h
  rep := hR.setM hid l
  fr := ⟨Nat.le_refl _, rfl, rfl, rfl, fun _ _ _ => rfl⟩
  prov := fun i o k hg hm => by
    obtain ⟨k2, h3, _⟩ := hR.dom i o hg
    rw [setM_mono hid _ _ h3] at hm; injection hm with e; subst e
    exact .inr ⟨i, o, _, hg, fun h => h, h3, rfl⟩

theorem Step.trans_same {cx : Cx} {m m1 m2 : Nat → Option Loc} {G G1 G2 : Nat → AObj → Prop} {w w1 w2 : World} {ct c2 : Nat} (h : Step cx m G w ct m1 G1 w1 c2) (h' : Step cx m1 G1 w1 ct m2 G2 w2 c2) : Step cx m G w ct m2 G2 w2 c2 where
  mono := fun i l hi => h'.mono i l (h.mono i l hi)
  dom := fun i l hi => (h'.dom i l hi).elim (fun h1 => h.dom i l h1) .inr
  rep := h'.rep
  fr := {
    size := Nat.le_trans h.fr.size h'.fr.size
    os := h'.fr.os.trans h.fr.os
    tape := h'.fr.tape.trans h.fr.tape
    output := h'.fr.output.trans h.fr.output
    block := fun b hb hno => by
      rw [h'.fr.block b (Nat.lt_of_lt_of_le hb h.fr.size) ?_, h.fr.block b hb hno]
      intro id o l hg hw hl he
      rcases h.prov id o l hg hl with h1 | ⟨id0, o0, l0, hg0, hw0, hl0, he0⟩
      · omega
      · exact hno id0 o0 l0 hg0 (hw0 hw) hl0 (he0.trans he) }
  prov := fun id o l hg hl => by
    rcases h'.prov id o l hg hl with h1 | ⟨id0, o0, l0, hg0, hw0, hl0, he0⟩
    · exact .inl (Nat.le_trans h.fr.size h1)
    · rcases h.prov id0 o0 l0 hg0 hl0 with h2 | ⟨id1, o1, l1, hg1, hw1, hl1, he1⟩
      · exact .inl (by omega)
      · exact .inr ⟨id1, o1, l1, hg1, fun h => hw1 (hw0 h), hl1, he1.trans he0⟩

theorem ofInt_wrap (k : IntKind) (n : Int) : BitVec.ofInt k.bits (k.wrap n) = BitVec.ofInt k.bits n := by
  apply BitVec.eq_of_toNat_eq
  rw [BitVec.toNat_ofInt, BitVec.toNat_ofInt]
  have h2 : (((2 ^ k.bits : Nat) : Int)) = (2 ^ k.bits : Int) := by simp
  rw [h2]
  unfold IntKind.wrap
  simp only
  congr 1
  split
  · have e : n % 2 ^ k.bits - 2 ^ k.bits = n % 2 ^ k.bits + 2 ^ k.bits * (-1) := by omega
    rw [e, Int.add_mul_emod_self_left, Int.emod_emod]
  · rw [Int.emod_emod]

theorem bitsI_comm (op : BinOp) (k : IntKind) (z a b : Int) : bitsI op k (bitsI op k z a) b = bitsI op k (bitsI op k z b) a := by
  have back : ∀ x : BitVec k.bits, BitVec.ofInt k.bits (k.wrap (x.toNat : Int)) = x := fun x => by
    rw [ofInt_wrap, BitVec.ofInt_natCast, BitVec.ofNat_toNat, BitVec.setWidth_eq]
  cases op <;> simp only [bitsI, back]
  case and => rw [BitVec.and_assoc, BitVec.and_comm (BitVec.ofInt _ a), ← BitVec.and_assoc]
  case or => rw [BitVec.or_assoc, BitVec.or_comm (BitVec.ofInt _ a), ← BitVec.or_assoc]
  case xor => rw [BitVec.xor_assoc, BitVec.xor_comm (BitVec.ofInt _ a), ← BitVec.xor_assoc]
  all_goals rw [BitVec.and_assoc, BitVec.and_comm (~~~BitVec.ofInt _ a), ← BitVec.and_assoc]

theorem foldZ_comm (F : FoldI) (z a b : Int) : foldZ F (foldZ F z a) b = foldZ F (foldZ F z b) a := by
  cases F with
  | none => rfl
  | some q => exact bitsI_comm _ _ _ _ _

theorem exec_bits {ρ : Operand → Value} {o : Oper} {op : BinOp} {t u : TypeId} {x y : Operand} (ho : o.op = .binOp op t x y u) (hb : bitsOp op = true) {k : IntKind} {z c : Int} (hx : ρ x = .int k z) (hy : ρ y = .int k c) (w : World) :
    (execOp ρ o).run P w = .ok (.value (.int k (bitsI op k z c))) w := by
  unfold execOp
  rw [ho]
  simp only [hx, hy]
  cases op <;> simp [bitsOp] at hb <;> simp [eqGuard, binOp, Op.intBits, bitsI]

def FoldAt (F : FoldI) (a : Act) (z : Int) : Prop := ∀ q, F = some q → a.tmps[q.1.r]? = some (.int q.2.1 z)

/-- behind a round -/
structure Behind (m : Nat → Option Loc) (w0 : World) (size : Nat) (lit : Loc) (B : Nat) (tm0 : T Value) (F : FoldI) (z : Int) (r : Rd) (w1 : World) (a' : Act) (w' : World) : Prop where
  mj : MJ m w0 size lit.blk B tm0 a' w'
  lit : w'.heap[lit.blk]? = w1.heap[lit.blk]?
  sum : r.lv = none → FoldAt F a' (foldZ F z r.c)
  left : ∀ ex t5, r.lv = some (ex, t5) → ∀ t v, t5.get t = some v → flat v = true → a'.tmps[t]? = some v

def outOf (r : Rd) : Exit := match r.lv with | none => .normal | some (ex, _) => exitOf ex

/-- into the body, behind the choice of an entry, up to what stands behind the entry's region -/
theorem entry_wp (hov : OvOk P ov) (hovm : OvMono ov) (hih : RunOk P ih) (hihm : RunMono ih) {L : MapLoop} {i2 : Nat} {r2 : Array Oper} (hr2 : r2.toList = L.oE :: L.ops) (hE : L.oE.op = .entry (.tmp L.it)) (hd3 : L.oE.dst = some L.d3) (hg3 : L.oE.guard = none)
    {nt : Nat} {a : Act} {w1 : World} (hn : nt ≤ a.tmps.size) {e ea : MapEntry} {mX : Nat → Option Loc} {tmX t3 t4 : T Value} {sX s4 : St} (hRX : Rep (Cx.of P) mX sX.G w1) (htX : TmRep mX tmX a.tmps)
    (h3 : headRound nt L tmX ea.key ea.val = some t3) (h4 : opsA (Cx.of P) ov ih nt (L.oE :: L.ops) L.ops t3 sX = some (t4, s4)) (hfX : Fresh mX sX.ct s4.ct) (hek : VRep mX ea.key e.key) (hev : VRep mX ea.val e.val)
    {cp : Value} (hcp : a.tmps[L.it]? = some cp) (hit1 : L.it ≠ L.d1) (hit2 : L.it ≠ L.d2) (hent : (Instr.entry cp).run P w1 = .ok (.tuple #[e.key, e.val]) w1) {ro : Option Nat} {Q : Exit → Act → World → Prop}
    (hrest : ∀ a' w' m4, Step (Cx.of P) mX sX.G w1 sX.ct m4 s4.G w' s4.ct → TmRep m4 t4 a'.tmps → a'.defers = a.defers → a'.tmps.size = a.tmps.size → L.rest.wpIn (FR ro) 0 P (Exit.inBlock L.bid Q) a' w') :
    (Code.block L.bid (.seq (.region i2 r2 false) L.rest)).wpIn (FR ro) 0 P Q ((a.put (some L.d1) (.tuple #[.bool true, e.key, e.val])).put (some L.d2) (.bool true)) w1 := by
  obtain ⟨t1, t2, h1, h2, h3⟩ := headRound_some h3
  have hov2 : VRep mX (.tuple #[ea.key, ea.val]) (.tuple #[e.key, e.val]) := by
    intro μ hμ
    simp [concA_eq, hek μ hμ, hev μ hμ]
  have hov3 : VRep mX (.tuple #[.bool true, ea.key, ea.val]) (.tuple #[.bool true, e.key, e.val]) := by
    intro μ hμ
    simp [concA_eq, hek μ hμ, hev μ hμ]
  obtain ⟨p1, q1, z1⟩ := putDst_rep h1 htX hov3 hn
  obtain ⟨p2, q2, z2⟩ := putDst_rep h2 p1 (cv := .bool true) (fun μ _ => by simp) (by omega)
  obtain ⟨p3, q3, z3⟩ := putDst_rep h3 p2 hov2 (by omega)
  generalize ha2 : (a.put (some L.d1) (.tuple #[.bool true, e.key, e.val])).put (some L.d2) (.bool true) = a2 at *
  have hcp2 : a2.tmps[L.it]? = some cp := by
    rw [← ha2]
    show ((a.tmps.setIfInBounds L.d1 _).setIfInBounds L.d2 _)[L.it]? = _
    rw [Array.getElem?_setIfInBounds_ne (Ne.symm hit2), Array.getElem?_setIfInBounds_ne (Ne.symm hit1)]
    exact hcp
  refine wpIn_block ?_
  refine wpIn_seq ?_
  refine wpIn_region ?_
  have hsz : r2.size = (L.oE :: L.ops).length := by rw [← Array.length_toList, hr2]
  have h0 : r2[0]? = some L.oE := by rw [← Array.getElem?_toList, hr2]; rfl
  have hw : Region.wanted L.oE (yielded r2 a2.tmps) = true := by unfold Region.wanted; rw [hg3]
  have hrange : List.range r2.size = 0 :: (List.range L.ops.length).map (1 + ·) := by
    rw [hsz, List.length_cons, List.range_succ_eq_map]
    simp [Nat.add_comm 1]
  rw [hrange]
  simp only [wpOpsIn, h0, hw, if_true]
  have e1 : (execOp a2.eval L.oE).run P w1 = .ok (.value (.tuple #[e.key, e.val])) w1 := by
    unfold execOp
    rw [hE]
    simp [eval_tmp hcp2, hent]
  refine ⟨fun _ _ => trivial, ?_⟩
  rw [Oper.semAt_eq _ _ _ (by intro c hc; rw [hE] at hc; cases hc), e1]
  simp only [Oper.uponIn, hd3]
  have ho := opsA_sound hov hovm hih hihm 1 L.ops (all := L.oE :: L.ops) ⟨[], by simp⟩ h4 (ro := ro) hRX p3 (by omega) hfX
  rw [show (L.oE :: L.ops).toArray = r2 by rw [← hr2]] at ho
  refine wpOps_mono ?_ ho
  rintro x a' w' ⟨rfl, m4, hs4, ht4, hd4, hz4⟩
  exact hrest a' w' m4 hs4 ht4 (by rw [hd4, q3, q2, q1]) (by rw [hz4, z3, z2, z1])

/-- the body, behind the choice of an entry -/
theorem body_wp (hov : OvOk P ov) (hovm : OvMono ov) (hih : RunOk P ih) (hihm : RunMono ih) (hkeep : RunKeeps ih) {L : MapLoop} {i2 : Nat} {r2 : Array Oper} (hr2 : r2.toList = L.oE :: L.ops) (hE : L.oE.op = .entry (.tmp L.it)) (hd3 : L.oE.dst = some L.d3) (hg3 : L.oE.guard = none)
    {asg : List Tmp} (hasg : Asg L asg) {nt : Nat} {tm0 : T Value} (hno : ∀ t ∈ asg, tm0.get t = none) {F : FoldI} (hF : ∀ q, F = some q → foldOf L.rest = some q.1)
    (hR : Rep (Cx.of P) m st.G w0) {ia : Nat} {mm : Option Nat} {lk : Bool} (hit : st.hp.get ia = some (.iterM mm lk)) {lit : Loc} (hl : m ia = some lit) {ct : Nat} (hf : Fresh m st.ct ct)
    {ea : MapEntry} {r : Rd} (hround : roundG (Cx.of P) ov ih nt L F tm0 ⟨(st.hp.del ia).mapO frz, st.ct⟩ ea.key ea.val = some r) (hcc : r.ct ≤ ct) {size B : Nat} (hn : nt ≤ size) (hB : B ≤ w0.heap.size) {ro : Option Nat} (hro : ro = none ∨ noRF L.rest = true)
    {a : Act} {w : World} (hJ : MJ m w0 size lit.blk B tm0 a w) {w1 : World} (hmk1 : Marks B w1 a.defers) {e : MapEntry} (hek : VRep m ea.key e.key) (hev : VRep m ea.val e.val)
    (hw1s : w1.heap.size = w.heap.size) (hw1o : w1.os = w.os) (hw1t : w1.tape = w.tape) (hw1p : w1.output = w.output) (hw1b : ∀ b, b ≠ lit.blk → w1.heap[b]? = w.heap[b]?) (hlit : lit.blk < w0.heap.size)
    {ptr : Value} (hp : tm0.get L.it = some ptr → ∃ cp, a.tmps[L.it]? = some cp ∧ (Instr.entry cp).run P w1 = .ok (.tuple #[e.key, e.val]) w1) (hptr : tm0.get L.it = some ptr) {z : Int} (hz : FoldAt F a z)
    {K : Exit → Act → World → Prop} (hK : ∀ a' w', Behind m w0 size lit B tm0 F z r w1 a' w' → K (outOf r) a' w') :
    (Code.block L.bid (.seq (.region i2 r2 false) L.rest)).wpIn (FR ro) 0 P K ((a.put (some L.d1) (.tuple #[.bool true, e.key, e.val])).put (some L.d2) (.bool true)) w1 := by
  have hsize : nt ≤ a.tmps.size := by rw [hJ.size]; exact hn
  have hitn : L.it ∉ asg := fun h => by rw [hno _ h] at hptr; cases hptr
  have hit1 : L.it ≠ L.d1 := fun e => hitn (by rw [e]; exact hasg.d1)
  have hit2 : L.it ≠ L.d2 := fun e => hitn (by rw [e]; exact hasg.d2)
  obtain ⟨cp, hcp, hent⟩ := hp hptr
  -- the frozen heap
  have hfr : Rep (Cx.of P) m (⟨(st.hp.del ia).mapO frz, st.ct⟩ : St).G w1 := by
    refine (head_rep hR hit hl (w := w1) (by have := hJ.hsz; omega) (fun b hb hne => ?_) st.ct).2
    rw [hw1b b hne]; exact hJ.block b hb hne
  -- behind it
  have done : ∀ (a' : Act) (w' : World) (m' : Nat → Option Loc) (G' : Nat → AObj → Prop) (c1 c2 : Nat) (tl : T Value), Keeps asg tm0 tl → Step (Cx.of P) m (⟨(st.hp.del ia).mapO frz, st.ct⟩ : St).G w1 c1 m' G' w' c2 → TmRep m' tl a'.tmps → Marks B w' a'.defers → a'.tmps.size = size →
      MJ m w0 size lit.blk B tm0 a' w' ∧ w'.heap[lit.blk]? = w1.heap[lit.blk]? := by
    intro a' w' m' G' c1 c2 tl hkp hs ht' hd' hz'
    have hblk : ∀ b, b < w1.heap.size → w'.heap[b]? = w1.heap[b]? := fun b hb => hs.fr.block b hb fun id o l hg hwr => by rw [frozen_ro hg] at hwr; cases hwr
    refine ⟨⟨?_, ?_, ?_, ?_, ?_, ?_, hd', hz'⟩, hblk _ (by have := hJ.hsz; omega)⟩
    · have := hs.fr.size; have := hJ.hsz; omega
    · exact hs.fr.os.trans (hw1o.trans hJ.os)
    · exact hs.fr.tape.trans (hw1t.trans hJ.tape)
    · exact hs.fr.output.trans (hw1p.trans hJ.output)
    · intro b hb hne
      rw [hblk b (by have := hJ.hsz; omega), hw1b b hne]
      exact hJ.block b hb hne
    · intro t v hv
      have htn : t ∉ asg := fun h => by rw [hno _ h] at hv; cases hv
      obtain ⟨cv0, g1, g2⟩ := hJ.tm t v hv
      obtain ⟨cv, g3, g4⟩ := ht' t v (by rw [hkp t htn]; exact hv)
      have : cv = cv0 := by
        rw [← g4 _ (some0_ext m'), ← (g2.mono hs.mono) _ (some0_ext m')]
      subst this
      exact ⟨cv, g3, g2⟩
  have flatAt : ∀ {m' : Nat → Option Loc} {tl : T Value} {a' : Act}, TmRep m' tl a'.tmps → ∀ t v, tl.get t = some v → flat v = true → a'.tmps[t]? = some v := by
    intro m' tl a' ht' t v hv hfl
    obtain ⟨cv, g1, g2⟩ := ht' t v hv
    have := g2 _ (some0_ext m')
    rw [conc_flat _ _ hfl] at this
    rw [g1, this]
  have out : ∀ {ct' : Nat} {c : Int} {ok : Bool} {tl : T Value} {ex : Ex} {a' : Act} {w' : World}, endRound L.bid ct' c tl ok ex = some r → (r.lv = none → r.c = c ∧ ok = true) → K (outOf r) a' w' → Exit.inBlock L.bid K (exitOf ex) a' w' := by
    intro ct' c ok tl ex a' w' he _ hk
    obtain ⟨_, _, h⟩ := endRound_some he
    rcases h with ⟨h1, _, h2⟩ | ⟨h1, h2, h3⟩
    · simp only [outOf, h1] at hk
      rcases h2 with rfl | rfl
      · exact hk
      · simp only [exitOf, Exit.inBlock, if_true]; exact hk
    · simp only [outOf, h1] at hk
      cases ex with
      | normal => exact absurd rfl h2
      | exit b =>
        simp only [exitOf, Exit.inBlock] at hk ⊢
        rw [if_neg (fun e => h3 (by rw [e]))]; exact hk
      | ret => exact hk
      | goto l => exact hk
  unfold roundG at hround
  split at hround
  · -- no sum
    split at hround <;> (try (simp at hround; done))
    rename_i t3 h3
    obtain ⟨t4, s4, ex, t5, s5, h4, h5, h6⟩ := plainRound_some hround
    have hct4 := opsA_ct hovm hihm h4
    have hct5 := hihm _ _ _ _ _ _ _ h5
    have hre := (endRound_some h6).1
    simp only at hct4
    refine entry_wp hov hovm hih hihm hr2 hE hd3 hg3 hsize hfr hJ.tm h3 h4 (fun i g1 g2 => hf i g1 (by omega)) hek hev hcp hit1 hit2 hent ?_
    intro a' w' m4 hs4 ht4 hd4 hz4
    have hmk4 : Marks B w' a'.defers := by
      rw [hd4]
      exact hmk1.step hfr hs4
    refine wpIn_mono (hih _ _ _ _ _ _ _ h5 ro hro m4 w' a' B hs4.rep ht4 hmk4 (by have := hs4.fr.size; have := hJ.hsz; omega) (by omega) (hf.after' hs4 hct4 (by omega))) ?_
    rintro x a'' w'' ⟨rfl, m5, hs5, ht5, hd5, hz5⟩
    have hkp : Keeps asg tm0 t5 := (headRound_keeps h3 hasg).trans (((opsA_keeps h4).mono hasg.ops).trans ((hkeep _ _ _ _ _ _ _ h5).mono hasg.rest))
    obtain ⟨g1, g2⟩ := done a'' w'' m5 _ _ _ t5 hkp (hs4.trans hs5 hct4 hct5) ht5 hd5 (by rw [hz5, hz4]; exact hJ.size)
    refine out h6 (fun h => ?_) (hK a'' w'' ⟨g1, g2, fun _ q hq => (by cases hq), fun ex2 t2 hlv => ?_⟩)
    · obtain ⟨_, k1, k2⟩ := endRound_some h6
      rcases k2 with ⟨_, k2, _⟩ | ⟨k2, _⟩
      · exact ⟨k1, k2⟩
      · rw [h] at k2; cases k2
    · obtain ⟨_, _, k2⟩ := endRound_some h6
      rcases k2 with ⟨k2, _⟩ | ⟨k2, _⟩
      · rw [k2] at hlv; cases hlv
      · rw [k2] at hlv; injection hlv with hlv; injection hlv with e1 e2; subst e2
        exact flatAt ht5
  · -- a sum
    rename_i F kd z0
    have hFo := hF _ rfl
    obtain ⟨b1, b2, b3, b4, b5⟩ := foldOf_asg hFo hasg
    obtain ⟨ops, t0, u0, hc, hops, hBop, hBd, hBg, hbits, hrm⟩ := foldOf_some hFo
    split at hround <;> (try (simp at hround; done))
    rename_i t3 h3
    obtain ⟨t4, s4, t5, s5, c, t6, t7, s7, ex, t8, s8, h4, h5, hx5, hy5, h6, h7, h8, h9⟩ := foldRound_some hround
    have hct4 := opsA_ct hovm hihm h4
    have hct5 := opsA_ct hovm hihm h5
    have hct7 := opsA_ct hovm hihm h7
    have hct8 := hihm _ _ _ _ _ _ _ h8
    have hre := (endRound_some h9).1
    simp only at hct4
    have hsg0 : m st.ct = none := hf _ (Nat.le_refl _) (by omega)
    have hS0 := Step.sign (cx := Cx.of P) hfr hsg0 ⟨0, 0, 0, .int kd z⟩ (Nat.le_refl _) (show st.ct < st.ct + 2 by omega)
    have hrr := hz _ rfl
    simp only at hrr
    have htX : TmRep (setM m st.ct ⟨0, 0, 0, .int kd z⟩) (tm0.set F.r (.chan (some st.ct))) a.tmps := by
      intro t v hv
      rw [T.get_set] at hv
      split at hv
      · rename_i e; subst e
        injection hv with hv; subst hv
        refine ⟨_, hrr, fun μ hμ => ?_⟩
        simp [conc, hμ _ _ (setM_same _ _), sgn]
      · exact (hJ.tm.mono (setM_mono hsg0)) t v hv
    refine entry_wp hov hovm hih hihm hr2 hE hd3 hg3 hsize (sX := ⟨(st.hp.del ia).mapO frz, st.ct + 2⟩) hS0.rep htX h3 h4 (fun i g1 g2 => ?_) (hek.mono (setM_mono hsg0)) (hev.mono (setM_mono hsg0)) hcp hit1 hit2 hent ?_
    · simp only at g1
      have hne : i ≠ st.ct := by omega
      simp only [Ai.setM, if_neg hne]
      exact hf i (by omega) (by omega)
    intro a' w' m4 hs4 ht4 hd4 hz4
    have hS4 := hS0.trans hs4 (by omega) hct4
    rw [hc]
    rw [hc] at hro
    have hro2 : ro = none ∨ noRF F.rest2 = true := hro.imp id fun h => by
      simp only [noRF, Bool.and_eq_true] at h
      exact h.2
    refine wpIn_seq ?_
    refine wpIn_region ?_
    have hlen : ops.size = F.pre.length + (1 + F.post.length) := by rw [← Array.length_toList, hops]; simp; omega
    have hrange : List.range ops.size = (List.range F.pre.length).map (0 + ·) ++ (F.pre.length :: (List.range F.post.length).map (F.pre.length + 1 + ·)) := by
      rw [hlen, List.range_add, Nat.add_comm 1, List.range_succ_eq_map]
      simp [Function.comp_def, Nat.add_assoc, Nat.add_comm 1]
    rw [hrange]
    refine wpOps_append ?_
    have hoa : (F.pre ++ F.oB :: F.post).toArray = ops := by rw [← hops]
    have ho5 := opsA_sound hov hovm hih hihm 0 F.pre (all := F.pre ++ F.oB :: F.post) ⟨F.oB :: F.post, by simp⟩ h5 (ro := ro) hs4.rep ht4 (by omega) (hf.after' hS4 (by omega) (by omega))
    rw [hoa] at ho5
    refine wpOps_mono ?_ ho5
    rintro x a5 w5 ⟨rfl, m5, hs5, ht5, hd5, hz5⟩
    refine ⟨rfl, ?_⟩
    have hS5 := hS4.trans hs5 (by omega) hct5
    have hat : ops[F.pre.length]? = some F.oB := by rw [← Array.getElem?_toList, hops]; simp
    have hwt : Region.wanted F.oB (yielded ops a5.tmps) = true := by unfold Region.wanted; rw [hBg]
    simp only [wpOpsIn, hat, hwt, if_true]
    obtain ⟨cx1, hcx1, hvx⟩ := ht5 _ _ hx5
    obtain ⟨cy1, hcy1, hvy⟩ := ht5 _ _ hy5
    have ex1 : cx1 = .int kd z := by
      have := hvx _ (some0_ext m5)
      have hm5 : m5 st.ct = some ⟨0, 0, 0, .int kd z⟩ := hs5.mono _ _ (hs4.mono _ _ (setM_same _ _))
      simp only [conc, some0_ext m5 _ _ hm5, sgn] at this
      exact this.symm
    have ey1 : cy1 = .int kd c := by
      have := hvy _ (some0_ext m5)
      simp at this
      exact this.symm
    subst ex1; subst ey1
    have e1 := exec_bits (P := P) (ρ := a5.eval) hBop hbits (eval_tmp hcx1) (eval_tmp hcy1) w5
    refine ⟨fun _ _ => trivial, ?_⟩
    rw [Oper.semAt_eq _ _ _ (by intro c hc; rw [hBop] at hc; cases hc), e1]
    simp only [Oper.uponIn]
    rw [hBd]
    have hsg1 : m5 (st.ct + 1) = none := by
      cases hm : m5 (st.ct + 1) with
      | none => rfl
      | some l =>
        rcases hs5.dom _ _ hm with g1 | g1
        · rcases hs4.dom _ _ g1 with g2 | g2
          · simp only [Ai.setM] at g2
            rw [if_neg (by omega), hf _ (by omega) (by omega)] at g2; cases g2
          · simp only at g2; omega
        · omega
    have hS6 := hS5.trans_same (Step.sign (cx := Cx.of P) hs5.rep hsg1 ⟨0, 0, 0, .int kd (bitsI F.op kd z c)⟩ (Nat.le_succ _) (show st.ct + 1 < s5.ct by omega))
    have hv6 : VRep (setM m5 (st.ct + 1) ⟨0, 0, 0, .int kd (bitsI F.op kd z c)⟩) (.chan (some (st.ct + 1))) (.int kd (bitsI F.op kd z c)) := by
      intro μ hμ
      simp [conc, hμ _ _ (setM_same _ _), sgn]
    obtain ⟨p6, q6, z6⟩ := putDst_rep h6 (ht5.mono (setM_mono hsg1)) hv6 (by omega)
    have ho7 := opsA_sound hov hovm hih hihm (F.pre.length + 1) F.post (all := F.pre ++ F.oB :: F.post) ⟨[], by simp⟩ h7 (ro := ro) hS6.rep p6 (by omega) (hf.after' hS6 (by omega) (by omega))
    rw [hoa] at ho7
    refine wpOps_mono ?_ ho7
    rintro x a7 w7 ⟨rfl, m7, hs7, ht7, hd7, hz7⟩
    have hS7 := hS6.trans hs7 (by omega) hct7
    have hmk7 : Marks B w7 a7.defers := by
      rw [hd7, q6, hd5, hd4]
      exact hmk1.step hfr hS7
    refine wpIn_mono (hih _ _ _ _ _ _ _ h8 ro hro2 m7 w7 a7 B hS7.rep ht7 hmk7 (by have := hS7.fr.size; have := hJ.hsz; omega) (by omega) (hf.after' hS7 (by omega) (by omega))) ?_
    rintro x a8 w8 ⟨rfl, m8, hs8, ht8, hd8, hz8⟩
    have hS8 := hS7.trans hs8 (by omega) hct8
    have hkp : Keeps asg tm0 t8 := by
      have k0 : Keeps asg tm0 (tm0.set F.r (.chan (some st.ct))) := fun t ht => by rw [T.get_set, if_neg (by rintro rfl; exact ht b1)]
      have k6 : Keeps asg t5 t6 := (putDst_keeps h6).mono fun t ht => by simp at ht; subst ht; exact b2
      exact k0.trans ((headRound_keeps h3 hasg).trans (((opsA_keeps h4).mono hasg.ops).trans (((opsA_keeps h5).mono b3).trans (k6.trans (((opsA_keeps h7).mono b4).trans ((hkeep _ _ _ _ _ _ _ h8).mono b5))))))
    obtain ⟨g1, g2⟩ := done a8 w8 m8 _ _ _ t8 hkp hS8 ht8 hd8 (by rw [hz8, hz7, z6, hz5, hz4]; exact hJ.size)
    have hend : r.lv = none → r.c = c ∧ isSign (t8.get F.r) (st.ct + 1) = true := fun h => by
      obtain ⟨_, k1, k2⟩ := endRound_some h9
      rcases k2 with ⟨_, k2, _⟩ | ⟨k2, _⟩
      · exact ⟨k1, k2⟩
      · rw [h] at k2; cases k2
    refine out h9 hend (hK a8 w8 ⟨g1, g2, fun hlv q hq => ?_, fun ex2 t2 hlv => ?_⟩)
    · injection hq with hq; subst hq
      obtain ⟨k1, k2⟩ := hend hlv
      obtain ⟨cv, k3, k4⟩ := ht8 _ _ (isSign_eq k2)
      have hm8 : m8 (st.ct + 1) = some ⟨0, 0, 0, .int kd (bitsI F.op kd z c)⟩ := hs8.mono _ _ (hs7.mono _ _ (setM_same _ _))
      have := k4 _ (some0_ext m8)
      simp only [conc, some0_ext m8 _ _ hm8, sgn] at this
      rw [k3, ← this, k1]; rfl
    · obtain ⟨_, _, k2⟩ := endRound_some h9
      rcases k2 with ⟨k2, _⟩ | ⟨k2, _⟩
      · rw [k2] at hlv; cases hlv
      · rw [k2] at hlv; injection hlv with hlv; injection hlv with e1 e2; subst e2
        exact flatAt ht8

mutual
theorem keyNe_irrefl : ∀ (a : Value), keyNe a a = false
  | .bool a => by simp [keyNe]
  | .int _ a => by simp [keyNe]
  | .string a => by simp [keyNe, eqStr_eq]
  | .agg a => by simp only [keyNe]; exact keyNeA_irrefl a
  | .float .. => by simp [keyNe]
  | .complex .. => by simp [keyNe]
  | .pointer _ => by simp [keyNe]
  | .slice .. => by simp [keyNe]
  | .map _ => by simp [keyNe]
  | .chan _ => by simp [keyNe]
  | .func .. => by simp [keyNe]
  | .nilFunc => by simp [keyNe]
  | .iface .. => by simp [keyNe]
  | .nilIface => by simp [keyNe]
  | .tuple _ => by simp [keyNe]
theorem keyNeA_irrefl : ∀ (a : Array Value), keyNeA a a = false
  | ⟨a⟩ => by simp only [keyNeA]; exact keyNeL_irrefl a
theorem keyNeL_irrefl : ∀ (a : List Value), keyNeL a a = false
  | [] => by simp [keyNeL]
  | x :: a => by simp [keyNeL, keyNe_irrefl x, keyNeL_irrefl a]
end

theorem apartFrom_spec {k : Value} : ∀ (es : List MapEntry), apartFrom k es = true → ∀ e ∈ es, k ≠ e.key := by
  intro es
  induction es with
  | nil => intro _ e he; simp at he
  | cons x es ih =>
    intro h e he
    simp only [apartFrom, Bool.and_eq_true] at h
    rcases List.mem_cons.1 he with rfl | he
    · intro hk; rw [hk, keyNe_irrefl] at h; simp at h
    · exact ih h.2 e he

theorem distinct_spec : ∀ (es : List MapEntry), distinctKeys es = true → ∀ e1 ∈ es, ∀ e2 ∈ es, e1.key = e2.key → e1 = e2 := by
  intro es
  induction es with
  | nil => intro _ e he; simp at he
  | cons x es ih =>
    intro h e1 h1 e2 h2 hk
    simp only [distinctKeys, Bool.and_eq_true] at h
    rcases List.mem_cons.1 h1 with h3 | h3 <;> rcases List.mem_cons.1 h2 with h4 | h4
    · rw [h3, h4]
    · subst h3; exact absurd hk (apartFrom_spec _ h.1 _ h4)
    · subst h4; exact absurd hk.symm (apartFrom_spec _ h.1 _ h3)
    · exact ih h.2 _ h3 _ h4 hk

theorem filter_lt {α : Type} {p q : α → Bool} (hpq : ∀ x, q x = true → p x = true) : ∀ (l : List α) (x : α), x ∈ l → p x = true → q x = false → (l.filter q).length < (l.filter p).length := by
  have le : ∀ (l : List α), (l.filter q).length ≤ (l.filter p).length := by
    intro l
    induction l with
    | nil => simp
    | cons y l ih =>
      rw [List.filter_cons, List.filter_cons]
      cases hq : q y with
      | true => rw [hpq y hq]; simpa using ih
      | false => cases hp : p y <;> simp <;> omega
  intro l
  induction l with
  | nil => intro x h; simp at h
  | cons y l ih =>
    intro x hx hp hq
    rw [List.filter_cons, List.filter_cons]
    rcases List.mem_cons.1 hx with rfl | hx
    · rw [hp, hq]; have := le l; simp; omega
    · have := ih x hx hp hq
      cases hqy : q y with
      | true => rw [hpq y hqy]; simpa using this
      | false => cases hpy : p y <;> simp <;> omega

theorem filter_same {seen : Array Nat} {b : Nat} : ∀ (l : List MapEntry), (∀ x ∈ l, x.born ≠ b) → (l.filter fun x => !(seen.push b).contains x.born) = l.filter fun x => !seen.contains x.born := by
  intro l h
  apply List.filter_congr
  intro x hx
  have hne := h x hx
  simp only [Array.contains_push]
  have : (x.born == b) = false := by simpa using hne
  simp [this]

theorem filter_perm {seen : Array Nat} : ∀ (l : List MapEntry) (e : MapEntry), e ∈ l → (l.map (·.born)).Nodup → seen.contains e.born = false →
    (l.filter fun x => !seen.contains x.born).Perm (e :: l.filter fun x => !(seen.push e.born).contains x.born) := by
  intro l
  induction l with
  | nil => intro e h; cases h
  | cons x l ih =>
    intro e he hn hs
    simp only [List.map_cons, List.nodup_cons] at hn
    by_cases hxe : x = e
    · subst hxe
      have h1 : ∀ y ∈ l, y.born ≠ x.born := fun y hy e => hn.1 (List.mem_map.2 ⟨y, hy, e⟩)
      rw [List.filter_cons, List.filter_cons, filter_same l h1]
      have hs' : ¬ (seen.contains x.born = true) := by rw [hs]; simp
      simp
      simp at hs'
      simp [hs']
    · have he' : e ∈ l := by
        rcases List.mem_cons.1 he with h | h
        · exact absurd h.symm hxe
        · exact h
      have hb : x.born ≠ e.born := fun h => hn.1 (List.mem_map.2 ⟨e, he', h.symm⟩)
      have hrec := ih e he' hn.2 hs
      rw [List.filter_cons, List.filter_cons]
      have hx : (!(seen.push e.born).contains x.born) = !seen.contains x.born := by
        have : (x.born == e.born) = false := by simpa using hb
        simp only [Array.contains_push, this]
        simp
      rw [hx]
      split
      · exact (hrec.cons x).trans (List.Perm.swap e x _)
      · exact hrec

/-- A RANGE OVER A MAP, of which each round by itself leaves all as it is, or adds bits up, or leaves in one way. -/
theorem loopM_sound (hov : OvOk P ov) (hovm : OvMono ov) (hih : RunOk P ih) (hihm : RunMono ih) (hkeep : RunKeeps ih) {c : Code} {L : MapLoop} (hL : mapLoop c = some L) {nt : Nat} {tm tm' : T Value} {st st' : St} {ex : Ex}
    (h : loopM (Cx.of P) ov ih c L nt tm st = some (ex, tm', st')) :
    ∃ k, ∀ ro, (ro = none ∨ noRF c = true) → ∀ m w a B, Rep (Cx.of P) m st.G w → TmRep m tm a.tmps → Marks B w a.defers → B ≤ w.heap.size → nt ≤ a.tmps.size → Fresh m st.ct st'.ct → Code.roundsIn (FR ro) 0 P c (Post (Cx.of P) m st w a.tmps.size B ex tm' st') k a w := by
  obtain ⟨i1, i2, r1, r2, hc, hr1, hr2, hN, hd1, hg1, hX, hd2, hg2, hE, hd3, hg3⟩ := mapLoop_spec hL
  have hasg := mapLoop_asg hL
  obtain ⟨F, hF, h⟩ := loopM_some h
  have hF := foldI_of hF
  have hFo : ∀ q, F = some q → foldOf L.rest = some q.1 := fun q hq => (hF q hq).1
  obtain ⟨ad, mm, lk, es, ⟨ct, zf, lv⟩, hptr, hsp, hoff, hit, hes, hsum, hbeh0⟩ := loopG_some h
  obtain ⟨hst, hbeh⟩ := behindLoop_some hbeh0
  clear hbeh0 h
  simp only at hst
  subst hst
  obtain ⟨hctle, hall, hzf, hnone, hsome⟩ := sumRounds_spec _ _ _ _ _ _ _ hsum
  refine ⟨es.length + 1, fun ro hro m w0 a0 B hR ht hd hB hn hf => ?_⟩
  have hro' : ro = none ∨ noRF L.rest = true := hro.imp id fun h => by
    rw [hc] at h
    simp only [noRF, Bool.and_eq_true] at h
    exact h.2.2.2
  have hz0 : FoldAt F a0 (startZ F) := by
    intro q hq
    obtain ⟨_, h2, _⟩ := hF q hq
    obtain ⟨cv, g1, g2⟩ := ht _ _ h2
    have := g2 _ (some0_ext m)
    simp at this
    subst hq
    rw [g1, ← this]; rfl
  have hrne : ∀ q, F = some q → q.1.r ≠ L.d1 ∧ q.1.r ≠ L.d2 := fun q hq => (hF q hq).2.2
  have hrlt : ∀ q, F = some q → True := fun _ _ => trivial
  generalize htm0 : forget (dstsOf c) tm = tm0 at *
  have htm : TmRep m tm0 a0.tmps := by
    intro t v hv
    rw [← htm0, forget_get] at hv
    split at hv
    · cases hv
    · exact ht t v hv
  have hno : ∀ t ∈ dstsOf c, tm0.get t = none := by
    intro t htt
    rw [← htm0, forget_get, if_pos htt]
  obtain ⟨lit, hl, hlitlt⟩ := hR.dom _ _ hit
  have hμ0 := some0_ext m
  have hloc : ∀ μ, Ext m μ → μ ad.block = lit := fun μ hμ => hμ _ _ hl
  have hob := hR.obj _ hμ0 _ _ hit
  have hbase : lit.base = 0 := by have := hob.1; rw [hloc _ hμ0] at this; exact this
  have hpv : ∀ {a : Act}, TmRep m tm0 a.tmps → a.tmps[L.it]? = some (.pointer (some ⟨lit.blk, 0, none⟩)) := by
    intro a hta
    obtain ⟨cv, g1, g2⟩ := hta _ _ hptr
    have := g2 _ hμ0
    simp only [conc_ptr, concAddr, hloc _ hμ0, hbase, hoff] at this
    rw [g1, ← this]
  -- the two ends
  have post : ∀ (a2 : Act) (w2 : World) (x : Exit), x = exitOf ex → w0.heap.size ≤ w2.heap.size → w2.os = w0.os → w2.tape = w0.tape → w2.output = w0.output → (∀ b, b < w0.heap.size → b ≠ lit.blk → w2.heap[b]? = w0.heap[b]?) →
      TmRep m tm' a2.tmps → Marks B w2 a2.defers → a2.tmps.size = a0.tmps.size → Post (Cx.of P) m st w0 a0.tmps.size B ex tm' ⟨st.hp.del ad.block, ct⟩ x a2 w2 := by
    intro a2 w2 x hx hsz2 ho2 ht2 hp2 hblk htr hmk hz2
    refine ⟨hx, m, ⟨fun _ _ h => h, fun _ _ h => .inl h, (head_rep hR hit hl hsz2 hblk ct).1, ⟨hsz2, ho2, ht2, hp2, fun b hb hno2 => hblk b hb fun e => hno2 _ _ _ hit rfl hl e.symm⟩, ?_⟩, htr, hmk, hz2⟩
    intro id o l hg hml
    simp only [St.G, T.get_del] at hg
    split at hg
    · cases hg
    · exact .inr ⟨id, o, l, hg, fun h => h, hml, rfl⟩
  have over : ∀ (n : Nat) (a : Act) (w w1 : World), MJ m w0 a0.tmps.size lit.blk B tm0 a w → (Instr.next (.pointer (some ⟨lit.blk, 0, none⟩)) false L.oN.type).run P w = .ok (.tuple #[.bool false]) w1 → Alike w w1 →
      (fullOf st mm lk = true → FoldAt F a zf ∧ lv = none) →
      Code.roundsIn (FR ro) 0 P c (Post (Cx.of P) m st w0 a0.tmps.size B ex tm' ⟨st.hp.del ad.block, ct⟩) (n + 1) a w := by
    intro n a w w1 hJ hrun hal hend
    rcases hbeh with ⟨hlv, rfl, t1, t2, hp1, hp2, h3⟩ | ⟨hlv, hfull⟩
    · have hd1lt : L.d1 < nt := ((putDst_get hp1 L.d1).2 rfl).2
      have hd2lt : L.d2 < nt := ((putDst_get hp2 L.d2).2 rfl).2
      rw [roundsIn_succ, hc]
      refine wpIn_seq ?_
      refine head_wp hr1 hN hd1 hg1 hX hd2 hg2 (hpv hJ.tm) (by rw [hJ.size]; omega) rfl (v0 := .bool false) rfl hrun ?_
      refine wpIn_seq ?_
      refine wpIn_cond_false ?_ ?_
      · have : ((a.put (some L.d1) (.tuple #[.bool false])).put (some L.d2) (.bool false)).tmps[L.d2]? = some (.bool false) := by
          show ((a.tmps.setIfInBounds L.d1 _).setIfInBounds L.d2 _)[L.d2]? = _
          rw [Array.getElem?_setIfInBounds_self_of_lt (by simp; rw [hJ.size]; omega)]
        exact eval_tmp this
      · refine wpIn_exit ?_
        have hsize : nt ≤ a.tmps.size := by rw [hJ.size]; exact hn
        obtain ⟨p1, q1, z1⟩ := putDst_rep hp1 hJ.tm (cv := .tuple #[.bool false]) (fun μ _ => by simp [concA_eq]) hsize
        obtain ⟨p2, q2, z2⟩ := putDst_rep hp2 p1 (cv := .bool false) (fun μ _ => by simp) (by omega)
        refine post _ _ _ rfl (by rw [hal.1]; exact hJ.hsz) (hal.2.1.trans hJ.os) (hal.2.2.1.trans hJ.tape) (hal.2.2.2.trans hJ.output) (fun b hb hne => by rw [hal.1]; exact hJ.block b hb hne) ?_
          (by rw [q2, q1]; exact marks_alike hal hJ.defers) (by rw [z2, z1]; exact hJ.size)
        rcases h3 with ⟨_, rfl⟩ | ⟨F', k, z0, rfl, hfull, hp3⟩
        · exact p2
        · intro t v hv
          by_cases hr : t = F'.r
          · subst hr
            have hv' := ((putDst_get hp3 F'.r).2 rfl).1
            rw [hv] at hv'; injection hv' with hv'; subst hv'
            have hfa := (hend hfull).1 _ rfl
            refine ⟨.int k zf, ?_, fun μ _ => by simp⟩
            have n1 := (hrne _ rfl).1
            have n2 := (hrne _ rfl).2
            show ((a.tmps.setIfInBounds L.d1 _).setIfInBounds L.d2 _)[F'.r]? = _
            rw [Array.getElem?_setIfInBounds_ne (Ne.symm n2), Array.getElem?_setIfInBounds_ne (Ne.symm n1)]
            exact hfa
          · rw [(putDst_get hp3 t).1 (by rintro ⟨⟩; exact hr rfl)] at hv
            exact p2 t v hv
    · exact absurd hlv (by rw [(hend hfull).2]; simp)
  have hJ0 : MJ m w0 a0.tmps.size lit.blk B tm0 a0 w0 := ⟨Nat.le_refl _, rfl, rfl, rfl, fun _ _ _ => rfl, htm, hd, rfl⟩
  cases mm with
  | none =>
    have hb := hob.2
    simp only [hloc _ hμ0] at hb
    have hesn : es = [] := by simp [entriesOf] at hes; exact hes
    subst hesn
    refine over 0 a0 w0 w0 hJ0 (next_nil hb) ⟨rfl, rfl, rfl, rfl⟩ fun _ => ?_
    simp only [sumRounds, Option.some.injEq, Prod.mk.injEq] at hsum
    obtain ⟨_, h2, h3⟩ := hsum
    exact ⟨by rw [← h2]; exact hz0, h3.symm⟩
  | some r =>
    obtain ⟨c0, hb, hlkc⟩ := hob.2
    rw [hloc _ hμ0] at hb
    simp only [entriesOf] at hes
    split at hes <;> (try (simp at hes; done))
    rename_i es2 lk2 wr2 hgr
    split at hes <;> (try (simp at hes; done))
    rename_i hdist
    simp at hes; subst hes
    obtain ⟨lr, hlr, hlrlt⟩ := hR.dom _ _ hgr
    have hlocr : ∀ μ, Ext m μ → μ r = lr := fun μ hμ => hμ _ _ hlr
    obtain ⟨es0, clock, hmcl, hmb, hperm, hnd, hborn, hlk2⟩ := map_obj (P := P) hR hgr hμ0
    rw [hlocr _ hμ0] at hb hmb
    have hkeys := (hR.obj _ hμ0 _ _ hgr).2
    have hne : lr.blk ≠ lit.blk := by
      intro e
      rw [e, hb] at hmb; cases hmb
    have hfullc : fullOf st (some r) lk = true → c0 = clock := by
      intro hfu
      simp only [fullOf, hgr, Bool.and_eq_true] at hfu
      rw [hlkc hfu.1, hlk2 hfu.2]
    generalize hone : roundG (Cx.of P) ov ih nt L F tm0 ⟨(st.hp.del ad.block).mapO frz, st.ct⟩ = one at *
    generalize hces : es0.map (concE (some0 m)) = ces at *
    have hlen : ces.length = es2.length := by
      have := hperm.length_eq
      simp only [List.length_map] at this
      rw [← hces, List.length_map, this]
    have hnd' : (ces.map (·.born)).Nodup := by rw [← hces, concE_born]; exact hnd
    have hborn' : ∀ e ∈ ces, e.born < clock := by
      intro e he
      rw [← hces] at he
      obtain ⟨e0, h0, rfl⟩ := List.mem_map.1 he
      exact hborn e0 h0
    -- an entry as it lies, and as it is told
    have told : ∀ e ∈ ces, ∃ e1 ∈ es0, ∃ ea ∈ es2, e1.born = e.born ∧ kvOf ea = kvOf e1 ∧ VRep m ea.key e.key ∧ VRep m ea.val e.val := by
      intro e he
      obtain ⟨j, hj⟩ := List.getElem?_of_mem he
      have at_ : ∀ μ, Ext m μ → ∃ ea ∈ es2, ea.key = e.key ∧ conc μ ea.val = e.val := by
        intro μ hμ
        obtain ⟨es1, clock1, _, hmb1, hperm1, _⟩ := map_obj (P := P) hR hgr hμ
        rw [hlocr _ hμ, hmb] at hmb1
        injection hmb1 with hmb1
        injection hmb1 with hmb1 _
        have hce : ces = es1.map (concE μ) := by simpa using hmb1
        rw [hce, List.getElem?_map, Option.map_eq_some_iff] at hj
        obtain ⟨e1, h1, rfl⟩ := hj
        have : kvOf e1 ∈ es2.map kvOf := hperm1.mem_iff.1 (List.mem_map.2 ⟨e1, List.mem_of_getElem? h1, rfl⟩)
        obtain ⟨ea, hea, hkv⟩ := List.mem_map.1 this
        simp only [kvOf, Prod.mk.injEq] at hkv
        exact ⟨ea, hea, hkv.1, by simp [concE, hkv.2]⟩
      rw [← hces] at he
      obtain ⟨e1, h1, h1e⟩ := List.mem_map.1 he
      have : kvOf e1 ∈ es2.map kvOf := hperm.mem_iff.1 (List.mem_map.2 ⟨e1, h1, rfl⟩)
      obtain ⟨ea, hea, hkv⟩ := List.mem_map.1 this
      have hk : ea.key = e.key := by
        simp only [kvOf, Prod.mk.injEq] at hkv
        rw [hkv.1, ← h1e]; rfl
      refine ⟨e1, h1, ea, hea, by rw [← h1e]; rfl, hkv, fun μ _ => ?_, fun μ hμ => ?_⟩
      · rw [conc_flat μ _ (hkeys ea hea)]; exact hk
      · obtain ⟨ea2, hea2, hk2, hv2⟩ := at_ μ hμ
        have := distinct_spec _ hdist ea hea ea2 hea2 (by rw [hk, hk2])
        subst this
        exact hv2
    have sameKv : ∀ {x y : MapEntry}, kvOf x = kvOf y → one x.key x.val = one y.key y.val := by
      intro x y h
      simp only [kvOf, Prod.mk.injEq] at h
      rw [h.1, h.2]
    have comm : ∀ (l1 l2 : List Int), l1.Perm l2 → ∀ z, l1.foldl (foldZ F) z = l2.foldl (foldZ F) z := fun l1 l2 hp z =>
      hp.foldl_eq' (fun x _ y _ z => foldZ_comm F z x y) z
    have hcOf : es0.map (cOf one) = (es0.map kvOf).map fun kv => match one kv.1 kv.2 with | some r => r.c | none => 0 := by
      rw [List.map_map]; rfl
    have hcOf2 : es2.map (cOf one) = (es2.map kvOf).map fun kv => match one kv.1 kv.2 with | some r => r.c | none => 0 := by
      rw [List.map_map]; rfl
    have hzf0 : (es0.map (cOf one)).foldl (foldZ F) (startZ F) = zf := by
      rw [hzf, hcOf, hcOf2]
      exact comm _ _ (hperm.map _) _
    have main : ∀ (n : Nat) (seen : Array Nat) (last : Nat) (a : Act) (w : World) (z : Int), MJ m w0 a0.tmps.size lit.blk B tm0 a w → w.heap[lit.blk]? = some (.mapIter (some lr.blk) c0 seen last) → (seen.isEmpty = true ∨ last = clock) →
        (ces.filter fun e => !seen.contains e.born).length ≤ n → FoldAt F a z → ((es0.filter fun x => !seen.contains x.born).map (cOf one)).foldl (foldZ F) z = zf →
        (∀ e ∈ es0, seen.contains e.born = true → ∀ r, one e.key e.val = some r → r.lv = none) →
        Code.roundsIn (FR ro) 0 P c (Post (Cx.of P) m st w0 a0.tmps.size B ex tm' ⟨st.hp.del ad.block, ct⟩) (n + 1) a w := by
      intro n
      have ended : ∀ (seen : Array Nat) (a : Act) (z : Int), FoldAt F a z → ((es0.filter fun x => !seen.contains x.born).map (cOf one)).foldl (foldZ F) z = zf → (∀ e ∈ es0, seen.contains e.born = true → ∀ r, one e.key e.val = some r → r.lv = none) →
          (∀ e ∈ ces, e.born < c0 → seen.contains e.born = true) → fullOf st (some r) lk = true → FoldAt F a zf ∧ lv = none := by
        intro seen a z hfa hsm hgo hall2 hfu
        have hcc := hfullc hfu
        have hseen : ∀ e ∈ es0, seen.contains e.born = true := by
          intro e he
          have := hall2 (concE (some0 m) e) (by rw [← hces]; exact List.mem_map.2 ⟨e, he, rfl⟩) (by rw [hcc]; exact hborn e he)
          exact this
        have hnil : (es0.filter fun x => !seen.contains x.born) = [] := by
          rw [List.filter_eq_nil_iff]
          intro x hx
          rw [hseen x hx]; simp
        rw [hnil] at hsm
        simp only [List.map_nil, List.foldl_nil] at hsm
        refine ⟨by rw [← hsm]; exact hfa, ?_⟩
        cases hlv : lv with
        | none => rfl
        | some q =>
          exfalso
          obtain ⟨ex2, tl⟩ := q
          obtain ⟨_, _, hs⟩ := hsome ex2 tl hlv
          obtain ⟨e, he, r2, hr2, t0, ht0, _⟩ := hs rfl
          have : kvOf e ∈ es0.map kvOf := hperm.mem_iff.2 (List.mem_map.2 ⟨e, he, rfl⟩)
          obtain ⟨e1, he1, hkv⟩ := List.mem_map.1 this
          rw [← sameKv hkv] at hr2
          rw [hgo e1 he1 (hseen e1 he1) r2 hr2] at ht0
          cases ht0
      induction n with
      | zero =>
        intro seen last a w z hJ hbw hlast hcount hfa hsm hgo
        have hmw : w.heap[lr.blk]? = some (.map ⟨ces⟩ clock) := by rw [hJ.block _ hlrlt hne]; exact hmb
        rcases next_map (P := P) (sp := none) (t := L.oN.type) hbw hmw hlast (by simpa using hborn') with ⟨w1, hrun, hal, hall2⟩ | ⟨e, w1, he, hse, _, _⟩
        · exact over 0 a w w1 hJ hrun hal (ended seen a z hfa hsm hgo (by simpa using hall2))
        · exfalso
          have : e ∈ ces.filter fun e => !seen.contains e.born := List.mem_filter.2 ⟨by simpa using he, by show (!seen.contains e.born) = true; rw [hse]; rfl⟩
          have h0 : ces.filter (fun e => !seen.contains e.born) = [] := List.eq_nil_of_length_eq_zero (by omega)
          rw [h0] at this; simp at this
      | succ n ihn =>
        intro seen last a w z hJ hbw hlast hcount hfa hsm hgo
        have hmw : w.heap[lr.blk]? = some (.map ⟨ces⟩ clock) := by rw [hJ.block _ hlrlt hne]; exact hmb
        rcases next_map (P := P) (sp := none) (t := L.oN.type) hbw hmw hlast (by simpa using hborn') with ⟨w1, hrun, hal, hall2⟩ | ⟨e, w1, he, hse, hrun, htu⟩
        · exact over _ a w w1 hJ hrun hal (ended seen a z hfa hsm hgo (by simpa using hall2))
        · have hec : e ∈ ces := by simpa using he
          obtain ⟨e1, he1, ea, hea, hb1e, hkv, hvk, hvv⟩ := told e hec
          obtain ⟨rr, hround, hcc⟩ := hall ea hea
          have hd1lt : L.d1 < nt := by
            have hr := hround
            rw [← hone] at hr
            unfold roundG at hr
            split at hr
            · split at hr <;> (try (simp at hr; done))
              rename_i h3
              obtain ⟨t1, t2, p1, _⟩ := headRound_some h3
              exact ((putDst_get p1 L.d1).2 rfl).2
            · split at hr <;> (try (simp at hr; done))
              rename_i h3
              obtain ⟨t1, t2, p1, _⟩ := headRound_some h3
              exact ((putDst_get p1 L.d1).2 rfl).2
          have hd2lt : L.d2 < nt := by
            have hr := hround
            rw [← hone] at hr
            unfold roundG at hr
            split at hr
            · split at hr <;> (try (simp at hr; done))
              rename_i h3
              obtain ⟨t1, t2, _, p1, _⟩ := headRound_some h3
              exact ((putDst_get p1 L.d2).2 rfl).2
            · split at hr <;> (try (simp at hr; done))
              rename_i h3
              obtain ⟨t1, t2, _, p1, _⟩ := headRound_some h3
              exact ((putDst_get p1 L.d2).2 rfl).2
          rw [roundsIn_succ, hc]
          refine wpIn_seq ?_
          refine head_wp hr1 hN hd1 hg1 hX hd2 hg2 (hpv hJ.tm) (by rw [hJ.size]; omega) rfl (v0 := .bool true) rfl hrun ?_
          refine wpIn_seq ?_
          refine wpIn_cond_true ?_ (wpIn_skip ?_)
          · have : ((a.put (some L.d1) (.tuple #[.bool true, e.key, e.val])).put (some L.d2) (.bool true)).tmps[L.d2]? = some (.bool true) := by
              show ((a.tmps.setIfInBounds L.d1 _).setIfInBounds L.d2 _)[L.d2]? = _
              rw [Array.getElem?_setIfInBounds_self_of_lt (by simp; rw [hJ.size]; omega)]
            exact eval_tmp this
          have hlitw : lit.blk < w.heap.size := by have := hJ.hsz; omega
          have hb1 : w1.heap[lit.blk]? = some (.mapIter (some lr.blk) c0 (seen.push e.born) clock) := by
            rw [htu.1]; simp [hlitw]
          have hm1 : w1.heap[lr.blk]? = some (.map ⟨ces⟩ clock) := by
            rw [htu.1, Array.getElem?_setIfInBounds_ne (Ne.symm hne)]; exact hmw
          have hmk1 : Marks B w1 a.defers := by
            obtain ⟨rs, g1, g2, g3⟩ := hJ.defers
            refine ⟨rs, g1, g2, fun r hr => ⟨(g3 r hr).1, ?_⟩⟩
            have hne2 : lit.blk ≠ r := by rintro rfl; have := (g3 _ hr).2; rw [hbw] at this; cases this
            rw [htu.1, Array.getElem?_setIfInBounds_ne hne2]
            exact (g3 r hr).2
          have hround' := hround
          rw [← hone] at hround'
          refine body_wp hov hovm hih hihm hkeep hr2 hE hd3 hg3 hasg hno hFo hR hit hl hf hround' hcc hn hB hro' hJ hmk1 hvk hvv (by rw [htu.1]; simp) htu.2.1 htu.2.2.1 htu.2.2.2
            (fun b hbne => by rw [htu.1, Array.getElem?_setIfInBounds_ne (Ne.symm hbne)]) hlitlt
            (fun _ => ⟨_, hpv hJ.tm, entry_map hb1 hm1 he hnd'⟩) hptr hfa ?_
          rintro a' w' ⟨hJ', hbw', hsumz, hleft⟩
          have hr1e : one e1.key e1.val = some rr := by rw [← sameKv hkv]; exact hround
          cases hlvr : rr.lv with
          | some q =>
            obtain ⟨ex2, t5⟩ := q
            simp only [outOf, hlvr]
            cases hlv : lv with
            | none =>
              obtain ⟨_, hno2⟩ := hnone hlv
              rw [hno2 ea hea rr hround] at hlvr; cases hlvr
            | some q =>
              obtain ⟨ex3, tl⟩ := q
              obtain ⟨hlo, _, hso⟩ := hsome ex3 tl hlv
              obtain ⟨e2, htl⟩ := hlo ea hea rr hround ex2 t5 hlvr
              subst e2
              obtain ⟨e', he', r', hr', t0, ht0, hsrc⟩ := hso rfl
              rw [← hone] at hr'
              have hk0 := roundG_keeps hkeep hasg hFo hr' ht0
              rcases hbeh with ⟨h0, _⟩ | ⟨h0, _⟩
              · rw [hlv] at h0; cases h0
              rw [hlv] at h0; injection h0 with h0; injection h0 with h1 h2; subst h1; subst h2
              have hpost := post a' w' (exitOf ex2) rfl hJ'.hsz hJ'.os hJ'.tape hJ'.output hJ'.block (fun t v hv => by
                by_cases htc : t ∈ dstsOf c
                · obtain ⟨hfl, h5⟩ := htl t htc v hv
                  exact ⟨v, hleft _ _ hlvr t v h5 hfl, fun μ _ => conc_flat μ v hfl⟩
                · rw [hsrc t htc, hk0 t htc] at hv
                  exact hJ'.tm t v hv) hJ'.defers hJ'.size
              obtain ⟨_, _, hex⟩ : True ∧ True ∧ ex2 ≠ .normal := by
                refine ⟨trivial, trivial, ?_⟩
                have hr := hround'
                unfold roundG at hr
                split at hr
                · split at hr <;> (try (simp at hr; done))
                  obtain ⟨_, _, _, _, _, _, _, h9⟩ := plainRound_some hr
                  obtain ⟨_, _, hh⟩ := endRound_some h9
                  rcases hh with ⟨hh, _⟩ | ⟨hh, hh2, _⟩
                  · rw [hlvr] at hh; cases hh
                  · rw [hlvr] at hh; injection hh with hh; injection hh with h1 _; rw [h1]; exact hh2
                · split at hr <;> (try (simp at hr; done))
                  obtain ⟨_, _, _, _, _, _, _, _, _, _, _, _, _, _, _, _, _, _, h9⟩ := foldRound_some hr
                  obtain ⟨_, _, hh⟩ := endRound_some h9
                  rcases hh with ⟨hh, _⟩ | ⟨hh, hh2, _⟩
                  · rw [hlvr] at hh; cases hh
                  · rw [hlvr] at hh; injection hh with hh; injection hh with h1 _; rw [h1]; exact hh2
              cases ex2 with
              | normal => exact absurd rfl hex
              | exit b => exact hpost
              | ret => exact hpost
              | goto l => exact hpost
          | none =>
            simp only [outOf, hlvr]
            rw [hb1] at hbw'
            have hse1 : seen.contains e1.born = false := by rw [hb1e]; exact hse
            have hrec := ihn (seen.push e.born) clock a' w' (foldZ F z rr.c) hJ' hbw' (.inr rfl) ?_ (hsumz hlvr) ?_ ?_
            · rw [hc] at hrec
              exact hrec
            · have := filter_lt (p := fun x : MapEntry => !seen.contains x.born) (q := fun x : MapEntry => !(seen.push e.born).contains x.born) (by
                intro x hx
                simp only [Array.contains_push, Bool.not_or, Bool.and_eq_true] at hx
                first | exact hx.1 | exact hx.2) ces e hec (by show (!seen.contains e.born) = true; rw [hse]; rfl) (by simp)
              omega
            · have hp := (filter_perm (seen := seen) es0 e1 he1 hnd hse1).map (cOf one)
              rw [hb1e] at hp
              rw [comm _ _ hp, List.map_cons, List.foldl_cons] at hsm
              have : cOf one e1 = rr.c := by simp [cOf, hr1e]
              rw [this] at hsm
              exact hsm
            · intro x hx hsx r2 hr2
              simp only [Array.contains_push, Bool.or_eq_true, beq_iff_eq] at hsx
              by_cases hxs : seen.contains x.born = true
              · exact hgo x hx hxs r2 hr2
              · have hxb : x.born = e1.born := by
                  rw [hb1e]
                  rcases hsx with h | h
                  · first | exact h | exact absurd h hxs
                  · first | exact h | exact absurd h hxs
                have hxe : x = e1 := by
                  have : ∀ (l : List MapEntry), (l.map (·.born)).Nodup → ∀ x ∈ l, ∀ y ∈ l, x.born = y.born → x = y := by
                    intro l
                    induction l with
                    | nil => intro _ x hx; cases hx
                    | cons a l ih =>
                      intro hn x hx y hy hxy
                      simp only [List.map_cons, List.nodup_cons] at hn
                      rcases List.mem_cons.1 hx with h1 | h1 <;> rcases List.mem_cons.1 hy with h2 | h2
                      · rw [h1, h2]
                      · subst h1; exact absurd (List.mem_map.2 ⟨y, h2, hxy.symm⟩) hn.1
                      · subst h2; exact absurd (List.mem_map.2 ⟨x, h1, hxy⟩) hn.1
                      · exact ih hn.2 x h1 y h2 hxy
                  exact this es0 hnd x hx e1 he1 hxb
                subst hxe
                rw [hr1e] at hr2; injection hr2 with hr2; subst hr2
                exact hlvr
    refine main es2.length #[] c0 a0 w0 (startZ F) hJ0 hb (.inl rfl) ?_ hz0 ?_ ?_
    · have := List.length_filter_le (fun e : MapEntry => !(#[] : Array Nat).contains e.born) ces
      omega
    · have : (es0.filter fun x => !(#[] : Array Nat).contains x.born) = es0 := by
        rw [List.filter_eq_self]
        intro x _
        simp
      rw [this]; exact hzf0
    · intro e _ hs
      simp at hs

end
end Go.Ai

/-! Soundness of the whole. -/
namespace Go.Ai
open Go

section
variable {P : Program} {ov : Ov}

theorem rounds_mono {F : Fence} {q : Nat} {c : Code} {Q Q' : Exit → Act → World → Prop} (hQ : ∀ e a w, Q e a w → Q' e a w) : ∀ (n : Nat) (a : Act) (w : World), Code.roundsIn F q P c Q n a w → Code.roundsIn F q P c Q' n a w := by
  intro n
  induction n with
  | zero => intro a w h; exact h
  | succ n ih =>
    intro a w h
    rw [roundsIn_succ] at h ⊢
    refine wpIn_mono h ?_
    intro e a' w' he
    cases e <;> first | exact ih _ _ he | exact hQ _ _ _ he

theorem Post.trans {m m1 : Nat → Option Loc} {st st1 st' : St} {w w1 : World} {size B : Nat} {ex : Ex} {tm' : T Value} {e : Exit} {a' : Act} {w' : World}
    (hs : Step (Cx.of P) m st.G w st.ct m1 st1.G w1 st1.ct) (h1 : st.ct ≤ st1.ct) (h2 : st1.ct ≤ st'.ct) (h : Post (Cx.of P) m1 st1 w1 size B ex tm' st' e a' w') : Post (Cx.of P) m st w size B ex tm' st' e a' w' := by
  obtain ⟨he, m', hs', ht, hd, hsz⟩ := h
  exact ⟨he, m', hs.trans hs' h1 h2, ht, hd, hsz⟩

def LoopOk (P : Program) (ih : CodeRun) : Prop := ∀ c nt tm st ex tm' st', ih (.loop c) nt tm st = some (ex, tm', st') →
  ∃ k, ∀ ro, (ro = none ∨ noRF c = true) → ∀ m w a B, Rep (Cx.of P) m st.G w → TmRep m tm a.tmps → Marks B w a.defers → B ≤ w.heap.size → nt ≤ a.tmps.size → Fresh m st.ct st'.ct →
    Code.roundsIn (FR ro) 0 P c (Post (Cx.of P) m st w a.tmps.size B ex tm' st') k a w

theorem loop_step {ih : CodeRun} (hov : OvOk P ov) (hovm : OvMono ov) (hih : RunOk P ih) (hihm : RunMono ih) (hkeep : RunKeeps ih) (hl : LoopOk P ih) : LoopOk P (stepA (Cx.of P) ov ih) := by
  intro c nt tm st ex tm' st' h
  simp only [stepA] at h
  split at h
  · rename_i g hg
    exact hov.lp _ _ _ _ _ _ _ _ hg h
  split at h
  · rename_i L hL
    exact loopM_sound hov hovm hih hihm hkeep hL h
  split at h <;> (try (simp at h; done))
  rename_i ex1 tm1 st1 hb
  have hct1 := hihm _ _ _ _ _ _ _ hb
  split at h
  · obtain ⟨k, hk⟩ := hl _ _ _ _ _ _ _ h
    have hct2 := hihm _ _ _ _ _ _ _ h
    refine ⟨k + 1, fun ro hro m w a B hR ht hd hB hn hf => ?_⟩
    rw [roundsIn_succ]
    refine wpIn_mono (hih _ _ _ _ _ _ _ hb ro hro m w a B hR ht hd hB hn (fun i h1 h2 => hf i h1 (by omega))) ?_
    rintro e a' w' ⟨rfl, m1, hs, ht1, hd1, hsz⟩
    refine rounds_mono ?_ _ _ _ (hk ro hro m1 w' a' B hs.rep ht1 hd1 (by have := hs.fr.size; omega) (by omega) (hf.after hs hct1))
    intro e a2 w2 hp
    rw [hsz] at hp
    exact hp.trans hs hct1 hct2
  · rename_i hne
    simp at h; obtain ⟨rfl, rfl, rfl⟩ := h
    refine ⟨1, fun ro hro m w a B hR ht hd hB hn hf => ?_⟩
    rw [roundsIn_succ]
    refine wpIn_mono (hih _ _ _ _ _ _ _ hb ro hro m w a B hR ht hd hB hn hf) ?_
    rintro e a' w' ⟨rfl, h2⟩
    cases ex1 with
    | normal => exact absurd rfl hne
    | exit id => exact ⟨rfl, h2⟩
    | ret => exact ⟨rfl, h2⟩
    | goto l => exact ⟨rfl, h2⟩

/-! ### scopes -/
section
variable {F : Fence} {n : Nat} {Q : Exit → Act → World → Prop} {a : Act} {w : World}
theorem stepR_scope {b : Frame} {k : List Item} {cs : List Frame} {c : Code} : step P (lone (b.atR a (.code (.scope c) :: k)) cs w) = .next (lone (b.atR a (.code c :: .inScope c :: k)) cs w) :=
  step_lone_go (by simp [stepG, stepG.exec, Frame.atR])
theorem stepR_inScope {b : Frame} {k : List Item} {cs : List Frame} {c : Code} : step P (lone (b.atR a (.inScope c :: k)) cs w) = .next (lone (b.atR a k) cs w) :=
  step_lone_go (by simp [stepG, stepG.exec, Frame.atR])

/-- so many jumps at most -/
def scopeIn (F : Fence) (n : Nat) (P : Program) (body : Code) (Q : Exit → Act → World → Prop) : Nat → Code → Act → World → Prop
  | 0, _, _, _ => False
  | k + 1, c, a, w => c.wpIn F n P (fun e a' w' => match e with
      | .goto l => (∃ rest, findLabel body l = some rest ∧ scopeIn F n P body Q k rest a' w') ∨ (findLabel body l = none ∧ Q (.goto l) a' w')
      | e => Q e a' w') a w

theorem wpIn_scope {body : Code} (k : Nat) (h : scopeIn F n P body Q k body a w) : (Code.scope body).wpIn F n P Q a w := by
  intro b kk cs hro hb hr
  have key : ∀ k c a w, scopeIn F n P body Q k c a w → ∃ e a' w', Q e a' w' ∧ ArrivesIn (Machine.fenced P F) P (lone (b.atR a (.code c :: .inScope body :: kk)) cs w) b kk cs e a' w' := by
    intro k
    induction k with
    | zero => intro c a w h; exact h.elim
    | succ k ih =>
      intro c a w h
      obtain ⟨e, a₁, w₁, hq, harr⟩ := h b (.inScope body :: kk) cs hro hb hr
      have hx : ∀ id, exitTo id (.inScope body :: kk) = exitTo id kk := fun id => by simp [exitTo]
      cases e with
      | normal => exact ⟨.normal, a₁, w₁, hq, harr.trans (.one (fenced_calm hb hr rfl) stepR_inScope)⟩
      | exit id => exact ⟨.exit id, a₁, w₁, hq, fun k' hk => harr.1 k' (by rw [hx]; exact hk), fun hr' hk => harr.2 hr' (by rw [hx]; exact hk)⟩
      | ret => exact ⟨_, a₁, w₁, hq, harr⟩
      | panic ch => exact ⟨_, a₁, w₁, hq, harr⟩
      | outgrown => exact ⟨_, a₁, w₁, hq, harr⟩
      | goto l =>
        rcases hq with ⟨rest, hf, hs⟩ | ⟨hf, hq⟩
        · obtain ⟨e₂, a₂, w₂, hq₂, harr₂⟩ := ih _ _ _ hs
          exact ⟨e₂, a₂, w₂, hq₂, .of_steps (harr.1 _ (by simp [gotoIn, hf])) harr₂⟩
        · have hg : gotoIn l (.inScope body :: kk) = gotoIn l kk := by simp [gotoIn, hf]
          exact ⟨.goto l, a₁, w₁, hq, fun k' hk => harr.1 k' (by rw [hg]; exact hk), fun hr' hk => harr.2 hr' (by rw [hg]; exact hk)⟩
  obtain ⟨e, a₁, w₁, hq, harr⟩ := key k body a w h
  exact ⟨e, a₁, w₁, hq, .of_steps (.one (fenced_calm hb hr rfl) stepR_scope) harr⟩

theorem scopeIn_mono {body : Code} {Q' : Exit → Act → World → Prop} (hQ : ∀ e a w, Q e a w → Q' e a w) : ∀ (k : Nat) (c : Code) (a : Act) (w : World), scopeIn F n P body Q k c a w → scopeIn F n P body Q' k c a w := by
  intro k
  induction k with
  | zero => intro c a w h; exact h
  | succ k ih =>
    intro c a w h
    simp only [scopeIn] at h ⊢
    refine wpIn_mono h ?_
    intro e a' w' he
    cases e with
    | goto l => exact he.imp (fun ⟨r, h1, h2⟩ => ⟨r, h1, ih _ _ _ h2⟩) (fun ⟨h1, h2⟩ => ⟨h1, hQ _ _ _ h2⟩)
    | _ => exact hQ _ _ _ he
end

theorem noRF_label : ∀ (c : Code) (l : Nat) (r : Code), findLabel c l = some r → noRF c = true → noRF r = true := by
  intro c
  induction c with
  | seq a b iha ihb =>
    intro l r h hn
    simp only [noRF, Bool.and_eq_true] at hn
    simp only [findLabel] at h
    split at h
    · rename_i ra hra
      simp at h; subst h
      simp only [noRF, Bool.and_eq_true]
      exact ⟨iha _ _ hra hn.1, hn.2⟩
    · exact ihb _ _ h hn.2
  | label k =>
    intro l r h _
    simp only [findLabel] at h
    split at h
    · simp at h; subst h; rfl
    · cases h
  | _ => intro l r h; simp [findLabel] at h

theorem scopeA_sound {ih : CodeRun} (hih : RunOk P ih) (hihm : RunMono ih) {body : Code} {nt : Nat} {ro : Option Nat} (hb : ro = none ∨ noRF body = true) : ∀ (n : Nat) {c : Code} {tm tm' : T Value} {st st' : St} {ex : Ex}, scopeA ih body nt n c tm st = some (ex, tm', st') → (ro = none ∨ noRF c = true) →
    ∀ m w a B, Rep (Cx.of P) m st.G w → TmRep m tm a.tmps → Marks B w a.defers → B ≤ w.heap.size → nt ≤ a.tmps.size → Fresh m st.ct st'.ct →
      scopeIn (FR ro) 0 P body (Post (Cx.of P) m st w a.tmps.size B ex tm' st') n c a w := by
  intro n
  induction n with
  | zero => intro c tm tm' st st' ex h; simp [scopeA] at h
  | succ n ihn =>
    intro c tm tm' st st' ex h hc m w a B hR ht hd hB hn hf
    simp only [scopeA] at h
    split at h <;> (try (simp at h; done))
    rename_i ex1 tm1 st1 h1
    have hct1 := hihm _ _ _ _ _ _ _ h1
    simp only [scopeIn]
    split at h
    · rename_i l
      split at h
      · rename_i rest hfl
        have hct2 := scopeA_ct hihm h
        refine wpIn_mono (hih _ _ _ _ _ _ _ h1 ro hc m w a B hR ht hd hB hn (fun i g1 g2 => hf i g1 (by omega))) ?_
        rintro e a' w' ⟨rfl, m1, hs, ht1, hd1, hsz⟩
        refine .inl ⟨rest, hfl, ?_⟩
        refine scopeIn_mono ?_ _ _ _ _ (ihn h (hb.imp id (noRF_label _ _ _ hfl)) m1 w' a' B hs.rep ht1 hd1 (by have := hs.fr.size; omega) (by omega) (hf.after hs hct1))
        intro e a2 w2 hp
        rw [hsz] at hp
        exact hp.trans hs hct1 hct2
      · rename_i hfl
        simp at h; obtain ⟨rfl, rfl, rfl⟩ := h
        refine wpIn_mono (hih _ _ _ _ _ _ _ h1 ro hc m w a B hR ht hd hB hn hf) ?_
        rintro e a' w' ⟨rfl, h2⟩
        exact .inr ⟨hfl, rfl, h2⟩
    · rename_i hne
      simp at h; obtain ⟨rfl, rfl, rfl⟩ := h
      refine wpIn_mono (hih _ _ _ _ _ _ _ h1 ro hc m w a B hR ht hd hB hn hf) ?_
      rintro e a' w' ⟨rfl, h2⟩
      cases ex1 with
      | normal => exact ⟨rfl, h2⟩
      | exit id => exact ⟨rfl, h2⟩
      | ret => exact ⟨rfl, h2⟩
      | goto l => exact absurd rfl (hne l)

/-- one block more, which no object has -/
theorem Step.pad {m : Nat → Option Loc} {G : Nat → AObj → Prop} {w w1 : World} {ct : Nat} (hR : Rep (Cx.of P) m G w) (hsz : w.heap.size ≤ w1.heap.size) (hos : w1.os = w.os) (htp : w1.tape = w.tape) (hout : w1.output = w.output)
    (hsame : ∀ b, b < w.heap.size → w1.heap[b]? = w.heap[b]?) : Step (Cx.of P) m G w ct m G w1 ct where
  mono := fun _ _ h => h
  dom := fun _ _ h => .inl h
  rep := {
    dom := fun id o hg => by obtain ⟨l, h1, h2⟩ := hR.dom id o hg; exact ⟨l, h1, by omega⟩
    obj := fun μ hμ id o hg => by
      obtain ⟨l, h1, h2⟩ := hR.dom id o hg
      refine (hR.obj μ hμ id o hg).congr (hsame _ ?_)
      rw [hμ id l h1]; exact h2
    inj := hR.inj
    glob := hR.glob }
  fr := ⟨hsz, hos, htp, hout, fun b hb _ => hsame b hb⟩
  prov := fun id o l hg hm => .inr ⟨id, o, l, hg, fun h => h, hm, rfl⟩

/-- A RANGE OVER A FUNCTION. -/
theorem rangeA_sound {ih : CodeRun} (hov : OvOk P ov) (hovm : OvMono ov) (hih : RunOk P ih) (hihm : RunMono ih) {f : Operand} {ps : Array Tmp} {assign body : Code} {nt : Nat} {tm tm' : T Value} {st st' : St} {ex : Ex}
    (h : rangeA (Cx.of P) ov ih f ps.toList assign body nt tm st = some (ex, tm', st')) {m : Nat → Option Loc} {w : World} {a : Act} {B : Nat}
    (hR : Rep (Cx.of P) m st.G w) (ht : TmRep m tm a.tmps) (hd : Marks B w a.defers) (hB : B ≤ w.heap.size) (hn : nt ≤ a.tmps.size) (hf : Fresh m st.ct st'.ct) :
    (Code.rangeFunc f ps assign body).wpIn (FR none) 0 P (Post (Cx.of P) m st w a.tmps.size B ex tm' st') a w := by
  obtain ⟨k, first, captured, v, s2, ls, pend, tm2, nt2, ps2, as2, bo2, hfv, hent, hcall, hg2, hbusy, rfl, rfl, hpend⟩ := rangeA_some h
  have hctc := callA_ct hovm hihm hcall
  simp only at hctc hf
  refine wpIn_rangeFunc fun fn _ => ?_
  -- the two new blocks
  obtain ⟨rec, hrec⟩ : ∃ rec : Loop, rec = { state := .ready, pending := none, fn, tmps := a.tmps, params := ps, assign, body, defers := w.heap.size } := ⟨_, rfl⟩
  obtain ⟨W0, hW0⟩ : ∃ W0, w.alloc (.deferred (some [])) = W0 := ⟨_, rfl⟩
  obtain ⟨W1, hW1⟩ : ∃ W1, W0.alloc (.loop rec) = W1 := ⟨_, rfl⟩
  have hsz0 : W0.heap.size = w.heap.size + 1 := by rw [← hW0]; exact World.size_alloc ..
  have hsz1 : W1.heap.size = w.heap.size + 2 := by rw [← hW1, World.size_alloc, hsz0]
  have old0 : ∀ b, b < w.heap.size → W0.heap[b]? = w.heap[b]? := by
    intro b hb
    rw [← hW0]
    show (w.heap.push _)[b]? = _
    rw [Array.getElem?_push]; simp [Nat.ne_of_lt hb]
  have old1 : ∀ b, b < W0.heap.size → W1.heap[b]? = W0.heap[b]? := by
    intro b hb
    rw [← hW1]
    show (W0.heap.push _)[b]? = _
    rw [Array.getElem?_push]; simp [Nat.ne_of_lt hb]
  have here0 : W0.heap[w.heap.size]? = some (.deferred (some [])) := by
    rw [← hW0]
    show (w.heap.push _)[w.heap.size]? = _
    simp
  have here1 : W1.heap[w.heap.size + 1]? = some (.loop rec) := by
    rw [← hW1, ← hsz0]
    show (W0.heap.push _)[W0.heap.size]? = _
    simp
  have hs0 : Step (Cx.of P) m st.G w st.ct m st.G W0 st.ct := Step.pad hR (by omega) (by rw [← hW0]; rfl) (by rw [← hW0]; rfl) (by rw [← hW0]; rfl) old0
  have hid : m st.ct = none := hf _ (Nat.le_refl _) (by omega)
  have hnew : New W0 W1 := ⟨by omega, by rw [← hW1]; rfl, by rw [← hW1]; rfl, by rw [← hW1]; rfl, old1⟩
  have hs1 := Step.newObj (ob := .loopO .ready none tm' nt ps.toList assign body) (l := ⟨w.heap.size + 1, 0, 0, .nilFunc⟩) hs0.rep hid hnew (by rw [hsz0]) (by
    intro μ hμ
    have hloc : μ st.ct = ⟨w.heap.size + 1, 0, 0, .nilFunc⟩ := hμ _ _ (setM_same _ _)
    refine ⟨by rw [hloc], rec, by rw [hloc]; exact here1, by rw [hrec], by rw [hrec]; rfl, fun t v hv => ?_, by rw [hrec]; exact hn, by rw [hrec], by rw [hrec], by rw [hrec]⟩
    obtain ⟨cv, g1, g2⟩ := ht t v hv
    rw [hrec, g1, g2 μ (hμ.mono (setM_mono hid))])
  have hs01 := hs0.trans hs1 (Nat.le_refl _) (Nat.le_succ _)
  have hl1 : setM m st.ct ⟨w.heap.size + 1, 0, 0, .nilFunc⟩ st.ct = some ⟨w.heap.size + 1, 0, 0, .nilFunc⟩ := setM_same _ _
  -- the call
  have hfn := eval_rep (P := P) hR.glob ht f _ hfv
  have hμ0 := some0_ext m
  have hfn0 := hfn _ hμ0
  simp only [conc_func, concFn_func] at hfn0
  have hargs : VReps (setM m st.ct ⟨w.heap.size + 1, 0, 0, .nilFunc⟩) (first.toList ++ .func (.yield st.ct) #[] #[] :: captured.toList) ((concA (some0 m) first).toList ++ .func (.yield (w.heap.size + 1)) #[] #[] :: (concA (some0 m) captured).toList) := by
    intro μ hμ
    have h1 := hfn μ (hμ.mono (setM_mono hid))
    rw [← hfn0] at h1
    simp only [conc_func, concFn_func, Value.func.injEq, true_and] at h1
    have hloc : μ st.ct = ⟨w.heap.size + 1, 0, 0, .nilFunc⟩ := hμ _ _ (setM_same _ _)
    rw [List.map_append, List.map_cons, ← concA_toList, ← concA_toList, h1.1, h1.2]
    simp [hloc, concA_eq]
  have hfo := callA_sound hov hovm hih hihm hcall hs1.rep hargs (Fresh.after (ct2 := s2.ct) hf hs01 (Nat.le_succ _))
  obtain ⟨fnk, hfnk, hbk, hnk⟩ : ∃ fnk, P.funcs[k]? = some fnk ∧ fnk.body.isSome = true ∧ fnk.name ≠ "runtime.NumGoroutine" := by
    unfold entersA at hent
    rw [Cx.fn_get] at hent
    split at hent
    · rename_i fnk hk
      simp only [Bool.and_eq_true, Bool.not_eq_true', decide_eq_false_iff_not] at hent
      exact ⟨fnk, hk, hent.1, hent.2⟩
    · cases hent
  have hrunk : ∀ args W, (callFunc k args).run P W = .ok (.enter k args) W := by
    intro args W
    obtain ⟨c, hc⟩ := Option.isSome_iff_exists.1 hbk
    simp [callFunc, hfnk, hnk, hc]
  have hcalls : Calls P k ((concA (some0 m) first).toList ++ .func (.yield (w.heap.size + 1)) #[] #[] :: (concA (some0 m) captured).toList).toArray W1 fun e w' => ∃ x, e = .returned x ∧ CallPost (Cx.of P) (setM m st.ct ⟨w.heap.size + 1, 0, 0, .nilFunc⟩) ⟨st.hp.set st.ct (.loopO .ready none tm' nt ps.toList assign body), st.ct + 1⟩ W1 v s2 x w' := by
    rcases hfo with ⟨cv, w', h1, _⟩ | ⟨_, h2⟩
    · rw [hrunk] at h1; cases h1
    · exact h2
  refine ⟨w.heap.size + 1, [mark w.heap.size], W1, { target := .fn (.func k) (concA (some0 m) captured), args := concA (some0 m) first ++ #[.func (.yield (w.heap.size + 1)) #[] #[]] }, W1, k,
    ((concA (some0 m) first).toList ++ .func (.yield (w.heap.size + 1)) #[] #[] :: (concA (some0 m) captured).toList).toArray, W1, ?_, ?_, fun _ _ => trivial, ?_, fun h => by simp [FR, Fence.wide] at h, ?_⟩
  · show (Instr.enterLoop fn a.tmps ps assign body none).run P w = _
    simp only [Instr.enterLoop, Sem.run_bind, run_newObj, Result.andThen_ok, Sem.run_pure]
    rw [← hW1, ← hW0, hrec]
    have e1 : (w.heap.push (.deferred (some []))).size = w.heap.size + 1 := by simp
    rw [e1]
    rfl
  · simp only [resolve]
    rw [← hfn0]
    simp [Deferred.ofValue, Act.eval]
  · simp only [invoke]
    refine (hrunk _ _).trans ?_
    congr 2
    apply Array.ext'; simp
  · refine callsIn_wide.2 (hcalls.mono ?_)
    rintro e w3 ⟨x, rfl, m3, hs3, _⟩
    have hl3 := hs3.mono _ _ hl1
    have all3 : Step (Cx.of P) m st.G w st.ct m3 s2.G w3 s2.ct := hs01.trans hs3 (Nat.le_succ _) hctc
    obtain ⟨_, r3, hb3, hst3, hpe3, _⟩ := loop_obj hs3.rep hg2 hl3
    have hend : (Instr.endLoop (w.heap.size + 1)).run P w3 = .ok (pend.map jumpOf) { w3 with heap := w3.heap.setIfInBounds (w.heap.size + 1) (.loop { r3 with state := .exhausted }) } := by
      simp only [Instr.endLoop, Sem.run_bind, getLoop_run hb3, Result.andThen_ok]
      have hnb : (r3.state == .busy) = false := by
        rw [hst3]
        cases ls <;> first | rfl | exact absurd rfl hbusy
      simp [hnb, setObj_run hb3, hpe3]
    have hlt3 : w.heap.size + 1 < w3.heap.size := (Array.getElem?_eq_some_iff.1 hb3).1
    have s4 : Step (Cx.of P) m3 s2.G w3 s2.ct m3 ({ s2 with hp := s2.hp.del st.ct } : St).G { w3 with heap := w3.heap.setIfInBounds (w.heap.size + 1) (.loop { r3 with state := .exhausted }) } s2.ct := by
      have := loop_set (ls' := .exhausted) (pend' := pend) hs3.rep hg2 hl3 hb3 s2.ct
      have he : ({ r3 with state := .exhausted } : Loop) = { r3 with state := .exhausted, pending := pend.map jumpOf } := by rw [← hpe3]
      rw [he]
      refine this.sub fun id o hg => ?_
      simp only [St.G, T.get_del] at hg
      split at hg
      · cases hg
      · rename_i hne
        simp only [St.G, T.get_set]
        rw [if_neg hne]; exact hg
    have all4 := all3.trans s4 (by omega) (Nat.le_refl _)
    have hm0 : Marks B W0 (mark w.heap.size :: a.defers) := by
      obtain ⟨rs, g1, g2, g3⟩ := hd.step hR hs0
      refine ⟨w.heap.size :: rs, by rw [g1]; rfl, ?_, fun r hr => ?_⟩
      · rw [List.nodup_cons]
        refine ⟨fun hm => ?_, g2⟩
        obtain ⟨rs', g1', _, g3'⟩ := hd
        rw [g1] at g1'
        have : rs = rs' := by
          have hinj : ∀ (l l' : List Nat), l.map mark = l'.map mark → l = l' := by
            intro l
            induction l with
            | nil => intro l' h; cases l' <;> simp at h ⊢
            | cons x l ih => intro l' h; cases l' with
              | nil => simp at h
              | cons y l' =>
                simp only [List.map_cons, List.cons.injEq] at h
                have h1 : x = y := by have := h.1; simp [mark] at this; exact this
                rw [h1, ih _ h.2]
          exact hinj _ _ g1'
        subst this
        have := (Array.getElem?_eq_some_iff.1 (g3' _ hm).2).1
        omega
      · rcases List.mem_cons.1 hr with rfl | hr
        · exact ⟨hB, here0⟩
        · exact g3 r hr
    have hmk : Marks B { w3 with heap := w3.heap.setIfInBounds (w.heap.size + 1) (.loop { r3 with state := .exhausted }) } (mark w.heap.size :: a.defers) :=
      ((hm0.step hs0.rep hs1).step hs1.rep hs3).step hs3.rep s4
    have fin : ∀ ex, Post (Cx.of P) m st w a.tmps.size B ex tm' ({ s2 with hp := s2.hp.del st.ct }) (exitOf ex) { a with defers := [mark w.heap.size] ++ a.defers } { w3 with heap := w3.heap.setIfInBounds (w.heap.size + 1) (.loop { r3 with state := .exhausted }) } :=
      fun ex => ⟨rfl, m3, all4, ht.mono all4.mono, hmk, rfl⟩
    refine ⟨_, _, hend, ?_⟩
    cases pend with
    | none => subst hpend; exact fin _
    | some e0 =>
      subst hpend
      simp only [Option.map_some]
      cases ex with
      | normal => exact wpIn_skip (fin _)
      | exit id => exact wpIn_exit (fin _)
      | ret => exact wpIn_ret (fin _)
      | goto l => exact wpIn_goto (fin _)

theorem code_step (hmix : P.follows .mixedOrders = true) {ih : CodeRun} (hov : OvOk P ov) (hovm : OvMono ov) (hovi : OvIds ov) (hih : RunOk P ih) (hihm : RunMono ih) (hihi : RunIds ih) (hkeep : RunKeeps ih) (hl : LoopOk P ih) : RunOk P (stepA (Cx.of P) ov ih) := by
  intro c nt tm st ex tm' st' h ro hro m w a B hR ht hd hB hn hf
  cases c with
  | loop c =>
    obtain ⟨k, hk⟩ := loop_step hov hovm hih hihm hkeep hl c nt tm st ex tm' st' h
    exact wpIn_loop_rounds k (hk ro hro m w a B hR ht hd hB hn hf)
  | skip => simp [stepA] at h; obtain ⟨rfl, rfl, rfl⟩ := h; exact wpIn_skip ⟨rfl, m, Step.refl hR, ht, hd, rfl⟩
  | label l => simp [stepA] at h; obtain ⟨rfl, rfl, rfl⟩ := h; exact wpIn_label ⟨rfl, m, Step.refl hR, ht, hd, rfl⟩
  | ret => simp [stepA] at h; obtain ⟨rfl, rfl, rfl⟩ := h; exact wpIn_ret ⟨rfl, m, Step.refl hR, ht, hd, rfl⟩
  | exit id => simp [stepA] at h; obtain ⟨rfl, rfl, rfl⟩ := h; exact wpIn_exit ⟨rfl, m, Step.refl hR, ht, hd, rfl⟩
  | goto id => simp [stepA] at h; obtain ⟨rfl, rfl, rfl⟩ := h; exact wpIn_goto ⟨rfl, m, Step.refl hR, ht, hd, rfl⟩
  | scope c =>
    simp only [stepA] at h
    have hro' : ro = none ∨ noRF c = true := hro
    exact wpIn_scope _ (scopeA_sound hih hihm hro' _ h hro' m w a B hR ht hd hB hn hf)
  | rangeFunc f ps as bo =>
    rcases hro with rfl | hro
    · exact rangeA_sound hov hovm hih hihm h hR ht hd hB hn hf
    · simp [noRF] at hro
  | seq x y =>
    have hx : ro = none ∨ noRF x = true := hro.imp id fun h => by simp only [noRF, Bool.and_eq_true] at h; exact h.1
    have hy : ro = none ∨ noRF y = true := hro.imp id fun h => by simp only [noRF, Bool.and_eq_true] at h; exact h.2
    simp only [stepA] at h
    split at h <;> (try (simp at h; done))
    rename_i ex1 tm1 st1 hb
    have hct1 := hihm _ _ _ _ _ _ _ hb
    refine wpIn_seq ?_
    split at h
    · have hct2 := hihm _ _ _ _ _ _ _ h
      refine wpIn_mono (hih _ _ _ _ _ _ _ hb ro hx m w a B hR ht hd hB hn (fun i h1 h2 => hf i h1 (by omega))) ?_
      rintro e a' w' ⟨rfl, m1, hs, ht1, hd1, hsz⟩
      refine wpIn_mono (hih _ _ _ _ _ _ _ h ro hy m1 w' a' B hs.rep ht1 hd1 (by have := hs.fr.size; omega) (by omega) (hf.after hs hct1)) ?_
      intro e a2 w2 hp
      rw [hsz] at hp
      exact hp.trans hs hct1 hct2
    · rename_i hne
      simp at h; obtain ⟨rfl, rfl, rfl⟩ := h
      refine wpIn_mono (hih _ _ _ _ _ _ _ hb ro hx m w a B hR ht hd hB hn hf) ?_
      rintro e a' w' ⟨rfl, h2⟩
      cases ex1 with
      | normal => exact absurd rfl hne
      | exit id => exact ⟨rfl, h2⟩
      | ret => exact ⟨rfl, h2⟩
      | goto l => exact ⟨rfl, h2⟩
  | cond x y z =>
    have hy : ro = none ∨ noRF y = true := hro.imp id fun h => by simp only [noRF, Bool.and_eq_true] at h; exact h.1
    have hz : ro = none ∨ noRF z = true := hro.imp id fun h => by simp only [noRF, Bool.and_eq_true] at h; exact h.2
    simp only [stepA] at h
    have key : ∀ b, ev (Cx.of P) tm x = some (.bool b) → a.eval x = .bool b := fun b hx => by
      rw [← eval_rep hR.glob ht x _ hx _ (some0_ext m)]; simp
    split at h <;> (try (simp at h; done))
    · rename_i hx
      exact wpIn_cond_true (key _ hx) (hih _ _ _ _ _ _ _ h ro hy m w a B hR ht hd hB hn hf)
    · rename_i hx
      exact wpIn_cond_false (key _ hx) (hih _ _ _ _ _ _ _ h ro hz m w a B hR ht hd hB hn hf)
  | block id c =>
    simp only [stepA] at h
    split at h <;> (try (simp at h; done))
    rename_i ex1 tm1 st1 hb
    refine wpIn_block ?_
    split at h
    · rename_i id'
      split at h
      · rename_i hid
        have hid := Nat.eq_of_beq_eq_true hid
        subst hid
        simp at h; obtain ⟨rfl, rfl, rfl⟩ := h
        refine wpIn_mono (hih _ _ _ _ _ _ _ hb ro hro m w a B hR ht hd hB hn hf) ?_
        rintro e a' w' ⟨rfl, h2⟩
        simp only [exitOf, Exit.inBlock, if_true]
        exact ⟨rfl, h2⟩
      · rename_i hid
        have hne : id' ≠ id := fun e => by subst e; simp at hid
        simp at h; obtain ⟨rfl, rfl, rfl⟩ := h
        refine wpIn_mono (hih _ _ _ _ _ _ _ hb ro hro m w a B hR ht hd hB hn hf) ?_
        rintro e a' w' ⟨rfl, h2⟩
        simp only [exitOf, Exit.inBlock, hne, if_false]
        exact ⟨rfl, h2⟩
    · rename_i hne
      simp at h; obtain ⟨rfl, rfl, rfl⟩ := h
      refine wpIn_mono (hih _ _ _ _ _ _ _ hb ro hro m w a B hR ht hd hB hn hf) ?_
      rintro e a' w' ⟨rfl, h2⟩
      cases ex1 with
      | normal => exact ⟨rfl, h2⟩
      | exit id => exact absurd rfl (hne id)
      | ret => exact ⟨rfl, h2⟩
      | goto l => exact ⟨rfl, h2⟩
  | region id ops draw =>
    simp only [stepA] at h
    cases draw with
    | false =>
      simp only at h
      split at h <;> (try (simp at h; done))
      rename_i tm1 st1 ho
      simp at h; obtain ⟨rfl, rfl, rfl⟩ := h
      refine wpIn_region ?_
      have := opsA_sound hov hovm hih hihm 0 ops.toList ⟨[], by simp⟩ ho (ro := ro) hR ht hn hf
      simp only [Nat.zero_add, List.map_id_fun', id_eq, Array.length_toList, Array.toArray_toList] at this
      refine wpOps_mono ?_ this
      rintro e a' w' ⟨rfl, m', h1, h2, h3, h4⟩
      exact ⟨rfl, m', h1, h2, by rw [h3]; exact hd.step hR h1, h4⟩
    | true =>
      simp only at h
      split at h <;> (try (simp at h; done))
      rename_i tm1 st1 ho
      simp at h; obtain ⟨rfl, rfl, rfl⟩ := h
      have := drawA_sound (id := id) (ro := ro) hmix hov hovm hovi hih hihm hihi ho hR ht hn hf
      refine wpIn_mono this ?_
      rintro e a' w' ⟨rfl, m', h1, h2, h3, h4⟩
      exact ⟨rfl, m', h1, h2, by rw [h3]; exact hd.step hR h1, h4⟩
  | refuse s => simp [stepA] at h

theorem run_ok (hmix : P.follows .mixedOrders = true) (hov : OvOk P ov) (hovm : OvMono ov) (hovi : OvIds ov) : ∀ n, RunOk P (run (Cx.of P) ov n) ∧ LoopOk P (run (Cx.of P) ov n) := by
  intro n
  induction n with
  | zero => exact ⟨fun c nt tm st ex tm' st' h => by simp [run] at h, fun c nt tm st ex tm' st' h => by simp [run] at h⟩
  | succ n ih => exact ⟨code_step hmix hov hovm hovi ih.1 (run_ct hovm n) (run_ids hovm hovi n) (run_keeps hovm n) ih.2, loop_step hov hovm ih.1 (run_ct hovm n) (run_keeps hovm n) ih.2⟩

/-- WHAT THE ABSTRACT INTERPRETER SAYS OF A CALL IS SO. -/
theorem call_sound (hmix : P.follows .mixedOrders = true) (hov : OvOk P ov) (hovm : OvMono ov) (hovi : OvIds ov) {n f : Nat} {args : List Value} {st st' : St} {v : Value} (h : call (Cx.of P) ov n f args st = some (v, st'))
    {m : Nat → Option Loc} {w : World} {cargs : List Value} (hR : Rep (Cx.of P) m st.G w) (ha : VReps m args cargs) (hf : Fresh m st.ct st'.ct) :
    FnOk P f cargs.toArray w (CallPost (Cx.of P) m st w v st') :=
  callA_sound hov hovm (run_ok hmix hov hovm hovi n).1 (run_ct hovm n) h hR ha hf

end
end Go.Ai

/-! Ranges over maps whose order counts for a while: all that may come out of them. -/
namespace Go.Ai
open Go
noncomputable section
abbrev Out := Ex × T Value × St
abbrev CodeRunL := Code → Nat → T Value → St → Option (List Out)

def bindL {α β : Type} (f : α → Option (List β)) : List α → Option (List β)
  | [] => some []
  | x :: l => match f x with
    | some r => match bindL f l with
      | some q => some (r ++ q)
      | none => none
    | none => none
def picks {α : Type} : List α → List (α × List α)
  | [] => []
  | x :: l => (x, l) :: (picks l).map fun p => (p.1, x :: p.2)

/-- one round, the heap as it is -/
def roundF (cx : Cx) (ov : Ov) (ih : CodeRun) (nt : Nat) (L : MapLoop) (tm : T Value) (st : St) (k v : Value) : Option Out :=
  match headRound nt L tm k v with
  | some t3 => match opsA cx ov ih nt (L.oE :: L.ops) L.ops t3 st with
    | some (t4, s4) => ih L.rest nt t4 s4
    | none => none
  | none => none
def goesOn (bid : Nat) : Ex → Bool
  | .normal => true
  | .exit b => Nat.beq b bid
  | _ => false
/-- is it the same iterator still? -/
def sameIt (tm : T Value) (it id : Nat) : Bool := match tm.get it with
  | some (.pointer (some a)) => a.spot.isNone && (Nat.beq a.off 0 && Nat.beq a.block id)
  | _ => false
def isMapO : Option AObj → Bool
  | some (.map _ _ _) => true
  | _ => false
def mapIds : T AObj → List Nat
  | .nil => []
  | .node v l r => (match isMapO v with | true => [0] | false => []) ++ ((mapIds l).map (fun j => 2 * j + 1) ++ (mapIds r).map (fun j => 2 * j + 2))
/-- the maps (but one) are those that were there -/
def mapsOld (hp0 hp1 : T AObj) (r : Nat) : Bool := (mapIds hp1).all fun i => Nat.beq i r || isMapO (hp0.get i)
/-- the map may be written again -/
def thaw (st0 : St) (r : Nat) (wr : Bool) (st : St) : Option St :=
  match wr with
  | false => some st
  | true => match st.hp.get r, mapsOld st0.hp st.hp r with
    | some (.map es lk _), true => some ⟨st.hp.set r (.map es lk true), st.ct⟩
    | _, _ => none
def finF (nt : Nat) (L : MapLoop) (th : St → Option St) (tm : T Value) (st : St) : Option Out :=
  match putDst nt tm (some L.d1) (.tuple #[.bool false]) with
  | some t1 => match putDst nt t1 (some L.d2) (.bool false) with
    | some t2 => match th st with
      | some st' => some (.exit L.xid, t2, st')
      | none => none
    | none => none
  | none => none
def outsF (round : T Value → St → MapEntry → Option Out) (fin : T Value → St → Option Out) (th : St → Option St) (it id bid : Nat) : Nat → List MapEntry → T Value → St → Option (List Out)
  | 0, _, _, _ => none
  | n + 1, es, tm, st => match sameIt tm it id with
    | false => none
    | true => match es with
      | [] => match fin tm st with
        | some o => some [o]
        | none => none
      | e0 :: es0 => bindL (fun p => match round tm st p.1 with
          | some (ex, tm', st') => match goesOn bid ex with
            | true => outsF round fin th it id bid n p.2 tm' st'
            | false => match th st' with
              | some s2 => some [(ex, tm', s2)]
              | none => none
          | none => none) (picks (e0 :: es0))
def forkM (cx : Cx) (ov : Ov) (ih : CodeRun) (L : MapLoop) (nt : Nat) (tm : T Value) (st : St) : Option (List Out) :=
  match tm.get L.it with
  | some (.pointer (some a)) => match st.hp.get a.block with
    | some (.iterM (some r) lk) => match st.hp.get r with
      | some (.map es lk2 wr) => match (distinctKeys es && (lk && lk2)) && (!Nat.beq L.it L.d1 && !Nat.beq L.it L.d2) with
        | true => outsF (fun tm st e => roundF cx ov ih nt L tm st e.key e.val) (finF nt L (thaw st r wr)) (thaw st r wr) L.it a.block L.bid (es.length + 1) es tm ⟨(st.hp.del a.block).set r (.map es lk2 false), st.ct⟩
        | false => none
      | _ => none
    | _ => none
  | _ => none
end

theorem bindL_mem {α β : Type} {f : α → Option (List β)} : ∀ {l : List α} {q : List β}, bindL f l = some q → ∀ x ∈ l, ∃ r, f x = some r ∧ ∀ y ∈ r, y ∈ q
  | [], _, _, x, hx => by cases hx
  | a :: l, q, h, x, hx => by
    simp only [bindL] at h
    split at h <;> (try (cases h; done))
    rename_i r hr
    split at h <;> (try (cases h; done))
    rename_i q2 hq
    simp only [Option.some.injEq] at h; subst h
    rcases List.mem_cons.1 hx with rfl | hx
    · exact ⟨r, hr, fun y hy => List.mem_append_left _ hy⟩
    · obtain ⟨r2, h1, h2⟩ := bindL_mem hq x hx
      exact ⟨r2, h1, fun y hy => List.mem_append_right _ (h2 y hy)⟩
theorem bindL_of {α β : Type} {f : α → Option (List β)} : ∀ {l : List α} {q : List β}, bindL f l = some q → ∀ y ∈ q, ∃ x ∈ l, ∃ r, f x = some r ∧ y ∈ r
  | [], q, h, y, hy => by simp only [bindL, Option.some.injEq] at h; subst h; cases hy
  | a :: l, q, h, y, hy => by
    simp only [bindL] at h
    split at h <;> (try (cases h; done))
    rename_i r hr
    split at h <;> (try (cases h; done))
    rename_i q2 hq
    simp only [Option.some.injEq] at h; subst h
    rcases List.mem_append.1 hy with hy | hy
    · exact ⟨a, by simp, r, hr, hy⟩
    · obtain ⟨x, h1, r2, h2, h3⟩ := bindL_of hq y hy
      exact ⟨x, by simp [h1], r2, h2, h3⟩
theorem bindL_ne {α β : Type} {f : α → Option (List β)} (hf : ∀ x r, f x = some r → r ≠ []) {l : List α} {q : List β} (h : bindL f l = some q) (hl : l ≠ []) : q ≠ [] := by
  cases l with
  | nil => exact absurd rfl hl
  | cons a l =>
    obtain ⟨r, h1, h2⟩ := bindL_mem h a (by simp)
    have hr := hf a r h1
    cases r with
    | nil => exact absurd rfl hr
    | cons y r => exact fun e => by have := h2 y (by simp); rw [e] at this; cases this
theorem picks_mem {α : Type} : ∀ {l : List α} {x : α}, x ∈ l → ∃ r, (x, r) ∈ picks l ∧ l.Perm (x :: r)
  | a :: l, x, hx => by
    simp only [picks]
    rcases List.mem_cons.1 hx with rfl | hx
    · exact ⟨l, by simp, List.Perm.refl _⟩
    · obtain ⟨r, h1, h2⟩ := picks_mem hx
      exact ⟨a :: r, List.mem_cons_of_mem _ (List.mem_map.2 ⟨(x, r), h1, rfl⟩), (h2.cons a).trans (List.Perm.swap x a r)⟩
theorem picks_of {α : Type} : ∀ {l : List α} {p : α × List α}, p ∈ picks l → p.1 ∈ l ∧ p.2.length + 1 = l.length
  | a :: l, p, h => by
    simp only [picks] at h
    rcases List.mem_cons.1 h with rfl | h
    · exact ⟨by simp, rfl⟩
    · obtain ⟨q, hq, rfl⟩ := List.mem_map.1 h
      obtain ⟨h1, h2⟩ := picks_of hq
      exact ⟨List.mem_cons_of_mem _ h1, by simp only [List.length_cons]; omega⟩

section
variable {P : Program} {ov : Ov} {ih : CodeRun}
def PostL (cx : Cx) (m : Nat → Option Loc) (st : St) (w : World) (size B : Nat) (L : List Out) (e : Exit) (a' : Act) (w' : World) : Prop :=
  ∃ r ∈ L, Post cx m st w size B r.1 r.2.1 r.2.2 e a' w'
theorem thaw_ct {st0 st st' : St} {r : Nat} {wr : Bool} (h : thaw st0 r wr st = some st') : st'.ct = st.ct := by
  unfold thaw at h
  split at h
  · simp only [Option.some.injEq] at h; subst h; rfl
  · split at h <;> (try (cases h; done))
    simp only [Option.some.injEq] at h; subst h; rfl
theorem roundF_some {cx : Cx} {nt : Nat} {L : MapLoop} {tm : T Value} {st : St} {k v : Value} {o : Out} (h : roundF cx ov ih nt L tm st k v = some o) :
    ∃ t3 t4 s4, headRound nt L tm k v = some t3 ∧ opsA cx ov ih nt (L.oE :: L.ops) L.ops t3 st = some (t4, s4) ∧ ih L.rest nt t4 s4 = some o := by
  unfold roundF at h
  split at h <;> (try (cases h; done))
  rename_i t3 h3
  split at h <;> (try (cases h; done))
  rename_i t4 s4 h4
  exact ⟨t3, t4, s4, h3, h4, h⟩
theorem outsF_ct {cx : Cx} (hovm : OvMono ov) (hihm : RunMono ih) {nt : Nat} {L : MapLoop} {fin : T Value → St → Option Out} {th : St → Option St} (hfin : ∀ tm st o, fin tm st = some o → st.ct ≤ o.2.2.ct) (hth : ∀ s s', th s = some s' → s'.ct = s.ct) {it id bid : Nat} :
    ∀ (n : Nat) (es : List MapEntry) (tm : T Value) (st : St) (Lo : List Out), outsF (fun tm st e => roundF cx ov ih nt L tm st e.key e.val) fin th it id bid n es tm st = some Lo → Lo ≠ [] ∧ ∀ r ∈ Lo, st.ct ≤ r.2.2.ct := by
  intro n
  induction n with
  | zero => intro es tm st Lo h; simp [outsF] at h
  | succ n ihn =>
    intro es tm st Lo h
    simp only [outsF] at h
    split at h <;> (try (cases h; done))
    have step : ∀ (p : MapEntry × List MapEntry) (r : List Out), (match roundF cx ov ih nt L tm st p.1.key p.1.val with
          | some (ex, tm', st') => match goesOn bid ex with
            | true => outsF (fun tm st e => roundF cx ov ih nt L tm st e.key e.val) fin th it id bid n p.2 tm' st'
            | false => match th st' with
              | some s2 => some [(ex, tm', s2)]
              | none => none
          | none => none) = some r → r ≠ [] ∧ ∀ q ∈ r, st.ct ≤ q.2.2.ct := by
      intro p r hr
      split at hr <;> (try (cases hr; done))
      rename_i ex tm' st' hro
      obtain ⟨t3, t4, s4, h3, h4, h5⟩ := roundF_some hro
      have c1 := opsA_ct hovm hihm h4
      have c2 := hihm _ _ _ _ _ _ _ h5
      split at hr
      · obtain ⟨g1, g2⟩ := ihn _ _ _ _ hr
        exact ⟨g1, fun q hq => by have := g2 q hq; omega⟩
      · split at hr <;> (try (cases hr; done))
        rename_i s2 hs2
        simp only [Option.some.injEq] at hr; subst hr
        refine ⟨by simp, fun q hq => ?_⟩
        rw [List.mem_singleton] at hq; subst hq
        have := hth _ _ hs2
        simp only; omega
    split at h
    · split at h <;> (try (cases h; done))
      rename_i o ho
      simp only [Option.some.injEq] at h; subst h
      refine ⟨by simp, fun r hr => ?_⟩
      rw [List.mem_singleton] at hr; subst hr
      exact hfin _ _ _ ho
    · refine ⟨bindL_ne (fun x r hx => (step x r hx).1) h (by simp [picks]), fun y hy => ?_⟩
      obtain ⟨x, _, r, hr, hyr⟩ := bindL_of h y hy
      exact (step x r hr).2 y hyr
/-- an object that is turned alone -/
theorem Step.turn {cx : Cx} {m m1 : Nat → Option Loc} {G G1 : Nat → AObj → Prop} {w0 w w1 : World} {ct c1 : Nat} (hs : Step cx m G w0 ct m1 G1 w c1) {ia : Nat} {oi : AObj} {lit : Loc} (hg : G ia oi) (hwi : oi.isWr = true) (hl : m ia = some lit)
    (hno : ∀ id o l, G1 id o → m1 id = some l → l.blk ≠ lit.blk) {ob : Obj} (ht : Turned w w1 lit.blk ob) : Step cx m G w0 ct m1 G1 w1 c1 where
  mono := hs.mono
  dom := hs.dom
  rep := {
    dom := fun id o h => by obtain ⟨l, h1, h2⟩ := hs.rep.dom id o h; exact ⟨l, h1, by rw [ht.1]; simpa using h2⟩
    obj := fun μ hμ id o h => by
      obtain ⟨l, h1, h2⟩ := hs.rep.dom id o h
      refine (hs.rep.obj μ hμ id o h).congr ?_
      rw [hμ id l h1, ht.1, Array.getElem?_setIfInBounds_ne (Ne.symm (hno id o l h h1))]
    inj := hs.rep.inj
    glob := hs.rep.glob }
  fr := ⟨by rw [ht.1]; simpa using hs.fr.size, ht.2.1.trans hs.fr.os, ht.2.2.1.trans hs.fr.tape, ht.2.2.2.trans hs.fr.output, fun b hb hn => by
    have hne : lit.blk ≠ b := fun e => hn ia oi lit hg hwi hl e
    rw [ht.1, Array.getElem?_setIfInBounds_ne hne]
    exact hs.fr.block b hb hn⟩
  prov := hs.prov
theorem Step.alike {cx : Cx} {m m1 : Nat → Option Loc} {G G1 : Nat → AObj → Prop} {w0 w w1 : World} {ct c1 : Nat} (hs : Step cx m G w0 ct m1 G1 w c1) (ht : Alike w w1) : Step cx m G w0 ct m1 G1 w1 c1 where
  mono := hs.mono
  dom := hs.dom
  rep := {
    dom := fun id o h => by obtain ⟨l, h1, h2⟩ := hs.rep.dom id o h; exact ⟨l, h1, by rw [ht.1]; exact h2⟩
    obj := fun μ hμ id o h => (hs.rep.obj μ hμ id o h).congr (by rw [ht.1])
    inj := hs.rep.inj
    glob := hs.rep.glob }
  fr := ⟨by rw [ht.1]; exact hs.fr.size, ht.2.1.trans hs.fr.os, ht.2.2.1.trans hs.fr.tape, ht.2.2.2.trans hs.fr.output, fun b hb hn => by rw [ht.1]; exact hs.fr.block b hb hn⟩
  prov := hs.prov
end
end Go.Ai

/-! The range over a map, in whatever order: sound. -/
namespace Go.Ai
open Go
section
variable {P : Program} {ov : Ov} {ih : CodeRun}
theorem isMapO_some {o : Option AObj} (h : isMapO o = true) : ∃ es lk wr, o = some (.map es lk wr) := by
  unfold isMapO at h
  split at h
  · exact ⟨_, _, _, rfl⟩
  · cases h
theorem mapIds_mem : ∀ (t : T AObj) (n : Nat), isMapO (t.get n) = true → n ∈ mapIds t := by
  intro t
  induction t with
  | nil => intro n h; rw [T.get_nil] at h; cases h
  | node v l r ihl ihr =>
    intro n h
    simp only [mapIds, List.mem_append, List.mem_map]
    cases n with
    | zero => rw [T.get_zero] at h; rw [h]; exact .inl (by simp)
    | succ k =>
      rw [T.get_succ] at h
      by_cases hk : k % 2 = 0
      · rw [if_pos hk] at h
        exact .inr (.inl ⟨k / 2, ihl _ h, by omega⟩)
      · rw [if_neg hk] at h
        exact .inr (.inr ⟨k / 2, ihr _ h, by omega⟩)
theorem mapsOld_spec {hp0 hp1 : T AObj} {r : Nat} (h : mapsOld hp0 hp1 r = true) (i : Nat) (hm : isMapO (hp1.get i) = true) : i = r ∨ isMapO (hp0.get i) = true := by
  unfold mapsOld at h
  have := List.all_eq_true.1 h i (mapIds_mem _ _ hm)
  simp only [Bool.or_eq_true] at this
  exact this.imp Nat.eq_of_beq_eq_true id
/-- the map may be written again -/
theorem thaw_step {m m1 : Nat → Option Loc} {st st1 st2 : St} {w0 w : World} {r : Nat} {es : List MapEntry} {lk2 wr : Bool} {lr : Loc} (hR : Rep (Cx.of P) m st.G w0) (hgr : st.hp.get r = some (.map es lk2 wr)) (hlr : m r = some lr) (hlrlt : lr.blk < w0.heap.size)
    (hs : Step (Cx.of P) m st.G w0 st.ct m1 st1.G w st1.ct) {ces : Array MapEntry} {clock : Nat} (hmw : w.heap[lr.blk]? = some (.map ces clock)) (h : thaw st r wr st1 = some st2) :
    Step (Cx.of P) m st.G w0 st.ct m1 st2.G w st2.ct := by
  unfold thaw at h
  cases wr with
  | false => simp only [Option.some.injEq] at h; subst h; exact hs
  | true =>
    simp only at h
    split at h <;> (try (cases h; done))
    rename_i es1 lk1 wr1 hg1 hmo
    simp only [Option.some.injEq] at h; subst h
    have hl1 := hs.mono _ _ hlr
    have hold : ∀ id o, (⟨st1.hp.set r (.map es1 lk1 true), st1.ct⟩ : St).G id o → (id = r ∧ o = .map es1 lk1 true) ∨ (id ≠ r ∧ st1.G id o) := by
      intro id o hg
      simp only [St.G, T.get_set] at hg
      by_cases he : id = r
      · rw [if_pos he] at hg; exact .inl ⟨he, (Option.some.inj hg).symm⟩
      · rw [if_neg he] at hg; exact .inr ⟨he, hg⟩
    have alone : ∀ j oj lj, j ≠ r → st1.G j oj → m1 j = some lj → lj.blk ≠ lr.blk := by
      intro j oj lj hjr hj hlj eb
      have hob := hs.rep.obj _ (some0_ext m1) j oj hj
      have hloc : some0 m1 j = lj := some0_ext m1 _ _ hlj
      have hmp : isMapO (st1.hp.get j) = true := by
        have hg : st1.hp.get j = some oj := hj
        rw [hg]
        cases oj with
        | row e cs o w2 => obtain ⟨cells, e', fz, hb, _⟩ := hob; rw [hloc, eb, hmw] at hb; cases hb
        | map es lk w2 => rfl
        | iterS s p => have hb := hob.1; rw [hloc, eb, hmw] at hb; cases hb
        | iterM mm lk =>
          cases mm with
          | none => have hb := hob.2; simp only at hb; rw [hloc, eb, hmw] at hb; cases hb
          | some q => obtain ⟨_, c, hb, _⟩ := hob; rw [hloc, eb, hmw] at hb; cases hb
        | loopO ls pend tm nt ps as bo => obtain ⟨_, q, hb, _⟩ := hob; rw [hloc, eb, hmw] at hb; cases hb
      rcases mapsOld_spec hmo j hmp with h1 | h2
      · exact hjr h1
      · obtain ⟨es0, lk0, wr0, h3⟩ := isMapO_some h2
        obtain ⟨l0, h4, _⟩ := hR.dom j _ h3
        have h5 := hs.mono _ _ h4
        rw [h5] at hlj
        injection hlj with hlj
        subst hlj
        exact hjr (hR.inj r j _ _ lr l0 hgr h3 rfl hlr h4 eb.symm).symm
    refine ⟨hs.mono, hs.dom, ⟨fun id o hg => ?_, fun μ hμ id o hg => ?_, fun i j oi oj li lj hi hj hw hmi hmj hb => ?_, hs.rep.glob⟩, hs.fr, fun id o l hg hm => ?_⟩
    · rcases hold id o hg with ⟨rfl, _⟩ | ⟨_, h1⟩
      · exact ⟨lr, hl1, by have := hs.fr.size; omega⟩
      · exact hs.rep.dom id o h1
    · rcases hold id o hg with ⟨rfl, rfl⟩ | ⟨_, h1⟩
      · exact (show ObjRep (Cx.of P) μ w id (.map es1 lk1 true) from (hs.rep.obj μ hμ id (.map es1 lk1 wr1) hg1 : _))
      · exact hs.rep.obj μ hμ id o h1
    · rcases hold i oi hi with ⟨hir, _⟩ | ⟨hir, h1⟩ <;> rcases hold j oj hj with ⟨hjr, _⟩ | ⟨hjr, h2⟩
      · rw [hir, hjr]
      · subst hir
        rw [hl1] at hmi; injection hmi with hmi; subst hmi
        exact absurd hb.symm (alone j oj lj hjr h2 hmj)
      · subst hjr
        rw [hl1] at hmj; injection hmj with hmj; subst hmj
        exact absurd hb (alone i oi li hir h1 hmi)
      · exact hs.rep.inj i j oi oj li lj h1 h2 hw hmi hmj hb
    · rcases hold id o hg with ⟨rfl, rfl⟩ | ⟨_, h1⟩
      · rw [hl1] at hm; injection hm with hm; subst hm
        exact .inr ⟨_, _, lr, hgr, fun _ => rfl, hlr, rfl⟩
      · exact hs.prov id o l h1 hm
/-- all but the iterator; the map is not to be written -/
theorem start_step {m : Nat → Option Loc} {st : St} {w0 : World} (hR : Rep (Cx.of P) m st.G w0) {ia r : Nat} {lk lk2 wr : Bool} {es : List MapEntry} (hit : st.hp.get ia = some (.iterM (some r) lk)) (hgr : st.hp.get r = some (.map es lk2 wr)) {lit lr : Loc} (hl : m ia = some lit) (hlr : m r = some lr) :
    Step (Cx.of P) m st.G w0 st.ct m (⟨(st.hp.del ia).set r (.map es lk2 false), st.ct⟩ : St).G w0 st.ct ∧
    (∀ id o l, (⟨(st.hp.del ia).set r (.map es lk2 false), st.ct⟩ : St).G id o → m id = some l → l.blk ≠ lit.blk) ∧
    (∀ id o l, (⟨(st.hp.del ia).set r (.map es lk2 false), st.ct⟩ : St).G id o → o.isWr = true → m id = some l → l.blk ≠ lr.blk) := by
  have hne : r ≠ ia := by rintro rfl; rw [hit] at hgr; cases hgr
  have old : ∀ id o, (⟨(st.hp.del ia).set r (.map es lk2 false), st.ct⟩ : St).G id o → (id = r ∧ o = .map es lk2 false) ∨ (id ≠ r ∧ id ≠ ia ∧ st.G id o) := by
    intro id o hg
    simp only [St.G, T.get_set, T.get_del] at hg
    by_cases h1 : id = r
    · rw [if_pos h1] at hg; exact .inl ⟨h1, (Option.some.inj hg).symm⟩
    · rw [if_neg h1] at hg
      by_cases h2 : id = ia
      · rw [if_pos h2] at hg; cases hg
      · rw [if_neg h2] at hg; exact .inr ⟨h1, h2, hg⟩
  have any : ∀ id o, (⟨(st.hp.del ia).set r (.map es lk2 false), st.ct⟩ : St).G id o → ∃ o0, st.G id o0 ∧ (o.isWr = true → o0.isWr = true) ∧ id ≠ ia := by
    intro id o hg
    rcases old id o hg with ⟨rfl, rfl⟩ | ⟨_, h2, h3⟩
    · exact ⟨_, hgr, (fun h => by cases h), hne⟩
    · exact ⟨o, h3, fun h => h, h2⟩
  refine ⟨⟨fun _ _ h => h, fun _ _ h => .inl h, ⟨fun id o hg => ?_, fun μ hμ id o hg => ?_, fun i j oi oj li lj hi hj hw => ?_, hR.glob⟩, ⟨Nat.le_refl _, rfl, rfl, rfl, fun _ _ _ => rfl⟩, fun id o l hg hm => ?_⟩, fun id o l hg hm e => ?_, fun id o l hg hw hm e => ?_⟩
  · obtain ⟨o0, h1, _⟩ := any id o hg
    exact hR.dom id o0 h1
  · rcases old id o hg with ⟨rfl, rfl⟩ | ⟨_, _, h3⟩
    · exact (show ObjRep (Cx.of P) μ w0 id (.map es lk2 false) from (hR.obj μ hμ id (.map es lk2 wr) hgr : _))
    · exact hR.obj μ hμ id o h3
  · obtain ⟨o0, h1, h2, _⟩ := any i oi hi
    obtain ⟨o1, h3, _, _⟩ := any j oj hj
    exact hR.inj i j o0 o1 li lj h1 h3 (h2 hw)
  · obtain ⟨o0, h1, h2, _⟩ := any id o hg
    exact .inr ⟨id, o0, l, h1, h2, hm, rfl⟩
  · obtain ⟨o0, h1, _, h3⟩ := any id o hg
    exact h3 (hR.inj ia id _ o0 lit l hit h1 rfl hl hm e.symm).symm
  · rcases old id o hg with ⟨rfl, rfl⟩ | ⟨h1, _, h3⟩
    · cases hw
    · exact h1 (hR.inj id r o _ l lr h3 hgr hw hm hlr e)

theorem forkM_round (hov : OvOk P ov) (hovm : OvMono ov) (hih : RunOk P ih) (hihm : RunMono ih) {c : Code} {L : MapLoop} {i1 i2 : Nat} {r1 r2 : Array Oper}
    (hc : c = .seq (.region i1 r1 false) (.seq (.cond (.tmp L.d2) .skip (.exit L.xid)) (.block L.bid (.seq (.region i2 r2 false) L.rest)))) (hr1 : r1.toList = [L.oN, L.oX]) (hr2 : r2.toList = L.oE :: L.ops) (hN : L.oN.op = .next (.tmp L.it) false) (hd1 : L.oN.dst = some L.d1) (hg1 : L.oN.guard = none)
    (hX : L.oX.op = .extract (.tmp L.d1) 0) (hd2 : L.oX.dst = some L.d2) (hg2 : L.oX.guard = none) (hE : L.oE.op = .entry (.tmp L.it)) (hd3 : L.oE.dst = some L.d3) (hg3 : L.oE.guard = none) (hit1 : L.it ≠ L.d1) (hit2 : L.it ≠ L.d2)
    {ro : Option Nat} (hro' : ro = none ∨ noRF L.rest = true) {m : Nat → Option Loc} {st : St} {w0 : World} {a0 : Act} {B N nt : Nat} {ia r : Nat} {lit lr : Loc} (hl : m ia = some lit) (hbase : lit.base = 0) (hlitlt : lit.blk < w0.heap.size) (hlrlt : lr.blk < w0.heap.size)
    {lk lk2 wr : Bool} {es : List MapEntry} (hit : st.hp.get ia = some (.iterM (some r) lk)) (hgr : st.hp.get r = some (.map es lk2 wr)) (hlr : m r = some lr) (hne : lr.blk ≠ lit.blk) (hR : Rep (Cx.of P) m st.G w0)
    {es0 ces : List MapEntry} {c0 : Nat} (hborn' : ∀ e ∈ ces, e.born < c0) (hnd : (es0.map (·.born)).Nodup) (hnd' : (ces.map (·.born)).Nodup) (hces : es0.map (concE (some0 m)) = ces)
    (told : ∀ e ∈ ces, ∃ e1 ∈ es0, e1.born = e.born ∧ VRep m e1.key e.key ∧ VRep m e1.val e.val) (hfinct : ∀ tm s o, finF nt L (thaw st r wr) tm s = some o → s.ct ≤ o.2.2.ct) (hB : B ≤ w0.heap.size) (hn : nt ≤ a0.tmps.size)
    {Lo : List Out} (hNb : ∀ r ∈ Lo, r.2.2.ct ≤ N) (hf : Fresh m st.ct N) {j n : Nat} {R : List MapEntry} {seen : Array Nat} {last : Nat} {a : Act} {w : World} {m1 : Nat → Option Loc} {tm1 : T Value} {st1 : St} {Lx : List Out} (hj : R.length ≤ j)
    (hs : Step (Cx.of P) m st.G w0 st.ct m1 st1.G w st1.ct) (hct : st.ct ≤ st1.ct) (hI : ∀ id o l, st1.G id o → m1 id = some l → l.blk ≠ lit.blk) (hM : ∀ id o l, st1.G id o → o.isWr = true → m1 id = some l → l.blk ≠ lr.blk)
    (hmw : w.heap[lr.blk]? = some (.map ⟨ces⟩ c0)) (hbw : w.heap[lit.blk]? = some (.mapIter (some lr.blk) c0 seen last)) (hlast : seen.isEmpty = true ∨ last = c0) (htm : TmRep m1 tm1 a.tmps) (hmk : Marks B w a.defers) (hsz : a.tmps.size = a0.tmps.size)
    (hpm : (R.map kvOf).Perm ((es0.filter fun x => !seen.contains x.born).map kvOf))
    (ho : outsF (fun tm st e => roundF (Cx.of P) ov ih nt L tm st e.key e.val) (finF nt L (thaw st r wr)) (thaw st r wr) L.it ia L.bid n R tm1 st1 = some Lx) (hsub : ∀ q ∈ Lx, q ∈ Lo)
    (hrec : ∀ (n' : Nat) (R' : List MapEntry) (seen' : Array Nat) (a' : Act) (w' : World) (m' : Nat → Option Loc) (tm' : T Value) (st' : St) (Lx' : List Out), R'.length < j →
      Step (Cx.of P) m st.G w0 st.ct m' st'.G w' st'.ct → st.ct ≤ st'.ct → (∀ id o l, st'.G id o → m' id = some l → l.blk ≠ lit.blk) → (∀ id o l, st'.G id o → o.isWr = true → m' id = some l → l.blk ≠ lr.blk) →
      w'.heap[lr.blk]? = some (.map ⟨ces⟩ c0) → w'.heap[lit.blk]? = some (.mapIter (some lr.blk) c0 seen' c0) → (seen'.isEmpty = true ∨ c0 = c0) → TmRep m' tm' a'.tmps → Marks B w' a'.defers → a'.tmps.size = a0.tmps.size →
      (R'.map kvOf).Perm ((es0.filter fun x => !seen'.contains x.born).map kvOf) →
      outsF (fun tm st e => roundF (Cx.of P) ov ih nt L tm st e.key e.val) (finF nt L (thaw st r wr)) (thaw st r wr) L.it ia L.bid n' R' tm' st' = some Lx' → (∀ q ∈ Lx', q ∈ Lo) →
      Code.roundsIn (FR ro) 0 P c (PostL (Cx.of P) m st w0 a0.tmps.size B Lo) j a' w') :
    Code.roundsIn (FR ro) 0 P c (PostL (Cx.of P) m st w0 a0.tmps.size B Lo) (j + 1) a w := by
  have hsize : nt ≤ a.tmps.size := by omega
  cases n with
  | zero => simp [outsF] at ho
  | succ n =>
  simp only [outsF] at ho
  split at ho <;> (try (cases ho; done))
  rename_i hsame
  -- the iterator
  obtain ⟨cp, hcp⟩ : ∃ cp, a.tmps[L.it]? = some cp ∧ cp = .pointer (some ⟨lit.blk, 0, none⟩) := by
    unfold sameIt at hsame
    split at hsame <;> (try (cases hsame; done))
    rename_i a1 hptr
    simp only [Bool.and_eq_true, Option.isNone_iff_eq_none] at hsame
    obtain ⟨h1, h2, h3⟩ := hsame
    have h2 := Nat.eq_of_beq_eq_true h2
    have h3 := Nat.eq_of_beq_eq_true h3
    obtain ⟨cv, g1, g2⟩ := htm _ _ hptr
    have := g2 _ (some0_ext m1)
    have hl1 : some0 m1 a1.block = lit := by rw [h3]; exact some0_ext m1 _ _ (hs.mono _ _ hl)
    simp only [conc_ptr, concAddr, hl1, hbase, h2] at this
    exact ⟨cv, g1, this.symm⟩
  obtain ⟨hcp, rfl⟩ := hcp
  rcases next_map (P := P) (sp := none) (t := L.oN.type) hbw hmw hlast (by simpa using hborn') with ⟨w1, hrun, hal, hall⟩ | ⟨e, w1, he, hse, hrun, htu⟩
  · -- all are told
    have hnil : (es0.filter fun x => !seen.contains x.born) = [] := by
      rw [List.filter_eq_nil_iff]
      intro x hx
      have h1 : concE (some0 m) x ∈ ces := by rw [← hces]; exact List.mem_map.2 ⟨x, hx, rfl⟩
      have h2 := hall _ (by simpa using h1) (hborn' _ h1)
      have h3 : seen.contains x.born = true := h2
      rw [h3]; simp
    rw [hnil] at hpm
    have hRn : R = [] := by simpa using hpm.length_eq
    subst hRn
    simp only at ho
    split at ho <;> (try (cases ho; done))
    rename_i o hfo
    simp only [Option.some.injEq] at ho; subst ho
    unfold finF at hfo
    split at hfo <;> (try (cases hfo; done))
    rename_i t1 hp1
    split at hfo <;> (try (cases hfo; done))
    rename_i t2 hp2
    split at hfo <;> (try (cases hfo; done))
    rename_i s2 hth
    simp only [Option.some.injEq] at hfo; subst hfo
    have hd1lt : L.d1 < nt := ((putDst_get hp1 L.d1).2 rfl).2
    have hd2lt : L.d2 < nt := ((putDst_get hp2 L.d2).2 rfl).2
    rw [roundsIn_succ, hc]
    refine wpIn_seq ?_
    refine head_wp hr1 hN hd1 hg1 hX hd2 hg2 hcp (by omega) rfl (v0 := .bool false) rfl hrun ?_
    refine wpIn_seq ?_
    refine wpIn_cond_false ?_ ?_
    · have : ((a.put (some L.d1) (.tuple #[.bool false])).put (some L.d2) (.bool false)).tmps[L.d2]? = some (.bool false) := by
        show ((a.tmps.setIfInBounds L.d1 _).setIfInBounds L.d2 _)[L.d2]? = _
        rw [Array.getElem?_setIfInBounds_self_of_lt (by simp; omega)]
      exact eval_tmp this
    · refine wpIn_exit ?_
      obtain ⟨p1, q1, z1⟩ := putDst_rep hp1 htm (cv := .tuple #[.bool false]) (fun μ _ => by simp [concA_eq]) hsize
      obtain ⟨p2, q2, z2⟩ := putDst_rep hp2 p1 (cv := .bool false) (fun μ _ => by simp) (by omega)
      have hs1 := hs.alike hal
      have hs2 := thaw_step hR hgr hlr hlrlt hs1 (by rw [hal.1]; exact hmw) hth
      exact ⟨(.exit L.xid, t2, s2), hsub _ (by simp), rfl, m1, hs2, p2, by rw [q2, q1]; exact marks_alike hal hmk, by rw [z2, z1]; exact hsz⟩
  · -- an entry
    have hec : e ∈ ces := by simpa using he
    obtain ⟨e1, he1, hb1e, hvk, hvv⟩ := told e hec
    have hse1 : seen.contains e1.born = false := by rw [hb1e]; exact hse
    have hkin : kvOf e1 ∈ R.map kvOf := hpm.mem_iff.2 (List.mem_map.2 ⟨e1, List.mem_filter.2 ⟨he1, by show (!seen.contains e1.born) = true; rw [hse1]; rfl⟩, rfl⟩)
    obtain ⟨ea, hea, hkv⟩ := List.mem_map.1 hkin
    have hkv2 := hkv
    simp only [kvOf, Prod.mk.injEq] at hkv2
    cases hRc : R with
    | nil => rw [hRc] at hea; cases hea
    | cons x0 R0 =>
    rw [hRc] at ho
    simp only at ho
    rw [← hRc] at ho
    obtain ⟨R', hpk, hRp⟩ := picks_mem hea
    obtain ⟨Lr, hLr, hLrs⟩ := bindL_mem ho _ hpk
    simp only at hLr
    split at hLr <;> (try (cases hLr; done))
    rename_i ex tm2 st2 hround
    obtain ⟨t3, t4, s4, h3, h4, h5⟩ := roundF_some hround
    have hct4 := opsA_ct hovm hihm h4
    have hct5 := hihm _ _ _ _ _ _ _ h5
    have hs2N : st2.ct ≤ N := by
      split at hLr
      · obtain ⟨g1, g2⟩ := outsF_ct hovm hihm hfinct (fun s s' h => thaw_ct h) _ _ _ _ _ hLr
        cases Lr with
        | nil => exact absurd rfl g1
        | cons q Lr =>
          have := g2 q (by simp)
          have := hNb q (hsub q (hLrs q (by simp)))
          omega
      · split at hLr <;> (try (cases hLr; done))
        rename_i s5 hs5
        simp only [Option.some.injEq] at hLr; subst hLr
        have := hNb (ex, tm2, s5) (hsub _ (hLrs _ (by simp)))
        have := thaw_ct hs5
        simp only at *; omega
    obtain ⟨t1, t2, p1, p2, _⟩ := headRound_some h3
    have hd1lt : L.d1 < nt := ((putDst_get p1 L.d1).2 rfl).2
    have hd2lt : L.d2 < nt := ((putDst_get p2 L.d2).2 rfl).2
    have hS1 := hs.turn hit rfl hl hI htu
    have hlitw : lit.blk < w.heap.size := by have := hs.fr.size; omega
    have hb1 : w1.heap[lit.blk]? = some (.mapIter (some lr.blk) c0 (seen.push e.born) c0) := by
      rw [htu.1]; simp [hlitw]
    have hm1 : w1.heap[lr.blk]? = some (.map ⟨ces⟩ c0) := by
      rw [htu.1, Array.getElem?_setIfInBounds_ne (Ne.symm hne)]; exact hmw
    have hmk1 : Marks B w1 a.defers := by
      obtain ⟨rs, g1, g2, g3⟩ := hmk
      refine ⟨rs, g1, g2, fun q hq => ⟨(g3 q hq).1, ?_⟩⟩
      have hne2 : lit.blk ≠ q := by rintro rfl; have := (g3 _ hq).2; rw [hbw] at this; cases this
      rw [htu.1, Array.getElem?_setIfInBounds_ne hne2]
      exact (g3 q hq).2
    have hek : VRep m1 ea.key e.key := by rw [hkv2.1]; exact hvk.mono hs.mono
    have hev : VRep m1 ea.val e.val := by rw [hkv2.2]; exact hvv.mono hs.mono
    have hw1s : w1.heap.size = w.heap.size := by rw [htu.1]; simp
    rw [roundsIn_succ, hc]
    refine wpIn_seq ?_
    refine head_wp hr1 hN hd1 hg1 hX hd2 hg2 hcp (by omega) rfl (v0 := .bool true) rfl hrun ?_
    refine wpIn_seq ?_
    refine wpIn_cond_true ?_ (wpIn_skip ?_)
    · have : ((a.put (some L.d1) (.tuple #[.bool true, e.key, e.val])).put (some L.d2) (.bool true)).tmps[L.d2]? = some (.bool true) := by
        show ((a.tmps.setIfInBounds L.d1 _).setIfInBounds L.d2 _)[L.d2]? = _
        rw [Array.getElem?_setIfInBounds_self_of_lt (by simp; omega)]
      exact eval_tmp this
    refine entry_wp hov hovm hih hihm hr2 hE hd3 hg3 hsize hS1.rep htm h3 h4 (hf.after' hS1 hct (by omega)) hek hev hcp hit1 hit2 (entry_map hb1 hm1 he hnd') ?_
    intro a' w' m4 hs4 ht4 hd4 hz4
    have hmk4 : Marks B w' a'.defers := by
      rw [hd4]
      exact hmk1.step hS1.rep hs4
    refine wpIn_mono (hih _ _ _ _ _ _ _ h5 ro hro' m4 w' a' B hs4.rep ht4 hmk4 (by have := hs4.fr.size; have := hs.fr.size; omega) (by omega) ((hf.after' hS1 hct (Nat.le_refl N)).after' hs4 hct4 (by omega))) ?_
    rintro x a'' w'' ⟨rfl, m5, hs5, ht5, hd5, hz5⟩
    have hS2 := hs4.trans hs5 hct4 hct5
    have hSa := hS1.trans hS2 hct (by omega)
    have hblk : ∀ b, b < w1.heap.size → (∀ id o l, st1.G id o → o.isWr = true → m1 id = some l → l.blk ≠ b) → w''.heap[b]? = w1.heap[b]? := fun b hb hno => hS2.fr.block b hb fun id o l hg hw hm => hno id o l hg hw hm
    have hmw' : w''.heap[lr.blk]? = some (.map ⟨ces⟩ c0) := by
      rw [hblk lr.blk (by have := hs.fr.size; omega) hM]; exact hm1
    cases hgo : goesOn L.bid ex with
    | false =>
      rw [hgo] at hLr
      simp only at hLr
      split at hLr <;> (try (cases hLr; done))
      rename_i s5 hs5
      simp only [Option.some.injEq] at hLr; subst hLr
      have hs6 := thaw_step hR hgr hlr hlrlt hSa hmw' hs5
      have hp : PostL (Cx.of P) m st w0 a0.tmps.size B Lo (exitOf ex) a'' w'' := ⟨(ex, tm2, s5), hsub _ (hLrs _ (by simp)), rfl, m5, hs6, ht5, hd5, by rw [hz5, hz4]; exact hsz⟩
      cases ex with
      | normal => cases hgo
      | exit b =>
        have hb : b ≠ L.bid := fun e => by subst e; simp [goesOn] at hgo
        simp only [exitOf, Exit.inBlock]
        rw [if_neg hb]; exact hp
      | ret => exact hp
      | goto l => exact hp
    | true =>
      rw [hgo] at hLr
      simp only at hLr
      have hlen := (picks_of hpk).2
      simp only at hlen
      have hgoal := hrec n R' (seen.push e.born) a'' w'' m5 tm2 st2 Lr (by omega) hSa (by omega) (fun id o l hg hm => ?_) (fun id o l hg hw hm => ?_) hmw' ?_ (.inr rfl) ht5 hd5 (by rw [hz5, hz4]; exact hsz) ?_ hLr (fun q hq => hsub q (hLrs q hq))
      · rw [hc] at hgoal
        cases ex with
        | normal => exact hgoal
        | exit b =>
          have hb : b = L.bid := Nat.eq_of_beq_eq_true hgo
          simp only [exitOf, Exit.inBlock]
          rw [if_pos hb]; exact hgoal
        | ret => cases hgo
        | goto l => cases hgo
      · rcases hS2.prov id o l hg hm with h1 | ⟨id0, o0, l0, g1, _, g3, g4⟩
        · have := hs.fr.size; omega
        · rw [← g4]; exact hI id0 o0 l0 g1 g3
      · rcases hS2.prov id o l hg hm with h1 | ⟨id0, o0, l0, g1, g2, g3, g4⟩
        · have := hs.fr.size; omega
        · rw [← g4]; exact hM id0 o0 l0 g1 (g2 hw) g3
      · rw [hblk lit.blk (by omega) (fun id o l hg _ hm => hI id o l hg hm)]; exact hb1
      · have h1 := (filter_perm (seen := seen) es0 e1 he1 hnd hse1).map kvOf
        rw [hb1e] at h1
        have h2 : ((ea :: R').map kvOf).Perm (kvOf e1 :: (es0.filter fun x => !(seen.push e.born).contains x.born).map kvOf) := (hRp.map kvOf).symm.trans (hpm.trans h1)
        rw [List.map_cons, hkv] at h2
        exact List.Perm.cons_inv h2

theorem forkM_sound (hov : OvOk P ov) (hovm : OvMono ov) (hih : RunOk P ih) (hihm : RunMono ih) {c : Code} {L : MapLoop} (hL : mapLoop c = some L) {nt : Nat} {tm : T Value} {st : St} {Lo : List Out}
    (h : forkM (Cx.of P) ov ih L nt tm st = some Lo) :
    ∃ k, ∀ ro, (ro = none ∨ noRF c = true) → ∀ m w a B N, Rep (Cx.of P) m st.G w → TmRep m tm a.tmps → Marks B w a.defers → B ≤ w.heap.size → nt ≤ a.tmps.size → (∀ r ∈ Lo, r.2.2.ct ≤ N) → Fresh m st.ct N →
      Code.roundsIn (FR ro) 0 P c (PostL (Cx.of P) m st w a.tmps.size B Lo) k a w := by
  obtain ⟨i1, i2, r1, r2, hc, hr1, hr2, hN, hd1, hg1, hX, hd2, hg2, hE, hd3, hg3⟩ := mapLoop_spec hL
  unfold forkM at h
  split at h <;> (try (cases h; done))
  rename_i ad hptr
  split at h <;> (try (cases h; done))
  rename_i r lk hit
  split at h <;> (try (cases h; done))
  rename_i es lk2 wr hgr
  split at h <;> (try (cases h; done))
  rename_i hcond
  simp only [Bool.and_eq_true, Bool.not_eq_true'] at hcond
  obtain ⟨⟨hdist, hlk, hlk2⟩, hb1, hb2⟩ := hcond
  have hit1 : L.it ≠ L.d1 := fun e => by rw [e] at hb1; simp at hb1
  have hit2 : L.it ≠ L.d2 := fun e => by rw [e] at hb2; simp at hb2
  refine ⟨es.length + 1, fun ro hro m w0 a0 B N hR ht hd hB hn hNb hf => ?_⟩
  have hro' : ro = none ∨ noRF L.rest = true := hro.imp id fun h => by
    rw [hc] at h
    simp only [noRF, Bool.and_eq_true] at h
    exact h.2.2.2
  obtain ⟨lit, hl, hlitlt⟩ := hR.dom _ _ hit
  obtain ⟨lr, hlr, hlrlt⟩ := hR.dom _ _ hgr
  have hμ0 := some0_ext m
  have hlocr : ∀ μ, Ext m μ → μ r = lr := fun μ hμ => hμ _ _ hlr
  have hob := hR.obj _ hμ0 _ _ hit
  have hbase : lit.base = 0 := by have := hob.1; rw [hμ0 _ _ hl] at this; exact this
  obtain ⟨c0, hb, hlkc⟩ := hob.2
  rw [hμ0 _ _ hl, hlocr _ hμ0] at hb
  obtain ⟨es0, clock, hmcl, hmb, hperm, hnd, hborn, hlk2'⟩ := map_obj (P := P) hR hgr hμ0
  rw [hlocr _ hμ0] at hmb
  have hkeys := (hR.obj _ hμ0 _ _ hgr).2
  have hcc : c0 = clock := by rw [hlkc hlk, hlk2' hlk2]
  subst hcc
  have hne : lr.blk ≠ lit.blk := by
    intro e
    rw [e, hb] at hmb; cases hmb
  generalize hces : es0.map (concE (some0 m)) = ces at *
  have hnd' : (ces.map (·.born)).Nodup := by rw [← hces, concE_born]; exact hnd
  have hborn' : ∀ e ∈ ces, e.born < c0 := by
    intro e he
    rw [← hces] at he
    obtain ⟨e0, h0, rfl⟩ := List.mem_map.1 he
    exact hborn e0 h0
  have told : ∀ e ∈ ces, ∃ e1 ∈ es0, e1.born = e.born ∧ VRep m e1.key e.key ∧ VRep m e1.val e.val := by
    intro e he
    obtain ⟨j, hj⟩ := List.getElem?_of_mem he
    have at_ : ∀ μ, Ext m μ → ∃ ea ∈ es, ea.key = e.key ∧ conc μ ea.val = e.val := by
      intro μ hμ
      obtain ⟨es1, clock1, _, hmb1, hperm1, _⟩ := map_obj (P := P) hR hgr hμ
      rw [hlocr _ hμ, hmb] at hmb1
      injection hmb1 with hmb1
      injection hmb1 with hmb1 _
      have hce : ces = es1.map (concE μ) := by simpa using hmb1
      rw [hce, List.getElem?_map, Option.map_eq_some_iff] at hj
      obtain ⟨e1, h1, rfl⟩ := hj
      have : kvOf e1 ∈ es.map kvOf := hperm1.mem_iff.1 (List.mem_map.2 ⟨e1, List.mem_of_getElem? h1, rfl⟩)
      obtain ⟨ea, hea, hkv⟩ := List.mem_map.1 this
      simp only [kvOf, Prod.mk.injEq] at hkv
      exact ⟨ea, hea, hkv.1, by simp [concE, hkv.2]⟩
    rw [← hces] at he
    obtain ⟨e1, h1, h1e⟩ := List.mem_map.1 he
    have : kvOf e1 ∈ es.map kvOf := hperm.mem_iff.1 (List.mem_map.2 ⟨e1, h1, rfl⟩)
    obtain ⟨ea, hea, hkv⟩ := List.mem_map.1 this
    have hkv' := hkv
    simp only [kvOf, Prod.mk.injEq] at hkv
    have hk : ea.key = e.key := by rw [hkv.1, ← h1e]; rfl
    refine ⟨e1, h1, by rw [← h1e]; rfl, fun μ _ => ?_, fun μ hμ => ?_⟩
    · rw [← hkv.1, conc_flat μ _ (hkeys ea hea)]; exact hk
    · obtain ⟨ea2, hea2, hk2, hv2⟩ := at_ μ hμ
      have := distinct_spec _ hdist ea hea ea2 hea2 (by rw [hk, hk2])
      subst this
      rw [← hkv.2]
      exact hv2
  obtain ⟨hS0, hI0, hM0⟩ := start_step hR hit hgr hl hlr
  have hfinct : ∀ tm s o, finF nt L (thaw st r wr) tm s = some o → s.ct ≤ o.2.2.ct := by
    intro tm s o ho
    unfold finF at ho
    split at ho <;> (try (cases ho; done))
    split at ho <;> (try (cases ho; done))
    split at ho <;> (try (cases ho; done))
    rename_i s2 hs2
    simp only [Option.some.injEq] at ho; subst ho
    exact Nat.le_of_eq (thaw_ct hs2).symm
  have main : ∀ (j n : Nat) (R : List MapEntry) (seen : Array Nat) (last : Nat) (a : Act) (w : World) (m1 : Nat → Option Loc) (tm1 : T Value) (st1 : St) (Lx : List Out), R.length ≤ j →
      Step (Cx.of P) m st.G w0 st.ct m1 st1.G w st1.ct → st.ct ≤ st1.ct →
      (∀ id o l, st1.G id o → m1 id = some l → l.blk ≠ lit.blk) → (∀ id o l, st1.G id o → o.isWr = true → m1 id = some l → l.blk ≠ lr.blk) →
      w.heap[lr.blk]? = some (.map ⟨ces⟩ c0) → w.heap[lit.blk]? = some (.mapIter (some lr.blk) c0 seen last) → (seen.isEmpty = true ∨ last = c0) →
      TmRep m1 tm1 a.tmps → Marks B w a.defers → a.tmps.size = a0.tmps.size →
      (R.map kvOf).Perm ((es0.filter fun x => !seen.contains x.born).map kvOf) →
      outsF (fun tm st e => roundF (Cx.of P) ov ih nt L tm st e.key e.val) (finF nt L (thaw st r wr)) (thaw st r wr) L.it ad.block L.bid n R tm1 st1 = some Lx → (∀ q ∈ Lx, q ∈ Lo) →
      Code.roundsIn (FR ro) 0 P c (PostL (Cx.of P) m st w0 a0.tmps.size B Lo) (j + 1) a w := by
    intro j
    induction j with
    | zero =>
      intro n R seen last a w m1 tm1 st1 Lx hj hs hct hI hM hmw hbw hlast htm hmk hsz hpm ho hsub
      exact forkM_round hov hovm hih hihm hc hr1 hr2 hN hd1 hg1 hX hd2 hg2 hE hd3 hg3 hit1 hit2 hro' hl hbase hlitlt hlrlt hit hgr hlr hne hR hborn' hnd hnd' hces told hfinct hB hn hNb hf hj hs hct hI hM hmw hbw hlast htm hmk hsz hpm ho hsub
        (fun _ R' _ _ _ _ _ _ _ _ hlen => by omega)
    | succ j ihj =>
      intro n R seen last a w m1 tm1 st1 Lx hj hs hct hI hM hmw hbw hlast htm hmk hsz hpm ho hsub
      exact forkM_round hov hovm hih hihm hc hr1 hr2 hN hd1 hg1 hX hd2 hg2 hE hd3 hg3 hit1 hit2 hro' hl hbase hlitlt hlrlt hit hgr hlr hne hR hborn' hnd hnd' hces told hfinct hB hn hNb hf hj hs hct hI hM hmw hbw hlast htm hmk hsz hpm ho hsub
        (fun n' R' seen' a' w' m' tm' st' Lx' hlen => ihj n' R' seen' c0 a' w' m' tm' st' Lx' (by omega))
  refine main es.length _ es #[] c0 a0 w0 m tm _ Lo (Nat.le_refl _) hS0 (Nat.le_refl _) hI0 hM0 hmb hb (.inl rfl) ht hd rfl ?_ h (fun _ hq => hq)
  have : (es0.filter fun x => !(#[] : Array Nat).contains x.born) = es0 := by
    rw [List.filter_eq_self]
    intro x _
    simp
  rw [this]; exact hperm.symm
end
end Go.Ai

/-! Code with all that may come out of it. -/
namespace Go.Ai
open Go
noncomputable section
def resV (cx : Cx) (fn : Func) (o : Out) : Option (List (Value × St)) := match o.1 with
  | .exit _ | .goto _ => none
  | _ => match resultsOf cx o.2.1 o.2.2 fn.results.toList with
    | some [v] => some [(v, o.2.2)]
    | some vs => some [(.tuple ⟨vs⟩, o.2.2)]
    | none => none
def callL (cx : Cx) (ihL : CodeRunL) (f : Nat) (args : List Value) (st : St) : Option (List (Value × St)) :=
  match cx.fn.get f with
  | some fn => match fn.body with
    | some c => match Nat.ble args.length fn.ntmps with
      | true => match ihL c fn.ntmps (setParams args 0 .nil) st with
        | some L => match decide (fn.name = "runtime.NumGoroutine") with
          | false => bindL (resV cx fn) L
          | true => none
        | none => none
      | false => none
    | none => none
  | none => none
def opCallL (cx : Cx) (ihL : CodeRunL) (tm : T Value) (st : St) : Op → Option (List (Value × St))
  | .call c => match c.callee with
    | .value f => match ev cx tm f, evs cx tm c.args.toList with
      | some (.func fn first captured), some as => match fn with
        | .func k => callL cx ihL k (first.toList ++ as ++ captured.toList) st
        | _ => none
      | _, _ => none
    | _ => none
  | _ => none
/-- an iterator over a map: how far it goes is told by an id of its own -/
def rangeOpL (cx : Cx) (tm : T Value) (st : St) : Op → Option (Value × St)
  | .range t x => match ev cx tm x, cx.desc t with
    | some (.map (some r)), some (.map _ _) => match st.hp.get r with
      | some (.map es false _) => some (.pointer (some ⟨st.ct + 1, 0, none⟩), ⟨((st.hp.set r (.map es false false)).set st.ct (.map es true false)).set (st.ct + 1) (.iterM (some st.ct) true), st.ct + 2⟩)
      | _ => none
    | _, _ => none
  | _ => none
def hasRange : List Oper → Bool
  | [] => false
  | o :: l => (match o.op with | .range _ _ => true | _ => false) || hasRange l
def opsL (cx : Cx) (ov : Ov) (ih : CodeRun) (ihL : CodeRunL) (nt : Nat) (all : List Oper) : List Oper → T Value → St → Option (List (T Value × St))
  | [], tm, st => some [(tm, st)]
  | o :: l, tm, st => match wantedA all tm o with
    | some true => match (match rangeOpL cx tm st o.op with | some r => some r | none => opA cx ov ih tm st o) with
      | some (v, st') => match putDst nt tm o.dst v with
        | some tm' => opsL cx ov ih ihL nt all l tm' st'
        | none => none
      | none => match opCallL cx ihL tm st o.op with
        | some L => bindL (fun r => match putDst nt tm o.dst r.1 with
          | some tm' => opsL cx ov ih ihL nt all l tm' r.2
          | none => none) L
        | none => none
    | some false => match putDst nt tm o.dst undef with
      | some tm' => opsL cx ov ih ihL nt all l tm' st
      | none => none
    | none => none
def rangeEnd (tm : T Value) (id : Nat) (r : Value × St) : Option (List Out) := match r.2.hp.get id with
  | some (.loopO ls pend _ _ _ _ _) => match ls with
    | .busy => none
    | _ => match pend with
      | none => some [(.normal, tm, { r.2 with hp := r.2.hp.del id })]
      | some e => some [(e, tm, { r.2 with hp := r.2.hp.del id })]
  | _ => none
def rangeL (cx : Cx) (ihL : CodeRunL) (f : Operand) (ps : List Tmp) (assign body : Code) (nt : Nat) (tm : T Value) (st : St) : Option (List Out) :=
  match ev cx tm f with
  | some (.func fn first captured) => match fn with
    | .func k => match entersA cx k with
      | true => match callL cx ihL k (first.toList ++ .func (.yield st.ct) #[] #[] :: captured.toList) ⟨st.hp.set st.ct (.loopO .ready none tm nt ps assign body), st.ct + 1⟩ with
        | some L => bindL (rangeEnd tm st.ct) L
        | none => none
      | false => none
    | _ => none
  | _ => none
def blockO (id : Nat) (o : Out) : Out := match o.1 with
  | .exit id' => match Nat.beq id' id with
    | true => (.normal, o.2)
    | false => o
  | _ => o
def ranges : Code → Bool
  | .region _ ops false => hasRange ops.toList
  | _ => false
def stepL (cx : Cx) (ov : Ov) (ih : CodeRun) (ihL : CodeRunL) : CodeRunL := fun c nt tm st =>
  match (match ranges c with | true => none | false => ih c nt tm st) with
  | some r => some [r]
  | none => match c with
    | .seq a b => match ihL a nt tm st with
      | some L => bindL (fun o => match o.1 with
        | .normal => ihL b nt o.2.1 o.2.2
        | _ => some [o]) L
      | none => none
    | .cond x a b => match ev cx tm x with
      | some (.bool true) => ihL a nt tm st
      | some (.bool false) => ihL b nt tm st
      | _ => none
    | .block id a => match ihL a nt tm st with
      | some L => some (L.map (blockO id))
      | none => none
    | .loop a => match mapLoop a with
      | some Lp => forkM cx ov ih Lp nt tm st
      | none => none
    | .region _ ops draw => match draw with
      | false => match opsL cx ov ih ihL nt ops.toList ops.toList tm st with
        | some L => some (L.map fun p => (.normal, p.1, p.2))
        | none => none
      | true => none
    | .rangeFunc f ps assign body => rangeL cx ihL f ps.toList assign body nt tm st
    | _ => none
def runL (cx : Cx) (ov : Ov) : Nat → CodeRunL
  | 0 => fun _ _ _ _ => none
  | n + 1 => stepL cx ov (run cx ov n) (runL cx ov n)
end

def CtL (ihL : CodeRunL) : Prop := ∀ c nt tm st L, ihL c nt tm st = some L → L ≠ [] ∧ ∀ r ∈ L, st.ct ≤ r.2.2.ct
def RunOkL (P : Program) (ihL : CodeRunL) : Prop := ∀ c nt tm st L, ihL c nt tm st = some L →
  ∀ ro, (ro = none ∨ noRF c = true) → ∀ m w a B N, Rep (Cx.of P) m st.G w → TmRep m tm a.tmps → Marks B w a.defers → B ≤ w.heap.size → nt ≤ a.tmps.size → (∀ r ∈ L, r.2.2.ct ≤ N) → Fresh m st.ct N →
    c.wpIn (FR ro) 0 P (PostL (Cx.of P) m st w a.tmps.size B L) a w

section
variable {P : Program} {ov : Ov} {ih : CodeRun} {ihL : CodeRunL}
theorem resV_some {cx : Cx} {fn : Func} {o : Out} {r : List (Value × St)} (h : resV cx fn o = some r) : (o.1 = .normal ∨ o.1 = .ret) ∧ ∃ vs v, resultsOf cx o.2.1 o.2.2 fn.results.toList = some vs ∧ r = [(v, o.2.2)] ∧ ((∃ x, vs = [x] ∧ v = x) ∨ ((∀ x, vs ≠ [x]) ∧ v = .tuple ⟨vs⟩)) := by
  obtain ⟨ex, tm, st⟩ := o
  unfold resV at h
  have key : (match resultsOf cx tm st fn.results.toList with
      | some [v] => some [(v, st)]
      | some vs => some [(Value.tuple ⟨vs⟩, st)]
      | none => none) = some r → ∃ vs v, resultsOf cx tm st fn.results.toList = some vs ∧ r = [(v, st)] ∧ ((∃ x, vs = [x] ∧ v = x) ∨ ((∀ x, vs ≠ [x]) ∧ v = .tuple ⟨vs⟩)) := by
    intro h
    split at h
    · rename_i x hx; simp only [Option.some.injEq] at h; exact ⟨_, _, hx, h.symm, .inl ⟨_, rfl, rfl⟩⟩
    · rename_i vs hne hx; simp only [Option.some.injEq] at h; exact ⟨_, _, hx, h.symm, .inr ⟨fun x e => hne x e, rfl⟩⟩
    · cases h
  cases ex with
  | exit id => cases h
  | goto l => cases h
  | normal => exact ⟨.inl rfl, key h⟩
  | ret => exact ⟨.inr rfl, key h⟩
theorem callL_some {cx : Cx} {f : Nat} {args : List Value} {st : St} {Lr : List (Value × St)} (h : callL cx ihL f args st = some Lr) :
    ∃ fn c L, cx.fn.get f = some fn ∧ fn.body = some c ∧ args.length ≤ fn.ntmps ∧ ihL c fn.ntmps (setParams args 0 .nil) st = some L ∧ fn.name ≠ "runtime.NumGoroutine" ∧ bindL (resV cx fn) L = some Lr := by
  unfold callL at h
  split at h <;> (try (cases h; done))
  rename_i fn hfn
  split at h <;> (try (cases h; done))
  rename_i c hc
  split at h <;> (try (cases h; done))
  rename_i hn
  split at h <;> (try (cases h; done))
  rename_i L hL
  split at h <;> (try (cases h; done))
  rename_i hname
  exact ⟨fn, c, L, hfn, hc, Nat.le_of_ble_eq_true hn, hL, of_decide_eq_false hname, h⟩
theorem callL_ct (hc : CtL ihL) {cx : Cx} {f : Nat} {args : List Value} {st : St} {Lr : List (Value × St)} (h : callL cx ihL f args st = some Lr) : Lr ≠ [] ∧ ∀ r ∈ Lr, st.ct ≤ r.2.ct := by
  obtain ⟨fn, c, L, _, _, _, hL, _, hb⟩ := callL_some h
  obtain ⟨g1, g2⟩ := hc _ _ _ _ _ hL
  refine ⟨bindL_ne (fun x r hx => by obtain ⟨_, vs, v, _, rfl, _⟩ := resV_some hx; simp) hb g1, fun y hy => ?_⟩
  obtain ⟨x, hx, r, hr, hyr⟩ := bindL_of hb y hy
  obtain ⟨_, vs, v, _, rfl, _⟩ := resV_some hr
  rw [List.mem_singleton] at hyr; subst hyr
  exact g2 x hx
theorem callL_sound (hih : RunOkL P ihL) {f : Nat} {args : List Value} {st : St} {Lr : List (Value × St)} (h : callL (Cx.of P) ihL f args st = some Lr)
    {m : Nat → Option Loc} {w : World} {cargs : List Value} {N : Nat} (hR : Rep (Cx.of P) m st.G w) (ha : VReps m args cargs) (hN : ∀ r ∈ Lr, r.2.ct ≤ N) (hf : Fresh m st.ct N) :
    FnOk P f cargs.toArray w (fun cv w' => ∃ r ∈ Lr, CallPost (Cx.of P) m st w r.1 r.2 cv w') := by
  obtain ⟨fn, c, L, hfn, hb, hn, hL, hname, hbl⟩ := callL_some h
  have hfn' : P.funcs[f]? = some fn := by rw [← Cx.fn_get]; exact hfn
  have hlen : args.length = cargs.length := by rw [← ha _ (some0_ext m)]; simp
  refine .inr ⟨?_, ?_⟩
  · simp only [callFunc, Sem.run_bind, run_program, Result.andThen_ok, hfn']
    simp [hname, hb]
  · refine callsIn_wide.1 (callsIn_of_wp_marks (F := FR none) (n := 0) hfn' hb trivial ?_)
    have hNL : ∀ o ∈ L, o.2.2.ct ≤ N := by
      intro o ho
      obtain ⟨r, h1, h2⟩ := bindL_mem hbl o ho
      obtain ⟨_, vs, v, _, rfl, _⟩ := resV_some h1
      exact hN (v, o.2.2) (h2 (v, o.2.2) (by simp))
    have hwp := hih c fn.ntmps _ st L hL none (.inl rfl) m w { tmps := cargs.toArray ++ Array.replicate (fn.ntmps - cargs.toArray.size) undef, defers := [] } w.heap.size N hR (params_rep ha _) (Marks.nil _ _) (Nat.le_refl _) (by simp; omega) hNL hf
    refine wpIn_mono hwp ?_
    rintro e a' w1 ⟨o, ho, rfl, m', hs1, ht, hd, _⟩
    obtain ⟨r, h1, h2⟩ := bindL_mem hbl o ho
    obtain ⟨hex, vs, v, hvs, rfl, hv⟩ := resV_some h1
    have hmem : (v, o.2.2) ∈ Lr := h2 (v, o.2.2) (by simp)
    obtain ⟨rs, hrs1, hrs2, hrs3⟩ := hd
    have fin : LeavesInM (FR none) 0 P fn a'.tmps (fun e w' => ∃ x, e = .returned x ∧ ∃ r ∈ Lr, CallPost (Cx.of P) m st w r.1 r.2 x w') a'.defers .returning w1 := by
      rw [hrs1]
      refine leaves_marks rs w1 hrs2 (fun r hr => (hrs3 r hr).2) fun w' hsh => ?_
      have hs := hs1.shut hsh hrs3
      have hrun : ∀ μ, Ext m' μ → ∃ cv, (results fn a'.tmps).run P w' = .ok cv w' ∧ cv = conc μ v := by
        intro μ hμ
        have h1 := results_run hs.rep ht hvs μ hμ
        have h2 : (fn.results.mapM fun (r : ResultVar) => match r with
          | .tmp t => (pure (a'.tmps.getD t undef) : Sem Value)
          | .cell a t => do loadVar t (← asAddr (a'.tmps.getD a undef))).run P w' = .ok (vs.map (conc μ)).toArray w' := by
          rw [Array.mapM_eq_mapM_toList]
          simp only [Sem.run_map]
          exact (congrArg (fun r => Result.andThen r _) h1).trans rfl
        refine ⟨conc μ v, ?_, rfl⟩
        unfold results
        simp only [Sem.run_bind]
        refine (congrArg (fun r => Result.andThen r _) h2).trans ?_
        simp only [Result.andThen_ok, Sem.run_pure]
        congr 1
        rcases hv with ⟨x, rfl, rfl⟩ | ⟨hne, rfl⟩
        · simp
        · have : ¬ (vs.map (conc μ)).toArray.size = 1 := by
            simp
            intro h1
            match vs, h1, hne with
            | [x], _, hne => exact hne x rfl
          rw [dif_neg this]
          simp [concA_mk]
      obtain ⟨cv, hc1, hc2⟩ := hrun _ (some0_ext m')
      have hcv : VRep m' v cv := by
        intro μ hμ
        obtain ⟨cv', h1, h2⟩ := hrun μ hμ
        rw [hc1] at h1
        injection h1 with h1
        rw [h1, h2]
      exact ⟨cv, hc1, cv, rfl, (v, o.2.2), hmem, m', hs, hcv⟩
    rcases hex with hex | hex <;> rw [hex] <;> exact fin
/-! ### operations -/
theorem opCallL_some {cx : Cx} {tm : T Value} {st : St} {op : Op} {Lr : List (Value × St)} (h : opCallL cx ihL tm st op = some Lr) :
    ∃ c f k first captured as, op = .call c ∧ c.callee = .value f ∧ ev cx tm f = some (.func (.func k) first captured) ∧ evs cx tm c.args.toList = some as ∧ callL cx ihL k (first.toList ++ as ++ captured.toList) st = some Lr := by
  unfold opCallL at h
  split at h <;> (try (cases h; done))
  rename_i c
  split at h <;> (try (cases h; done))
  rename_i f hc
  split at h <;> (try (cases h; done))
  rename_i fn first captured as hfv has
  split at h <;> (try (cases h; done))
  rename_i k
  exact ⟨c, f, k, first, captured, as, rfl, hc, hfv, has, h⟩
theorem opCallL_does (hih : RunOkL P ihL) {tm : T Value} {o : Oper} {st : St} {Lr : List (Value × St)} (h : opCallL (Cx.of P) ihL tm st o.op = some Lr) {m : Nat → Option Loc} {w : World} {N : Nat}
    (hR : Rep (Cx.of P) m st.G w) {a : Act} (ht : TmRep m tm a.tmps) (hN : ∀ r ∈ Lr, r.2.ct ≤ N) (hf : Fresh m st.ct N) : Does P o a.eval w (fun cv w' => ∃ r ∈ Lr, CallPost (Cx.of P) m st w r.1 r.2 cv w') := by
  obtain ⟨c, f, k, first, captured, as, hop, hc, hfv, has, hcall⟩ := opCallL_some h
  have hρ := eval_rep hR.glob ht
  have hμ0 := some0_ext m
  have hfn := hρ f _ hfv
  have hargs := evs_rep hR.glob ht has
  have hfn0 := hfn _ hμ0
  simp only [conc_func, concFn_func] at hfn0
  have hall : VReps m (first.toList ++ as ++ captured.toList) ((concA (some0 m) first).toList ++ c.args.toList.map a.eval ++ (concA (some0 m) captured).toList) := by
    intro μ hμ
    have h1 := hfn μ hμ
    rw [← hfn0] at h1
    simp only [conc_func, concFn_func, Value.func.injEq, true_and] at h1
    rw [List.map_append, List.map_append, hargs μ hμ, ← concA_toList, ← concA_toList, h1.1, h1.2]
  have hfo := callL_sound hih hcall hR hall hN hf
  have hrun : (execOp a.eval o).run P w = (callFunc k ((concA (some0 m) first).toList ++ c.args.toList.map a.eval ++ (concA (some0 m) captured).toList).toArray).run P w := by
    unfold execOp
    rw [hop]
    simp only [resolve, hc, Sem.run_bind]
    rw [← hfn0]
    simp only [Deferred.ofValue, Sem.run_pure, Result.andThen_ok, invoke]
    congr 2
    apply Array.ext'
    simp
  rcases hfo with ⟨cv, w', h1, h2⟩ | ⟨h1, h2⟩
  · exact .value _ _ (hrun.trans h1) h2
  · exact .enter _ _ (hrun.trans h1) h2
theorem rangeOpL_some {cx : Cx} {tm : T Value} {st : St} {op : Op} {q : Value × St} (h : rangeOpL cx tm st op = some q) :
    ∃ t x r k e es wr, op = .range t x ∧ ev cx tm x = some (.map (some r)) ∧ cx.desc t = some (.map k e) ∧ st.hp.get r = some (.map es false wr) ∧
      q = (.pointer (some ⟨st.ct + 1, 0, none⟩), ⟨((st.hp.set r (.map es false false)).set st.ct (.map es true false)).set (st.ct + 1) (.iterM (some st.ct) true), st.ct + 2⟩) := by
  unfold rangeOpL at h
  split at h <;> (try (cases h; done))
  rename_i t x
  split at h <;> (try (cases h; done))
  rename_i r k e hx hd
  split at h <;> (try (cases h; done))
  rename_i es wr hg
  simp only [Option.some.injEq] at h
  exact ⟨t, x, r, k, e, es, wr, rfl, hx, hd, hg, h.symm⟩
theorem rangeOpL_does {tm : T Value} {o : Oper} {st st' : St} {v : Value} (h : rangeOpL (Cx.of P) tm st o.op = some (v, st')) {m : Nat → Option Loc} {w : World}
    (hR : Rep (Cx.of P) m st.G w) {a : Act} (ht : TmRep m tm a.tmps) (hf : Fresh m st.ct st'.ct) : Does P o a.eval w (CallPost (Cx.of P) m st w v st') := by
  obtain ⟨t, x, r, k, e, es, wr, hop, hx, hd, hg, hq⟩ := rangeOpL_some h
  simp only [Prod.mk.injEq] at hq
  obtain ⟨rfl, rfl⟩ := hq
  have hμ0 := some0_ext m
  have hid0 : m st.ct = none := hf _ (Nat.le_refl _) (by simp only; omega)
  have hid1 : m (st.ct + 1) = none := hf _ (by omega) (by simp only; omega)
  obtain ⟨l, hl, hlt⟩ := hR.dom _ _ hg
  obtain ⟨es', clock, hgo, hb, _, _, _, _⟩ := map_obj (P := P) hR hg hμ0
  rw [hμ0 _ _ hl] at hgo hb
  have ex : a.eval x = .map (some l.blk) := by rw [← eval_rep hR.glob ht x _ hx _ hμ0]; simp [hμ0 _ _ hl]
  have hu := run_underlying w hd
  -- the map, not to be written
  have old : ∀ id o, (⟨st.hp.set r (.map es false false), st.ct⟩ : St).G id o → ∃ o0, st.G id o0 ∧ (o.isWr = true → o0.isWr = true ∧ id ≠ r) ∧ (o = o0 ∨ (o = .map es false false ∧ o0 = .map es false wr)) := by
    intro id o hgo
    simp only [St.G, T.get_set] at hgo
    by_cases h1 : id = r
    · rw [if_pos h1] at hgo
      have hgo := Option.some.inj hgo
      subst hgo; subst h1
      exact ⟨_, hg, (fun h => by cases h), .inr ⟨rfl, rfl⟩⟩
    · rw [if_neg h1] at hgo
      exact ⟨o, hgo, fun h => ⟨h, h1⟩, .inl rfl⟩
  have hS1 : Step (Cx.of P) m st.G w st.ct m (⟨st.hp.set r (.map es false false), st.ct⟩ : St).G w st.ct := by
    refine ⟨fun _ _ h => h, fun _ _ h => .inl h, ⟨fun id o hgo => ?_, fun μ hμ id o hgo => ?_, fun i j oi oj li lj hi hj hw => ?_, hR.glob⟩, ⟨Nat.le_refl _, rfl, rfl, rfl, fun _ _ _ => rfl⟩, fun id o l hgo hm => ?_⟩
    · obtain ⟨o0, h1, _⟩ := old id o hgo
      exact hR.dom id o0 h1
    · obtain ⟨o0, h1, _, rfl | ⟨rfl, rfl⟩⟩ := old id o hgo
      · exact hR.obj μ hμ id _ h1
      · exact (show ObjRep (Cx.of P) μ w id (.map es false false) from (hR.obj μ hμ id (.map es false wr) h1 : _))
    · obtain ⟨o0, h1, h2, _⟩ := old i oi hi
      obtain ⟨o1, h3, _, _⟩ := old j oj hj
      exact hR.inj i j o0 o1 li lj h1 h3 (h2 hw).1
    · obtain ⟨o0, h1, h2, _⟩ := old id o hgo
      exact .inr ⟨id, o0, l, h1, fun hw => (h2 hw).1, hm, rfl⟩
  -- an id of its own
  have old2 : ∀ id o, (⟨(st.hp.set r (.map es false false)).set st.ct (.map es true false), st.ct + 1⟩ : St).G id o → (id = st.ct ∧ o = .map es true false) ∨ (id ≠ st.ct ∧ (⟨st.hp.set r (.map es false false), st.ct⟩ : St).G id o) := by
    intro id o hgo
    simp only [St.G] at hgo ⊢
    rw [T.get_set] at hgo
    by_cases h1 : id = st.ct
    · rw [if_pos h1] at hgo; exact .inl ⟨h1, (Option.some.inj hgo).symm⟩
    · rw [if_neg h1] at hgo; exact .inr ⟨h1, hgo⟩
  have hS2 : Step (Cx.of P) m (⟨st.hp.set r (.map es false false), st.ct⟩ : St).G w st.ct (setM m st.ct ⟨l.blk, l.base, clock, .nilFunc⟩) (⟨(st.hp.set r (.map es false false)).set st.ct (.map es true false), st.ct + 1⟩ : St).G w (st.ct + 1) := by
    have hfr : ∀ i oi li, (⟨st.hp.set r (.map es false false), st.ct⟩ : St).G i oi → oi.isWr = true → m i = some li → li.blk ≠ l.blk := by
      intro i oi li hi hw hm e
      obtain ⟨o0, h1, h2, _⟩ := old i oi hi
      exact (h2 hw).2 (hR.inj i r o0 _ li l h1 hg (h2 hw).1 hm hl e)
    have back : ∀ {i : Nat} {o : AObj} {k : Loc}, (⟨st.hp.set r (.map es false false), st.ct⟩ : St).G i o → setM m st.ct ⟨l.blk, l.base, clock, .nilFunc⟩ i = some k → m i = some k := by
      intro i o k hi hk
      obtain ⟨l0, h1, _⟩ := hS1.rep.dom i o hi
      rw [setM_mono hid0 _ _ h1] at hk
      rw [h1]; exact hk
    refine ⟨setM_mono hid0, fun i k hk => ?_, ⟨fun id o hgo => ?_, fun μ hμ id o hgo => ?_, fun i j oi oj li lj hi hj hw hmi hmj hb' => ?_, fun g hgl => setM_mono hid0 _ _ (hR.glob g hgl)⟩, ⟨Nat.le_refl _, rfl, rfl, rfl, fun _ _ _ => rfl⟩, fun id o k hgo hm => ?_⟩
    · simp only [setM] at hk
      by_cases h1 : i = st.ct
      · exact .inr (by omega)
      · rw [if_neg h1] at hk; exact .inl hk
    · rcases old2 id o hgo with ⟨rfl, _⟩ | ⟨_, h2⟩
      · exact ⟨_, setM_same _ _, hlt⟩
      · obtain ⟨l0, h3, h4⟩ := hS1.rep.dom id o h2
        exact ⟨l0, setM_mono hid0 _ _ h3, h4⟩
    · rcases old2 id o hgo with ⟨rfl, rfl⟩ | ⟨_, h2⟩
      · have hl2 : μ st.ct = ⟨l.blk, l.base, clock, .nilFunc⟩ := hμ _ _ (setM_same _ _)
        have hmr : μ r = l := hμ _ _ (setM_mono hid0 _ _ hl)
        obtain ⟨⟨e1, c1, g1, g2, g3, g4, g5⟩, g6⟩ := hR.obj μ (hμ.mono (setM_mono hid0)) _ _ hg
        rw [hmr] at g1
        refine ⟨⟨e1, c1, by rw [hl2]; exact g1, g2, g3, g4, fun _ => ?_⟩, g6⟩
        rw [hb] at g1
        injection g1 with g1
        injection g1 with _ g1
        rw [hl2, ← g1]
      · exact hS1.rep.obj μ (hμ.mono (setM_mono hid0)) id o h2
    · rcases old2 i oi hi with ⟨rfl, rfl⟩ | ⟨_, h2⟩
      · cases hw
      · have hmi := back h2 hmi
        rcases old2 j oj hj with ⟨rfl, rfl⟩ | ⟨_, h3⟩
        · rw [setM_same] at hmj
          injection hmj with hmj
          subst hmj
          exact absurd hb' (hfr i oi li h2 hw hmi)
        · exact hS1.rep.inj i j oi oj li lj h2 h3 hw hmi (back h3 hmj) hb'
    · rcases old2 id o hgo with ⟨rfl, rfl⟩ | ⟨_, h2⟩
      · rw [setM_same] at hm
        injection hm with hm
        subst hm
        exact .inr ⟨r, .map es false false, l, by show (st.hp.set r _).get r = _; rw [T.get_set, if_pos rfl], (fun h => by cases h), hl, rfl⟩
      · exact .inr ⟨id, o, k, h2, fun h => h, back h2 hm, rfl⟩
  have hS12 := hS1.trans hS2 (Nat.le_refl _) (by omega)
  have hid2 : setM m st.ct ⟨l.blk, l.base, clock, .nilFunc⟩ (st.ct + 1) = none := by
    simp only [setM]; rw [if_neg (by omega)]; exact hid1
  have hnew := New.push w (.mapIter (some l.blk) clock #[] clock)
  have hS3 := Step.newObj (P := P) (st := ⟨(st.hp.set r (.map es false false)).set st.ct (.map es true false), st.ct + 1⟩) (ob := .iterM (some st.ct) true) (l := ⟨w.heap.size, 0, 0, .nilFunc⟩) hS12.rep hid2 hnew rfl (fun μ hμ => by
    have h1 : μ (st.ct + 1) = ⟨w.heap.size, 0, 0, .nilFunc⟩ := hμ _ _ (setM_same _ _)
    have h2 : μ st.ct = ⟨l.blk, l.base, clock, .nilFunc⟩ := hμ _ _ (setM_mono hid2 _ _ (setM_same _ _))
    refine ⟨by show (μ (st.ct + 1)).base = 0; rw [h1], clock, ?_, fun _ => by rw [h2]⟩
    show _ = some (Obj.mapIter (some (μ st.ct).blk) clock #[] clock)
    rw [h2]
    show ({ w with heap := w.heap.push _ } : World).heap[(μ (st.ct + 1)).blk]? = _
    rw [h1]
    exact push_here w _)
  refine .value (.pointer (some ⟨w.heap.size, 0, none⟩)) { w with heap := w.heap.push (.mapIter (some l.blk) clock #[] clock) } ?_ ⟨_, hS12.trans hS3 (by omega) (by simp only; omega), fun μ hμ => ?_⟩
  · unfold execOp
    rw [hop]
    simp only
    rw [ex]
    simp [Instr.range, hu, hgo]
  · have h1 : μ (st.ct + 1) = ⟨w.heap.size, 0, 0, .nilFunc⟩ := hμ _ _ (setM_same _ _)
    simp [concAddr, h1]
theorem opsL_ct {cx : Cx} (hovm : OvMono ov) (hihm : RunMono ih) (hcL : CtL ihL) {nt : Nat} {all : List Oper} : ∀ {l : List Oper} {tm : T Value} {st : St} {Lo : List (T Value × St)}, opsL cx ov ih ihL nt all l tm st = some Lo → Lo ≠ [] ∧ ∀ r ∈ Lo, st.ct ≤ r.2.ct := by
  intro l
  induction l with
  | nil => intro tm st Lo h; simp only [opsL, Option.some.injEq] at h; subst h; exact ⟨by simp, fun r hr => by rw [List.mem_singleton] at hr; subst hr; exact Nat.le_refl _⟩
  | cons o l ihl =>
    intro tm st Lo h
    simp only [opsL] at h
    split at h <;> (try (cases h; done))
    · split at h
      · rename_i v st1 ho
        split at h <;> (try (cases h; done))
        have c1 : st.ct ≤ st1.ct := by
          split at ho
          · rename_i r hr
            obtain ⟨_, _, _, _, _, _, _, _, _, _, _, rfl⟩ := rangeOpL_some hr
            simp only [Option.some.injEq, Prod.mk.injEq] at ho
            rw [← ho.2]; simp only; omega
          · exact opA_ct hovm hihm ho
        obtain ⟨g1, g2⟩ := ihl h
        exact ⟨g1, fun r hr => by have := g2 r hr; omega⟩
      · split at h <;> (try (cases h; done))
        rename_i L hL
        obtain ⟨c, f, k, first, captured, as, _, _, _, _, hcall⟩ := opCallL_some hL
        obtain ⟨g1, g2⟩ := callL_ct hcL hcall
        have step : ∀ (x : Value × St) (r : List (T Value × St)), (match putDst nt tm o.dst x.1 with
            | some tm' => opsL cx ov ih ihL nt all l tm' x.2
            | none => none) = some r → r ≠ [] ∧ ∀ q ∈ r, x.2.ct ≤ q.2.ct := by
          intro x r hr
          split at hr <;> (try (cases hr; done))
          exact ihl hr
        refine ⟨bindL_ne (fun x r hx => (step x r hx).1) h g1, fun y hy => ?_⟩
        obtain ⟨x, hx, r, hr, hyr⟩ := bindL_of h y hy
        have := (step x r hr).2 y hyr
        have := g2 x hx
        omega
    · split at h <;> (try (cases h; done))
      exact ihl h
theorem opsL_sound (hov : OvOk P ov) (hovm : OvMono ov) (hih : RunOk P ih) (hihm : RunMono ih) (hihL : RunOkL P ihL) (hcL : CtL ihL) {nt : Nat} {all : List Oper} : ∀ (n : Nat) (l : List Oper), l <+: all.drop n → ∀ {tm : T Value} {st : St} {Lo : List (T Value × St)}, opsL (Cx.of P) ov ih ihL nt all l tm st = some Lo →
    ∀ {m : Nat → Option Loc} {w : World} {a : Act} {ro : Option Nat} {N : Nat}, Rep (Cx.of P) m st.G w → TmRep m tm a.tmps → nt ≤ a.tmps.size → (∀ r ∈ Lo, r.2.ct ≤ N) → Fresh m st.ct N →
    wpOpsIn (FR ro) 0 P all.toArray (fun e a' w' => ∃ r ∈ Lo, OpsPost P m st w a.tmps.size a.defers r.1 r.2 e a' w') ((List.range l.length).map (n + ·)) a w := by
  intro n l
  induction l generalizing n with
  | nil =>
    intro _ tm st Lo h m w a ro N hR ht hn hN hf
    simp only [opsL, Option.some.injEq] at h; subst h
    exact ⟨(tm, st), by simp, rfl, m, Step.refl hR, ht, rfl, rfl⟩
  | cons o l ihl =>
    intro hdrop tm st Lo h m w a ro N hR ht hn hN hf
    obtain ⟨tail, htail⟩ := hdrop
    have hat : all[n]? = some o := by
      have := congrArg (·[0]?) htail.symm
      simpa using this
    have hdrop' : l <+: all.drop (n + 1) := ⟨tail, by rw [← List.drop_drop, ← htail]; rfl⟩
    have hrange : (List.range (o :: l).length).map (n + ·) = n :: (List.range l.length).map (n + 1 + ·) := by
      rw [List.length_cons, List.range_succ_eq_map]
      simp [Function.comp_def, Nat.add_assoc, Nat.add_comm 1]
    rw [hrange]
    simp only [wpOpsIn, List.getElem?_toArray, hat]
    have fresh1 : ∀ {m1 : Nat → Option Loc} {st1 : St} {w1 : World}, Step (Cx.of P) m st.G w st.ct m1 st1.G w1 st1.ct → st.ct ≤ st1.ct → Fresh m1 st1.ct N := fun hs1 hc => hf.after hs1 hc
    simp only [opsL] at h
    split at h <;> (try (cases h; done))
    · rename_i hw
      rw [wanted_eq hw ht]
      simp only [if_true]
      split at h
      · rename_i v st1 ho
        split at h <;> (try (cases h; done))
        rename_i tm1 hp
        have hct1 : st.ct ≤ st1.ct := by
          split at ho
          · rename_i r hr
            obtain ⟨_, _, _, _, _, _, _, _, _, _, _, rfl⟩ := rangeOpL_some hr
            simp only [Option.some.injEq, Prod.mk.injEq] at ho
            rw [← ho.2]; simp only; omega
          · exact opA_ct hovm hihm ho
        obtain ⟨hne, hct2⟩ := opsL_ct hovm hihm hcL h
        have hst1 : st1.ct ≤ N := by
          cases Lo with
          | nil => exact absurd rfl hne
          | cons q Lo => have := hct2 q (by simp); have := hN q (by simp); omega
        have hdo : Does P o a.eval w (CallPost (Cx.of P) m st w v st1) ∧ ∀ c, o.op ≠ .defer c := by
          split at ho
          · rename_i r hr
            have ho := Option.some.inj ho
            subst ho
            refine ⟨rangeOpL_does hr hR ht (fun i h1 h2 => hf i h1 (by omega)), fun c e => ?_⟩
            obtain ⟨_, _, _, _, _, _, _, e2, _⟩ := rangeOpL_some hr
            rw [e] at e2; cases e2
          · exact ⟨opA_does hov hovm hih hihm ho hR ht (fun i h1 h2 => hf i h1 (by omega)), opA_nodefer ho⟩
        refine hdo.1.wp hdo.2 ?_
        rintro cv w1 ⟨m1, hs1, hv1⟩
        obtain ⟨h1, h2, h3⟩ := putDst_rep hp (ht.mono hs1.mono) hv1 hn
        have := ihl (n + 1) hdrop' h (ro := ro) hs1.rep h1 (by omega) hN (fresh1 hs1 hct1)
        refine wpOps_mono ?_ this
        rintro e a' w' ⟨r, hr, rfl, m', hs', ht', hd', hsz'⟩
        exact ⟨r, hr, rfl, m', hs1.trans hs' hct1 (hct2 r hr), ht', hd'.trans h2, by omega⟩
      · rename_i hno
        split at h <;> (try (cases h; done))
        rename_i L hL
        obtain ⟨c, f, k, first, captured, as, hop, _, _, _, hcall⟩ := opCallL_some hL
        obtain ⟨g1, g2⟩ := callL_ct hcL hcall
        have hLN : ∀ x ∈ L, x.2.ct ≤ N := by
          intro x hx
          obtain ⟨r, hr, hrs⟩ := bindL_mem h x hx
          split at hr <;> (try (cases hr; done))
          obtain ⟨g3, g4⟩ := opsL_ct hovm hihm hcL hr
          cases r with
          | nil => exact absurd rfl g3
          | cons q r => have := g4 q (by simp); have := hN q (hrs q (by simp)); omega
        refine (opCallL_does hihL hL hR ht hLN hf).wp (fun c' e => by rw [hop] at e; cases e) ?_
        rintro cv w1 ⟨x, hx, m1, hs1, hv1⟩
        obtain ⟨r, hr, hrs⟩ := bindL_mem h x hx
        split at hr <;> (try (cases hr; done))
        rename_i tm1 hp
        obtain ⟨g3, g4⟩ := opsL_ct hovm hihm hcL hr
        obtain ⟨h1, h2, h3⟩ := putDst_rep hp (ht.mono hs1.mono) hv1 hn
        have := ihl (n + 1) hdrop' hr (ro := ro) hs1.rep h1 (by omega) (fun q hq => hN q (hrs q hq)) (fresh1 hs1 (g2 x hx))
        refine wpOps_mono ?_ this
        rintro e a' w' ⟨q, hq, rfl, m', hs', ht', hd', hsz'⟩
        exact ⟨q, hrs q hq, rfl, m', hs1.trans hs' (g2 x hx) (g4 q hq), ht', hd'.trans h2, by omega⟩
    · rename_i hw
      rw [wanted_eq hw ht]
      simp only [Bool.false_eq_true, if_false]
      split at h <;> (try (cases h; done))
      rename_i tm1 hp
      obtain ⟨h1, h2, h3⟩ := putDst_rep hp ht (fun μ _ => conc_undef μ) hn
      have := ihl (n + 1) hdrop' h (ro := ro) hR h1 (by omega) hN hf
      rw [h3, h2] at this
      exact ⟨fun _ _ => trivial, this⟩
end
end Go.Ai

/-! Code with all that may come out of it: sound. -/
namespace Go.Ai
open Go
section
variable {P : Program} {ov : Ov} {ih : CodeRun} {ihL : CodeRunL}
theorem rangeEnd_some {tm : T Value} {id : Nat} {r : Value × St} {q : List Out} (h : rangeEnd tm id r = some q) :
    ∃ ls pend tm2 nt2 ps2 as2 bo2 ex, r.2.hp.get id = some (.loopO ls pend tm2 nt2 ps2 as2 bo2) ∧ ls ≠ .busy ∧ q = [(ex, tm, { r.2 with hp := r.2.hp.del id })] ∧ (match pend with | none => ex = .normal | some e => ex = e) := by
  unfold rangeEnd at h
  split at h <;> (try (cases h; done))
  rename_i ls pend tm2 nt2 ps2 as2 bo2 hl
  split at h <;> (try (cases h; done))
  rename_i hb
  split at h
  · simp only [Option.some.injEq] at h; exact ⟨_, _, _, _, _, _, _, _, hl, fun e => hb e, h.symm, rfl⟩
  · simp only [Option.some.injEq] at h; exact ⟨_, _, _, _, _, _, _, _, hl, fun e => hb e, h.symm, rfl⟩
theorem rangeL_some {cx : Cx} {f : Operand} {ps : List Tmp} {assign body : Code} {nt : Nat} {tm : T Value} {st : St} {Lo : List Out} (h : rangeL cx ihL f ps assign body nt tm st = some Lo) :
    ∃ k first captured L, ev cx tm f = some (.func (.func k) first captured) ∧ entersA cx k = true ∧
      callL cx ihL k (first.toList ++ .func (.yield st.ct) #[] #[] :: captured.toList) ⟨st.hp.set st.ct (.loopO .ready none tm nt ps assign body), st.ct + 1⟩ = some L ∧ bindL (rangeEnd tm st.ct) L = some Lo := by
  unfold rangeL at h
  split at h <;> (try (cases h; done))
  rename_i fn first captured hf
  split at h <;> (try (cases h; done))
  rename_i k
  split at h <;> (try (cases h; done))
  rename_i hk
  split at h <;> (try (cases h; done))
  rename_i L hc
  exact ⟨k, first, captured, L, hf, hk, hc, h⟩
theorem rangeL_ct (hcL : CtL ihL) {cx : Cx} {f : Operand} {ps : List Tmp} {assign body : Code} {nt : Nat} {tm : T Value} {st : St} {Lo : List Out} (h : rangeL cx ihL f ps assign body nt tm st = some Lo) : Lo ≠ [] ∧ ∀ r ∈ Lo, st.ct ≤ r.2.2.ct := by
  obtain ⟨k, first, captured, L, _, _, hcall, hbl⟩ := rangeL_some h
  obtain ⟨g1, g2⟩ := callL_ct hcL hcall
  refine ⟨bindL_ne (fun x r hx => by obtain ⟨_, _, _, _, _, _, _, _, _, _, rfl, _⟩ := rangeEnd_some hx; simp) hbl g1, fun y hy => ?_⟩
  obtain ⟨x, hx, r, hr, hyr⟩ := bindL_of hbl y hy
  obtain ⟨_, _, _, _, _, _, _, _, _, _, rfl, _⟩ := rangeEnd_some hr
  rw [List.mem_singleton] at hyr; subst hyr
  have := g2 x hx
  simp only at this ⊢; omega
theorem rangeL_sound (hihL : RunOkL P ihL) (hcL : CtL ihL) {f : Operand} {ps : Array Tmp} {assign body : Code} {nt : Nat} {tm : T Value} {st : St} {Lo : List Out}
    (h : rangeL (Cx.of P) ihL f ps.toList assign body nt tm st = some Lo) {m : Nat → Option Loc} {w : World} {a : Act} {B N : Nat}
    (hR : Rep (Cx.of P) m st.G w) (ht : TmRep m tm a.tmps) (hd : Marks B w a.defers) (hB : B ≤ w.heap.size) (hn : nt ≤ a.tmps.size) (hN : ∀ r ∈ Lo, r.2.2.ct ≤ N) (hf : Fresh m st.ct N) :
    (Code.rangeFunc f ps assign body).wpIn (FR none) 0 P (PostL (Cx.of P) m st w a.tmps.size B Lo) a w := by
  obtain ⟨k, first, captured, L, hfv, hent, hcall, hbl⟩ := rangeL_some h
  obtain ⟨hne, hctc⟩ := callL_ct hcL hcall
  simp only at hctc
  have hLN : ∀ x ∈ L, x.2.ct ≤ N := by
    intro x hx
    obtain ⟨q, h1, h2⟩ := bindL_mem hbl x hx
    obtain ⟨ls, pend, tm2, nt2, ps2, as2, bo2, ex, _, _, rfl, _⟩ := rangeEnd_some h1
    exact hN (ex, tm, { x.2 with hp := x.2.hp.del st.ct }) (h2 _ (by simp))
  have hstN : st.ct < N := by
    cases L with
    | nil => exact absurd rfl hne
    | cons x L => have := hctc x (by simp); have := hLN x (by simp); omega
  refine wpIn_rangeFunc fun fn _ => ?_
  -- the two new blocks
  obtain ⟨rec, hrec⟩ : ∃ rec : Loop, rec = { state := .ready, pending := none, fn, tmps := a.tmps, params := ps, assign, body, defers := w.heap.size } := ⟨_, rfl⟩
  obtain ⟨W0, hW0⟩ : ∃ W0, w.alloc (.deferred (some [])) = W0 := ⟨_, rfl⟩
  obtain ⟨W1, hW1⟩ : ∃ W1, W0.alloc (.loop rec) = W1 := ⟨_, rfl⟩
  have hsz0 : W0.heap.size = w.heap.size + 1 := by rw [← hW0]; exact World.size_alloc ..
  have hsz1 : W1.heap.size = w.heap.size + 2 := by rw [← hW1, World.size_alloc, hsz0]
  have old0 : ∀ b, b < w.heap.size → W0.heap[b]? = w.heap[b]? := by
    intro b hb
    rw [← hW0]
    show (w.heap.push _)[b]? = _
    rw [Array.getElem?_push]; simp [Nat.ne_of_lt hb]
  have old1 : ∀ b, b < W0.heap.size → W1.heap[b]? = W0.heap[b]? := by
    intro b hb
    rw [← hW1]
    show (W0.heap.push _)[b]? = _
    rw [Array.getElem?_push]; simp [Nat.ne_of_lt hb]
  have here0 : W0.heap[w.heap.size]? = some (.deferred (some [])) := by
    rw [← hW0]
    show (w.heap.push _)[w.heap.size]? = _
    simp
  have here1 : W1.heap[w.heap.size + 1]? = some (.loop rec) := by
    rw [← hW1, ← hsz0]
    show (W0.heap.push _)[W0.heap.size]? = _
    simp
  have hs0 : Step (Cx.of P) m st.G w st.ct m st.G W0 st.ct := Step.pad hR (by omega) (by rw [← hW0]; rfl) (by rw [← hW0]; rfl) (by rw [← hW0]; rfl) old0
  have hid : m st.ct = none := hf _ (Nat.le_refl _) hstN
  have hnew : New W0 W1 := ⟨by omega, by rw [← hW1]; rfl, by rw [← hW1]; rfl, by rw [← hW1]; rfl, old1⟩
  have hs1 := Step.newObj (ob := .loopO .ready none tm nt ps.toList assign body) (l := ⟨w.heap.size + 1, 0, 0, .nilFunc⟩) hs0.rep hid hnew (by rw [hsz0]) (by
    intro μ hμ
    have hloc : μ st.ct = ⟨w.heap.size + 1, 0, 0, .nilFunc⟩ := hμ _ _ (setM_same _ _)
    refine ⟨by rw [hloc], rec, by rw [hloc]; exact here1, by rw [hrec], by rw [hrec]; rfl, fun t v hv => ?_, by rw [hrec]; exact hn, by rw [hrec], by rw [hrec], by rw [hrec]⟩
    obtain ⟨cv, g1, g2⟩ := ht t v hv
    rw [hrec, g1, g2 μ (hμ.mono (setM_mono hid))])
  have hs01 := hs0.trans hs1 (Nat.le_refl _) (Nat.le_succ _)
  have hl1 : setM m st.ct ⟨w.heap.size + 1, 0, 0, .nilFunc⟩ st.ct = some ⟨w.heap.size + 1, 0, 0, .nilFunc⟩ := setM_same _ _
  -- the call
  have hfn := eval_rep (P := P) hR.glob ht f _ hfv
  have hμ0 := some0_ext m
  have hfn0 := hfn _ hμ0
  simp only [conc_func, concFn_func] at hfn0
  have hargs : VReps (setM m st.ct ⟨w.heap.size + 1, 0, 0, .nilFunc⟩) (first.toList ++ .func (.yield st.ct) #[] #[] :: captured.toList) ((concA (some0 m) first).toList ++ .func (.yield (w.heap.size + 1)) #[] #[] :: (concA (some0 m) captured).toList) := by
    intro μ hμ
    have h1 := hfn μ (hμ.mono (setM_mono hid))
    rw [← hfn0] at h1
    simp only [conc_func, concFn_func, Value.func.injEq, true_and] at h1
    have hloc : μ st.ct = ⟨w.heap.size + 1, 0, 0, .nilFunc⟩ := hμ _ _ (setM_same _ _)
    rw [List.map_append, List.map_cons, ← concA_toList, ← concA_toList, h1.1, h1.2]
    simp [hloc, concA_eq]
  have hfo := callL_sound hihL hcall hs1.rep hargs hLN (Fresh.after (ct2 := N) hf hs01 (Nat.le_succ _))
  obtain ⟨fnk, hfnk, hbk, hnk⟩ : ∃ fnk, P.funcs[k]? = some fnk ∧ fnk.body.isSome = true ∧ fnk.name ≠ "runtime.NumGoroutine" := by
    unfold entersA at hent
    rw [Cx.fn_get] at hent
    split at hent
    · rename_i fnk hk
      simp only [Bool.and_eq_true, Bool.not_eq_true', decide_eq_false_iff_not] at hent
      exact ⟨fnk, hk, hent.1, hent.2⟩
    · cases hent
  have hrunk : ∀ args W, (callFunc k args).run P W = .ok (.enter k args) W := by
    intro args W
    obtain ⟨c, hc⟩ := Option.isSome_iff_exists.1 hbk
    simp [callFunc, hfnk, hnk, hc]
  have hcalls : Calls P k ((concA (some0 m) first).toList ++ .func (.yield (w.heap.size + 1)) #[] #[] :: (concA (some0 m) captured).toList).toArray W1 fun e w' => ∃ x, e = .returned x ∧ ∃ r ∈ L, CallPost (Cx.of P) (setM m st.ct ⟨w.heap.size + 1, 0, 0, .nilFunc⟩) ⟨st.hp.set st.ct (.loopO .ready none tm nt ps.toList assign body), st.ct + 1⟩ W1 r.1 r.2 x w' := by
    rcases hfo with ⟨cv, w', h1, _⟩ | ⟨_, h2⟩
    · rw [hrunk] at h1; cases h1
    · exact h2
  refine ⟨w.heap.size + 1, [mark w.heap.size], W1, { target := .fn (.func k) (concA (some0 m) captured), args := concA (some0 m) first ++ #[.func (.yield (w.heap.size + 1)) #[] #[]] }, W1, k,
    ((concA (some0 m) first).toList ++ .func (.yield (w.heap.size + 1)) #[] #[] :: (concA (some0 m) captured).toList).toArray, W1, ?_, ?_, fun _ _ => trivial, ?_, fun h => by simp [FR, Fence.wide] at h, ?_⟩
  · show (Instr.enterLoop fn a.tmps ps assign body none).run P w = _
    simp only [Instr.enterLoop, Sem.run_bind, run_newObj, Result.andThen_ok, Sem.run_pure]
    rw [← hW1, ← hW0, hrec]
    have e1 : (w.heap.push (.deferred (some []))).size = w.heap.size + 1 := by simp
    rw [e1]
    rfl
  · simp only [resolve]
    rw [← hfn0]
    simp [Deferred.ofValue, Act.eval]
  · simp only [invoke]
    refine (hrunk _ _).trans ?_
    congr 2
    apply Array.ext'; simp
  · refine callsIn_wide.2 (hcalls.mono ?_)
    rintro e w3 ⟨x, rfl, ⟨v, s2⟩, hrL, m3, hs3, _⟩
    obtain ⟨q, hq1, hq2⟩ := bindL_mem hbl _ hrL
    obtain ⟨ls, pend, tm2, nt2, ps2, as2, bo2, ex, hg2, hbusy, rfl, hpend⟩ := rangeEnd_some hq1
    simp only at hg2
    have hctc := hctc _ hrL
    simp only at hctc hs3
    have hmem : (ex, tm, ({ s2 with hp := s2.hp.del st.ct } : St)) ∈ Lo := hq2 _ (by simp)
    have hl3 := hs3.mono _ _ hl1
    have all3 : Step (Cx.of P) m st.G w st.ct m3 s2.G w3 s2.ct := hs01.trans hs3 (Nat.le_succ _) hctc
    obtain ⟨_, r3, hb3, hst3, hpe3, _⟩ := loop_obj hs3.rep hg2 hl3
    have hend : (Instr.endLoop (w.heap.size + 1)).run P w3 = .ok (pend.map jumpOf) { w3 with heap := w3.heap.setIfInBounds (w.heap.size + 1) (.loop { r3 with state := .exhausted }) } := by
      simp only [Instr.endLoop, Sem.run_bind, getLoop_run hb3, Result.andThen_ok]
      have hnb : (r3.state == .busy) = false := by
        rw [hst3]
        cases ls <;> first | rfl | exact absurd rfl hbusy
      simp [hnb, setObj_run hb3, hpe3]
    have hlt3 : w.heap.size + 1 < w3.heap.size := (Array.getElem?_eq_some_iff.1 hb3).1
    have s4 : Step (Cx.of P) m3 s2.G w3 s2.ct m3 ({ s2 with hp := s2.hp.del st.ct } : St).G { w3 with heap := w3.heap.setIfInBounds (w.heap.size + 1) (.loop { r3 with state := .exhausted }) } s2.ct := by
      have := loop_set (ls' := .exhausted) (pend' := pend) hs3.rep hg2 hl3 hb3 s2.ct
      have he : ({ r3 with state := .exhausted } : Loop) = { r3 with state := .exhausted, pending := pend.map jumpOf } := by rw [← hpe3]
      rw [he]
      refine this.sub fun id o hg => ?_
      simp only [St.G, T.get_del] at hg
      split at hg
      · cases hg
      · rename_i hne
        simp only [St.G, T.get_set]
        rw [if_neg hne]; exact hg
    have all4 := all3.trans s4 (by omega) (Nat.le_refl _)
    have hm0 : Marks B W0 (mark w.heap.size :: a.defers) := by
      obtain ⟨rs, g1, g2, g3⟩ := hd.step hR hs0
      refine ⟨w.heap.size :: rs, by rw [g1]; rfl, ?_, fun r hr => ?_⟩
      · rw [List.nodup_cons]
        refine ⟨fun hm => ?_, g2⟩
        obtain ⟨rs', g1', _, g3'⟩ := hd
        rw [g1] at g1'
        have : rs = rs' := by
          have hinj : ∀ (l l' : List Nat), l.map mark = l'.map mark → l = l' := by
            intro l
            induction l with
            | nil => intro l' h; cases l' <;> simp at h ⊢
            | cons x l ih => intro l' h; cases l' with
              | nil => simp at h
              | cons y l' =>
                simp only [List.map_cons, List.cons.injEq] at h
                have h1 : x = y := by have := h.1; simp [mark] at this; exact this
                rw [h1, ih _ h.2]
          exact hinj _ _ g1'
        subst this
        have := (Array.getElem?_eq_some_iff.1 (g3' _ hm).2).1
        omega
      · rcases List.mem_cons.1 hr with rfl | hr
        · exact ⟨hB, here0⟩
        · exact g3 r hr
    have hmk : Marks B { w3 with heap := w3.heap.setIfInBounds (w.heap.size + 1) (.loop { r3 with state := .exhausted }) } (mark w.heap.size :: a.defers) :=
      ((hm0.step hs0.rep hs1).step hs1.rep hs3).step hs3.rep s4
    have fin : PostL (Cx.of P) m st w a.tmps.size B Lo (exitOf ex) { a with defers := [mark w.heap.size] ++ a.defers } { w3 with heap := w3.heap.setIfInBounds (w.heap.size + 1) (.loop { r3 with state := .exhausted }) } :=
      ⟨_, hmem, rfl, m3, all4, ht.mono all4.mono, hmk, rfl⟩
    refine ⟨_, _, hend, ?_⟩
    cases pend with
    | none => subst hpend; exact fin
    | some e0 =>
      subst hpend
      simp only [Option.map_some]
      cases ex with
      | normal => exact wpIn_skip fin
      | exit id => exact wpIn_exit fin
      | ret => exact wpIn_ret fin
      | goto l => exact wpIn_goto fin


theorem forkM_ct {cx : Cx} (hovm : OvMono ov) (hihm : RunMono ih) {L : MapLoop} {nt : Nat} {tm : T Value} {st : St} {Lo : List Out} (h : forkM cx ov ih L nt tm st = some Lo) : Lo ≠ [] ∧ ∀ r ∈ Lo, st.ct ≤ r.2.2.ct := by
  unfold forkM at h
  split at h <;> (try (cases h; done))
  split at h <;> (try (cases h; done))
  rename_i r lk _
  split at h <;> (try (cases h; done))
  rename_i es lk2 wr _
  split at h <;> (try (cases h; done))
  refine outsF_ct (th := thaw st r wr) hovm hihm (fun tm s o ho => ?_) (fun s s' h => thaw_ct h) _ _ _ ⟨(st.hp.del _).set r (.map es lk2 false), st.ct⟩ _ h
  unfold finF at ho
  split at ho <;> (try (cases ho; done))
  split at ho <;> (try (cases ho; done))
  split at ho <;> (try (cases ho; done))
  rename_i s2 hs2
  simp only [Option.some.injEq] at ho; subst ho
  exact Nat.le_of_eq (thaw_ct hs2).symm
theorem blockO_st (id : Nat) (o : Out) : (blockO id o).2 = o.2 := by
  unfold blockO
  split
  · split <;> rfl
  · rfl
theorem tried_some {c : Code} {nt : Nat} {tm : T Value} {st : St} {r : Out} (h : (match ranges c with | true => none | false => ih c nt tm st) = some r) : ih c nt tm st = some r := by
  split at h
  · cases h
  · exact h
theorem stepL_ct {cx : Cx} (hovm : OvMono ov) (hihm : RunMono ih) (hcL : CtL ihL) : CtL (stepL cx ov ih ihL) := by
  intro c nt tm st Lo h
  unfold stepL at h
  split at h
  · rename_i r hr
    have hr := tried_some hr
    simp only [Option.some.injEq] at h; subst h
    refine ⟨by simp, fun q hq => ?_⟩
    rw [List.mem_singleton] at hq; subst hq
    exact hihm _ _ _ _ _ _ _ hr
  · split at h <;> (try (cases h; done))
    · rename_i a b _
      split at h <;> (try (cases h; done))
      rename_i L hL
      obtain ⟨g1, g2⟩ := hcL _ _ _ _ _ hL
      have step : ∀ (o : Out) (r : List Out), (match o.1 with
          | .normal => ihL b nt o.2.1 o.2.2
          | _ => some [o]) = some r → r ≠ [] ∧ ∀ q ∈ r, o.2.2.ct ≤ q.2.2.ct := by
        intro o r hr
        split at hr
        · exact hcL _ _ _ _ _ hr
        · simp only [Option.some.injEq] at hr; subst hr
          exact ⟨by simp, fun q hq => by rw [List.mem_singleton] at hq; subst hq; exact Nat.le_refl _⟩
      refine ⟨bindL_ne (fun x r hx => (step x r hx).1) h g1, fun y hy => ?_⟩
      obtain ⟨x, hx, r, hr, hyr⟩ := bindL_of h y hy
      have := (step x r hr).2 y hyr
      have := g2 x hx
      omega
    · split at h <;> (try (cases h; done))
      · exact hcL _ _ _ _ _ h
      · exact hcL _ _ _ _ _ h
    · split at h <;> (try (cases h; done))
      rename_i L hL
      simp only [Option.some.injEq] at h; subst h
      obtain ⟨g1, g2⟩ := hcL _ _ _ _ _ hL
      refine ⟨by simpa using g1, fun q hq => ?_⟩
      obtain ⟨o, ho, rfl⟩ := List.mem_map.1 hq
      rw [blockO_st]; exact g2 o ho
    · split at h <;> (try (cases h; done))
      exact forkM_ct hovm hihm h
    · split at h <;> (try (cases h; done))
      split at h <;> (try (cases h; done))
      rename_i L hL
      simp only [Option.some.injEq] at h; subst h
      obtain ⟨g1, g2⟩ := opsL_ct hovm hihm hcL hL
      refine ⟨by simpa using g1, fun q hq => ?_⟩
      obtain ⟨o, ho, rfl⟩ := List.mem_map.1 hq
      exact g2 o ho
    · exact rangeL_ct hcL h
theorem postL_one {cx : Cx} {m : Nat → Option Loc} {st : St} {w : World} {size B : Nat} {o : Out} {e : Exit} {a' : Act} {w' : World} (h : Post cx m st w size B o.1 o.2.1 o.2.2 e a' w') : PostL cx m st w size B [o] e a' w' := ⟨o, by simp, h⟩
theorem stepL_ok (hov : OvOk P ov) (hovm : OvMono ov) (hih : RunOk P ih) (hihm : RunMono ih) (hihL : RunOkL P ihL) (hcL : CtL ihL) : RunOkL P (stepL (Cx.of P) ov ih ihL) := by
  intro c nt tm st Lo h ro hro m w a B N hR ht hd hB hn hN hf
  unfold stepL at h
  split at h
  · rename_i r hr
    have hr := tried_some hr
    simp only [Option.some.injEq] at h; subst h
    obtain ⟨ex, tm', st'⟩ := r
    have := hN _ (List.mem_singleton.2 rfl)
    refine wpIn_mono (hih _ _ _ _ _ _ _ hr ro hro m w a B hR ht hd hB hn (fun i h1 h2 => hf i h1 (by simp only at this; omega))) ?_
    intro e a' w' hp
    exact postL_one (o := (ex, tm', st')) hp
  · split at h <;> (try (cases h; done))
    · rename_i x y _
      have hx : ro = none ∨ noRF x = true := hro.imp id fun h => by simp only [noRF, Bool.and_eq_true] at h; exact h.1
      have hy : ro = none ∨ noRF y = true := hro.imp id fun h => by simp only [noRF, Bool.and_eq_true] at h; exact h.2
      split at h <;> (try (cases h; done))
      rename_i L hL
      obtain ⟨g1, g2⟩ := hcL _ _ _ _ _ hL
      have hLN : ∀ o ∈ L, o.2.2.ct ≤ N := by
        intro o ho
        obtain ⟨r, hr, hrs⟩ := bindL_mem h o ho
        split at hr
        · obtain ⟨g3, g4⟩ := hcL _ _ _ _ _ hr
          cases r with
          | nil => exact absurd rfl g3
          | cons q r => have := g4 q (by simp); have := hN q (hrs q (by simp)); omega
        · simp only [Option.some.injEq] at hr; subst hr
          exact hN o (hrs o (by simp))
      refine wpIn_seq ?_
      refine wpIn_mono (hihL _ _ _ _ _ hL ro hx m w a B N hR ht hd hB hn hLN hf) ?_
      rintro e a' w' ⟨o, ho, rfl, m1, hs, ht1, hd1, hsz⟩
      obtain ⟨r, hr, hrs⟩ := bindL_mem h o ho
      have hct1 := g2 o ho
      split at hr
      · rename_i hex
        rw [hex]
        obtain ⟨_, g4⟩ := hcL _ _ _ _ _ hr
        refine wpIn_mono (hihL _ _ _ _ _ hr ro hy m1 w' a' B N hs.rep ht1 hd1 (by have := hs.fr.size; omega) (by omega) (fun q hq => hN q (hrs q hq)) (hf.after hs hct1)) ?_
        rintro e a2 w2 ⟨q, hq, hp⟩
        rw [hsz] at hp
        exact ⟨q, hrs q hq, hp.trans hs hct1 (g4 q hq)⟩
      · rename_i hex
        simp only [Option.some.injEq] at hr; subst hr
        have hp : PostL (Cx.of P) m st w a.tmps.size B Lo (exitOf o.1) a' w' := ⟨o, hrs o (by simp), rfl, m1, hs, ht1, hd1, hsz⟩
        cases hex1 : o.1 with
        | normal => exact absurd hex1 hex
        | exit id => rw [hex1] at hp; exact hp
        | ret => rw [hex1] at hp; exact hp
        | goto l => rw [hex1] at hp; exact hp
    · rename_i x y z _
      have hy : ro = none ∨ noRF y = true := hro.imp id fun h => by simp only [noRF, Bool.and_eq_true] at h; exact h.1
      have hz : ro = none ∨ noRF z = true := hro.imp id fun h => by simp only [noRF, Bool.and_eq_true] at h; exact h.2
      have key : ∀ b, ev (Cx.of P) tm x = some (.bool b) → a.eval x = .bool b := fun b hx => by
        rw [← eval_rep hR.glob ht x _ hx _ (some0_ext m)]; simp
      split at h <;> (try (cases h; done))
      · rename_i hx
        exact wpIn_cond_true (key _ hx) (hihL _ _ _ _ _ h ro hy m w a B N hR ht hd hB hn hN hf)
      · rename_i hx
        exact wpIn_cond_false (key _ hx) (hihL _ _ _ _ _ h ro hz m w a B N hR ht hd hB hn hN hf)
    · rename_i id x _
      have hx : ro = none ∨ noRF x = true := hro
      split at h <;> (try (cases h; done))
      rename_i L hL
      simp only [Option.some.injEq] at h; subst h
      refine wpIn_block ?_
      refine wpIn_mono (hihL _ _ _ _ _ hL ro hx m w a B N hR ht hd hB hn (fun o ho => by
        have := hN (blockO id o) (List.mem_map.2 ⟨o, ho, rfl⟩)
        rw [blockO_st] at this; exact this) hf) ?_
      rintro e a' w' ⟨⟨ex, tm1, st1⟩, ho, rfl, hp⟩
      have hm : blockO id (ex, tm1, st1) ∈ L.map (blockO id) := List.mem_map.2 ⟨_, ho, rfl⟩
      simp only at hp
      cases ex with
      | normal => exact ⟨_, hm, rfl, hp⟩
      | ret => exact ⟨_, hm, rfl, hp⟩
      | goto l => exact ⟨_, hm, rfl, hp⟩
      | exit id' =>
        simp only [exitOf, Exit.inBlock]
        unfold blockO at hm
        simp only at hm
        by_cases hid : id' = id
        · subst hid
          simp only [Nat.beq_refl] at hm
          rw [if_pos rfl]
          exact ⟨_, hm, rfl, hp⟩
        · have : Nat.beq id' id = false := by
            cases hb : Nat.beq id' id with
            | false => rfl
            | true => exact absurd (Nat.eq_of_beq_eq_true hb) hid
          rw [this] at hm
          rw [if_neg hid]
          exact ⟨_, hm, rfl, hp⟩
    · rename_i x _
      split at h <;> (try (cases h; done))
      rename_i L hL
      obtain ⟨k, hk⟩ := forkM_sound hov hovm hih hihm hL h
      exact wpIn_loop_rounds k (hk ro hro m w a B N hR ht hd hB hn hN hf)
    · rename_i id ops draw _
      split at h <;> (try (cases h; done))
      split at h <;> (try (cases h; done))
      rename_i L hL
      simp only [Option.some.injEq] at h; subst h
      refine wpIn_region ?_
      have := opsL_sound hov hovm hih hihm hihL hcL 0 ops.toList ⟨[], by simp⟩ hL (ro := ro) (N := N) hR ht hn (fun r hr => hN (.normal, r.1, r.2) (List.mem_map.2 ⟨r, hr, rfl⟩)) hf
      simp only [Nat.zero_add, List.map_id_fun', id_eq, Array.length_toList, Array.toArray_toList] at this
      refine wpOps_mono ?_ this
      rintro e a' w' ⟨r, hr, rfl, m', h1, h2, h3, h4⟩
      exact ⟨(.normal, r.1, r.2), List.mem_map.2 ⟨r, hr, rfl⟩, rfl, m', h1, h2, by rw [h3]; exact hd.step hR h1, h4⟩
    · rename_i f ps as bo _
      rcases hro with rfl | hro
      · exact rangeL_sound hihL hcL h hR ht hd hB hn hN hf
      · simp [noRF] at hro
theorem runL_ok (hmix : P.follows .mixedOrders = true) (hov : OvOk P ov) (hovm : OvMono ov) (hovi : OvIds ov) : ∀ n, RunOkL P (runL (Cx.of P) ov n) ∧ CtL (runL (Cx.of P) ov n) := by
  intro n
  induction n with
  | zero => exact ⟨fun c nt tm st L h => by simp [runL] at h, fun c nt tm st L h => by simp [runL] at h⟩
  | succ n ih => exact ⟨stepL_ok hov hovm (run_ok hmix hov hovm hovi n).1 (run_ct hovm n) ih.1 ih.2, stepL_ct hovm (run_ct hovm n) ih.2⟩

/-! ### what is the same whichever way -/
end
noncomputable section
def takeOut (a : MapEntry) : List MapEntry → Option (List MapEntry)
  | [] => none
  | b :: l => match beqV a.key b.key && beqV a.val b.val with
    | true => some l
    | false => match takeOut a l with
      | some r => some (b :: r)
      | none => none
/-- the same entries, in whatever order -/
def permE : List MapEntry → List MapEntry → Bool
  | [], [] => true
  | a :: x, l => match takeOut a l with
    | some r => permE x r
    | none => false
  | _, _ => false
def fkB : Bool → Bool → Bool
  | true, true => true
  | false, false => true
  | _, _ => false
def fkO : AObj → AObj → Bool
  | .row e cs o w, .row e' cs' o' w' => Nat.beq e e' && (fkB o o' && (fkB w w' && beqVL cs cs'))
  | .map es l w, .map es' l' w' => fkB l l' && (fkB w w' && permE es es')
  | _, _ => false
def sameAt (rest : List (Value × St)) (i : Nat) (o : AObj) : Bool := match rest with
  | [] => true
  | r :: l => match r.2.hp.get i with
    | some o' => fkO o o' && sameAt l i o
    | none => false
def shutMap : AObj → Bool
  | .map _ _ false => true
  | _ => false
def meetAt (st : St) (r0 : St) (rest : List (Value × St)) (i : Nat) : Option AObj := match r0.hp.get i with
  | some o => match (match st.hp.get i with | some _ => true | none => Nat.ble st.ct i && !shutMap o) && sameAt rest i o with
    | true => some o
    | false => none
  | none => none
def meetFrom (f : Nat → Option AObj) : Nat → T AObj → T AObj
  | 0, hp => hp
  | i + 1, hp => meetFrom f i (match f i with | some o => hp.set i o | none => hp)
def likeAll (v : Value) : List (Value × St) → Bool
  | [] => true
  | r :: l => beqV v r.1 && likeAll v l
def maxCt : List (Value × St) → Nat
  | [] => 0
  | r :: l => Nat.max r.2.ct (maxCt l)
def joinL (st : St) : List (Value × St) → Option (Value × St)
  | [] => none
  | r0 :: rest => match likeAll r0.1 rest && Nat.ble st.ct r0.2.ct with
    | true => some (r0.1, ⟨meetFrom (meetAt st r0.2 rest) r0.2.ct .nil, maxCt (r0 :: rest)⟩)
    | false => none
/-- the maps that were to be written may be written again -/
def thawL (st : St) : List Nat → St → St
  | [], s => s
  | r :: l, s => thawL st l (match st.hp.get r, s.hp.get r with
    | some (.map _ _ true), some (.map _ _ false) => match thaw st r true s with
      | some s' => s'
      | none => s
    | _, _ => s)
/-- calls out of which one thing alone can come -/
def ovFork (cx : Cx) (fs : List Nat) (n : Nat) (ov : Ov) : Ov where
  fn := fun f => match fs.any (Nat.beq f) with
    | true => some fun args st => match callL cx (runL cx ov n) f args st with
      | some L => match joinL st L with
        | some (v, s) => some (v, thawL st (mapIds st.hp) s)
        | none => none
      | none => none
    | false => ov.fn f
  lp := ov.lp
end
section
theorem takeOut_perm {a : MapEntry} : ∀ {l r : List MapEntry}, takeOut a l = some r → (l.map kvOf).Perm (kvOf a :: r.map kvOf)
  | b :: l, r, h => by
    unfold takeOut at h
    split at h
    · rename_i hb
      simp only [Bool.and_eq_true] at hb
      simp only [Option.some.injEq] at h; subst h
      have e : kvOf a = kvOf b := by
        simp only [kvOf, Prod.mk.injEq]
        exact ⟨beqV_eq _ _ hb.1, beqV_eq _ _ hb.2⟩
      rw [e]
      exact List.Perm.refl _
    · split at h <;> (try (cases h; done))
      rename_i r' hr
      simp only [Option.some.injEq] at h; subst h
      exact ((takeOut_perm hr).cons _).trans (List.Perm.swap _ _ _)
theorem permE_perm : ∀ {x l : List MapEntry}, permE x l = true → (x.map kvOf).Perm (l.map kvOf)
  | [], [], _ => List.Perm.refl _
  | a :: x, l, h => by
    unfold permE at h
    split at h <;> (try (cases h; done))
    rename_i r hr
    exact ((permE_perm h).cons (kvOf a)).trans (takeOut_perm hr).symm
  | [], _ :: _, h => by cases h
theorem fkB_eq : ∀ {a b : Bool}, fkB a b = true → a = b := by decide
/-- the same, maps' entries in whatever order -/
def EqO (o o' : AObj) : Prop := o = o' ∨ ∃ es es' lk wr, o = .map es lk wr ∧ o' = .map es' lk wr ∧ (es.map kvOf).Perm (es'.map kvOf)
theorem EqO.wr {o o' : AObj} (h : EqO o o') : o.isWr = o'.isWr := by
  rcases h with rfl | ⟨es, es', lk, wr, rfl, rfl, _⟩ <;> rfl
theorem EqO.rep {o o' : AObj} (h : EqO o o') {cx : Cx} {μ : Nat → Loc} {w : World} {id : Nat} (hr : ObjRep cx μ w id o') : ObjRep cx μ w id o := by
  rcases h with rfl | ⟨es, es', lk, wr, rfl, rfl, hp⟩
  · exact hr
  · obtain ⟨⟨e0, clock, h1, h2, h3, h4, h5⟩, h6⟩ := hr
    refine ⟨⟨e0, clock, h1, h2.trans hp.symm, h3, h4, h5⟩, fun e he => ?_⟩
    have : kvOf e ∈ es'.map kvOf := hp.mem_iff.1 (List.mem_map.2 ⟨e, he, rfl⟩)
    obtain ⟨e', he', hk⟩ := List.mem_map.1 this
    simp only [kvOf, Prod.mk.injEq] at hk
    rw [← hk.1]; exact h6 e' he'
theorem Step.subE {cx : Cx} {m m1 : Nat → Option Loc} {G G1 G' : Nat → AObj → Prop} {w w1 : World} {ct ct1 : Nat} (h : Step cx m G w ct m1 G1 w1 ct1) (hs : ∀ id o, G' id o → ∃ o', G1 id o' ∧ EqO o o') : Step cx m G w ct m1 G' w1 ct1 where
  mono := h.mono
  dom := h.dom
  rep := {
    dom := fun id o hg => by obtain ⟨o', h1, _⟩ := hs id o hg; exact h.rep.dom id o' h1
    obj := fun μ hμ id o hg => by obtain ⟨o', h1, h2⟩ := hs id o hg; exact h2.rep (h.rep.obj μ hμ id o' h1)
    inj := fun i j oi oj li lj hi hj hw => by
      obtain ⟨o1, h1, h2⟩ := hs i oi hi
      obtain ⟨o2, h3, _⟩ := hs j oj hj
      exact h.rep.inj i j o1 o2 li lj h1 h3 (by rw [← h2.wr]; exact hw)
    glob := h.rep.glob }
  fr := h.fr
  prov := fun id o l hg hm => by
    obtain ⟨o', h1, h2⟩ := hs id o hg
    rcases h.prov id o' l h1 hm with h3 | ⟨id0, o0, l0, g1, g2, g3, g4⟩
    · exact .inl h3
    · exact .inr ⟨id0, o0, l0, g1, fun hw => g2 (by rw [← h2.wr]; exact hw), g3, g4⟩
theorem fkO_eq : ∀ {a b : AObj}, fkO a b = true → EqO a b := by
  intro a b h
  unfold fkO at h
  split at h <;> (try (cases h; done))
  · simp only [Bool.and_eq_true] at h
    obtain ⟨h1, h2, h3, h4⟩ := h
    left
    rw [Nat.eq_of_beq_eq_true h1, fkB_eq h2, fkB_eq h3, beqVL_eq _ _ h4]
  · simp only [Bool.and_eq_true] at h
    obtain ⟨h1, h2, h3⟩ := h
    refine .inr ⟨_, _, _, _, rfl, ?_, permE_perm h3⟩
    rw [fkB_eq h1, fkB_eq h2]
theorem sameAt_spec {i : Nat} {o : AObj} : ∀ {rest : List (Value × St)}, sameAt rest i o = true → ∀ r ∈ rest, ∃ o', r.2.hp.get i = some o' ∧ EqO o o'
  | r :: l, h, q, hq => by
    unfold sameAt at h
    split at h <;> (try (cases h; done))
    rename_i o' ho
    simp only [Bool.and_eq_true] at h
    rcases List.mem_cons.1 hq with rfl | hq
    · exact ⟨o', ho, fkO_eq h.1⟩
    · exact sameAt_spec h.2 q hq
theorem meetFrom_get (f : Nat → Option AObj) : ∀ (n : Nat) (hp : T AObj) (i : Nat) (o : AObj), (meetFrom f n hp).get i = some o → (i < n ∧ f i = some o) ∨ hp.get i = some o
  | 0, hp, i, o, h => .inr h
  | n + 1, hp, i, o, h => by
    rcases meetFrom_get f n _ i o h with ⟨h1, h2⟩ | h5
    · exact .inl ⟨by omega, h2⟩
    · cases hf : f n with
      | none => rw [hf] at h5; exact .inr h5
      | some o' =>
        rw [hf] at h5
        simp only [T.get_set] at h5
        by_cases e : i = n
        · rw [if_pos e] at h5
          have h6 := Option.some.inj h5
          subst h6
          exact .inl ⟨by omega, by rw [e]; exact hf⟩
        · rw [if_neg e] at h5
          exact .inr h5
theorem likeAll_spec {v : Value} : ∀ {l : List (Value × St)}, likeAll v l = true → ∀ r ∈ l, v = r.1
  | r :: l, h, q, hq => by
    simp only [likeAll, Bool.and_eq_true] at h
    rcases List.mem_cons.1 hq with rfl | hq
    · exact beqV_eq _ _ h.1
    · exact likeAll_spec h.2 q hq
theorem maxCt_le : ∀ {l : List (Value × St)}, ∀ r ∈ l, r.2.ct ≤ maxCt l
  | r :: l, q, hq => by
    unfold maxCt
    rcases List.mem_cons.1 hq with rfl | hq
    · exact Nat.le_max_left _ _
    · exact Nat.le_trans (maxCt_le q hq) (Nat.le_max_right _ _)
theorem joinL_spec {st : St} {L : List (Value × St)} {v : Value} {st' : St} (h : joinL st L = some (v, st')) : st.ct ≤ st'.ct ∧ Ids st st' ∧ ∀ r ∈ L, r.2.ct ≤ st'.ct ∧ r.1 = v ∧ ∀ i o, st'.hp.get i = some o → ∃ o', r.2.hp.get i = some o' ∧ EqO o o' := by
  unfold joinL at h
  split at h <;> (try (cases h; done))
  rename_i r0 rest
  split at h <;> (try (cases h; done))
  rename_i hc
  simp only [Bool.and_eq_true] at hc
  simp only [Option.some.injEq, Prod.mk.injEq] at h
  obtain ⟨rfl, rfl⟩ := h
  have hm0 : r0.2.ct ≤ maxCt (r0 :: rest) := maxCt_le r0 (by simp)
  have key : ∀ i o, (meetFrom (meetAt st r0.2 rest) r0.2.ct .nil).get i = some o → i < r0.2.ct ∧ r0.2.hp.get i = some o ∧ ((∃ o', st.hp.get i = some o') ∨ st.ct ≤ i) ∧ sameAt rest i o = true := by
    intro i o hg
    rcases meetFrom_get _ _ _ _ _ hg with ⟨h1, h2⟩ | h
    · unfold meetAt at h2
      split at h2 <;> (try (cases h2; done))
      rename_i o' ho
      split at h2 <;> (try (cases h2; done))
      rename_i hb
      simp only [Option.some.injEq] at h2; subst h2
      simp only [Bool.and_eq_true] at hb
      refine ⟨h1, ho, ?_, hb.2⟩
      have hb1 := hb.1
      split at hb1
      · rename_i x hx; exact .inl ⟨x, hx⟩
      · simp only [Bool.and_eq_true] at hb1
        exact .inr (Nat.le_of_ble_eq_true hb1.1)
    · rw [T.get_nil] at h; cases h
  refine ⟨Nat.le_trans (Nat.le_of_ble_eq_true hc.2) hm0, fun i o hg => ?_, fun r hr => ?_⟩
  · obtain ⟨h1, _, h3, _⟩ := key i o hg
    exact h3.imp id fun h => ⟨h, Nat.lt_of_lt_of_le h1 hm0⟩
  · refine ⟨maxCt_le r hr, ?_⟩
    rcases List.mem_cons.1 hr with rfl | hr
    · exact ⟨rfl, fun i o hg => ⟨o, (key i o hg).2.1, .inl rfl⟩⟩
    · exact ⟨(likeAll_spec hc.1 r hr).symm, fun i o hg => sameAt_spec (key i o hg).2.2.2 r hr⟩
theorem Step.upto {cx : Cx} {m m1 : Nat → Option Loc} {G G1 : Nat → AObj → Prop} {w w1 : World} {ct c1 c2 : Nat} (h : Step cx m G w ct m1 G1 w1 c1) (hc : c1 ≤ c2) : Step cx m G w ct m1 G1 w1 c2 :=
  { h with dom := fun i l hl => (h.dom i l hl).imp id fun g => ⟨g.1, by omega⟩ }
theorem thaw_ids {st s s' : St} {r : Nat} (h : thaw st r true s = some s') : ∀ i, (∃ o, s'.hp.get i = some o) → ∃ o, s.hp.get i = some o := by
  unfold thaw at h
  simp only at h
  split at h <;> (try (cases h; done))
  rename_i es lk wr hg _
  simp only [Option.some.injEq] at h; subst h
  rintro i ⟨o, ho⟩
  simp only [T.get_set] at ho
  by_cases e : i = r
  · exact ⟨_, by rw [e]; exact hg⟩
  · rw [if_neg e] at ho; exact ⟨o, ho⟩
theorem thawL_ct (st : St) : ∀ (l : List Nat) (s : St), (thawL st l s).ct = s.ct ∧ ∀ i, (∃ o, (thawL st l s).hp.get i = some o) → ∃ o, s.hp.get i = some o
  | [], s => ⟨rfl, fun _ h => h⟩
  | r :: l, s => by
    unfold thawL
    split
    · split
      · rename_i s' hs'
        obtain ⟨h1, h2⟩ := thawL_ct st l s'
        exact ⟨h1.trans (thaw_ct hs'), fun i h => thaw_ids hs' i (h2 i h)⟩
      · exact thawL_ct st l s
    · exact thawL_ct st l s
theorem thawL_step {P : Program} {m m1 : Nat → Option Loc} {st : St} {w0 w : World} (hR : Rep (Cx.of P) m st.G w0) : ∀ (l : List Nat) (s : St), Step (Cx.of P) m st.G w0 st.ct m1 s.G w s.ct → Step (Cx.of P) m st.G w0 st.ct m1 (thawL st l s).G w (thawL st l s).ct
  | [], s, h => h
  | r :: l, s, h => by
    unfold thawL
    split
    · rename_i es lk es1 lk1 hg hg1
      split
      · rename_i s' hs'
        obtain ⟨lr, hlr, hlt⟩ := hR.dom _ _ hg
        obtain ⟨⟨e1, c1, hb, _⟩, _⟩ := h.rep.obj _ (some0_ext m1) _ _ hg1
        rw [some0_ext m1 _ _ (h.mono _ _ hlr)] at hb
        exact thawL_step hR l s' (thaw_step hR hg hlr hlt h hb hs')
      · exact thawL_step hR l s h
    · exact thawL_step hR l s h
theorem ovFork_all {P : Program} (hmix : P.follows .mixedOrders = true) {ov : Ov} (hov : OvOk P ov) (hovm : OvMono ov) (hovi : OvIds ov) (fs : List Nat) (n : Nat) :
    OvOk P (ovFork (Cx.of P) fs n ov) ∧ OvMono (ovFork (Cx.of P) fs n ov) ∧ OvIds (ovFork (Cx.of P) fs n ov) := by
  have hr := runL_ok hmix hov hovm hovi n
  refine ⟨⟨?_, hov.lp⟩, ⟨?_, hovm.lp, hovm.keeps⟩, ⟨?_, hovi.lp⟩⟩
  · intro f g args st v st' hg hrun m w cargs hR ha hf
    simp only [ovFork] at hg
    split at hg
    · simp only [Option.some.injEq] at hg; subst hg
      simp only at hrun
      split at hrun <;> (try (cases hrun; done))
      rename_i L hL
      split at hrun <;> (try (cases hrun; done))
      rename_i v1 s1 hj
      simp only [Option.some.injEq, Prod.mk.injEq] at hrun
      obtain ⟨rfl, rfl⟩ := hrun
      obtain ⟨h1, h2, h3⟩ := joinL_spec hj
      rw [(thawL_ct _ _ _).1] at hf
      have hfo := callL_sound hr.1 hL hR ha (N := s1.ct) (fun r hr => (h3 r hr).1) hf
      have conv : ∀ cv w', (∃ r ∈ L, CallPost (Cx.of P) m st w r.1 r.2 cv w') → CallPost (Cx.of P) m st w v1 (thawL st (mapIds st.hp) s1) cv w' := by
        rintro cv w' ⟨r, hrL, m', hs, hv⟩
        obtain ⟨g1, g2, g3⟩ := h3 r hrL
        have hs := hs.upto g1
        rw [g2] at hv
        exact ⟨m', thawL_step hR _ _ (hs.subE fun i o hg => g3 i o hg), hv⟩
      rcases hfo with ⟨cv, w', k1, k2⟩ | ⟨k1, k2⟩
      · exact .inl ⟨cv, w', k1, conv _ _ k2⟩
      · exact .inr ⟨k1, k2.mono fun e w' ⟨x, hx, hp⟩ => ⟨x, hx, conv _ _ hp⟩⟩
    · exact hov.fn f g args st v st' hg hrun m w cargs hR ha hf
  · intro f g args st v st' hg hrun
    simp only [ovFork] at hg
    split at hg
    · simp only [Option.some.injEq] at hg; subst hg
      simp only at hrun
      split at hrun <;> (try (cases hrun; done))
      split at hrun <;> (try (cases hrun; done))
      rename_i v1 s1 hj
      simp only [Option.some.injEq, Prod.mk.injEq] at hrun
      obtain ⟨rfl, rfl⟩ := hrun
      rw [(thawL_ct _ _ _).1]
      exact (joinL_spec hj).1
    · exact hovm.fn f g args st v st' hg hrun
  · intro f g args st v st' hg hrun
    simp only [ovFork] at hg
    split at hg
    · simp only [Option.some.injEq] at hg; subst hg
      simp only at hrun
      split at hrun <;> (try (cases hrun; done))
      split at hrun <;> (try (cases hrun; done))
      rename_i v1 s1 hj
      simp only [Option.some.injEq, Prod.mk.injEq] at hrun
      obtain ⟨rfl, rfl⟩ := hrun
      intro i o hg
      obtain ⟨o', ho'⟩ := (thawL_ct st (mapIds st.hp) s1).2 i ⟨o, hg⟩
      have := (joinL_spec hj).2.1 i o' ho'
      rw [(thawL_ct _ _ _).1]
      exact this
    · exact hovi.fn f g args st v st' hg hrun
end
end Go.Ai

/-! The abstract interpreter's words for functions without a Go body: definitions alone. -/
namespace Go.Ai
open Go
noncomputable section

def bytesA (x : Value) (st : St) : Option (List UInt8) :=
  match x with
  | .string s => some s.data.toList
  | .slice none _ _ => some []
  | .slice (some a) n _ => match readCells st a n with
    | some l => bytesOfCells l
    | none => none
  | _ => none

def idxByte (c : UInt8) : List UInt8 → Nat → Option Nat
  | [], _ => none
  | b :: l, i => match Nat.beq b.toNat c.toNat with
    | true => some i
    | false => idxByte c l (i + 1)

def cntByte (c : UInt8) : List UInt8 → Nat → Nat
  | [], n => n
  | b :: l, n => match Nat.beq b.toNat c.toNat with
    | true => cntByte c l (n + 1)
    | false => cntByte c l n

def orNeg : Option Nat → Value
  | some i => goInt i
  | none => goInt (-1)

/-- a cell of which nothing is known -/
def hole : Value := .tuple #[]
def holes : Nat → List Value
  | 0 => []
  | n + 1 => hole :: holes n

inductive Xt where
  | indexByte | count | same
  | makeNoZero (e : TypeId)
  deriving DecidableEq

def extA (cx : Cx) : Xt → List Value → St → Option (Value × St)
  | .indexByte, as, st => match as with
    | [x, .int .u8 c] => match bytesA x st with
      | some l => some (orNeg (idxByte (UInt8.ofNat c.toNat) l 0), st)
      | none => none
    | _ => none
  | .count, as, st => match as with
    | [x, .int .u8 c] => match bytesA x st with
      | some l => some (goInt (cntByte (UInt8.ofNat c.toNat) l 0), st)
      | none => none
    | _ => none
  | .same, as, st => match as with
    | [x] => some (x, st)
    | _ => none
  | .makeNoZero e, as, st => match as with
    | [.int .i64 n] => match cx.size e with
      | some 1 => match decide (0 ≤ n ∧ n ≤ 70368744177664) with
        | true => some (.slice (some ⟨st.ct, 0, none⟩) n.toNat openCap, ⟨st.hp.set st.ct (.row e (holes n.toNat) true true), st.ct + 1⟩)
        | false => none
      | _ => none
    | _ => none

def ovOfF (cx : Cx) : List (Nat × Xt) → Nat → Option (List Value → St → Option (Value × St))
  | [], _ => none
  | (k, e) :: l, f => match Nat.beq k f with
    | true => some (extA cx e)
    | false => ovOfF cx l f
def ovOf (cx : Cx) (l : List (Nat × Xt)) : Ov := ⟨ovOfF cx l, fun _ => none⟩

def extNames : Xt → List String
  | .indexByte => ["internal/bytealg.IndexByteString", "internal/bytealg.IndexByte"]
  | .count => ["internal/bytealg.CountString", "internal/bytealg.Count"]
  | .same => ["internal/abi.NoEscape"]
  | .makeNoZero _ => ["internal/bytealg.MakeNoZero"]

/-- is it that function? -/
def extFits (P : Program) : Nat × Xt → Bool
  | (k, e) => match P.funcs[k]? with
    | some fn => (extNames e).contains fn.name && fn.body.isNone && (fn.origin == "") && (match e with
      | .makeNoZero e => match fn.resultTypes.toList with
        | [t] => match (Cx.of P).desc t with
          | some (.slice e') => Nat.beq e e'
          | _ => false
        | _ => false
      | _ => true)
    | none => false

end
end Go.Ai

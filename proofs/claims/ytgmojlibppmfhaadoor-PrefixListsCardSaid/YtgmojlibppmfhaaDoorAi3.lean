/- The abstract interpreter and its soundness, part 3 of 5: by an AI agent. -/
import Derived.Test.YtgmojlibppmfhaaDoorAi2
import Derived.Laws.Externs
import Derived.Lib.BytesEntry
import Derived.Lib.MakeNoZero
import Derived.KernelRfl
import Derived.LaidLaws

/-! Regions whose order is open: the theorem; no object appears out of nowhere in code. -/
namespace Go.Ai
open Go

section
variable {P : Program} {ov : Ov} {ih : CodeRun} {nt : Nat} {all : List Oper} {D : Nat → DS}

theorem mem_all_of_count {l : List Bool} (h : l.count true = l.length) {j : Nat} (hj : j < l.length) : l[j]? = some true := by
  have := List.count_eq_length.1 h
  have h2 := this l[j] (List.getElem_mem hj)
  rw [List.getElem?_eq_getElem hj, ← h2]

theorem any_of (hov : OvOk P ov) (hovm : OvMono ov) (hovi : OvIds ov) (hih : RunOk P ih) (hihm : RunMono ih) (hihi : RunIds ih) (hS : Steps P ov ih nt all D) (hL : Looked P all) {m0 : Nat → Option Loc} {st : St} {w0 : World} {size : Nat} {ds : List Deferred} {ro : Option Nat}
    (h0 : (D 0).pend = []) (hold : ∀ id o, (D 0).st.hp.get id = some o → ¬ (st.ct ≤ id ∧ id < (D all.length).st.ct)) (hct0 : (D 0).st.ct = st.ct) (hfresh : Fresh m0 st.ct (D all.length).st.ct) (hnt : nt ≤ size)
    {Q : Exit → Act → World → Prop} (hQ : ∀ a w, Inv P all D m0 st w0 size ds (fun j => j < all.length) a w → Q .normal a w) :
    ∀ (fuel : Nat) (listed : Array Bool) (a : Act) (w : World), listed.size = all.length → listed.toList.count true + fuel = all.length →
      (∀ (j : Nat) (y : Oper), listed[j]? = some true → all[j]? = some y → ∀ e ∈ y.after, Region.binds .any e = true → listed[e.on]? = some true) →
      Inv P all D m0 st w0 size ds (fun j => listed[j]? = some true) a w → wpAnyIn (FR ro) 0 P .any all.toArray Q fuel listed a w := by
  have allIn : ∀ (listed : Array Bool) (a : Act) (w : World), listed.size = all.length → (∀ j, j < all.length → listed[j]? = some true) → Inv P all D m0 st w0 size ds (fun j => listed[j]? = some true) a w → Q .normal a w := by
    intro listed a w hsz h hI
    refine hQ _ _ ?_
    have : (fun j => j < all.length) = fun j => listed[j]? = some true := by
      funext j
      apply propext
      exact ⟨h j, fun h2 => by have := (Array.getElem?_eq_some_iff.1 h2).1; omega⟩
    rw [this]; exact hI
  have getF : ∀ (listed : Array Bool) j, listed.getD j false = true ↔ listed[j]? = some true := by
    intro listed j
    rw [Array.getD_eq_getD_getElem?]
    cases listed[j]? with
    | none => simp
    | some b => simp
  have none_ready : ∀ (listed : Array Bool), listed.size = all.length → Region.ready .any all.toArray listed = [] → ∀ j, j < all.length → listed[j]? = some true := by
    intro listed hsz hr j
    induction j using Nat.strongRecOn with
    | _ j ihj =>
      intro hj
      obtain ⟨y, hy⟩ : ∃ y, all[j]? = some y := ⟨all[j], List.getElem?_eq_getElem hj⟩
      have hjs : j < listed.size := by omega
      cases hb : listed[j] with
      | true => rw [Array.getElem?_eq_getElem hjs, hb]
      | false =>
        exfalso
        have : j ∈ Region.ready .any all.toArray listed := by
          rw [mem_ready]
          refine ⟨by simp [hjs, hb], y, by simpa using hy, fun e he heb => ?_⟩
          rw [getF]
          have := hL.back j y hy e he heb
          exact ihj e.on this (by omega)
        rw [hr] at this; simp at this
  intro fuel
  induction fuel with
  | zero =>
    intro listed a w hsz hc hd hI
    have hall : ∀ j, j < all.length → listed[j]? = some true := by
      intro j hj
      have := mem_all_of_count (l := listed.toList) (by simp only [Array.length_toList]; omega) (j := j) (by simp; omega)
      simpa using this
    refine ⟨?_, allIn _ _ _ hsz hall hI⟩
    cases hr : Region.ready .any all.toArray listed with
    | nil => rfl
    | cons x l =>
      exfalso
      have : x ∈ Region.ready .any all.toArray listed := by rw [hr]; simp
      rw [mem_ready] at this
      obtain ⟨h1, y, hy, _⟩ := this
      have hx : x < all.length := by simpa using (Array.getElem?_eq_some_iff.1 hy).1
      have := hall x hx
      rw [Array.getD_eq_getD_getElem?, this] at h1
      simp at h1
  | succ fuel ihf =>
    intro listed a w hsz hc hd hI
    refine ⟨fun hr => allIn _ _ _ hsz (none_ready _ hsz hr) hI, fun i hi => ?_⟩
    rw [mem_ready] at hi
    obtain ⟨h1, o, ho, hdeps⟩ := hi
    have hoL : all[i]? = some o := by simpa using ho
    have hil : i < all.length := (List.getElem?_eq_some_iff.1 hoL).1
    have his : i < listed.size := by omega
    have hfalse : listed[i] = false := by simpa [his] using h1
    have hlt : ∀ j, listed[j]? = some true → j < all.length := fun j h2 => by have := (Array.getElem?_eq_some_iff.1 h2).1; omega
    have hcl := closed_of hL hd hlt
    have hbef : ∀ j, ((befsOf all []).getD i 0).testBit j = true → listed[j]? = some true := by
      intro j hj
      obtain ⟨e, he, hb, h2⟩ := hL.bef i o hoL j hj
      have he1 := (getF _ _).1 (hdeps e he hb)
      rcases h2 with rfl | ⟨_, h3⟩
      · exact he1
      · exact hcl _ he1 _ h3
    have hni : ¬ listed[i]? = some true := by rw [Array.getElem?_eq_getElem his, hfalse]; simp
    have hset : ∀ j, (listed.setIfInBounds i true)[j]? = some true ↔ (listed[j]? = some true ∨ j = i) := by
      intro j
      by_cases e : j = i
      · subst e; simp [his]
      · rw [Array.getElem?_setIfInBounds_ne (Ne.symm e)]; simp [e]
    refine inv_step hov hovm hovi hih hihm hihi hS hL h0 hold hct0 hfresh hnt hcl hlt hoL hni hbef hI ?_
    intro a' w' hI'
    refine ihf _ a' w' (by simp [hsz]) ?_ ?_ ?_
    · have : (listed.setIfInBounds i true).toList.count true = listed.toList.count true + 1 := by
        rw [Array.toList_setIfInBounds, List.count_set (by simpa using his)]
        simp [hfalse]
      omega
    · intro j y hj hy e he hb
      rw [hset] at hj ⊢
      rcases hj with hj | hj
      · exact .inl (hd j y hj hy e he hb)
      · subst hj; rw [hoL] at hy; injection hy with hy; subst hy
        exact .inl ((getF _ _).1 (hdeps e he hb))
    · have : (fun j => (listed.setIfInBounds i true)[j]? = some true) = fun j => listed[j]? = some true ∨ j = i := by
        funext j; exact propext (hset j)
      rw [this]; exact hI'

theorem drawA_ex {tm tm' : T Value} {st st' : St} (h : drawA (Cx.of P) ov ih nt all tm st = some (tm', st')) :
    drawOk (Cx.of P) all = true ∧ ∃ D : Nat → DS, D 0 = ⟨tm, st, [], [], []⟩ ∧ Steps P ov ih nt all D ∧ tm' = (D all.length).tm ∧ st' = ⟨mergeAll (D all.length).pend (D all.length).st.hp, (D all.length).st.ct⟩ := by
  unfold drawA at h
  split at h <;> (try (simp at h; done))
  rename_i hok
  split at h <;> (try (simp at h; done))
  rename_i ds hds
  simp at h
  obtain ⟨D, d0, dn, hs⟩ := trace_ex _ _ _ _ hds
  rw [Nat.zero_add] at dn
  refine ⟨hok, D, d0, fun k o hk => ?_, by rw [dn]; exact h.1.symm, by rw [dn]; exact h.2.symm⟩
  have := hs k o hk
  rwa [Nat.zero_add] at this

theorem drawA_ids (hovm : OvMono ov) (hovi : OvIds ov) (hihm : RunMono ih) (hihi : RunIds ih) {tm tm' : T Value} {st st' : St} (h : drawA (Cx.of P) ov ih nt all tm st = some (tm', st')) : Ids st st' := by
  obtain ⟨_, D, h0, hS, _, rfl⟩ := drawA_ex h
  have hW := whence hovm hihm hovi hihi hS (by rw [h0]) all.length (Nat.le_refl _)
  have ctle : ∀ j k, j ≤ k → k ≤ all.length → (D j).st.ct ≤ (D k).st.ct := by
    intro j k h1 h2
    have := ct_mono hovm hihm hS (k - j) j (by omega)
    rwa [show j + (k - j) = k by omega] at this
  have hc0 : (D 0).st = st := by rw [h0]
  intro id o hg
  have fin : ∀ j, j < all.length → (D j).st.ct ≤ id → id < (D (j + 1)).st.ct → st.ct ≤ id ∧ id < (D all.length).st.ct := by
    intro j h1 h2 h3
    have := ctle 0 j (by omega) (by omega)
    rw [hc0] at this
    have := ctle (j + 1) all.length (by omega) (by omega)
    omega
  rcases mergeAll_get _ _ _ _ hg with hg | ⟨j, hm⟩
  · rcases hW.hp id o hg with h1 | ⟨j, h1, h2, h3, _⟩
    · rw [hc0] at h1; exact .inl h1
    · exact .inr (fin j h1 h2 h3)
  · obtain ⟨h1, h2, h3⟩ := hW.pend j id o hm
    exact .inr (fin j h1 h2 h3)

theorem drawA_sound (hmix : P.follows .mixedOrders = true) (hov : OvOk P ov) (hovm : OvMono ov) (hovi : OvIds ov) (hih : RunOk P ih) (hihm : RunMono ih) (hihi : RunIds ih)
    {id nt : Nat} {ops : Array Oper} {tm tm' : T Value} {st st' : St} (h : drawA (Cx.of P) ov ih nt ops.toList tm st = some (tm', st')) {m : Nat → Option Loc} {w : World} {a : Act}
    (hR : Rep (Cx.of P) m st.G w) (ht : TmRep m tm a.tmps) {ro : Option Nat} (hn : nt ≤ a.tmps.size) (hf : Fresh m st.ct st'.ct) :
    (Code.region id ops true).wpIn (FR ro) 0 P (OpsPost P m st w a.tmps.size a.defers tm' st') a w := by
  obtain ⟨hok, D, h0, hS, rfl, rfl⟩ := drawA_ex h
  have hL := looked_of hok
  have hc0 : (D 0).st = st := by rw [h0]
  have hW := whence hovm hihm hovi hihi hS (by rw [h0]) ops.toList.length (Nat.le_refl _)
  refine wpIn_region_any hmix ?_
  have main := any_of (ro := ro) (Q := OpsPost P m st w a.tmps.size a.defers (D ops.toList.length).tm ⟨mergeAll (D ops.toList.length).pend (D ops.toList.length).st.hp, (D ops.toList.length).st.ct⟩) (m0 := m) (st := st) (w0 := w) (size := a.tmps.size) (ds := a.defers)
    hov hovm hovi hih hihm hihi hS hL (by rw [h0]) ?_ (by rw [hc0]) hf hn ?_
    ops.size (Array.replicate ops.size false) a { w with drawn := w.drawn + 1 } (by simp) (by simp [List.count_replicate]) (by
      intro j y hj
      rw [Array.getElem?_replicate] at hj
      split at hj <;> simp at hj) ?_
  · simpa using main
  · intro i o hg hlt
    rw [hc0] at hg
    obtain ⟨l, h1, _⟩ := hR.dom i o hg
    rw [hf i hlt.1 hlt.2] at h1; cases h1
  · rintro a' w' ⟨⟨q, hqn, hq, m', hs, hdm, htm⟩, hdef, hsz⟩
    refine ⟨rfl, m', hs.sub ?_, ?_, hdef, hsz⟩
    · intro i o hg
      have hEl : ∀ h, EH P ops.toList D h → h < ops.toList.length := by
        rintro h ⟨p, hp, _⟩
        exact (List.getElem?_eq_some_iff.1 hp).1
      refine (GL_between hS _ hqn (Nat.le_refl _) (fun h h1 h2 hE => ?_) (fun h h1 h2 => by omega) i o).2 ?_
      · have := (hq h hE).1 h2; omega
      · rcases mergeAll_get _ _ _ _ hg with hg | ⟨j, hm⟩
        · exact .inl hg
        · exact .inr (.inl ⟨j, (hW.pend j i o hm).1, hm⟩)
    · intro t v hv
      refine htm t v ?_
      rcases tm_last hS t v _ (Nat.le_refl _) hv with ⟨j, x, h1, h2⟩ | h1
      · exact .inl ⟨j, x, h1, h2⟩
      · exact .inr h1
  · have hno : ∀ (j : Nat), ¬ (Array.replicate ops.size false)[j]? = some true := by
      intro j hj
      rw [Array.getElem?_replicate] at hj
      split at hj <;> simp at hj
    refine ⟨⟨0, Nat.zero_le _, fun h _ => ⟨fun h1 => absurd h1 (hno h), fun h1 => by omega⟩, m, ?_, fun i l h => .inl h, ?_⟩, rfl, rfl⟩
    · refine Step.wider ((Step.drew (ct := st.ct) hR).sub ?_) (Nat.le_refl _) ?_
      · rintro i o (h1 | ⟨j, h1, _⟩ | ⟨j, _, h1, _⟩)
        · rw [hc0] at h1; exact h1
        · exact absurd h1 (hno j)
        · exact absurd h1 (hno j)
      · have := ct_mono hovm hihm hS ops.toList.length 0 (by omega)
        rw [Nat.zero_add, hc0] at this; exact this
    · rintro t v (⟨j, x, h1, _⟩ | ⟨_, h1⟩)
      · exact absurd h1 (hno j)
      · rw [h0] at h1; exact ht t v h1

theorem stepA_ids (hovm : OvMono ov) (hovi : OvIds ov) (hihm : RunMono ih) (hihi : RunIds ih) : RunIds (stepA (Cx.of P) ov ih) := by
  intro c nt tm st ex tm' st' h
  unfold stepA at h
  cases c <;> simp only at h <;> (try (simp at h; done))
  case skip => simp at h; obtain ⟨_, _, rfl⟩ := h; exact Ids.refl _
  case label => simp at h; obtain ⟨_, _, rfl⟩ := h; exact Ids.refl _
  case ret => simp at h; obtain ⟨_, _, rfl⟩ := h; exact Ids.refl _
  case exit => simp at h; obtain ⟨_, _, rfl⟩ := h; exact Ids.refl _
  case goto => simp at h; obtain ⟨_, _, rfl⟩ := h; exact Ids.refl _
  case scope a => exact scopeA_ids hihm hihi h
  case rangeFunc f ps as bo => exact rangeA_ids hovm hihm hovi hihi h
  case seq a b =>
    split at h <;> (try (simp at h; done))
    rename_i h1
    have h2 := hihi _ _ _ _ _ _ _ h1
    have h3 := hihm _ _ _ _ _ _ _ h1
    split at h
    · exact h2.trans (hihi _ _ _ _ _ _ _ h) h3 (hihm _ _ _ _ _ _ _ h)
    · simp at h; obtain ⟨_, _, rfl⟩ := h; exact h2
  case cond x a b =>
    split at h <;> (try (simp at h; done)) <;> exact hihi _ _ _ _ _ _ _ h
  case block id a =>
    split at h <;> (try (simp at h; done))
    rename_i h1
    have h2 := hihi _ _ _ _ _ _ _ h1
    split at h
    · split at h <;> (simp at h; obtain ⟨_, _, rfl⟩ := h; exact h2)
    · simp at h; obtain ⟨_, _, rfl⟩ := h; exact h2
  case loop a =>
    split at h
    · exact hovi.lp _ _ _ _ _ _ _ _ (by assumption) h
    split at h
    · obtain ⟨b, ct, rfl, _⟩ := loopM_st h
      intro id o hg
      simp only [T.get_del] at hg
      split at hg
      · cases hg
      · exact .inl ⟨o, hg⟩
    · split at h <;> (try (simp at h; done))
      rename_i h1
      have h2 := hihi _ _ _ _ _ _ _ h1
      have h3 := hihm _ _ _ _ _ _ _ h1
      split at h
      · exact h2.trans (hihi _ _ _ _ _ _ _ h) h3 (hihm _ _ _ _ _ _ _ h)
      · simp at h; obtain ⟨_, _, rfl⟩ := h; exact h2
  case region id ops draw =>
    split at h
    · split at h <;> (try (simp at h; done))
      rename_i h1
      simp at h; obtain ⟨_, _, rfl⟩ := h
      exact opsA_ids hovm hihm hovi hihi h1
    · split at h <;> (try (simp at h; done))
      rename_i h1
      simp at h; obtain ⟨_, _, rfl⟩ := h
      exact drawA_ids hovm hovi hihm hihi h1

theorem run_ids (hovm : OvMono ov) (hovi : OvIds ov) : ∀ n, RunIds (run (Cx.of P) ov n) := by
  intro n
  induction n with
  | zero => intro c nt tm st ex tm' st' h; simp [run] at h
  | succ n ih => exact stepA_ids hovm hovi (run_ct hovm n) ih

end
end Go.Ai

/-! Ranges over maps. -/
namespace Go.Ai
open Go

theorem T.get_mapO {α : Type} (f : α → Option α) : ∀ (t : T α) (n : Nat), (t.mapO f).get n = (t.get n).bind f := by
  intro t
  induction t with
  | nil => intro n; simp [T.mapO, T.get_nil]
  | node v l r ihl ihr =>
    intro n
    cases n with
    | zero => cases v <;> simp [T.mapO, T.get_zero]
    | succ k =>
      simp only [T.mapO, T.get_succ]
      by_cases h : k % 2 = 0
      · rw [if_pos h, if_pos h]; exact ihl _
      · rw [if_neg h, if_neg h]; exact ihr _

theorem forget_get : ∀ (l : List Tmp) (tm : T Value) (t : Nat), (forget l tm).get t = if t ∈ l then none else tm.get t := by
  intro l
  induction l with
  | nil => intro tm t; simp [forget]
  | cons x l ih =>
    intro tm t
    simp only [forget, ih, T.get_del, List.mem_cons]
    by_cases h1 : t ∈ l
    · simp [h1]
    · by_cases h2 : x = t
      · subst h2; simp
      · simp [h1, Ne.symm h2]

/-! ### what code doesn't assign stays -/
def Keeps (l : List Tmp) (tm tm' : T Value) : Prop := ∀ t, t ∉ l → tm'.get t = tm.get t
theorem Keeps.refl (l : List Tmp) (tm : T Value) : Keeps l tm tm := fun _ _ => rfl
theorem Keeps.trans {l : List Tmp} {a b c : T Value} (h : Keeps l a b) (h' : Keeps l b c) : Keeps l a c := fun t ht => (h' t ht).trans (h t ht)
theorem Keeps.mono {l l' : List Tmp} {a b : T Value} (h : Keeps l a b) (hs : ∀ t ∈ l, t ∈ l') : Keeps l' a b := fun t ht => h t fun hx => ht (hs t hx)

def RunKeeps (ih : CodeRun) : Prop := ∀ c nt tm st ex tm' st', ih c nt tm st = some (ex, tm', st') → Keeps (dstsOf c) tm tm'

theorem putDst_keeps {nt : Nat} {tm tm' : T Value} {d : Option Tmp} {v : Value} (h : putDst nt tm d v = some tm') : Keeps d.toList tm tm' := by
  intro t ht
  exact (putDst_get h t).1 (by rintro rfl; simp at ht)

theorem opsA_keeps {cx : Cx} {ov : Ov} {ih : CodeRun} {nt : Nat} {all : List Oper} : ∀ {l : List Oper} {tm tm' : T Value} {st st' : St}, opsA cx ov ih nt all l tm st = some (tm', st') → Keeps (l.filterMap (·.dst)) tm tm' := by
  intro l
  induction l with
  | nil => intro tm tm' st st' h; simp [opsA] at h; obtain ⟨rfl, _⟩ := h; exact Keeps.refl _ _
  | cons o l ih2 =>
    intro tm tm' st st' h
    have step : ∀ {v tm1}, putDst nt tm o.dst v = some tm1 → Keeps ((o :: l).filterMap (·.dst)) tm tm1 := by
      intro v tm1 hp
      refine (putDst_keeps hp).mono fun t ht => ?_
      cases hd : o.dst with
      | none => rw [hd] at ht; simp at ht
      | some d => rw [hd] at ht; simp at ht; subst ht; simp [hd]
    have rest : ∀ {tm1 st1}, opsA cx ov ih nt all l tm1 st1 = some (tm', st') → Keeps ((o :: l).filterMap (·.dst)) tm1 tm' := by
      intro tm1 st1 h1
      refine (ih2 h1).mono fun t ht => ?_
      rw [List.filterMap_cons]
      cases o.dst <;> simp [ht]
    simp only [opsA] at h
    split at h <;> (try (simp at h; done))
    · split at h <;> (try (simp at h; done))
      split at h <;> (try (simp at h; done))
      rename_i hp
      exact (step hp).trans (rest h)
    · split at h <;> (try (simp at h; done))
      rename_i hp
      exact (step hp).trans (rest h)

theorem stepsD_keeps {cx : Cx} {ov : Ov} {ih : CodeRun} {nt : Nat} {all : List Oper} {befs : List Nat} : ∀ {l : List Oper} {i : Nat} {ds ds' : DS}, stepsD cx ov ih nt all befs i l ds = some ds' → Keeps (l.filterMap (·.dst)) ds.tm ds'.tm := by
  intro l
  induction l with
  | nil => intro i ds ds' h; simp [stepsD] at h; subst h; exact Keeps.refl _ _
  | cons o l ih2 =>
    intro i ds ds' h
    simp only [stepsD] at h
    split at h <;> (try (simp at h; done))
    rename_i ds1 h1
    obtain ⟨v, hp⟩ := (stepD_sd h1).put
    refine Keeps.trans (b := ds1.tm) ((putDst_keeps hp).mono fun t ht => ?_) ((ih2 h).mono fun t ht => ?_)
    · cases hd : o.dst with
      | none => rw [hd] at ht; simp at ht
      | some d => rw [hd] at ht; simp at ht; subst ht; simp [hd]
    · rw [List.filterMap_cons]
      cases o.dst <;> simp [ht]

/-! ### the form -/
theorem mapLoop_spec {c : Code} {L : MapLoop} (h : mapLoop c = some L) : ∃ i1 i2 r1 r2, c = .seq (.region i1 r1 false) (.seq (.cond (.tmp L.d2) .skip (.exit L.xid)) (.block L.bid (.seq (.region i2 r2 false) L.rest))) ∧
    r1.toList = [L.oN, L.oX] ∧ r2.toList = L.oE :: L.ops ∧ L.oN.op = .next (.tmp L.it) false ∧ L.oN.dst = some L.d1 ∧ L.oN.guard = none ∧ L.oX.op = .extract (.tmp L.d1) 0 ∧ L.oX.dst = some L.d2 ∧ L.oX.guard = none ∧
    L.oE.op = .entry (.tmp L.it) ∧ L.oE.dst = some L.d3 ∧ L.oE.guard = none := by
  unfold mapLoop at h
  split at h <;> (try (simp at h; done))
  rename_i a b
  split at h <;> (try (simp at h; done))
  rename_i i1 r1 c d
  split at h <;> (try (simp at h; done))
  rename_i x xid bid body
  split at h <;> (try (simp at h; done))
  rename_i e rest
  split at h <;> (try (simp at h; done))
  rename_i i2 r2
  unfold mapLoopOf at h
  split at h <;> (try (simp at h; done))
  rename_i oN oX hr1
  split at h <;> (try (simp at h; done))
  rename_i it hN
  split at h <;> (try (simp at h; done))
  rename_i oE ops hr2
  split at h <;> (try (simp at h; done))
  rename_i it' hE
  split at h <;> (try (simp at h; done))
  rename_i d1' hX
  split at h <;> (try (simp at h; done))
  rename_i d1 d2 d3 d2' hd1 hd2 hd3
  split at h <;> (try (simp at h; done))
  rename_i hc
  simp only [Bool.and_eq_true, Option.isNone_iff_eq_none] at hc
  obtain ⟨⟨⟨⟨⟨h1, h2⟩, h3⟩, h4⟩, h5⟩, h6⟩ := hc
  have h1 := Nat.eq_of_beq_eq_true h1
  have h2 := Nat.eq_of_beq_eq_true h2
  have h3 := Nat.eq_of_beq_eq_true h3
  subst h1; subst h2; subst h3
  simp at h; subst h
  exact ⟨i1, i2, r1, r2, rfl, hr1, hr2, hN, hd1, h4, hX, hd2, h5, hE, hd3, h6⟩

theorem headRound_some {nt : Nat} {L : MapLoop} {tm t3 : T Value} {k v : Value} (h : headRound nt L tm k v = some t3) :
    ∃ t1 t2, putDst nt tm (some L.d1) (.tuple #[.bool true, k, v]) = some t1 ∧ putDst nt t1 (some L.d2) (.bool true) = some t2 ∧ putDst nt t2 (some L.d3) (.tuple #[k, v]) = some t3 := by
  unfold headRound at h
  split at h <;> (try (simp at h; done))
  rename_i t1 h1
  split at h <;> (try (simp at h; done))
  rename_i t2 h2
  exact ⟨t1, t2, h1, h2, h⟩

theorem endRound_some {bid ct : Nat} {c : Int} {tm : T Value} {ok : Bool} {ex : Ex} {r : Rd} (h : endRound bid ct c tm ok ex = some r) :
    r.ct = ct ∧ r.c = c ∧ ((r.lv = none ∧ ok = true ∧ (ex = .normal ∨ ex = .exit bid)) ∨ (r.lv = some (ex, tm) ∧ ex ≠ .normal ∧ ex ≠ .exit bid)) := by
  unfold endRound at h
  split at h
  · split at h <;> (try (simp at h; done))
    simp at h; subst h; exact ⟨rfl, rfl, .inl ⟨rfl, rfl, .inl rfl⟩⟩
  · rename_i b
    split at h
    · rename_i hb
      have := Nat.eq_of_beq_eq_true hb
      subst this
      split at h <;> (try (simp at h; done))
      simp at h; subst h; exact ⟨rfl, rfl, .inl ⟨rfl, rfl, .inr rfl⟩⟩
    · rename_i hb
      simp at h; subst h
      refine ⟨rfl, rfl, .inr ⟨rfl, by simp, fun e => ?_⟩⟩
      injection e with e
      subst e
      simp at hb
  · rename_i h1 h2
    simp at h; subst h
    exact ⟨rfl, rfl, .inr ⟨rfl, fun e => h1 e, fun e => h2 _ e⟩⟩

theorem plainRound_some {cx : Cx} {ov : Ov} {ih : CodeRun} {nt : Nat} {L : MapLoop} {t3 : T Value} {st0 : St} {r : Rd} (h : plainRound cx ov ih nt L t3 st0 = some r) :
    ∃ t4 s4 ex t5 s5, opsA cx ov ih nt (L.oE :: L.ops) L.ops t3 st0 = some (t4, s4) ∧ ih L.rest nt t4 s4 = some (ex, t5, s5) ∧ endRound L.bid s5.ct 0 t5 true ex = some r := by
  unfold plainRound at h
  split at h <;> (try (simp at h; done))
  rename_i t4 s4 h4
  split at h <;> (try (simp at h; done))
  rename_i ex t5 s5 h5
  exact ⟨t4, s4, ex, t5, s5, h4, h5, h⟩

theorem isSign_eq {v : Option Value} {s : Nat} (h : isSign v s = true) : v = some (.chan (some s)) := by
  unfold isSign at h
  split at h <;> (try (simp at h; done))
  rw [Nat.eq_of_beq_eq_true h]

theorem foldRound_some {cx : Cx} {ov : Ov} {ih : CodeRun} {nt : Nat} {L : MapLoop} {F : FoldF} {kd : IntKind} {sg : Nat} {t3 : T Value} {st0 : St} {r : Rd} (h : foldRound cx ov ih nt L F kd sg t3 st0 = some r) :
    ∃ t4 s4 t5 s5 c t6 t7 s7 ex t8 s8, opsA cx ov ih nt (L.oE :: L.ops) L.ops t3 st0 = some (t4, s4) ∧ opsA cx ov ih nt (F.pre ++ F.oB :: F.post) F.pre t4 s4 = some (t5, s5) ∧
      t5.get F.x = some (.chan (some sg)) ∧ t5.get F.y = some (.int kd c) ∧ putDst nt t5 (some F.tb) (.chan (some (sg + 1))) = some t6 ∧ opsA cx ov ih nt (F.pre ++ F.oB :: F.post) F.post t6 s5 = some (t7, s7) ∧
      ih F.rest2 nt t7 s7 = some (ex, t8, s8) ∧ endRound L.bid s8.ct c t8 (isSign (t8.get F.r) (sg + 1)) ex = some r := by
  unfold foldRound at h
  split at h <;> (try (simp at h; done))
  rename_i t4 s4 h4
  split at h <;> (try (simp at h; done))
  rename_i t5 s5 h5
  split at h <;> (try (simp at h; done))
  rename_i k c hx hy
  split at h <;> (try (simp at h; done))
  rename_i t6 hk h6
  simp only [decide_eq_true_eq] at hk
  subst hk
  split at h <;> (try (simp at h; done))
  rename_i t7 s7 h7
  split at h <;> (try (simp at h; done))
  rename_i ex t8 s8 h8
  exact ⟨t4, s4, t5, s5, c, t6, t7, s7, ex, t8, s8, h4, h5, isSign_eq hx, hy, h6, h7, h8, h⟩

theorem isBits_some {o : Oper} {q : BinOp × Nat × Nat × Nat} (h : isBits o = some q) : ∃ t u, o.op = .binOp q.1 t (.tmp q.2.1) (.tmp q.2.2.1) u ∧ o.dst = some q.2.2.2 ∧ bitsOp q.1 = true ∧ o.guard = none := by
  unfold isBits at h
  split at h <;> (try (simp at h; done))
  rename_i op t x y u ho
  split at h <;> (try (simp at h; done))
  rename_i tb hd
  split at h <;> (try (simp at h; done))
  rename_i hb
  simp only [Bool.and_eq_true, Option.isNone_iff_eq_none] at hb
  simp at h; subst h
  exact ⟨t, u, ho, hd, hb.1, hb.2⟩

theorem cutBits_some : ∀ {l pre0 pre post : List Oper} {oB : Oper} {q : BinOp × Nat × Nat × Nat}, cutBits pre0 l = some (pre, oB, q, post) → pre0 ++ l = pre ++ oB :: post ∧ isBits oB = some q := by
  intro l
  induction l with
  | nil => intro pre0 pre post oB q h; simp [cutBits] at h
  | cons o l ih =>
    intro pre0 pre post oB q h
    simp only [cutBits] at h
    split at h
    · rename_i q1 hq
      simp at h; obtain ⟨rfl, rfl, rfl, rfl⟩ := h
      exact ⟨rfl, hq⟩
    · obtain ⟨h1, h2⟩ := ih h
      exact ⟨by rw [← h1]; simp, h2⟩

theorem lastDst_mem : ∀ {l : List Oper} {r : Nat}, lastDst l = some r → r ∈ l.filterMap (·.dst) := by
  intro l
  induction l with
  | nil => intro r h; simp [lastDst] at h
  | cons o l ih =>
    intro r h
    cases l with
    | nil => simp only [lastDst] at h; simp [h]
    | cons o2 l =>
      simp only [lastDst] at h
      have := ih h
      rw [List.filterMap_cons]
      cases o.dst <;> simp [this]

theorem foldOf_some {c : Code} {F : FoldF} (h : foldOf c = some F) : ∃ ops t u, c = .seq (.region F.rid ops false) F.rest2 ∧ ops.toList = F.pre ++ F.oB :: F.post ∧ F.oB.op = .binOp F.op t (.tmp F.x) (.tmp F.y) u ∧ F.oB.dst = some F.tb ∧ F.oB.guard = none ∧
    bitsOp F.op = true ∧ F.r ∈ F.post.filterMap (·.dst) := by
  unfold foldOf at h
  split at h <;> (try (simp at h; done))
  rename_i a rest2
  split at h <;> (try (simp at h; done))
  rename_i rid ops
  split at h <;> (try (simp at h; done))
  rename_i pre oB q post hc
  split at h <;> (try (simp at h; done))
  rename_i r hr
  simp at h; subst h
  obtain ⟨h1, h2⟩ := cutBits_some hc
  obtain ⟨t, u, h3, h4, h5, h6⟩ := isBits_some h2
  exact ⟨ops, t, u, rfl, by simpa using h1, h3, h4, h6, h5, lastDst_mem hr⟩

/-- what a loop assigns -/
structure Asg (L : MapLoop) (asg : List Tmp) : Prop where
  d1 : L.d1 ∈ asg
  d2 : L.d2 ∈ asg
  d3 : L.d3 ∈ asg
  ops : ∀ t ∈ L.ops.filterMap (·.dst), t ∈ asg
  rest : ∀ t ∈ dstsOf L.rest, t ∈ asg

theorem mapLoop_asg {c : Code} {L : MapLoop} (hL : mapLoop c = some L) : Asg L (dstsOf c) := by
  obtain ⟨i1, i2, r1, r2, hc, hr1, hr2, _, hd1, _, _, hd2, _, _, hd3, _⟩ := mapLoop_spec hL
  have h : ∀ t, t = L.d1 ∨ t = L.d2 ∨ t = L.d3 ∨ t ∈ L.ops.filterMap (·.dst) ∨ t ∈ dstsOf L.rest → t ∈ dstsOf c := by
    intro t h
    rw [hc]
    simp only [dstsOf, hr1, hr2, List.mem_append, List.filterMap_cons, hd1, hd2, hd3, List.filterMap_nil, List.mem_cons, List.not_mem_nil, or_false]
    rcases h with h | h | h | h | h <;> simp [h]
  exact ⟨h _ (.inl rfl), h _ (.inr (.inl rfl)), h _ (.inr (.inr (.inl rfl))), fun t ht => h _ (.inr (.inr (.inr (.inl ht)))), fun t ht => h _ (.inr (.inr (.inr (.inr ht))))⟩

/-- and what the sum's region assigns -/
theorem foldOf_asg {L : MapLoop} {F : FoldF} (h : foldOf L.rest = some F) {asg : List Tmp} (ha : Asg L asg) : F.r ∈ asg ∧ F.tb ∈ asg ∧ (∀ t ∈ F.pre.filterMap (·.dst), t ∈ asg) ∧ (∀ t ∈ F.post.filterMap (·.dst), t ∈ asg) ∧ ∀ t ∈ dstsOf F.rest2, t ∈ asg := by
  obtain ⟨ops, t, u, hc, ho, _, hd, _, _, hr⟩ := foldOf_some h
  have key : ∀ t, t ∈ F.pre.filterMap (·.dst) ∨ t = F.tb ∨ t ∈ F.post.filterMap (·.dst) ∨ t ∈ dstsOf F.rest2 → t ∈ asg := by
    intro t ht
    refine ha.rest t ?_
    rw [hc]
    simp only [dstsOf, ho, List.filterMap_append, List.filterMap_cons, hd, List.mem_append, List.mem_cons]
    rcases ht with h | h | h | h <;> simp [h]
  exact ⟨key _ (.inr (.inr (.inl hr))), key _ (.inr (.inl rfl)), fun t h => key t (.inl h), fun t h => key t (.inr (.inr (.inl h))), fun t h => key t (.inr (.inr (.inr h)))⟩

theorem headRound_keeps {nt : Nat} {L : MapLoop} {tm t3 : T Value} {k v : Value} (h : headRound nt L tm k v = some t3) {asg : List Tmp} (ha : Asg L asg) : Keeps asg tm t3 := by
  obtain ⟨t1, t2, h1, h2, h3⟩ := headRound_some h
  intro t ht
  rw [(putDst_get h3 t).1 (by rintro ⟨⟩; exact ht ha.d3), (putDst_get h2 t).1 (by rintro ⟨⟩; exact ht ha.d2), (putDst_get h1 t).1 (by rintro ⟨⟩; exact ht ha.d1)]

theorem roundG_keeps {cx : Cx} {ov : Ov} {ih : CodeRun} (hih : RunKeeps ih) {nt : Nat} {L : MapLoop} {F : FoldI} {tm0 : T Value} {st0 : St} {k v : Value} {r : Rd} {asg : List Tmp} (ha : Asg L asg)
    (hF : ∀ q, F = some q → foldOf L.rest = some q.1) (h : roundG cx ov ih nt L F tm0 st0 k v = some r) {ex : Ex} {t' : T Value} (hl : r.lv = some (ex, t')) : Keeps asg tm0 t' := by
  unfold roundG at h
  split at h
  · split at h <;> (try (simp at h; done))
    rename_i t3 h3
    obtain ⟨t4, s4, ex2, t5, s5, h4, h5, h6⟩ := plainRound_some h
    obtain ⟨_, _, he⟩ := endRound_some h6
    rcases he with ⟨he, _⟩ | ⟨he, _⟩
    · rw [he] at hl; cases hl
    · rw [he] at hl; injection hl with hl; injection hl with e1 e2; subst e2
      exact (headRound_keeps h3 ha).trans (((opsA_keeps h4).mono ha.ops).trans ((hih _ _ _ _ _ _ _ h5).mono ha.rest))
  · rename_i F kd z
    obtain ⟨a1, a2, a3, a4, a5⟩ := foldOf_asg (hF _ rfl) ha
    split at h <;> (try (simp at h; done))
    rename_i t3 h3
    obtain ⟨t4, s4, t5, s5, c, t6, t7, s7, ex2, t8, s8, h4, h5, _, _, h6, h7, h8, h9⟩ := foldRound_some h
    obtain ⟨_, _, he⟩ := endRound_some h9
    rcases he with ⟨he, _⟩ | ⟨he, _⟩
    · rw [he] at hl; cases hl
    · rw [he] at hl; injection hl with hl; injection hl with e1 e2; subst e2
      have k0 : Keeps asg tm0 (tm0.set F.r (.chan (some st0.ct))) := fun t ht => by rw [T.get_set, if_neg (by rintro rfl; exact ht a1)]
      have k6 : Keeps asg t5 t6 := (putDst_keeps h6).mono fun t ht => by simp at ht; subst ht; exact a2
      exact k0.trans ((headRound_keeps h3 ha).trans (((opsA_keeps h4).mono ha.ops).trans (((opsA_keeps h5).mono a3).trans (k6.trans (((opsA_keeps h7).mono a4).trans ((hih _ _ _ _ _ _ _ h8).mono a5))))))

theorem foldI_of {L : MapLoop} {tm : T Value} {F : FoldI} (hF : F = none ∨ F = foldI L tm) : ∀ q, F = some q → foldOf L.rest = some q.1 ∧ tm.get q.1.r = some (.int q.2.1 q.2.2) ∧ q.1.r ≠ L.d1 ∧ q.1.r ≠ L.d2 := by
  intro q hq
  rcases hF with h | h
  · rw [h] at hq; cases hq
  · rw [hq] at h
    unfold foldI at h
    split at h <;> (try (simp at h; done))
    rename_i F1 h1
    split at h <;> (try (simp at h; done))
    rename_i hne
    split at h <;> (try (simp at h; done))
    rename_i k z h2
    simp at h; subst h
    simp only [Bool.or_eq_false_iff] at hne
    exact ⟨h1, h2, fun e => by simp only at e; rw [e] at hne; simp at hne, fun e => by simp only at e; rw [e] at hne; simp at hne⟩

theorem loopM_keeps {cx : Cx} {ov : Ov} {ih : CodeRun} (hih : RunKeeps ih) {c : Code} {L : MapLoop} (hL : mapLoop c = some L) {nt : Nat} {tm tm' : T Value} {st st' : St} {ex : Ex} (h : loopM cx ov ih c L nt tm st = some (ex, tm', st')) : Keeps (dstsOf c) tm tm' := by
  have ha := mapLoop_asg hL
  obtain ⟨F, hF, h⟩ := loopM_some h
  have hF := foldI_of hF
  obtain ⟨a, m, lk, es, ⟨ct, z, lv⟩, _, _, _, _, _, h1, h2⟩ := loopG_some h
  have k0 : Keeps (dstsOf c) tm (forget (dstsOf c) tm) := fun t ht => by rw [forget_get, if_neg ht]
  refine k0.trans ?_
  obtain ⟨_, he⟩ := behindLoop_some h2
  rcases he with ⟨_, _, t1, t2, p1, p2, h3⟩ | ⟨hl, _⟩
  · have k2 : Keeps (dstsOf c) (forget (dstsOf c) tm) t2 := fun t ht => by
      rw [(putDst_get p2 t).1 (by rintro ⟨⟩; exact ht ha.d2), (putDst_get p1 t).1 (by rintro ⟨⟩; exact ht ha.d1)]
    rcases h3 with ⟨_, rfl⟩ | ⟨F', k, z0, hF', _, p3⟩
    · exact k2
    · have hr := (foldOf_asg (hF _ hF').1 ha).1
      exact k2.trans ((putDst_keeps p3).mono fun t ht => by simp at ht; subst ht; exact hr)
  · obtain ⟨_, _, _, _, h5⟩ := sumRounds_spec _ _ _ _ _ _ _ h1
    obtain ⟨_, _, hs⟩ := h5 _ _ hl
    obtain ⟨e, he, r, hr, t0, hlv, hsame⟩ := hs rfl
    intro t ht
    rw [hsame t ht]
    exact roundG_keeps hih ha (fun q hq => (hF q hq).1) hr hlv t ht

theorem findLabel_dsts : ∀ (c : Code) (l : Nat) (r : Code), findLabel c l = some r → ∀ t ∈ dstsOf r, t ∈ dstsOf c := by
  intro c
  induction c with
  | seq a b iha ihb =>
    intro l r h t ht
    simp only [findLabel] at h
    split at h
    · rename_i ra hra
      simp at h; subst h
      simp only [dstsOf, List.mem_append] at ht ⊢
      exact ht.imp (iha _ _ hra t) id
    · simp only [dstsOf, List.mem_append]
      exact .inr (ihb _ _ h t ht)
  | label k =>
    intro l r h t ht
    simp only [findLabel] at h
    split at h
    · simp at h; subst h; simp [dstsOf] at ht
    · cases h
  | _ => intro l r h; simp [findLabel] at h

theorem scopeA_keeps {ih : CodeRun} (hih : RunKeeps ih) {body : Code} {nt : Nat} {l : List Tmp} (hl : ∀ t ∈ dstsOf body, t ∈ l) : ∀ {n : Nat} {c : Code} {tm tm' : T Value} {st st' : St} {ex : Ex}, scopeA ih body nt n c tm st = some (ex, tm', st') → (∀ t ∈ dstsOf c, t ∈ l) → Keeps l tm tm' := by
  intro n
  induction n with
  | zero => intro c tm tm' st st' ex h; simp [scopeA] at h
  | succ n ihn =>
    intro c tm tm' st st' ex h hc
    simp only [scopeA] at h
    split at h <;> (try (simp at h; done))
    rename_i h1
    have b := (hih _ _ _ _ _ _ _ h1).mono hc
    split at h
    · split at h
      · rename_i rest hf
        exact b.trans (ihn h fun t ht => hl t (findLabel_dsts _ _ _ hf t ht))
      · simp at h; obtain ⟨_, rfl, _⟩ := h; exact b
    · simp at h; obtain ⟨_, rfl, _⟩ := h; exact b

theorem stepA_keeps {cx : Cx} {ov : Ov} {ih : CodeRun} (hov : OvMono ov) (hih : RunKeeps ih) : RunKeeps (stepA cx ov ih) := by
  intro c nt tm st ex tm' st' h
  unfold stepA at h
  cases c <;> simp only at h <;> (try (simp at h; done))
  case skip => simp at h; obtain ⟨_, rfl, _⟩ := h; exact Keeps.refl _ _
  case label => simp at h; obtain ⟨_, rfl, _⟩ := h; exact Keeps.refl _ _
  case ret => simp at h; obtain ⟨_, rfl, _⟩ := h; exact Keeps.refl _ _
  case exit => simp at h; obtain ⟨_, rfl, _⟩ := h; exact Keeps.refl _ _
  case goto => simp at h; obtain ⟨_, rfl, _⟩ := h; exact Keeps.refl _ _
  case scope a => exact scopeA_keeps hih (fun t ht => by simp [dstsOf, ht]) h (fun t ht => by simp [dstsOf, ht])
  case rangeFunc f ps as bo =>
    obtain ⟨k, first, captured, v, s2, ls, pend, tm2, nt2, ps2, as2, bo2, _, _, _, _, _, rfl, _⟩ := rangeA_some h
    exact Keeps.refl _ _
  case seq a b =>
    split at h <;> (try (simp at h; done))
    rename_i h1
    have h2 : Keeps (dstsOf (.seq a b)) _ _ := (hih _ _ _ _ _ _ _ h1).mono fun t ht => by simp [dstsOf, ht]
    split at h
    · exact h2.trans ((hih _ _ _ _ _ _ _ h).mono fun t ht => by simp [dstsOf, ht])
    · simp at h; obtain ⟨_, rfl, _⟩ := h; exact h2
  case cond x a b =>
    split at h <;> (try (simp at h; done))
    · exact (hih _ _ _ _ _ _ _ h).mono fun t ht => by simp [dstsOf, ht]
    · exact (hih _ _ _ _ _ _ _ h).mono fun t ht => by simp [dstsOf, ht]
  case block id a =>
    split at h <;> (try (simp at h; done))
    rename_i h1
    have h2 := hih _ _ _ _ _ _ _ h1
    split at h
    · split at h <;> (simp at h; obtain ⟨_, rfl, _⟩ := h; exact h2)
    · simp at h; obtain ⟨_, rfl, _⟩ := h; exact h2
  case loop a =>
    split at h
    · exact fun t ht => hov.keeps a _ _ _ _ _ _ _ (by assumption) h t (by simpa [dstsOf] using ht)
    split at h
    · rename_i hL
      exact loopM_keeps hih hL h
    · split at h <;> (try (simp at h; done))
      rename_i h1
      have h2 := hih _ _ _ _ _ _ _ h1
      split at h
      · exact Keeps.trans h2 (hih _ _ _ _ _ _ _ h)
      · simp at h; obtain ⟨_, rfl, _⟩ := h; exact h2
  case region id ops draw =>
    split at h
    · split at h <;> (try (simp at h; done))
      rename_i h1
      simp at h; obtain ⟨_, rfl, _⟩ := h
      exact opsA_keeps h1
    · split at h <;> (try (simp at h; done))
      rename_i h1
      simp at h; obtain ⟨_, rfl, _⟩ := h
      unfold drawA at h1
      split at h1 <;> (try (simp at h1; done))
      split at h1 <;> (try (simp at h1; done))
      rename_i h2
      simp at h1; obtain ⟨rfl, _⟩ := h1
      exact stepsD_keeps h2

theorem run_keeps {cx : Cx} {ov : Ov} (hov : OvMono ov) : ∀ n, RunKeeps (run cx ov n) := by
  intro n
  induction n with
  | zero => intro c nt tm st ex tm' st' h; simp [run] at h
  | succ n ih => exact stepA_keeps hov ih

end Go.Ai

/-! Ranges over maps: what the model does, and the rule. -/
namespace Go.Ai
open Go

section
variable {P : Program} {w : World}

/-- the same but for what was drawn, and for one object -/
def Turned (w w' : World) (b : Nat) (o : Obj) : Prop := w'.heap = w.heap.setIfInBounds b o ∧ w'.os = w.os ∧ w'.tape = w.tape ∧ w'.output = w.output
def Alike (w w' : World) : Prop := w'.heap = w.heap ∧ w'.os = w.os ∧ w'.tape = w.tape ∧ w'.output = w.output

theorem marks_alike {B : Nat} {w w' : World} {ds : List Deferred} (h : Alike w w') (hm : Marks B w ds) : Marks B w' ds := by
  obtain ⟨rs, h1, h2, h3⟩ := hm
  exact ⟨rs, h1, h2, fun r hr => ⟨(h3 r hr).1, by rw [h.1]; exact (h3 r hr).2⟩⟩

theorem next_nil {b : Nat} {sp : Option Nat} {s l : Nat} {q : Array Nat} {t : TypeId} (hb : w.heap[b]? = some (.mapIter none s q l)) :
    (Instr.next (.pointer (some ⟨b, 0, sp⟩)) false t).run P w = .ok (.tuple #[.bool false]) w := by
  have hg : (getObj b).run P w = .ok (.mapIter none s q l) w := by simp [getObj, Sem.run, hb]
  simp [Instr.next, hg]

theorem choose_next (n : Nat) (hn : 0 < n) : ∃ k w', (choose (.mapNext n)).run P w = .ok k w' ∧ k < n ∧ Alike w w' := by
  rw [run_choose]
  split
  · exact ⟨0, w, rfl, hn, rfl, rfl, rfl, rfl⟩
  · exact ⟨_, w.drew, rfl, Nat.mod_lt _ hn, rfl, rfl, rfl, rfl⟩

theorem next_map {b mb : Nat} {sp : Option Nat} {c last clock : Nat} {seen : Array Nat} {es : Array MapEntry} {t : TypeId} (hb : w.heap[b]? = some (.mapIter (some mb) c seen last)) (hm : w.heap[mb]? = some (.map es clock))
    (hlast : seen.isEmpty = true ∨ last = clock) (hborn : ∀ e ∈ es.toList, e.born < clock) :
    (∃ w', (Instr.next (.pointer (some ⟨b, 0, sp⟩)) false t).run P w = .ok (.tuple #[.bool false]) w' ∧ Alike w w' ∧ ∀ e ∈ es.toList, e.born < c → seen.contains e.born = true) ∨
    ∃ e w', e ∈ es.toList ∧ seen.contains e.born = false ∧ (Instr.next (.pointer (some ⟨b, 0, sp⟩)) false t).run P w = .ok (.tuple #[.bool true, e.key, e.val]) w' ∧ Turned w w' b (.mapIter (some mb) c (seen.push e.born) clock) := by
  have hg : (getObj b).run P w = .ok (.mapIter (some mb) c seen last) w := by simp [getObj, Sem.run, hb]
  have hg2 : (getObj mb).run P w = .ok (.map es clock) w := by simp [getObj, Sem.run, hm]
  have hno : (!seen.isEmpty && !es.isEmpty && es.all (·.born ≥ last)) = false := by
    rcases hlast with h | h
    · simp [h]
    · subst h
      cases hes : es.isEmpty with
      | true => simp
      | false =>
        have hsz : 0 < es.size := by
          rcases Nat.eq_zero_or_pos es.size with h0 | h0
          · rw [Array.isEmpty_iff_size_eq_zero.2 h0] at hes; cases hes
          · exact h0
        have h0 := hborn es[0] (by simp)
        have : es.all (·.born ≥ last) = false := by
          rw [Array.all_eq_false]
          exact ⟨0, hsz, by simp; omega⟩
        simp [this]
  unfold Instr.next
  simp only [Sem.run_bind, hg, hg2, Result.andThen_ok, hno, Bool.false_eq_true, if_false]
  generalize hleft : es.filter (fun e => !seen.contains e.born) = left
  generalize hcand : ((if (left.filter fun e => decide (e.born < c)).isEmpty then #[none] else #[]) ++ (left.filter (fun e => decide (e.born < c)) ++ left.filter fun e => decide (e.born ≥ c)).map some : Array (Option MapEntry)) = cand
  have hpos : 0 < cand.size := by
    rw [← hcand]
    split
    · simp; omega
    · rename_i hne
      have : 0 < (left.filter fun e => decide (e.born < c)).size := by
        rcases Nat.eq_zero_or_pos (left.filter fun e => decide (e.born < c)).size with h0 | h0
        · exact absurd (Array.isEmpty_iff_size_eq_zero.2 h0) hne
        · exact h0
      simp only [Array.size_append, Array.size_map]
      omega
  obtain ⟨k, w1, hk, hlt, hal⟩ := choose_next (P := P) (w := w) cand.size hpos
  have hin : ∀ e, some e ∈ cand.toList → e ∈ es.toList ∧ seen.contains e.born = false := by
    intro e he
    rw [← hcand] at he
    have : e ∈ left := by
      simp only [Array.toList_append, Array.toList_map, List.mem_append, List.mem_map] at he
      rcases he with he | ⟨x, hx, hxe⟩
      · split at he <;> simp at he
      · injection hxe with hxe; subst hxe
        rcases hx with hx | hx <;> (simp only [Array.toList_filter, List.mem_filter] at hx; simpa using hx.1)
    rw [← hleft] at this
    simp only [Array.mem_filter, Bool.not_eq_true'] at this
    exact ⟨by simpa using this.1, this.2⟩
  have hck : cand[k]? = some cand[k] := Array.getElem?_eq_getElem hlt
  have hmem : cand[k] ∈ cand.toList := by simp
  simp only [hk, Result.andThen_ok, hck]
  cases hc : cand[k] with
  | none =>
    refine .inl ⟨w1, by simp, hal, fun e he hb => ?_⟩
    rw [hc] at hmem
    cases hse : seen.contains e.born with
    | true => rfl
    | false =>
      exfalso
      have hel : e ∈ left.filter (fun e => decide (e.born < c)) := by
        rw [Array.mem_filter, ← hleft, Array.mem_filter]
        exact ⟨⟨by simpa using he, by show (!seen.contains e.born) = true; rw [hse]; rfl⟩, by simpa using hb⟩
      have hne : (left.filter fun e => decide (e.born < c)).isEmpty = false := by
        cases hem : (left.filter fun e => decide (e.born < c)).isEmpty with
        | false => rfl
        | true => rw [Array.isEmpty_iff] at hem; rw [hem] at hel; simp at hel
      rw [← hcand, hne] at hmem
      simp at hmem
  | some e =>
    rw [hc] at hmem
    obtain ⟨h1, h2⟩ := hin e hmem
    refine .inr ⟨e, { w1 with heap := w1.heap.setIfInBounds b (.mapIter (some mb) c (seen.push e.born) clock) }, h1, h2, ?_, ?_⟩
    · have hb1 : w1.heap[b]? = some (.mapIter (some mb) c seen last) := by rw [hal.1]; exact hb
      simp only [Sem.run_bind]
      rw [setObj_run hb1 (by simp)]
      simp
    · exact ⟨by rw [hal.1], hal.2.1, hal.2.2.1, hal.2.2.2⟩

theorem entry_map {b mb : Nat} {sp : Option Nat} {c clock : Nat} {seen : Array Nat} {es : Array MapEntry} {e : MapEntry} (hb : w.heap[b]? = some (.mapIter (some mb) c (seen.push e.born) clock)) (hm : w.heap[mb]? = some (.map es clock))
    (he : e ∈ es.toList) (hnd : (es.toList.map (·.born)).Nodup) : (Instr.entry (.pointer (some ⟨b, 0, sp⟩))).run P w = .ok (.tuple #[e.key, e.val]) w := by
  have hg : (getObj b).run P w = .ok (.mapIter (some mb) c (seen.push e.born) clock) w := by simp [getObj, Sem.run, hb]
  have hg2 : (getObj mb).run P w = .ok (.map es clock) w := by simp [getObj, Sem.run, hm]
  have hf : es.find? (·.born == e.born) = some e := by
    rw [← Array.find?_toList]
    have : ∀ (l : List MapEntry), e ∈ l → (l.map (·.born)).Nodup → l.find? (·.born == e.born) = some e := by
      intro l
      induction l with
      | nil => intro h; simp at h
      | cons x l ih =>
        intro h hn
        simp only [List.map_cons, List.nodup_cons] at hn
        rw [List.find?_cons]
        rcases List.mem_cons.1 h with rfl | h
        · simp
        · have hne : (x.born == e.born) = false := by
            cases hx : x.born == e.born with
            | false => rfl
            | true =>
              rw [beq_iff_eq] at hx
              exact absurd (List.mem_map.2 ⟨e, h, hx.symm⟩) hn.1
          simp only [hne]
          exact ih h hn.2
    exact this _ he hnd
  simp [Instr.entry, hg, hg2, hf]

end

theorem Fresh.after' {P : Program} {m m1 : Nat → Option Loc} {G G1 : Nat → AObj → Prop} {w w1 : World} {ct ct1 ct2 ct3 : Nat} (hf : Fresh m ct ct3) (hs : Step (Cx.of P) m G w ct m1 G1 w1 ct1) (h1 : ct ≤ ct1) (h2 : ct2 ≤ ct3) : Fresh m1 ct1 ct2 := by
  intro i hi1 hi2
  cases hm : m1 i with
  | none => rfl
  | some l =>
    rcases hs.dom i l hm with h4 | h4
    · rw [hf i (by omega) (by omega)] at h4; cases h4
    · omega

section
variable {P : Program} {ov : Ov} {ih : CodeRun} {m : Nat → Option Loc} {st : St} {w0 : World}

/-- the heap at the loop's head, in a world in which the iterator alone has turned -/
theorem head_rep (hR : Rep (Cx.of P) m st.G w0) {ia : Nat} {mm : Option Nat} {lk : Bool} (hit : st.hp.get ia = some (.iterM mm lk)) {lit : Loc} (hl : m ia = some lit) {w : World} (hsz : w0.heap.size ≤ w.heap.size)
    (hb : ∀ b, b < w0.heap.size → b ≠ lit.blk → w.heap[b]? = w0.heap[b]?) (ct : Nat) : Rep (Cx.of P) m (⟨st.hp.del ia, ct⟩ : St).G w ∧ Rep (Cx.of P) m (⟨(st.hp.del ia).mapO frz, ct⟩ : St).G w := by
  have old : ∀ id o, (⟨st.hp.del ia, ct⟩ : St).G id o → st.G id o ∧ id ≠ ia := by
    intro id o hg
    simp only [St.G, T.get_del] at hg
    split at hg
    · cases hg
    · rename_i hne; exact ⟨hg, hne⟩
  have same : ∀ id o, (⟨st.hp.del ia, ct⟩ : St).G id o → ∃ l, m id = some l ∧ l.blk < w0.heap.size ∧ l.blk ≠ lit.blk := by
    intro id o hg
    obtain ⟨h1, h2⟩ := old id o hg
    obtain ⟨l, h3, h4⟩ := hR.dom id o h1
    exact ⟨l, h3, h4, fun e => h2 (hR.inj ia id _ o lit l hit h1 rfl hl h3 e.symm).symm⟩
  have obj : ∀ μ, Ext m μ → ∀ id o, (⟨st.hp.del ia, ct⟩ : St).G id o → ObjRep (Cx.of P) μ w id o := by
    intro μ hμ id o hg
    obtain ⟨l, h1, h2, h3⟩ := same id o hg
    refine (hR.obj μ hμ id o (old id o hg).1).congr ?_
    rw [hμ id l h1]
    exact hb _ h2 h3
  have fr : ∀ id o, (⟨(st.hp.del ia).mapO frz, ct⟩ : St).G id o → ∃ o0, (⟨st.hp.del ia, ct⟩ : St).G id o0 ∧ frz o0 = some o := by
    intro id o hg
    simp only [St.G, T.get_mapO, Option.bind_eq_some_iff] at hg
    exact hg
  refine ⟨⟨fun id o hg => ?_, obj, fun i j oi oj li lj hi hj => hR.inj i j oi oj li lj (old _ _ hi).1 (old _ _ hj).1, hR.glob⟩, ⟨fun id o hg => ?_, fun μ hμ id o hg => ?_, fun i j oi oj li lj hi _ hw => ?_, hR.glob⟩⟩
  · obtain ⟨l, h1, h2, _⟩ := same id o hg
    exact ⟨l, h1, by omega⟩
  · obtain ⟨o0, h0, _⟩ := fr id o hg
    obtain ⟨l, h1, h2, _⟩ := same id o0 h0
    exact ⟨l, h1, by omega⟩
  · obtain ⟨o0, h0, hf⟩ := fr id o hg
    have := obj μ hμ id o0 h0
    cases o0 <;> simp only [frz] at hf <;> (try (simp at hf; done)) <;> (simp at hf; subst hf)
    · obtain ⟨cells, e', fz, h1, h2, h3, _, h5, _⟩ := this
      exact ⟨cells, e', fz, h1, h2, h3, (fun h => by cases h), h5, (fun h => by cases h)⟩
    · exact this
  · obtain ⟨o0, _, hf⟩ := fr i oi hi
    cases o0 <;> simp only [frz] at hf <;> (try (simp at hf; done)) <;> (simp at hf; subst hf; simp [AObj.isWr] at hw)

theorem frozen_ro {t : T AObj} {ct id : Nat} {o : AObj} (hg : (⟨t.mapO frz, ct⟩ : St).G id o) : o.isWr = false := by
  simp only [St.G, T.get_mapO, Option.bind_eq_some_iff] at hg
  obtain ⟨o0, _, hf⟩ := hg
  cases o0 <;> simp only [frz] at hf <;> (try (simp at hf; done)) <;> (simp at hf; subst hf; rfl)

/-- at the loop's head -/
structure MJ (m : Nat → Option Loc) (w0 : World) (size ib B : Nat) (tm0 : T Value) (a : Act) (w : World) : Prop where
  hsz : w0.heap.size ≤ w.heap.size
  os : w.os = w0.os
  tape : w.tape = w0.tape
  output : w.output = w0.output
  block : ∀ b, b < w0.heap.size → b ≠ ib → w.heap[b]? = w0.heap[b]?
  tm : TmRep m tm0 a.tmps
  defers : Marks B w a.defers
  size : a.tmps.size = size

theorem eval_tmp {a : Act} {t : Nat} {v : Value} (h : a.tmps[t]? = some v) : a.eval (.tmp t) = v := by
  simp only [Act.eval]
  simp [h]

/-- the two operations at the head -/
theorem head_wp {L : MapLoop} {i1 : Nat} {r1 : Array Oper} (hr1 : r1.toList = [L.oN, L.oX]) (hN : L.oN.op = .next (.tmp L.it) false) (hd1 : L.oN.dst = some L.d1) (hg1 : L.oN.guard = none)
    (hX : L.oX.op = .extract (.tmp L.d1) 0) (hd2 : L.oX.dst = some L.d2) (hg2 : L.oX.guard = none) {Q : Exit → Act → World → Prop} {a : Act} {w w1 : World} {ptr tv v0 : Value} {vs : Array Value}
    (hp : a.tmps[L.it]? = some ptr) (hs1 : L.d1 < a.tmps.size) (htv : tv = .tuple vs) (hv0 : vs[0]? = some v0)
    (hrun : (Instr.next ptr false L.oN.type).run P w = .ok tv w1) (hK : Q .normal ((a.put (some L.d1) tv).put (some L.d2) v0) w1) {ro : Option Nat} : (Code.region i1 r1 false).wpIn (FR ro) 0 P Q a w := by
  refine wpIn_region ?_
  have hsz : r1.size = 2 := by rw [← Array.length_toList, hr1]; rfl
  have h0 : r1[0]? = some L.oN := by rw [← Array.getElem?_toList, hr1]; rfl
  have h1 : r1[1]? = some L.oX := by rw [← Array.getElem?_toList, hr1]; rfl
  have hw : ∀ (o : Oper) y, o.guard = none → Region.wanted o y = true := by intro o y h; unfold Region.wanted; rw [h]
  rw [hsz, show List.range 2 = [0, 1] by rfl]
  simp only [wpOpsIn, h0, h1, hw _ _ hg1, hw _ _ hg2, if_true]
  have e1 : (execOp a.eval L.oN).run P w = .ok (.value tv) w1 := by
    unfold execOp
    rw [hN]
    simp [eval_tmp hp, hrun]
  have e2 : (execOp (a.put (some L.d1) tv).eval L.oX).run P w1 = .ok (.value v0) w1 := by
    unfold execOp
    rw [hX]
    have : (a.put (some L.d1) tv).tmps[L.d1]? = some tv := by
      show (a.tmps.setIfInBounds L.d1 tv)[L.d1]? = _
      rw [Array.getElem?_setIfInBounds_self_of_lt hs1]
    simp only [eval_tmp this]
    subst htv
    simp [Instr.extract, hv0]
  refine ⟨fun _ _ => trivial, ?_⟩
  rw [Oper.semAt_eq _ _ _ (by intro c hc; rw [hN] at hc; cases hc), e1]
  simp only [Oper.uponIn, hd1]
  refine ⟨fun _ _ => trivial, ?_⟩
  rw [Oper.semAt_eq _ _ _ (by intro c hc; rw [hX] at hc; cases hc), e2]
  simp only [Oper.uponIn, hd2]
  exact hK

theorem Rep.setM {cx : Cx} {m : Nat → Option Loc} {G : Nat → AObj → Prop} {w : World} (hR : Rep cx m G w) {id : Nat} (hid : m id = none) (l : Loc) : Rep cx (setM m id l) G w where
  dom := fun i o hg => by
    obtain ⟨k, h1, h2⟩ := hR.dom i o hg
    exact ⟨k, setM_mono hid _ _ h1, h2⟩
  obj := fun μ hμ i o hg => hR.obj μ (hμ.mono (setM_mono hid)) i o hg
  inj := fun i j oi oj li lj hi hj hw hmi hmj => by
    obtain ⟨ki, h1, _⟩ := hR.dom i oi hi
    obtain ⟨kj, h2, _⟩ := hR.dom j oj hj
    rw [setM_mono hid _ _ h1] at hmi
    rw [setM_mono hid _ _ h2] at hmj
    injection hmi with e1; injection hmj with e2; subst e1; subst e2
    exact hR.inj i j oi oj _ _ hi hj hw h1 h2
  glob := fun g hg => setM_mono hid _ _ (hR.glob g hg)

/-- a sign more -/
theorem Step.sign {cx : Cx} {m : Nat → Option Loc} {G : Nat → AObj → Prop} {w : World} (hR : Rep cx m G w) {id : Nat} (hid : m id = none) (l : Loc) {ct ct' : Nat} (h1 : ct ≤ id) (h2 : id < ct') : Step cx m G w ct (setM m id l) G w ct' where
  mono := setM_mono hid
  dom := fun i k h => by
    simp only [Ai.setM] at h
    split at h
    · rename_i e; subst e; exact .inr ⟨h1, h2⟩
    · exact .inl h
  rep := hR.setM hid l
  fr := ⟨Nat.le_refl _, rfl, rfl, rfl, fun _ _ _ => rfl⟩
  prov := fun i o k hg hm => by
    obtain ⟨k2, h3, _⟩ := hR.dom i o hg
    rw [setM_mono hid _ _ h3] at hm; injection hm with e; subst e
    exact .inr ⟨i, o, _, hg, fun h => h, h3, rfl⟩

theorem Step.trans_same {cx : Cx} {m m1 m2 : Nat → Option Loc} {G G1 G2 : Nat → AObj → Prop} {w w1 w2 : World} {ct c2 : Nat} (h : Step cx m G w ct m1 G1 w1 c2) (h' : Step cx m1 G1 w1 ct m2 G2 w2 c2) : Step cx m G w ct m2 G2 w2 c2 where
  mono := fun i l hi => h'.mono i l (h.mono i l hi)
  dom := fun i l hi => (h'.dom i l hi).elim (fun h1 => h.dom i l h1) .inr
  rep := h'.rep
  fr := {
    size := Nat.le_trans h.fr.size h'.fr.size
    os := h'.fr.os.trans h.fr.os
    tape := h'.fr.tape.trans h.fr.tape
    output := h'.fr.output.trans h.fr.output
    block := fun b hb hno => by
      rw [h'.fr.block b (Nat.lt_of_lt_of_le hb h.fr.size) ?_, h.fr.block b hb hno]
      intro id o l hg hw hl he
      rcases h.prov id o l hg hl with h1 | ⟨id0, o0, l0, hg0, hw0, hl0, he0⟩
      · omega
      · exact hno id0 o0 l0 hg0 (hw0 hw) hl0 (he0.trans he) }
  prov := fun id o l hg hl => by
    rcases h'.prov id o l hg hl with h1 | ⟨id0, o0, l0, hg0, hw0, hl0, he0⟩
    · exact .inl (Nat.le_trans h.fr.size h1)
    · rcases h.prov id0 o0 l0 hg0 hl0 with h2 | ⟨id1, o1, l1, hg1, hw1, hl1, he1⟩
      · exact .inl (by omega)
      · exact .inr ⟨id1, o1, l1, hg1, fun h => hw1 (hw0 h), hl1, he1.trans he0⟩

theorem ofInt_wrap (k : IntKind) (n : Int) : BitVec.ofInt k.bits (k.wrap n) = BitVec.ofInt k.bits n := by
  apply BitVec.eq_of_toNat_eq
  rw [BitVec.toNat_ofInt, BitVec.toNat_ofInt]
  have h2 : (((2 ^ k.bits : Nat) : Int)) = (2 ^ k.bits : Int) := by simp
  rw [h2]
  unfold IntKind.wrap
  simp only
  congr 1
  split
  · have e : n % 2 ^ k.bits - 2 ^ k.bits = n % 2 ^ k.bits + 2 ^ k.bits * (-1) := by omega
    rw [e, Int.add_mul_emod_self_left, Int.emod_emod]
  · rw [Int.emod_emod]

theorem bitsI_comm (op : BinOp) (k : IntKind) (z a b : Int) : bitsI op k (bitsI op k z a) b = bitsI op k (bitsI op k z b) a := by
  have back : ∀ x : BitVec k.bits, BitVec.ofInt k.bits (k.wrap (x.toNat : Int)) = x := fun x => by
    rw [ofInt_wrap, BitVec.ofInt_natCast, BitVec.ofNat_toNat, BitVec.setWidth_eq]
  cases op <;> simp only [bitsI, back]
  case and => rw [BitVec.and_assoc, BitVec.and_comm (BitVec.ofInt _ a), ← BitVec.and_assoc]
  case or => rw [BitVec.or_assoc, BitVec.or_comm (BitVec.ofInt _ a), ← BitVec.or_assoc]
  case xor => rw [BitVec.xor_assoc, BitVec.xor_comm (BitVec.ofInt _ a), ← BitVec.xor_assoc]
  all_goals rw [BitVec.and_assoc, BitVec.and_comm (~~~BitVec.ofInt _ a), ← BitVec.and_assoc]

theorem foldZ_comm (F : FoldI) (z a b : Int) : foldZ F (foldZ F z a) b = foldZ F (foldZ F z b) a := by
  cases F with
  | none => rfl
  | some q => exact bitsI_comm _ _ _ _ _

theorem exec_bits {ρ : Operand → Value} {o : Oper} {op : BinOp} {t u : TypeId} {x y : Operand} (ho : o.op = .binOp op t x y u) (hb : bitsOp op = true) {k : IntKind} {z c : Int} (hx : ρ x = .int k z) (hy : ρ y = .int k c) (w : World) :
    (execOp ρ o).run P w = .ok (.value (.int k (bitsI op k z c))) w := by
  unfold execOp
  rw [ho]
  simp only [hx, hy]
  cases op <;> simp [bitsOp] at hb <;> simp [eqGuard, binOp, Op.intBits, bitsI]

def FoldAt (F : FoldI) (a : Act) (z : Int) : Prop := ∀ q, F = some q → a.tmps[q.1.r]? = some (.int q.2.1 z)

/-- behind a round -/
structure Behind (m : Nat → Option Loc) (w0 : World) (size : Nat) (lit : Loc) (B : Nat) (tm0 : T Value) (F : FoldI) (z : Int) (r : Rd) (w1 : World) (a' : Act) (w' : World) : Prop where
  mj : MJ m w0 size lit.blk B tm0 a' w'
  lit : w'.heap[lit.blk]? = w1.heap[lit.blk]?
  sum : r.lv = none → FoldAt F a' (foldZ F z r.c)
  left : ∀ ex t5, r.lv = some (ex, t5) → ∀ t v, t5.get t = some v → flat v = true → a'.tmps[t]? = some v

def outOf (r : Rd) : Exit := match r.lv with | none => .normal | some (ex, _) => exitOf ex

/-- into the body, behind the choice of an entry, up to what stands behind the entry's region -/
theorem entry_wp (hov : OvOk P ov) (hovm : OvMono ov) (hih : RunOk P ih) (hihm : RunMono ih) {L : MapLoop} {i2 : Nat} {r2 : Array Oper} (hr2 : r2.toList = L.oE :: L.ops) (hE : L.oE.op = .entry (.tmp L.it)) (hd3 : L.oE.dst = some L.d3) (hg3 : L.oE.guard = none)
    {nt : Nat} {a : Act} {w1 : World} (hn : nt ≤ a.tmps.size) {e ea : MapEntry} {mX : Nat → Option Loc} {tmX t3 t4 : T Value} {sX s4 : St} (hRX : Rep (Cx.of P) mX sX.G w1) (htX : TmRep mX tmX a.tmps)
    (h3 : headRound nt L tmX ea.key ea.val = some t3) (h4 : opsA (Cx.of P) ov ih nt (L.oE :: L.ops) L.ops t3 sX = some (t4, s4)) (hfX : Fresh mX sX.ct s4.ct) (hek : VRep mX ea.key e.key) (hev : VRep mX ea.val e.val)
    {cp : Value} (hcp : a.tmps[L.it]? = some cp) (hit1 : L.it ≠ L.d1) (hit2 : L.it ≠ L.d2) (hent : (Instr.entry cp).run P w1 = .ok (.tuple #[e.key, e.val]) w1) {ro : Option Nat} {Q : Exit → Act → World → Prop}
    (hrest : ∀ a' w' m4, Step (Cx.of P) mX sX.G w1 sX.ct m4 s4.G w' s4.ct → TmRep m4 t4 a'.tmps → a'.defers = a.defers → a'.tmps.size = a.tmps.size → L.rest.wpIn (FR ro) 0 P (Exit.inBlock L.bid Q) a' w') :
    (Code.block L.bid (.seq (.region i2 r2 false) L.rest)).wpIn (FR ro) 0 P Q ((a.put (some L.d1) (.tuple #[.bool true, e.key, e.val])).put (some L.d2) (.bool true)) w1 := by
  obtain ⟨t1, t2, h1, h2, h3⟩ := headRound_some h3
  have hov2 : VRep mX (.tuple #[ea.key, ea.val]) (.tuple #[e.key, e.val]) := by
    intro μ hμ
    simp [concA_eq, hek μ hμ, hev μ hμ]
  have hov3 : VRep mX (.tuple #[.bool true, ea.key, ea.val]) (.tuple #[.bool true, e.key, e.val]) := by
    intro μ hμ
    simp [concA_eq, hek μ hμ, hev μ hμ]
  obtain ⟨p1, q1, z1⟩ := putDst_rep h1 htX hov3 hn
  obtain ⟨p2, q2, z2⟩ := putDst_rep h2 p1 (cv := .bool true) (fun μ _ => by simp) (by omega)
  obtain ⟨p3, q3, z3⟩ := putDst_rep h3 p2 hov2 (by omega)
  generalize ha2 : (a.put (some L.d1) (.tuple #[.bool true, e.key, e.val])).put (some L.d2) (.bool true) = a2 at *
  have hcp2 : a2.tmps[L.it]? = some cp := by
    rw [← ha2]
    show ((a.tmps.setIfInBounds L.d1 _).setIfInBounds L.d2 _)[L.it]? = _
    rw [Array.getElem?_setIfInBounds_ne (Ne.symm hit2), Array.getElem?_setIfInBounds_ne (Ne.symm hit1)]
    exact hcp
  refine wpIn_block ?_
  refine wpIn_seq ?_
  refine wpIn_region ?_
  have hsz : r2.size = (L.oE :: L.ops).length := by rw [← Array.length_toList, hr2]
  have h0 : r2[0]? = some L.oE := by rw [← Array.getElem?_toList, hr2]; rfl
  have hw : Region.wanted L.oE (yielded r2 a2.tmps) = true := by unfold Region.wanted; rw [hg3]
  have hrange : List.range r2.size = 0 :: (List.range L.ops.length).map (1 + ·) := by
    rw [hsz, List.length_cons, List.range_succ_eq_map]
    simp [Nat.add_comm 1]
  rw [hrange]
  simp only [wpOpsIn, h0, hw, if_true]
  have e1 : (execOp a2.eval L.oE).run P w1 = .ok (.value (.tuple #[e.key, e.val])) w1 := by
    unfold execOp
    rw [hE]
    simp [eval_tmp hcp2, hent]
  refine ⟨fun _ _ => trivial, ?_⟩
  rw [Oper.semAt_eq _ _ _ (by intro c hc; rw [hE] at hc; cases hc), e1]
  simp only [Oper.uponIn, hd3]
  have ho := opsA_sound hov hovm hih hihm 1 L.ops (all := L.oE :: L.ops) ⟨[], by simp⟩ h4 (ro := ro) hRX p3 (by omega) hfX
  rw [show (L.oE :: L.ops).toArray = r2 by rw [← hr2]] at ho
  refine wpOps_mono ?_ ho
  rintro x a' w' ⟨rfl, m4, hs4, ht4, hd4, hz4⟩
  exact hrest a' w' m4 hs4 ht4 (by rw [hd4, q3, q2, q1]) (by rw [hz4, z3, z2, z1])

/-- the body, behind the choice of an entry -/
theorem body_wp (hov : OvOk P ov) (hovm : OvMono ov) (hih : RunOk P ih) (hihm : RunMono ih) (hkeep : RunKeeps ih) {L : MapLoop} {i2 : Nat} {r2 : Array Oper} (hr2 : r2.toList = L.oE :: L.ops) (hE : L.oE.op = .entry (.tmp L.it)) (hd3 : L.oE.dst = some L.d3) (hg3 : L.oE.guard = none)
    {asg : List Tmp} (hasg : Asg L asg) {nt : Nat} {tm0 : T Value} (hno : ∀ t ∈ asg, tm0.get t = none) {F : FoldI} (hF : ∀ q, F = some q → foldOf L.rest = some q.1)
    (hR : Rep (Cx.of P) m st.G w0) {ia : Nat} {mm : Option Nat} {lk : Bool} (hit : st.hp.get ia = some (.iterM mm lk)) {lit : Loc} (hl : m ia = some lit) {ct : Nat} (hf : Fresh m st.ct ct)
    {ea : MapEntry} {r : Rd} (hround : roundG (Cx.of P) ov ih nt L F tm0 ⟨(st.hp.del ia).mapO frz, st.ct⟩ ea.key ea.val = some r) (hcc : r.ct ≤ ct) {size B : Nat} (hn : nt ≤ size) (hB : B ≤ w0.heap.size) {ro : Option Nat} (hro : ro = none ∨ noRF L.rest = true)
    {a : Act} {w : World} (hJ : MJ m w0 size lit.blk B tm0 a w) {w1 : World} (hmk1 : Marks B w1 a.defers) {e : MapEntry} (hek : VRep m ea.key e.key) (hev : VRep m ea.val e.val)
    (hw1s : w1.heap.size = w.heap.size) (hw1o : w1.os = w.os) (hw1t : w1.tape = w.tape) (hw1p : w1.output = w.output) (hw1b : ∀ b, b ≠ lit.blk → w1.heap[b]? = w.heap[b]?) (hlit : lit.blk < w0.heap.size)
    {ptr : Value} (hp : tm0.get L.it = some ptr → ∃ cp, a.tmps[L.it]? = some cp ∧ (Instr.entry cp).run P w1 = .ok (.tuple #[e.key, e.val]) w1) (hptr : tm0.get L.it = some ptr) {z : Int} (hz : FoldAt F a z)
    {K : Exit → Act → World → Prop} (hK : ∀ a' w', Behind m w0 size lit B tm0 F z r w1 a' w' → K (outOf r) a' w') :
    (Code.block L.bid (.seq (.region i2 r2 false) L.rest)).wpIn (FR ro) 0 P K ((a.put (some L.d1) (.tuple #[.bool true, e.key, e.val])).put (some L.d2) (.bool true)) w1 := by
  have hsize : nt ≤ a.tmps.size := by rw [hJ.size]; exact hn
  have hitn : L.it ∉ asg := fun h => by rw [hno _ h] at hptr; cases hptr
  have hit1 : L.it ≠ L.d1 := fun e => hitn (by rw [e]; exact hasg.d1)
  have hit2 : L.it ≠ L.d2 := fun e => hitn (by rw [e]; exact hasg.d2)
  obtain ⟨cp, hcp, hent⟩ := hp hptr
  -- the frozen heap
  have hfr : Rep (Cx.of P) m (⟨(st.hp.del ia).mapO frz, st.ct⟩ : St).G w1 := by
    refine (head_rep hR hit hl (w := w1) (by have := hJ.hsz; omega) (fun b hb hne => ?_) st.ct).2
    rw [hw1b b hne]; exact hJ.block b hb hne
  -- behind it
  have done : ∀ (a' : Act) (w' : World) (m' : Nat → Option Loc) (G' : Nat → AObj → Prop) (c1 c2 : Nat) (tl : T Value), Keeps asg tm0 tl → Step (Cx.of P) m (⟨(st.hp.del ia).mapO frz, st.ct⟩ : St).G w1 c1 m' G' w' c2 → TmRep m' tl a'.tmps → Marks B w' a'.defers → a'.tmps.size = size →
      MJ m w0 size lit.blk B tm0 a' w' ∧ w'.heap[lit.blk]? = w1.heap[lit.blk]? := by
    intro a' w' m' G' c1 c2 tl hkp hs ht' hd' hz'
    have hblk : ∀ b, b < w1.heap.size → w'.heap[b]? = w1.heap[b]? := fun b hb => hs.fr.block b hb fun id o l hg hwr => by rw [frozen_ro hg] at hwr; cases hwr
    refine ⟨⟨?_, ?_, ?_, ?_, ?_, ?_, hd', hz'⟩, hblk _ (by have := hJ.hsz; omega)⟩
    · have := hs.fr.size; have := hJ.hsz; omega
    · exact hs.fr.os.trans (hw1o.trans hJ.os)
    · exact hs.fr.tape.trans (hw1t.trans hJ.tape)
    · exact hs.fr.output.trans (hw1p.trans hJ.output)
    · intro b hb hne
      rw [hblk b (by have := hJ.hsz; omega), hw1b b hne]
      exact hJ.block b hb hne
    · intro t v hv
      have htn : t ∉ asg := fun h => by rw [hno _ h] at hv; cases hv
      obtain ⟨cv0, g1, g2⟩ := hJ.tm t v hv
      obtain ⟨cv, g3, g4⟩ := ht' t v (by rw [hkp t htn]; exact hv)
      have : cv = cv0 := by
        rw [← g4 _ (some0_ext m'), ← (g2.mono hs.mono) _ (some0_ext m')]
      subst this
      exact ⟨cv, g3, g2⟩
  have flatAt : ∀ {m' : Nat → Option Loc} {tl : T Value} {a' : Act}, TmRep m' tl a'.tmps → ∀ t v, tl.get t = some v → flat v = true → a'.tmps[t]? = some v := by
    intro m' tl a' ht' t v hv hfl
    obtain ⟨cv, g1, g2⟩ := ht' t v hv
    have := g2 _ (some0_ext m')
    rw [conc_flat _ _ hfl] at this
    rw [g1, this]
  have out : ∀ {ct' : Nat} {c : Int} {ok : Bool} {tl : T Value} {ex : Ex} {a' : Act} {w' : World}, endRound L.bid ct' c tl ok ex = some r → (r.lv = none → r.c = c ∧ ok = true) → K (outOf r) a' w' → Exit.inBlock L.bid K (exitOf ex) a' w' := by
    intro ct' c ok tl ex a' w' he _ hk
    obtain ⟨_, _, h⟩ := endRound_some he
    rcases h with ⟨h1, _, h2⟩ | ⟨h1, h2, h3⟩
    · simp only [outOf, h1] at hk
      rcases h2 with rfl | rfl
      · exact hk
      · simp only [exitOf, Exit.inBlock, if_true]; exact hk
    · simp only [outOf, h1] at hk
      cases ex with
      | normal => exact absurd rfl h2
      | exit b =>
        simp only [exitOf, Exit.inBlock] at hk ⊢
        rw [if_neg (fun e => h3 (by rw [e]))]; exact hk
      | ret => exact hk
      | goto l => exact hk
  unfold roundG at hround
  split at hround
  · -- no sum
    split at hround <;> (try (simp at hround; done))
    rename_i t3 h3
    obtain ⟨t4, s4, ex, t5, s5, h4, h5, h6⟩ := plainRound_some hround
    have hct4 := opsA_ct hovm hihm h4
    have hct5 := hihm _ _ _ _ _ _ _ h5
    have hre := (endRound_some h6).1
    simp only at hct4
    refine entry_wp hov hovm hih hihm hr2 hE hd3 hg3 hsize hfr hJ.tm h3 h4 (fun i g1 g2 => hf i g1 (by omega)) hek hev hcp hit1 hit2 hent ?_
    intro a' w' m4 hs4 ht4 hd4 hz4
    have hmk4 : Marks B w' a'.defers := by
      rw [hd4]
      exact hmk1.step hfr hs4
    refine wpIn_mono (hih _ _ _ _ _ _ _ h5 ro hro m4 w' a' B hs4.rep ht4 hmk4 (by have := hs4.fr.size; have := hJ.hsz; omega) (by omega) (hf.after' hs4 hct4 (by omega))) ?_
    rintro x a'' w'' ⟨rfl, m5, hs5, ht5, hd5, hz5⟩
    have hkp : Keeps asg tm0 t5 := (headRound_keeps h3 hasg).trans (((opsA_keeps h4).mono hasg.ops).trans ((hkeep _ _ _ _ _ _ _ h5).mono hasg.rest))
    obtain ⟨g1, g2⟩ := done a'' w'' m5 _ _ _ t5 hkp (hs4.trans hs5 hct4 hct5) ht5 hd5 (by rw [hz5, hz4]; exact hJ.size)
    refine out h6 (fun h => ?_) (hK a'' w'' ⟨g1, g2, fun _ q hq => (by cases hq), fun ex2 t2 hlv => ?_⟩)
    · obtain ⟨_, k1, k2⟩ := endRound_some h6
      rcases k2 with ⟨_, k2, _⟩ | ⟨k2, _⟩
      · exact ⟨k1, k2⟩
      · rw [h] at k2; cases k2
    · obtain ⟨_, _, k2⟩ := endRound_some h6
      rcases k2 with ⟨k2, _⟩ | ⟨k2, _⟩
      · rw [k2] at hlv; cases hlv
      · rw [k2] at hlv; injection hlv with hlv; injection hlv with e1 e2; subst e2
        exact flatAt ht5
  · -- a sum
    rename_i F kd z0
    have hFo := hF _ rfl
    obtain ⟨b1, b2, b3, b4, b5⟩ := foldOf_asg hFo hasg
    obtain ⟨ops, t0, u0, hc, hops, hBop, hBd, hBg, hbits, hrm⟩ := foldOf_some hFo
    split at hround <;> (try (simp at hround; done))
    rename_i t3 h3
    obtain ⟨t4, s4, t5, s5, c, t6, t7, s7, ex, t8, s8, h4, h5, hx5, hy5, h6, h7, h8, h9⟩ := foldRound_some hround
    have hct4 := opsA_ct hovm hihm h4
    have hct5 := opsA_ct hovm hihm h5
    have hct7 := opsA_ct hovm hihm h7
    have hct8 := hihm _ _ _ _ _ _ _ h8
    have hre := (endRound_some h9).1
    simp only at hct4
    have hsg0 : m st.ct = none := hf _ (Nat.le_refl _) (by omega)
    have hS0 := Step.sign (cx := Cx.of P) hfr hsg0 ⟨0, 0, 0, .int kd z⟩ (Nat.le_refl _) (show st.ct < st.ct + 2 by omega)
    have hrr := hz _ rfl
    simp only at hrr
    have htX : TmRep (setM m st.ct ⟨0, 0, 0, .int kd z⟩) (tm0.set F.r (.chan (some st.ct))) a.tmps := by
      intro t v hv
      rw [T.get_set] at hv
      split at hv
      · rename_i e; subst e
        injection hv with hv; subst hv
        refine ⟨_, hrr, fun μ hμ => ?_⟩
        simp [conc, hμ _ _ (setM_same _ _), sgn]
      · exact (hJ.tm.mono (setM_mono hsg0)) t v hv
    refine entry_wp hov hovm hih hihm hr2 hE hd3 hg3 hsize (sX := ⟨(st.hp.del ia).mapO frz, st.ct + 2⟩) hS0.rep htX h3 h4 (fun i g1 g2 => ?_) (hek.mono (setM_mono hsg0)) (hev.mono (setM_mono hsg0)) hcp hit1 hit2 hent ?_
    · simp only at g1
      have hne : i ≠ st.ct := by omega
      simp only [Ai.setM, if_neg hne]
      exact hf i (by omega) (by omega)
    intro a' w' m4 hs4 ht4 hd4 hz4
    have hS4 := hS0.trans hs4 (by omega) hct4
    rw [hc]
    rw [hc] at hro
    have hro2 : ro = none ∨ noRF F.rest2 = true := hro.imp id fun h => by
      simp only [noRF, Bool.and_eq_true] at h
      exact h.2
    refine wpIn_seq ?_
    refine wpIn_region ?_
    have hlen : ops.size = F.pre.length + (1 + F.post.length) := by rw [← Array.length_toList, hops]; simp; omega
    have hrange : List.range ops.size = (List.range F.pre.length).map (0 + ·) ++ (F.pre.length :: (List.range F.post.length).map (F.pre.length + 1 + ·)) := by
      rw [hlen, List.range_add, Nat.add_comm 1, List.range_succ_eq_map]
      simp [Function.comp_def, Nat.add_assoc, Nat.add_comm 1]
    rw [hrange]
    refine wpOps_append ?_
    have hoa : (F.pre ++ F.oB :: F.post).toArray = ops := by rw [← hops]
    have ho5 := opsA_sound hov hovm hih hihm 0 F.pre (all := F.pre ++ F.oB :: F.post) ⟨F.oB :: F.post, by simp⟩ h5 (ro := ro) hs4.rep ht4 (by omega) (hf.after' hS4 (by omega) (by omega))
    rw [hoa] at ho5
    refine wpOps_mono ?_ ho5
    rintro x a5 w5 ⟨rfl, m5, hs5, ht5, hd5, hz5⟩
    refine ⟨rfl, ?_⟩
    have hS5 := hS4.trans hs5 (by omega) hct5
    have hat : ops[F.pre.length]? = some F.oB := by rw [← Array.getElem?_toList, hops]; simp
    have hwt : Region.wanted F.oB (yielded ops a5.tmps) = true := by unfold Region.wanted; rw [hBg]
    simp only [wpOpsIn, hat, hwt, if_true]
    obtain ⟨cx1, hcx1, hvx⟩ := ht5 _ _ hx5
    obtain ⟨cy1, hcy1, hvy⟩ := ht5 _ _ hy5
    have ex1 : cx1 = .int kd z := by
      have := hvx _ (some0_ext m5)
      have hm5 : m5 st.ct = some ⟨0, 0, 0, .int kd z⟩ := hs5.mono _ _ (hs4.mono _ _ (setM_same _ _))
      simp only [conc, some0_ext m5 _ _ hm5, sgn] at this
      exact this.symm
    have ey1 : cy1 = .int kd c := by
      have := hvy _ (some0_ext m5)
      simp at this
      exact this.symm
    subst ex1; subst ey1
    have e1 := exec_bits (P := P) (ρ := a5.eval) hBop hbits (eval_tmp hcx1) (eval_tmp hcy1) w5
    refine ⟨fun _ _ => trivial, ?_⟩
    rw [Oper.semAt_eq _ _ _ (by intro c hc; rw [hBop] at hc; cases hc), e1]
    simp only [Oper.uponIn]
    rw [hBd]
    have hsg1 : m5 (st.ct + 1) = none := by
      cases hm : m5 (st.ct + 1) with
      | none => rfl
      | some l =>
        rcases hs5.dom _ _ hm with g1 | g1
        · rcases hs4.dom _ _ g1 with g2 | g2
          · simp only [Ai.setM] at g2
            rw [if_neg (by omega), hf _ (by omega) (by omega)] at g2; cases g2
          · simp only at g2; omega
        · omega
    have hS6 := hS5.trans_same (Step.sign (cx := Cx.of P) hs5.rep hsg1 ⟨0, 0, 0, .int kd (bitsI F.op kd z c)⟩ (Nat.le_succ _) (show st.ct + 1 < s5.ct by omega))
    have hv6 : VRep (setM m5 (st.ct + 1) ⟨0, 0, 0, .int kd (bitsI F.op kd z c)⟩) (.chan (some (st.ct + 1))) (.int kd (bitsI F.op kd z c)) := by
      intro μ hμ
      simp [conc, hμ _ _ (setM_same _ _), sgn]
    obtain ⟨p6, q6, z6⟩ := putDst_rep h6 (ht5.mono (setM_mono hsg1)) hv6 (by omega)
    have ho7 := opsA_sound hov hovm hih hihm (F.pre.length + 1) F.post (all := F.pre ++ F.oB :: F.post) ⟨[], by simp⟩ h7 (ro := ro) hS6.rep p6 (by omega) (hf.after' hS6 (by omega) (by omega))
    rw [hoa] at ho7
    refine wpOps_mono ?_ ho7
    rintro x a7 w7 ⟨rfl, m7, hs7, ht7, hd7, hz7⟩
    have hS7 := hS6.trans hs7 (by omega) hct7
    have hmk7 : Marks B w7 a7.defers := by
      rw [hd7, q6, hd5, hd4]
      exact hmk1.step hfr hS7
    refine wpIn_mono (hih _ _ _ _ _ _ _ h8 ro hro2 m7 w7 a7 B hS7.rep ht7 hmk7 (by have := hS7.fr.size; have := hJ.hsz; omega) (by omega) (hf.after' hS7 (by omega) (by omega))) ?_
    rintro x a8 w8 ⟨rfl, m8, hs8, ht8, hd8, hz8⟩
    have hS8 := hS7.trans hs8 (by omega) hct8
    have hkp : Keeps asg tm0 t8 := by
      have k0 : Keeps asg tm0 (tm0.set F.r (.chan (some st.ct))) := fun t ht => by rw [T.get_set, if_neg (by rintro rfl; exact ht b1)]
      have k6 : Keeps asg t5 t6 := (putDst_keeps h6).mono fun t ht => by simp at ht; subst ht; exact b2
      exact k0.trans ((headRound_keeps h3 hasg).trans (((opsA_keeps h4).mono hasg.ops).trans (((opsA_keeps h5).mono b3).trans (k6.trans (((opsA_keeps h7).mono b4).trans ((hkeep _ _ _ _ _ _ _ h8).mono b5))))))
    obtain ⟨g1, g2⟩ := done a8 w8 m8 _ _ _ t8 hkp hS8 ht8 hd8 (by rw [hz8, hz7, z6, hz5, hz4]; exact hJ.size)
    have hend : r.lv = none → r.c = c ∧ isSign (t8.get F.r) (st.ct + 1) = true := fun h => by
      obtain ⟨_, k1, k2⟩ := endRound_some h9
      rcases k2 with ⟨_, k2, _⟩ | ⟨k2, _⟩
      · exact ⟨k1, k2⟩
      · rw [h] at k2; cases k2
    refine out h9 hend (hK a8 w8 ⟨g1, g2, fun hlv q hq => ?_, fun ex2 t2 hlv => ?_⟩)
    · injection hq with hq; subst hq
      obtain ⟨k1, k2⟩ := hend hlv
      obtain ⟨cv, k3, k4⟩ := ht8 _ _ (isSign_eq k2)
      have hm8 : m8 (st.ct + 1) = some ⟨0, 0, 0, .int kd (bitsI F.op kd z c)⟩ := hs8.mono _ _ (hs7.mono _ _ (setM_same _ _))
      have := k4 _ (some0_ext m8)
      simp only [conc, some0_ext m8 _ _ hm8, sgn] at this
      rw [k3, ← this, k1]; rfl
    · obtain ⟨_, _, k2⟩ := endRound_some h9
      rcases k2 with ⟨k2, _⟩ | ⟨k2, _⟩
      · rw [k2] at hlv; cases hlv
      · rw [k2] at hlv; injection hlv with hlv; injection hlv with e1 e2; subst e2
        exact flatAt ht8

mutual
theorem keyNe_irrefl : ∀ (a : Value), keyNe a a = false
  | .bool a => by simp [keyNe]
  | .int _ a => by simp [keyNe]
  | .string a => by simp [keyNe, eqStr_eq]
  | .agg a => by simp only [keyNe]; exact keyNeA_irrefl a
  | .float .. => by simp [keyNe]
  | .complex .. => by simp [keyNe]
  | .pointer _ => by simp [keyNe]
  | .slice .. => by simp [keyNe]
  | .map _ => by simp [keyNe]
  | .chan _ => by simp [keyNe]
  | .func .. => by simp [keyNe]
  | .nilFunc => by simp [keyNe]
  | .iface .. => by simp [keyNe]
  | .nilIface => by simp [keyNe]
  | .tuple _ => by simp [keyNe]
theorem keyNeA_irrefl : ∀ (a : Array Value), keyNeA a a = false
  | ⟨a⟩ => by simp only [keyNeA]; exact keyNeL_irrefl a
theorem keyNeL_irrefl : ∀ (a : List Value), keyNeL a a = false
  | [] => by simp [keyNeL]
  | x :: a => by simp [keyNeL, keyNe_irrefl x, keyNeL_irrefl a]
end

theorem apartFrom_spec {k : Value} : ∀ (es : List MapEntry), apartFrom k es = true → ∀ e ∈ es, k ≠ e.key := by
  intro es
  induction es with
  | nil => intro _ e he; simp at he
  | cons x es ih =>
    intro h e he
    simp only [apartFrom, Bool.and_eq_true] at h
    rcases List.mem_cons.1 he with rfl | he
    · intro hk; rw [hk, keyNe_irrefl] at h; simp at h
    · exact ih h.2 e he

theorem distinct_spec : ∀ (es : List MapEntry), distinctKeys es = true → ∀ e1 ∈ es, ∀ e2 ∈ es, e1.key = e2.key → e1 = e2 := by
  intro es
  induction es with
  | nil => intro _ e he; simp at he
  | cons x es ih =>
    intro h e1 h1 e2 h2 hk
    simp only [distinctKeys, Bool.and_eq_true] at h
    rcases List.mem_cons.1 h1 with h3 | h3 <;> rcases List.mem_cons.1 h2 with h4 | h4
    · rw [h3, h4]
    · subst h3; exact absurd hk (apartFrom_spec _ h.1 _ h4)
    · subst h4; exact absurd hk.symm (apartFrom_spec _ h.1 _ h3)
    · exact ih h.2 _ h3 _ h4 hk

theorem filter_lt {α : Type} {p q : α → Bool} (hpq : ∀ x, q x = true → p x = true) : ∀ (l : List α) (x : α), x ∈ l → p x = true → q x = false → (l.filter q).length < (l.filter p).length := by
  have le : ∀ (l : List α), (l.filter q).length ≤ (l.filter p).length := by
    intro l
    induction l with
    | nil => simp
    | cons y l ih =>
      rw [List.filter_cons, List.filter_cons]
      cases hq : q y with
      | true => rw [hpq y hq]; simpa using ih
      | false => cases hp : p y <;> simp <;> omega
  intro l
  induction l with
  | nil => intro x h; simp at h
  | cons y l ih =>
    intro x hx hp hq
    rw [List.filter_cons, List.filter_cons]
    rcases List.mem_cons.1 hx with rfl | hx
    · rw [hp, hq]; have := le l; simp; omega
    · have := ih x hx hp hq
      cases hqy : q y with
      | true => rw [hpq y hqy]; simpa using this
      | false => cases hpy : p y <;> simp <;> omega

theorem filter_same {seen : Array Nat} {b : Nat} : ∀ (l : List MapEntry), (∀ x ∈ l, x.born ≠ b) → (l.filter fun x => !(seen.push b).contains x.born) = l.filter fun x => !seen.contains x.born := by
  intro l h
  apply List.filter_congr
  intro x hx
  have hne := h x hx
  simp only [Array.contains_push]
  have : (x.born == b) = false := by simpa using hne
  simp [this]

theorem filter_perm {seen : Array Nat} : ∀ (l : List MapEntry) (e : MapEntry), e ∈ l → (l.map (·.born)).Nodup → seen.contains e.born = false →
    (l.filter fun x => !seen.contains x.born).Perm (e :: l.filter fun x => !(seen.push e.born).contains x.born) := by
  intro l
  induction l with
  | nil => intro e h; cases h
  | cons x l ih =>
    intro e he hn hs
    simp only [List.map_cons, List.nodup_cons] at hn
    by_cases hxe : x = e
    · subst hxe
      have h1 : ∀ y ∈ l, y.born ≠ x.born := fun y hy e => hn.1 (List.mem_map.2 ⟨y, hy, e⟩)
      rw [List.filter_cons, List.filter_cons, filter_same l h1]
      have hs' : ¬ (seen.contains x.born = true) := by rw [hs]; simp
      simp
      simp at hs'
      simp [hs']
    · have he' : e ∈ l := by
        rcases List.mem_cons.1 he with h | h
        · exact absurd h.symm hxe
        · exact h
      have hb : x.born ≠ e.born := fun h => hn.1 (List.mem_map.2 ⟨e, he', h.symm⟩)
      have hrec := ih e he' hn.2 hs
      rw [List.filter_cons, List.filter_cons]
      have hx : (!(seen.push e.born).contains x.born) = !seen.contains x.born := by
        have : (x.born == e.born) = false := by simpa using hb
        simp only [Array.contains_push, this]
        simp
      rw [hx]
      split
      · exact (hrec.cons x).trans (List.Perm.swap e x _)
      · exact hrec

/-- A RANGE OVER A MAP, of which each round by itself leaves all as it is, or adds bits up, or leaves in one way. -/
theorem loopM_sound (hov : OvOk P ov) (hovm : OvMono ov) (hih : RunOk P ih) (hihm : RunMono ih) (hkeep : RunKeeps ih) {c : Code} {L : MapLoop} (hL : mapLoop c = some L) {nt : Nat} {tm tm' : T Value} {st st' : St} {ex : Ex}
    (h : loopM (Cx.of P) ov ih c L nt tm st = some (ex, tm', st')) :
    ∃ k, ∀ ro, (ro = none ∨ noRF c = true) → ∀ m w a B, Rep (Cx.of P) m st.G w → TmRep m tm a.tmps → Marks B w a.defers → B ≤ w.heap.size → nt ≤ a.tmps.size → Fresh m st.ct st'.ct → Code.roundsIn (FR ro) 0 P c (Post (Cx.of P) m st w a.tmps.size B ex tm' st') k a w := by
  obtain ⟨i1, i2, r1, r2, hc, hr1, hr2, hN, hd1, hg1, hX, hd2, hg2, hE, hd3, hg3⟩ := mapLoop_spec hL
  have hasg := mapLoop_asg hL
  obtain ⟨F, hF, h⟩ := loopM_some h
  have hF := foldI_of hF
  have hFo : ∀ q, F = some q → foldOf L.rest = some q.1 := fun q hq => (hF q hq).1
  obtain ⟨ad, mm, lk, es, ⟨ct, zf, lv⟩, hptr, hsp, hoff, hit, hes, hsum, hbeh0⟩ := loopG_some h
  obtain ⟨hst, hbeh⟩ := behindLoop_some hbeh0
  clear hbeh0 h
  simp only at hst
  subst hst
  obtain ⟨hctle, hall, hzf, hnone, hsome⟩ := sumRounds_spec _ _ _ _ _ _ _ hsum
  refine ⟨es.length + 1, fun ro hro m w0 a0 B hR ht hd hB hn hf => ?_⟩
  have hro' : ro = none ∨ noRF L.rest = true := hro.imp id fun h => by
    rw [hc] at h
    simp only [noRF, Bool.and_eq_true] at h
    exact h.2.2.2
  have hz0 : FoldAt F a0 (startZ F) := by
    intro q hq
    obtain ⟨_, h2, _⟩ := hF q hq
    obtain ⟨cv, g1, g2⟩ := ht _ _ h2
    have := g2 _ (some0_ext m)
    simp at this
    subst hq
    rw [g1, ← this]; rfl
  have hrne : ∀ q, F = some q → q.1.r ≠ L.d1 ∧ q.1.r ≠ L.d2 := fun q hq => (hF q hq).2.2
  have hrlt : ∀ q, F = some q → True := fun _ _ => trivial
  generalize htm0 : forget (dstsOf c) tm = tm0 at *
  have htm : TmRep m tm0 a0.tmps := by
    intro t v hv
    rw [← htm0, forget_get] at hv
    split at hv
    · cases hv
    · exact ht t v hv
  have hno : ∀ t ∈ dstsOf c, tm0.get t = none := by
    intro t htt
    rw [← htm0, forget_get, if_pos htt]
  obtain ⟨lit, hl, hlitlt⟩ := hR.dom _ _ hit
  have hμ0 := some0_ext m
  have hloc : ∀ μ, Ext m μ → μ ad.block = lit := fun μ hμ => hμ _ _ hl
  have hob := hR.obj _ hμ0 _ _ hit
  have hbase : lit.base = 0 := by have := hob.1; rw [hloc _ hμ0] at this; exact this
  have hpv : ∀ {a : Act}, TmRep m tm0 a.tmps → a.tmps[L.it]? = some (.pointer (some ⟨lit.blk, 0, none⟩)) := by
    intro a hta
    obtain ⟨cv, g1, g2⟩ := hta _ _ hptr
    have := g2 _ hμ0
    simp only [conc_ptr, concAddr, hloc _ hμ0, hbase, hoff] at this
    rw [g1, ← this]
  -- the two ends
  have post : ∀ (a2 : Act) (w2 : World) (x : Exit), x = exitOf ex → w0.heap.size ≤ w2.heap.size → w2.os = w0.os → w2.tape = w0.tape → w2.output = w0.output → (∀ b, b < w0.heap.size → b ≠ lit.blk → w2.heap[b]? = w0.heap[b]?) →
      TmRep m tm' a2.tmps → Marks B w2 a2.defers → a2.tmps.size = a0.tmps.size → Post (Cx.of P) m st w0 a0.tmps.size B ex tm' ⟨st.hp.del ad.block, ct⟩ x a2 w2 := by
    intro a2 w2 x hx hsz2 ho2 ht2 hp2 hblk htr hmk hz2
    refine ⟨hx, m, ⟨fun _ _ h => h, fun _ _ h => .inl h, (head_rep hR hit hl hsz2 hblk ct).1, ⟨hsz2, ho2, ht2, hp2, fun b hb hno2 => hblk b hb fun e => hno2 _ _ _ hit rfl hl e.symm⟩, ?_⟩, htr, hmk, hz2⟩
    intro id o l hg hml
    simp only [St.G, T.get_del] at hg
    split at hg
    · cases hg
    · exact .inr ⟨id, o, l, hg, fun h => h, hml, rfl⟩
  have over : ∀ (n : Nat) (a : Act) (w w1 : World), MJ m w0 a0.tmps.size lit.blk B tm0 a w → (Instr.next (.pointer (some ⟨lit.blk, 0, none⟩)) false L.oN.type).run P w = .ok (.tuple #[.bool false]) w1 → Alike w w1 →
      (fullOf st mm lk = true → FoldAt F a zf ∧ lv = none) →
      Code.roundsIn (FR ro) 0 P c (Post (Cx.of P) m st w0 a0.tmps.size B ex tm' ⟨st.hp.del ad.block, ct⟩) (n + 1) a w := by
    intro n a w w1 hJ hrun hal hend
    rcases hbeh with ⟨hlv, rfl, t1, t2, hp1, hp2, h3⟩ | ⟨hlv, hfull⟩
    · have hd1lt : L.d1 < nt := ((putDst_get hp1 L.d1).2 rfl).2
      have hd2lt : L.d2 < nt := ((putDst_get hp2 L.d2).2 rfl).2
      rw [roundsIn_succ, hc]
      refine wpIn_seq ?_
      refine head_wp hr1 hN hd1 hg1 hX hd2 hg2 (hpv hJ.tm) (by rw [hJ.size]; omega) rfl (v0 := .bool false) rfl hrun ?_
      refine wpIn_seq ?_
      refine wpIn_cond_false ?_ ?_
      · have : ((a.put (some L.d1) (.tuple #[.bool false])).put (some L.d2) (.bool false)).tmps[L.d2]? = some (.bool false) := by
          show ((a.tmps.setIfInBounds L.d1 _).setIfInBounds L.d2 _)[L.d2]? = _
          rw [Array.getElem?_setIfInBounds_self_of_lt (by simp; rw [hJ.size]; omega)]
        exact eval_tmp this
      · refine wpIn_exit ?_
        have hsize : nt ≤ a.tmps.size := by rw [hJ.size]; exact hn
        obtain ⟨p1, q1, z1⟩ := putDst_rep hp1 hJ.tm (cv := .tuple #[.bool false]) (fun μ _ => by simp [concA_eq]) hsize
        obtain ⟨p2, q2, z2⟩ := putDst_rep hp2 p1 (cv := .bool false) (fun μ _ => by simp) (by omega)
        refine post _ _ _ rfl (by rw [hal.1]; exact hJ.hsz) (hal.2.1.trans hJ.os) (hal.2.2.1.trans hJ.tape) (hal.2.2.2.trans hJ.output) (fun b hb hne => by rw [hal.1]; exact hJ.block b hb hne) ?_
          (by rw [q2, q1]; exact marks_alike hal hJ.defers) (by rw [z2, z1]; exact hJ.size)
        rcases h3 with ⟨_, rfl⟩ | ⟨F', k, z0, rfl, hfull, hp3⟩
        · exact p2
        · intro t v hv
          by_cases hr : t = F'.r
          · subst hr
            have hv' := ((putDst_get hp3 F'.r).2 rfl).1
            rw [hv] at hv'; injection hv' with hv'; subst hv'
            have hfa := (hend hfull).1 _ rfl
            refine ⟨.int k zf, ?_, fun μ _ => by simp⟩
            have n1 := (hrne _ rfl).1
            have n2 := (hrne _ rfl).2
            show ((a.tmps.setIfInBounds L.d1 _).setIfInBounds L.d2 _)[F'.r]? = _
            rw [Array.getElem?_setIfInBounds_ne (Ne.symm n2), Array.getElem?_setIfInBounds_ne (Ne.symm n1)]
            exact hfa
          · rw [(putDst_get hp3 t).1 (by rintro ⟨⟩; exact hr rfl)] at hv
            exact p2 t v hv
    · exact absurd hlv (by rw [(hend hfull).2]; simp)
  have hJ0 : MJ m w0 a0.tmps.size lit.blk B tm0 a0 w0 := ⟨Nat.le_refl _, rfl, rfl, rfl, fun _ _ _ => rfl, htm, hd, rfl⟩
  cases mm with
  | none =>
    have hb := hob.2
    simp only [hloc _ hμ0] at hb
    have hesn : es = [] := by simp [entriesOf] at hes; exact hes
    subst hesn
    refine over 0 a0 w0 w0 hJ0 (next_nil hb) ⟨rfl, rfl, rfl, rfl⟩ fun _ => ?_
    simp only [sumRounds, Option.some.injEq, Prod.mk.injEq] at hsum
    obtain ⟨_, h2, h3⟩ := hsum
    exact ⟨by rw [← h2]; exact hz0, h3.symm⟩
  | some r =>
    obtain ⟨c0, hb, hlkc⟩ := hob.2
    rw [hloc _ hμ0] at hb
    simp only [entriesOf] at hes
    split at hes <;> (try (simp at hes; done))
    rename_i es2 lk2 wr2 hgr
    split at hes <;> (try (simp at hes; done))
    rename_i hdist
    simp at hes; subst hes
    obtain ⟨lr, hlr, hlrlt⟩ := hR.dom _ _ hgr
    have hlocr : ∀ μ, Ext m μ → μ r = lr := fun μ hμ => hμ _ _ hlr
    obtain ⟨es0, clock, hmcl, hmb, hperm, hnd, hborn, hlk2⟩ := map_obj (P := P) hR hgr hμ0
    rw [hlocr _ hμ0] at hb hmb
    have hkeys := (hR.obj _ hμ0 _ _ hgr).2
    have hne : lr.blk ≠ lit.blk := by
      intro e
      rw [e, hb] at hmb; cases hmb
    have hfullc : fullOf st (some r) lk = true → c0 = clock := by
      intro hfu
      simp only [fullOf, hgr, Bool.and_eq_true] at hfu
      rw [hlkc hfu.1, hlk2 hfu.2]
    generalize hone : roundG (Cx.of P) ov ih nt L F tm0 ⟨(st.hp.del ad.block).mapO frz, st.ct⟩ = one at *
    generalize hces : es0.map (concE (some0 m)) = ces at *
    have hlen : ces.length = es2.length := by
      have := hperm.length_eq
      simp only [List.length_map] at this
      rw [← hces, List.length_map, this]
    have hnd' : (ces.map (·.born)).Nodup := by rw [← hces, concE_born]; exact hnd
    have hborn' : ∀ e ∈ ces, e.born < clock := by
      intro e he
      rw [← hces] at he
      obtain ⟨e0, h0, rfl⟩ := List.mem_map.1 he
      exact hborn e0 h0
    -- an entry as it lies, and as it is told
    have told : ∀ e ∈ ces, ∃ e1 ∈ es0, ∃ ea ∈ es2, e1.born = e.born ∧ kvOf ea = kvOf e1 ∧ VRep m ea.key e.key ∧ VRep m ea.val e.val := by
      intro e he
      obtain ⟨j, hj⟩ := List.getElem?_of_mem he
      have at_ : ∀ μ, Ext m μ → ∃ ea ∈ es2, ea.key = e.key ∧ conc μ ea.val = e.val := by
        intro μ hμ
        obtain ⟨es1, clock1, _, hmb1, hperm1, _⟩ := map_obj (P := P) hR hgr hμ
        rw [hlocr _ hμ, hmb] at hmb1
        injection hmb1 with hmb1
        injection hmb1 with hmb1 _
        have hce : ces = es1.map (concE μ) := by simpa using hmb1
        rw [hce, List.getElem?_map, Option.map_eq_some_iff] at hj
        obtain ⟨e1, h1, rfl⟩ := hj
        have : kvOf e1 ∈ es2.map kvOf := hperm1.mem_iff.1 (List.mem_map.2 ⟨e1, List.mem_of_getElem? h1, rfl⟩)
        obtain ⟨ea, hea, hkv⟩ := List.mem_map.1 this
        simp only [kvOf, Prod.mk.injEq] at hkv
        exact ⟨ea, hea, hkv.1, by simp [concE, hkv.2]⟩
      rw [← hces] at he
      obtain ⟨e1, h1, h1e⟩ := List.mem_map.1 he
      have : kvOf e1 ∈ es2.map kvOf := hperm.mem_iff.1 (List.mem_map.2 ⟨e1, h1, rfl⟩)
      obtain ⟨ea, hea, hkv⟩ := List.mem_map.1 this
      have hk : ea.key = e.key := by
        simp only [kvOf, Prod.mk.injEq] at hkv
        rw [hkv.1, ← h1e]; rfl
      refine ⟨e1, h1, ea, hea, by rw [← h1e]; rfl, hkv, fun μ _ => ?_, fun μ hμ => ?_⟩
      · rw [conc_flat μ _ (hkeys ea hea)]; exact hk
      · obtain ⟨ea2, hea2, hk2, hv2⟩ := at_ μ hμ
        have := distinct_spec _ hdist ea hea ea2 hea2 (by rw [hk, hk2])
        subst this
        exact hv2
    have sameKv : ∀ {x y : MapEntry}, kvOf x = kvOf y → one x.key x.val = one y.key y.val := by
      intro x y h
      simp only [kvOf, Prod.mk.injEq] at h
      rw [h.1, h.2]
    have comm : ∀ (l1 l2 : List Int), l1.Perm l2 → ∀ z, l1.foldl (foldZ F) z = l2.foldl (foldZ F) z := fun l1 l2 hp z =>
      hp.foldl_eq' (fun x _ y _ z => foldZ_comm F z x y) z
    have hcOf : es0.map (cOf one) = (es0.map kvOf).map fun kv => match one kv.1 kv.2 with | some r => r.c | none => 0 := by
      rw [List.map_map]; rfl
    have hcOf2 : es2.map (cOf one) = (es2.map kvOf).map fun kv => match one kv.1 kv.2 with | some r => r.c | none => 0 := by
      rw [List.map_map]; rfl
    have hzf0 : (es0.map (cOf one)).foldl (foldZ F) (startZ F) = zf := by
      rw [hzf, hcOf, hcOf2]
      exact comm _ _ (hperm.map _) _
    have main : ∀ (n : Nat) (seen : Array Nat) (last : Nat) (a : Act) (w : World) (z : Int), MJ m w0 a0.tmps.size lit.blk B tm0 a w → w.heap[lit.blk]? = some (.mapIter (some lr.blk) c0 seen last) → (seen.isEmpty = true ∨ last = clock) →
        (ces.filter fun e => !seen.contains e.born).length ≤ n → FoldAt F a z → ((es0.filter fun x => !seen.contains x.born).map (cOf one)).foldl (foldZ F) z = zf →
        (∀ e ∈ es0, seen.contains e.born = true → ∀ r, one e.key e.val = some r → r.lv = none) →
        Code.roundsIn (FR ro) 0 P c (Post (Cx.of P) m st w0 a0.tmps.size B ex tm' ⟨st.hp.del ad.block, ct⟩) (n + 1) a w := by
      intro n
      have ended : ∀ (seen : Array Nat) (a : Act) (z : Int), FoldAt F a z → ((es0.filter fun x => !seen.contains x.born).map (cOf one)).foldl (foldZ F) z = zf → (∀ e ∈ es0, seen.contains e.born = true → ∀ r, one e.key e.val = some r → r.lv = none) →
          (∀ e ∈ ces, e.born < c0 → seen.contains e.born = true) → fullOf st (some r) lk = true → FoldAt F a zf ∧ lv = none := by
        intro seen a z hfa hsm hgo hall2 hfu
        have hcc := hfullc hfu
        have hseen : ∀ e ∈ es0, seen.contains e.born = true := by
          intro e he
          have := hall2 (concE (some0 m) e) (by rw [← hces]; exact List.mem_map.2 ⟨e, he, rfl⟩) (by rw [hcc]; exact hborn e he)
          exact this
        have hnil : (es0.filter fun x => !seen.contains x.born) = [] := by
          rw [List.filter_eq_nil_iff]
          intro x hx
          rw [hseen x hx]; simp
        rw [hnil] at hsm
        simp only [List.map_nil, List.foldl_nil] at hsm
        refine ⟨by rw [← hsm]; exact hfa, ?_⟩
        cases hlv : lv with
        | none => rfl
        | some q =>
          exfalso
          obtain ⟨ex2, tl⟩ := q
          obtain ⟨_, _, hs⟩ := hsome ex2 tl hlv
          obtain ⟨e, he, r2, hr2, t0, ht0, _⟩ := hs rfl
          have : kvOf e ∈ es0.map kvOf := hperm.mem_iff.2 (List.mem_map.2 ⟨e, he, rfl⟩)
          obtain ⟨e1, he1, hkv⟩ := List.mem_map.1 this
          rw [← sameKv hkv] at hr2
          rw [hgo e1 he1 (hseen e1 he1) r2 hr2] at ht0
          cases ht0
      induction n with
      | zero =>
        intro seen last a w z hJ hbw hlast hcount hfa hsm hgo
        have hmw : w.heap[lr.blk]? = some (.map ⟨ces⟩ clock) := by rw [hJ.block _ hlrlt hne]; exact hmb
        rcases next_map (P := P) (sp := none) (t := L.oN.type) hbw hmw hlast (by simpa using hborn') with ⟨w1, hrun, hal, hall2⟩ | ⟨e, w1, he, hse, _, _⟩
        · exact over 0 a w w1 hJ hrun hal (ended seen a z hfa hsm hgo (by simpa using hall2))
        · exfalso
          have : e ∈ ces.filter fun e => !seen.contains e.born := List.mem_filter.2 ⟨by simpa using he, by show (!seen.contains e.born) = true; rw [hse]; rfl⟩
          have h0 : ces.filter (fun e => !seen.contains e.born) = [] := List.eq_nil_of_length_eq_zero (by omega)
          rw [h0] at this; simp at this
      | succ n ihn =>
        intro seen last a w z hJ hbw hlast hcount hfa hsm hgo
        have hmw : w.heap[lr.blk]? = some (.map ⟨ces⟩ clock) := by rw [hJ.block _ hlrlt hne]; exact hmb
        rcases next_map (P := P) (sp := none) (t := L.oN.type) hbw hmw hlast (by simpa using hborn') with ⟨w1, hrun, hal, hall2⟩ | ⟨e, w1, he, hse, hrun, htu⟩
        · exact over _ a w w1 hJ hrun hal (ended seen a z hfa hsm hgo (by simpa using hall2))
        · have hec : e ∈ ces := by simpa using he
          obtain ⟨e1, he1, ea, hea, hb1e, hkv, hvk, hvv⟩ := told e hec
          obtain ⟨rr, hround, hcc⟩ := hall ea hea
          have hd1lt : L.d1 < nt := by
            have hr := hround
            rw [← hone] at hr
            unfold roundG at hr
            split at hr
            · split at hr <;> (try (simp at hr; done))
              rename_i h3
              obtain ⟨t1, t2, p1, _⟩ := headRound_some h3
              exact ((putDst_get p1 L.d1).2 rfl).2
            · split at hr <;> (try (simp at hr; done))
              rename_i h3
              obtain ⟨t1, t2, p1, _⟩ := headRound_some h3
              exact ((putDst_get p1 L.d1).2 rfl).2
          have hd2lt : L.d2 < nt := by
            have hr := hround
            rw [← hone] at hr
            unfold roundG at hr
            split at hr
            · split at hr <;> (try (simp at hr; done))
              rename_i h3
              obtain ⟨t1, t2, _, p1, _⟩ := headRound_some h3
              exact ((putDst_get p1 L.d2).2 rfl).2
            · split at hr <;> (try (simp at hr; done))
              rename_i h3
              obtain ⟨t1, t2, _, p1, _⟩ := headRound_some h3
              exact ((putDst_get p1 L.d2).2 rfl).2
          rw [roundsIn_succ, hc]
          refine wpIn_seq ?_
          refine head_wp hr1 hN hd1 hg1 hX hd2 hg2 (hpv hJ.tm) (by rw [hJ.size]; omega) rfl (v0 := .bool true) rfl hrun ?_
          refine wpIn_seq ?_
          refine wpIn_cond_true ?_ (wpIn_skip ?_)
          · have : ((a.put (some L.d1) (.tuple #[.bool true, e.key, e.val])).put (some L.d2) (.bool true)).tmps[L.d2]? = some (.bool true) := by
              show ((a.tmps.setIfInBounds L.d1 _).setIfInBounds L.d2 _)[L.d2]? = _
              rw [Array.getElem?_setIfInBounds_self_of_lt (by simp; rw [hJ.size]; omega)]
            exact eval_tmp this
          have hlitw : lit.blk < w.heap.size := by have := hJ.hsz; omega
          have hb1 : w1.heap[lit.blk]? = some (.mapIter (some lr.blk) c0 (seen.push e.born) clock) := by
            rw [htu.1]; simp [hlitw]
          have hm1 : w1.heap[lr.blk]? = some (.map ⟨ces⟩ clock) := by
            rw [htu.1, Array.getElem?_setIfInBounds_ne (Ne.symm hne)]; exact hmw
          have hmk1 : Marks B w1 a.defers := by
            obtain ⟨rs, g1, g2, g3⟩ := hJ.defers
            refine ⟨rs, g1, g2, fun r hr => ⟨(g3 r hr).1, ?_⟩⟩
            have hne2 : lit.blk ≠ r := by rintro rfl; have := (g3 _ hr).2; rw [hbw] at this; cases this
            rw [htu.1, Array.getElem?_setIfInBounds_ne hne2]
            exact (g3 r hr).2
          have hround' := hround
          rw [← hone] at hround'
          refine body_wp hov hovm hih hihm hkeep hr2 hE hd3 hg3 hasg hno hFo hR hit hl hf hround' hcc hn hB hro' hJ hmk1 hvk hvv (by rw [htu.1]; simp) htu.2.1 htu.2.2.1 htu.2.2.2
            (fun b hbne => by rw [htu.1, Array.getElem?_setIfInBounds_ne (Ne.symm hbne)]) hlitlt
            (fun _ => ⟨_, hpv hJ.tm, entry_map hb1 hm1 he hnd'⟩) hptr hfa ?_
          rintro a' w' ⟨hJ', hbw', hsumz, hleft⟩
          have hr1e : one e1.key e1.val = some rr := by rw [← sameKv hkv]; exact hround
          cases hlvr : rr.lv with
          | some q =>
            obtain ⟨ex2, t5⟩ := q
            simp only [outOf, hlvr]
            cases hlv : lv with
            | none =>
              obtain ⟨_, hno2⟩ := hnone hlv
              rw [hno2 ea hea rr hround] at hlvr; cases hlvr
            | some q =>
              obtain ⟨ex3, tl⟩ := q
              obtain ⟨hlo, _, hso⟩ := hsome ex3 tl hlv
              obtain ⟨e2, htl⟩ := hlo ea hea rr hround ex2 t5 hlvr
              subst e2
              obtain ⟨e', he', r', hr', t0, ht0, hsrc⟩ := hso rfl
              rw [← hone] at hr'
              have hk0 := roundG_keeps hkeep hasg hFo hr' ht0
              rcases hbeh with ⟨h0, _⟩ | ⟨h0, _⟩
              · rw [hlv] at h0; cases h0
              rw [hlv] at h0; injection h0 with h0; injection h0 with h1 h2; subst h1; subst h2
              have hpost := post a' w' (exitOf ex2) rfl hJ'.hsz hJ'.os hJ'.tape hJ'.output hJ'.block (fun t v hv => by
                by_cases htc : t ∈ dstsOf c
                · obtain ⟨hfl, h5⟩ := htl t htc v hv
                  exact ⟨v, hleft _ _ hlvr t v h5 hfl, fun μ _ => conc_flat μ v hfl⟩
                · rw [hsrc t htc, hk0 t htc] at hv
                  exact hJ'.tm t v hv) hJ'.defers hJ'.size
              obtain ⟨_, _, hex⟩ : True ∧ True ∧ ex2 ≠ .normal := by
                refine ⟨trivial, trivial, ?_⟩
                have hr := hround'
                unfold roundG at hr
                split at hr
                · split at hr <;> (try (simp at hr; done))
                  obtain ⟨_, _, _, _, _, _, _, h9⟩ := plainRound_some hr
                  obtain ⟨_, _, hh⟩ := endRound_some h9
                  rcases hh with ⟨hh, _⟩ | ⟨hh, hh2, _⟩
                  · rw [hlvr] at hh; cases hh
                  · rw [hlvr] at hh; injection hh with hh; injection hh with h1 _; rw [h1]; exact hh2
                · split at hr <;> (try (simp at hr; done))
                  obtain ⟨_, _, _, _, _, _, _, _, _, _, _, _, _, _, _, _, _, _, h9⟩ := foldRound_some hr
                  obtain ⟨_, _, hh⟩ := endRound_some h9
                  rcases hh with ⟨hh, _⟩ | ⟨hh, hh2, _⟩
                  · rw [hlvr] at hh; cases hh
                  · rw [hlvr] at hh; injection hh with hh; injection hh with h1 _; rw [h1]; exact hh2
              cases ex2 with
              | normal => exact absurd rfl hex
              | exit b => exact hpost
              | ret => exact hpost
              | goto l => exact hpost
          | none =>
            simp only [outOf, hlvr]
            rw [hb1] at hbw'
            have hse1 : seen.contains e1.born = false := by rw [hb1e]; exact hse
            have hrec := ihn (seen.push e.born) clock a' w' (foldZ F z rr.c) hJ' hbw' (.inr rfl) ?_ (hsumz hlvr) ?_ ?_
            · rw [hc] at hrec
              exact hrec
            · have := filter_lt (p := fun x : MapEntry => !seen.contains x.born) (q := fun x : MapEntry => !(seen.push e.born).contains x.born) (by
                intro x hx
                simp only [Array.contains_push, Bool.not_or, Bool.and_eq_true] at hx
                first | exact hx.1 | exact hx.2) ces e hec (by show (!seen.contains e.born) = true; rw [hse]; rfl) (by simp)
              omega
            · have hp := (filter_perm (seen := seen) es0 e1 he1 hnd hse1).map (cOf one)
              rw [hb1e] at hp
              rw [comm _ _ hp, List.map_cons, List.foldl_cons] at hsm
              have : cOf one e1 = rr.c := by simp [cOf, hr1e]
              rw [this] at hsm
              exact hsm
            · intro x hx hsx r2 hr2
              simp only [Array.contains_push, Bool.or_eq_true, beq_iff_eq] at hsx
              by_cases hxs : seen.contains x.born = true
              · exact hgo x hx hxs r2 hr2
              · have hxb : x.born = e1.born := by
                  rw [hb1e]
                  rcases hsx with h | h
                  · first | exact h | exact absurd h hxs
                  · first | exact h | exact absurd h hxs
                have hxe : x = e1 := by
                  have : ∀ (l : List MapEntry), (l.map (·.born)).Nodup → ∀ x ∈ l, ∀ y ∈ l, x.born = y.born → x = y := by
                    intro l
                    induction l with
                    | nil => intro _ x hx; cases hx
                    | cons a l ih =>
                      intro hn x hx y hy hxy
                      simp only [List.map_cons, List.nodup_cons] at hn
                      rcases List.mem_cons.1 hx with h1 | h1 <;> rcases List.mem_cons.1 hy with h2 | h2
                      · rw [h1, h2]
                      · subst h1; exact absurd (List.mem_map.2 ⟨y, h2, hxy.symm⟩) hn.1
                      · subst h2; exact absurd (List.mem_map.2 ⟨x, h1, hxy⟩) hn.1
                      · exact ih hn.2 x h1 y h2 hxy
                  exact this es0 hnd x hx e1 he1 hxb
                subst hxe
                rw [hr1e] at hr2; injection hr2 with hr2; subst hr2
                exact hlvr
    refine main es2.length #[] c0 a0 w0 (startZ F) hJ0 hb (.inl rfl) ?_ hz0 ?_ ?_
    · have := List.length_filter_le (fun e : MapEntry => !(#[] : Array Nat).contains e.born) ces
      omega
    · have : (es0.filter fun x => !(#[] : Array Nat).contains x.born) = es0 := by
        rw [List.filter_eq_self]
        intro x _
        simp
      rw [this]; exact hzf0
    · intro e _ hs
      simp at hs

end
end Go.Ai

/-! Soundness of the whole. -/
namespace Go.Ai
open Go

section
variable {P : Program} {ov : Ov}

theorem rounds_mono {F : Fence} {q : Nat} {c : Code} {Q Q' : Exit → Act → World → Prop} (hQ : ∀ e a w, Q e a w → Q' e a w) : ∀ (n : Nat) (a : Act) (w : World), Code.roundsIn F q P c Q n a w → Code.roundsIn F q P c Q' n a w := by
  intro n
  induction n with
  | zero => intro a w h; exact h
  | succ n ih =>
    intro a w h
    rw [roundsIn_succ] at h ⊢
    refine wpIn_mono h ?_
    intro e a' w' he
    cases e <;> first | exact ih _ _ he | exact hQ _ _ _ he

theorem Post.trans {m m1 : Nat → Option Loc} {st st1 st' : St} {w w1 : World} {size B : Nat} {ex : Ex} {tm' : T Value} {e : Exit} {a' : Act} {w' : World}
    (hs : Step (Cx.of P) m st.G w st.ct m1 st1.G w1 st1.ct) (h1 : st.ct ≤ st1.ct) (h2 : st1.ct ≤ st'.ct) (h : Post (Cx.of P) m1 st1 w1 size B ex tm' st' e a' w') : Post (Cx.of P) m st w size B ex tm' st' e a' w' := by
  obtain ⟨he, m', hs', ht, hd, hsz⟩ := h
  exact ⟨he, m', hs.trans hs' h1 h2, ht, hd, hsz⟩

def LoopOk (P : Program) (ih : CodeRun) : Prop := ∀ c nt tm st ex tm' st', ih (.loop c) nt tm st = some (ex, tm', st') →
  ∃ k, ∀ ro, (ro = none ∨ noRF c = true) → ∀ m w a B, Rep (Cx.of P) m st.G w → TmRep m tm a.tmps → Marks B w a.defers → B ≤ w.heap.size → nt ≤ a.tmps.size → Fresh m st.ct st'.ct →
    Code.roundsIn (FR ro) 0 P c (Post (Cx.of P) m st w a.tmps.size B ex tm' st') k a w

theorem loop_step {ih : CodeRun} (hov : OvOk P ov) (hovm : OvMono ov) (hih : RunOk P ih) (hihm : RunMono ih) (hkeep : RunKeeps ih) (hl : LoopOk P ih) : LoopOk P (stepA (Cx.of P) ov ih) := by
  intro c nt tm st ex tm' st' h
  simp only [stepA] at h
  split at h
  · rename_i g hg
    exact hov.lp _ _ _ _ _ _ _ _ hg h
  split at h
  · rename_i L hL
    exact loopM_sound hov hovm hih hihm hkeep hL h
  split at h <;> (try (simp at h; done))
  rename_i ex1 tm1 st1 hb
  have hct1 := hihm _ _ _ _ _ _ _ hb
  split at h
  · obtain ⟨k, hk⟩ := hl _ _ _ _ _ _ _ h
    have hct2 := hihm _ _ _ _ _ _ _ h
    refine ⟨k + 1, fun ro hro m w a B hR ht hd hB hn hf => ?_⟩
    rw [roundsIn_succ]
    refine wpIn_mono (hih _ _ _ _ _ _ _ hb ro hro m w a B hR ht hd hB hn (fun i h1 h2 => hf i h1 (by omega))) ?_
    rintro e a' w' ⟨rfl, m1, hs, ht1, hd1, hsz⟩
    refine rounds_mono ?_ _ _ _ (hk ro hro m1 w' a' B hs.rep ht1 hd1 (by have := hs.fr.size; omega) (by omega) (hf.after hs hct1))
    intro e a2 w2 hp
    rw [hsz] at hp
    exact hp.trans hs hct1 hct2
  · rename_i hne
    simp at h; obtain ⟨rfl, rfl, rfl⟩ := h
    refine ⟨1, fun ro hro m w a B hR ht hd hB hn hf => ?_⟩
    rw [roundsIn_succ]
    refine wpIn_mono (hih _ _ _ _ _ _ _ hb ro hro m w a B hR ht hd hB hn hf) ?_
    rintro e a' w' ⟨rfl, h2⟩
    cases ex1 with
    | normal => exact absurd rfl hne
    | exit id => exact ⟨rfl, h2⟩
    | ret => exact ⟨rfl, h2⟩
    | goto l => exact ⟨rfl, h2⟩

/-! ### scopes -/
section
variable {F : Fence} {n : Nat} {Q : Exit → Act → World → Prop} {a : Act} {w : World}
theorem stepR_scope {b : Frame} {k : List Item} {cs : List Frame} {c : Code} : step P (lone (b.atR a (.code (.scope c) :: k)) cs w) = .next (lone (b.atR a (.code c :: .inScope c :: k)) cs w) :=
  step_lone_go (by simp [stepG, stepG.exec, Frame.atR])
theorem stepR_inScope {b : Frame} {k : List Item} {cs : List Frame} {c : Code} : step P (lone (b.atR a (.inScope c :: k)) cs w) = .next (lone (b.atR a k) cs w) :=
  step_lone_go (by simp [stepG, stepG.exec, Frame.atR])

/-- so many jumps at most -/
def scopeIn (F : Fence) (n : Nat) (P : Program) (body : Code) (Q : Exit → Act → World → Prop) : Nat → Code → Act → World → Prop
  | 0, _, _, _ => False
  | k + 1, c, a, w => c.wpIn F n P (fun e a' w' => match e with
      | .goto l => (∃ rest, findLabel body l = some rest ∧ scopeIn F n P body Q k rest a' w') ∨ (findLabel body l = none ∧ Q (.goto l) a' w')
      | e => Q e a' w') a w

theorem wpIn_scope {body : Code} (k : Nat) (h : scopeIn F n P body Q k body a w) : (Code.scope body).wpIn F n P Q a w := by
  intro b kk cs hro hb hr
  have key : ∀ k c a w, scopeIn F n P body Q k c a w → ∃ e a' w', Q e a' w' ∧ ArrivesIn (Machine.fenced P F) P (lone (b.atR a (.code c :: .inScope body :: kk)) cs w) b kk cs e a' w' := by
    intro k
    induction k with
    | zero => intro c a w h; exact h.elim
    | succ k ih =>
      intro c a w h
      obtain ⟨e, a₁, w₁, hq, harr⟩ := h b (.inScope body :: kk) cs hro hb hr
      have hx : ∀ id, exitTo id (.inScope body :: kk) = exitTo id kk := fun id => by simp [exitTo]
      cases e with
      | normal => exact ⟨.normal, a₁, w₁, hq, harr.trans (.one (fenced_calm hb hr rfl) stepR_inScope)⟩
      | exit id => exact ⟨.exit id, a₁, w₁, hq, fun k' hk => harr.1 k' (by rw [hx]; exact hk), fun hr' hk => harr.2 hr' (by rw [hx]; exact hk)⟩
      | ret => exact ⟨_, a₁, w₁, hq, harr⟩
      | panic ch => exact ⟨_, a₁, w₁, hq, harr⟩
      | outgrown => exact ⟨_, a₁, w₁, hq, harr⟩
      | goto l =>
        rcases hq with ⟨rest, hf, hs⟩ | ⟨hf, hq⟩
        · obtain ⟨e₂, a₂, w₂, hq₂, harr₂⟩ := ih _ _ _ hs
          exact ⟨e₂, a₂, w₂, hq₂, .of_steps (harr.1 _ (by simp [gotoIn, hf])) harr₂⟩
        · have hg : gotoIn l (.inScope body :: kk) = gotoIn l kk := by simp [gotoIn, hf]
          exact ⟨.goto l, a₁, w₁, hq, fun k' hk => harr.1 k' (by rw [hg]; exact hk), fun hr' hk => harr.2 hr' (by rw [hg]; exact hk)⟩
  obtain ⟨e, a₁, w₁, hq, harr⟩ := key k body a w h
  exact ⟨e, a₁, w₁, hq, .of_steps (.one (fenced_calm hb hr rfl) stepR_scope) harr⟩

theorem scopeIn_mono {body : Code} {Q' : Exit → Act → World → Prop} (hQ : ∀ e a w, Q e a w → Q' e a w) : ∀ (k : Nat) (c : Code) (a : Act) (w : World), scopeIn F n P body Q k c a w → scopeIn F n P body Q' k c a w := by
  intro k
  induction k with
  | zero => intro c a w h; exact h
  | succ k ih =>
    intro c a w h
    simp only [scopeIn] at h ⊢
    refine wpIn_mono h ?_
    intro e a' w' he
    cases e with
    | goto l => exact he.imp (fun ⟨r, h1, h2⟩ => ⟨r, h1, ih _ _ _ h2⟩) (fun ⟨h1, h2⟩ => ⟨h1, hQ _ _ _ h2⟩)
    | _ => exact hQ _ _ _ he
end

theorem noRF_label : ∀ (c : Code) (l : Nat) (r : Code), findLabel c l = some r → noRF c = true → noRF r = true := by
  intro c
  induction c with
  | seq a b iha ihb =>
    intro l r h hn
    simp only [noRF, Bool.and_eq_true] at hn
    simp only [findLabel] at h
    split at h
    · rename_i ra hra
      simp at h; subst h
      simp only [noRF, Bool.and_eq_true]
      exact ⟨iha _ _ hra hn.1, hn.2⟩
    · exact ihb _ _ h hn.2
  | label k =>
    intro l r h _
    simp only [findLabel] at h
    split at h
    · simp at h; subst h; rfl
    · cases h
  | _ => intro l r h; simp [findLabel] at h

theorem scopeA_sound {ih : CodeRun} (hih : RunOk P ih) (hihm : RunMono ih) {body : Code} {nt : Nat} {ro : Option Nat} (hb : ro = none ∨ noRF body = true) : ∀ (n : Nat) {c : Code} {tm tm' : T Value} {st st' : St} {ex : Ex}, scopeA ih body nt n c tm st = some (ex, tm', st') → (ro = none ∨ noRF c = true) →
    ∀ m w a B, Rep (Cx.of P) m st.G w → TmRep m tm a.tmps → Marks B w a.defers → B ≤ w.heap.size → nt ≤ a.tmps.size → Fresh m st.ct st'.ct →
      scopeIn (FR ro) 0 P body (Post (Cx.of P) m st w a.tmps.size B ex tm' st') n c a w := by
  intro n
  induction n with
  | zero => intro c tm tm' st st' ex h; simp [scopeA] at h
  | succ n ihn =>
    intro c tm tm' st st' ex h hc m w a B hR ht hd hB hn hf
    simp only [scopeA] at h
    split at h <;> (try (simp at h; done))
    rename_i ex1 tm1 st1 h1
    have hct1 := hihm _ _ _ _ _ _ _ h1
    simp only [scopeIn]
    split at h
    · rename_i l
      split at h
      · rename_i rest hfl
        have hct2 := scopeA_ct hihm h
        refine wpIn_mono (hih _ _ _ _ _ _ _ h1 ro hc m w a B hR ht hd hB hn (fun i g1 g2 => hf i g1 (by omega))) ?_
        rintro e a' w' ⟨rfl, m1, hs, ht1, hd1, hsz⟩
        refine .inl ⟨rest, hfl, ?_⟩
        refine scopeIn_mono ?_ _ _ _ _ (ihn h (hb.imp id (noRF_label _ _ _ hfl)) m1 w' a' B hs.rep ht1 hd1 (by have := hs.fr.size; omega) (by omega) (hf.after hs hct1))
        intro e a2 w2 hp
        rw [hsz] at hp
        exact hp.trans hs hct1 hct2
      · rename_i hfl
        simp at h; obtain ⟨rfl, rfl, rfl⟩ := h
        refine wpIn_mono (hih _ _ _ _ _ _ _ h1 ro hc m w a B hR ht hd hB hn hf) ?_
        rintro e a' w' ⟨rfl, h2⟩
        exact .inr ⟨hfl, rfl, h2⟩
    · rename_i hne
      simp at h; obtain ⟨rfl, rfl, rfl⟩ := h
      refine wpIn_mono (hih _ _ _ _ _ _ _ h1 ro hc m w a B hR ht hd hB hn hf) ?_
      rintro e a' w' ⟨rfl, h2⟩
      cases ex1 with
      | normal => exact ⟨rfl, h2⟩
      | exit id => exact ⟨rfl, h2⟩
      | ret => exact ⟨rfl, h2⟩
      | goto l => exact absurd rfl (hne l)

/-- one block more, which no object has -/
theorem Step.pad {m : Nat → Option Loc} {G : Nat → AObj → Prop} {w w1 : World} {ct : Nat} (hR : Rep (Cx.of P) m G w) (hsz : w.heap.size ≤ w1.heap.size) (hos : w1.os = w.os) (htp : w1.tape = w.tape) (hout : w1.output = w.output)
    (hsame : ∀ b, b < w.heap.size → w1.heap[b]? = w.heap[b]?) : Step (Cx.of P) m G w ct m G w1 ct where
  mono := fun _ _ h => h
  dom := fun _ _ h => .inl h
  rep := {
    dom := fun id o hg => by obtain ⟨l, h1, h2⟩ := hR.dom id o hg; exact ⟨l, h1, by omega⟩
    obj := fun μ hμ id o hg => by
      obtain ⟨l, h1, h2⟩ := hR.dom id o hg
      refine (hR.obj μ hμ id o hg).congr (hsame _ ?_)
      rw [hμ id l h1]; exact h2
    inj := hR.inj
    glob := hR.glob }
  fr := ⟨hsz, hos, htp, hout, fun b hb _ => hsame b hb⟩
  prov := fun id o l hg hm => .inr ⟨id, o, l, hg, fun h => h, hm, rfl⟩

/-- A RANGE OVER A FUNCTION. -/
theorem rangeA_sound {ih : CodeRun} (hov : OvOk P ov) (hovm : OvMono ov) (hih : RunOk P ih) (hihm : RunMono ih) {f : Operand} {ps : Array Tmp} {assign body : Code} {nt : Nat} {tm tm' : T Value} {st st' : St} {ex : Ex}
    (h : rangeA (Cx.of P) ov ih f ps.toList assign body nt tm st = some (ex, tm', st')) {m : Nat → Option Loc} {w : World} {a : Act} {B : Nat}
    (hR : Rep (Cx.of P) m st.G w) (ht : TmRep m tm a.tmps) (hd : Marks B w a.defers) (hB : B ≤ w.heap.size) (hn : nt ≤ a.tmps.size) (hf : Fresh m st.ct st'.ct) :
    (Code.rangeFunc f ps assign body).wpIn (FR none) 0 P (Post (Cx.of P) m st w a.tmps.size B ex tm' st') a w := by
  obtain ⟨k, first, captured, v, s2, ls, pend, tm2, nt2, ps2, as2, bo2, hfv, hent, hcall, hg2, hbusy, rfl, rfl, hpend⟩ := rangeA_some h
  have hctc := callA_ct hovm hihm hcall
  simp only at hctc hf
  refine wpIn_rangeFunc fun fn _ => ?_
  -- the two new blocks
  obtain ⟨rec, hrec⟩ : ∃ rec : Loop, rec = { state := .ready, pending := none, fn, tmps := a.tmps, params := ps, assign, body, defers := w.heap.size } := ⟨_, rfl⟩
  obtain ⟨W0, hW0⟩ : ∃ W0, w.alloc (.deferred (some [])) = W0 := ⟨_, rfl⟩
  obtain ⟨W1, hW1⟩ : ∃ W1, W0.alloc (.loop rec) = W1 := ⟨_, rfl⟩
  have hsz0 : W0.heap.size = w.heap.size + 1 := by rw [← hW0]; exact World.size_alloc ..
  have hsz1 : W1.heap.size = w.heap.size + 2 := by rw [← hW1, World.size_alloc, hsz0]
  have old0 : ∀ b, b < w.heap.size → W0.heap[b]? = w.heap[b]? := by
    intro b hb
    rw [← hW0]
    show (w.heap.push _)[b]? = _
    rw [Array.getElem?_push]; simp [Nat.ne_of_lt hb]
  have old1 : ∀ b, b < W0.heap.size → W1.heap[b]? = W0.heap[b]? := by
    intro b hb
    rw [← hW1]
    show (W0.heap.push _)[b]? = _
    rw [Array.getElem?_push]; simp [Nat.ne_of_lt hb]
  have here0 : W0.heap[w.heap.size]? = some (.deferred (some [])) := by
    rw [← hW0]
    show (w.heap.push _)[w.heap.size]? = _
    simp
  have here1 : W1.heap[w.heap.size + 1]? = some (.loop rec) := by
    rw [← hW1, ← hsz0]
    show (W0.heap.push _)[W0.heap.size]? = _
    simp
  have hs0 : Step (Cx.of P) m st.G w st.ct m st.G W0 st.ct := Step.pad hR (by omega) (by rw [← hW0]; rfl) (by rw [← hW0]; rfl) (by rw [← hW0]; rfl) old0
  have hid : m st.ct = none := hf _ (Nat.le_refl _) (by omega)
  have hnew : New W0 W1 := ⟨by omega, by rw [← hW1]; rfl, by rw [← hW1]; rfl, by rw [← hW1]; rfl, old1⟩
  have hs1 := Step.newObj (ob := .loopO .ready none tm' nt ps.toList assign body) (l := ⟨w.heap.size + 1, 0, 0, .nilFunc⟩) hs0.rep hid hnew (by rw [hsz0]) (by
    intro μ hμ
    have hloc : μ st.ct = ⟨w.heap.size + 1, 0, 0, .nilFunc⟩ := hμ _ _ (setM_same _ _)
    refine ⟨by rw [hloc], rec, by rw [hloc]; exact here1, by rw [hrec], by rw [hrec]; rfl, fun t v hv => ?_, by rw [hrec]; exact hn, by rw [hrec], by rw [hrec], by rw [hrec]⟩
    obtain ⟨cv, g1, g2⟩ := ht t v hv
    rw [hrec, g1, g2 μ (hμ.mono (setM_mono hid))])
  have hs01 := hs0.trans hs1 (Nat.le_refl _) (Nat.le_succ _)
  have hl1 : setM m st.ct ⟨w.heap.size + 1, 0, 0, .nilFunc⟩ st.ct = some ⟨w.heap.size + 1, 0, 0, .nilFunc⟩ := setM_same _ _
  -- the call
  have hfn := eval_rep (P := P) hR.glob ht f _ hfv
  have hμ0 := some0_ext m
  have hfn0 := hfn _ hμ0
  simp only [conc_func, concFn_func] at hfn0
  have hargs : VReps (setM m st.ct ⟨w.heap.size + 1, 0, 0, .nilFunc⟩) (first.toList ++ .func (.yield st.ct) #[] #[] :: captured.toList) ((concA (some0 m) first).toList ++ .func (.yield (w.heap.size + 1)) #[] #[] :: (concA (some0 m) captured).toList) := by
    intro μ hμ
    have h1 := hfn μ (hμ.mono (setM_mono hid))
    rw [← hfn0] at h1
    simp only [conc_func, concFn_func, Value.func.injEq, true_and] at h1
    have hloc : μ st.ct = ⟨w.heap.size + 1, 0, 0, .nilFunc⟩ := hμ _ _ (setM_same _ _)
    rw [List.map_append, List.map_cons, ← concA_toList, ← concA_toList, h1.1, h1.2]
    simp [hloc, concA_eq]
  have hfo := callA_sound hov hovm hih hihm hcall hs1.rep hargs (Fresh.after (ct2 := s2.ct) hf hs01 (Nat.le_succ _))
  obtain ⟨fnk, hfnk, hbk, hnk⟩ : ∃ fnk, P.funcs[k]? = some fnk ∧ fnk.body.isSome = true ∧ fnk.name ≠ "runtime.NumGoroutine" := by
    unfold entersA at hent
    rw [Cx.fn_get] at hent
    split at hent
    · rename_i fnk hk
      simp only [Bool.and_eq_true, Bool.not_eq_true', decide_eq_false_iff_not] at hent
      exact ⟨fnk, hk, hent.1, hent.2⟩
    · cases hent
  have hrunk : ∀ args W, (callFunc k args).run P W = .ok (.enter k args) W := by
    intro args W
    obtain ⟨c, hc⟩ := Option.isSome_iff_exists.1 hbk
    simp [callFunc, hfnk, hnk, hc]
  have hcalls : Calls P k ((concA (some0 m) first).toList ++ .func (.yield (w.heap.size + 1)) #[] #[] :: (concA (some0 m) captured).toList).toArray W1 fun e w' => ∃ x, e = .returned x ∧ CallPost (Cx.of P) (setM m st.ct ⟨w.heap.size + 1, 0, 0, .nilFunc⟩) ⟨st.hp.set st.ct (.loopO .ready none tm' nt ps.toList assign body), st.ct + 1⟩ W1 v s2 x w' := by
    rcases hfo with ⟨cv, w', h1, _⟩ | ⟨_, h2⟩
    · rw [hrunk] at h1; cases h1
    · exact h2
  refine ⟨w.heap.size + 1, [mark w.heap.size], W1, { target := .fn (.func k) (concA (some0 m) captured), args := concA (some0 m) first ++ #[.func (.yield (w.heap.size + 1)) #[] #[]] }, W1, k,
    ((concA (some0 m) first).toList ++ .func (.yield (w.heap.size + 1)) #[] #[] :: (concA (some0 m) captured).toList).toArray, W1, ?_, ?_, fun _ _ => trivial, ?_, fun h => by simp [FR, Fence.wide] at h, ?_⟩
  · show (Instr.enterLoop fn a.tmps ps assign body none).run P w = _
    simp only [Instr.enterLoop, Sem.run_bind, run_newObj, Result.andThen_ok, Sem.run_pure]
    rw [← hW1, ← hW0, hrec]
    have e1 : (w.heap.push (.deferred (some []))).size = w.heap.size + 1 := by simp
    rw [e1]
    rfl
  · simp only [resolve]
    rw [← hfn0]
    simp [Deferred.ofValue, Act.eval]
  · simp only [invoke]
    refine (hrunk _ _).trans ?_
    congr 2
    apply Array.ext'; simp
  · refine callsIn_wide.2 (hcalls.mono ?_)
    rintro e w3 ⟨x, rfl, m3, hs3, _⟩
    have hl3 := hs3.mono _ _ hl1
    have all3 : Step (Cx.of P) m st.G w st.ct m3 s2.G w3 s2.ct := hs01.trans hs3 (Nat.le_succ _) hctc
    obtain ⟨_, r3, hb3, hst3, hpe3, _⟩ := loop_obj hs3.rep hg2 hl3
    have hend : (Instr.endLoop (w.heap.size + 1)).run P w3 = .ok (pend.map jumpOf) { w3 with heap := w3.heap.setIfInBounds (w.heap.size + 1) (.loop { r3 with state := .exhausted }) } := by
      simp only [Instr.endLoop, Sem.run_bind, getLoop_run hb3, Result.andThen_ok]
      have hnb : (r3.state == .busy) = false := by
        rw [hst3]
        cases ls <;> first | rfl | exact absurd rfl hbusy
      simp [hnb, setObj_run hb3, hpe3]
    have hlt3 : w.heap.size + 1 < w3.heap.size := (Array.getElem?_eq_some_iff.1 hb3).1
    have s4 : Step (Cx.of P) m3 s2.G w3 s2.ct m3 ({ s2 with hp := s2.hp.del st.ct } : St).G { w3 with heap := w3.heap.setIfInBounds (w.heap.size + 1) (.loop { r3 with state := .exhausted }) } s2.ct := by
      have := loop_set (ls' := .exhausted) (pend' := pend) hs3.rep hg2 hl3 hb3 s2.ct
      have he : ({ r3 with state := .exhausted } : Loop) = { r3 with state := .exhausted, pending := pend.map jumpOf } := by rw [← hpe3]
      rw [he]
      refine this.sub fun id o hg => ?_
      simp only [St.G, T.get_del] at hg
      split at hg
      · cases hg
      · rename_i hne
        simp only [St.G, T.get_set]
        rw [if_neg hne]; exact hg
    have all4 := all3.trans s4 (by omega) (Nat.le_refl _)
    have hm0 : Marks B W0 (mark w.heap.size :: a.defers) := by
      obtain ⟨rs, g1, g2, g3⟩ := hd.step hR hs0
      refine ⟨w.heap.size :: rs, by rw [g1]; rfl, ?_, fun r hr => ?_⟩
      · rw [List.nodup_cons]
        refine ⟨fun hm => ?_, g2⟩
        obtain ⟨rs', g1', _, g3'⟩ := hd
        rw [g1] at g1'
        have : rs = rs' := by
          have hinj : ∀ (l l' : List Nat), l.map mark = l'.map mark → l = l' := by
            intro l
            induction l with
            | nil => intro l' h; cases l' <;> simp at h ⊢
            | cons x l ih => intro l' h; cases l' with
              | nil => simp at h
              | cons y l' =>
                simp only [List.map_cons, List.cons.injEq] at h
                have h1 : x = y := by have := h.1; simp [mark] at this; exact this
                rw [h1, ih _ h.2]
          exact hinj _ _ g1'
        subst this
        have := (Array.getElem?_eq_some_iff.1 (g3' _ hm).2).1
        omega
      · rcases List.mem_cons.1 hr with rfl | hr
        · exact ⟨hB, here0⟩
        · exact g3 r hr
    have hmk : Marks B { w3 with heap := w3.heap.setIfInBounds (w.heap.size + 1) (.loop { r3 with state := .exhausted }) } (mark w.heap.size :: a.defers) :=
      ((hm0.step hs0.rep hs1).step hs1.rep hs3).step hs3.rep s4
    have fin : ∀ ex, Post (Cx.of P) m st w a.tmps.size B ex tm' ({ s2 with hp := s2.hp.del st.ct }) (exitOf ex) { a with defers := [mark w.heap.size] ++ a.defers } { w3 with heap := w3.heap.setIfInBounds (w.heap.size + 1) (.loop { r3 with state := .exhausted }) } :=
      fun ex => ⟨rfl, m3, all4, ht.mono all4.mono, hmk, rfl⟩
    refine ⟨_, _, hend, ?_⟩
    cases pend with
    | none => subst hpend; exact fin _
    | some e0 =>
      subst hpend
      simp only [Option.map_some]
      cases ex with
      | normal => exact wpIn_skip (fin _)
      | exit id => exact wpIn_exit (fin _)
      | ret => exact wpIn_ret (fin _)
      | goto l => exact wpIn_goto (fin _)

theorem code_step (hmix : P.follows .mixedOrders = true) {ih : CodeRun} (hov : OvOk P ov) (hovm : OvMono ov) (hovi : OvIds ov) (hih : RunOk P ih) (hihm : RunMono ih) (hihi : RunIds ih) (hkeep : RunKeeps ih) (hl : LoopOk P ih) : RunOk P (stepA (Cx.of P) ov ih) := by
  intro c nt tm st ex tm' st' h ro hro m w a B hR ht hd hB hn hf
  cases c with
  | loop c =>
    obtain ⟨k, hk⟩ := loop_step hov hovm hih hihm hkeep hl c nt tm st ex tm' st' h
    exact wpIn_loop_rounds k (hk ro hro m w a B hR ht hd hB hn hf)
  | skip => simp [stepA] at h; obtain ⟨rfl, rfl, rfl⟩ := h; exact wpIn_skip ⟨rfl, m, Step.refl hR, ht, hd, rfl⟩
  | label l => simp [stepA] at h; obtain ⟨rfl, rfl, rfl⟩ := h; exact wpIn_label ⟨rfl, m, Step.refl hR, ht, hd, rfl⟩
  | ret => simp [stepA] at h; obtain ⟨rfl, rfl, rfl⟩ := h; exact wpIn_ret ⟨rfl, m, Step.refl hR, ht, hd, rfl⟩
  | exit id => simp [stepA] at h; obtain ⟨rfl, rfl, rfl⟩ := h; exact wpIn_exit ⟨rfl, m, Step.refl hR, ht, hd, rfl⟩
  | goto id => simp [stepA] at h; obtain ⟨rfl, rfl, rfl⟩ := h; exact wpIn_goto ⟨rfl, m, Step.refl hR, ht, hd, rfl⟩
  | scope c =>
    simp only [stepA] at h
    have hro' : ro = none ∨ noRF c = true := hro
    exact wpIn_scope _ (scopeA_sound hih hihm hro' _ h hro' m w a B hR ht hd hB hn hf)
  | rangeFunc f ps as bo =>
    rcases hro with rfl | hro
    · exact rangeA_sound hov hovm hih hihm h hR ht hd hB hn hf
    · simp [noRF] at hro
  | seq x y =>
    have hx : ro = none ∨ noRF x = true := hro.imp id fun h => by simp only [noRF, Bool.and_eq_true] at h; exact h.1
    have hy : ro = none ∨ noRF y = true := hro.imp id fun h => by simp only [noRF, Bool.and_eq_true] at h; exact h.2
    simp only [stepA] at h
    split at h <;> (try (simp at h; done))
    rename_i ex1 tm1 st1 hb
    have hct1 := hihm _ _ _ _ _ _ _ hb
    refine wpIn_seq ?_
    split at h
    · have hct2 := hihm _ _ _ _ _ _ _ h
      refine wpIn_mono (hih _ _ _ _ _ _ _ hb ro hx m w a B hR ht hd hB hn (fun i h1 h2 => hf i h1 (by omega))) ?_
      rintro e a' w' ⟨rfl, m1, hs, ht1, hd1, hsz⟩
      refine wpIn_mono (hih _ _ _ _ _ _ _ h ro hy m1 w' a' B hs.rep ht1 hd1 (by have := hs.fr.size; omega) (by omega) (hf.after hs hct1)) ?_
      intro e a2 w2 hp
      rw [hsz] at hp
      exact hp.trans hs hct1 hct2
    · rename_i hne
      simp at h; obtain ⟨rfl, rfl, rfl⟩ := h
      refine wpIn_mono (hih _ _ _ _ _ _ _ hb ro hx m w a B hR ht hd hB hn hf) ?_
      rintro e a' w' ⟨rfl, h2⟩
      cases ex1 with
      | normal => exact absurd rfl hne
      | exit id => exact ⟨rfl, h2⟩
      | ret => exact ⟨rfl, h2⟩
      | goto l => exact ⟨rfl, h2⟩
  | cond x y z =>
    have hy : ro = none ∨ noRF y = true := hro.imp id fun h => by simp only [noRF, Bool.and_eq_true] at h; exact h.1
    have hz : ro = none ∨ noRF z = true := hro.imp id fun h => by simp only [noRF, Bool.and_eq_true] at h; exact h.2
    simp only [stepA] at h
    have key : ∀ b, ev (Cx.of P) tm x = some (.bool b) → a.eval x = .bool b := fun b hx => by
      rw [← eval_rep hR.glob ht x _ hx _ (some0_ext m)]; simp
    split at h <;> (try (simp at h; done))
    · rename_i hx
      exact wpIn_cond_true (key _ hx) (hih _ _ _ _ _ _ _ h ro hy m w a B hR ht hd hB hn hf)
    · rename_i hx
      exact wpIn_cond_false (key _ hx) (hih _ _ _ _ _ _ _ h ro hz m w a B hR ht hd hB hn hf)
  | block id c =>
    simp only [stepA] at h
    split at h <;> (try (simp at h; done))
    rename_i ex1 tm1 st1 hb
    refine wpIn_block ?_
    split at h
    · rename_i id'
      split at h
      · rename_i hid
        have hid := Nat.eq_of_beq_eq_true hid
        subst hid
        simp at h; obtain ⟨rfl, rfl, rfl⟩ := h
        refine wpIn_mono (hih _ _ _ _ _ _ _ hb ro hro m w a B hR ht hd hB hn hf) ?_
        rintro e a' w' ⟨rfl, h2⟩
        simp only [exitOf, Exit.inBlock, if_true]
        exact ⟨rfl, h2⟩
      · rename_i hid
        have hne : id' ≠ id := fun e => by subst e; simp at hid
        simp at h; obtain ⟨rfl, rfl, rfl⟩ := h
        refine wpIn_mono (hih _ _ _ _ _ _ _ hb ro hro m w a B hR ht hd hB hn hf) ?_
        rintro e a' w' ⟨rfl, h2⟩
        simp only [exitOf, Exit.inBlock, hne, if_false]
        exact ⟨rfl, h2⟩
    · rename_i hne
      simp at h; obtain ⟨rfl, rfl, rfl⟩ := h
      refine wpIn_mono (hih _ _ _ _ _ _ _ hb ro hro m w a B hR ht hd hB hn hf) ?_
      rintro e a' w' ⟨rfl, h2⟩
      cases ex1 with
      | normal => exact ⟨rfl, h2⟩
      | exit id => exact absurd rfl (hne id)
      | ret => exact ⟨rfl, h2⟩
      | goto l => exact ⟨rfl, h2⟩
  | region id ops draw =>
    simp only [stepA] at h
    cases draw with
    | false =>
      simp only at h
      split at h <;> (try (simp at h; done))
      rename_i tm1 st1 ho
      simp at h; obtain ⟨rfl, rfl, rfl⟩ := h
      refine wpIn_region ?_
      have := opsA_sound hov hovm hih hihm 0 ops.toList ⟨[], by simp⟩ ho (ro := ro) hR ht hn hf
      simp only [Nat.zero_add, List.map_id_fun', id_eq, Array.length_toList, Array.toArray_toList] at this
      refine wpOps_mono ?_ this
      rintro e a' w' ⟨rfl, m', h1, h2, h3, h4⟩
      exact ⟨rfl, m', h1, h2, by rw [h3]; exact hd.step hR h1, h4⟩
    | true =>
      simp only at h
      split at h <;> (try (simp at h; done))
      rename_i tm1 st1 ho
      simp at h; obtain ⟨rfl, rfl, rfl⟩ := h
      have := drawA_sound (id := id) (ro := ro) hmix hov hovm hovi hih hihm hihi ho hR ht hn hf
      refine wpIn_mono this ?_
      rintro e a' w' ⟨rfl, m', h1, h2, h3, h4⟩
      exact ⟨rfl, m', h1, h2, by rw [h3]; exact hd.step hR h1, h4⟩
  | refuse s => simp [stepA] at h

theorem run_ok (hmix : P.follows .mixedOrders = true) (hov : OvOk P ov) (hovm : OvMono ov) (hovi : OvIds ov) : ∀ n, RunOk P (run (Cx.of P) ov n) ∧ LoopOk P (run (Cx.of P) ov n) := by
  intro n
  induction n with
  | zero => exact ⟨fun c nt tm st ex tm' st' h => by simp [run] at h, fun c nt tm st ex tm' st' h => by simp [run] at h⟩
  | succ n ih => exact ⟨code_step hmix hov hovm hovi ih.1 (run_ct hovm n) (run_ids hovm hovi n) (run_keeps hovm n) ih.2, loop_step hov hovm ih.1 (run_ct hovm n) (run_keeps hovm n) ih.2⟩

/-- WHAT THE ABSTRACT INTERPRETER SAYS OF A CALL IS SO. -/
theorem call_sound (hmix : P.follows .mixedOrders = true) (hov : OvOk P ov) (hovm : OvMono ov) (hovi : OvIds ov) {n f : Nat} {args : List Value} {st st' : St} {v : Value} (h : call (Cx.of P) ov n f args st = some (v, st'))
    {m : Nat → Option Loc} {w : World} {cargs : List Value} (hR : Rep (Cx.of P) m st.G w) (ha : VReps m args cargs) (hf : Fresh m st.ct st'.ct) :
    FnOk P f cargs.toArray w (CallPost (Cx.of P) m st w v st') :=
  callA_sound hov hovm (run_ok hmix hov hovm hovi n).1 (run_ct hovm n) h hR ha hf

end
end Go.Ai

/-! The abstract interpreter's words for functions without a Go body: definitions alone. -/
namespace Go.Ai
open Go
noncomputable section

def bytesA (x : Value) (st : St) : Option (List UInt8) :=
  match x with
  | .string s => some s.data.toList
  | .slice none _ _ => some []
  | .slice (some a) n _ => match readCells st a n with
    | some l => bytesOfCells l
    | none => none
  | _ => none

def idxByte (c : UInt8) : List UInt8 → Nat → Option Nat
  | [], _ => none
  | b :: l, i => match Nat.beq b.toNat c.toNat with
    | true => some i
    | false => idxByte c l (i + 1)

def cntByte (c : UInt8) : List UInt8 → Nat → Nat
  | [], n => n
  | b :: l, n => match Nat.beq b.toNat c.toNat with
    | true => cntByte c l (n + 1)
    | false => cntByte c l n

def orNeg : Option Nat → Value
  | some i => goInt i
  | none => goInt (-1)

/-- a cell of which nothing is known -/
def hole : Value := .tuple #[]
def holes : Nat → List Value
  | 0 => []
  | n + 1 => hole :: holes n

inductive Xt where
  | indexByte | count | same
  | makeNoZero (e : TypeId)
  deriving DecidableEq

def extA (cx : Cx) : Xt → List Value → St → Option (Value × St)
  | .indexByte, as, st => match as with
    | [x, .int .u8 c] => match bytesA x st with
      | some l => some (orNeg (idxByte (UInt8.ofNat c.toNat) l 0), st)
      | none => none
    | _ => none
  | .count, as, st => match as with
    | [x, .int .u8 c] => match bytesA x st with
      | some l => some (goInt (cntByte (UInt8.ofNat c.toNat) l 0), st)
      | none => none
    | _ => none
  | .same, as, st => match as with
    | [x] => some (x, st)
    | _ => none
  | .makeNoZero e, as, st => match as with
    | [.int .i64 n] => match cx.size e with
      | some 1 => match decide (0 ≤ n ∧ n ≤ 70368744177664) with
        | true => some (.slice (some ⟨st.ct, 0, none⟩) n.toNat openCap, ⟨st.hp.set st.ct (.row e (holes n.toNat) true true), st.ct + 1⟩)
        | false => none
      | _ => none
    | _ => none

def ovOfF (cx : Cx) : List (Nat × Xt) → Nat → Option (List Value → St → Option (Value × St))
  | [], _ => none
  | (k, e) :: l, f => match Nat.beq k f with
    | true => some (extA cx e)
    | false => ovOfF cx l f
def ovOf (cx : Cx) (l : List (Nat × Xt)) : Ov := ⟨ovOfF cx l, fun _ => none⟩

def extNames : Xt → List String
  | .indexByte => ["internal/bytealg.IndexByteString", "internal/bytealg.IndexByte"]
  | .count => ["internal/bytealg.CountString", "internal/bytealg.Count"]
  | .same => ["internal/abi.NoEscape"]
  | .makeNoZero _ => ["internal/bytealg.MakeNoZero"]

/-- is it that function? -/
def extFits (P : Program) : Nat × Xt → Bool
  | (k, e) => match P.funcs[k]? with
    | some fn => (extNames e).contains fn.name && fn.body.isNone && (fn.origin == "") && (match e with
      | .makeNoZero e => match fn.resultTypes.toList with
        | [t] => match (Cx.of P).desc t with
          | some (.slice e') => Nat.beq e e'
          | _ => false
        | _ => false
      | _ => true)
    | none => false

end
end Go.Ai

/-! The words for functions without a Go body are sound. -/
namespace Go.Ai
open Go

def extRow (fn : Func) : Xt → (Array Value → Sem Value)
  | .indexByte => Extern.BytealgIndexByte.indexByte
  | .count => Extern.BytealgCount.count
  | .same => Extern.AbiNoEscape.same
  | .makeNoZero _ => Extern.BytealgMakeNoZero.makeNoZero fn.params fn.resultTypes

theorem next_empty : Extern.allNextRows.lookup "" = none := by kernel_rfl

theorem find_next {fn : Func} (n : String) (hn : fn.name = n) (ho : fn.origin = "") (h : Extern.allNextRows.lookup n = none) : Extern.findNext fn = none := by
  unfold Extern.findNext
  simp [hn, ho, h, next_empty]

theorem find_plain {fn : Func} (n : String) (hn : fn.name = n) (r : Array Value → Sem Value) (h1 : Extern.allGenericRows.lookup n = none) (h2 : Extern.allTypedRows.lookup n = none) (h3 : Extern.allRows.lookup n = some r) : Extern.find fn = some r := by
  unfold Extern.find
  simp [hn, h1, h2, h3]

theorem find_typed {fn : Func} (n : String) (hn : fn.name = n) (r : Extern.Typed) (h1 : Extern.allGenericRows.lookup n = none) (h2 : Extern.allTypedRows.lookup n = some r) : Extern.find fn = some (r fn.params fn.resultTypes) := by
  unfold Extern.find
  simp [hn, h1, h2]

theorem fits_find {P : Program} {k : Nat} {e : Xt} (h : extFits P (k, e) = true) : ∃ fn, P.funcs[k]? = some fn ∧ (fn.name == "runtime.NumGoroutine") = false ∧ fn.body.isNone = true ∧ Extern.findNext fn = none ∧ Extern.find fn = some (extRow fn e) ∧
    (∀ t, e = .makeNoZero t → ∃ rt, fn.resultTypes = #[rt] ∧ (Cx.of P).desc rt = some (.slice t)) := by
  unfold extFits at h
  simp only at h
  split at h <;> (try (cases h; done))
  rename_i fn hfn
  simp only [Bool.and_eq_true, List.contains_iff_mem, beq_iff_eq] at h
  obtain ⟨⟨⟨hname, hbody⟩, horig⟩, hlast⟩ := h
  refine ⟨fn, hfn, ?_, hbody, ?_, ?_, ?_⟩
  · cases e <;> simp only [extNames, List.mem_cons, List.not_mem_nil, or_false] at hname <;> (first | (rcases hname with hname | hname <;> rw [hname] <;> rfl) | (rw [hname]; rfl))
  · cases e <;> simp only [extNames, List.mem_cons, List.not_mem_nil, or_false] at hname
    · rcases hname with hname | hname
      · exact find_next _ hname horig (by kernel_rfl)
      · exact find_next _ hname horig (by kernel_rfl)
    · rcases hname with hname | hname
      · exact find_next _ hname horig (by kernel_rfl)
      · exact find_next _ hname horig (by kernel_rfl)
    · exact find_next _ hname horig (by kernel_rfl)
    · exact find_next _ hname horig (by kernel_rfl)
  · cases e <;> simp only [extNames, List.mem_cons, List.not_mem_nil, or_false] at hname <;> simp only [extRow]
    · rcases hname with hname | hname
      · exact find_plain _ hname _ (by kernel_rfl) (by kernel_rfl) (by kernel_rfl)
      · exact find_plain _ hname _ (by kernel_rfl) (by kernel_rfl) (by kernel_rfl)
    · rcases hname with hname | hname
      · exact find_plain _ hname _ (by kernel_rfl) (by kernel_rfl) (by kernel_rfl)
      · exact find_plain _ hname _ (by kernel_rfl) (by kernel_rfl) (by kernel_rfl)
    · exact find_plain _ hname _ (by kernel_rfl) (by kernel_rfl) (by kernel_rfl)
    · exact find_typed _ hname _ (by kernel_rfl) (by kernel_rfl)
  · rintro t rfl
    simp only at hlast
    split at hlast <;> (try (cases hlast; done))
    rename_i rt hrt
    split at hlast <;> (try (cases hlast; done))
    rename_i e' he'
    exact ⟨rt, by apply Array.ext'; simpa using hrt, by rw [he', Nat.eq_of_beq_eq_true hlast]⟩

section
variable {P : Program} {m : Nat → Option Loc} {st : St} {w : World}

theorem bytesOf_run (hR : Rep (Cx.of P) m st.G w) {x : Value} {l : List UInt8} (h : bytesA x st = some l) {μ : Nat → Loc} (hμ : Ext m μ) :
    (Extern.Bytes.bytesOf (conc μ x)).run P w = .ok ⟨⟨l⟩⟩ w := by
  unfold bytesA at h
  split at h
  · simp at h; subst h; simp [Extern.Bytes.bytesOf]
  · simp at h; subst h; simp [Extern.Bytes.bytesOf]; rfl
  · rename_i a n c
    split at h <;> (try (simp at h; done))
    rename_i cs hrd
    obtain ⟨hlen, hsp, hcell⟩ := readCells_cell hR hrd hμ
    obtain ⟨ns, rfl, rfl⟩ := bytesOfCells_eq _ _ h
    simp only [conc_slice, Extern.Bytes.bytesOf]
    rw [List.length_map] at hlen
    subst hlen
    cases ns with
    | nil => simp [Extern.Bytes.loadBytes]; rfl
    | cons y ns =>
      have hc : concEnd μ a (concCap μ a.block c) = concAddr μ a := by
        simp [concEnd, hsp (by simp)]
      rw [hc]
      rw [Lib.run_loadBytesX w (y :: ns) _ _ (fun j x hj => by
        have := hcell j (.int .u8 x) (by rw [List.getElem?_map, hj]; rfl)
        simpa using this)]
      simp [Lib.bytesOf]
  · simp at h

theorem idxByte_eq (c : UInt8) : ∀ (l : List UInt8) (k : Nat), (idxByte c l k = none ∧ Lib.indexByte l c = -1) ∨ ∃ i, idxByte c l k = some (k + i) ∧ Lib.indexByte l c = i := by
  intro l
  induction l with
  | nil => intro k; exact .inl ⟨rfl, rfl⟩
  | cons b l ih =>
    intro k
    simp only [idxByte, Lib.indexByte]
    cases hb : Nat.beq b.toNat c.toNat with
    | true =>
      have : b = c := UInt8.toNat_inj.1 (Nat.eq_of_beq_eq_true hb)
      subst this
      exact .inr ⟨0, rfl, by simp⟩
    | false =>
      have hne : (b == c) = false := by
        cases h : b == c with
        | false => rfl
        | true =>
          rw [beq_iff_eq] at h; subst h
          simp at hb
      simp only [hne]
      rcases ih (k + 1) with ⟨h1, h2⟩ | ⟨i, h1, h2⟩
      · exact .inl ⟨h1, by rw [h2]; rfl⟩
      · refine .inr ⟨i + 1, by rw [h1]; congr 1; omega, ?_⟩
        rw [h2]
        have : ((i : Int) == -1) = false := by simp
        simp [this]

theorem cntByte_eq (c : UInt8) : ∀ (l : List UInt8) (n : Nat), cntByte c l n = n + Lib.countByte l c := by
  intro l
  induction l with
  | nil => intro n; simp [cntByte, Lib.countByte]
  | cons b l ih =>
    intro n
    simp only [cntByte, Lib.countByte]
    cases hb : Nat.beq b.toNat c.toNat with
    | true =>
      have : b = c := UInt8.toNat_inj.1 (Nat.eq_of_beq_eq_true hb)
      subst this
      simp only [ih, List.count_cons_self, Lib.countByte]; omega
    | false =>
      have hne : b ≠ c := by rintro rfl; simp at hb
      simp only [ih, Lib.countByte]
      rw [List.count_cons_of_ne hne]

/-- the bytes alone count -/
theorem entry_bytes {x : Value} {l : List UInt8} {f : ByteArray → Sem Value} {r : Value} (hx : (Extern.Bytes.bytesOf x).run P w = .ok ⟨⟨l⟩⟩ w)
    (h : (do let b ← Extern.Bytes.bytesOf (.string ⟨⟨l⟩⟩); f b : Sem Value).run P w = .ok r w) : (do let b ← Extern.Bytes.bytesOf x; f b : Sem Value).run P w = .ok r w := by
  rw [Sem.run_bind] at h ⊢
  rw [hx]
  exact h

theorem indexByte_run {x : Value} {l : List UInt8} (hx : (Extern.Bytes.bytesOf x).run P w = .ok ⟨⟨l⟩⟩ w) (c : Int) :
    (Extern.BytealgIndexByte.indexByte #[x, .int .u8 c]).run P w = .ok (orNeg (idxByte (UInt8.ofNat c.toNat) l 0)) w := by
  refine entry_bytes (f := fun b => do
    let c ← Extern.Bytes.asByte (.int .u8 c)
    match (List.range b.size).find? fun i => b[i]! == c with
    | some i => pure (goInt i)
    | none => pure (goInt (-1))) hx ?_
  refine (Lib.run_indexByteString (P := P) ⟨⟨l⟩⟩ c w).trans ?_
  rcases idxByte_eq (UInt8.ofNat c.toNat) l 0 with ⟨h1, h2⟩ | ⟨i, h1, h2⟩
  · rw [h1]
    have : Lib.indexByte l c.toNat.toUInt8 = -1 := h2
    simp only [this]; rfl
  · rw [h1]
    have : Lib.indexByte l c.toNat.toUInt8 = i := h2
    simp only [this, Nat.zero_add]; rfl

theorem count_run {x : Value} {l : List UInt8} (hx : (Extern.Bytes.bytesOf x).run P w = .ok ⟨⟨l⟩⟩ w) (c : Int) :
    (Extern.BytealgCount.count #[x, .int .u8 c]).run P w = .ok (goInt (cntByte (UInt8.ofNat c.toNat) l 0)) w := by
  refine entry_bytes (f := fun b => do
    let c ← Extern.Bytes.asByte (.int .u8 c)
    pure (goInt (b.foldl (fun n x => if x == c then n + 1 else n) (0 : Nat)))) hx ?_
  refine (Lib.run_countString (P := P) ⟨⟨l⟩⟩ c w).trans ?_
  rw [cntByte_eq, Nat.zero_add]
  rfl

theorem holes_get : ∀ (n j : Nat) (v : Value), (holes n)[j]? = some v → v = hole := by
  intro n
  induction n with
  | zero => intro j v h; simp [holes] at h
  | succ n ih =>
    intro j v h
    cases j with
    | zero => simp [holes] at h; exact h.symm
    | succ j => simp [holes] at h; exact ih j v h
theorem holes_length : ∀ n, (holes n).length = n := by
  intro n
  induction n with
  | zero => rfl
  | succ n ih => simp [holes, ih]

theorem heap_alloc_old (w : World) (o : Obj) (k : Nat) (hk : k < w.heap.size) : (w.alloc o).heap[k]? = w.heap[k]? := by
  show (w.heap.push _)[k]? = _
  rw [Array.getElem?_push]; simp [Nat.ne_of_lt hk]

/-- WHAT IS SAID OF A FUNCTION WITHOUT A GO BODY IS SO. -/
theorem ext_ok {k : Nat} {e : Xt} (hfit : extFits P (k, e) = true) {args : List Value} {st' : St} {v : Value} (h : extA (Cx.of P) e args st = some (v, st'))
    {cargs : List Value} (hR : Rep (Cx.of P) m st.G w) (ha : VReps m args cargs) (hf : Fresh m st.ct st'.ct) : FnOk P k cargs.toArray w (CallPost (Cx.of P) m st w v st') := by
  obtain ⟨fn, hfn, hname, hb, hnext, hfind, hmk⟩ := fits_find hfit
  have hcall := fun args => run_callFunc_extern hfn hname hb hnext hfind args w
  have hμ0 := some0_ext m
  have same : ∀ {r : Value}, (∀ μ, Ext m μ → (extRow fn e cargs.toArray).run P w = .ok (conc μ r) w) → v = r → st' = st → FnOk P k cargs.toArray w (CallPost (Cx.of P) m st w v st') := by
    intro r h1 h2 h3
    subst h2; subst h3
    refine .inl ⟨conc (some0 m) v, w, ?_, m, Step.refl hR, fun μ hμ => ?_⟩
    · rw [hcall, h1 _ hμ0]; rfl
    · have := h1 μ hμ
      rw [h1 _ hμ0] at this
      injection this with this
      exact this.symm
  cases e with
  | indexByte =>
    simp only [extA] at h
    split at h <;> (try (simp at h; done))
    rename_i x c
    split at h <;> (try (simp at h; done))
    rename_i l hl
    simp at h; obtain ⟨rfl, rfl⟩ := h
    refine same (r := orNeg (idxByte (UInt8.ofNat c.toNat) l 0)) (fun μ hμ => ?_) rfl rfl
    have h1 := ha μ hμ
    simp only [List.map_cons, List.map_nil, conc_int] at h1
    subst h1
    refine (indexByte_run (bytesOf_run hR hl hμ) c).trans ?_
    congr 1
    cases idxByte (UInt8.ofNat c.toNat) l 0 <;> simp [orNeg, goInt]
  | count =>
    simp only [extA] at h
    split at h <;> (try (simp at h; done))
    rename_i x c
    split at h <;> (try (simp at h; done))
    rename_i l hl
    simp at h; obtain ⟨rfl, rfl⟩ := h
    refine same (r := goInt (cntByte (UInt8.ofNat c.toNat) l 0)) (fun μ hμ => ?_) rfl rfl
    have h1 := ha μ hμ
    simp only [List.map_cons, List.map_nil, conc_int] at h1
    subst h1
    refine (count_run (bytesOf_run hR hl hμ) c).trans ?_
    simp [goInt]
  | same =>
    simp only [extA] at h
    split at h <;> (try (simp at h; done))
    rename_i x
    simp at h; obtain ⟨rfl, rfl⟩ := h
    refine same (r := x) (fun μ hμ => ?_) rfl rfl
    have h1 := ha μ hμ
    simp only [List.map_cons, List.map_nil] at h1
    subst h1
    rfl
  | makeNoZero e =>
    simp only [extA] at h
    split at h <;> (try (simp at h; done))
    rename_i n
    split at h <;> (try (simp at h; done))
    rename_i hsz
    split at h <;> (try (simp at h; done))
    rename_i hn
    simp only [decide_eq_true_eq] at hn
    simp at h; obtain ⟨rfl, rfl⟩ := h
    obtain ⟨rt, hrt, hd⟩ := hmk e rfl
    have h1 := ha _ hμ0
    simp only [List.map_cons, List.map_nil, conc_int] at h1
    subst h1
    obtain ⟨n, rfl⟩ : ∃ k : Nat, n = k := ⟨n.toNat, by omega⟩
    obtain ⟨cs, hrun, hge, hle⟩ := Lib.run_makeNoZero (P := P) w fn.params rt e (Cx.desc_under hd) n (by omega)
    have hid : m st.ct = none := hf _ (Nat.le_refl _) (by simp)
    have hle' : cs.size ≤ 9223372036854775807 := by
      have := hle (by unfold maxLen; omega)
      unfold maxLen at this; omega
    refine .inl ⟨.slice (some ⟨w.heap.size, 0, none⟩) n cs.size, w.drew.drew.alloc (.cells cs e), ?_, setM m st.ct ⟨w.heap.size, 0, cs.size, .nilFunc⟩, Step.newObj hR hid ⟨?_, rfl, rfl, rfl, ?_⟩ rfl ?_, ?_⟩
    · rw [hcall]
      simp only [extRow, hrt]
      rw [hrun]; rfl
    · show (w.heap.push _).size = _
      simp
    · intro k hk
      have := heap_alloc_old w.drew.drew (.cells cs e) k hk
      exact this
    · intro μ hμ
      have hloc : μ st.ct = ⟨w.heap.size, 0, cs.size, .nilFunc⟩ := hμ _ _ (setM_same _ _)
      refine ⟨cs, _, (0, 0), ?_, ?_, ?_, ?_, ?_, fun _ => ⟨rfl, fun h => by cases h⟩⟩
      · rw [hloc]; exact heap_alloc_new w.drew.drew _
      · rw [hloc, holes_length]; simp; omega
      · intro j v hj hcv
        rw [holes_get _ _ _ hj] at hcv
        simp [hole, isCell] at hcv
      · intro _ k _; simp
      · intro _ q hq
        rw [hsz] at hq; injection hq with hq; subst hq
        rw [hloc, holes_length]
        simp
        omega
    · intro μ hμ
      have hloc : μ st.ct = ⟨w.heap.size, 0, cs.size, .nilFunc⟩ := hμ _ _ (setM_same _ _)
      simp [concEnd, concAddr, concCap, hloc, isOpen, openCap]

theorem ovOf_mem {cx : Cx} : ∀ (l : List (Nat × Xt)) (f : Nat) (g : List Value → St → Option (Value × St)), ovOfF cx l f = some g → ∃ e, (f, e) ∈ l ∧ g = extA cx e := by
  intro l
  induction l with
  | nil => intro f g h; simp [ovOfF] at h
  | cons p l ih =>
    obtain ⟨k, e⟩ := p
    intro f g h
    simp only [ovOfF] at h
    cases hk : Nat.beq k f with
    | true =>
      rw [hk] at h
      simp at h; subst h
      have := Nat.eq_of_beq_eq_true hk
      subst this
      exact ⟨e, by simp, rfl⟩
    | false =>
      rw [hk] at h
      obtain ⟨e', h1, h2⟩ := ih f g h
      exact ⟨e', by simp [h1], h2⟩

theorem ovOf_ok {l : List (Nat × Xt)} (h : l.all (extFits P) = true) : OvOk P (ovOf (Cx.of P) l) := by
  refine ⟨?_, fun _ _ _ _ _ _ _ _ h => by cases h⟩
  intro f g args st v st' hg hr m w cargs hR ha hf
  obtain ⟨e, hm, rfl⟩ := ovOf_mem _ _ _ hg
  exact ext_ok (List.all_eq_true.1 h _ hm) hr hR ha hf

theorem extA_st {cx : Cx} {e : Xt} {args : List Value} {st st' : St} {v : Value} (h : extA cx e args st = some (v, st')) : st' = st ∨ ∃ o, st' = ⟨st.hp.set st.ct o, st.ct + 1⟩ := by
  cases e <;> simp only [extA] at h <;> (repeat' (split at h)) <;> (try (simp at h; done)) <;> (simp at h; obtain ⟨_, rfl⟩ := h)
  · exact .inl rfl
  · exact .inl rfl
  · exact .inl rfl
  · exact .inr ⟨_, rfl⟩

theorem ovOf_mono {cx : Cx} (l : List (Nat × Xt)) : OvMono (ovOf cx l) := by
  refine ⟨?_, (fun _ _ _ _ _ _ _ _ h => by cases h), fun _ _ _ _ _ _ _ _ h => by cases h⟩
  intro f g args st v st' hg hr
  obtain ⟨e, _, rfl⟩ := ovOf_mem _ _ _ hg
  rcases extA_st hr with rfl | ⟨o, rfl⟩
  · exact Nat.le_refl _
  · simp

theorem ovOf_ids {cx : Cx} (l : List (Nat × Xt)) : OvIds (ovOf cx l) := by
  refine ⟨?_, fun _ _ _ _ _ _ _ _ h => by cases h⟩
  intro f g args st v st' hg hr
  obtain ⟨e, _, rfl⟩ := ovOf_mem _ _ _ hg
  rcases extA_st hr with rfl | ⟨o, rfl⟩
  · exact Ids.refl _
  · exact Ids.add

end
end Go.Ai

/-! What package-level variables hold when a call begins, as an abstract heap: definitions, and their soundness. -/
namespace Go.Ai
open Go
noncomputable section

/-! ### definitions -/
def litVal : TypeDesc → Lit → Option Value
  | .bool, .bool b => some (.bool b)
  | .int k, .int q n => match decide (q = k) with
    | true => some (.int k n)
    | false => none
  | .string, .string l => some (.string ⟨⟨l⟩⟩)
  | _, _ => none

abbrev LayF (H : Type) := TypeId → DataW H → St → Option (List Value × St)

def layParts {H : Type} (f : LayF H) : List TypeId → List (DataW H) → St → Option (List (List Value) × St)
  | [], [], st => some ([], st)
  | t :: ts, d :: ds, st => match f t d st with
    | some (c, st1) => match layParts f ts ds st1 with
      | some (r, st2) => some (c :: r, st2)
      | none => none
    | none => none
  | _, _, _ => none

def flats : List (List Value) → List Value
  | [] => []
  | c :: l => c ++ flats l

/-- do the parts lie one behind the other, as long as is said? -/
def tiles : List (Nat × Nat) → List (List Value) → Nat → Option Nat
  | [], [], at_ => some at_
  | (o, n) :: l, c :: cs, at_ => match Nat.beq o at_ && Nat.beq c.length n with
    | true => tiles l cs (at_ + n)
    | false => none
  | _, _, _ => none

def allLong (n : Nat) : List (List Value) → Bool
  | [] => true
  | c :: l => Nat.beq c.length n && allLong n l

def fieldSizes (cx : Cx) : List Field → Option (List (Nat × Nat))
  | [] => some []
  | f :: l => match cx.size f.type with
    | some n => match fieldSizes cx l with
      | some r => some ((f.offset, n) :: r)
      | none => none
    | none => none

/-- a value that lies in no row -/
def valOf {H : Type} (cx : Cx) (f : LayF H) (e : TypeId) (agg : Bool) (d : DataW H) : Option Value :=
  match f e d ⟨.nil, cx.ng⟩ with
  | some (c, st1) => match flatL c && Nat.beq st1.ct cx.ng with
    | true => match agg with
      | true => some (.agg ⟨c⟩)
      | false => match c with
        | [v] => some v
        | _ => none
    | false => none
  | none => none

def layEntries {H : Type} (cx : Cx) (f : LayF H) (kd : TypeDesc) (e : TypeId) (agg : Bool) : List (Lit × DataW H) → Option (List MapEntry)
  | [] => some []
  | (k, d) :: l => match litVal kd k, valOf cx f e agg d, layEntries cx f kd e agg l with
    | some kv, some v, some r => some ({ key := kv, val := v, born := 0 } :: r)
    | _, _, _ => none

def typeOf (nm : List (String × TypeId)) (n : String) : Option TypeId := match nm with
  | [] => none
  | (m, t) :: l => match decide (n = "*" ++ m) with
    | true => some t
    | false => typeOf l n

def layA {H : Type} (cx : Cx) (nm : List (String × TypeId)) (hold : H → Option Value) : Nat → LayF H
  | 0 => fun _ _ _ => none
  | fuel + 1 => fun t d st => match cx.desc t with
    | none => none
    | some ds => match d with
      | .lit l => match litVal ds l with
        | some v => some ([v], st)
        | none => none
      | .nil => match ds with
        | .pointer _ => some ([.pointer none], st)
        | .slice _ => some ([.slice none 0 0], st)
        | .interface _ => some ([.nilIface], st)
        | .map _ _ => some ([.map none], st)
        | .func _ _ _ => some ([.nilFunc], st)
        | _ => none
      | .ptr d => match ds with
        | .pointer e => match layA cx nm hold fuel e d st, cx.size e with
          | some (c, st1), some n => match Nat.beq c.length n && Nat.ble 1 n with
            | true => some ([.pointer (some ⟨st1.ct, 0, none⟩)], ⟨st1.hp.set st1.ct (.row e c false false), st1.ct + 1⟩)
            | false => none
          | _, _ => none
        | _ => none
      | .slice elems spare => match ds, spare with
        | .slice e, [] => match layParts (layA cx nm hold fuel) (elems.map fun _ => e) elems st, cx.size e with
          | some (cs, st1), some n => match allLong n cs && Nat.ble 1 n && Nat.ble 1 elems.length with
            | true => some ([.slice (some ⟨st1.ct, 0, none⟩) elems.length elems.length], ⟨st1.hp.set st1.ct (.row e (flats cs) false false), st1.ct + 1⟩)
            | false => none
          | _, _ => none
        | _, _ => none
      | .agg parts => match ds with
        | .struct fs => match layParts (layA cx nm hold fuel) (fs.toList.map (·.type)) parts st, fieldSizes cx fs.toList, cx.size t with
          | some (cs, st1), some sz, some n => match tiles sz cs 0 with
            | some k => match Nat.beq k n with
              | true => some (flats cs, st1)
              | false => none
            | none => none
          | _, _, _ => none
        | .array n e => match layParts (layA cx nm hold fuel) ((List.range n).map fun _ => e) parts st, cx.size e, cx.size t with
          | some (cs, st1), some m, some k => match allLong m cs && Nat.beq (n * m) k with
            | true => some (flats cs, st1)
            | false => none
          | _, _, _ => none
        | _ => none
      | .iface name d => match ds with
        | .interface _ => match typeOf nm name with
          | some u => match cx.desc u with
            | some (.pointer _) => match layA cx nm hold fuel u d st with
              | some ([v], st1) => some ([.iface u v], st1)
              | _ => none
            | _ => none
          | none => none
        | _ => none
      | .held h => match ds with
        | .func _ _ _ => match hold h with
          | some v => match flat v with
            | true => some ([v], st)
            | false => none
          | none => none
        | _ => none
      | .map entries => match ds with
        | .map k e => match cx.desc k, cx.isAgg e with
          | some kd, some agg => match layEntries cx (layA cx [] hold fuel) kd e agg entries with
            | some es => some ([.map (some st.ct)], ⟨st.hp.set st.ct (.map es true false), st.ct + 1⟩)
            | none => none
          | _, _ => none
        | _ => none

/-! ### soundness -/
/-- the name tells the type -/
def nameOk (P : Program) : String × TypeId → Bool
  | (m, tp) => ((List.range P.types.size).all fun u => P.typeName? 3 u != some ("*" ++ m) || u == tp) &&
    ((List.range P.types.size).all fun e => P.typeName? 2 e != some m || (match (P.info? e).map (·.desc) with | some (TypeDesc.named _ _) => true | _ => false)) && (m.toList.head? != some '*')

theorem typeOf_ok {P : Program} : ∀ (nm : List (String × TypeId)), nm.all (nameOk P) = true → ∀ n t u, typeOf nm n = some t → P.typeName? 3 u = some n → u = t := by
  intro nm
  induction nm with
  | nil => intro _ n t u h; simp [typeOf] at h
  | cons p nm ih =>
    obtain ⟨m, tp⟩ := p
    intro hall n t u h hu
    simp only [List.all_cons, Bool.and_eq_true] at hall
    simp only [typeOf] at h
    split at h
    · rename_i hn
      simp only [decide_eq_true_eq] at hn
      simp at h; subst h
      have h1 := hall.1
      simp only [nameOk, Bool.and_eq_true, bne_iff_ne] at h1
      subst hn
      exact typeName_ptr_named h1.1.1 h1.1.2 h1.2 u hu
    · exact ih hall.2 n t u h hu

theorem size_cells {P : Program} {t : TypeId} {n : Nat} (h : (Cx.of P).size t = some n) : P.cellsOf t = n := by
  obtain ⟨i, hi, rfl⟩ := size_info h
  simp [Program.cellsOf, Cx.info hi]

theorem flats_length {n : Nat} : ∀ (l : List (List Value)), allLong n l = true → (flats l).length = l.length * n := by
  intro l
  induction l with
  | nil => intro _; simp [flats]
  | cons c l ih =>
    intro h
    simp only [allLong, Bool.and_eq_true] at h
    simp only [flats, List.length_append, ih h.2, List.length_cons, Nat.eq_of_beq_eq_true h.1]
    rw [Nat.add_mul]; omega

theorem flats_map (f : Value → Value) : ∀ (l : List (List Value)), (flats l).map f = flats (l.map (·.map f)) := by
  intro l
  induction l with
  | nil => rfl
  | cons c l ih => simp [flats, ih]

theorem flats_get {n : Nat} : ∀ (l : List (List Value)), allLong n l = true → ∀ i c, l[i]? = some c → ∀ j, j < n → (flats l)[i * n + j]? = c[j]? := by
  intro l
  induction l with
  | nil => intro _ i c h; simp at h
  | cons x l ih =>
    intro h i c hi j hj
    simp only [allLong, Bool.and_eq_true] at h
    have hx := Nat.eq_of_beq_eq_true h.1
    cases i with
    | zero =>
      simp at hi; subst hi
      simp only [flats, Nat.zero_mul, Nat.zero_add]
      rw [List.getElem?_append_left (by omega)]
    | succ i =>
      simp at hi
      simp only [flats]
      rw [List.getElem?_append_right (by rw [Nat.add_mul]; omega), show (i + 1) * n + j - x.length = i * n + j by rw [Nat.add_mul]; omega]
      exact ih h.2 i c hi j hj

theorem tiles_eq (cs : List Value) : ∀ (l : List (Nat × Nat)) (parts : List (List Value)) (a k : Nat), tiles l parts a = some k → a ≤ cs.length → k = cs.length →
    parts = l.map (fun x => (cs.drop x.1).take x.2) → flats parts = cs.drop a := by
  intro l
  induction l with
  | nil =>
    intro parts a k h ha hk hp
    cases parts with
    | nil => simp [tiles] at h; subst h; subst hk; simp [flats]
    | cons c parts => simp [tiles] at h
  | cons p l ih =>
    obtain ⟨o, n⟩ := p
    intro parts a k h ha hk hp
    cases parts with
    | nil => simp [tiles] at h
    | cons c parts =>
      simp only [tiles] at h
      split at h <;> (try (simp at h; done))
      rename_i hb
      simp only [Bool.and_eq_true] at hb
      have h1 := Nat.eq_of_beq_eq_true hb.1
      have h2 := Nat.eq_of_beq_eq_true hb.2
      subst h1
      simp only [List.map_cons, List.cons.injEq] at hp
      obtain ⟨hc, hp⟩ := hp
      have hlen : o + n ≤ cs.length := by
        rw [hc, List.length_take, List.length_drop] at h2; omega
      simp only [flats]
      rw [ih parts (o + n) k h hlen hk hp, hc, ← List.drop_drop, List.take_append_drop]

section
variable {P : Program} {w : World} {H : Type}

structure Lay (P : Program) (w : World) (m : Nat → Option Loc) (st : St) : Prop where
  obj : ∀ id o, st.G id o → (∃ l, m id = some l ∧ l.blk < w.heap.size) ∧ o.isWr = false ∧ ∀ μ, Ext m μ → ObjRep (Cx.of P) μ w id o
  fresh : ∀ i, st.ct ≤ i → m i = none
  glob : ∀ g, g < P.globals.size → m g = some ⟨g, 0, 0, .nilFunc⟩

def CellsOk (P : Program) (w : World) (ccs : List Value) : Prop := ∀ u v, .iface u v ∈ ccs → Value.okWide P w .any 0 u v
def PlacesOk (P : Program) (w : World) (p : List MemPlace) : Prop := ∀ b off, MemPlace.cell b off ∈ p → ∀ u v, w.cell? ⟨b, off, none⟩ = some (.iface u v) → Value.okWide P w .any 0 u v

/-- ('need': is it to be known what lies in interfaces?) -/
def LayOk (enc : TypeId × Value → H) (P : Program) (w : World) (held : Bool) (need : Prop) (f : LayF H) : Prop :=
  ∀ t d st cs st', f t d st = some (cs, st') → ∀ m, Lay P w m st → ∀ tf ccs p, DataW.trod enc P w 0 (fun _ => true) held tf t ccs = some (d, p) → (need → PlacesOk P w p) → (need → CellsOk P w ccs) →
    ∃ m', (∀ i l, m i = some l → m' i = some l) ∧ Lay P w m' st' ∧ VReps m' cs ccs ∧ st.ct ≤ st'.ct

theorem VReps.mono {m m' : Nat → Option Loc} {vs cvs : List Value} (h : VReps m vs cvs) (hm : ∀ i l, m i = some l → m' i = some l) : VReps m' vs cvs := fun μ hμ => h μ (hμ.mono hm)

theorem Lay.new {m : Nat → Option Loc} {st : St} (h : Lay P w m st) {o : AObj} {l : Loc} (ho : o.isWr = false) (hl : l.blk < w.heap.size) (_hng : P.globals.size ≤ st.ct)
    (hobj : ∀ μ, Ext (setM m st.ct l) μ → ObjRep (Cx.of P) μ w st.ct o) : Lay P w (setM m st.ct l) ⟨st.hp.set st.ct o, st.ct + 1⟩ where
  obj := by
    have hn := h.fresh st.ct (Nat.le_refl _)
    intro id o' hg
    simp only [St.G, T.get_set] at hg
    split at hg
    · rename_i e; subst e
      injection hg with hg; subst hg
      exact ⟨⟨l, setM_same _ _, hl⟩, ho, hobj⟩
    · rename_i hne
      obtain ⟨⟨l', h1, h2⟩, h3, h4⟩ := h.obj id o' hg
      exact ⟨⟨l', setM_mono hn _ _ h1, h2⟩, h3, fun μ hμ => h4 μ (hμ.mono (setM_mono hn))⟩
  fresh := by
    intro i hi
    simp only at hi
    simp only [setM]
    rw [if_neg (by omega)]
    exact h.fresh i (by omega)
  glob := fun g hg => setM_mono (h.fresh st.ct (Nat.le_refl _)) _ _ (h.glob g hg)

theorem Lay.ng {m : Nat → Option Loc} {st : St} (h : Lay P w m st) : P.globals.size ≤ st.ct := by
  rcases Nat.lt_or_ge st.ct P.globals.size with h1 | h1
  · have := h.glob st.ct h1
    rw [h.fresh st.ct (Nat.le_refl _)] at this; cases this
  · exact h1

/-- parts, each with its own cells -/
theorem layParts_ok {enc : TypeId × Value → H} {held : Bool} {need : Prop} {f : LayF H} (hf : LayOk enc P w held need f) : ∀ (ts : List TypeId) (ds : List (DataW H)) (st : St) (cs : List (List Value)) (st' : St), layParts f ts ds st = some (cs, st') →
    ∀ m, Lay P w m st → ∀ (css : List (List Value)) (ps : List (List MemPlace)) (tf : Nat), css.length = ts.length → ps.length = ts.length →
      (∀ (i : Nat) t c d p, ts[i]? = some t → css[i]? = some c → ds[i]? = some d → ps[i]? = some p → DataW.trod enc P w 0 (fun _ => true) held tf t c = some (d, p)) →
      (need → ∀ p ∈ ps, PlacesOk P w p) → (need → ∀ c ∈ css, CellsOk P w c) →
      ∃ m', (∀ i l, m i = some l → m' i = some l) ∧ Lay P w m' st' ∧ (∀ μ, Ext m' μ → cs.map (·.map (conc μ)) = css) ∧ st.ct ≤ st'.ct ∧ ds.length = ts.length := by
  intro ts
  induction ts with
  | nil =>
    intro ds st cs st' h m hm css ps tf hcs hps _ _ _
    cases ds with
    | nil =>
      simp [layParts] at h
      obtain ⟨rfl, rfl⟩ := h
      cases css with
      | nil => exact ⟨m, fun _ _ h => h, hm, fun _ _ => rfl, Nat.le_refl _, rfl⟩
      | cons c css => simp at hcs
    | cons d ds => simp [layParts] at h
  | cons t ts ih =>
    intro ds st cs st' h m hm css ps tf hcs hps htr hpl hcl
    cases ds with
    | nil => simp [layParts] at h
    | cons d ds =>
      cases css with
      | nil => simp at hcs
      | cons cc css =>
        cases ps with
        | nil => simp at hps
        | cons p ps =>
          simp only [layParts] at h
          split at h <;> (try (simp at h; done))
          rename_i c st1 h1
          split at h <;> (try (simp at h; done))
          rename_i r st2 h2
          simp at h; obtain ⟨rfl, rfl⟩ := h
          obtain ⟨m1, e1, l1, v1, c1⟩ := hf t d st c st1 h1 m hm tf cc p (htr 0 t cc d p rfl rfl rfl rfl) (fun hn => hpl hn p (by simp)) (fun hn => hcl hn cc (by simp))
          obtain ⟨m2, e2, l2, v2, c2, hlen⟩ := ih ds st1 r st2 h2 m1 l1 css ps tf (by simpa using hcs) (by simpa using hps)
            (fun i t' c' d' p' q1 q2 q3 q4 => htr (i + 1) t' c' d' p' (by simpa using q1) (by simpa using q2) (by simpa using q3) (by simpa using q4)) (fun hn p hp => hpl hn p (by simp [hp])) (fun hn c hc => hcl hn c (by simp [hc]))
          refine ⟨m2, fun i l hi => e2 i l (e1 i l hi), l2, fun μ hμ => ?_, by omega, by simp [hlen]⟩
          simp only [List.map_cons, v2 μ hμ]
          rw [v1 μ (hμ.mono e2)]

def HoldOk (enc : TypeId × Value → H) (hold : H → Option Value) : Prop := ∀ t fn first cap h v, enc (t, .func fn first cap) = h → hold h = some v → v = .func fn first cap

theorem mapM_some {α β : Type} (f : α → Option β) : ∀ (l : List α) (r : List β), l.mapM f = some r → r.length = l.length ∧ ∀ (i : Nat) a, l[i]? = some a → ∃ b, r[i]? = some b ∧ f a = some b := by
  intro l
  induction l with
  | nil => intro r h; simp at h; subst h; exact ⟨rfl, fun i a h => by simp at h⟩
  | cons x l ih =>
    intro r h
    rw [List.mapM_cons] at h
    simp only [bind, Option.bind_eq_some_iff, pure] at h
    obtain ⟨b, hb, q, hq, h⟩ := h
    simp at h; subst h
    obtain ⟨h1, h2⟩ := ih q hq
    refine ⟨by simp [h1], fun i a hi => ?_⟩
    cases i with
    | zero => simp at hi; subst hi; exact ⟨b, by simp, hb⟩
    | succ i => simp at hi ⊢; exact h2 i a hi

section
variable {enc : TypeId × Value → H} {held : Bool} {t : TypeId} {tf : Nat} {ccs : List Value} {d : DataW H} {p : List MemPlace}

theorem trod_bool (hd : P.underlying t = some .bool) (ht : DataW.trod enc P w 0 (fun _ => true) held tf t ccs = some (d, p)) : ∃ b, ccs = [.bool b] ∧ d = .lit (.bool b) := by
  cases tf with
  | zero => simp [DataW.trod] at ht
  | succ tf =>
    unfold DataW.trod at ht
    rw [hd] at ht
    split at ht <;> simp_all

theorem trod_int {k : IntKind} (hd : P.underlying t = some (.int k)) (ht : DataW.trod enc P w 0 (fun _ => true) held tf t ccs = some (d, p)) : ∃ n, ccs = [.int k n] ∧ d = .lit (.int k n) := by
  cases tf with
  | zero => simp [DataW.trod] at ht
  | succ tf =>
    unfold DataW.trod at ht
    rw [hd] at ht
    split at ht <;> (try (simp_all; done))

theorem trod_string (hd : P.underlying t = some .string) (ht : DataW.trod enc P w 0 (fun _ => true) held tf t ccs = some (d, p)) : ∃ s, ccs = [.string s] ∧ d = .lit (.string s.data.toList) := by
  cases tf with
  | zero => simp [DataW.trod] at ht
  | succ tf =>
    unfold DataW.trod at ht
    rw [hd] at ht
    split at ht <;> (try (simp_all; done))

theorem trod_ptr {e : TypeId} (hd : P.underlying t = some (.pointer e)) (ht : DataW.trod enc P w 0 (fun _ => true) held tf t ccs = some (d, p)) :
    (ccs = [.pointer none] ∧ d = .nil) ∨ ∃ a cs tf' d' p', ccs = [.pointer (some a)] ∧ w.cells? 0 a (P.cellsOf e) = some cs ∧ DataW.trod enc P w 0 (fun _ => true) held tf' e cs = some (d', p') ∧ d = .ptr d' ∧ p = MemPlace.row a (P.cellsOf e) ++ p' := by
  cases tf with
  | zero => simp [DataW.trod] at ht
  | succ tf =>
    unfold DataW.trod at ht
    rw [hd] at ht
    split at ht <;> (try (simp_all; done))
    rename_i e' a h1
    injection h1 with h1
    injection h1 with h1
    subst h1
    simp only [Option.map_eq_some_iff, Option.bind_eq_some_iff] at ht
    obtain ⟨⟨d', p'⟩, ⟨cs, h2, h3⟩, h4⟩ := ht
    simp only [Prod.mk.injEq] at h4
    exact .inr ⟨a, cs, tf, d', p', rfl, h2, h3, h4.1.symm, h4.2.symm⟩

theorem trod_slice {e : TypeId} (hd : P.underlying t = some (.slice e)) (ht : DataW.trod enc P w 0 (fun _ => true) held tf t ccs = some (d, p)) :
    (ccs = [.slice none 0 0] ∧ d = .nil) ∨ ∃ a len cap tf' elems rest, ccs = [.slice (some a) len cap] ∧ len ≤ cap ∧ cap ≤ maxLen ∧
      (List.range len).mapM (fun i => (w.cells? 0 (a.add (i * P.cellsOf e)) (P.cellsOf e)).bind (DataW.trod enc P w 0 (fun _ => true) held tf' e)) = some elems ∧
      (List.range (cap - len)).mapM (fun j => (w.cells? 0 (a.add ((len + j) * P.cellsOf e)) (P.cellsOf e)).bind (DataW.trod enc P w 0 (fun _ => true) held tf' e)) = some rest ∧
      d = .slice (elems.map (·.1)) (rest.map (·.1)) ∧ p = MemPlace.row a ((elems.length + rest.length) * P.cellsOf e) ++ (elems ++ rest).flatMap (·.2) := by
  cases tf with
  | zero => simp [DataW.trod] at ht
  | succ tf =>
    unfold DataW.trod at ht
    rw [hd] at ht
    split at ht <;> (try (simp_all; done))
    rename_i e' a len cap h1
    injection h1 with h1
    injection h1 with h1
    subst h1
    simp only at ht
    split at ht <;> (try (simp at ht; done))
    rename_i hc
    simp only [if_true, Option.bind_eq_some_iff, Option.map_eq_some_iff] at ht
    obtain ⟨elems, h2, rest, h3, h4⟩ := ht
    simp only [Prod.mk.injEq] at h4
    exact .inr ⟨a, len, cap, tf, elems, rest, rfl, hc.2.1, hc.2.2, h2, h3, h4.1.symm, h4.2.symm⟩

theorem trod_struct {fs : Array Field} (hd : P.underlying t = some (.struct fs)) (ht : DataW.trod enc P w 0 (fun _ => true) held tf t ccs = some (d, p)) :
    ∃ tf' xs, ccs.length = P.cellsOf t ∧ fs.toList.mapM (fun f => DataW.trod enc P w 0 (fun _ => true) held tf' f.type ((ccs.drop f.offset).take (P.cellsOf f.type))) = some xs ∧ d = .agg (xs.map (·.1)) ∧ p = xs.flatMap (·.2) := by
  cases tf with
  | zero => simp [DataW.trod] at ht
  | succ tf =>
    unfold DataW.trod at ht
    rw [hd] at ht
    split at ht <;> (try (simp_all; done))
    rename_i fs' cs' h1
    injection h1 with h1
    injection h1 with h1
    subst h1
    split at ht <;> (try (simp at ht; done))
    rename_i hl
    simp only [Option.map_eq_some_iff, Prod.mk.injEq] at ht
    obtain ⟨xs, h2, h3, h4⟩ := ht
    exact ⟨tf, xs, hl, h2, h3.symm, h4.symm⟩

theorem trod_array {n : Nat} {e : TypeId} (hd : P.underlying t = some (.array n e)) (ht : DataW.trod enc P w 0 (fun _ => true) held tf t ccs = some (d, p)) :
    ∃ tf' xs, ccs.length = P.cellsOf t ∧ (List.range n).mapM (fun i => DataW.trod enc P w 0 (fun _ => true) held tf' e ((ccs.drop (i * P.cellsOf e)).take (P.cellsOf e))) = some xs ∧ d = .agg (xs.map (·.1)) ∧ p = xs.flatMap (·.2) := by
  cases tf with
  | zero => simp [DataW.trod] at ht
  | succ tf =>
    unfold DataW.trod at ht
    rw [hd] at ht
    split at ht <;> (try (simp_all; done))
    rename_i n' e' cs' h1
    injection h1 with h1
    injection h1 with h1 h1'
    subst h1; subst h1'
    split at ht <;> (try (simp at ht; done))
    rename_i hl
    simp only [Option.map_eq_some_iff, Prod.mk.injEq] at ht
    obtain ⟨xs, h2, h3, h4⟩ := ht
    exact ⟨tf, xs, hl, h2, h3.symm, h4.symm⟩

theorem trod_iface {ms : Array (String × TypeId)} (hd : P.underlying t = some (.interface ms)) (ht : DataW.trod enc P w 0 (fun _ => true) held tf t ccs = some (d, p)) :
    (ccs = [.nilIface] ∧ d = .nil) ∨ ∃ u v, ccs = [.iface u v] ∧ ((held = true ∧ d = .held (enc (u, v))) ∨
      ∃ name tf' d' , P.typeName? 3 u = some name ∧ DataW.trod enc P w 0 (fun _ => true) held tf' u v.cells.toList = some (d', p) ∧ d = .iface name d') := by
  cases tf with
  | zero => simp [DataW.trod] at ht
  | succ tf =>
    unfold DataW.trod at ht
    rw [hd] at ht
    split at ht <;> (try (simp_all; done))
    rename_i ms' u v h1
    refine .inr ⟨u, v, rfl, ?_⟩
    split at ht
    · simp at ht; exact .inl ⟨rfl, ht.1.symm⟩
    · rename_i name hn
      simp only [Option.map_eq_some_iff, Prod.mk.injEq] at ht
      obtain ⟨⟨d', p'⟩, h2, h3, h4⟩ := ht
      simp only at h3 h4
      subst h4
      exact .inr ⟨name, tf, d', hn, h2, h3.symm⟩
    · simp at ht

theorem trod_func {a1 a2 : Array TypeId} {a3 : Bool} (hd : P.underlying t = some (.func a1 a2 a3)) (ht : DataW.trod enc P w 0 (fun _ => true) held tf t ccs = some (d, p)) :
    (ccs = [.nilFunc] ∧ d = .nil) ∨ ∃ fn first cap, ccs = [.func fn first cap] ∧ d = .held (enc (t, .func fn first cap)) := by
  cases tf with
  | zero => simp [DataW.trod] at ht
  | succ tf =>
    unfold DataW.trod at ht
    rw [hd] at ht
    split at ht <;> (try (simp_all; done))
    rename_i fn first cap _
    split at ht <;> (try (simp at ht; done))
    simp only [Option.some.injEq, Prod.mk.injEq] at ht
    exact .inr ⟨fn, first, cap, rfl, ht.1.symm⟩

theorem trod_map {k e : TypeId} (hd : P.underlying t = some (.map k e)) (ht : DataW.trod enc P w 0 (fun _ => true) held tf t ccs = some (d, p)) :
    (ccs = [.map none] ∧ d = .nil) ∨ ∃ b es clock tf' entries, ccs = [.map (some b)] ∧ w.heap[b]? = some (.map es clock) ∧ (es.all (·.born < clock) = true ∧ (es.toList.map (·.born)).eraseDups.length = es.size) ∧
      es.toList.mapM (fun x => (keyOf P k x.key).bind fun key => if x.val.formed P e then (DataW.trod enc P w 0 (fun _ => true) held tf' e x.val.cells.toList).map fun y => ((key, y.1), y.2) else none) = some entries ∧
      d = .map ((entries.map (·.1)).foldr DataW.insert []) ∧ p = .map b :: entries.flatMap (·.2) := by
  cases tf with
  | zero => simp [DataW.trod] at ht
  | succ tf =>
    unfold DataW.trod at ht
    rw [hd] at ht
    split at ht <;> (try (simp_all; done))
    rename_i k' e' b h1
    injection h1 with h1
    injection h1 with h1 h1'
    subst h1; subst h1'
    split at ht <;> (try (simp at ht; done))
    rename_i es clock hh
    split at ht <;> (try (simp at ht; done))
    rename_i hcond
    simp only [Option.bind_eq_some_iff] at ht
    obtain ⟨entries, h2, h3⟩ := ht
    split at h3 <;> (try (simp at h3; done))
    simp only [Option.some.injEq, Prod.mk.injEq] at h3
    exact .inr ⟨b, es, clock, tf, entries, rfl, hh, hcond.2.2, h2, h3.1.symm, h3.2.symm⟩
end

theorem litVal_ok {enc : TypeId × Value → H} {held : Bool} {t : TypeId} {ds : TypeDesc} {l : Lit} {v : Value} (hd : P.underlying t = some ds) (h : litVal ds l = some v) {tf : Nat} {ccs : List Value} {p : List MemPlace}
    (ht : DataW.trod enc P w 0 (fun _ => true) held tf t ccs = some (.lit l, p)) : ccs = [v] ∧ flat v = true := by
  cases ds <;> cases l <;> simp only [litVal] at h <;> (try (simp at h; done))
  · simp at h; subst h
    obtain ⟨b, h1, h2⟩ := trod_bool hd ht
    simp at h2; subst h2
    exact ⟨h1, rfl⟩
  · split at h <;> (try (simp at h; done))
    rename_i hk
    simp only [decide_eq_true_eq] at hk
    simp at h; subst h; subst hk
    obtain ⟨b, h1, h2⟩ := trod_int hd ht
    simp at h2; subst h2
    exact ⟨h1, rfl⟩
  · simp at h; subst h
    obtain ⟨b, h1, h2⟩ := trod_string hd ht
    simp at h2; subst h2
    exact ⟨h1, rfl⟩

theorem cells?_get {a : Addr} {n : Nat} {cs : List Value} (h : w.cells? 0 a n = some cs) : cs.length = n ∧ ∀ j v, cs[j]? = some v → w.cell? (a.add j) = some v := by
  unfold World.cells? at h
  rw [if_pos (Nat.zero_le _)] at h
  obtain ⟨h1, h2⟩ := mapM_some _ _ _ h
  simp only [List.length_range] at h1
  refine ⟨h1, fun j v hj => ?_⟩
  have hlt : j < n := by have := (List.getElem?_eq_some_iff.1 hj).1; omega
  obtain ⟨b, h3, h4⟩ := h2 j j (by simp [hlt])
  rw [hj] at h3; injection h3 with h3; subst h3
  exact h4

theorem cell?_block {a : Addr} {v : Value} (h : w.cell? a = some v) : a.spot = none ∧ ∃ c e fz, w.heap[a.block]? = some (.cells c e fz) ∧ c[a.off]? = some v := by
  unfold World.cell? at h
  split at h
  · rename_i c e fz hb
    split at h
    · simp at h
    · rename_i hs
      exact ⟨by simpa using hs, c, e, fz, hb, h⟩
  · simp at h

/-- cells in a row, behind an address -/
theorem row_rep {a : Addr} {c : List Value} {cs : List Value} {m : Nat → Option Loc} {id : Nat} {e : TypeId} {n : Nat} (hn : 1 ≤ n) (hlen : cs.length = n) (hcell : ∀ j v, cs[j]? = some v → w.cell? (a.add j) = some v)
    (hc : ∀ μ, Ext m μ → c.map (conc μ) = cs) (hid : m id = none) :
    a.spot = none ∧ a.block < w.heap.size ∧ ∀ μ, Ext (setM m id ⟨a.block, a.off, 0, .nilFunc⟩) μ → ObjRep (Cx.of P) μ w id (.row e c false false) := by
  have h0 : w.cell? (a.add 0) = some (cs[0]'(by omega)) := hcell 0 _ (List.getElem?_eq_getElem (by omega))
  rw [show a.add 0 = a by simp [Addr.add]] at h0
  obtain ⟨hs, cells, e', fz, hb, hc0⟩ := cell?_block h0
  have hadd : ∀ j, a.add j = ⟨a.block, a.off + j, none⟩ := by
    intro j
    unfold Addr.add
    split
    · rename_i h; subst h; rw [← hs]; simp
    · rw [← hs]
  have hget : ∀ j v, cs[j]? = some v → cells[a.off + j]? = some v := by
    intro j v hj
    have := hcell j v hj
    rw [hadd] at this
    simpa [World.cell?, hb] using this
  refine ⟨hs, (Array.getElem?_eq_some_iff.1 hb).1, fun μ hμ => ?_⟩
  have hloc : μ id = ⟨a.block, a.off, 0, .nilFunc⟩ := hμ _ _ (setM_same _ _)
  have hcm := hc μ (hμ.mono (setM_mono hid))
  have hcl : c.length = n := by rw [← hlen, ← hcm]; simp
  refine ⟨cells, e', fz, by rw [hloc]; exact hb, ?_, ?_, fun h => by simp at h, fun h => by simp at h, fun h => by simp at h⟩
  · rw [hloc, hcl]
    have hlast := hget (n - 1) (cs[n - 1]'(by omega)) (List.getElem?_eq_getElem (by omega))
    have := (Array.getElem?_eq_some_iff.1 hlast).1
    simp only; omega
  · intro j v hj _
    rw [hloc]
    refine hget j _ ?_
    rw [← hcm, List.getElem?_map, hj]; rfl

theorem row_mem {a : Addr} {n j : Nat} (hj : j < n) : MemPlace.cell a.block (a.off + j) ∈ MemPlace.row a n := by
  unfold MemPlace.row
  exact List.mem_map.2 ⟨j, by simpa using hj, rfl⟩

theorem PlacesOk.row {a : Addr} {n : Nat} {p q : List MemPlace} (h : PlacesOk P w (MemPlace.row a n ++ p ++ q)) (hs : a.spot = none) {j : Nat} (hj : j < n) {u : TypeId} {v : Value} (hc : w.cell? (a.add j) = some (.iface u v)) : Value.okWide P w .any 0 u v := by
  refine h a.block (a.off + j) (by simp [row_mem hj]) u v ?_
  have hadd : a.add j = ⟨a.block, a.off + j, none⟩ := by
    unfold Addr.add
    split
    · rename_i h; subst h; rw [← hs]; simp
    · rw [← hs]
  rw [← hadd]; exact hc

theorem insert_perm {x : Lit × DataW H} : ∀ (l : List (Lit × DataW H)), (DataW.insert x l).Perm (x :: l) := by
  intro l
  induction l with
  | nil => exact List.Perm.refl _
  | cons y l ih =>
    unfold DataW.insert
    split
    · exact List.Perm.refl _
    · exact (List.Perm.cons y ih).trans (List.Perm.swap x y l)
theorem sorted_perm : ∀ (l : List (Lit × DataW H)), (l.foldr DataW.insert []).Perm l := by
  intro l
  induction l with
  | nil => exact List.Perm.refl _
  | cons x l ih => exact (insert_perm _).trans (List.Perm.cons x ih)

/-- the entries of a map, in the text's order, and as they lie -/
def entryOf (cx : Cx) (f : LayF H) (kd : TypeDesc) (e : TypeId) (agg : Bool) (x : Lit × DataW H) : Value × Value := ((litVal kd x.1).getD undef, (valOf cx f e agg x.2).getD undef)

theorem layEntries_eq {cx : Cx} {f : LayF H} {kd : TypeDesc} {e : TypeId} {agg : Bool} : ∀ (l : List (Lit × DataW H)) (es : List MapEntry), layEntries cx f kd e agg l = some es →
    es.map kvOf = l.map (entryOf cx f kd e agg) ∧ (∀ x ∈ l, ∃ k v, litVal kd x.1 = some k ∧ valOf cx f e agg x.2 = some v) := by
  intro l
  induction l with
  | nil => intro es h; simp [layEntries] at h; subst h; exact ⟨rfl, fun x hx => by simp at hx⟩
  | cons x l ih =>
    obtain ⟨k, d⟩ := x
    intro es h
    simp only [layEntries] at h
    split at h <;> (try (simp at h; done))
    rename_i kv v r h1 h2 h3
    simp at h; subst h
    obtain ⟨h4, h5⟩ := ih r h3
    refine ⟨by simp [h4, kvOf, entryOf, h1, h2], fun x hx => ?_⟩
    rcases List.mem_cons.1 hx with rfl | hx
    · exact ⟨kv, v, h1, h2⟩
    · exact h5 x hx

theorem lay_start (P : Program) (w : World) : Lay P w (fun g => if g < P.globals.size then some ⟨g, 0, 0, .nilFunc⟩ else none) ⟨.nil, P.globals.size⟩ where
  obj := fun id o h => by simp [St.G, T.get_nil] at h
  fresh := fun i hi => by rw [if_neg (by simpa using hi)]
  glob := fun g hg => by rw [if_pos hg]

theorem keyOf_litVal {kt : TypeId} {kd : TypeDesc} {x : Value} {k : Lit} {v : Value} (hd : P.underlying kt = some kd) (hk : keyOf P kt x = some k) (hl : litVal kd k = some v) : x = v := by
  unfold keyOf at hk
  rw [hd] at hk
  cases kd <;> cases k <;> simp only [litVal] at hl <;> (try (simp at hl; done)) <;> simp only at hk <;> unfold mapKey at hk <;> rw [hd] at hk
  · simp at hl; subst hl
    split at hk <;> simp_all
  · split at hl <;> (try (simp at hl; done))
    simp at hl; subst hl
    split at hk <;> simp_all
  · simp at hl; subst hl
    split at hk <;> simp_all
    obtain ⟨h1, rfl⟩ := hk
    rfl

theorem flatL_cell {c : List Value} (h : flatL c = true) (μ : Nat → Loc) : c.map (conc μ) = c := map_flat h μ

theorem litVal_flat {kd : TypeDesc} {key : Lit} {kv : Value} (h : litVal kd key = some kv) : flat kv = true := by
  cases kd <;> cases key <;> simp only [litVal] at h <;> (try (simp at h; done))
  · simp at h; subst h; rfl
  · split at h <;> (try (simp at h; done))
    simp at h; subst h; rfl
  · simp at h; subst h; rfl

theorem eraseDups_le : ∀ (n : Nat) (l : List Nat), l.length ≤ n → l.eraseDups.length ≤ l.length ∧ (l.eraseDups.length = l.length → l.Nodup) := by
  intro n
  induction n with
  | zero => intro l h; cases l with | nil => simp | cons _ _ => simp at h
  | succ n ih =>
    intro l h
    cases l with
    | nil => simp
    | cons x l =>
      rw [List.eraseDups_cons]
      have hf : (l.filter fun b => !b == x).length ≤ l.length := List.length_filter_le _ _
      obtain ⟨h1, h2⟩ := ih (l.filter fun b => !b == x) (by simp at h; omega)
      refine ⟨by simp only [List.length_cons]; omega, fun he => ?_⟩
      simp only [List.length_cons] at he
      have hfl : (l.filter fun b => !b == x) = l := by
        apply List.filter_eq_self.2
        have : (l.filter fun b => !b == x).length = l.length := by omega
        exact List.length_filter_eq_length_iff.1 this
      have hnd := h2 (by omega)
      rw [hfl] at hnd
      rw [List.nodup_cons]
      refine ⟨fun hx => ?_, hnd⟩
      have := List.filter_eq_self.1 hfl x hx
      simp at this

theorem nodup_of_eraseDups {l : List Nat} (h : l.eraseDups.length = l.length) : l.Nodup := (eraseDups_le l.length l (Nat.le_refl _)).2 h

/-- a map as it lies -/
theorem map_rep {enc : TypeId × Value → H} {held : Bool} {f : LayF H} (hf : LayOk enc P w held False f) {k e : TypeId} {kd : TypeDesc} {agg : Bool} (hkd : (Cx.of P).desc k = some kd) (hagg : (Cx.of P).isAgg e = some agg)
    {b : Nat} {es : Array MapEntry} {clock : Nat} {tf : Nat} {entries : List ((Lit × DataW H) × List MemPlace)} (hb : w.heap[b]? = some (.map es clock)) (hbn : es.all (·.born < clock) = true ∧ (es.toList.map (·.born)).eraseDups.length = es.size)
    (hm : es.toList.mapM (fun x => (keyOf P k x.key).bind fun key => if x.val.formed P e then (DataW.trod enc P w 0 (fun _ => true) held tf e x.val.cells.toList).map fun y => ((key, y.1), y.2) else none) = some entries)
    {aes : List MapEntry} (hl : layEntries (Cx.of P) f kd e agg ((entries.map (·.1)).foldr DataW.insert []) = some aes) {m : Nat → Option Loc} {id : Nat} :
    ∀ μ, Ext (setM m id ⟨b, 0, clock, .nilFunc⟩) μ → ObjRep (Cx.of P) μ w id (.map aes true false) := by
  intro μ hμ
  have hloc : μ id = ⟨b, 0, clock, .nilFunc⟩ := hμ _ _ (setM_same _ _)
  obtain ⟨h1, h2⟩ := layEntries_eq _ _ hl
  obtain ⟨h3, h4⟩ := mapM_some _ _ _ hm
  have hp := sorted_perm (entries.map (·.1))
  have hund := Cx.desc_under hkd
  -- each entry as it lies
  have each : ∀ (i : Nat) x, es.toList[i]? = some x → ∃ y, entries[i]? = some y ∧ kvOf x = entryOf (Cx.of P) f kd e agg y.1 ∧ flat x.val = true := by
    intro i x hi
    obtain ⟨y, h5, h6⟩ := h4 i x hi
    have hy : y ∈ entries := List.mem_of_getElem? h5
    refine ⟨y, h5, ?_⟩
    simp only [Option.bind_eq_some_iff] at h6
    obtain ⟨key, h7, h8⟩ := h6
    split at h8 <;> (try (simp at h8; done))
    rename_i hform
    simp only [Option.map_eq_some_iff] at h8
    obtain ⟨⟨d, p⟩, h9, rfl⟩ := h8
    obtain ⟨kv, v, h10, h11⟩ := h2 (key, d) (hp.mem_iff.2 (List.mem_map.2 ⟨_, hy, rfl⟩))
    have hkey := keyOf_litVal hund h7 h10
    have hval : x.val = v ∧ flat v = true := by
      have h12 := h11
      unfold valOf at h12
      split at h12 <;> (try (simp at h12; done))
      rename_i c st1 hfe
      split at h12 <;> (try (simp at h12; done))
      rename_i hfl
      simp only [Bool.and_eq_true] at hfl
      obtain ⟨m', _, _, hv, _⟩ := hf e d ⟨.nil, P.globals.size⟩ c st1 hfe _ (lay_start P w) tf _ p h9 (fun h => h.elim) (fun h => h.elim)
      have hcells : x.val.cells.toList = c := by
        rw [← hv _ (some0_ext m'), flatL_cell hfl.1]
      have hisA := hagg
      unfold Cx.isAgg at hisA
      cases agg with
      | true =>
        simp at h12; subst h12
        cases hx : x.val with
        | agg cs => rw [hx] at hcells; simp only [Value.cells] at hcells; subst hcells; exact ⟨rfl, by simp only [flat, flatA]; exact hfl.1⟩
        | _ =>
          exfalso
          rw [hx] at hform
          simp only [Value.formed] at hform
          split at hisA <;> (try (simp at hisA; done))
          all_goals
            rename_i hde
            simp [Cx.desc_under hde] at hform
      | false =>
        simp only at h12
        split at h12 <;> (try (simp at h12; done))
        rename_i u
        simp at h12; subst h12
        have hfu : flat u = true := by have := hfl.1; simp only [flatL, Bool.and_eq_true] at this; exact this.1
        cases hx : x.val with
        | agg cs =>
          exfalso
          rw [hx] at hform
          simp only [Value.formed] at hform
          split at hisA <;> (try (simp at hisA; done))
          rename_i hns hna hde
          rw [Cx.desc_under hde] at hform
          split at hform <;> simp_all
        | _ => rw [hx] at hcells; simp only [Value.cells] at hcells; simp at hcells; exact ⟨hcells, hfu⟩
    exact ⟨by simp [kvOf, entryOf, h10, h11, hkey, hval.1], by rw [hval.1]; exact hval.2⟩
  have hmap : es.toList.map kvOf = (entries.map (·.1)).map (entryOf (Cx.of P) f kd e agg) := by
    apply List.ext_getElem?
    intro i
    rw [List.getElem?_map, List.getElem?_map, List.getElem?_map]
    cases hi : es.toList[i]? with
    | none =>
      have : entries[i]? = none := by rw [List.getElem?_eq_none_iff] at hi ⊢; omega
      rw [this]; rfl
    | some x =>
      obtain ⟨y, h5, h6, _⟩ := each i x hi
      rw [h5]
      simp [h6]
  refine ⟨⟨es.toList, clock, ?_, ?_, nodup_of_eraseDups (by simpa using hbn.2), ?_, fun _ => by rw [hloc]⟩, ?_⟩
  · rw [hloc]
    have : es.toList.map (concE μ) = es.toList := by
      apply List.ext_getElem?
      intro i
      rw [List.getElem?_map]
      cases hi : es.toList[i]? with
      | none => rfl
      | some x =>
        obtain ⟨_, _, _, h6⟩ := each i x hi
        simp [concE, conc_flat μ x.val h6]
    rw [this]
    exact hb
  · rw [h1, hmap]
    exact (hp.map _).symm
  · intro e he
    have := Array.all_eq_true_iff_forall_mem.1 hbn.1 e (by simpa using he)
    simpa using this
  · intro a ha
    have : kvOf a ∈ aes.map kvOf := List.mem_map.2 ⟨a, ha, rfl⟩
    rw [h1] at this
    obtain ⟨x, hx, hxe⟩ := List.mem_map.1 this
    obtain ⟨kv, v, h5, _⟩ := h2 x hx
    simp only [entryOf, kvOf, h5, Option.getD_some, Prod.mk.injEq] at hxe
    rw [← hxe.1]
    exact litVal_flat h5

theorem CellsOk.sub {ccs l : List Value} (h : CellsOk P w ccs) (hs : ∀ v ∈ l, v ∈ ccs) : CellsOk P w l := fun u v hv => h u v (hs _ hv)

theorem layA_ok {enc : TypeId × Value → H} {held : Bool} {hold : H → Option Value} (hh : HoldOk enc hold) : ∀ (fuel : Nat) (nm : List (String × TypeId)), nm.all (nameOk P) = true → LayOk enc P w held (nm ≠ []) (layA (Cx.of P) nm hold fuel) := by
  intro fuel
  induction fuel with
  | zero => intro nm _ t d st cs st' h; simp [layA] at h
  | succ fuel ih =>
    intro nm hnm t d st cs st' h m hm tf ccs p ht hpl hcl
    have keep : ∀ {v : Value}, cs = [v] → st' = st → ccs = [v] → flat v = true → ∃ m', (∀ i l, m i = some l → m' i = some l) ∧ Lay P w m' st' ∧ VReps m' cs ccs ∧ st.ct ≤ st'.ct := by
      intro v h1 h2 h3 h4
      subst h1; subst h2; subst h3
      exact ⟨m, fun _ _ h => h, hm, fun μ _ => by simp [conc_flat μ v h4], Nat.le_refl _⟩
    unfold layA at h
    cases hd : (Cx.of P).desc t with
    | none => rw [hd] at h; simp at h
    | some ds =>
      rw [hd] at h
      simp only at h
      have hu := Cx.desc_under hd
      cases d with
      | lit l =>
        simp only at h
        split at h <;> (try (simp at h; done))
        rename_i v hv
        simp at h; obtain ⟨rfl, rfl⟩ := h
        obtain ⟨h1, h2⟩ := litVal_ok hu hv ht
        exact keep rfl rfl h1 h2
      | nil =>
        cases ds <;> simp only at h <;> (try (simp at h; done)) <;> simp at h <;> obtain ⟨rfl, rfl⟩ := h
        · rcases trod_ptr hu ht with ⟨h1, _⟩ | ⟨_, _, _, _, _, _, _, _, h1, _⟩
          · exact keep rfl rfl h1 rfl
          · cases h1
        · rcases trod_slice hu ht with ⟨h1, _⟩ | ⟨_, _, _, _, _, _, _, _, _, _, _, h1, _⟩
          · exact keep rfl rfl h1 rfl
          · cases h1
        · rcases trod_map hu ht with ⟨h1, _⟩ | ⟨_, _, _, _, _, _, _, _, _, h1, _⟩
          · exact keep rfl rfl h1 rfl
          · cases h1
        · rcases trod_func hu ht with ⟨h1, _⟩ | ⟨_, _, _, _, h1⟩
          · exact keep rfl rfl h1 rfl
          · cases h1
        · rcases trod_iface hu ht with ⟨h1, _⟩ | ⟨_, _, _, ⟨_, h1⟩ | ⟨_, _, _, _, _, h1⟩⟩
          · exact keep rfl rfl h1 rfl
          · cases h1
          · cases h1
      | ptr d =>
        cases ds <;> simp only at h <;> (try (simp at h; done))
        rename_i e
        split at h <;> (try (simp at h; done))
        rename_i c st1 n h1 hsz
        split at h <;> (try (simp at h; done))
        rename_i hb
        simp only [Bool.and_eq_true] at hb
        simp at h; obtain ⟨rfl, rfl⟩ := h
        have hn : 1 ≤ n := Nat.le_of_ble_eq_true hb.2
        rcases trod_ptr hu ht with ⟨_, h2⟩ | ⟨a, cs', tf', d', p', rfl, h2, h3, h4, rfl⟩
        · cases h2
        · injection h4 with h4; subst h4
          rw [size_cells hsz] at h2 hpl
          obtain ⟨hlen, hcell⟩ := cells?_get h2
          have h0 : w.cell? (a.add 0) = some (cs'[0]'(by omega)) := hcell 0 _ (List.getElem?_eq_getElem (by omega))
          rw [show a.add 0 = a by simp [Addr.add]] at h0
          have hsp := (cell?_block h0).1
          obtain ⟨m1, e1, l1, v1, c1⟩ := ih nm hnm e d st c st1 h1 m hm tf' cs' p' h3 (fun hne b off hb2 => hpl hne b off (by simp [hb2])) (fun hne u v hv => by
            obtain ⟨j, hj⟩ := List.getElem?_of_mem hv
            exact (show PlacesOk P w (MemPlace.row a n ++ p' ++ []) by simpa using hpl hne).row hsp (j := j) (by have := (List.getElem?_eq_some_iff.1 hj).1; omega) (hcell j _ hj))
          have hid := l1.fresh st1.ct (Nat.le_refl _)
          obtain ⟨hs, hblk, hobj⟩ := row_rep (P := P) (e := e) (id := st1.ct) hn hlen hcell v1 hid
          refine ⟨setM m1 st1.ct ⟨a.block, a.off, 0, .nilFunc⟩, fun i l hi => setM_mono hid _ _ (e1 i l hi), l1.new rfl hblk l1.ng hobj, ?_, by simp; omega⟩
          intro μ hμ
          have hloc : μ st1.ct = ⟨a.block, a.off, 0, .nilFunc⟩ := hμ _ _ (setM_same _ _)
          simp only [List.map_cons, List.map_nil, conc_ptr, concAddr, hloc]
          rw [← hs]
          simp
      | slice elems spare =>
        cases ds <;> simp only at h <;> (try (simp at h; done))
        rename_i e
        cases spare with
        | cons _ _ => simp at h
        | nil =>
          simp only at h
          split at h <;> (try (simp at h; done))
          rename_i cs1 st1 n h1 hsz
          split at h <;> (try (simp at h; done))
          rename_i hb
          simp only [Bool.and_eq_true] at hb
          simp at h; obtain ⟨rfl, rfl⟩ := h
          have hn : 1 ≤ n := Nat.le_of_ble_eq_true hb.1.2
          have hne : 1 ≤ elems.length := Nat.le_of_ble_eq_true hb.2
          rcases trod_slice hu ht with ⟨_, h2⟩ | ⟨a, len, cap, tf', els, rest, rfl, hlc, hcm, h2, h3, h4, rfl⟩
          · cases h2
          · injection h4 with h4 h5
            obtain ⟨hl3, _⟩ := mapM_some _ _ _ h3
            have hr0 : rest = [] := by cases rest with | nil => rfl | cons _ _ => simp at h5
            subst hr0
            simp only [List.length_range, List.length_nil] at hl3
            obtain rfl : cap = len := by omega
            rw [size_cells hsz] at h2 hpl
            obtain ⟨hl2, hel⟩ := mapM_some _ _ _ h2
            simp only [List.length_range] at hl2
            have hdl : elems.length = cap := by rw [h4]; simp [hl2]
            -- the cells of each element
            have hget : ∀ i, i < cap → ∃ c y, els[i]? = some y ∧ w.cells? 0 (a.add (i * n)) n = some c ∧ DataW.trod enc P w 0 (fun _ => true) held tf' e c = some y := by
              intro i hi
              obtain ⟨y, h6, h7⟩ := hel i i (by simp [hi])
              simp only [Option.bind_eq_some_iff] at h7
              obtain ⟨c, h8, h9⟩ := h7
              exact ⟨c, y, h6, h8, h9⟩
            let css : List (List Value) := (List.range cap).map fun i => (w.cells? 0 (a.add (i * n)) n).getD []
            have hcss : ∀ (i : Nat) c, css[i]? = some c → w.cells? 0 (a.add (i * n)) n = some c ∧ i < cap := by
              intro i c hi
              have hlt : i < cap := by have := (List.getElem?_eq_some_iff.1 hi).1; simpa [css] using this
              obtain ⟨c', y, _, h7, _⟩ := hget i hlt
              simp only [css, List.getElem?_map, List.getElem?_range hlt, Option.map_some, Option.some.injEq] at hi
              rw [h7] at hi
              simp only [Option.getD_some] at hi
              subst hi
              exact ⟨h7, hlt⟩
            obtain ⟨c0, y0, _, h70, _⟩ := hget 0 (by omega)
            have hsp : a.spot = none := by
              obtain ⟨q1, q2⟩ := cells?_get h70
              have h0 := q2 0 (c0[0]'(by omega)) (List.getElem?_eq_getElem (by omega))
              rw [show (a.add (0 * n)).add 0 = a by simp [Addr.add]] at h0
              exact (cell?_block h0).1
            have hadd : ∀ j, a.add j = ⟨a.block, a.off + j, none⟩ := by
              intro j
              unfold Addr.add
              split
              · rename_i h; subst h; rw [← hsp]; simp
              · rw [← hsp]
            have hadd2 : ∀ i j, (a.add i).add j = a.add (i + j) := by
              intro i j
              rw [hadd, hadd]
              unfold Addr.add
              split
              · rename_i h; subst h; simp
              · simp [Nat.add_assoc]
            obtain ⟨m1, e1, l1, v1, c1, _⟩ := layParts_ok (ih nm hnm) (elems.map fun _ => e) elems st cs1 st1 h1 m hm css (els.map (·.2)) tf' (by simp [css, hdl]) (by simp [hl2, hdl])
              (fun i t' c d' p' q1 q2 q3 q4 => by
                rw [List.getElem?_map, Option.map_eq_some_iff] at q1
                obtain ⟨_, _, rfl⟩ := q1
                obtain ⟨q5, q6⟩ := hcss i c q2
                obtain ⟨c', y, q7, q8, q9⟩ := hget i q6
                rw [q5] at q8; injection q8 with q8; subst q8
                rw [h4, List.getElem?_map, q7] at q3
                rw [List.getElem?_map, q7] at q4
                simp only [Option.map_some, Option.some.injEq] at q3 q4
                subst q3; subst q4
                exact q9)
              (fun hx p' hp' b off hb2 => by
                obtain ⟨y, hy, rfl⟩ := List.mem_map.1 hp'
                exact hpl hx b off (by
                  refine List.mem_append_right _ ?_
                  simp only [List.append_nil]
                  exact List.mem_flatMap.2 ⟨y, hy, hb2⟩))
              (fun hx c hc u v hv => by
                obtain ⟨i, hi⟩ := List.getElem?_of_mem hc
                obtain ⟨q5, q6⟩ := hcss i c hi
                obtain ⟨q7, q8⟩ := cells?_get q5
                obtain ⟨j, hj⟩ := List.getElem?_of_mem hv
                have hjn : j < n := by have := (List.getElem?_eq_some_iff.1 hj).1; omega
                have hcj := q8 j _ hj
                rw [hadd2] at hcj
                refine PlacesOk.row (p := []) (q := (els ++ []).flatMap fun (x : DataW H × List MemPlace) => x.2) (n := (els.length + ([] : List (DataW H × List MemPlace)).length) * n) (by simpa using hpl hx) hsp (j := i * n + j) ?_ hcj
                simp only [hl2, List.length_nil, Nat.add_zero]
                calc i * n + j < i * n + n := by omega
                  _ = (i + 1) * n := by rw [Nat.add_mul]; omega
                  _ ≤ cap * n := Nat.mul_le_mul_right _ (by omega))
            have hlong := hb.1.1
            have hcl1 : cs1.length = cap := by
              have := congrArg List.length (v1 _ (some0_ext m1))
              simp only [List.length_map, css, List.length_range] at this
              exact this
            have hlcss : allLong n css = true := by
              have : ∀ (l : List (List Value)), (∀ c ∈ l, c.length = n) → allLong n l = true := by
                intro l
                induction l with
                | nil => intro _; rfl
                | cons x l ih => intro h; simp only [allLong, Bool.and_eq_true]; exact ⟨by rw [h x (by simp)]; simp, ih fun c hc => h c (by simp [hc])⟩
              refine this _ fun c hc => ?_
              obtain ⟨i, hi⟩ := List.getElem?_of_mem hc
              exact (cells?_get (hcss i c hi).1).1
            have hid := l1.fresh st1.ct (Nat.le_refl _)
            have hflen : (flats css).length = cap * n := by rw [flats_length _ hlcss]; simp [css]
            have hfcell : ∀ j v, (flats css)[j]? = some v → w.cell? (a.add j) = some v := by
              intro j v hj
              have hjl : j < cap * n := by have := (List.getElem?_eq_some_iff.1 hj).1; omega
              have hi : j / n < cap := Nat.div_lt_of_lt_mul (by rw [Nat.mul_comm]; exact hjl)
              have hci : css[j / n]? = some (css[j / n]'(by simpa [css] using hi)) := List.getElem?_eq_getElem _
              have := flats_get css hlcss (j / n) _ hci (j % n) (Nat.mod_lt _ (by omega))
              rw [Nat.div_add_mod' j n] at this
              rw [this] at hj
              have h9 := (cells?_get (hcss _ _ hci).1).2 _ _ hj
              rw [hadd2, Nat.div_add_mod' j n] at h9
              exact h9
            obtain ⟨_, hblk, hobj⟩ := row_rep (P := P) (e := e) (id := st1.ct) (n := cap * n) (c := flats cs1) (Nat.mul_pos (by omega) (by omega)) hflen hfcell (fun μ hμ => by rw [flats_map, v1 μ hμ]) hid
            refine ⟨setM m1 st1.ct ⟨a.block, a.off, 0, .nilFunc⟩, fun i l hi => setM_mono hid _ _ (e1 i l hi), l1.new rfl hblk l1.ng hobj, ?_, by simp; omega⟩
            intro μ hμ
            have hloc : μ st1.ct = ⟨a.block, a.off, 0, .nilFunc⟩ := hμ _ _ (setM_same _ _)
            have hmax : isOpen elems.length = false := by
              unfold isOpen
              rw [hdl]
              unfold maxLen at hcm
              cases hb : Nat.ble 18446744073709551616 cap with
              | false => rfl
              | true => have := Nat.le_of_ble_eq_true hb; omega
            simp only [List.map_cons, List.map_nil, conc_slice, concEnd, concCap, hmax, concAddr, hloc]
            rw [hdl, ← hsp]
            simp
      | agg parts =>
        have whole : ∀ (ts : List TypeId) (offs : List (Nat × Nat)) (cs1 : List (List Value)) (st1 : St) (xs : List (DataW H × List MemPlace)) (tf' : Nat) (n : Nat), layParts (layA (Cx.of P) nm hold fuel) ts parts st = some (cs1, st1) →
            tiles offs cs1 0 = some n → ccs.length = n → ts.length = offs.length → xs.length = ts.length → parts = xs.map (·.1) → p = xs.flatMap (·.2) →
            (∀ (i : Nat) t' o x, ts[i]? = some t' → offs[i]? = some o → xs[i]? = some x → DataW.trod enc P w 0 (fun _ => true) held tf' t' ((ccs.drop o.1).take o.2) = some x) →
            ∃ m', (∀ i l, m i = some l → m' i = some l) ∧ Lay P w m' st1 ∧ VReps m' (flats cs1) ccs ∧ st.ct ≤ st1.ct := by
          intro ts offs cs1 st1 xs tf' n h1 h2 h3 h4 h5 h6 h7 h8
          obtain ⟨m1, e1, l1, v1, c1, _⟩ := layParts_ok (ih nm hnm) ts parts st cs1 st1 h1 m hm (offs.map fun o => (ccs.drop o.1).take o.2) (xs.map (·.2)) tf' (by simp [h4]) (by simp [h5])
            (fun i t' c d' p' q1 q2 q3 q4 => by
              rw [List.getElem?_map, Option.map_eq_some_iff] at q2
              obtain ⟨o, q5, rfl⟩ := q2
              rw [h6, List.getElem?_map, Option.map_eq_some_iff] at q3
              obtain ⟨x, q6, rfl⟩ := q3
              rw [List.getElem?_map, q6] at q4
              simp only [Option.map_some, Option.some.injEq] at q4
              subst q4
              exact h8 i t' o x q1 q5 q6)
            (fun hx p' hp' b off hb2 => by
              obtain ⟨y, hy, rfl⟩ := List.mem_map.1 hp'
              exact hpl hx b off (by rw [h7]; exact List.mem_flatMap.2 ⟨y, hy, hb2⟩))
            (fun hx c hc u v hv => by
              obtain ⟨o, _, rfl⟩ := List.mem_map.1 hc
              exact hcl hx u v (List.mem_of_mem_drop (List.mem_of_mem_take hv)))
          refine ⟨m1, e1, l1, fun μ hμ => ?_, c1⟩
          rw [flats_map]
          have := tiles_eq ccs offs _ 0 n (by
            rw [← h2]
            have : ∀ (l : List (Nat × Nat)) (cs : List (List Value)) (a : Nat), tiles l (cs.map (·.map (conc μ))) a = tiles l cs a := by
              intro l
              induction l with
              | nil => intro cs a; cases cs <;> rfl
              | cons x l ih => intro cs a; cases cs with
                | nil => rfl
                | cons c cs => simp only [List.map_cons, tiles, List.length_map, ih]
            exact this offs cs1 0) (Nat.zero_le _) h3.symm (v1 μ hμ)
          rw [this]; simp
        cases ds <;> simp only at h <;> (try (simp at h; done))
        · rename_i n e
          split at h <;> (try (simp at h; done))
          rename_i cs1 st1 mm k h1 hsz hn
          split at h <;> (try (simp at h; done))
          rename_i hb
          simp only [Bool.and_eq_true] at hb
          have hk := Nat.eq_of_beq_eq_true hb.2
          simp at h; obtain ⟨rfl, rfl⟩ := h
          obtain ⟨tf', xs, h2, h3, h4, h5⟩ := trod_array hu ht
          injection h4 with h4
          rw [size_cells hsz] at h3
          obtain ⟨q1, q2⟩ := mapM_some _ _ _ h3
          simp only [List.length_range] at q1
          have hlen1 : cs1.length = n := by
            have : ∀ (ts : List TypeId) (ds : List (DataW H)) (st : St) (cs : List (List Value)) (st' : St), layParts (layA (Cx.of P) nm hold fuel) ts ds st = some (cs, st') → cs.length = ts.length := by
              intro ts
              induction ts with
              | nil => intro ds st cs st' h; cases ds <;> simp [layParts] at h; simp [h.1]
              | cons t ts ih =>
                intro ds st cs st' h
                cases ds with
                | nil => simp [layParts] at h
                | cons d ds =>
                  simp only [layParts] at h
                  split at h <;> (try (simp at h; done))
                  split at h <;> (try (simp at h; done))
                  rename_i hr
                  simp at h; obtain ⟨rfl, _⟩ := h
                  simp [ih _ _ _ _ hr]
            have := this _ _ _ _ _ h1
            simpa using this
          have htl : ∀ (l : List Nat) (cs : List (List Value)) (s : Nat), allLong mm cs = true → cs.length = l.length → (∀ i (x : Nat), l[i]? = some x → x = s + i) → tiles (l.map fun i => (i * mm, mm)) cs (s * mm) = some ((s + l.length) * mm) := by
            intro l
            induction l with
            | nil => intro cs s _ hl _; cases cs <;> simp at hl; simp [tiles]
            | cons x l ih =>
              intro cs s hlong hl hx
              cases cs with
              | nil => simp at hl
              | cons c cs =>
                simp only [allLong, Bool.and_eq_true] at hlong
                have hx0 := hx 0 x rfl
                simp only [Nat.add_zero] at hx0
                subst hx0
                simp only [List.map_cons, tiles, hlong.1, Bool.and_true]
                have : Nat.beq (x * mm) (x * mm) = true := by simp
                rw [this]
                simp only
                rw [show x * mm + mm = (x + 1) * mm by rw [Nat.add_mul]; omega, ih cs (x + 1) hlong.2 (by simpa using hl) (fun i y hy => by have := hx (i + 1) y (by simpa using hy); omega)]
                simp only [List.length_cons]
                congr 2
                omega
          have htl0 := htl (List.range n) cs1 0 hb.1 (by simp [hlen1]) (fun i x hx => by
            rw [List.getElem?_range (by have := (List.getElem?_eq_some_iff.1 hx).1; simpa using this)] at hx
            simp at hx; omega)
          simp only [Nat.zero_mul, List.length_range, Nat.zero_add] at htl0
          refine whole _ ((List.range n).map fun i => (i * mm, mm)) cs1 st1 xs tf' (n * mm) h1 htl0 (by rw [h2, size_cells hn, hk]) (by simp) (by simp [q1]) h4 h5 ?_
          intro i t' o x g1 g2 g3
          rw [List.getElem?_map, Option.map_eq_some_iff] at g1
          obtain ⟨f, g4, rfl⟩ := g1
          rw [List.getElem?_map, g4] at g2
          simp only [Option.map_some, Option.some.injEq] at g2
          subst g2
          obtain ⟨y, g5, g6⟩ := q2 i f g4
          rw [g3] at g5; injection g5 with g5; subst g5
          exact g6
        · rename_i fs
          split at h <;> (try (simp at h; done))
          rename_i cs1 st1 sz n h1 hsz hn
          split at h <;> (try (simp at h; done))
          rename_i k htl
          split at h <;> (try (simp at h; done))
          rename_i hk
          have hk := Nat.eq_of_beq_eq_true hk
          simp at h; obtain ⟨rfl, rfl⟩ := h
          obtain ⟨tf', xs, h2, h3, h4, h5⟩ := trod_struct hu ht
          injection h4 with h4
          obtain ⟨q1, q2⟩ := mapM_some _ _ _ h3
          have hsz2 : ∀ (fs : List Field) (sz : List (Nat × Nat)), fieldSizes (Cx.of P) fs = some sz → sz = fs.map fun f => (f.offset, P.cellsOf f.type) := by
            intro fs
            induction fs with
            | nil => intro sz h; simp [fieldSizes] at h; subst h; rfl
            | cons f fs ih =>
              intro sz h
              simp only [fieldSizes] at h
              split at h <;> (try (simp at h; done))
              rename_i n hn
              split at h <;> (try (simp at h; done))
              rename_i r hr
              simp at h; subst h
              rw [ih r hr]; simp [size_cells hn]
          have hsz3 := hsz2 _ _ hsz
          refine whole _ sz cs1 st1 xs tf' k h1 htl (by rw [h2, size_cells hn, hk]) (by simp [hsz3]) (by simp [q1]) h4 h5 ?_
          intro i t' o x g1 g2 g3
          rw [List.getElem?_map, Option.map_eq_some_iff] at g1
          obtain ⟨f, g4, rfl⟩ := g1
          rw [hsz3, List.getElem?_map, g4] at g2
          simp only [Option.map_some, Option.some.injEq] at g2
          subst g2
          obtain ⟨y, g5, g6⟩ := q2 i f g4
          rw [g3] at g5; injection g5 with g5; subst g5
          exact g6
      | iface name d =>
        cases ds <;> simp only at h <;> (try (simp at h; done))
        split at h <;> (try (simp at h; done))
        rename_i u hty
        split at h <;> (try (simp at h; done))
        rename_i e hud
        split at h <;> (try (simp at h; done))
        rename_i v st1 h1
        simp at h; obtain ⟨rfl, rfl⟩ := h
        rcases trod_iface hu ht with ⟨_, h2⟩ | ⟨u', v', rfl, ⟨_, h2⟩ | ⟨name', tf', d', h2, h3, h4⟩⟩
        · cases h2
        · cases h2
        · injection h4 with h4 h5
          subst h4; subst h5
          have hne : nm ≠ [] := by rintro rfl; simp [typeOf] at hty
          have := typeOf_ok nm hnm _ _ _ hty h2
          subst this
          have hok := hcl hne u' v' (by simp)
          have hv' : v'.cells.toList = [v'] := by
            unfold Value.okWide at hok
            rw [Cx.desc_under hud] at hok
            unfold Cell.okWide at hok
            rw [Cx.desc_under hud] at hok
            unfold Cell.ok at hok
            rw [Cx.desc_under hud] at hok
            cases v' <;> simp [Value.cells] at hok ⊢
          have hnif : ∀ uu vv, v' ≠ .iface uu vv := by
            rintro uu vv rfl
            unfold Value.okWide at hok
            rw [Cx.desc_under hud] at hok
            unfold Cell.okWide at hok
            rw [Cx.desc_under hud] at hok
            unfold Cell.ok at hok
            rw [Cx.desc_under hud] at hok
            simp at hok
          rw [hv'] at h3
          obtain ⟨m1, e1, l1, v1, c1⟩ := ih nm hnm u' d st [v] st1 h1 m hm tf' [v'] p h3 hpl (fun _ uu vv hvv => absurd (List.mem_singleton.1 hvv).symm (hnif uu vv))
          refine ⟨m1, e1, l1, fun μ hμ => ?_, c1⟩
          have := v1 μ hμ
          simp only [List.map_cons, List.map_nil, List.cons.injEq, and_true] at this
          simp [conc, this]
      | held hv =>
        cases ds <;> simp only at h <;> (try (simp at h; done))
        split at h <;> (try (simp at h; done))
        rename_i v hv1
        split at h <;> (try (simp at h; done))
        rename_i hfl
        simp at h; obtain ⟨rfl, rfl⟩ := h
        rcases trod_func hu ht with ⟨_, h1⟩ | ⟨fn, first, cap, h1, h2⟩
        · cases h1
        · injection h2 with h2
          have := hh _ _ _ _ _ _ h2.symm hv1
          subst this
          exact keep rfl rfl h1 hfl
      | map entries =>
        cases ds <;> simp only at h <;> (try (simp at h; done))
        rename_i k e
        split at h <;> (try (simp at h; done))
        rename_i kd agg hkd hagg
        split at h <;> (try (simp at h; done))
        rename_i aes hl
        simp at h; obtain ⟨rfl, rfl⟩ := h
        rcases trod_map hu ht with ⟨_, h1⟩ | ⟨b, es, clock, tf', ents, rfl, h1, hbn, h2, h3, _⟩
        · cases h1
        · injection h3 with h3
          subst h3
          have hf0 : LayOk enc P w held False (layA (Cx.of P) [] hold fuel) := by
            have := ih [] (by rfl)
            intro t d st cs st' a1 m a2 tf ccs p a3 _ _
            exact this t d st cs st' a1 m a2 tf ccs p a3 (fun h => absurd rfl h) (fun h => absurd rfl h)
          have hid := hm.fresh st.ct (Nat.le_refl _)
          have hobj := map_rep hf0 hkd hagg h1 hbn h2 hl (m := m) (id := st.ct)
          refine ⟨setM m st.ct ⟨b, 0, clock, .nilFunc⟩, setM_mono hid, hm.new rfl (Array.getElem?_eq_some_iff.1 h1).1 hm.ng hobj, fun μ hμ => ?_, by simp⟩
          have hloc : μ st.ct = ⟨b, 0, clock, .nilFunc⟩ := hμ _ _ (setM_same _ _)
          simp [hloc]

end
end
end Go.Ai

/-! What package-level variables hold when a call begins: the state. -/
namespace Go.Ai
open Go
noncomputable section

abbrev VarL (H : Type) := List (Nat × TypeId × DataW H)

def layVars {H : Type} (f : LayF H) : VarL H → St → Option St
  | [], st => some st
  | (g, t, d) :: l, st => match f t d st with
    | some (cs, st1) => layVars f l ⟨st1.hp.set g (.row t cs false false), st1.ct⟩
    | none => none

/-- the variable's number and type -/
def varOf (P : Program) (n : String) : Option (Nat × TypeId) := match P.globalNamed n with
  | some g => match P.globals[g]? with
    | some gl => some (g, gl.type)
    | none => none
  | none => none

def plainVars (P : Program) : List (String × DataW Unit) → Option (VarL Unit)
  | [] => some []
  | (n, d) :: l => match varOf P n, plainVars P l with
    | some (g, t), some r => some ((g, t, d) :: r)
    | _, _ => none

def tabVars (P : Program) : List (String × DataW Unit) → Option (VarL (List UInt8))
  | [] => some []
  | (n, d) :: l => match varOf P n, d.funcsIn?, tabVars P l with
    | some (g, t), some d, some r => some ((g, t, d.funcsOut) :: r)
    | _, _, _ => none

def holdOf (P : Program) : List Nat → List UInt8 → Option Value
  | [], _ => none
  | f :: l, h => match P.funcs[f]? with
    | some fn => match decide (fn.name.toUTF8.data.toList = h) && decide (h ≠ []) && decide (P.funcNamed fn.name = some f) with
      | true => some (.func (.func f) #[] #[])
      | false => holdOf P l h
    | none => none

def isTab (x : String × DataW Unit) : Bool := x.2.handleName?.isSome

/-- the abstract heap of a call without arguments -/
def laidStart (P : Program) (nm : List (String × TypeId)) (fs : List Nat) (laid : List (String × DataW Unit)) : Option St :=
  match plainVars P (laid.filter fun x => x.2.handleName?.isNone), tabVars P (laid.filter fun x => x.2.handleName?.isSome) with
  | some l1, some l2 => match layVars (layA (Cx.of P) nm (fun _ => none) 100) l1 ⟨.nil, P.globals.size⟩ with
    | some st1 => layVars (layA (Cx.of P) [] (holdOf P fs) 100) l2 st1
    | none => none
  | _, _ => none

section
variable {P : Program} {w : World} {H : Type}

theorem holdOf_ok (fs : List Nat) : HoldOk (funcToken P) (holdOf P fs) := by
  intro t fn first cap h v he hv
  induction fs with
  | nil => simp [holdOf] at hv
  | cons f0 l ih =>
    simp only [holdOf] at hv
    split at hv <;> (try (simp at hv; done))
    rename_i fn0 hf0
    split at hv
    · rename_i hc
      simp only [Bool.and_eq_true, decide_eq_true_eq] at hc
      obtain ⟨⟨h1, h2⟩, h3⟩ := hc
      simp at hv; subst hv
      unfold funcToken at he
      split at he <;> (try (simp_all; done))
      rename_i f first' cap' heq
      simp only [Prod.mk.injEq, Value.func.injEq] at heq
      obtain ⟨_, rfl, rfl, rfl⟩ := heq
      split at he
      · rename_i hemp
        simp only [Bool.and_eq_true, Array.isEmpty_iff] at hemp
        split at he
        · rename_i fn1 hf1
          split at he
          · rename_i hn1
            simp only [beq_iff_eq] at hn1
            have : fn1.name = fn0.name := by
              rw [← h1] at he
              have : fn1.name.toUTF8 = fn0.name.toUTF8 := by
                apply ByteArray.ext
                exact Array.ext' he
              exact String.toByteArray_inj.1 this
            rw [this, h3] at hn1
            injection hn1 with hn1
            subst hn1
            rw [hemp.1, hemp.2]
          · exact absurd he.symm h2
        · exact absurd he.symm h2
      · exact absurd he.symm h2
    · exact ih hv

structure VarAt (enc : TypeId × Value → H) (P : Program) (w : World) (held : Bool) (need : Prop) (x : Nat × TypeId × DataW H) : Prop where
  ex : ∃ (cs : Array Value) (e : TypeId) (fz : Nat × Nat) (tf : Nat) (p : List MemPlace), x.1 < P.globals.size ∧ w.heap[x.1]? = some (.cells cs e fz) ∧ DataW.trod enc P w 0 (fun _ => true) held tf x.2.1 cs.toList = some (x.2.2, p) ∧ (need → PlacesOk P w p) ∧ (need → CellsOk P w cs.toList)

theorem layVars_ok {enc : TypeId × Value → H} {held : Bool} {need : Prop} {f : LayF H} (hf : LayOk enc P w held need f) : ∀ (l : VarL H) (st st' : St), layVars f l st = some st' → ∀ m, Lay P w m st → (∀ x ∈ l, VarAt enc P w held need x) →
    ∃ m', (∀ i l, m i = some l → m' i = some l) ∧ Lay P w m' st' := by
  intro l
  induction l with
  | nil => intro st st' h m hm _; simp [layVars] at h; subst h; exact ⟨m, fun _ _ h => h, hm⟩
  | cons x l ih =>
    obtain ⟨g, t, d⟩ := x
    intro st st' h m hm hat
    simp only [layVars] at h
    split at h <;> (try (simp at h; done))
    rename_i cs1 st1 h1
    obtain ⟨cs, e, fz, tf, p, hg, hb, htr, hp, hc⟩ := (hat (g, t, d) (by simp)).ex
    simp only at hg hb htr
    obtain ⟨m1, e1, l1, v1, _⟩ := hf t d st cs1 st1 h1 m hm tf cs.toList p htr hp hc
    have hlay : Lay P w m1 ⟨st1.hp.set g (.row t cs1 false false), st1.ct⟩ := by
      refine ⟨?_, l1.fresh, l1.glob⟩
      intro id o hgo
      simp only [St.G, T.get_set] at hgo
      split at hgo
      · rename_i heq; subst heq
        injection hgo with hgo; subst hgo
        have hm1 := l1.glob id hg
        refine ⟨⟨_, hm1, (Array.getElem?_eq_some_iff.1 hb).1⟩, rfl, fun μ hμ => ?_⟩
        have hloc : μ id = ⟨id, 0, 0, .nilFunc⟩ := hμ _ _ hm1
        have hv := v1 μ hμ
        refine ⟨cs, e, fz, by rw [hloc]; exact hb, ?_, ?_, fun h => by simp at h, fun h => by simp at h, fun h => by simp at h⟩
        · rw [hloc]
          have : cs1.length = cs.size := by rw [← Array.length_toList, ← hv]; simp
          simp [this]
        · intro j v hj _
          rw [hloc, ← Array.getElem?_toList, ← hv, List.getElem?_map]
          simp [hj]
      · exact l1.obj id o hgo
    obtain ⟨m2, e2, l2⟩ := ih _ st' h m1 hlay (fun x hx => hat x (by simp [hx]))
    exact ⟨m2, fun i l hi => e2 i l (e1 i l hi), l2⟩

theorem varOf_spec {n : String} {g : Nat} {t : TypeId} (h : varOf P n = some (g, t)) : P.globalNamed n = some g ∧ (P.globals[g]?).map (·.type) = some t ∧ g < P.globals.size := by
  unfold varOf at h
  split at h <;> (try (simp at h; done))
  rename_i g' hg
  split at h <;> (try (simp at h; done))
  rename_i gl hgl
  simp at h; obtain ⟨rfl, rfl⟩ := h
  exact ⟨hg, by simp [hgl], (Array.getElem?_eq_some_iff.1 hgl).1⟩

theorem var?_heap {n : String} {g : Nat} {cs : Array Value} (hg : P.globalNamed n = some g) (h : w.var? P n = some cs) : ∃ e fz, w.heap[g]? = some (.cells cs e fz) := by
  unfold World.var? at h
  rw [hg] at h
  simp only [Option.bind_some] at h
  split at h <;> (try (simp at h; done))
  rename_i e fz hb
  simp at h; subst h
  exact ⟨e, fz, hb⟩

theorem plainVars_at : ∀ (laid : List (String × DataW Unit)) (l : VarL Unit) (ps _qs : List MemPlace), plainVars P laid = some l → DataW.LaidVars P w laid ps →
    (∀ b off, MemPlace.cell b off ∈ ps → ∀ u v, w.cell? ⟨b, off, none⟩ = some (.iface u v) → Value.okWide P w .any 0 u v) → ∀ (need : Prop), ∀ x ∈ l, VarAt (fun _ => ()) P w false need x := by
  intro laid
  induction laid with
  | nil => intro l ps qs h _ _ _ x hx; simp [plainVars] at h; subst h; simp at hx
  | cons y laid ih =>
    obtain ⟨n, d⟩ := y
    intro l ps qs h hl hok need x hx
    simp only [plainVars] at h
    split at h <;> (try (simp at h; done))
    rename_i g t r hv hr
    simp at h; subst h
    obtain ⟨h1, h2, h3⟩ := varOf_spec hv
    obtain ⟨g', t', cs, tf, p, q, k1, k2, k3, k4, k5, rfl⟩ := hl
    rw [h1] at k1; injection k1 with k1; subst k1
    rw [h2] at k2; injection k2 with k2; subst k2
    rcases List.mem_cons.1 hx with rfl | hx
    · obtain ⟨e, fz, hb⟩ := var?_heap h1 k3
      refine ⟨cs, e, fz, tf, p, h3, hb, k4, fun _ b off hm => hok b off (by simp [hm]), fun _ u v huv => ?_⟩
      obtain ⟨j, hj⟩ := List.getElem?_of_mem huv
      have hjl : j < cs.size := by have := (List.getElem?_eq_some_iff.1 hj).1; simpa using this
      refine hok g j ?_ u v ?_
      · have := row_mem (a := ⟨g, 0, none⟩) hjl
        simp only [Nat.zero_add] at this
        simp [this]
      · simp only [World.cell?, hb]
        simpa using hj
    · exact ih r q qs hr k5 (fun b off hm => hok b off (by simp [hm])) need x hx

theorem tabVars_at : ∀ (laid : List (String × DataW Unit)) (l : VarL (List UInt8)), tabVars P laid = some l → handlesMet P laid w → ∀ x ∈ l, VarAt (funcToken P) P w true False x := by
  intro laid
  induction laid with
  | nil => intro l h _ x hx; simp [tabVars] at h; subst h; simp at hx
  | cons y laid ih =>
    obtain ⟨n, d⟩ := y
    intro l h hl x hx
    simp only [tabVars] at h
    split at h <;> (try (simp at h; done))
    rename_i g t d' r hv hd hr
    simp at h; subst h
    obtain ⟨h1, h2, h3⟩ := varOf_spec hv
    rcases List.mem_cons.1 hx with rfl | hx
    · have := hl (n, d) (by simp)
      simp only [hd] at this
      obtain ⟨g', t', cs, tf, p, k1, k2, k3, k4⟩ := this
      rw [h1] at k1; injection k1 with k1; subst k1
      rw [h2] at k2; injection k2 with k2; subst k2
      obtain ⟨e, fz, hb⟩ := var?_heap h1 k3
      exact ⟨cs, e, fz, tf, p, h3, hb, k4, fun h => h.elim, fun h => h.elim⟩
    · exact ih r hr (fun x hx => hl x (by simp [hx])) x hx

/-- WHAT THE CONDITION ON THE LAID VARIABLES GIVES: the abstract heap. -/
theorem laidStart_rep {nm : List (String × TypeId)} {fs : List Nat} {laid : List (String × DataW Unit)} {st : St} (hnm : nm.all (nameOk P) = true) (h : laidStart P nm fs laid = some st) (hl : laidMetH P laid w) :
    ∃ m, Rep (Cx.of P) m st.G w ∧ (∀ i, st.ct ≤ i → m i = none) ∧ ∀ id o, st.G id o → o.isWr = false := by
  unfold laidStart at h
  split at h <;> (try (simp at h; done))
  rename_i l1 l2 h1 h2
  split at h <;> (try (simp at h; done))
  rename_i st1 h3
  have hpl : laidMet P (laid.filter fun x => x.2.handleName?.isNone) w ∧ handlesMet P (laid.filter fun x => x.2.handleName?.isSome) w := by
    unfold laidMetH at hl
    split at hl
    · rename_i hnil
      have : laid.filter (fun x => x.2.handleName?.isNone) = laid := by
        rw [List.filter_eq_self]
        intro x hx
        have := List.filter_eq_nil_iff.1 hnil x hx
        simpa using this
      rw [this]
      refine ⟨hl, fun x hx => ?_⟩
      rw [hnil] at hx; simp at hx
    · rename_i h hs heq
      rw [heq]; exact hl
  obtain ⟨⟨ps, hps, _, hok⟩, hhm⟩ := hpl
  obtain ⟨m1, _, k1⟩ := layVars_ok (layA_ok (enc := fun _ => ()) (held := false) (hold := fun _ => none) (fun _ _ _ _ _ _ _ h => by cases h) 100 nm hnm) l1 _ st1 h3 _ (lay_start P w)
    (plainVars_at _ l1 ps [] h1 hps (fun b off hm => (hok b off hm).2) _)
  obtain ⟨m2, _, k2⟩ := layVars_ok (layA_ok (held := true) (holdOf_ok (P := P) fs) 100 [] rfl) l2 _ st h m1 k1 (fun x hx => by
    obtain ⟨cs, e, fz, tf, p, q1, q2, q3, _, _⟩ := (tabVars_at _ l2 h2 hhm x hx).ex
    exact ⟨cs, e, fz, tf, p, q1, q2, q3, fun h => absurd rfl h, fun h => absurd rfl h⟩)
  refine ⟨m2, ⟨fun id o hg => (k2.obj id o hg).1, fun μ hμ id o hg => (k2.obj id o hg).2.2 μ hμ, ?_, k2.glob⟩, k2.fresh, fun id o hg => (k2.obj id o hg).2.1⟩
  intro i j oi oj li lj hi _ hw
  rw [(k2.obj i oi hi).2.1] at hw; cases hw

end
end
end Go.Ai

/-! Calls whose results are known already. -/
namespace Go.Ai
open Go
noncomputable section

structure Memo where
  f : Nat
  args : List Value
  v : Value
  /-- the objects that are looked at -/
  ids : List Nat

def beqE : List MapEntry → List MapEntry → Bool
  | [], [] => true
  | x :: a, y :: b => beqV x.key y.key && beqV x.val y.val && Nat.beq x.born y.born && beqE a b
  | _, _ => false
/-- objects that nothing may write, by sight -/
def beqO : AObj → AObj → Bool
  | .row e cs o wr, .row e' cs' o' wr' => !wr && !wr' && Nat.beq e e' && beqVL cs cs' && decide (o = o')
  | .map es lk wr, .map es' lk' wr' => !wr && !wr' && beqE es es' && decide (lk = lk')
  | _, _ => false

mutual
/-- all ids are below -/
def below (n : Nat) : Value → Bool
  | .pointer a => match a with | none => true | some a => Nat.blt a.block n
  | .slice a _ _ => match a with | none => true | some a => Nat.blt a.block n
  | .map r => match r with | none => true | some r => Nat.blt r n
  | .chan r => match r with | none => true | some r => Nat.blt r n
  | .func fn a b => (match fn with | .yield _ => false | _ => true) && belowA n a && belowA n b
  | .iface _ v => below n v
  | .agg cs => belowA n cs
  | .tuple cs => belowA n cs
  | _ => true
def belowA (n : Nat) : Array Value → Bool
  | ⟨l⟩ => belowL n l
def belowL (n : Nat) : List Value → Bool
  | [] => true
  | v :: l => below n v && belowL n l
end
def belowE (n : Nat) : List MapEntry → Bool
  | [] => true
  | e :: l => below n e.val && belowE n l
def belowO (n : Nat) : AObj → Bool
  | .row _ cs _ _ => belowL n cs
  | .map es _ _ => belowE n es
  | _ => false

def keepIds (hp : T AObj) : List Nat → T AObj
  | [] => .nil
  | i :: l => match hp.get i with
    | some o => (keepIds hp l).set i o
    | none => keepIds hp l
def keepOk (n : Nat) (hp : T AObj) : List Nat → Bool
  | [] => true
  | i :: l => Nat.blt i n && (match hp.get i with
    | some o => belowO n o
    | none => false) && keepOk n hp l
def hasIds (hp0 hp : T AObj) : List Nat → Bool
  | [] => true
  | i :: l => match hp0.get i, hp.get i with
    | some o, some o' => beqO o o' && hasIds hp0 hp l
    | _, _ => false

def memoOk (cx : Cx) (ov : Ov) (n : Nat) (st0 : St) (e : Memo) : Bool :=
  flatL e.args && flat e.v && Nat.ble cx.ng st0.ct && keepOk st0.ct st0.hp e.ids && match call cx ov n e.f e.args ⟨keepIds st0.hp e.ids, st0.ct⟩ with
    | some (v, _) => beqV e.v v
    | none => false

def memoFind (st0 : St) (f : Nat) (args : List Value) (st : St) : List Memo → Option Value
  | [] => none
  | e :: l => match Nat.beq e.f f with
    | true => match beqVL e.args args with
      | true => match hasIds st0.hp st.hp e.ids with
        | true => some e.v
        | false => memoFind st0 f args st l
      | false => memoFind st0 f args st l
    | false => memoFind st0 f args st l

def memoHas (f : Nat) : List Memo → Bool
  | [] => false
  | e :: l => match Nat.beq e.f f with
    | true => true
    | false => memoHas f l

/-- ahead of the others; else the call is run -/
def ovMemoF (cx : Cx) (st0 : St) (l : List Memo) (n : Nat) (ov : Ov) : Nat → Option (List Value → St → Option (Value × St)) := fun f =>
  match memoHas f l with
  | true => some fun args st => match memoFind st0 f args st l with
    | some v => some (v, st)
    | none => call cx ov n f args st
  | false => ov f
def ovMemo (cx : Cx) (st0 : St) (l : List Memo) (n : Nat) (ov : Ov) : Ov := ⟨ovMemoF cx st0 l n ov, ov.lp⟩

/-! ### soundness -/
theorem beqE_eq : ∀ (a b : List MapEntry), beqE a b = true → a = b
  | [], [], _ => rfl
  | [], _ :: _, h => by simp [beqE] at h
  | _ :: _, [], h => by simp [beqE] at h
  | x :: a, y :: b, h => by
    simp only [beqE, Bool.and_eq_true] at h
    obtain ⟨⟨⟨h1, h2⟩, h3⟩, h4⟩ := h
    have e1 := beqV_eq _ _ h1
    have e2 := beqV_eq _ _ h2
    have e3 := Nat.eq_of_beq_eq_true h3
    rw [beqE_eq a b h4]
    cases x; cases y; simp_all

theorem beqO_eq : ∀ (a b : AObj), beqO a b = true → a = b ∧ a.isWr = false := by
  intro a b h
  cases a <;> cases b <;> simp only [beqO] at h <;> (try (cases h; done))
  · simp only [Bool.and_eq_true, Bool.not_eq_true', decide_eq_true_eq] at h
    obtain ⟨⟨⟨⟨h1, h2⟩, h3⟩, h4⟩, h5⟩ := h
    have e1 := Nat.eq_of_beq_eq_true h3
    have e2 := beqVL_eq _ _ h4
    subst h1; subst h2; subst e1; subst e2; subst h5
    exact ⟨rfl, rfl⟩
  · simp only [Bool.and_eq_true, Bool.not_eq_true', decide_eq_true_eq] at h
    obtain ⟨⟨⟨h1, h2⟩, h3⟩, h4⟩ := h
    have e1 := beqE_eq _ _ h3
    subst h1; subst h2; subst e1; subst h4
    exact ⟨rfl, rfl⟩

def AgreeBelow (n : Nat) (μ μ' : Nat → Loc) : Prop := ∀ i, i < n → μ i = μ' i

mutual
theorem conc_below {n : Nat} {μ μ' : Nat → Loc} (h : AgreeBelow n μ μ') : ∀ v, below n v = true → conc μ v = conc μ' v
  | .bool _, _ => by simp
  | .int .., _ => by simp
  | .float .., _ => by simp [conc]
  | .complex .., _ => by simp [conc]
  | .string _, _ => by simp
  | .pointer a, hb => by
    cases a with
    | none => simp
    | some a =>
      simp only [below] at hb
      have := h _ (Nat.le_of_ble_eq_true hb)
      simp [concAddr, this]
  | .slice a _ c, hb => by
    cases a with
    | none => simp
    | some a =>
      simp only [below] at hb
      have := h _ (Nat.le_of_ble_eq_true hb)
      have hc : concCap μ a.block c = concCap μ' a.block c := by simp only [concCap, this]
      have he : ∀ k, concEnd μ a k = concEnd μ' a k := by
        intro k
        unfold concEnd
        cases a.spot <;> simp only [concAddr, this]
      rw [conc_slice, conc_slice, hc, he]
  | .map r, hb => by
    cases r with
    | none => simp
    | some r =>
      simp only [below] at hb
      have := h _ (Nat.le_of_ble_eq_true hb)
      simp [this]
  | .chan r, hb => by
    cases r with
    | none => simp [conc]
    | some r =>
      simp only [below] at hb
      have := h _ (Nat.le_of_ble_eq_true hb)
      simp [conc, this]
  | .func fn a b, hb => by
    simp only [below, Bool.and_eq_true] at hb
    have hfn : ∀ μ, concFn μ fn = fn := fun μ => concFn_of fun l e => by subst e; simp at hb
    simp [concA_below h a hb.1.2, concA_below h b hb.2, hfn]
  | .nilFunc, _ => by simp
  | .iface t v, hb => by simp only [below] at hb; simp [conc_below h v hb]
  | .nilIface, _ => by simp
  | .agg cs, hb => by simp only [below] at hb; simp [concA_below h cs hb]
  | .tuple cs, hb => by simp only [below] at hb; simp [concA_below h cs hb]
theorem concA_below {n : Nat} {μ μ' : Nat → Loc} (h : AgreeBelow n μ μ') : ∀ a, belowA n a = true → concA μ a = concA μ' a
  | ⟨l⟩, hb => by simp only [belowA] at hb; simp only [concA, concL_below h l hb]
theorem concL_below {n : Nat} {μ μ' : Nat → Loc} (h : AgreeBelow n μ μ') : ∀ l, belowL n l = true → concL μ l = concL μ' l
  | [], _ => by simp [concL]
  | v :: l, hb => by simp only [belowL, Bool.and_eq_true] at hb; simp [concL, conc_below h v hb.1, concL_below h l hb.2]
end

theorem belowL_mem {n : Nat} : ∀ (l : List Value), belowL n l = true → ∀ v ∈ l, below n v = true := by
  intro l
  induction l with
  | nil => intro _ v hv; simp at hv
  | cons x l ih =>
    intro h v hv
    simp only [belowL, Bool.and_eq_true] at h
    rcases List.mem_cons.1 hv with rfl | hv
    · exact h.1
    · exact ih h.2 v hv
theorem belowE_mem {n : Nat} : ∀ (l : List MapEntry), belowE n l = true → ∀ e ∈ l, below n e.val = true := by
  intro l
  induction l with
  | nil => intro _ v hv; simp at hv
  | cons x l ih =>
    intro h v hv
    simp only [belowE, Bool.and_eq_true] at h
    rcases List.mem_cons.1 hv with rfl | hv
    · exact h.1
    · exact ih h.2 v hv

theorem ObjRep.below {cx : Cx} {n : Nat} {μ μ' : Nat → Loc} (h : AgreeBelow n μ μ') {w : World} {id : Nat} (hid : id < n) {o : AObj} (ho : belowO n o = true) (hr : ObjRep cx μ' w id o) : ObjRep cx μ w id o := by
  have e := h id hid
  cases o with
  | row t cs o wr =>
    simp only [belowO] at ho
    obtain ⟨cells, e', fz, h1, h2, h3, h4, h5, h6⟩ := hr
    rw [← e] at h1 h2 h5 h6
    refine ⟨cells, e', fz, h1, h2, fun j v hj hc => ?_, h4, h5, h6⟩
    rw [e, conc_below h v (belowL_mem _ ho v (List.mem_of_getElem? hj))]
    exact h3 j v hj hc
  | map es lk wr =>
    simp only [belowO] at ho
    obtain ⟨⟨es', clock, h1, h2, h3, h4, h5⟩, h6⟩ := hr
    rw [← e] at h1 h5
    refine ⟨⟨es', clock, ?_, h2, h3, h4, h5⟩, h6⟩
    rw [h1]
    congr 2
    apply congrArg
    refine List.map_congr_left fun x hx => ?_
    have : kvOf x ∈ es.map kvOf := h2.mem_iff.1 (List.mem_map.2 ⟨x, hx, rfl⟩)
    obtain ⟨y, hy, hxy⟩ := List.mem_map.1 this
    simp only [kvOf, Prod.mk.injEq] at hxy
    have := belowE_mem _ ho y hy
    rw [hxy.2] at this
    simp [concE, conc_below h _ this]
  | _ => simp [belowO] at ho

theorem keepIds_get {hp : T AObj} : ∀ (l : List Nat) (id : Nat) (o : AObj), (keepIds hp l).get id = some o → id ∈ l ∧ hp.get id = some o := by
  intro l
  induction l with
  | nil => intro id o h; simp [keepIds, T.get_nil] at h
  | cons i l ih =>
    intro id o h
    simp only [keepIds] at h
    split at h
    · rename_i o' ho'
      rw [T.get_set] at h
      split at h
      · rename_i e; subst e; injection h with h; subst h; exact ⟨by simp, ho'⟩
      · obtain ⟨h1, h2⟩ := ih id o h; exact ⟨by simp [h1], h2⟩
    · obtain ⟨h1, h2⟩ := ih id o h; exact ⟨by simp [h1], h2⟩

theorem keepOk_mem {n : Nat} {hp : T AObj} : ∀ (l : List Nat), keepOk n hp l = true → ∀ id ∈ l, id < n ∧ ∃ o, hp.get id = some o ∧ belowO n o = true := by
  intro l
  induction l with
  | nil => intro _ id h; simp at h
  | cons i l ih =>
    intro h id hid
    simp only [keepOk, Bool.and_eq_true] at h
    rcases List.mem_cons.1 hid with rfl | hid
    · refine ⟨Nat.le_of_ble_eq_true h.1.1, ?_⟩
      have h2 := h.1.2
      split at h2
      · rename_i o ho; exact ⟨o, ho, h2⟩
      · cases h2
    · exact ih h.2 id hid

theorem hasIds_mem {hp0 hp : T AObj} : ∀ (l : List Nat), hasIds hp0 hp l = true → ∀ id ∈ l, ∀ o, hp0.get id = some o → hp.get id = some o ∧ o.isWr = false := by
  intro l
  induction l with
  | nil => intro _ id h; simp at h
  | cons i l ih =>
    intro h id hid o ho
    simp only [hasIds] at h
    split at h <;> (try (cases h; done))
    rename_i o1 o2 h1 h2
    simp only [Bool.and_eq_true] at h
    rcases List.mem_cons.1 hid with rfl | hid
    · obtain ⟨e1, e2⟩ := beqO_eq _ _ h.1
      subst e1
      rw [h1] at ho; injection ho with ho; subst ho
      exact ⟨h2, e2⟩
    · exact ih h.2 id hid o ho

theorem memoFind_mem {st0 st : St} {f : Nat} {args : List Value} : ∀ (l : List Memo) (v : Value), memoFind st0 f args st l = some v → ∃ e ∈ l, e.f = f ∧ e.args = args ∧ hasIds st0.hp st.hp e.ids = true ∧ e.v = v := by
  intro l
  induction l with
  | nil => intro v h; simp [memoFind] at h
  | cons e l ih =>
    intro v h
    have rest : memoFind st0 f args st l = some v → ∃ e' ∈ e :: l, e'.f = f ∧ e'.args = args ∧ hasIds st0.hp st.hp e'.ids = true ∧ e'.v = v := fun h => by
      obtain ⟨e', h1, h2⟩ := ih v h
      exact ⟨e', by simp [h1], h2⟩
    simp only [memoFind] at h
    split at h
    · rename_i h1
      split at h
      · rename_i h2
        split at h
        · rename_i h3
          simp at h
          exact ⟨e, by simp, Nat.eq_of_beq_eq_true h1, beqVL_eq _ _ h2, h3, h⟩
        · exact rest h
      · exact rest h
    · exact rest h

section
variable {P : Program} {ov : Ov}

theorem memo_ok (hmix : P.follows .mixedOrders = true) (hov : OvOk P ov) (hovm : OvMono ov) (hovi : OvIds ov) {n : Nat} {st0 st : St} {e : Memo} (h : memoOk (Cx.of P) ov n st0 e = true) (hids : hasIds st0.hp st.hp e.ids = true)
    {m : Nat → Option Loc} {w : World} {cargs : List Value} (hR : Rep (Cx.of P) m st.G w) (ha : VReps m e.args cargs) : FnOk P e.f cargs.toArray w (CallPost (Cx.of P) m st w e.v st) := by
  unfold memoOk at h
  simp only [Bool.and_eq_true] at h
  obtain ⟨⟨⟨⟨h1, h2⟩, h3⟩, h4⟩, h5⟩ := h
  split at h5 <;> (try (cases h5; done))
  rename_i v st2 hc
  have hv := beqV_eq _ _ h5
  have h3 := Nat.le_of_ble_eq_true h3
  generalize hm1 : (fun i => if i < st0.ct then m i else none) = m1
  have sub : ∀ id o, (⟨keepIds st0.hp e.ids, st0.ct⟩ : St).G id o → st.G id o ∧ o.isWr = false ∧ id < st0.ct ∧ belowO st0.ct o = true := by
    intro id o hg
    obtain ⟨g1, g2⟩ := keepIds_get _ _ _ hg
    obtain ⟨g3, o', g4, g5⟩ := keepOk_mem _ h4 id g1
    rw [g2] at g4; injection g4 with g4; subst g4
    obtain ⟨g6, g7⟩ := hasIds_mem _ hids id g1 o g2
    exact ⟨g6, g7, g3, g5⟩
  have hR1 : Rep (Cx.of P) m1 (⟨keepIds st0.hp e.ids, st0.ct⟩ : St).G w := {
    dom := fun id o hg => by
      obtain ⟨g1, _, g3, _⟩ := sub id o hg
      obtain ⟨l, k1, k2⟩ := hR.dom id o g1
      exact ⟨l, by rw [← hm1]; simp [g3, k1], k2⟩
    obj := fun μ hμ id o hg => by
      obtain ⟨g1, _, g3, g4⟩ := sub id o hg
      generalize hμ' : (fun i => if i < st0.ct then μ i else (m i).getD (μ i)) = μ'
      have hext : Ext m μ' := by
        intro i l hi
        rw [← hμ']
        by_cases hlt : i < st0.ct
        · simp only [hlt, if_true]
          exact hμ i l (by rw [← hm1]; simp [hlt, hi])
        · simp [hlt, hi]
      have hag : AgreeBelow st0.ct μ μ' := fun i hi => by rw [← hμ']; simp [hi]
      exact (hR.obj μ' hext id o g1).below hag g3 g4
    inj := fun i j oi oj li lj hi _ hw => by
      have := (sub i oi hi).2.1
      rw [this] at hw; cases hw
    glob := fun g hg => by
      have : g < st0.ct := Nat.lt_of_lt_of_le hg h3
      rw [← hm1]; simp [this, hR.glob g hg] }
  have hfl : ∀ μ : Nat → Loc, e.args.map (conc μ) = e.args := fun μ => by rw [← concL_eq]; exact concL_flat μ _ h1
  have hca : cargs = e.args := by rw [← ha _ (some0_ext m), hfl]
  have hfr : Fresh m1 st0.ct st2.ct := fun i hi _ => by rw [← hm1]; simp [Nat.not_lt.2 hi]
  have hcall := call_sound hmix hov hovm hovi hc hR1 (cargs := cargs) (fun μ _ => by rw [hca, hfl]) hfr
  have fin : ∀ cv w', CallPost (Cx.of P) m1 ⟨keepIds st0.hp e.ids, st0.ct⟩ w v st2 cv w' → CallPost (Cx.of P) m st w e.v st cv w' := by
    rintro cv w' ⟨m', hs, hvr⟩
    have hblk : ∀ b, b < w.heap.size → w'.heap[b]? = w.heap[b]? := fun b hb => hs.fr.block b hb fun id o l hg hw => by rw [(sub id o hg).2.1] at hw; cases hw
    refine ⟨m, ⟨fun _ _ h => h, fun _ _ h => .inl h, ⟨?_, ?_, hR.inj, hR.glob⟩, ⟨hs.fr.size, hs.fr.os, hs.fr.tape, hs.fr.output, fun b hb _ => hblk b hb⟩, fun id o l hg hl => .inr ⟨id, o, l, hg, fun h => h, hl, rfl⟩⟩, ?_⟩
    · intro id o hg
      obtain ⟨l, k1, k2⟩ := hR.dom id o hg
      exact ⟨l, k1, Nat.lt_of_lt_of_le k2 hs.fr.size⟩
    · intro μ hμ id o hg
      obtain ⟨l, k1, k2⟩ := hR.dom id o hg
      refine (hR.obj μ hμ id o hg).congr (hblk _ ?_)
      rw [hμ id l k1]; exact k2
    · intro μ _
      rw [conc_flat μ _ h2, ← hvr _ (some0_ext m'), ← hv, conc_flat _ _ h2]
  rcases hcall with ⟨cv, w', k1, k2⟩ | ⟨k1, k2⟩
  · exact .inl ⟨cv, w', k1, fin cv w' k2⟩
  · exact .inr ⟨k1, k2.mono fun x w' ⟨y, hy, hp⟩ => ⟨y, hy, fin y w' hp⟩⟩

theorem memoAll_nil {p : Memo → Prop} : ∀ e ∈ ([] : List Memo), p e := fun e he => by simp at he
theorem memoAll_cons {p : Memo → Prop} {e : Memo} {l : List Memo} (h : p e) (hl : ∀ x ∈ l, p x) : ∀ x ∈ e :: l, p x := fun x hx => by
  rcases List.mem_cons.1 hx with rfl | hx
  · exact h
  · exact hl x hx

theorem ovMemo_ok (hmix : P.follows .mixedOrders = true) (hov : OvOk P ov) (hovm : OvMono ov) (hovi : OvIds ov) {st0 : St} {l : List Memo} {n : Nat} (hl : ∀ e ∈ l, ∃ n, memoOk (Cx.of P) ov n st0 e = true) : OvOk P (ovMemo (Cx.of P) st0 l n ov) := by
  refine ⟨?_, hov.lp⟩
  intro f g args st v st' hg hr m w cargs hR ha hf
  simp only [ovMemo, ovMemoF] at hg
  split at hg
  · simp at hg; subst hg
    simp only at hr
    split at hr
    · rename_i v' hv'
      simp at hr; obtain ⟨rfl, rfl⟩ := hr
      obtain ⟨e, h1, rfl, rfl, h4, rfl⟩ := memoFind_mem _ _ hv'
      obtain ⟨n, hn⟩ := hl e h1
      exact memo_ok hmix hov hovm hovi hn h4 hR ha
    · exact call_sound hmix hov hovm hovi hr hR ha hf
  · exact hov.fn f g args st v st' hg hr m w cargs hR ha hf

theorem ovMemo_mono (hovm : OvMono ov) {cx : Cx} {st0 : St} {l : List Memo} {n : Nat} : OvMono (ovMemo cx st0 l n ov) := by
  refine ⟨?_, hovm.lp, hovm.keeps⟩
  intro f g args st v st' hg hr
  simp only [ovMemo, ovMemoF] at hg
  split at hg
  · simp at hg; subst hg
    simp only at hr
    split at hr
    · simp at hr; obtain ⟨_, rfl⟩ := hr; exact Nat.le_refl _
    · exact callA_ct hovm (run_ct hovm n) hr
  · exact hovm.fn f g args st v st' hg hr

theorem ovMemo_ids (hovm : OvMono ov) (hovi : OvIds ov) {st0 : St} {l : List Memo} {n : Nat} : OvIds (ovMemo (Cx.of P) st0 l n ov) := by
  refine ⟨?_, hovi.lp⟩
  intro f g args st v st' hg hr
  simp only [ovMemo, ovMemoF] at hg
  split at hg
  · simp at hg; subst hg
    simp only at hr
    split at hr
    · simp at hr; obtain ⟨_, rfl⟩ := hr; exact Ids.refl _
    · exact callA_ids hovi (run_ids hovm hovi n) hr
  · exact hovi.fn f g args st v st' hg hr

end
end
end Go.Ai

/- The abstract interpreter and its soundness, part 5 of 5: by an AI agent. -/
import Derived.Test.YtgmojlibppmfhaaDoorAi4
import Derived.Deep.SlicePairs

/-! A law whose arguments hold rows: what was there is there again; the rows of the arguments as objects. -/
namespace Go.Ai
open Go Go.ChangeShapes Go.WideShapes Go.RowKit Go.ChangeMaps
theorem mapM_imp {α β : Type} {f g : α → Option β} : ∀ (l : List α) (r : List β), l.mapM f = some r → (∀ a ∈ l, ∀ b ∈ r, f a = some b → g a = some b) → l.mapM g = some r
  | [], r, h, _ => by simpa using h
  | a :: l, r, h, hg => by
    rw [List.mapM_cons] at h ⊢
    cases ha : f a with
    | none => rw [ha] at h; simp at h
    | some b =>
      rw [ha] at h
      cases hl : l.mapM f with
      | none => rw [hl] at h; simp at h
      | some q =>
        rw [hl] at h
        simp at h; subst h
        rw [hg a (by simp) b (by simp) ha, mapM_imp l q hl (fun x hx y hy => hg x (by simp [hx]) y (by simp [hy]))]
        rfl
theorem mapM_len {α β : Type} {f : α → Option β} : ∀ (l : List α) (r : List β), l.mapM f = some r → r.length = l.length
  | [], r, h => by simp at h; subst h; rfl
  | a :: l, r, h => by
    rw [List.mapM_cons] at h
    cases ha : f a with
    | none => rw [ha] at h; simp at h
    | some b =>
      rw [ha] at h
      cases hl : l.mapM f with
      | none => rw [hl] at h; simp at h
      | some q =>
        rw [hl] at h
        simp at h; subst h
        simp [mapM_len l q hl]
section
variable {P : Program} {H : Type} {enc : TypeId × Value → H} {w w' : World} {base : Nat} {held : Bool}
theorem cell?_stays (hs : Stays w w') {a : Addr} {v : Value} (h : w.cell? a = some v) : w'.cell? a = some v := by
  unfold World.cell? at h ⊢
  have hb : a.block < w.heap.size := by
    by_cases hb : a.block < w.heap.size
    · exact hb
    · rw [Array.getElem?_eq_none (by omega)] at h; cases h
  rw [hs.block _ hb]; exact h
theorem cells?_stays (hs : Stays w w') {a : Addr} {n : Nat} {l : List Value} (h : w.cells? base a n = some l) : w'.cells? base a n = some l := by
  unfold World.cells? at h ⊢
  split at h
  · rename_i hb
    rw [if_pos hb]
    exact mapM_imp _ _ h fun i _ v _ hv => cell?_stays hs hv
  · cases h
/-- no row of the type has elements without cells -/
def solid (P : Program) : Nat → TypeId → Bool
  | 0, _ => false
  | n + 1, t => match P.underlying t with
    | some (.pointer e) => solid P n e
    | some (.slice e) => Nat.ble 1 (P.cellsOf e) && solid P n e
    | some (.struct fs) => fs.toList.all fun f => solid P n f.type
    | some (.array _ e) => solid P n e
    | some (.map _ e) => solid P n e
    | _ => true
theorem bind_imp {α β : Type} {a a' : Option α} {f g : α → Option β} {y : β} (h : a.bind f = some y) (ha : ∀ x, a = some x → a' = some x) (hf : ∀ x, f x = some y → g x = some y) : a'.bind g = some y := by
  cases hx : a with
  | none => rw [hx] at h; cases h
  | some x =>
    rw [hx] at h
    rw [ha x hx]
    exact hf x h
theorem trod_stays (hs : Stays w w') {sp : Nat → Bool} : ∀ (fuel : Nat) (t : TypeId) (cs : List Value) (x : DataW H × List MemPlace) (n : Nat), solid P n t = true →
    DataW.trod enc P w base (fun _ => true) true fuel t cs = some x → (∀ p ∈ x.2, sp p.block = true) → DataW.trod enc P w' base sp true fuel t cs = some x := by
  intro fuel
  induction fuel with
  | zero => intro t cs x n hz h; simp [DataW.trod] at h
  | succ fuel ih =>
    intro t cs x n0 hz h hp
    unfold DataW.trod at h ⊢
    cases n0 with
    | zero => cases hz
    | succ n0 =>
    unfold solid at hz
    split at h
    · exact h
    · exact h
    · exact h
    · exact h
    · exact h
    · rename_i e a e1
      rw [e1] at hz
      cases hy : (w.cells? base a (P.cellsOf e)).bind (DataW.trod enc P w base (fun _ => true) true fuel e) with
      | none => rw [hy] at h; cases h
      | some y =>
        rw [hy] at h
        simp only [Option.map_some, Option.some.injEq] at h
        subst h
        rw [bind_imp hy (fun l hl => cells?_stays hs hl) (fun l hl => ih _ _ _ _ hz hl fun p hpp => hp p (by simp [hpp]))]
        rfl
    · exact h
    · rename_i e a len cap e1
      simp only at h
      split at h
      · rename_i hc
        rw [if_pos hc]
        rw [e1] at hz
        simp only [Bool.and_eq_true] at hz
        have hz1 := Nat.le_of_ble_eq_true hz.1
        have hz := hz.2
        cases he : (List.range len).mapM (fun i => (w.cells? base (a.add (i * P.cellsOf e)) (P.cellsOf e)).bind (DataW.trod enc P w base (fun _ => true) true fuel e)) with
        | none => rw [he] at h; cases h
        | some elems =>
          rw [he] at h
          simp only [Option.bind_some, if_true] at h
          cases hr : (List.range (cap - len)).mapM (fun j => (w.cells? base (a.add ((len + j) * P.cellsOf e)) (P.cellsOf e)).bind (DataW.trod enc P w base (fun _ => true) true fuel e)) with
          | none => rw [hr] at h; cases h
          | some rest =>
            rw [hr] at h
            simp only [Option.map_some, Option.some.injEq] at h
            subst h
            have hpe : ∀ y ∈ elems ++ rest, ∀ p ∈ y.2, sp p.block = true := fun y hy p hpp => hp p (by
              simp only [List.mem_append, List.mem_flatMap]
              exact .inr ⟨y, by simpa using hy, hpp⟩)
            rw [mapM_imp _ _ he fun i _ y hy hi => bind_imp hi (fun l hl => cells?_stays hs hl) (fun l hl => ih _ _ _ _ hz hl fun p hpp => hpe y (by simp [hy]) p hpp)]
            simp only [Option.bind_some]
            have hr' := mapM_imp (g := fun j => (w'.cells? base (a.add ((len + j) * P.cellsOf e)) (P.cellsOf e)).bind (DataW.trod enc P w' base sp true fuel e)) _ _ hr fun i _ y hy hi => bind_imp hi (fun l hl => cells?_stays hs hl) (fun l hl => ih _ _ _ _ hz hl fun p hpp => hpe y (by simp [hy]) p hpp)
            by_cases hcl : cap - len = 0
            · rw [hcl] at hr'
              simp at hr'; subst hr'
              rw [hcl]
              split <;> rfl
            · have hrl : rest.length = cap - len := by
                have := mapM_len _ _ hr
                simpa using this
              have hsp : sp a.block = true := hp (.cell a.block (a.off + 0)) (by
                simp only [List.mem_append]
                refine .inl ?_
                unfold MemPlace.row
                refine List.mem_map.2 ⟨0, List.mem_range.2 ?_, rfl⟩
                have : 0 < (elems.length + rest.length) := by omega
                exact Nat.mul_pos this hz1)
              rw [if_pos hsp, hr']
              rfl
      · cases h
    · rename_i cs0 _ _ fs e1
      rw [e1] at hz
      simp only [List.all_eq_true] at hz
      split at h
      · rename_i hc
        rw [if_pos hc]
        cases he : fs.toList.mapM (fun f => DataW.trod enc P w base (fun _ => true) true fuel f.type ((cs0.drop f.offset).take (P.cellsOf f.type))) with
        | none => rw [he] at h; cases h
        | some xs =>
          rw [he] at h
          simp only [Option.map_some, Option.some.injEq] at h
          subst h
          rw [mapM_imp _ _ he fun f hfm y hy hf => ih _ _ _ _ (hz f hfm) hf fun p hpp => hp p (by simp only [List.mem_flatMap]; exact ⟨y, hy, hpp⟩)]
          rfl
      · cases h
    · rename_i cs0 _ _ n e e1
      rw [e1] at hz
      split at h
      · rename_i hc
        rw [if_pos hc]
        cases he : (List.range n).mapM (fun i => DataW.trod enc P w base (fun _ => true) true fuel e ((cs0.drop (i * P.cellsOf e)).take (P.cellsOf e))) with
        | none => rw [he] at h; cases h
        | some xs =>
          rw [he] at h
          simp only [Option.map_some, Option.some.injEq] at h
          subst h
          rw [mapM_imp _ _ he fun f _ y hy hf => ih _ _ _ _ hz hf fun p hpp => hp p (by simp only [List.mem_flatMap]; exact ⟨y, hy, hpp⟩)]
          rfl
      · cases h
    · exact h
    · exact h
    · exact h
    · rename_i k e b e1
      rw [e1] at hz
      split at h
      · rename_i es clock hb
        have hbs : b < w.heap.size := by
          by_cases hlt : b < w.heap.size
          · exact hlt
          · rw [Array.getElem?_eq_none (by omega)] at hb; cases hb
        rw [hs.block b hbs, hb]
        simp only
        split at h
        · rename_i hc
          rw [if_pos hc]
          cases he : es.toList.mapM (fun x => (Go.keyOf P k x.key).bind fun key => if Value.formed P e x.val then (DataW.trod enc P w base (fun _ => true) true fuel e x.val.cells.toList).map fun y => ((key, y.1), y.2) else none) with
          | none => rw [he] at h; cases h
          | some entries =>
            rw [he] at h
            simp only [Option.bind_some] at h
            split at h
            · rename_i hr
              simp only [Option.some.injEq] at h
              subst h
              rw [mapM_imp (g := fun x => (Go.keyOf P k x.key).bind fun key => if Value.formed P e x.val then (DataW.trod enc P w' base sp true fuel e x.val.cells.toList).map fun y => ((key, y.1), y.2) else none) _ _ he fun x _ y hy hx => bind_imp hx (fun _ h => h) (fun key hk => by
                split at hk
                · rename_i hfm
                  rw [if_pos hfm]
                  cases hyy : DataW.trod enc P w base (fun _ => true) true fuel e x.val.cells.toList with
                  | none => rw [hyy] at hk; cases hk
                  | some z =>
                    rw [hyy] at hk
                    simp only [Option.map_some, Option.some.injEq] at hk
                    subst hk
                    rw [ih _ _ _ _ hz hyy fun p hpp => hp p (by simp only [List.mem_cons, List.mem_flatMap]; exact .inr ⟨_, hy, hpp⟩)]
                    rfl
                · cases hk)]
              simp only [Option.bind_some]
              rw [if_pos hr]
            · cases h
        · cases h
      · cases h
    · exact h
    · exact h
    · exact h
    · exact h
    · exact h
    · exact h
    · cases h
theorem trodAll_stays (hs : Stays w w') {sp : Nat → Bool} {n : Nat} : ∀ (ts : List TypeId) (vs : List Value) (ds : List (DataW H)) (ps : List MemPlace), ts.all (solid P n) = true →
    DataW.TrodAll enc P w base (fun _ => true) true ts vs ds ps → (∀ p ∈ ps, sp p.block = true) → DataW.TrodAll enc P w' base sp true ts vs ds ps
  | [], [], [], ps, _, h, _ => h
  | t :: ts, v :: vs, d :: ds, ps, hz, h, hp => by
    obtain ⟨p, q, ⟨fuel, h1⟩, h2, rfl⟩ := h
    simp only [List.all_cons, Bool.and_eq_true] at hz
    exact ⟨p, q, ⟨fuel, trod_stays hs fuel t _ _ n hz.1 h1 (fun x hx => hp x (by simp [hx]))⟩, trodAll_stays hs ts vs ds q hz.2 h2 (fun x hx => hp x (by simp [hx])), rfl⟩
  | [], [], _ :: _, _, _, h, _ => h.elim
  | [], _ :: _, _, _, _, h, _ => h.elim
  | _ :: _, [], _, _, _, h, _ => h.elim
  | _ :: _, _ :: _, [], _, _, h, _ => h.elim
end

theorem trodAll_len {P : Program} {H : Type} {enc : TypeId × Value → H} {w : World} {base : Nat} {sp : Nat → Bool} {held : Bool} : ∀ (ts : List TypeId) (vs : List Value) (ds : List (DataW H)) (ps : List MemPlace), DataW.TrodAll enc P w base sp held ts vs ds ps → ds.length = ts.length
  | [], [], [], _, _ => rfl
  | _ :: ts, _ :: vs, _ :: ds, _, ⟨_, q, _, h, _⟩ => by simp [trodAll_len ts vs ds q h]
  | [], [], _ :: _, _, h => h.elim
  | [], _ :: _, _, _, h => h.elim
  | _ :: _, [], _, _, h => h.elim
  | _ :: _, _ :: _, [], _, h => h.elim
/-! ### what a law begins with -/
section
variable {P : Program}
/-- the objects of the start, and arguments -/
def Begins (P : Program) (st : St) (W : World) (args cargs : List Value) : Prop :=
  ∃ m, Rep (Cx.of P) m st.G W ∧ (∀ i, st.ct ≤ i → m i = none) ∧ (∀ id o, st.G id o → o.isWr = false) ∧ VReps m args cargs
theorem begins_laid {nm : List (String × TypeId)} (h2 : nm.all (nameOk P) = true) {fs : List Nat} {laid : List (String × DataW Unit)} {st : St} (hst : laidStart P nm fs laid = some st) {W : World} (hl : laidMetH P laid W) : Begins P st W [] [] := by
  obtain ⟨m, hR, hfr, hro⟩ := laidStart_rep h2 hst hl
  exact ⟨m, hR, hfr, hro, fun μ _ => rfl⟩
theorem begins_flat {st : St} {W : World} {args cargs : List Value} (h : Begins P st W args cargs) {v : Value} (hv : flat v = true) : Begins P st W (args ++ [v]) (cargs ++ [v]) := by
  obtain ⟨m, hR, hfr, hro, ha⟩ := h
  refine ⟨m, hR, hfr, hro, fun μ hμ => ?_⟩
  rw [List.map_append, ha μ hμ]
  simp [conc_flat μ v hv]
/-- a row of the caller's -/
theorem begins_row {st : St} {W : World} {args cargs : List Value} (h : Begins P st W args cargs) {a : Addr} {len cap : Nat} (e : TypeId) {cs : List Value} (hsp : a.spot = none) (hb : a.block < W.heap.size) (hc : cap ≤ maxLen)
    (hcs : ∀ j v, cs[j]? = some v → W.cell? (a.add j) = some v) (hfl : flatL cs = true) (hne : (∃ c t f, W.heap[a.block]? = some (.cells c t f) ∧ a.off + cs.length ≤ c.size)) :
    Begins P ⟨st.hp.set st.ct (.row e cs false false), st.ct + 1⟩ W (args ++ [.slice (some ⟨st.ct, 0, none⟩) len cap]) (cargs ++ [.slice (some a) len cap]) := by
  obtain ⟨m, hR, hfr, hro, ha⟩ := h
  have hid := hfr st.ct (Nat.le_refl _)
  obtain ⟨c, t, f, hblk, hcz⟩ := hne
  have hg : ∀ id o, (⟨st.hp.set st.ct (.row e cs false false), st.ct + 1⟩ : St).G id o → (id = st.ct ∧ o = .row e cs false false) ∨ (id ≠ st.ct ∧ st.G id o) := by
    intro id o h
    simp only [St.G, T.get_set] at h
    by_cases he : id = st.ct
    · rw [if_pos he] at h; exact .inl ⟨he, (Option.some.inj h).symm⟩
    · rw [if_neg he] at h; exact .inr ⟨he, h⟩
  refine ⟨Go.Ai.setM m st.ct ⟨a.block, a.off, 0, .nilFunc⟩, ?_, fun i hi => ?_, fun id o hgo => ?_, fun μ hμ => ?_⟩
  · refine ⟨fun id o hgo => ?_, fun μ hμ id o hgo => ?_, fun i j oi oj li lj hi hj hw hmi hmj => ?_, fun g hgl => setM_mono hid _ _ (hR.glob g hgl)⟩
    · rcases hg id o hgo with ⟨rfl, _⟩ | ⟨_, ho⟩
      · exact ⟨_, setM_same _ _, hb⟩
      · obtain ⟨k, h1, h2⟩ := hR.dom id o ho
        exact ⟨k, setM_mono hid _ _ h1, h2⟩
    · rcases hg id o hgo with ⟨rfl, rfl⟩ | ⟨_, ho⟩
      · have hl : μ st.ct = ⟨a.block, a.off, 0, .nilFunc⟩ := hμ _ _ (setM_same _ _)
        refine ⟨c, t, f, by rw [hl]; exact hblk, by rw [hl]; exact hcz, fun j v hj _ => ?_, (fun h => by cases h), (fun h => by cases h), (fun h => by cases h)⟩
        rw [hl]
        have h1 := hcs j v hj
        unfold World.cell? at h1
        have h2 : (a.add j).block = a.block := by unfold Addr.add; split <;> rfl
        have h3 : (a.add j).off = a.off + j ∧ (a.add j).spot = none := by unfold Addr.add; split <;> simp_all
        rw [h2, hblk] at h1
        simp only [h3.2, Option.isSome_none, Bool.false_eq_true, if_false, h3.1] at h1
        have h4 : flat v = true := flatL_mem _ hfl _ (List.mem_of_getElem? hj)
        rw [conc_flat μ v h4]
        exact h1
      · exact hR.obj μ (hμ.mono (setM_mono hid)) id o ho
    · have hro' : ∀ id o, (⟨st.hp.set st.ct (.row e cs false false), st.ct + 1⟩ : St).G id o → o.isWr = false := fun id o hgo => by
        rcases hg id o hgo with ⟨_, rfl⟩ | ⟨_, ho⟩
        · rfl
        · exact hro id o ho
      rw [hro' i oi hi] at hw; cases hw
  · have : i ≠ st.ct := by simp only at hi; omega
    simp only [Go.Ai.setM, if_neg this]
    exact hfr i (by simp only at hi; omega)
  · rcases hg id o hgo with ⟨_, rfl⟩ | ⟨_, ho⟩
    · rfl
    · exact hro id o ho
  · rw [List.map_append, ha μ (hμ.mono (setM_mono hid))]
    have hl : μ st.ct = ⟨a.block, a.off, 0, .nilFunc⟩ := hμ _ _ (setM_same _ _)
    have hop : isOpen cap = false := by
      unfold isOpen
      cases hbl : Nat.ble 18446744073709551616 cap with
      | false => rfl
      | true =>
        have := Nat.le_of_ble_eq_true hbl
        unfold maxLen at hc
        omega
    have e1 : conc μ (.slice (some ⟨st.ct, 0, none⟩) len cap) = .slice (some a) len cap := by
      simp only [conc, concCap, hop, Bool.false_eq_true, if_false, concEnd, concAddr, hl, Nat.add_zero]
      have : a = ⟨a.block, a.off, none⟩ := by cases a; simp only at hsp; subst hsp; rfl
      rw [← this]
    simp [e1]

theorem begins_calls (hmix : P.follows .mixedOrders = true) {ov : Ov} (hov : OvOk P ov) (hovm : OvMono ov) (hovi : OvIds ov) {st : St} {W : World} {args cargs : List Value} (hbg : Begins P st W args cargs)
    {n f : Nat} {st' : St} (hrun : call (Cx.of P) ov n f args st = some (.bool true, st')) {fn : Func} (hfn : P.funcs[f]? = some fn) (hb : fn.body.isSome = true) (hnm : (fn.name == "runtime.NumGoroutine") = false) :
    Calls P f cargs.toArray W fun e W' => e = .returned (.bool true) ∧ Stays W W' := by
  obtain ⟨m, hR, hfr, hro, ha⟩ := hbg
  have hc := call_sound hmix hov hovm hovi hrun hR ha (fun i hi _ => hfr i hi)
  have hent : (callFunc f cargs.toArray).run P W = .ok (.enter f cargs.toArray) W := by
    have h1 : fn.name ≠ "runtime.NumGoroutine" := by simpa using hnm
    obtain ⟨c, hc⟩ := Option.isSome_iff_exists.1 hb
    simp [callFunc, hfn, h1, hc]
  rcases hc with ⟨v, w', h4, _⟩ | ⟨_, h5⟩
  · rw [hent] at h4; cases h4
  · refine h5.mono fun e W' ⟨v, he, m', hs, hv⟩ => ?_
    have : v = .bool true := (hv _ (some0_ext m')).symm
    subst this
    exact ⟨he, hs.stays hro⟩

variable {H : Type} {enc : TypeId × Value → H}
/-- A LAW THAT LEAVES ALL AS IT WAS. -/
theorem rows_lifted {C : Checked} {os : Os} (started : os.Started) {f : FuncId} {fn : Func} {s : ChangeSpec} {laid : List (String × DataW Unit)} {tb : TypeId} {apart fresh : Bool} {n : Nat}
    (own : ownKnob C.prog.godebug = none) (noInit : C.prog.inits.idxOf? f = none) (hfn : C.prog.funcs[f]? = some fn)
    (hr : fn.resultTypes = #[tb]) (ht : C.prog.underlying tb = some .bool) (hv : s.vars = []) (hz : fn.params.toList.all (solid C.prog n) = true) (A : World → Array Value → Prop)
    (hs : ∀ ds : List (DataW H), ds.length = fn.params.toList.length → s.fn H ds = { results := [.lit (.bool true)], args := ds })
    (harg : ∀ (W : World) (base : Nat) (args : Array Value) (ds : List (DataW H)) (p : List MemPlace), (∀ (j : Nat) t v, fn.params[j]? = some t → args[j]? = some v → Value.okWide C.prog W .any base t v) →
      DataW.TrodAll enc C.prog W 0 (fun _ => true) true fn.params.toList args.toList ds p → A W args)
    (hcalls : ∀ W args, A W args → laidMetH C.prog laid W → Calls C.prog f args W fun e W' => e = .returned (.bool true) ∧ Stays W W')
    (witness : ∃ (w : World) (tape : Tape) (i : Input), w.os = os ∧ (w.forCall tape i).Shaped C.prog ∧ i.vars = [] ∧ Input.okWide C.prog (w.forCall tape i) .any w.heap.size f i ∧
      ((s.pre enc C.prog fn [] apart (w.forCall tape i).memory i.args ∧ laidMetH C.prog laid (w.forCall tape i).memory) ∧ sizedMet enc C.prog fn (OpenSpec.ofChange s) apart (w.forCall tape i).memory i.args) ∧ ({} : Assume).holds C.prog (lone (Frame.enter C.prog f i.args .normal) [] (w.forCall tape i))) :
    ReturnsInHanded {} C os f .any (fun w args => (s.pre enc C.prog fn [] apart w args ∧ laidMetH C.prog laid w) ∧ sizedMet enc C.prog fn (OpenSpec.ofChange s) apart w args) (s.post enc C.prog fn apart fresh false false) := by
  refine returnsInHanded_of_change_and (C := C) (X := fun w _ => laidMetH C.prog laid w) (fun _ _ _ hh h => h.of_heap hh) own started noInit hfn witness ?_
  intro W base args ds gs before hval0 hW _ _ hL _
  have hW' := hW
  obtain ⟨p, q, hA, hV, rfl, hfz, hnd⟩ := hW
  rw [hv] at hV
  obtain ⟨rfl, rfl⟩ := trodVars_none hV
  refine (hcalls _ _ (harg W base args ds p hval0 hA) hL).mono fun e W' ⟨he, hst⟩ => ?_
  subst he
  have hlen : ds.length = fn.params.toList.length := trodAll_len _ _ _ _ hA
  have hs' : s.fn H (ds ++ []) = { results := [.lit (.bool true)], args := ds } := by rw [List.append_nil]; exact hs ds hlen
  refine ⟨_, rfl, post_stays (pa := p) (pv := []) hW' (fun b sp hd => ?_) (fun sp hp => ?_) (fun _ _ => ?_) rfl hst (ok_one hr rfl (okWide_bool_mk ht _))⟩
  · rw [hs', hr]
    exact trodAll_mk1 (shut_bool ht true)
  · rw [hs']
    exact trodAll_stays hst _ _ _ _ hz hA (fun x hx => hp x (by simpa using hx))
  · rw [hs', hv]
    rfl
end
end Go.Ai

/-! Arguments that are rows of numbers, of pairs of numbers. -/
namespace Go.Ai
open Go Go.ChangeShapes Go.WideShapes Go.RowKit Go.ChangeMaps
section
variable {P : Program} {w : World}
theorem rowAt_off {fits : TypeId → Bool} {d : Nat} {e : TypeId} {count off n : Nat} (h : rowAt P fits d e count off n = true) : off ≤ count * P.cellsOf e := by
  cases d with
  | zero => simp [rowAt] at h
  | succ d =>
    unfold rowAt at h
    simp only at h
    split at h
    · cases h
    · rename_i hs
      have hs : 0 < P.cellsOf e := Nat.pos_of_ne_zero hs
      have hd := Nat.div_add_mod off (P.cellsOf e)
      have hm := Nat.mod_lt off hs
      have hc := Nat.mul_comm count (P.cellsOf e)
      rw [Bool.or_eq_true] at h
      rcases h with h | h
      · simp only [Bool.and_eq_true, beq_iff_eq, decide_eq_true_eq] at h
        have := Nat.mul_le_mul_left (P.cellsOf e) (show off / P.cellsOf e ≤ count by omega)
        omega
      · rw [Bool.and_eq_true, decide_eq_true_eq] at h
        have := Nat.mul_le_mul_left (P.cellsOf e) (show off / P.cellsOf e + 1 ≤ count by omega)
        rw [Nat.mul_add] at this
        omega
theorem liesAt_off : ∀ {d : Nat} {e : TypeId} {count off n : Nat} {u : TypeId}, liesAt P d e count off u n = true → off ≤ count * P.cellsOf e := by
  intro d
  induction d with
  | zero => intro e count off n u h; simp [liesAt] at h
  | succ d ih =>
    intro e count off n u h
    unfold liesAt at h
    rw [Bool.or_eq_true] at h
    rcases h with h | h
    · exact rowAt_off h
    · split at h
      · exact ih h
      · cases h
theorem has_block {r : Reach} {base : Nat} {a : Addr} {e : TypeId} {n : Nat} (h : w.has P r base a e n) : a.spot = none ∧ ∃ c t f, w.heap[a.block]? = some (.cells c t f) ∧ a.off ≤ c.size := by
  obtain ⟨_, hs, row, cells, hsh, hl⟩ := h
  refine ⟨hs, ?_⟩
  unfold World.shape? at hsh
  split at hsh
  · rename_i c t f hb
    simp only [Option.some.injEq, Prod.mk.injEq] at hsh
    obtain ⟨rfl, rfl⟩ := hsh
    exact ⟨c, t, f, hb, Nat.le_trans (liesAt_off hl) (Nat.div_mul_le_self _ _)⟩
  · cases hsh
/-- cells that lie in a row of the caller's -/
def InRow (w : World) (a : Addr) (cs : List Value) : Prop :=
  a.spot = none ∧ a.block < w.heap.size ∧ (∀ j v, cs[j]? = some v → w.cell? (a.add j) = some v) ∧ ∃ c t f, w.heap[a.block]? = some (.cells c t f) ∧ a.off + cs.length ≤ c.size
theorem inRow_of {r : Reach} {base : Nat} {a : Addr} {e : TypeId} {n : Nat} (h : w.has P r base a e n) {cs : List Value} (hc : ∀ j v, cs[j]? = some v → w.cell? (a.add j) = some v) : InRow w a cs := by
  obtain ⟨hs, c, t, f, hb, ho⟩ := has_block h
  refine ⟨hs, (Array.getElem?_eq_some_iff.1 hb).1, hc, c, t, f, hb, ?_⟩
  by_cases h0 : cs.length = 0
  · omega
  · have h1 := hc (cs.length - 1) cs[cs.length - 1] (List.getElem?_eq_getElem (by omega))
    unfold World.cell? at h1
    have h2 : (a.add (cs.length - 1)).block = a.block := by unfold Addr.add; split <;> rfl
    have h3 : (a.add (cs.length - 1)).off = a.off + (cs.length - 1) ∧ (a.add (cs.length - 1)).spot = none := by unfold Addr.add; split <;> simp_all
    rw [h2, hb] at h1
    simp only [h3.2, Option.isSome_none, Bool.false_eq_true, if_false, h3.1] at h1
    have := (Array.getElem?_eq_some_iff.1 h1).1
    omega
theorem okWide_slice_has {r : Reach} {base : Nat} {t e : TypeId} {a : Addr} {len cap : Nat} (ht : P.underlying t = some (.slice e)) (h : Value.okWide P w r base t (.slice (some a) len cap)) : w.has P r base a e cap := by
  unfold Value.okWide at h
  rw [ht] at h
  simp only [Cell.okWide, ht, Cell.ok] at h
  exact h.2.2
variable {H : Type} {enc : TypeId × Value → H} {base : Nat} {held : Bool}
theorem arg_ints {r : Reach} {b0 : Nat} {t e : TypeId} {k : IntKind} {v : Value} {d : DataW H} {ps : List MemPlace} (ht : P.underlying t = some (.slice e)) (he : P.underlying e = some (.int k)) (hc : P.cellsOf e = 1)
    (hval : Value.okWide P w r b0 t v) (hd : DataW.Trod enc P w base (fun _ => true) held t v d ps) :
    v = .slice none 0 0 ∨ ∃ (a : Addr) (len : Nat) (zs : List Int), v = .slice (some a) len zs.length ∧ len ≤ zs.length ∧ zs.length ≤ maxLen ∧ (∀ n ∈ zs, k.min ≤ n ∧ n ≤ k.max) ∧ InRow w a (zs.map (.int k)) := by
  obtain ⟨fuel, hf⟩ := hd
  obtain ⟨a0, len0, cap0, rfl⟩ := okWide_slice ht hval
  rcases open_ints ht he hc hf with ⟨h1, _⟩ | ⟨a, len, cap, zs, h1, hb, hl, hm, hz, _, hcell, hw⟩
  · simp [Value.cells] at h1
    obtain ⟨rfl, rfl, rfl⟩ := h1
    exact .inl rfl
  · simp [Value.cells] at h1
    obtain ⟨rfl, rfl, rfl⟩ := h1
    simp only [if_true] at hz
    refine .inr ⟨a, len0, zs, by rw [hz], by omega, by omega, fun n hn => ?_, inRow_of (okWide_slice_has ht hval) fun j v hj => ?_⟩
    · simpa [Lit.wf] using hw n hn
    · rw [List.getElem?_map] at hj
      have hjz : j < zs.length := by
        cases h : zs[j]? with
        | none => rw [h] at hj; cases hj
        | some z => exact (List.getElem?_eq_some_iff.1 h).1
      rw [hcell j hjz]
      rw [List.getElem?_eq_getElem hjz] at hj
      simp only [Option.map_some, Option.some.injEq] at hj
      subst hj
      simp [List.getD_eq_getElem?_getD, List.getElem?_eq_getElem hjz]
/-- pairs, cell by cell -/
def pairC (k0 k1 : IntKind) : List (Int × Int) → List Value
  | [] => []
  | p :: l => .int k0 p.1 :: .int k1 p.2 :: pairC k0 k1 l
theorem pairC_len (k0 k1 : IntKind) : ∀ l, (pairC k0 k1 l).length = 2 * l.length
  | [] => rfl
  | p :: l => by simp only [pairC, List.length_cons, pairC_len k0 k1 l]; omega
theorem pairC_get (k0 k1 : IntKind) : ∀ (l : List (Int × Int)) (i : Nat) (p : Int × Int), l[i]? = some p → (pairC k0 k1 l)[2 * i]? = some (.int k0 p.1) ∧ (pairC k0 k1 l)[2 * i + 1]? = some (.int k1 p.2)
  | [], _, _, h => by simp at h
  | q :: l, 0, p, h => by
    simp at h; subst h
    exact ⟨rfl, rfl⟩
  | q :: l, i + 1, p, h => by
    simp only [List.getElem?_cons_succ] at h
    obtain ⟨h1, h2⟩ := pairC_get k0 k1 l i p h
    rw [show 2 * (i + 1) = 2 * i + 1 + 1 by omega, show 2 * i + 1 + 1 + 1 = 2 * i + 1 + 1 + 1 by rfl]
    exact ⟨h1, h2⟩
theorem pairC_app (k0 k1 : IntKind) : ∀ (l m : List (Int × Int)), pairC k0 k1 (l ++ m) = pairC k0 k1 l ++ pairC k0 k1 m
  | [], _ => rfl
  | p :: l, m => by simp [pairC, pairC_app k0 k1 l m]
theorem pairC_flat (k0 k1 : IntKind) : ∀ l, flatL (pairC k0 k1 l) = true
  | [] => rfl
  | p :: l => by simp [pairC, flatL, flat, pairC_flat k0 k1 l]
theorem ints_flat (k : IntKind) : ∀ zs : List Int, flatL (zs.map (.int k)) = true
  | [] => rfl
  | z :: l => by simp [flatL, flat, ints_flat k l]
theorem arg_pairs {r : Reach} {b0 : Nat} {t e : TypeId} {f0 f1 : Field} {k0 k1 : IntKind} {v : Value} {d : DataW H} {ps : List MemPlace} (ht : P.underlying t = some (.slice e)) (he : P.underlying e = some (.struct #[f0, f1]))
    (ce : P.cellsOf e = 2) (o0 : f0.offset = 0) (o1 : f1.offset = 1) (c0 : P.cellsOf f0.type = 1) (c1 : P.cellsOf f1.type = 1) (e0 : P.underlying f0.type = some (.int k0)) (e1 : P.underlying f1.type = some (.int k1))
    (hval : Value.okWide P w r b0 t v) (hd : DataW.Trod enc P w base (fun _ => true) held t v d ps) :
    v = .slice none 0 0 ∨ ∃ (a : Addr) (len : Nat) (l : List (Int × Int)), v = .slice (some a) len l.length ∧ len ≤ l.length ∧ l.length ≤ maxLen ∧ (∀ p ∈ l, (k0.min ≤ p.1 ∧ p.1 ≤ k0.max) ∧ k1.min ≤ p.2 ∧ p.2 ≤ k1.max) ∧ InRow w a (pairC k0 k1 l) := by
  obtain ⟨fuel, hf⟩ := hd
  obtain ⟨a0, len0, cap0, rfl⟩ := okWide_slice ht hval
  rcases Go.Deep.open_slice_pairs ht he ce o0 o1 c0 c1 hf with ⟨h1, _⟩ | ⟨a, len, cap, m, n, V0, V1, D0, D1, P0, P1, h1, hb, hl, hm, hmm, _, hx⟩
  · simp [Value.cells] at h1
    obtain ⟨rfl, rfl, rfl⟩ := h1
    exact .inl rfl
  · simp [Value.cells] at h1
    obtain ⟨rfl, rfl, rfl⟩ := h1
    simp only [if_true] at hmm
    subst hmm
    have each : ∀ i, i < m → ∃ p : Int × Int, w.cell? (a.add (i * 2)) = some (.int k0 p.1) ∧ w.cell? (a.add (i * 2 + 1)) = some (.int k1 p.2) ∧ (k0.min ≤ p.1 ∧ p.1 ≤ k0.max) ∧ k1.min ≤ p.2 ∧ p.2 ≤ k1.max := by
      intro i hi
      obtain ⟨g0, g1, g2, g3⟩ := hx i hi
      obtain ⟨z0, q1, q2, q3⟩ := DataW.trod_int e0 g2
      obtain ⟨z1, q1', q2', q3'⟩ := DataW.trod_int e1 g3
      simp at q1 q1'
      rw [q1] at g0
      rw [q1'] at g1
      exact ⟨(z0, z1), g0, g1, by simpa [Lit.wf] using q3, by simpa [Lit.wf] using q3'⟩
    obtain ⟨q, hq⟩ := Go.Deep.choose_lt each
    refine .inr ⟨a, len0, (List.range m).map q, by simp, by simpa using hl, by simpa using hm, fun p hp => ?_, inRow_of (okWide_slice_has ht hval) fun j v hj => ?_⟩
    · obtain ⟨i, hi, rfl⟩ := List.mem_map.1 hp
      have := List.mem_range.1 hi
      exact (hq i (by omega)).2.2
    · have hlen : j < 2 * m := by
        have := (List.getElem?_eq_some_iff.1 hj).1
        rw [pairC_len] at this
        simpa using this
      have hi : j / 2 < m := by omega
      obtain ⟨w0, w1⟩ := pairC_get k0 k1 ((List.range m).map q) (j / 2) (q (j / 2)) (by simp [hi])
      obtain ⟨g0, g1, _⟩ := hq (j / 2) (by omega)
      rcases Nat.mod_two_eq_zero_or_one j with hj2 | hj2
      · rw [show 2 * (j / 2) = j by omega] at w0
        rw [w0] at hj
        rw [show j / 2 * 2 = j by omega] at g0
        rw [g0]; exact hj
      · rw [show 2 * (j / 2) + 1 = j by omega] at w1
        rw [w1] at hj
        rw [show j / 2 * 2 + 1 = j by omega] at g1
        rw [g1]; exact hj
end
end Go.Ai

/-! Texts that a contract tells, cell by cell: their length is asked. -/
namespace Go.Ai
open Go
noncomputable section
def expl (l : List UInt8) : Nat → Nat → List UInt8
  | 0, _ => []
  | k + 1, i => l.getD i 0 :: expl l k (i + 1)
def explode (k : Nat) (s : ByteArray) : ByteArray := ⟨⟨expl s.data.toList k 0⟩⟩
theorem expl_eq : ∀ (k i : Nat) (l : List UInt8), l.length = i + k → expl l k i = l.drop i
  | 0, i, l, h => by simp [expl, h]
  | k + 1, i, l, h => by
    have hi : i < l.length := by omega
    rw [expl, expl_eq k (i + 1) l (by omega), List.drop_eq_getElem_cons hi]
    simp [List.getD_eq_getElem?_getD, hi]
theorem explode_eq {k : Nat} {s : ByteArray} (h : s.size = k) : explode k s = s := by
  have h' : s.data.toList.length = k := by rw [← h]; rfl
  unfold explode
  rw [expl_eq k 0 _ (by omega)]
  rfl
def memN (f : Nat) : List Nat → Bool
  | [] => false
  | x :: l => Nat.beq x f || memN f l
def splitG (g : List Value → St → OM (Value × St)) (args : List Value) (st : St) : OM (Value × St) := (g args st).bind fun q => match q with
  | (.string s, st') => (concI (s.size : Int)).bind fun z => .ret (.string (explode z.toNat s), st')
  | q => .ret q
def splitO (fs : List Nat) (ovO : OvO) : OvO where
  fn := fun f => match memN f fs with
    | true => match ovO.fn f with
      | some g => some (splitG g)
      | none => none
    | false => ovO.fn f
  lp := ovO.lp
theorem splitO_ref {fs : List Nat} {ov : Ov} {ovO : OvO} (h : OvRef ov ovO) : OvRef ov (splitO fs ovO) where
  fn := by
    intro f g args st hg
    simp only [splitO] at hg
    split at hg
    · split at hg <;> (try (cases hg; done))
      rename_i g0 hg0
      simp only [Option.some.injEq] at hg; subst hg
      unfold splitG
      refine ok_bind (h.fn f g0 args st hg0) fun q => ?_
      split
      · rename_i s st'
        refine ok_bind ok_conc fun z => ok_ret fun hz hq => ?_
        subst hz
        rw [Int.toNat_natCast, explode_eq rfl]
        exact hq
      · exact ok_ret fun hq => hq
    · exact h.fn f g args st hg
  no := h.no
  lp := h.lp
def splitIG (g : List Value → St → OM (Value × St)) (args : List Value) (st : St) : OM (Value × St) := (g args st).bind fun q => match q with
  | (.int k n, st') => (concI n).bind fun z => .ret (.int k z, st')
  | q => .ret q
/-- a contract's number is told -/
def splitIO (fs : List Nat) (ovO : OvO) : OvO where
  fn := fun f => match memN f fs with
    | true => match ovO.fn f with
      | some g => some (splitIG g)
      | none => none
    | false => ovO.fn f
  lp := ovO.lp
theorem splitIO_ref {fs : List Nat} {ov : Ov} {ovO : OvO} (h : OvRef ov ovO) : OvRef ov (splitIO fs ovO) where
  fn := by
    intro f g args st hg
    simp only [splitIO] at hg
    split at hg
    · split at hg <;> (try (cases hg; done))
      rename_i g0 hg0
      simp only [Option.some.injEq] at hg; subst hg
      unfold splitIG
      refine ok_bind (h.fn f g0 args st hg0) fun q => ?_
      split
      · rename_i k n st'
        refine ok_bind ok_conc fun z => ok_ret fun hz hq => ?_
        subst hz
        exact hq
      · exact ok_ret fun hq => hq
    · exact h.fn f g args st hg
  no := h.no
  lp := h.lp
end
end Go.Ai

/-! Loops that look at rows and lay rows: contracts with memory. -/
namespace Go.Ai
open Go
noncomputable section

/-- what an id of a contract stands for at the caller's: an id; a part of a read row, from a cell on, with a capacity -/
inductive RB where
  | id (j : Nat)
  | sl (j off cap : Nat)
def RB.blk : RB → Nat
  | .id j => j
  | .sl j _ _ => j
abbrev Rho := List (Nat × RB)
def getR : Rho → Nat → Option RB
  | [], _ => none
  | x :: l, i => match Nat.beq x.1 i with | true => some x.2 | false => getR l i
def blkR (ρ : Rho) (i : Nat) : Nat := match getR ρ i with | some r => r.blk | none => 0
def sig (b : Nat) (ρ : Rho) (i : Nat) : Nat := match Nat.blt i b with
  | true => i
  | false => blkR ρ i
def isId (ρ : Rho) (i : Nat) : Bool := match getR ρ i with | some (.id _) => true | _ => false

/-- A LOOP. The ids: the laid ones (below `st0.ct`); those that stay (below s0); those that float (below n0: they are told anew in each round); what is made (below n1). -/
structure ML where
  c : Code
  nt : Nat
  keys : List Tmp
  outs : List Tmp
  ids : List Nat
  s0 : Nat
  n0 : Nat
  n1 : Nat
  X : Type
  hv : X → List Value
  ho : X → Objs
  pre : X → Prop
  ex : X → Ex
  rv : X → List Value
  ro : X → Objs
  get : List Value → T AObj → Option (Bool × (Bool → X × Rho))

def reWr (w : Bool) : AObj → AObj
  | .row e cs o _ => .row e cs o w
  | o => o
/-- a row whose cells have these ids -/
def rowIn (p : Nat → Bool) : AObj → Bool
  | .row _ cs _ _ => inIdsL p cs
  | _ => false

def FitO (cx : Cx) (b s0 : Nat) (ρ : Rho) (hp : T AObj) (x : Nat × AObj) : Prop := match getR ρ x.1 with
  | some (.id j) => ∃ w, hp.get j = some (reWr w (renO (sig b ρ) x.2)) ∧ (x.2.isWr = true → w = true)
  | some (.sl j off cap) => s0 ≤ x.1 ∧ ∃ e cells cs o w n, x.2 = .row e cells true false ∧ hp.get j = some (.row e cs o w) ∧ cx.size e = some n ∧ 1 ≤ n ∧ flatL cells = true ∧
      cells = (cs.drop off).take cells.length ∧ off + cells.length ≤ cs.length ∧
      ((isOpen cap = true ∧ o = true ∧ off = (openCap - cap) * n ∧ cap ≤ openCap) ∨ (isOpen cap = false ∧ off + cap * n ≤ cs.length ∧ cells.length ≤ cap * n ∧ cap ≤ 9223372036854775807))
  | none => False
def FitOs (cx : Cx) (b s0 : Nat) (ρ : Rho) (hp : T AObj) : Objs → Prop
  | [] => True
  | x :: l => FitO cx b s0 ρ hp x ∧ FitOs cx b s0 ρ hp l
def idOk (b : Nat) (all : Objs) (ρ : Rho) (i : Nat) : Bool := Nat.blt i b || (hasKey all i && isId ρ i)
def FitV (b : Nat) (all : Objs) (ρ : Rho) (v v' : Value) : Prop :=
  (v' = ren (sig b ρ) v ∧ inIds (idOk b all ρ) v = true) ∨
  (∃ i j off cap n, v = .slice (some ⟨i, 0, none⟩) n openCap ∧ b ≤ i ∧ hasKey all i = true ∧ getR ρ i = some (.sl j off cap) ∧ v' = .slice (some ⟨j, off, none⟩) n cap)
def FitVs (b : Nat) (all : Objs) (ρ : Rho) : List Value → List Value → Prop
  | [], [] => True
  | v :: l, v' :: l' => FitV b all ρ v v' ∧ FitVs b all ρ l l'
  | _, _ => False
/-- what may be written is nobody else's -/
def distB (ρ : Rho) (all : Objs) : Objs → Bool
  | [] => true
  | x :: l => (!x.2.isWr || all.all fun y => Nat.beq y.1 x.1 || !Nat.beq (blkR ρ y.1) (blkR ρ x.1)) && distB ρ all l
structure Fit (cx : Cx) (b : Nat) (L : ML) (x : L.X) (ρ : Rho) (vs : List Value) (hp : T AObj) : Prop where
  objs : FitOs cx b L.s0 ρ hp (L.ho x)
  vals : FitVs b (L.ho x) ρ (L.hv x) vs
  dist : distB ρ (L.ho x) (L.ho x) = true

def lookR (hp : T AObj) : Rho → List (Option AObj)
  | [] => []
  | r :: l => hp.get r.2.blk :: lookR hp l
/-- it fits wherever these objects lie -/
def FitS (cx : Cx) (b : Nat) (L : ML) (x : L.X) (ρ : Rho) (vs : List Value) (os : List (Option AObj)) : Prop := ∀ hp, lookR hp ρ = os → Fit cx b L x ρ vs hp

def delAll (ρ : Rho) : Objs → T AObj → T AObj
  | [], hp => hp
  | x :: l, hp => match x.2.isWr with
    | true => (delAll ρ l hp).del (blkR ρ x.1)
    | false => delAll ρ l hp
/-- the ids of a loop's end, at the caller's -/
def sgo (b s0 n0 ct : Nat) (ρ : Rho) (i : Nat) : Nat := match Nat.blt i b with
  | true => i
  | false => match Nat.blt i s0 with
    | true => blkR ρ i
    | false => i - n0 + ct
def ML.out (L : ML) (b : Nat) (tm : T Value) (st : St) (x : L.X) (ρ : Rho) : Ex × T Value × St :=
  (L.ex x, putT L.outs (renL (sgo b L.s0 L.n0 st.ct ρ) (L.rv x)) (forget (dstsOf L.c) tm), ⟨layNews (sgo b L.s0 L.n0 st.ct ρ) (delAll ρ (L.ho x) st.hp) (L.ro x), L.n1 - L.n0 + st.ct⟩)

def ML.go (cx : Cx) (st0 : St) (L : ML) (nt : Nat) (tm : T Value) (st : St) : Option (Ex × T Value × St) :=
  open Classical in match Nat.beq nt L.nt && hasIds st0.hp st.hp L.ids with
  | true => match readT tm L.keys with
    | some vs => match L.get vs st.hp with
      | some (c, k) => if L.pre (k c).1 ∧ Fit cx st0.ct L (k c).1 (k c).2 vs st.hp then some (L.out st0.ct tm st (k c).1 (k c).2) else none
      | none => none
    | none => none
  | false => none
def ML.goO (cx : Cx) (st0 : St) (L : ML) (nt : Nat) (tm : T Value) (st : St) : OM (Ex × T Value × St) := match Nat.beq nt L.nt && hasIds st0.hp st.hp L.ids with
  | true => match readT tm L.keys with
    | some vs => match L.get vs st.hp with
      | some (c, k) => (ask c).bind fun c => need (L.pre (k c).1) (need (FitS cx st0.ct L (k c).1 (k c).2 vs (lookR st.hp (k c).2)) (.ret (L.out st0.ct tm st (k c).1 (k c).2)))
      | none => .no 170
    | none => .no 171
  | false => .no 172
def findM2 (k : Nat) : List (Nat × ML) → Option ML
  | [] => none
  | x :: l => match Nat.beq x.1 k with
    | true => some x.2
    | false => findM2 k l
def ovRows (cx : Cx) (st0 : St) (ls : List (Nat × ML)) (ov : Ov) : Ov where
  fn := ov.fn
  lp := open Classical in fun a => match findM2 (keyOf a 1) ls with
    | some L => if a = L.c then some (L.go cx st0) else none
    | none => ov.lp a
def ovORows (cx : Cx) (st0 : St) (ls : List (Nat × ML)) (ovO : OvO) : OvO where
  fn := ovO.fn
  lp := fun k => match findM2 k ls with
    | some L => some (L.c, L.goO cx st0)
    | none => ovO.lp k

/-- how a contract's end lies behind the last round -/
def tauB (s0 : Nat) (τ : Bind) (i : Nat) : Nat := match Nat.blt i s0 with
  | true => i
  | false => match getB τ i with | some j => j | none => 0
def FitR (τ : Nat → Nat) (hp : T AObj) : Objs → Prop
  | [] => True
  | x :: l => hp.get (τ x.1) = some (renO τ x.2) ∧ FitR τ hp l
def distR (τ : Nat → Nat) (all : Objs) : Objs → Bool
  | [] => true
  | x :: l => (all.all fun y => Nat.beq y.1 x.1 || !Nat.beq (τ y.1) (τ x.1)) && distR τ all l
def headOk (b s0 n0 : Nat) (all : Objs) : Objs → Bool
  | [] => true
  | x :: l => Nat.ble b x.1 && Nat.blt x.1 n0 && rowIn (fun i => Nat.blt i b || (Nat.blt i s0 && hasKey all i)) x.2 && headOk b s0 n0 all l
def tailOk (b s0 n0 n1 : Nat) (all : Objs) : Objs → Bool
  | [] => true
  | x :: l => Nat.ble b x.1 && (Nat.blt x.1 s0 || (Nat.ble n0 x.1 && Nat.blt x.1 n1)) && x.2.isWr && rowIn (okId s0 all) x.2 && tailOk b s0 n0 n1 all l
def stays (b s0 : Nat) (ρ : Rho) : Prop := ∀ i, b ≤ i → i < s0 → getR ρ i = some (.id i)
structure ML.Good (P : Program) (ov : Ov) (st0 : St) (L : ML) : Prop where
  keep : keepOk st0.ct st0.hp L.ids = true
  b0 : st0.ct ≤ L.s0
  b1 : L.s0 ≤ L.n0
  b2 : L.n0 ≤ L.n1
  outs : ∀ t ∈ L.outs, t ∈ dstsOf L.c
  head : ∀ x, L.pre x → headOk st0.ct L.s0 L.n0 (L.ho x) (L.ho x) = true ∧ (∀ i, st0.ct ≤ i → i < L.s0 → hasKey (L.ho x) i = true)
  tail : ∀ x, L.pre x → tailOk st0.ct L.s0 L.n0 L.n1 (L.ro x) (L.ro x) = true ∧ inIdsL (okId L.s0 (L.ro x)) (L.rv x) = true
  ok : ∃ meas : L.X → Nat, ∀ x, L.pre x → ∃ n ex tmO st',
    (∀ tm2, Sub (putT L.keys (L.hv x) .nil) tm2 → ∃ tm2', run (Cx.of P) ov n L.c L.nt tm2 ⟨over0 (keepIds st0.hp L.ids) (L.ho x), L.n0⟩ = some (ex, tm2', st') ∧ Sub tmO tm2') ∧
    ((ex = .normal ∧ ∃ x' ρ vs', readT tmO L.keys = some vs' ∧ L.pre x' ∧ meas x' < meas x ∧ (L.ex x' = L.ex x ∧ L.rv x' = L.rv x ∧ L.ro x' = L.ro x) ∧ Fit (Cx.of P) st0.ct L x' ρ vs' st'.hp ∧ stays st0.ct L.s0 ρ) ∨
     (ex ≠ .normal ∧ ex = L.ex x ∧ ∃ τ, readT tmO L.outs = some (renL (tauB L.s0 τ) (L.rv x)) ∧ FitR (tauB L.s0 τ) st'.hp (L.ro x) ∧ distR (tauB L.s0 τ) (L.ro x) (L.ro x) = true))

/-! ### the one says what the other one says -/
theorem ML.out_sub {L : ML} {b : Nat} {tm tm2 : T Value} (hs : Sub tm tm2) {st : St} {x : L.X} {ρ : Rho} : (L.out b tm st x ρ).1 = (L.out b tm2 st x ρ).1 ∧ Sub (L.out b tm st x ρ).2.1 (L.out b tm2 st x ρ).2.1 ∧ (L.out b tm st x ρ).2.2 = (L.out b tm2 st x ρ).2.2 :=
  ⟨rfl, putT_sub _ _ (forget_sub _ hs), rfl⟩
theorem ovRows_ref {cx : Cx} {st0 : St} {ls : List (Nat × ML)} {ov : Ov} {ovO : OvO} (h : OvRef ov ovO) : OvRef (ovRows cx st0 ls ov) (ovORows cx st0 ls ovO) where
  fn := h.fn
  no := by
    intro a ha
    simp only [ovORows] at ha
    split at ha <;> (try (cases ha; done))
    rename_i hk
    simp only [ovRows, hk]; exact h.no a ha
  lp := by
    intro a c g nt tm st hl
    simp only [ovORows] at hl
    split at hl
    · rename_i L hL
      simp only [Option.some.injEq, Prod.mk.injEq] at hl
      obtain ⟨rfl, rfl⟩ := hl
      unfold ML.goO
      split
      · rename_i hi
        split
        · rename_i vs hv
          split
          · rename_i c k hg
            refine ok_bind ok_ask fun c' => ok_need (ok_need (ok_ret fun hf hp e hc tm2 hs => ?_))
            subst e
            refine ⟨L.go cx st0, (L.out st0.ct tm2 st (k c').1 (k c').2).2.1, ?_, ?_, (ML.out_sub hs).2.1⟩
            · simp only [ovRows, hL, if_pos hc]
            · simp only [ML.go, hi, readT_mono hs hv, hg, if_pos (And.intro hp (hf _ rfl))]; rfl
          · exact ok_no
        · exact ok_no
      · exact ok_no
    · rename_i hL
      refine ok_mono (h.lp a c g nt tm st hl) fun q hq hc tm2 hs => ?_
      simp only [ovRows, hL]; exact hq hc tm2 hs
end
end Go.Ai

/-! Contracts with memory: what fits stands for the same. -/
namespace Go.Ai
open Go

/-- a step, of whatever names -/
structure SM (cx : Cx) (m : Nat → Option Loc) (G : Nat → AObj → Prop) (w : World) (n0 : Nat) (m' : Nat → Option Loc) (G' : Nat → AObj → Prop) (w' : World) : Prop where
  mono : ∀ i l, m i = some l → m' i = some l
  low : ∀ i l, i < n0 → m' i = some l → m i = some l
  rep : Rep cx m' G' w'
  fr : Fr m G w w'
  prov : ∀ id o l, G' id o → m' id = some l → w.heap.size ≤ l.blk ∨
    ∃ id0 o0 l0, G id0 o0 ∧ (o.isWr = true → o0.isWr = true) ∧ m id0 = some l0 ∧ l0.blk = l.blk

def shiftL (off cap : Nat) (l : Loc) : Loc := ⟨l.blk, l.base + off, if isOpen cap = true then l.cap - (openCap - cap) else cap, l.val⟩
def placeM (m : Nat → Option Loc) (b n0 : Nat) (ρ : Rho) (i : Nat) : Option Loc :=
  if i < b then m i else if i < n0 then match getR ρ i with
    | some (.id j) => m j
    | some (.sl j off cap) => (m j).map (shiftL off cap)
    | none => none
  else none
theorem placeM_low {m : Nat → Option Loc} {b n0 : Nat} {ρ : Rho} {i : Nat} (h : i < b) : placeM m b n0 ρ i = m i := by simp [placeM, h]
theorem placeM_id {m : Nat → Option Loc} {b n0 : Nat} {ρ : Rho} {i j : Nat} (h : b ≤ i) (h0 : i < n0) (hg : getR ρ i = some (.id j)) : placeM m b n0 ρ i = m j := by
  simp [placeM, Nat.not_lt.2 h, h0, hg]
theorem placeM_sl {m : Nat → Option Loc} {b n0 : Nat} {ρ : Rho} {i j off cap : Nat} (h : b ≤ i) (h0 : i < n0) (hg : getR ρ i = some (.sl j off cap)) : placeM m b n0 ρ i = (m j).map (shiftL off cap) := by
  simp [placeM, Nat.not_lt.2 h, h0, hg]
theorem placeM_high {m : Nat → Option Loc} {b n0 : Nat} {ρ : Rho} {i : Nat} (hb : b ≤ n0) (h : n0 ≤ i) : placeM m b n0 ρ i = none := by
  have h1 : ¬ i < b := by omega
  have h2 : ¬ i < n0 := by omega
  simp [placeM, h1, h2]

/-- the objects at a loop's head; behind it -/
def GX (st0 : St) (L : ML) (x : L.X) : Nat → AObj → Prop := (⟨over0 (keepIds st0.hp L.ids) (L.ho x), L.n0⟩ : St).G
def GR (L : ML) (x : L.X) : Nat → AObj → Prop := fun id o => (id, o) ∈ L.ro x
def Laid (cx : Cx) (st0 : St) (ids : List Nat) (m : Nat → Option Loc) (G : Nat → AObj → Prop) (w : World) : Prop :=
  ∀ id o, (keepIds st0.hp ids).get id = some o → o.isWr = false ∧ ∃ l, m id = some l ∧ l.blk < w.heap.size ∧ (∀ μ, Ext m μ → ObjRep cx μ w id o) ∧
    ∀ j oj lj, G j oj → oj.isWr = true → m j = some lj → lj.blk ≠ l.blk

theorem blt_true {a b : Nat} (h : a < b) : Nat.blt a b = true := Nat.ble_eq.mpr h
theorem blt_false {a b : Nat} (h : b ≤ a) : Nat.blt a b = false := by
  cases hq : Nat.blt a b with
  | false => rfl
  | true => have : a < b := Nat.le_of_ble_eq_true hq; omega
theorem blt_iff {a b : Nat} : Nat.blt a b = true ↔ a < b := ⟨fun h => Nat.le_of_ble_eq_true h, blt_true⟩
theorem sig_low {b : Nat} {ρ : Rho} {i : Nat} (h : i < b) : sig b ρ i = i := by simp [sig, blt_true h]
theorem sig_id {b : Nat} {ρ : Rho} {i j : Nat} (h : b ≤ i) (hg : getR ρ i = some (.id j)) : sig b ρ i = j := by simp [sig, blt_false h, blkR, hg, RB.blk]
theorem hasKey_of {l : Objs} {i : Nat} {o : AObj} (h : (i, o) ∈ l) : hasKey l i = true := by
  induction l with
  | nil => cases h
  | cons y l ih =>
    simp only [hasKey, Bool.or_eq_true]
    rcases List.mem_cons.1 h with h | h
    · subst h; exact .inl (by simp)
    · exact .inr (ih h)
theorem FitOs_mem {cx : Cx} {b s0 : Nat} {ρ : Rho} {hp : T AObj} : ∀ (l : Objs), FitOs cx b s0 ρ hp l → ∀ x ∈ l, FitO cx b s0 ρ hp x
  | [], _, x, h => by cases h
  | y :: l, hf, x, h => by
    rcases List.mem_cons.1 h with rfl | h
    · exact hf.1
    · exact FitOs_mem l hf.2 x h
theorem headOk_mem {b s0 n0 : Nat} {all : Objs} : ∀ (l : Objs), headOk b s0 n0 all l = true → ∀ x ∈ l, b ≤ x.1 ∧ x.1 < n0 ∧ rowIn (fun i => Nat.blt i b || (Nat.blt i s0 && hasKey all i)) x.2 = true
  | [], _, x, h => by cases h
  | y :: l, hf, x, h => by
    simp only [headOk, Bool.and_eq_true] at hf
    rcases List.mem_cons.1 h with rfl | h
    · exact ⟨Nat.le_of_ble_eq_true hf.1.1.1, blt_iff.1 hf.1.1.2, hf.1.2⟩
    · exact headOk_mem l hf.2 x h
theorem tailOk_mem {b s0 n0 n1 : Nat} {all : Objs} : ∀ (l : Objs), tailOk b s0 n0 n1 all l = true → ∀ x ∈ l, b ≤ x.1 ∧ (x.1 < s0 ∨ (n0 ≤ x.1 ∧ x.1 < n1)) ∧ x.2.isWr = true ∧ rowIn (okId s0 all) x.2 = true
  | [], _, x, h => by cases h
  | y :: l, hf, x, h => by
    simp only [tailOk, Bool.and_eq_true, Bool.or_eq_true] at hf
    rcases List.mem_cons.1 h with rfl | h
    · refine ⟨Nat.le_of_ble_eq_true hf.1.1.1.1, ?_, hf.1.1.2, hf.1.2⟩
      rcases hf.1.1.1.2 with h | h
      · exact .inl (blt_iff.1 h)
      · exact .inr ⟨Nat.le_of_ble_eq_true h.1, blt_iff.1 h.2⟩
    · exact tailOk_mem l hf.2 x h
theorem distB_mem {ρ : Rho} {all : Objs} : ∀ (l : Objs), distB ρ all l = true → ∀ x ∈ l, x.2.isWr = true → ∀ y ∈ all, blkR ρ y.1 = blkR ρ x.1 → y.1 = x.1
  | [], _, x, h => by cases h
  | z :: l, hf, x, h => by
    simp only [distB, Bool.and_eq_true, Bool.or_eq_true, Bool.not_eq_true'] at hf
    rcases List.mem_cons.1 h with rfl | h
    · intro hw y hy he
      rcases hf.1 with h1 | h1
      · rw [h1] at hw; cases hw
      · have := List.all_eq_true.1 h1 y hy
        simp only [Bool.or_eq_true, Bool.not_eq_true'] at this
        rcases this with h2 | h2
        · exact Nat.eq_of_beq_eq_true h2
        · rw [he] at h2; simp at h2
    · exact distB_mem l hf.2 x h
theorem distR_mem {τ : Nat → Nat} {all : Objs} : ∀ (l : Objs), distR τ all l = true → ∀ x ∈ l, ∀ y ∈ all, τ y.1 = τ x.1 → y.1 = x.1
  | [], _, x, h => by cases h
  | z :: l, hf, x, h => by
    simp only [distR, Bool.and_eq_true] at hf
    rcases List.mem_cons.1 h with rfl | h
    · intro y hy he
      have := List.all_eq_true.1 hf.1 y hy
      simp only [Bool.or_eq_true, Bool.not_eq_true'] at this
      rcases this with h2 | h2
      · exact Nat.eq_of_beq_eq_true h2
      · rw [he] at h2; simp at h2
    · exact distR_mem l hf.2 x h
theorem FitR_mem {τ : Nat → Nat} {hp : T AObj} : ∀ (l : Objs), FitR τ hp l → ∀ x ∈ l, hp.get (τ x.1) = some (renO τ x.2)
  | [], _, x, h => by cases h
  | y :: l, hf, x, h => by
    rcases List.mem_cons.1 h with rfl | h
    · exact hf.1
    · exact FitR_mem l hf.2 x h

/-- a row under other names -/
theorem row_unren {cx : Cx} {p : Nat → Bool} {μ0 μ : Nat → Loc} {ρ : Nat → Nat} {w : World} {k j : Nat} {o : AObj} {w1 : Bool} (hag : ∀ i, p i = true → μ0 i = μ (ρ i)) (hk : μ0 k = μ j) (hf : rowIn p o = true) (hw : o.isWr = true → w1 = true)
    (hr : ObjRep cx μ w j (reWr w1 (renO ρ o))) : ObjRep cx μ0 w k o := by
  cases o with
  | row e cs op wr =>
    simp only [rowIn] at hf
    simp only [AObj.isWr] at hw
    obtain ⟨cells, e2, fz, g1, g2, g3, g4, g5, g6⟩ := hr
    refine ⟨cells, e2, fz, by rw [hk]; exact g1, ?_, fun j' v hj hc => ?_, fun h => g4 (hw h), ?_, fun h => ?_⟩
    · rw [hk]; simpa [renL_map] using g2
    · have := g3 j' (ren ρ v) (by rw [renL_map, List.getElem?_map, hj]; rfl) (by rw [← isCell_conc μ, conc_ren, isCell_conc]; exact hc)
      rw [hk, this, conc_ren, conc_in hag v (inIdsL_mem _ hf v (List.mem_of_getElem? hj))]
    · rw [hk]; simpa [renL_map] using g5
    · rw [hk]; exact g6 (hw h)
  | _ => simp [rowIn] at hf
theorem row_ren {cx : Cx} {p : Nat → Bool} {μ2 μ : Nat → Loc} {σ : Nat → Nat} {w : World} {k j : Nat} {o : AObj} (hag : ∀ i, p i = true → μ2 i = μ (σ i)) (hk : μ2 k = μ j) (hf : rowIn p o = true)
    (hr : ObjRep cx μ2 w k o) : ObjRep cx μ w j (renO σ o) := by
  cases o with
  | row e cs op wr =>
    simp only [rowIn] at hf
    obtain ⟨cells, e2, fz, g1, g2, g3, g4, g5, g6⟩ := hr
    refine ⟨cells, e2, fz, by rw [← hk]; exact g1, ?_, fun j' v hj hc => ?_, g4, ?_, fun h => ?_⟩
    · rw [← hk]; simpa [renL_map] using g2
    · rw [renL_map, List.getElem?_map, Option.map_eq_some_iff] at hj
      obtain ⟨v0, hj, rfl⟩ := hj
      rw [conc_ren, ← conc_in hag v0 (inIdsL_mem _ hf v0 (List.mem_of_getElem? hj)), ← hk]
      refine g3 j' v0 hj ?_
      rw [← isCell_conc (fun i => μ (σ i)), ← conc_ren, isCell_conc]; exact hc
    · rw [← hk]; simpa [renL_map] using g5
    · rw [← hk]; exact g6 h
  | _ => simp [rowIn] at hf
theorem row_agree {cx : Cx} {p : Nat → Bool} {μ0 μ : Nat → Loc} {w : World} {k : Nat} {o : AObj} (hag : ∀ i, p i = true → μ0 i = μ i) (hk : μ0 k = μ k) (hf : rowIn p o = true) (hr : ObjRep cx μ w k o) : ObjRep cx μ0 w k o := by
  cases o with
  | row e cs op wr =>
    simp only [rowIn] at hf
    obtain ⟨cells, e2, fz, g1, g2, g3, g4, g5, g6⟩ := hr
    refine ⟨cells, e2, fz, by rw [hk]; exact g1, by rw [hk]; exact g2, fun j' v hj hc => ?_, g4, by rw [hk]; exact g5, by rw [hk]; exact g6⟩
    rw [hk, g3 j' v hj hc, conc_in hag v (inIdsL_mem _ hf v (List.mem_of_getElem? hj))]
  | _ => simp [rowIn] at hf
/-- a part of a row -/
theorem row_part {cx : Cx} {μ0 μ : Nat → Loc} {w : World} {k j off cap n : Nat} {e : TypeId} {cells cs : List Value} {o wr : Bool} (hk : μ0 k = shiftL off cap (μ j)) (hn : cx.size e = some n) (_ : 1 ≤ n) (hfl : flatL cells = true)
    (hc : cells = (cs.drop off).take cells.length) (hle : off + cells.length ≤ cs.length)
    (hcap : (isOpen cap = true ∧ o = true ∧ off = (openCap - cap) * n ∧ cap ≤ openCap) ∨ (isOpen cap = false ∧ off + cap * n ≤ cs.length ∧ cells.length ≤ cap * n ∧ cap ≤ 9223372036854775807))
    (hr : ObjRep cx μ w j (.row e cs o wr)) : ObjRep cx μ0 w k (.row e cells true false) := by
  obtain ⟨C, e2, fz, g1, g2, g3, g4, g5, g6⟩ := hr
  refine ⟨C, e2, fz, by rw [hk]; exact g1, by rw [hk]; simp only [shiftL]; omega, fun j' v hj hcell => ?_, (fun h => by cases h), fun _ n' hn' => ?_, (fun h => by cases h)⟩
  · have hv : cs[off + j']? = some v := by
      rw [hc, List.getElem?_take] at hj
      split at hj
      · rw [List.getElem?_drop] at hj; exact hj
      · cases hj
    have := g3 _ v hv hcell
    have hf := flatL_mem _ hfl v (List.mem_of_getElem? hj)
    rw [conc_flat _ _ hf] at this ⊢
    rw [hk]; simp only [shiftL]
    rw [← this]; congr 1; omega
  · rw [hn] at hn'; injection hn' with hn'; subst hn'
    rw [hk]; simp only [shiftL]
    rcases hcap with ⟨c1, c2, c3, c4⟩ | ⟨c1, c2, c3, c4⟩
    · obtain ⟨k1, k2, k3⟩ := g5 c2 n hn
      simp only [c1, if_true]
      generalize openCap - cap = q at c3 ⊢
      have hq : q * n ≤ (μ j).cap * n := by omega
      rw [Nat.sub_mul]
      refine ⟨by omega, by omega, by omega⟩
    · simp only [c1]
      refine ⟨?_, c3, c4⟩
      simp only [Bool.false_eq_true, if_false]
      omega
end Go.Ai

/-! Contracts with memory: the objects at a loop's head. -/
namespace Go.Ai
open Go
section
variable {P : Program}

theorem rowIn_row {p : Nat → Bool} {o : AObj} (h : rowIn p o = true) : ∃ e cs op wr, o = .row e cs op wr := by
  cases o with
  | row e cs op wr => exact ⟨e, cs, op, wr, rfl⟩
  | _ => simp [rowIn] at h

theorem GX_mem {st0 : St} {L : ML} {x : L.X} {id : Nat} {o : AObj} (h : GX st0 L x id o) : (id, o) ∈ L.ho x ∨ (keepIds st0.hp L.ids).get id = some o := over0_get _ _ _ h

/-- what is known of the names at the caller's when names at the loop's head go on -/
theorem place_lift {m : Nat → Option Loc} {b n0 : Nat} {ρ : Rho} {μ0 : Nat → Loc} (h : Ext (placeM m b n0 ρ) μ0) : ∃ μ, Ext m μ ∧ (∀ i, i < b → μ0 i = μ i) ∧
    (∀ i j, b ≤ i → i < n0 → getR ρ i = some (.id j) → (∃ l, m j = some l) → μ0 i = μ j) ∧
    (∀ i j off cap, b ≤ i → i < n0 → getR ρ i = some (.sl j off cap) → (∃ l, m j = some l) → μ0 i = shiftL off cap (μ j)) := by
  refine ⟨fun i => (m i).getD (μ0 i), fun i l hi => by simp [hi], fun i hi => ?_, fun i j hb h0 hg ⟨l, hl⟩ => ?_, fun i j off cap hb h0 hg ⟨l, hl⟩ => ?_⟩
  · show μ0 i = (m i).getD (μ0 i)
    cases hm : m i with
    | none => rfl
    | some l => exact h i l (by rw [placeM_low hi, hm])
  · simp only [hl, Option.getD_some]
    exact h i l (by rw [placeM_id hb h0 hg, hl])
  · simp only [hl, Option.getD_some]
    exact h i _ (by rw [placeM_sl hb h0 hg, hl]; rfl)

/-- the objects that fit -/
theorem fit_obj {cx : Cx} {b s0 : Nat} {ρ : Rho} {hp : T AObj} {p : Nat × AObj} (h : FitO cx b s0 ρ hp p) : ∃ r o', getR ρ p.1 = some r ∧ hp.get r.blk = some o' ∧ (p.2.isWr = true → o'.isWr = true ∧ ∃ j, r = .id j) := by
  unfold FitO at h
  split at h
  · rename_i j hg
    obtain ⟨w, h1, h2⟩ := h
    refine ⟨_, _, hg, h1, fun hw => ⟨?_, j, rfl⟩⟩
    have hw' := h2 hw
    subst hw'
    cases hp2 : p.2 <;> rw [hp2] at hw <;> simp_all [renO, reWr, AObj.isWr]
  · rename_i j off cap hg
    obtain ⟨_, e, cells, cs, o, w, n, h1, h2, _⟩ := h
    refine ⟨_, _, hg, h2, fun hw => ?_⟩
    rw [h1] at hw; cases hw
  · cases h
theorem fit_stay {cx : Cx} {b s0 : Nat} {ρ : Rho} {hp : T AObj} {p : Nat × AObj} (h : FitO cx b s0 ρ hp p) (hs : p.1 < s0) : ∃ j, getR ρ p.1 = some (.id j) := by
  unfold FitO at h
  split at h
  · rename_i j hg; exact ⟨j, hg⟩
  · exact absurd hs (Nat.not_lt.2 h.1)
  · cases h

theorem fit_rep {st0 : St} {L : ML} {x : L.X} {ρ : Rho} {hp : T AObj} {m : Nat → Option Loc} {G : Nat → AObj → Prop} {w : World} (hR : Rep (Cx.of P) m G w) (hG : ∀ id o, hp.get id = some o → G id o)
    (h3 : (Cx.of P).ng ≤ st0.ct) (hk : keepOk st0.ct st0.hp L.ids = true) (hlaid : Laid (Cx.of P) st0 L.ids m G w) (hb1 : L.s0 ≤ L.n0) (hh : headOk st0.ct L.s0 L.n0 (L.ho x) (L.ho x) = true)
    (hf : FitOs (Cx.of P) st0.ct L.s0 ρ hp (L.ho x)) (hd : distB ρ (L.ho x) (L.ho x) = true) : Rep (Cx.of P) (placeM m st0.ct L.n0 ρ) (GX st0 L x) w := by
  have hfit := FitOs_mem _ hf
  have hhd := headOk_mem _ hh
  have hdist := distB_mem _ hd
  -- where an object of the head lies
  have at1 : ∀ id o, (id, o) ∈ L.ho x → ∃ r o' l, getR ρ id = some r ∧ G r.blk o' ∧ m r.blk = some l ∧ l.blk < w.heap.size ∧ (∃ l', placeM m st0.ct L.n0 ρ id = some l' ∧ l'.blk = l.blk) ∧ (o.isWr = true → o'.isWr = true ∧ ∃ j, r = .id j) := by
    intro id o ho
    obtain ⟨g1, g2, _⟩ := hhd _ ho
    obtain ⟨r, o', k1, k2, k3⟩ := fit_obj (hfit _ ho)
    obtain ⟨l, k4, k5⟩ := hR.dom _ _ (hG _ _ k2)
    refine ⟨r, o', l, k1, hG _ _ k2, k4, k5, ?_, k3⟩
    cases r with
    | id j => exact ⟨l, by rw [placeM_id g1 g2 k1]; exact k4, rfl⟩
    | sl j off cap => exact ⟨shiftL off cap l, by rw [placeM_sl g1 g2 k1]; simp only [RB.blk] at k4; rw [k4]; rfl, rfl⟩
  have low1 : ∀ id o, (keepIds st0.hp L.ids).get id = some o → id < st0.ct ∧ belowO st0.ct o = true := by
    intro id o ho
    obtain ⟨g1, g2⟩ := keepIds_get _ _ _ ho
    obtain ⟨g3, o', g4, g5⟩ := keepOk_mem _ hk id g1
    rw [g2] at g4; injection g4 with g4; subst g4
    exact ⟨g3, g5⟩
  exact {
    dom := fun id o hg => by
      rcases GX_mem hg with ho | ho
      · obtain ⟨r, o', l, _, _, _, k5, ⟨l', k6, k7⟩, _⟩ := at1 id o ho
        exact ⟨l', k6, by omega⟩
      · obtain ⟨_, l, k1, k2, _⟩ := hlaid id o ho
        exact ⟨l, by rw [placeM_low (low1 id o ho).1]; exact k1, k2⟩
    obj := fun μ0 hμ0 id o hg => by
      obtain ⟨μ, hμ, c1, c2, c3⟩ := place_lift hμ0
      rcases GX_mem hg with ho | ho
      · obtain ⟨g1, g2, g3⟩ := hhd _ ho
        obtain ⟨r, o', l, k1, k2, k3, _⟩ := at1 id o ho
        have hfo := hfit _ ho
        simp only [FitO, k1] at hfo
        cases r with
        | id j =>
          obtain ⟨w1, f1, f2⟩ := hfo
          refine row_unren (p := fun i => Nat.blt i st0.ct || (Nat.blt i L.s0 && hasKey (L.ho x) i)) (μ := μ) (ρ := sig st0.ct ρ) (j := j) (fun i hi => ?_) (c2 id j g1 g2 k1 ⟨l, k3⟩) g3 f2 (hR.obj μ hμ _ _ (hG _ _ f1))
          simp only [Bool.or_eq_true, Bool.and_eq_true] at hi
          rcases Nat.lt_or_ge i st0.ct with hlt | hge
          · rw [sig_low hlt]; exact c1 i hlt
          · rcases hi with hi | ⟨hi1, hi2⟩
            · exact absurd (blt_iff.1 hi) (Nat.not_lt.2 hge)
            · have hi1 := blt_iff.1 hi1
              obtain ⟨y, hy, rfl⟩ := hasKey_mem _ _ hi2
              obtain ⟨j', hj'⟩ := fit_stay (hfit _ hy) hi1
              obtain ⟨r', _, l', k1', _, k3', _⟩ := at1 y.1 y.2 hy
              rw [k1'] at hj'; injection hj' with hj'; subst hj'
              rw [sig_id hge k1']
              exact c2 _ _ hge (by omega) k1' ⟨l', k3'⟩
        | sl j off cap =>
          obtain ⟨_, e, cells, cs, o2, w1, n, f1, f2, f3, f4, f5, f6, f7, f8⟩ := hfo
          subst f1
          exact row_part (c3 id j off cap g1 g2 k1 ⟨l, k3⟩) f3 f4 f5 f6 f7 f8 (hR.obj μ hμ _ _ (hG _ _ f2))
      · obtain ⟨g1, g2⟩ := low1 id o ho
        obtain ⟨_, l, k1, k2, k3, _⟩ := hlaid id o ho
        exact (k3 μ hμ).below (fun i hi => c1 i hi) g1 g2
    inj := fun i j oi oj li lj hi hj hw hli hlj hb => by
      rcases GX_mem hi with ho | ho
      · obtain ⟨r, o', l, k1, k2, k3, k4, ⟨l', k5, k6⟩, k7⟩ := at1 i oi ho
        obtain ⟨hw', j1, rfl⟩ := k7 hw
        rw [hli] at k5; injection k5 with k5; subst k5
        rcases GX_mem hj with hq | hq
        · obtain ⟨r2, o2, l2, q1, q2, q3, q4, ⟨l2', q5, q6⟩, _⟩ := at1 j oj hq
          rw [hlj] at q5; injection q5 with q5; subst q5
          have := hR.inj _ _ _ _ _ _ k2 q2 hw' k3 q3 (by omega)
          exact (hdist _ ho hw _ hq (by simp only [blkR, k1, q1]; exact this.symm)).symm
        · obtain ⟨_, l2, q1, q2, q3, q4⟩ := hlaid j oj hq
          rw [placeM_low (low1 j oj hq).1, q1] at hlj; injection hlj with hlj; subst hlj
          exact absurd (k6.symm.trans hb) (q4 _ _ _ k2 hw' k3)
      · rw [(hlaid i oi ho).1] at hw; cases hw
    glob := fun g hg => by
      have : g < st0.ct := Nat.lt_of_lt_of_le hg h3
      rw [placeM_low this]; exact hR.glob g hg }

theorem fitV_rep {cx : Cx} {b s0 n0 : Nat} {ρ : Rho} {hp : T AObj} {all : Objs} {m : Nat → Option Loc} {v v' cv : Value} (hdom : ∀ id o, hp.get id = some o → ∃ l, m id = some l) (hh : ∀ p ∈ all, b ≤ p.1 ∧ p.1 < n0) (hf : ∀ p ∈ all, FitO cx b s0 ρ hp p)
    (hv : FitV b all ρ v v') (hc : VRep m v' cv) : VRep (placeM m b n0 ρ) v cv := by
  intro μ0 hμ0
  obtain ⟨μ, hμ, c1, c2, c3⟩ := place_lift hμ0
  have key : ∀ i, hasKey all i = true → b ≤ i ∧ i < n0 ∧ ∃ r l, getR ρ i = some r ∧ m r.blk = some l := by
    intro i hi
    obtain ⟨y, hy, rfl⟩ := hasKey_mem _ _ hi
    obtain ⟨r, o', k1, k2, _⟩ := fit_obj (hf y hy)
    obtain ⟨l, k3⟩ := hdom _ _ k2
    exact ⟨(hh y hy).1, (hh y hy).2, r, l, k1, k3⟩
  rcases hv with ⟨rfl, hin⟩ | ⟨i, j, off, cap, n, rfl, hb, hk, hg, rfl⟩
  · rw [← hc μ hμ, conc_ren]
    refine conc_in (fun i hi => ?_) v hin
    simp only [idOk, Bool.or_eq_true, Bool.and_eq_true] at hi
    rcases Nat.lt_or_ge i b with hlt | hge
    · rw [sig_low hlt]; exact c1 i hlt
    · rcases hi with hi | ⟨hi1, hi2⟩
      · exact absurd (blt_iff.1 hi) (Nat.not_lt.2 hge)
      · obtain ⟨_, k2, r, l, k3, k4⟩ := key i hi1
        simp only [isId, k3] at hi2
        cases r with
        | id j => rw [sig_id hge k3]; exact c2 i j hge k2 k3 ⟨l, k4⟩
        | sl j off cap => cases hi2
  · obtain ⟨_, k2, r, l, k3, k4⟩ := key i hk
    rw [hg] at k3; injection k3 with k3; subst k3
    have e := c3 i j off cap hb k2 hg ⟨l, k4⟩
    rw [← hc μ hμ, conc_slice, conc_slice, concEnd_none μ0 rfl, concEnd_none μ rfl]
    have e1 : concAddr μ0 ⟨i, 0, none⟩ = concAddr μ ⟨j, off, none⟩ := by simp [concAddr, e, shiftL]
    have e2 : concCap μ0 i openCap = concCap μ j cap := by
      have ho : isOpen openCap = true := by decide
      simp only [concCap, ho, if_true, e, shiftL, Nat.sub_self, Nat.sub_zero]
    rw [e1, e2]
theorem FitVs_at {b : Nat} {all : Objs} {ρ : Rho} : ∀ (l l' : List Value), FitVs b all ρ l l' → ∀ (i : Nat) (v : Value), l[i]? = some v → ∃ v', l'[i]? = some v' ∧ FitV b all ρ v v'
  | [], [], _, i, v, h => by simp at h
  | u :: l, u' :: l', hf, i, v, h => by
    cases i with
    | zero => simp at h; subst h; exact ⟨u', rfl, hf.1⟩
    | succ i => simpa using FitVs_at l l' hf.2 i v (by simpa using h)
  | [], _ :: _, hf, _, _, _ => by cases hf
  | _ :: _, [], hf, _, _, _ => by cases hf
end
end Go.Ai

/-! Contracts with memory: a round, all rounds. -/
namespace Go.Ai
open Go
section
variable {P : Program} {ov : Ov}

/-- the temporaries that a loop leaves alone -/
def Old (L : ML) (mo : Nat → Option Loc) (tmo : T Value) (a : Act) : Prop := ∀ t v, t ∉ dstsOf L.c → tmo.get t = some v → ∃ cv, a.tmps[t]? = some cv ∧ VRep mo v cv
def Keys (ks : List Tmp) (vs : List Value) (m : Nat → Option Loc) (a : Act) : Prop := ∀ (i : Nat) (t : Tmp) (v : Value), ks[i]? = some t → vs[i]? = some v → ∃ cv, a.tmps[t]? = some cv ∧ VRep m v cv

theorem putT_some : ∀ (l : List Tmp) (vs : List Value) (X : T Value) (t : Tmp), (∃ y, X.get t = some y) → ∃ u, (putT l vs X).get t = some u
  | [], _, X, t, h => h
  | x :: l, [], X, t, h => h
  | x :: l, v :: vs, X, t, h => by
    simp only [putT, T.get_set]
    split
    · exact ⟨v, rfl⟩
    · exact putT_some l vs X t h

theorem ML.round (hmix : P.follows .mixedOrders = true) (hov : OvOk P ov) (hovm : OvMono ov) (hovi : OvIds ov) {st0 : St} {L : ML} {x : L.X} {n : Nat} {ex : Ex} {tmO : T Value} {st' : St}
    (hrun : ∀ tm2, Sub (putT L.keys (L.hv x) .nil) tm2 → ∃ tm2', run (Cx.of P) ov n L.c L.nt tm2 ⟨over0 (keepIds st0.hp L.ids) (L.ho x), L.n0⟩ = some (ex, tm2', st') ∧ Sub tmO tm2')
    {ro : Option Nat} (hro : ro = none ∨ noRF L.c = true) {m1 mo : Nat → Option Loc} {tmo : T Value} {w : World} {a : Act} {B : Nat}
    (hR : Rep (Cx.of P) m1 (GX st0 L x) w) (h0 : ∀ i, L.n0 ≤ i → m1 i = none) (hk : Keys L.keys (L.hv x) m1 a) (ho : Old L mo tmo a) (hd : Marks B w a.defers) (hB : B ≤ w.heap.size) (hn : L.nt ≤ a.tmps.size) :
    L.c.wpIn (FR ro) 0 P (fun e a' w' => e = exitOf ex ∧ (∃ m2, SM (Cx.of P) m1 (GX st0 L x) w L.n0 m2 st'.G w' ∧ ∀ t v, tmO.get t = some v → ∃ cv, a'.tmps[t]? = some cv ∧ VRep m2 v cv) ∧ Marks B w' a'.defers ∧ a'.tmps.size = a.tmps.size ∧ Old L mo tmo a') a w := by
  generalize hK : st'.ct + L.n0 = K
  generalize hm1' : (fun i => if K ≤ i then mo (i - K) else m1 i) = m1'
  have hlow : ∀ i, i < K → m1' i = m1 i := fun i hi => by rw [← hm1']; simp [Nat.not_le.2 hi]
  have hhigh : ∀ i, m1' (K + i) = mo i := fun i => by rw [← hm1']; simp
  have hsome : ∀ i l, m1 i = some l → i < L.n0 := fun i l hi => by
    rcases Nat.lt_or_ge i L.n0 with h | h
    · exact h
    · rw [h0 i h] at hi; cases hi
  have hup : ∀ i l, m1 i = some l → m1' i = some l := fun i l hi => by
    have := hsome i l hi
    rw [hlow i (by omega)]; exact hi
  have hdn : ∀ id o l, GX st0 L x id o → m1' id = some l → m1 id = some l := fun id o l hg hl => by
    obtain ⟨l', h1, _⟩ := hR.dom id o hg
    rw [hup _ _ h1] at hl; rw [h1]; exact hl
  have hR1 : Rep (Cx.of P) m1' (GX st0 L x) w := {
    dom := fun id o hg => by
      obtain ⟨l, h1, h2⟩ := hR.dom id o hg
      exact ⟨l, hup _ _ h1, h2⟩
    obj := fun μ hμ id o hg => hR.obj μ (fun i l hi => hμ i l (hup _ _ hi)) id o hg
    inj := fun i j oi oj li lj hi hj hw hli hlj hb => hR.inj i j oi oj li lj hi hj hw (hdn _ _ _ hi hli) (hdn _ _ _ hj hlj) hb
    glob := fun g hg => hup _ _ (hR.glob g hg) }
  generalize htm1 : putT L.keys (L.hv x) ((forget (dstsOf L.c) tmo).mapO fun v => some (ren (fun i => K + i) v)) = tm1
  obtain ⟨tm2', hr, hsub⟩ := hrun tm1 (by rw [← htm1]; exact putT_sub _ _ (fun t v h => by cases h))
  have hfr : Fresh m1' L.n0 st'.ct := fun i hi h2 => by rw [hlow i (by omega)]; exact h0 i hi
  have ht1 : TmRep m1' tm1 a.tmps := by
    intro t v ht
    rw [← htm1] at ht
    rcases putT_get _ _ _ _ _ ht with ⟨i, g1, g2⟩ | ht
    · obtain ⟨cv, g3, g4⟩ := hk i t v g1 g2
      exact ⟨cv, g3, g4.mono hup⟩
    · rw [T.get_mapO, forget_get2] at ht
      split at ht
      · cases ht
      · rename_i htd
        cases hv : tmo.get t with
        | none => rw [hv] at ht; cases ht
        | some v0 =>
          rw [hv] at ht
          simp only [Option.bind_some, Option.some.injEq] at ht; subst ht
          obtain ⟨cv, g1, g2⟩ := ho t v0 htd hv
          refine ⟨cv, g1, fun μ hμ => ?_⟩
          rw [conc_ren]
          exact g2 _ (fun i l hi => hμ _ _ (by rw [hhigh]; exact hi))
  have hkeeps := run_keeps hovm n _ _ _ _ _ _ _ hr
  refine wpIn_mono ((run_ok hmix hov hovm hovi n).1 _ _ _ _ _ _ _ hr ro hro m1' w a B hR1 ht1 hd hB hn hfr) ?_
  rintro e a' w' ⟨rfl, m2, hs, ht2, hd2, hsz⟩
  refine ⟨rfl, ⟨m2, ⟨fun i l hi => hs.mono _ _ (hup _ _ hi), fun i l hi hl => ?_, hs.rep, ⟨hs.fr.size, hs.fr.os, hs.fr.tape, hs.fr.output, fun b hb hno => hs.fr.block b hb fun id o l hg hw hl => hno id o l hg hw (hdn _ _ _ hg hl)⟩, fun id o l hg hl => ?_⟩, fun t v ht => ht2 t v (hsub t v ht)⟩, hd2, hsz, fun t v htd hv => ?_⟩
  · rcases hs.dom i l hl with h | ⟨h, _⟩
    · rw [hlow i (by omega)] at h; exact h
    · have h' : L.n0 ≤ i := h
      omega
  · rcases hs.prov id o l hg hl with h | ⟨id0, o0, l0, g0, gw, gl, gb⟩
    · exact .inl h
    · exact .inr ⟨id0, o0, l0, g0, gw, hdn _ _ _ g0 gl, gb⟩
  · obtain ⟨cv, g1, g2⟩ := ho t v htd hv
    obtain ⟨u, hu⟩ := putT_some L.keys (L.hv x) ((forget (dstsOf L.c) tmo).mapO fun v => some (ren (fun i => K + i) v)) t ⟨_, by rw [T.get_mapO, forget_get2, if_neg htd, hv]; rfl⟩
    rw [htm1] at hu
    obtain ⟨c1, k1, k2⟩ := ht1 t u hu
    obtain ⟨c2, k3, k4⟩ := ht2 t u (by rw [hkeeps t htd]; exact hu)
    have e : c2 = c1 := by rw [← k4 _ (some0_ext m2), ← (k2.mono hs.mono) _ (some0_ext m2)]
    subst e
    rw [g1] at k1; injection k1 with k1; subst k1
    exact ⟨_, k3, g2⟩

/-- what lay there in the beginning lies there still -/
theorem laid_after {st0 : St} {L : ML} {x : L.X} {m1 m2 : Nat → Option Loc} {w w2 : World} {G' : Nat → AObj → Prop} (hb : ∀ p ∈ L.ho x, st0.ct ≤ p.1) (hk : keepOk st0.ct st0.hp L.ids = true) (hro : ∀ id o, (keepIds st0.hp L.ids).get id = some o → o.isWr = false)
    (hR : Rep (Cx.of P) m1 (GX st0 L x) w) (hs : SM (Cx.of P) m1 (GX st0 L x) w L.n0 m2 G' w2) : Laid (Cx.of P) st0 L.ids m2 G' w2 := by
  intro id o ho
  have hlt : id < st0.ct := by
    obtain ⟨g1, _⟩ := keepIds_get _ _ _ ho
    exact (keepOk_mem _ hk id g1).1
  have hg : GX st0 L x id o := by
    have : ∀ (l : Objs), (∀ p ∈ l, st0.ct ≤ p.1) → (over0 (keepIds st0.hp L.ids) l).get id = some o := by
      intro l
      induction l with
      | nil => intro _; exact ho
      | cons y l ih =>
        intro h
        simp only [over0, T.get_set]
        rw [if_neg (by have := h y (by simp); omega)]
        exact ih fun p hp => h p (by simp [hp])
    exact this _ hb
  obtain ⟨l, k1, k2⟩ := hR.dom id o hg
  have hw0 := hro id o ho
  -- nothing that may be written lies there
  have hno : ∀ j oj lj, GX st0 L x j oj → oj.isWr = true → m1 j = some lj → lj.blk ≠ l.blk := by
    intro j oj lj hj hw hl e
    have := hR.inj j id oj o lj l hj hg hw hl k1 e
    subst this
    have : oj = o := by
      have h1 : (over0 (keepIds st0.hp L.ids) (L.ho x)).get j = some oj := hj
      have h2 : (over0 (keepIds st0.hp L.ids) (L.ho x)).get j = some o := hg
      rw [h1] at h2; injection h2
    subst this
    rw [hw0] at hw; cases hw
  refine ⟨hw0, l, hs.mono _ _ k1, Nat.lt_of_lt_of_le k2 hs.fr.size, fun μ hμ => ?_, fun j oj lj hj hw hl e => ?_⟩
  · have hm : Ext m1 μ := fun i l hi => hμ i l (hs.mono _ _ hi)
    refine (hR.obj μ hm id o hg).congr ?_
    rw [hm id l k1]
    exact hs.fr.block _ k2 fun j oj lj hj hw hl => hno j oj lj hj hw hl
  · rcases hs.prov j oj lj hj hl with h | ⟨id0, o0, l0, g0, gw, gl, gb⟩
    · omega
    · exact hno _ _ _ g0 (gw hw) gl (gb.trans e)

/-- how a loop ends -/
def PostX (P : Program) (st0 : St) (L : ML) (x : L.X) (m1 mo : Nat → Option Loc) (tmo : T Value) (w : World) (size B : Nat) (e : Exit) (a' : Act) (w' : World) : Prop :=
  e = exitOf (L.ex x) ∧ (∃ m2, SM (Cx.of P) m1 (GX st0 L x) w L.n0 m2 (GR L x) w' ∧ (∀ i l, m2 i = some l → i < L.n1) ∧ Keys L.outs (L.rv x) m2 a') ∧ Marks B w' a'.defers ∧ a'.tmps.size = size ∧ Old L mo tmo a'

theorem okId_lt {b : Nat} {l : Objs} {i : Nat} (h : okId b l i = true) : i < b ∨ ∃ o, (i, o) ∈ l := by
  simp only [okId, Bool.or_eq_true] at h
  rcases h with h | h
  · exact .inl (blt_iff.1 h)
  · obtain ⟨y, hy, rfl⟩ := hasKey_mem _ _ h
    exact .inr ⟨y.2, hy⟩
theorem tauB_low {s0 : Nat} {τ : Bind} {i : Nat} (h : i < s0) : tauB s0 τ i = i := by simp [tauB, blt_true h]

/-- the last round -/
theorem ML.last {st0 : St} {L : ML} (hL : L.Good P ov st0) (h3 : (Cx.of P).ng ≤ st0.ct) {x : L.X} (hp : L.pre x) {τ : Bind} {tmO : T Value} {st' : St} {m1 m2 : Nat → Option Loc} {w w' : World} {a' : Act}
    (hR : Rep (Cx.of P) m1 (GX st0 L x) w) (h0 : ∀ i, L.n0 ≤ i → m1 i = none)
    (hrd : readT tmO L.outs = some (renL (tauB L.s0 τ) (L.rv x))) (hf : FitR (tauB L.s0 τ) st'.hp (L.ro x)) (hd : distR (tauB L.s0 τ) (L.ro x) (L.ro x) = true)
    (hs : SM (Cx.of P) m1 (GX st0 L x) w L.n0 m2 st'.G w') (ht : ∀ t v, tmO.get t = some v → ∃ cv, a'.tmps[t]? = some cv ∧ VRep m2 v cv) :
    ∃ m5, SM (Cx.of P) m1 (GX st0 L x) w L.n0 m5 (GR L x) w' ∧ (∀ i l, m5 i = some l → i < L.n1) ∧ Keys L.outs (L.rv x) m5 a' := by
  obtain ⟨htail, hrv⟩ := hL.tail x hp
  have htl := tailOk_mem _ htail
  have hfit := FitR_mem _ hf
  have hdist := distR_mem _ hd
  have hb0 := hL.b0
  have hb1 := hL.b1
  generalize hm5 : (fun i => if i < L.n0 then m1 i else if i < L.n1 then m2 (tauB L.s0 τ i) else none) = m5
  have low5 : ∀ i, i < L.n0 → m5 i = m1 i := fun i hi => by rw [← hm5]; simp [hi]
  have mid5 : ∀ i, L.n0 ≤ i → i < L.n1 → m5 i = m2 (tauB L.s0 τ i) := fun i hi h1 => by rw [← hm5]; simp [Nat.not_lt.2 hi, h1]
  have hsome : ∀ i l, m1 i = some l → i < L.n0 := fun i l hi => by
    rcases Nat.lt_or_ge i L.n0 with h | h
    · exact h
    · rw [h0 i h] at hi; cases hi
  -- a result's place
  have at5 : ∀ id o, (id, o) ∈ L.ro x → ∃ l, m5 id = some l ∧ m2 (tauB L.s0 τ id) = some l ∧ l.blk < w'.heap.size ∧ st'.G (tauB L.s0 τ id) (renO (tauB L.s0 τ) o) := by
    intro id o ho
    obtain ⟨_, g2, _, _⟩ := htl _ ho
    have hg : st'.G (tauB L.s0 τ id) (renO (tauB L.s0 τ) o) := hfit _ ho
    obtain ⟨l, k1, k2⟩ := hs.rep.dom _ _ hg
    refine ⟨l, ?_, k1, k2, hg⟩
    rcases g2 with h | ⟨h1, h2⟩
    · simp only at h
      rw [tauB_low h] at k1
      rw [low5 _ (by omega)]
      exact hs.low _ _ (by omega) k1
    · rw [mid5 _ h1 h2]; exact k1
  have lift5 : ∀ μ, Ext m5 μ → ∃ μ', Ext m2 μ' ∧ ∀ i, okId L.s0 (L.ro x) i = true → μ i = μ' (tauB L.s0 τ i) := by
    intro μ hμ
    refine ⟨fun j => (m2 j).getD (μ j), fun i l hi => by simp [hi], fun i hi => ?_⟩
    show μ i = (m2 (tauB L.s0 τ i)).getD (μ (tauB L.s0 τ i))
    rcases okId_lt hi with h | ⟨o, ho⟩
    · rw [tauB_low h]
      cases hm : m2 i with
      | none => rfl
      | some l => exact hμ i l (by rw [low5 i (by omega)]; exact hs.low i l (by omega) hm)
    · obtain ⟨l, k1, k2, _⟩ := at5 i o ho
      rw [k2]; exact hμ i l k1
  refine ⟨m5, ⟨fun i l hi => by rw [low5 i (hsome i l hi)]; exact hi, fun i l hi hl => by rw [low5 i hi] at hl; exact hl, ?_, hs.fr, fun id o l hg hl => ?_⟩, fun i l hi => ?_, fun i t v g1 g2 => ?_⟩
  · exact {
      dom := fun id o hg => by
        obtain ⟨l, k1, _, k3, _⟩ := at5 id o hg
        exact ⟨l, k1, k3⟩
      obj := fun μ hμ id o hg => by
        obtain ⟨μ', hμ', hag⟩ := lift5 μ hμ
        obtain ⟨_, _, g3, g4⟩ := htl _ hg
        obtain ⟨l, k1, k2, _, k4⟩ := at5 id o hg
        have hkk : μ id = μ' (tauB L.s0 τ id) := by rw [hμ id l k1, hμ' _ l k2]
        refine row_unren (w1 := true) hag hkk g4 (fun _ => rfl) ?_
        have hre : reWr true (renO (tauB L.s0 τ) o) = renO (tauB L.s0 τ) o := by
          obtain ⟨e, cs, op, wr, rfl⟩ := rowIn_row g4
          simp only [AObj.isWr] at g3
          simp [renO, reWr, g3]
        rw [hre]
        exact hs.rep.obj μ' hμ' _ _ k4
      inj := fun i j oi oj li lj hi hj hw hli hlj hb => by
        obtain ⟨l, k1, k2, _, k4⟩ := at5 i oi hi
        obtain ⟨l', q1, q2, _, q4⟩ := at5 j oj hj
        rw [k1] at hli; injection hli with hli; subst hli
        rw [q1] at hlj; injection hlj with hlj; subst hlj
        have hw' : (renO (tauB L.s0 τ) oi).isWr = true := by
          obtain ⟨e, cs, op, wr, rfl⟩ := rowIn_row (htl _ hi).2.2.2
          exact hw
        have := hs.rep.inj _ _ _ _ _ _ k4 q4 hw' k2 q2 hb
        exact hdist _ hj _ hi this
      glob := fun g hg => by
        have : g < st0.ct := Nat.lt_of_lt_of_le hg h3
        rw [low5 g (by omega)]; exact hR.glob g hg }
  · obtain ⟨l', k1, k2, _, k4⟩ := at5 id o hg
    rw [k1] at hl; injection hl with hl; subst hl
    rcases hs.prov _ _ _ k4 k2 with h | ⟨id0, o0, l0, g0, gw, gl, gb⟩
    · exact .inl h
    · refine .inr ⟨id0, o0, l0, g0, fun hw => gw ?_, gl, gb⟩
      obtain ⟨e, cs, op, wr, rfl⟩ := rowIn_row (htl _ hg).2.2.2
      exact hw
  · rcases Nat.lt_or_ge i L.n0 with h | h
    · have := hL.b2; omega
    · rcases Nat.lt_or_ge i L.n1 with h' | h'
      · exact h'
      · rw [← hm5] at hi
        simp only at hi
        rw [if_neg (by omega), if_neg (by omega)] at hi; cases hi
  · have g2' : (renL (tauB L.s0 τ) (L.rv x))[i]? = some (ren (tauB L.s0 τ) v) := by rw [renL_map, List.getElem?_map, g2]; rfl
    obtain ⟨cv, k1, k2⟩ := ht t _ (readT_get _ _ _ hrd i t _ g1 g2')
    refine ⟨cv, k1, fun μ hμ => ?_⟩
    obtain ⟨μ', hμ', hag⟩ := lift5 μ hμ
    rw [← k2 μ' hμ', conc_ren]
    exact conc_in hag v (inIdsL_mem _ hrv v (List.mem_of_getElem? g2))
end
end Go.Ai

/-! Contracts with memory: one round and the others. -/
namespace Go.Ai
open Go
section
variable {P : Program} {ov : Ov}

theorem ML.next {st0 : St} {L : ML} (hL : L.Good P ov st0) (h3 : (Cx.of P).ng ≤ st0.ct) (hro : ∀ id o, (keepIds st0.hp L.ids).get id = some o → o.isWr = false) {x x' : L.X} (hp : L.pre x) (hp' : L.pre x') (hrr : L.ro x' = L.ro x) {ρ : Rho} {st' : St} {m1 m2 m4 : Nat → Option Loc} {w w2 w3 : World} {a' : Act}
    (hR : Rep (Cx.of P) m1 (GX st0 L x) w) (h0 : ∀ i, L.n0 ≤ i → m1 i = none) (hf : FitOs (Cx.of P) st0.ct L.s0 ρ st'.hp (L.ho x')) (hst : stays st0.ct L.s0 ρ)
    (hs : SM (Cx.of P) m1 (GX st0 L x) w L.n0 m2 st'.G w2) (hs' : SM (Cx.of P) (placeM m2 st0.ct L.n0 ρ) (GX st0 L x') w2 L.n0 m4 (GR L x') w3) (hb4 : ∀ i l, m4 i = some l → i < L.n1) (hk : Keys L.outs (L.rv x) m4 a') :
    ∃ m5, SM (Cx.of P) m1 (GX st0 L x) w L.n0 m5 (GR L x) w3 ∧ (∀ i l, m5 i = some l → i < L.n1) ∧ Keys L.outs (L.rv x) m5 a' := by
  obtain ⟨htail, hrv⟩ := hL.tail x hp
  have htl := tailOk_mem _ htail
  have hhd' := headOk_mem _ (hL.head x' hp').1
  have hfit := FitOs_mem _ hf
  have hb0 := hL.b0
  have hb1 := hL.b1
  have hb2 := hL.b2
  generalize hm5 : (fun i => if i < L.n0 then m1 i else m4 i) = m5
  have low5 : ∀ i, i < L.n0 → m5 i = m1 i := fun i hi => by rw [← hm5]; simp [hi]
  have high5 : ∀ i, L.n0 ≤ i → m5 i = m4 i := fun i hi => by rw [← hm5]; simp [Nat.not_lt.2 hi]
  have hsome : ∀ i l, m1 i = some l → i < L.n0 := fun i l hi => by
    rcases Nat.lt_or_ge i L.n0 with h | h
    · exact h
    · rw [h0 i h] at hi; cases hi
  -- the ids that stay are the same
  have stay5 : ∀ i l, i < L.s0 → m4 i = some l → m1 i = some l := fun i l hi hl => by
    have h1 := hs'.low i l (by omega) hl
    rcases Nat.lt_or_ge i st0.ct with h | h
    · rw [placeM_low h] at h1; exact hs.low i l (by omega) h1
    · rw [placeM_id h (by omega) (hst i h hi)] at h1; exact hs.low i l (by omega) h1
  have at5 : ∀ id o, (id, o) ∈ L.ro x → ∃ l, m5 id = some l ∧ m4 id = some l ∧ l.blk < w3.heap.size := by
    intro id o ho
    obtain ⟨_, g2, _, _⟩ := htl _ ho
    obtain ⟨l, k1, k2⟩ := hs'.rep.dom id o (by show (id, o) ∈ L.ro x'; rw [hrr]; exact ho)
    refine ⟨l, ?_, k1, k2⟩
    rcases g2 with h | ⟨h1, _⟩
    · simp only at h
      rw [low5 _ (by omega)]; exact stay5 _ _ h k1
    · rw [high5 _ h1]; exact k1
  have lift5 : ∀ μ, Ext m5 μ → ∃ μ', Ext m4 μ' ∧ ∀ i, okId L.s0 (L.ro x) i = true → μ i = μ' i := by
    intro μ hμ
    refine ⟨fun j => (m4 j).getD (μ j), fun i l hi => by simp [hi], fun i hi => ?_⟩
    show μ i = (m4 i).getD (μ i)
    rcases okId_lt hi with h | ⟨o, ho⟩
    · cases hm : m4 i with
      | none => rfl
      | some l => exact hμ i l (by rw [low5 i (by omega)]; exact stay5 i l h hm)
    · obtain ⟨l, k1, k2, _⟩ := at5 i o ho
      rw [k2]; exact hμ i l k1
  -- what an object of the next head was in this round
  have back : ∀ id o l, GX st0 L x' id o → placeM m2 st0.ct L.n0 ρ id = some l → (∃ id0 o0 l0, GX st0 L x id0 o0 ∧ o.isWr = false ∧ m1 id0 = some l0 ∧ l0.blk = l.blk) ∨ ∃ j oj lj, st'.G j oj ∧ (o.isWr = true → oj.isWr = true) ∧ m2 j = some lj ∧ lj.blk = l.blk := by
    intro id o l hg hl
    rcases GX_mem hg with ho | ho
    · obtain ⟨g1, g2, _⟩ := hhd' _ ho
      obtain ⟨r, o', k1, k2, k3⟩ := fit_obj (hfit _ ho)
      refine .inr ⟨r.blk, o', ?_⟩
      cases r with
      | id j =>
        rw [placeM_id g1 g2 k1] at hl
        exact ⟨l, k2, fun hw => (k3 hw).1, hl, rfl⟩
      | sl j off cap =>
        rw [placeM_sl g1 g2 k1, Option.map_eq_some_iff] at hl
        obtain ⟨lj, q1, rfl⟩ := hl
        exact ⟨lj, k2, fun hw => (k3 hw).1, q1, rfl⟩
    · have hlt : id < st0.ct := by
        obtain ⟨g1, _⟩ := keepIds_get _ _ _ ho
        exact (keepOk_mem _ hL.keep id g1).1
      rw [placeM_low hlt] at hl
      refine .inl ⟨id, o, l, ?_, hro id o ho, hs.low _ _ (by omega) hl, rfl⟩
      have : ∀ (l : Objs), (∀ p ∈ l, st0.ct ≤ p.1) → (over0 (keepIds st0.hp L.ids) l).get id = some o := by
        intro l
        induction l with
        | nil => intro _; exact ho
        | cons y l ih =>
          intro h
          simp only [over0, T.get_set]
          rw [if_neg (by have := h y (by simp); omega)]
          exact ih fun p hp => h p (by simp [hp])
      exact this _ fun p hq => (headOk_mem _ (hL.head x hp).1 p hq).1
  refine ⟨m5, ⟨fun i l hi => by rw [low5 i (hsome i l hi)]; exact hi, fun i l hi hl => by rw [low5 i hi] at hl; exact hl, ?_, ⟨Nat.le_trans hs.fr.size hs'.fr.size, hs'.fr.os.trans hs.fr.os, hs'.fr.tape.trans hs.fr.tape, hs'.fr.output.trans hs.fr.output, fun b hb hno => ?_⟩, fun id o l hg hl => ?_⟩, fun i l hi => ?_, fun i t v g1 g2 => ?_⟩
  · exact {
      dom := fun id o hg => by
        obtain ⟨l, k1, _, k3⟩ := at5 id o hg
        exact ⟨l, k1, k3⟩
      obj := fun μ hμ id o hg => by
        obtain ⟨μ', hμ', hag⟩ := lift5 μ hμ
        obtain ⟨_, _, _, g4⟩ := htl _ hg
        obtain ⟨l, k1, k2, _⟩ := at5 id o hg
        exact row_agree hag (by rw [hμ id l k1, hμ' _ l k2]) g4 (hs'.rep.obj μ' hμ' id o (by show (id, o) ∈ L.ro x'; rw [hrr]; exact hg))
      inj := fun i j oi oj li lj hi hj hw hli hlj hb => by
        obtain ⟨l, k1, k2, _⟩ := at5 i oi hi
        obtain ⟨l', q1, q2, _⟩ := at5 j oj hj
        rw [k1] at hli; injection hli with hli; subst hli
        rw [q1] at hlj; injection hlj with hlj; subst hlj
        exact hs'.rep.inj i j oi oj _ _ (by show (i, oi) ∈ L.ro x'; rw [hrr]; exact hi) (by show (j, oj) ∈ L.ro x'; rw [hrr]; exact hj) hw k2 q2 hb
      glob := fun g hg => by
        have : g < st0.ct := Nat.lt_of_lt_of_le hg h3
        rw [low5 g (by omega)]; exact hR.glob g hg }
  · rw [hs'.fr.block b (Nat.lt_of_lt_of_le hb hs.fr.size) ?_, hs.fr.block b hb hno]
    intro id o l hg hw hl e
    rcases back id o l hg hl with ⟨_, _, _, _, h, _⟩ | ⟨j, oj, lj, g1, g2, g3, g4⟩
    · rw [h] at hw; cases hw
    · rcases hs.prov j oj lj g1 g3 with h | ⟨id0, o0, l0, q0, qw, ql, qb⟩
      · omega
      · exact hno id0 o0 l0 q0 (qw (g2 hw)) ql (qb.trans (g4.trans e))
  · obtain ⟨l', k1, k2, _⟩ := at5 id o hg
    rw [k1] at hl; injection hl with hl; subst hl
    rcases hs'.prov id o _ (by show (id, o) ∈ L.ro x'; rw [hrr]; exact hg) k2 with h | ⟨id0, o0, l0, g0, gw, gl, gb⟩
    · exact .inl (Nat.le_trans hs.fr.size h)
    · rcases back id0 o0 l0 g0 gl with ⟨i1, o1, l1, h1, h2, h4, h5⟩ | ⟨j, oj, lj, g1, g2, g3, g4⟩
      · refine .inr ⟨i1, o1, l1, h1, fun hw => ?_, h4, h5.trans gb⟩
        have := gw hw
        rw [h2] at this; cases this
      · rcases hs.prov j oj lj g1 g3 with h | ⟨i1, o1, l1, q0, qw, ql, qb⟩
        · left; rw [← gb, ← g4]; exact h
        · exact .inr ⟨i1, o1, l1, q0, fun hw => qw (g2 (gw hw)), ql, qb.trans (g4.trans gb)⟩
  · rcases Nat.lt_or_ge i L.n0 with h | h
    · omega
    · rw [high5 i h] at hi; exact hb4 i l hi
  · obtain ⟨cv, k1, k2⟩ := hk i t v g1 g2
    refine ⟨cv, k1, fun μ hμ => ?_⟩
    obtain ⟨μ', hμ', hag⟩ := lift5 μ hμ
    rw [← k2 μ' hμ']
    exact conc_in hag v (inIdsL_mem _ hrv v (List.mem_of_getElem? g2))

theorem exitOf_normal {ex : Ex} (h : ex ≠ .normal) (Q : Exit → Act → World → Prop) {e : Exit} {a : Act} {w : World} {R : Prop} (he : e = exitOf ex) (hq : Q e a w) : (match e with | .normal => R | e => Q e a w) := by
  subst he
  cases ex with
  | normal => exact absurd rfl h
  | exit id => exact hq
  | ret => exact hq
  | goto l => exact hq

theorem ML.rounds (hmix : P.follows .mixedOrders = true) (hov : OvOk P ov) (hovm : OvMono ov) (hovi : OvIds ov) {st0 : St} (h3 : (Cx.of P).ng ≤ st0.ct) {L : ML} (hL : L.Good P ov st0) (hwr : ∀ id o, (keepIds st0.hp L.ids).get id = some o → o.isWr = false) :
    ∀ x, L.pre x → ∃ k, ∀ ro, (ro = none ∨ noRF L.c = true) → ∀ m1 mo tmo w a B, Rep (Cx.of P) m1 (GX st0 L x) w → (∀ i, L.n0 ≤ i → m1 i = none) → Keys L.keys (L.hv x) m1 a → Old L mo tmo a → Marks B w a.defers → B ≤ w.heap.size → L.nt ≤ a.tmps.size →
      Code.roundsIn (FR ro) 0 P L.c (PostX P st0 L x m1 mo tmo w a.tmps.size B) k a w := by
  obtain ⟨meas, hok⟩ := hL.ok
  suffices H : ∀ j x, meas x < j → L.pre x → ∃ k, ∀ ro, (ro = none ∨ noRF L.c = true) → ∀ m1 mo tmo w a B, Rep (Cx.of P) m1 (GX st0 L x) w → (∀ i, L.n0 ≤ i → m1 i = none) → Keys L.keys (L.hv x) m1 a → Old L mo tmo a → Marks B w a.defers → B ≤ w.heap.size → L.nt ≤ a.tmps.size →
      Code.roundsIn (FR ro) 0 P L.c (PostX P st0 L x m1 mo tmo w a.tmps.size B) k a w from
    fun x hp => H _ x (Nat.lt_succ_self _) hp
  intro j
  induction j with
  | zero => intro x h; omega
  | succ j ih =>
    intro x hj hp
    obtain ⟨n, ex, tmO, st', hrun, hcase⟩ := hok x hp
    rcases hcase with ⟨rfl, x', ρ, vs', hrd, hp', hlt, ⟨e1, e2, e3⟩, hfit, hst⟩ | ⟨hne, hex, τ, hrd, hf, hd⟩
    · obtain ⟨k, hk⟩ := ih x' (by omega) hp'
      refine ⟨k + 1, fun ro hro m1 mo tmo w a B hR h0 hks hold hd hB hn => ?_⟩
      rw [roundsIn_succ]
      refine wpIn_mono (ML.round hmix hov hovm hovi hrun hro hR h0 hks hold hd hB hn) ?_
      rintro e a' w' ⟨rfl, ⟨m2, hs, ht⟩, hd', hsz, hold'⟩
      have hb := fun p hq => (headOk_mem _ (hL.head x hp).1 p hq).1
      have hlaid := laid_after hb hL.keep hwr hR hs
      have hR' := fit_rep (m := m2) hs.rep (fun id o h => h) h3 hL.keep hlaid hL.b1 (hL.head x' hp').1 hfit.objs hfit.dist
      have hks' : Keys L.keys (L.hv x') (placeM m2 st0.ct L.n0 ρ) a' := by
        intro i t v g1 g2
        obtain ⟨v', g3, g4⟩ := FitVs_at _ _ hfit.vals i v g2
        obtain ⟨cv, k1, k2⟩ := ht t v' (readT_get _ _ _ hrd i t v' g1 g3)
        exact ⟨cv, k1, fitV_rep (fun id o h => let ⟨l, q, _⟩ := hs.rep.dom id o h; ⟨l, q⟩) (fun p hq => let h := headOk_mem _ (hL.head x' hp').1 p hq; ⟨h.1, h.2.1⟩) (FitOs_mem _ hfit.objs) g4 k2⟩
      refine rounds_mono ?_ _ _ _ (hk ro hro (placeM m2 st0.ct L.n0 ρ) mo tmo w' a' B hR' (fun i hi => placeM_high (by have := hL.b0; have := hL.b1; omega) hi) hks' hold' hd' (by have := hs.fr.size; omega) (by omega))
      rintro e a2 w2 ⟨q1, ⟨m4, q2, q3, q4⟩, q5, q6, q7⟩
      rw [e2] at q4
      exact ⟨by rw [q1, e1], ML.next hL h3 hwr hp hp' e3 hR h0 hfit.objs hst hs q2 q3 q4, q5, by omega, q7⟩
    · refine ⟨1, fun ro hro m1 mo tmo w a B hR h0 hks hold hd' hB hn => ?_⟩
      rw [roundsIn_succ]
      refine wpIn_mono (ML.round hmix hov hovm hovi hrun hro hR h0 hks hold hd' hB hn) ?_
      rintro e a' w' ⟨he, ⟨m2, hs, ht⟩, hd2, hsz, hold'⟩
      have fin : PostX P st0 L x m1 mo tmo w a.tmps.size B e a' w' := ⟨by rw [he, hex], ML.last hL h3 hp hR h0 hrd hf hd hs ht, hd2, hsz, hold'⟩
      subst he
      cases ex with
      | normal => exact absurd rfl hne
      | exit id => exact fin
      | ret => exact fin
      | goto l => exact fin
end
end Go.Ai

/-! Contracts with memory, at the caller's. -/
namespace Go.Ai
open Go
section
variable {P : Program} {ov : Ov}

theorem delAll_get {ρ : Rho} {hp : T AObj} : ∀ (l : Objs) (id : Nat) (o : AObj), (delAll ρ l hp).get id = some o → hp.get id = some o ∧ ∀ p ∈ l, p.2.isWr = true → id ≠ blkR ρ p.1
  | [], id, o, h => ⟨h, fun p hp => by cases hp⟩
  | x :: l, id, o, h => by
    simp only [delAll] at h
    split at h
    · rw [T.get_del] at h
      split at h
      · cases h
      · rename_i hne
        obtain ⟨h1, h2⟩ := delAll_get l id o h
        refine ⟨h1, fun p hp hw => ?_⟩
        rcases List.mem_cons.1 hp with rfl | hp
        · exact hne
        · exact h2 p hp hw
    · rename_i hf
      obtain ⟨h1, h2⟩ := delAll_get l id o h
      refine ⟨h1, fun p hp hw => ?_⟩
      rcases List.mem_cons.1 hp with rfl | hp
      · rw [hf] at hw; cases hw
      · exact h2 p hp hw
theorem sgo_low {b s0 n0 ct : Nat} {ρ : Rho} {i : Nat} (h : i < b) : sgo b s0 n0 ct ρ i = i := by simp [sgo, blt_true h]
theorem sgo_mid {b s0 n0 ct : Nat} {ρ : Rho} {i j : Nat} (h : b ≤ i) (h' : i < s0) (hg : getR ρ i = some (.id j)) : sgo b s0 n0 ct ρ i = j := by simp [sgo, blt_false h, blt_true h', blkR, hg, RB.blk]
theorem sgo_high {b s0 n0 ct : Nat} {ρ : Rho} {i : Nat} (h : b ≤ i) (h' : s0 ≤ i) : sgo b s0 n0 ct ρ i = i - n0 + ct := by simp [sgo, blt_false h, blt_false h']

theorem hasIds_ro {hp0 hp : T AObj} {ids : List Nat} (h : hasIds hp0 hp ids = true) : ∀ id o, (keepIds hp0 ids).get id = some o → o.isWr = false := fun id o ho => by
  obtain ⟨g1, g2⟩ := keepIds_get _ _ _ ho
  exact (hasIds_mem _ h id g1 o g2).2

theorem ML.go_some {cx : Cx} {st0 st st' : St} {L : ML} {nt : Nat} {tm tm' : T Value} {ex : Ex} (h : L.go cx st0 nt tm st = some (ex, tm', st')) :
    nt = L.nt ∧ hasIds st0.hp st.hp L.ids = true ∧ ∃ vs x ρ, readT tm L.keys = some vs ∧ L.pre x ∧ Fit cx st0.ct L x ρ vs st.hp ∧ (ex, tm', st') = L.out st0.ct tm st x ρ := by
  unfold ML.go at h
  split at h <;> (try (cases h; done))
  rename_i hi
  simp only [Bool.and_eq_true] at hi
  split at h <;> (try (cases h; done))
  rename_i vs hv
  split at h <;> (try (cases h; done))
  rename_i c k hg
  split at h <;> (try (cases h; done))
  rename_i hp
  simp only [Option.some.injEq] at h
  exact ⟨Nat.eq_of_beq_eq_true hi.1, hi.2, vs, _, _, hv, hp.1, hp.2, h.symm⟩

theorem ML.sound (hmix : P.follows .mixedOrders = true) (hov : OvOk P ov) (hovm : OvMono ov) (hovi : OvIds ov) {st0 : St} (h3 : (Cx.of P).ng ≤ st0.ct) {L : ML} (hL : L.Good P ov st0) {st : St} {tm : T Value} {vs : List Value} {x : L.X} {ρ : Rho}
    (hids : hasIds st0.hp st.hp L.ids = true) (hv : readT tm L.keys = some vs) (hp : L.pre x) (hfit : Fit (Cx.of P) st0.ct L x ρ vs st.hp) :
    ∃ k, ∀ ro, (ro = none ∨ noRF L.c = true) → ∀ m w a B, Rep (Cx.of P) m st.G w → TmRep m tm a.tmps → Marks B w a.defers → B ≤ w.heap.size → L.nt ≤ a.tmps.size → Fresh m st.ct (L.n1 - L.n0 + st.ct) →
      Code.roundsIn (FR ro) 0 P L.c (Post (Cx.of P) m st w a.tmps.size B (L.out st0.ct tm st x ρ).1 (L.out st0.ct tm st x ρ).2.1 (L.out st0.ct tm st x ρ).2.2) k a w := by
  obtain ⟨k, hk⟩ := ML.rounds hmix hov hovm hovi h3 hL (hasIds_ro hids) x hp
  refine ⟨k, fun ro hro m w a B hR ht hd hB hn hfr => ?_⟩
  have hb0 := hL.b0
  have hb1 := hL.b1
  have hb2 := hL.b2
  have hhd := headOk_mem _ (hL.head x hp).1
  have hkey := (hL.head x hp).2
  have hfo := FitOs_mem _ hfit.objs
  have hlow1 : ∀ id o, (keepIds st0.hp L.ids).get id = some o → id < st0.ct ∧ st.G id o ∧ o.isWr = false := by
    intro id o ho
    obtain ⟨g1, g2⟩ := keepIds_get _ _ _ ho
    obtain ⟨g3, _⟩ := keepOk_mem _ hL.keep id g1
    obtain ⟨g6, g7⟩ := hasIds_mem _ hids id g1 o g2
    exact ⟨g3, g6, g7⟩
  have hlaid : Laid (Cx.of P) st0 L.ids m st.G w := by
    intro id o ho
    obtain ⟨g1, g2, g3⟩ := hlow1 id o ho
    obtain ⟨l, k1, k2⟩ := hR.dom id o g2
    refine ⟨g3, l, k1, k2, fun μ hμ => hR.obj μ hμ id o g2, fun j oj lj hj hw hl e => ?_⟩
    have := hR.inj j id oj o lj l hj g2 hw hl k1 e
    subst this
    have : oj = o := by
      have h1 : st.hp.get j = some oj := hj
      have h2 : st.hp.get j = some o := g2
      rw [h1] at h2; injection h2
    subst this
    rw [g3] at hw; cases hw
  generalize hm1 : placeM m st0.ct L.n0 ρ = m1
  have hR1 : Rep (Cx.of P) m1 (GX st0 L x) w := by
    rw [← hm1]; exact fit_rep hR (fun id o h => h) h3 hL.keep hlaid hL.b1 (hL.head x hp).1 hfit.objs hfit.dist
  have hks : Keys L.keys (L.hv x) m1 a := by
    intro i t v g1 g2
    obtain ⟨v', g3, g4⟩ := FitVs_at _ _ hfit.vals i v g2
    obtain ⟨cv, k1, k2⟩ := ht t v' (readT_get _ _ _ hv i t v' g1 g3)
    exact ⟨cv, k1, by rw [← hm1]; exact fitV_rep (fun id o h => let ⟨l, q, _⟩ := hR.dom id o h; ⟨l, q⟩) (fun p hq => let h := hhd p hq; ⟨h.1, h.2.1⟩) hfo g4 k2⟩
  refine rounds_mono ?_ _ _ _ (hk ro hro m1 m tm w a B hR1 (fun i hi => by rw [← hm1]; exact placeM_high (by omega) hi) hks (fun t v _ h => ht t v h) hd hB hn)
  rintro e a' w' ⟨rfl, ⟨m2, hs, hb1', hko⟩, hd', hsz, hold⟩
  obtain ⟨htail, hrv⟩ := hL.tail x hp
  have htl := tailOk_mem _ htail
  -- the objects of the head at the caller's
  have at1 : ∀ id o, (id, o) ∈ L.ho x → ∃ r o' l, getR ρ id = some r ∧ st.G r.blk o' ∧ m r.blk = some l ∧ l.blk < w.heap.size ∧ (∃ l', m1 id = some l' ∧ l'.blk = l.blk) ∧ (o.isWr = true → o'.isWr = true ∧ ∃ j, r = .id j) := by
    intro id o ho
    obtain ⟨g1, g2, _⟩ := hhd _ ho
    obtain ⟨r, o', k1, k2, k3⟩ := fit_obj (hfo _ ho)
    obtain ⟨l, k4, k5⟩ := hR.dom _ _ (show st.G r.blk o' from k2)
    refine ⟨r, o', l, k1, k2, k4, k5, ?_, k3⟩
    cases r with
    | id j => exact ⟨l, by rw [← hm1, placeM_id g1 g2 k1]; exact k4, rfl⟩
    | sl j off cap => exact ⟨shiftL off cap l, by rw [← hm1, placeM_sl g1 g2 k1]; simp only [RB.blk] at k4; rw [k4]; rfl, rfl⟩
  -- those that stay
  have stay1 : ∀ i, st0.ct ≤ i → i < L.s0 → ∃ j l, getR ρ i = some (.id j) ∧ m j = some l ∧ m1 i = some l ∧ ∃ o, st.hp.get j = some o := by
    intro i h1 h2
    obtain ⟨y, hy, rfl⟩ := hasKey_mem _ _ (hkey i h1 h2)
    obtain ⟨j, hj⟩ := fit_stay (hfo _ hy) h2
    obtain ⟨r, o', l, k1, k2, k3, _⟩ := at1 y.1 y.2 hy
    rw [k1] at hj; injection hj with hj; subst hj
    exact ⟨j, l, k1, k3, by rw [← hm1, placeM_id h1 (by omega) k1]; exact k3, o', k2⟩
  generalize hσ : sgo st0.ct L.s0 L.n0 st.ct ρ = σ
  generalize hm3 : (fun i => if st.ct ≤ i ∧ i < L.n1 - L.n0 + st.ct then m2 (i - st.ct + L.n0) else m i) = m3
  have hmono : ∀ i l, m i = some l → m3 i = some l := fun i l hi => by
    rw [← hm3]
    by_cases hr : st.ct ≤ i ∧ i < L.n1 - L.n0 + st.ct
    · rw [hfr i hr.1 hr.2] at hi; cases hi
    · simp only [if_neg hr]; exact hi
  have new3 : ∀ i, L.n0 ≤ i → i < L.n1 → m3 (i - L.n0 + st.ct) = m2 i := fun i h1 h2 => by
    rw [← hm3]
    have : st.ct ≤ i - L.n0 + st.ct ∧ i - L.n0 + st.ct < L.n1 - L.n0 + st.ct := by omega
    simp only [if_pos this]
    congr 1; omega
  -- a result's place
  have at3 : ∀ id o, (id, o) ∈ L.ro x → ∃ l, m2 id = some l ∧ m3 (σ id) = some l ∧ l.blk < w'.heap.size := by
    intro id o ho
    obtain ⟨g1, g2, _, _⟩ := htl _ ho
    obtain ⟨l, k1, k2⟩ := hs.rep.dom id o ho
    refine ⟨l, k1, ?_, k2⟩
    rw [← hσ]
    rcases g2 with h | ⟨h1, h2⟩
    · simp only at h g1
      obtain ⟨j, l', q1, q2, q3, _⟩ := stay1 id g1 h
      rw [sgo_mid g1 h q1]
      have := hs.low id l (by omega) k1
      rw [q3] at this; injection this with this; subst this
      exact hmono _ _ q2
    · simp only at h1 h2 g1
      rw [sgo_high g1 (by omega), new3 id h1 h2]; exact k1
  have lift3 : ∀ μ, Ext m3 μ → ∃ μ2, Ext m2 μ2 ∧ ∀ i, okId L.s0 (L.ro x) i = true → μ2 i = μ (σ i) := by
    intro μ hμ
    refine ⟨fun i => (m2 i).getD (μ (σ i)), fun i l hi => by simp [hi], fun i hi => ?_⟩
    show (m2 i).getD (μ (σ i)) = μ (σ i)
    rcases okId_lt hi with h | ⟨o, ho⟩
    · cases hm : m2 i with
      | none => rfl
      | some l =>
        have h1 := hs.low i l (by omega) hm
        rcases Nat.lt_or_ge i st0.ct with hlt | hge
        · rw [← hσ, sgo_low hlt]
          rw [← hm1, placeM_low hlt] at h1
          exact (hμ i l (hmono _ _ h1)).symm
        · obtain ⟨j, l', q1, q2, q3, _⟩ := stay1 i hge h
          rw [q3] at h1; injection h1 with h1; subst h1
          rw [← hσ, sgo_mid hge h q1]
          exact (hμ j _ (hmono _ _ q2)).symm
    · obtain ⟨l, k1, k2, _⟩ := at3 i o ho
      rw [k1]; exact (hμ _ l k2).symm
  -- what lies there behind the loop
  have hG : ∀ id o, (L.out st0.ct tm st x ρ).2.2.G id o → (∃ y ∈ L.ro x, id = σ y.1 ∧ o = renO σ y.2) ∨ (st.G id o ∧ ∀ p ∈ L.ho x, p.2.isWr = true → id ≠ blkR ρ p.1) := by
    intro id o hg
    have hg : (layNews (sgo st0.ct L.s0 L.n0 st.ct ρ) (delAll ρ (L.ho x) st.hp) (L.ro x)).get id = some o := hg
    rw [hσ] at hg
    rcases layNews_get _ _ _ hg with h | h
    · exact .inl h
    · exact .inr (delAll_get _ _ _ h)
  -- what is not given away has not turned
  have keep3 : ∀ id o, st.G id o → (∀ p ∈ L.ho x, p.2.isWr = true → id ≠ blkR ρ p.1) → ∃ l, m id = some l ∧ m3 id = some l ∧ l.blk < w.heap.size ∧ ∀ i oi li, GX st0 L x i oi → oi.isWr = true → m1 i = some li → li.blk ≠ l.blk := by
    intro id o hg hno
    obtain ⟨l, k1, k2⟩ := hR.dom id o hg
    refine ⟨l, k1, hmono _ _ k1, k2, fun i oi li hi hw hli e => ?_⟩
    rcases GX_mem hi with ho | ho
    · obtain ⟨r, o', l2, q1, q2, q3, _, ⟨l', q4, q5⟩, q6⟩ := at1 i oi ho
      obtain ⟨hw', j, rfl⟩ := q6 hw
      rw [hli] at q4; injection q4 with q4; subst q4
      have := hR.inj _ _ _ _ _ _ q2 hg hw' q3 k1 (q5.symm.trans e)
      exact hno _ ho hw (by simp only [blkR, q1]; exact this.symm)
    · rw [(hlow1 i oi ho).2.2] at hw; cases hw
  have wr3 : ∀ y ∈ L.ro x, (renO σ y.2).isWr = true := fun y hy => by
    obtain ⟨_, _, g3, g4⟩ := htl _ hy
    obtain ⟨e, cs, op, wr, he⟩ := rowIn_row g4
    rw [he] at g3 ⊢
    exact g3
  have apart : ∀ id o, st.G id o → (∀ p ∈ L.ho x, p.2.isWr = true → id ≠ blkR ρ p.1) → ∀ y ∈ L.ro x, ∀ l l', m3 id = some l → m3 (σ y.1) = some l' → l.blk ≠ l'.blk := by
    intro id o hg hno y hy l l' hl hl' e
    obtain ⟨l0, k1, k2, k3, k4⟩ := keep3 id o hg hno
    rw [hl] at k2; injection k2 with k2; subst k2
    obtain ⟨l1, q1, q2, _⟩ := at3 y.1 y.2 hy
    rw [hl'] at q2; injection q2 with q2; subst q2
    rcases hs.prov y.1 y.2 l' hy q1 with h | ⟨id0, o0, l2, g0, gw, gl, gb⟩
    · omega
    · exact k4 id0 o0 l2 g0 (gw (htl _ hy).2.2.1) gl (gb.trans e.symm)
  refine ⟨rfl, m3, ⟨hmono, fun i l hi => ?_, ⟨?_, ?_, ?_, fun g hg => hmono _ _ (hR.glob g hg)⟩, ⟨hs.fr.size, hs.fr.os, hs.fr.tape, hs.fr.output, fun b hb hno => ?_⟩, ?_⟩, ?_, hd', hsz⟩
  · rw [← hm3] at hi
    by_cases hr : st.ct ≤ i ∧ i < L.n1 - L.n0 + st.ct
    · exact .inr hr
    · simp only [if_neg hr] at hi; exact .inl hi
  · intro id o hg
    rcases hG id o hg with ⟨y, hy, rfl, rfl⟩ | ⟨hg, hno⟩
    · obtain ⟨l, _, k2, k3⟩ := at3 y.1 y.2 hy
      exact ⟨l, k2, k3⟩
    · obtain ⟨l, _, k2, k3, _⟩ := keep3 id o hg hno
      exact ⟨l, k2, Nat.lt_of_lt_of_le k3 hs.fr.size⟩
  · intro μ hμ id o hg
    rcases hG id o hg with ⟨y, hy, rfl, rfl⟩ | ⟨hg, hno⟩
    · obtain ⟨μ2, hμ2, hag⟩ := lift3 μ hμ
      obtain ⟨l, k1, k2, _⟩ := at3 y.1 y.2 hy
      exact row_ren hag (by rw [hμ2 _ l k1, hμ _ l k2]) (htl _ hy).2.2.2 (hs.rep.obj μ2 hμ2 _ _ hy)
    · obtain ⟨l, k1, k2, k3, k4⟩ := keep3 id o hg hno
      have hμm : Ext m μ := fun i l hi => hμ _ _ (hmono _ _ hi)
      refine (hR.obj μ hμm id o hg).congr ?_
      rw [hμm id l k1]
      exact hs.fr.block _ k3 fun i oi li hi hw hli => k4 i oi li hi hw hli
  · intro i j oi oj li lj hi hj hw hli hlj hb
    rcases hG i oi hi with ⟨y, hy, rfl, rfl⟩ | ⟨hi, hni⟩ <;> rcases hG j oj hj with ⟨z, hz, rfl, rfl⟩ | ⟨hj, hnj⟩
    · obtain ⟨l, k1, k2, _⟩ := at3 y.1 y.2 hy
      obtain ⟨l', q1, q2, _⟩ := at3 z.1 z.2 hz
      rw [k2] at hli; injection hli with hli; subst hli
      rw [q2] at hlj; injection hlj with hlj; subst hlj
      rw [hs.rep.inj _ _ _ _ _ _ hy hz (htl _ hy).2.2.1 k1 q1 hb]
    · exact absurd hb.symm (apart j oj hj hnj y hy lj li hlj hli)
    · exact absurd hb (apart i oi hi hni z hz li lj hli hlj)
    · obtain ⟨l, k1, k2, _⟩ := keep3 i oi hi hni
      obtain ⟨l', q1, q2, _⟩ := keep3 j oj hj hnj
      rw [k2] at hli; injection hli with hli; subst hli
      rw [q2] at hlj; injection hlj with hlj; subst hlj
      exact hR.inj i j oi oj _ _ hi hj hw k1 q1 hb
  · refine hs.fr.block b hb fun i oi li hi hw hli e => ?_
    rcases GX_mem hi with ho | ho
    · obtain ⟨r, o', l2, q1, q2, q3, _, ⟨l', q4, q5⟩, q6⟩ := at1 i oi ho
      obtain ⟨hw', j, rfl⟩ := q6 hw
      rw [hli] at q4; injection q4 with q4; subst q4
      exact hno _ _ _ q2 hw' q3 (q5.symm.trans e)
    · rw [(hlow1 i oi ho).2.2] at hw; cases hw
  · intro id o l hg hl
    rcases hG id o hg with ⟨y, hy, rfl, rfl⟩ | ⟨hg, hno⟩
    · obtain ⟨l', k1, k2, _⟩ := at3 y.1 y.2 hy
      rw [k2] at hl; injection hl with hl; subst hl
      rcases hs.prov y.1 y.2 _ hy k1 with h | ⟨id0, o0, l2, g0, gw, gl, gb⟩
      · exact .inl h
      · have hw0 := gw (htl _ hy).2.2.1
        rcases GX_mem g0 with ho | ho
        · obtain ⟨r, o', l3, q1, q2, q3, _, ⟨l4, q4, q5⟩, q6⟩ := at1 id0 o0 ho
          rw [gl] at q4; injection q4 with q4; subst q4
          exact .inr ⟨_, o', l3, q2, fun _ => (q6 hw0).1, q3, q5.symm.trans gb⟩
        · rw [(hlow1 id0 o0 ho).2.2] at hw0; cases hw0
    · obtain ⟨l', k1, k2, _⟩ := keep3 id o hg hno
      rw [k2] at hl; injection hl with hl; subst hl
      exact .inr ⟨id, o, _, hg, fun h => h, k1, rfl⟩
  · intro t v htv
    have htv : (putT L.outs (renL (sgo st0.ct L.s0 L.n0 st.ct ρ) (L.rv x)) (forget (dstsOf L.c) tm)).get t = some v := htv
    rw [hσ] at htv
    rcases putT_get _ _ _ _ _ htv with ⟨i, g1, g2⟩ | htv
    · rw [renL_map, List.getElem?_map, Option.map_eq_some_iff] at g2
      obtain ⟨v0, g2, rfl⟩ := g2
      obtain ⟨cv, k1, k2⟩ := hko i t v0 g1 g2
      refine ⟨cv, k1, fun μ hμ => ?_⟩
      obtain ⟨μ2, hμ2, hag⟩ := lift3 μ hμ
      rw [← k2 μ2 hμ2, conc_ren]
      exact (conc_in hag v0 (inIdsL_mem _ hrv v0 (List.mem_of_getElem? g2))).symm
    · rw [forget_get2] at htv
      split at htv
      · cases htv
      · rename_i htd
        obtain ⟨cv, k1, k2⟩ := hold t v htd htv
        exact ⟨cv, k1, k2.mono hmono⟩

theorem findM2_mem {k : Nat} : ∀ (l : List (Nat × ML)) (L : ML), findM2 k l = some L → ∃ x ∈ l, x.2 = L := by
  intro l
  induction l with
  | nil => intro L h; cases h
  | cons x l ih =>
    intro L h
    simp only [findM2] at h
    split at h
    · simp only [Option.some.injEq] at h
      exact ⟨x, by simp, h⟩
    · obtain ⟨y, h1, h2⟩ := ih L h
      exact ⟨y, by simp [h1], h2⟩
theorem putT_not : ∀ (l : List Tmp) (us : List Value) (X : T Value) (t : Tmp), t ∉ l → (putT l us X).get t = X.get t
  | [], us, X, t, _ => rfl
  | y :: l, [], X, t, _ => rfl
  | y :: l, u :: us, X, t, hn => by
    simp only [List.mem_cons, not_or] at hn
    simp only [putT, T.get_set]
    rw [if_neg hn.1]
    exact putT_not l us X t hn.2

theorem ovRows_all (hmix : P.follows .mixedOrders = true) (hov : OvOk P ov) (hovm : OvMono ov) (hovi : OvIds ov) {st0 : St} (h3 : (Cx.of P).ng ≤ st0.ct) {ls : List (Nat × ML)} (hl : ∀ x ∈ ls, x.2.Good P ov st0) :
    OvOk P (ovRows (Cx.of P) st0 ls ov) ∧ OvMono (ovRows (Cx.of P) st0 ls ov) ∧ OvIds (ovRows (Cx.of P) st0 ls ov) := by
  refine ⟨⟨hov.fn, ?_⟩, ⟨hovm.fn, ?_, ?_⟩, ⟨hovi.fn, ?_⟩⟩
  · intro c g nt tm st ex tm' st' hg hr
    simp only [ovRows] at hg
    split at hg
    · rename_i L hL
      split at hg <;> (try (cases hg; done))
      rename_i hc
      simp only [Option.some.injEq] at hg; subst hg
      obtain ⟨rfl, h1, vs, x, ρ, hv, hp, hf, he⟩ := ML.go_some hr
      obtain ⟨y, hy, rfl⟩ := findM2_mem _ _ hL
      subst hc
      obtain ⟨k, hk⟩ := ML.sound hmix hov hovm hovi h3 (hl y hy) h1 hv hp hf
      rw [← he] at hk
      have hct : st'.ct = y.2.n1 - y.2.n0 + st.ct := by
        have := congrArg (fun q => q.2.2.ct) he
        exact this
      refine ⟨k, fun ro hro m w a B hR ht hd hB hn hfr => ?_⟩
      exact hk ro hro m w a B hR ht hd hB hn (by rw [← hct]; exact hfr)
    · exact hov.lp c g nt tm st ex tm' st' hg hr
  · intro a g nt tm st ex tm' st' hg hr
    simp only [ovRows] at hg
    split at hg
    · split at hg <;> (try (cases hg; done))
      simp only [Option.some.injEq] at hg; subst hg
      obtain ⟨_, _, vs, x, ρ, _, _, _, he⟩ := ML.go_some hr
      have : st'.ct = _ := congrArg (fun q => q.2.2.ct) he
      rw [this]
      exact Nat.le_add_left _ _
    · exact hovm.lp a g nt tm st ex tm' st' hg hr
  · intro a g nt tm st ex tm' st' hg hr t ht
    simp only [ovRows] at hg
    split at hg
    · rename_i L hL
      split at hg <;> (try (cases hg; done))
      rename_i hc
      simp only [Option.some.injEq] at hg; subst hg
      obtain ⟨_, _, vs, x, ρ, _, _, _, he⟩ := ML.go_some hr
      obtain ⟨y, hy, rfl⟩ := findM2_mem _ _ hL
      subst hc
      have : tm' = _ := congrArg (fun q => q.2.1) he
      rw [this]
      show (putT y.2.outs (renL (sgo st0.ct y.2.s0 y.2.n0 st.ct ρ) (y.2.rv x)) (forget (dstsOf y.2.c) tm)).get t = tm.get t
      rw [putT_not _ _ _ _ (fun h => ht ((hl y hy).outs t h)), forget_get2, if_neg ht]
    · exact hovm.keeps a g nt tm st ex tm' st' hg hr t ht
  · intro a g nt tm st ex tm' st' hg hr
    simp only [ovRows] at hg
    split at hg
    · rename_i L hL
      split at hg <;> (try (cases hg; done))
      simp only [Option.some.injEq] at hg; subst hg
      obtain ⟨_, _, vs, x, ρ, _, hp, hf, he⟩ := ML.go_some hr
      obtain ⟨y, hy, rfl⟩ := findM2_mem _ _ hL
      have hG := hl y hy
      have hst : st' = _ := congrArg (fun q => q.2.2) he
      rw [hst]
      intro id o hg
      have hg : (layNews (sgo st0.ct y.2.s0 y.2.n0 st.ct ρ) (delAll ρ (y.2.ho x) st.hp) (y.2.ro x)).get id = some o := hg
      rcases layNews_get _ _ _ hg with ⟨z, hz, rfl, rfl⟩ | h
      · obtain ⟨g1, g2, _, _⟩ := tailOk_mem _ (hG.tail x hp).1 z hz
        rcases g2 with h | ⟨h1, h2⟩
        · obtain ⟨q, hq, hqe⟩ := hasKey_mem _ _ ((hG.head x hp).2 z.1 g1 h)
          obtain ⟨j, hj⟩ := fit_stay (FitOs_mem _ hf.objs q hq) (by rw [hqe]; exact h)
          obtain ⟨r, o', k1, k2, _⟩ := fit_obj (FitOs_mem _ hf.objs q hq)
          rw [k1] at hj; injection hj with hj; subst hj
          rw [hqe] at k1
          left
          rw [sgo_mid g1 h k1]
          exact ⟨o', k2⟩
        · right
          have := hG.b1
          rw [sgo_high g1 (by omega)]
          constructor
          · show st.ct ≤ _
            omega
          · show _ < y.2.n1 - y.2.n0 + st.ct
            omega
      · exact .inl ⟨o, (delAll_get _ _ _ h).1⟩
    · exact hovi.lp a g nt tm st ex tm' st' hg hr
end
end Go.Ai

/-! Contracts with memory: a round, run by the interpreter for open values. -/
namespace Go.Ai
open Go
noncomputable section
/-- how a round ends, what it leaves in the temporaries and in the objects that are asked for -/
def outM (keys outs : List Tmp) (is : List Nat) (x : R (Ex × T Value × St)) : Option (Ex × List Value × List (Option AObj) × List Prop) := match x with
  | .ok q o => match q.1 with
    | .normal => match readT q.2.1 keys with
      | some vs => some (.normal, vs, is.map q.2.2.hp.get, o.asm)
      | none => none
    | e => match readT q.2.1 outs with
      | some vs => some (e, vs, is.map q.2.2.hp.get, o.asm)
      | none => none
  | _ => none
def ksOf (keys outs : List Tmp) : Ex → List Tmp
  | .normal => keys
  | _ => outs
section
variable {P : Program} {ov : Ov} {ovO : OvO}
theorem path_round (hr : OvRef ov ovO) {n : Nat} {c : Code} {nt : Nat} {keys outs : List Tmp} {is : List Nat} {vs : List Value} {st : St} {toks : List An} {ex : Ex} {ws : List Value} {os : List (Option AObj)} {asm : List Prop}
    (h : outM keys outs is (runO (Cx.of P) ov ovO n c nt (putT keys vs .nil) st ⟨toks, []⟩) = some (ex, ws, os, asm)) (ha : Holds asm) :
    ∃ tmO st', (∀ tm2, Sub (putT keys vs .nil) tm2 → ∃ tm2', run (Cx.of P) ov n c nt tm2 st = some (ex, tm2', st') ∧ Sub tmO tm2') ∧ readT tmO (ksOf keys outs ex) = some ws ∧ is.map st'.hp.get = os := by
  cases hc : runO (Cx.of P) ov ovO n c nt (putT keys vs .nil) st ⟨toks, []⟩ with
  | ok q o =>
    obtain ⟨ex1, tmO, st'⟩ := q
    rw [hc] at h
    have hs := (fun (hh : Holds o.asm) => (runO_ok hr n c nt _ _ _ _ _ hc hh).2)
    cases ex1 with
    | normal =>
      simp only [outM] at h
      split at h <;> (try (cases h; done))
      rename_i us hu
      simp only [Option.some.injEq, Prod.mk.injEq] at h
      obtain ⟨rfl, rfl, rfl, rfl⟩ := h
      exact ⟨tmO, st', hs ha, hu, rfl⟩
    | _ =>
      simp only [outM] at h
      split at h <;> (try (cases h; done))
      rename_i us hu
      simp only [Option.some.injEq, Prod.mk.injEq] at h
      obtain ⟨rfl, rfl, rfl, rfl⟩ := h
      exact ⟨tmO, st', hs ha, hu, rfl⟩
  | fail n => rw [hc] at h; cases h
  | ask b k => rw [hc] at h; cases h
  | askI b k => rw [hc] at h; cases h
end
/-- each contract good over words of its own -/
theorem ovWith_ok3 {P : Program} {ov : Ov} (hmix : P.follows .mixedOrders = true) (hov : OvOk P ov) {st0 : St} (h3 : (Cx.of P).ng ≤ st0.ct) {fs : List FC}
    (hf : ∀ C ∈ fs, ∃ ov', OvOk P ov' ∧ OvMono ov' ∧ OvIds ov' ∧ C.Good P ov' st0) : OvOk P (ovWith st0 fs [] ov) where
  fn := by
    intro f g args st v st' hg hr m w cargs hR ha hfr
    simp only [ovWith] at hg
    split at hg
    · rename_i C hC
      simp only [Option.some.injEq] at hg; subst hg
      obtain ⟨h1, h2, rfl, rfl⟩ := FC.go_some hr
      obtain ⟨hm, rfl⟩ := findF_mem _ _ hC
      obtain ⟨ov', k1, k2, k3, k4⟩ := hf C hm
      exact FC.sound hmix k1 k2 k3 h3 k4 h2 h1 hR ha
    · exact hov.fn f g args st v st' hg hr m w cargs hR ha hfr
  lp := by
    intro c g nt tm st ex tm' st' hg hr
    simp only [ovWith] at hg
    exact hov.lp c g nt tm st ex tm' st' hg hr
end
end Go.Ai

/- The abstract interpreter and its soundness, part 3 of 3: by an AI agent. -/
import Derived.Test.YtbjejecigkolhaaDoorAi2
import Derived.LaidLaws
import Derived.ProofKit
import Derived.LaidMore
import Derived.LaidHandle
import Derived.Stop.Joined

/-! What package-level variables hold when a call begins, as an abstract heap: definitions, and their soundness. -/
namespace Go.Ai
open Go

/-! ### definitions -/
def litVal : TypeDesc → Lit → Option Value
  | .bool, .bool b => some (.bool b)
  | .int k, .int q n => match decide (q = k) with
    | true => some (.int k n)
    | false => none
  | .string, .string l => some (.string ⟨⟨l⟩⟩)
  | _, _ => none

abbrev LayF (H : Type) := TypeId → DataW H → St → Option (List Value × St)

def layParts {H : Type} (f : LayF H) : List TypeId → List (DataW H) → St → Option (List (List Value) × St)
  | [], [], st => some ([], st)
  | t :: ts, d :: ds, st => match f t d st with
    | some (c, st1) => match layParts f ts ds st1 with
      | some (r, st2) => some (c :: r, st2)
      | none => none
    | none => none
  | _, _, _ => none

def flats : List (List Value) → List Value
  | [] => []
  | c :: l => c ++ flats l

/-- do the parts lie one behind the other, as long as is said? -/
def tiles : List (Nat × Nat) → List (List Value) → Nat → Option Nat
  | [], [], at_ => some at_
  | (o, n) :: l, c :: cs, at_ => match Nat.beq o at_ && Nat.beq c.length n with
    | true => tiles l cs (at_ + n)
    | false => none
  | _, _, _ => none

def allLong (n : Nat) : List (List Value) → Bool
  | [] => true
  | c :: l => Nat.beq c.length n && allLong n l

def fieldSizes (cx : Cx) : List Field → Option (List (Nat × Nat))
  | [] => some []
  | f :: l => match cx.size f.type with
    | some n => match fieldSizes cx l with
      | some r => some ((f.offset, n) :: r)
      | none => none
    | none => none

/-- a value that lies in no row -/
def valOf {H : Type} (cx : Cx) (f : LayF H) (e : TypeId) (agg : Bool) (d : DataW H) : Option Value :=
  match f e d ⟨.nil, cx.ng⟩ with
  | some (c, st1) => match flatL c && Nat.beq st1.ct cx.ng with
    | true => match agg with
      | true => some (.agg ⟨c⟩)
      | false => match c with
        | [v] => some v
        | _ => none
    | false => none
  | none => none

def layEntries {H : Type} (cx : Cx) (f : LayF H) (kd : TypeDesc) (e : TypeId) (agg : Bool) : List (Lit × DataW H) → Option (List MapEntry)
  | [] => some []
  | (k, d) :: l => match litVal kd k, valOf cx f e agg d, layEntries cx f kd e agg l with
    | some kv, some v, some r => some ({ key := kv, val := v, born := 0 } :: r)
    | _, _, _ => none

def typeOf (nm : List (String × TypeId)) (n : String) : Option TypeId := match nm with
  | [] => none
  | (m, t) :: l => match decide (n = "*" ++ m) with
    | true => some t
    | false => typeOf l n

def layA {H : Type} (cx : Cx) (nm : List (String × TypeId)) (hold : H → Option Value) : Nat → LayF H
  | 0 => fun _ _ _ => none
  | fuel + 1 => fun t d st => match cx.desc t with
    | none => none
    | some ds => match d with
      | .lit l => match litVal ds l with
        | some v => some ([v], st)
        | none => none
      | .nil => match ds with
        | .pointer _ => some ([.pointer none], st)
        | .slice _ => some ([.slice none 0 0], st)
        | .interface _ => some ([.nilIface], st)
        | .map _ _ => some ([.map none], st)
        | .func _ _ _ => some ([.nilFunc], st)
        | _ => none
      | .ptr d => match ds with
        | .pointer e => match layA cx nm hold fuel e d st, cx.size e with
          | some (c, st1), some n => match Nat.beq c.length n && Nat.ble 1 n with
            | true => some ([.pointer (some ⟨st1.ct, 0, none⟩)], ⟨st1.hp.set st1.ct (.row e c false false), st1.ct + 1⟩)
            | false => none
          | _, _ => none
        | _ => none
      | .slice elems spare => match ds, spare with
        | .slice e, [] => match layParts (layA cx nm hold fuel) (elems.map fun _ => e) elems st, cx.size e with
          | some (cs, st1), some n => match allLong n cs && Nat.ble 1 n && Nat.ble 1 elems.length with
            | true => some ([.slice (some ⟨st1.ct, 0, none⟩) elems.length elems.length], ⟨st1.hp.set st1.ct (.row e (flats cs) false false), st1.ct + 1⟩)
            | false => none
          | _, _ => none
        | _, _ => none
      | .agg parts => match ds with
        | .struct fs => match layParts (layA cx nm hold fuel) (fs.toList.map (·.type)) parts st, fieldSizes cx fs.toList, cx.size t with
          | some (cs, st1), some sz, some n => match tiles sz cs 0 with
            | some k => match Nat.beq k n with
              | true => some (flats cs, st1)
              | false => none
            | none => none
          | _, _, _ => none
        | .array n e => match layParts (layA cx nm hold fuel) ((List.range n).map fun _ => e) parts st, cx.size e, cx.size t with
          | some (cs, st1), some m, some k => match allLong m cs && Nat.beq (n * m) k with
            | true => some (flats cs, st1)
            | false => none
          | _, _, _ => none
        | _ => none
      | .iface name d => match ds with
        | .interface _ => match typeOf nm name with
          | some u => match cx.desc u with
            | some (.pointer _) => match layA cx nm hold fuel u d st with
              | some ([v], st1) => some ([.iface u v], st1)
              | _ => none
            | _ => none
          | none => none
        | _ => none
      | .held h => match ds with
        | .func _ _ _ => match hold h with
          | some v => match flat v with
            | true => some ([v], st)
            | false => none
          | none => none
        | _ => none
      | .map entries => match ds with
        | .map k e => match cx.desc k, cx.isAgg e with
          | some kd, some agg => match layEntries cx (layA cx [] hold fuel) kd e agg entries with
            | some es => some ([.map (some st.ct)], ⟨st.hp.set st.ct (.map es true false), st.ct + 1⟩)
            | none => none
          | _, _ => none
        | _ => none

/-! ### soundness -/
/-- the name tells the type -/
def nameOk (P : Program) : String × TypeId → Bool
  | (m, tp) => ((List.range P.types.size).all fun u => P.typeName? 3 u != some ("*" ++ m) || u == tp) &&
    ((List.range P.types.size).all fun e => P.typeName? 2 e != some m || (match (P.info? e).map (·.desc) with | some (TypeDesc.named _ _) => true | _ => false)) && (m.toList.head? != some '*')

theorem typeOf_ok {P : Program} : ∀ (nm : List (String × TypeId)), nm.all (nameOk P) = true → ∀ n t u, typeOf nm n = some t → P.typeName? 3 u = some n → u = t := by
  intro nm
  induction nm with
  | nil => intro _ n t u h; simp [typeOf] at h
  | cons p nm ih =>
    obtain ⟨m, tp⟩ := p
    intro hall n t u h hu
    simp only [List.all_cons, Bool.and_eq_true] at hall
    simp only [typeOf] at h
    split at h
    · rename_i hn
      simp only [decide_eq_true_eq] at hn
      simp at h; subst h
      have h1 := hall.1
      simp only [nameOk, Bool.and_eq_true, bne_iff_ne] at h1
      subst hn
      exact typeName_ptr_named h1.1.1 h1.1.2 h1.2 u hu
    · exact ih hall.2 n t u h hu

theorem size_cells {P : Program} {t : TypeId} {n : Nat} (h : (Cx.of P).size t = some n) : P.cellsOf t = n := by
  obtain ⟨i, hi, rfl⟩ := size_info h
  simp [Program.cellsOf, Cx.info hi]

theorem flats_length {n : Nat} : ∀ (l : List (List Value)), allLong n l = true → (flats l).length = l.length * n := by
  intro l
  induction l with
  | nil => intro _; simp [flats]
  | cons c l ih =>
    intro h
    simp only [allLong, Bool.and_eq_true] at h
    simp only [flats, List.length_append, ih h.2, List.length_cons, Nat.eq_of_beq_eq_true h.1]
    rw [Nat.add_mul]; omega

theorem flats_map (f : Value → Value) : ∀ (l : List (List Value)), (flats l).map f = flats (l.map (·.map f)) := by
  intro l
  induction l with
  | nil => rfl
  | cons c l ih => simp [flats, ih]

theorem flats_get {n : Nat} : ∀ (l : List (List Value)), allLong n l = true → ∀ i c, l[i]? = some c → ∀ j, j < n → (flats l)[i * n + j]? = c[j]? := by
  intro l
  induction l with
  | nil => intro _ i c h; simp at h
  | cons x l ih =>
    intro h i c hi j hj
    simp only [allLong, Bool.and_eq_true] at h
    have hx := Nat.eq_of_beq_eq_true h.1
    cases i with
    | zero =>
      simp at hi; subst hi
      simp only [flats, Nat.zero_mul, Nat.zero_add]
      rw [List.getElem?_append_left (by omega)]
    | succ i =>
      simp at hi
      simp only [flats]
      rw [List.getElem?_append_right (by rw [Nat.add_mul]; omega), show (i + 1) * n + j - x.length = i * n + j by rw [Nat.add_mul]; omega]
      exact ih h.2 i c hi j hj

theorem tiles_eq (cs : List Value) : ∀ (l : List (Nat × Nat)) (parts : List (List Value)) (a k : Nat), tiles l parts a = some k → a ≤ cs.length → k = cs.length →
    parts = l.map (fun x => (cs.drop x.1).take x.2) → flats parts = cs.drop a := by
  intro l
  induction l with
  | nil =>
    intro parts a k h ha hk hp
    cases parts with
    | nil => simp [tiles] at h; subst h; subst hk; simp [flats]
    | cons c parts => simp [tiles] at h
  | cons p l ih =>
    obtain ⟨o, n⟩ := p
    intro parts a k h ha hk hp
    cases parts with
    | nil => simp [tiles] at h
    | cons c parts =>
      simp only [tiles] at h
      split at h <;> (try (simp at h; done))
      rename_i hb
      simp only [Bool.and_eq_true] at hb
      have h1 := Nat.eq_of_beq_eq_true hb.1
      have h2 := Nat.eq_of_beq_eq_true hb.2
      subst h1
      simp only [List.map_cons, List.cons.injEq] at hp
      obtain ⟨hc, hp⟩ := hp
      have hlen : o + n ≤ cs.length := by
        rw [hc, List.length_take, List.length_drop] at h2; omega
      simp only [flats]
      rw [ih parts (o + n) k h hlen hk hp, hc, ← List.drop_drop, List.take_append_drop]

section
variable {P : Program} {w : World} {H : Type}

structure Lay (P : Program) (w : World) (m : Nat → Option Loc) (st : St) : Prop where
  obj : ∀ id o, st.G id o → (∃ l, m id = some l ∧ l.blk < w.heap.size) ∧ o.isWr = false ∧ ∀ μ, Ext m μ → ObjRep (Cx.of P) μ w id o
  fresh : ∀ i, st.ct ≤ i → m i = none
  glob : ∀ g, g < P.globals.size → m g = some ⟨g, 0, 0⟩

def CellsOk (P : Program) (w : World) (ccs : List Value) : Prop := ∀ u v, .iface u v ∈ ccs → Value.okWide P w .any 0 u v
def PlacesOk (P : Program) (w : World) (p : List MemPlace) : Prop := ∀ b off, MemPlace.cell b off ∈ p → ∀ u v, w.cell? ⟨b, off, none⟩ = some (.iface u v) → Value.okWide P w .any 0 u v

/-- ('need': is it to be known what lies in interfaces?) -/
def LayOk (enc : TypeId × Value → H) (P : Program) (w : World) (held : Bool) (need : Prop) (f : LayF H) : Prop :=
  ∀ t d st cs st', f t d st = some (cs, st') → ∀ m, Lay P w m st → ∀ tf ccs p, DataW.trod enc P w 0 (fun _ => true) held tf t ccs = some (d, p) → (need → PlacesOk P w p) → (need → CellsOk P w ccs) →
    ∃ m', (∀ i l, m i = some l → m' i = some l) ∧ Lay P w m' st' ∧ VReps m' cs ccs ∧ st.ct ≤ st'.ct

theorem VReps.mono {m m' : Nat → Option Loc} {vs cvs : List Value} (h : VReps m vs cvs) (hm : ∀ i l, m i = some l → m' i = some l) : VReps m' vs cvs := fun μ hμ => h μ (hμ.mono hm)

theorem Lay.new {m : Nat → Option Loc} {st : St} (h : Lay P w m st) {o : AObj} {l : Loc} (ho : o.isWr = false) (hl : l.blk < w.heap.size) (hng : P.globals.size ≤ st.ct)
    (hobj : ∀ μ, Ext (setM m st.ct l) μ → ObjRep (Cx.of P) μ w st.ct o) : Lay P w (setM m st.ct l) ⟨st.hp.set st.ct o, st.ct + 1⟩ where
  obj := by
    have hn := h.fresh st.ct (Nat.le_refl _)
    intro id o' hg
    simp only [St.G, T.get_set] at hg
    split at hg
    · rename_i e; subst e
      injection hg with hg; subst hg
      exact ⟨⟨l, setM_same _ _, hl⟩, ho, hobj⟩
    · rename_i hne
      obtain ⟨⟨l', h1, h2⟩, h3, h4⟩ := h.obj id o' hg
      exact ⟨⟨l', setM_mono hn _ _ h1, h2⟩, h3, fun μ hμ => h4 μ (hμ.mono (setM_mono hn))⟩
  fresh := by
    intro i hi
    simp only at hi
    simp only [setM]
    rw [if_neg (by omega)]
    exact h.fresh i (by omega)
  glob := fun g hg => setM_mono (h.fresh st.ct (Nat.le_refl _)) _ _ (h.glob g hg)

theorem Lay.ng {m : Nat → Option Loc} {st : St} (h : Lay P w m st) : P.globals.size ≤ st.ct := by
  rcases Nat.lt_or_ge st.ct P.globals.size with h1 | h1
  · have := h.glob st.ct h1
    rw [h.fresh st.ct (Nat.le_refl _)] at this; cases this
  · exact h1

/-- parts, each with its own cells -/
theorem layParts_ok {enc : TypeId × Value → H} {held : Bool} {need : Prop} {f : LayF H} (hf : LayOk enc P w held need f) : ∀ (ts : List TypeId) (ds : List (DataW H)) (st : St) (cs : List (List Value)) (st' : St), layParts f ts ds st = some (cs, st') →
    ∀ m, Lay P w m st → ∀ (css : List (List Value)) (ps : List (List MemPlace)) (tf : Nat), css.length = ts.length → ps.length = ts.length →
      (∀ (i : Nat) t c d p, ts[i]? = some t → css[i]? = some c → ds[i]? = some d → ps[i]? = some p → DataW.trod enc P w 0 (fun _ => true) held tf t c = some (d, p)) →
      (need → ∀ p ∈ ps, PlacesOk P w p) → (need → ∀ c ∈ css, CellsOk P w c) →
      ∃ m', (∀ i l, m i = some l → m' i = some l) ∧ Lay P w m' st' ∧ (∀ μ, Ext m' μ → cs.map (·.map (conc μ)) = css) ∧ st.ct ≤ st'.ct ∧ ds.length = ts.length := by
  intro ts
  induction ts with
  | nil =>
    intro ds st cs st' h m hm css ps tf hcs hps _ _ _
    cases ds with
    | nil =>
      simp [layParts] at h
      obtain ⟨rfl, rfl⟩ := h
      cases css with
      | nil => exact ⟨m, fun _ _ h => h, hm, fun _ _ => rfl, Nat.le_refl _, rfl⟩
      | cons c css => simp at hcs
    | cons d ds => simp [layParts] at h
  | cons t ts ih =>
    intro ds st cs st' h m hm css ps tf hcs hps htr hpl hcl
    cases ds with
    | nil => simp [layParts] at h
    | cons d ds =>
      cases css with
      | nil => simp at hcs
      | cons cc css =>
        cases ps with
        | nil => simp at hps
        | cons p ps =>
          simp only [layParts] at h
          split at h <;> (try (simp at h; done))
          rename_i c st1 h1
          split at h <;> (try (simp at h; done))
          rename_i r st2 h2
          simp at h; obtain ⟨rfl, rfl⟩ := h
          obtain ⟨m1, e1, l1, v1, c1⟩ := hf t d st c st1 h1 m hm tf cc p (htr 0 t cc d p rfl rfl rfl rfl) (fun hn => hpl hn p (by simp)) (fun hn => hcl hn cc (by simp))
          obtain ⟨m2, e2, l2, v2, c2, hlen⟩ := ih ds st1 r st2 h2 m1 l1 css ps tf (by simpa using hcs) (by simpa using hps)
            (fun i t' c' d' p' q1 q2 q3 q4 => htr (i + 1) t' c' d' p' (by simpa using q1) (by simpa using q2) (by simpa using q3) (by simpa using q4)) (fun hn p hp => hpl hn p (by simp [hp])) (fun hn c hc => hcl hn c (by simp [hc]))
          refine ⟨m2, fun i l hi => e2 i l (e1 i l hi), l2, fun μ hμ => ?_, by omega, by simp [hlen]⟩
          simp only [List.map_cons, v2 μ hμ]
          rw [v1 μ (hμ.mono e2)]

def HoldOk (enc : TypeId × Value → H) (hold : H → Option Value) : Prop := ∀ t fn first cap h v, enc (t, .func fn first cap) = h → hold h = some v → v = .func fn first cap

theorem mapM_some {α β : Type} (f : α → Option β) : ∀ (l : List α) (r : List β), l.mapM f = some r → r.length = l.length ∧ ∀ (i : Nat) a, l[i]? = some a → ∃ b, r[i]? = some b ∧ f a = some b := by
  intro l
  induction l with
  | nil => intro r h; simp at h; subst h; exact ⟨rfl, fun i a h => by simp at h⟩
  | cons x l ih =>
    intro r h
    rw [List.mapM_cons] at h
    simp only [bind, Option.bind_eq_some_iff, pure] at h
    obtain ⟨b, hb, q, hq, h⟩ := h
    simp at h; subst h
    obtain ⟨h1, h2⟩ := ih q hq
    refine ⟨by simp [h1], fun i a hi => ?_⟩
    cases i with
    | zero => simp at hi; subst hi; exact ⟨b, by simp, hb⟩
    | succ i => simp at hi ⊢; exact h2 i a hi

section
variable {enc : TypeId × Value → H} {held : Bool} {t : TypeId} {tf : Nat} {ccs : List Value} {d : DataW H} {p : List MemPlace}

theorem trod_bool (hd : P.underlying t = some .bool) (ht : DataW.trod enc P w 0 (fun _ => true) held tf t ccs = some (d, p)) : ∃ b, ccs = [.bool b] ∧ d = .lit (.bool b) := by
  cases tf with
  | zero => simp [DataW.trod] at ht
  | succ tf =>
    unfold DataW.trod at ht
    rw [hd] at ht
    split at ht <;> simp_all

theorem trod_int {k : IntKind} (hd : P.underlying t = some (.int k)) (ht : DataW.trod enc P w 0 (fun _ => true) held tf t ccs = some (d, p)) : ∃ n, ccs = [.int k n] ∧ d = .lit (.int k n) := by
  cases tf with
  | zero => simp [DataW.trod] at ht
  | succ tf =>
    unfold DataW.trod at ht
    rw [hd] at ht
    split at ht <;> (try (simp_all; done))

theorem trod_string (hd : P.underlying t = some .string) (ht : DataW.trod enc P w 0 (fun _ => true) held tf t ccs = some (d, p)) : ∃ s, ccs = [.string s] ∧ d = .lit (.string s.data.toList) := by
  cases tf with
  | zero => simp [DataW.trod] at ht
  | succ tf =>
    unfold DataW.trod at ht
    rw [hd] at ht
    split at ht <;> (try (simp_all; done))

theorem trod_ptr {e : TypeId} (hd : P.underlying t = some (.pointer e)) (ht : DataW.trod enc P w 0 (fun _ => true) held tf t ccs = some (d, p)) :
    (ccs = [.pointer none] ∧ d = .nil) ∨ ∃ a cs tf' d' p', ccs = [.pointer (some a)] ∧ w.cells? 0 a (P.cellsOf e) = some cs ∧ DataW.trod enc P w 0 (fun _ => true) held tf' e cs = some (d', p') ∧ d = .ptr d' ∧ p = MemPlace.row a (P.cellsOf e) ++ p' := by
  cases tf with
  | zero => simp [DataW.trod] at ht
  | succ tf =>
    unfold DataW.trod at ht
    rw [hd] at ht
    split at ht <;> (try (simp_all; done))
    rename_i e' a h1
    injection h1 with h1
    injection h1 with h1
    subst h1
    simp only [Option.map_eq_some_iff, Option.bind_eq_some_iff] at ht
    obtain ⟨⟨d', p'⟩, ⟨cs, h2, h3⟩, h4⟩ := ht
    simp only [Prod.mk.injEq] at h4
    exact .inr ⟨a, cs, tf, d', p', rfl, h2, h3, h4.1.symm, h4.2.symm⟩

theorem trod_slice {e : TypeId} (hd : P.underlying t = some (.slice e)) (ht : DataW.trod enc P w 0 (fun _ => true) held tf t ccs = some (d, p)) :
    (ccs = [.slice none 0 0] ∧ d = .nil) ∨ ∃ a len cap tf' elems rest, ccs = [.slice (some a) len cap] ∧ len ≤ cap ∧ cap ≤ maxLen ∧
      (List.range len).mapM (fun i => (w.cells? 0 (a.add (i * P.cellsOf e)) (P.cellsOf e)).bind (DataW.trod enc P w 0 (fun _ => true) held tf' e)) = some elems ∧
      (List.range (cap - len)).mapM (fun j => (w.cells? 0 (a.add ((len + j) * P.cellsOf e)) (P.cellsOf e)).bind (DataW.trod enc P w 0 (fun _ => true) held tf' e)) = some rest ∧
      d = .slice (elems.map (·.1)) (rest.map (·.1)) ∧ p = MemPlace.row a ((elems.length + rest.length) * P.cellsOf e) ++ (elems ++ rest).flatMap (·.2) := by
  cases tf with
  | zero => simp [DataW.trod] at ht
  | succ tf =>
    unfold DataW.trod at ht
    rw [hd] at ht
    split at ht <;> (try (simp_all; done))
    rename_i e' a len cap h1
    injection h1 with h1
    injection h1 with h1
    subst h1
    simp only at ht
    split at ht <;> (try (simp at ht; done))
    rename_i hc
    simp only [if_true, Option.bind_eq_some_iff, Option.map_eq_some_iff] at ht
    obtain ⟨elems, h2, rest, h3, h4⟩ := ht
    simp only [Prod.mk.injEq] at h4
    exact .inr ⟨a, len, cap, tf, elems, rest, rfl, hc.2.1, hc.2.2, h2, h3, h4.1.symm, h4.2.symm⟩

theorem trod_struct {fs : Array Field} (hd : P.underlying t = some (.struct fs)) (ht : DataW.trod enc P w 0 (fun _ => true) held tf t ccs = some (d, p)) :
    ∃ tf' xs, ccs.length = P.cellsOf t ∧ fs.toList.mapM (fun f => DataW.trod enc P w 0 (fun _ => true) held tf' f.type ((ccs.drop f.offset).take (P.cellsOf f.type))) = some xs ∧ d = .agg (xs.map (·.1)) ∧ p = xs.flatMap (·.2) := by
  cases tf with
  | zero => simp [DataW.trod] at ht
  | succ tf =>
    unfold DataW.trod at ht
    rw [hd] at ht
    split at ht <;> (try (simp_all; done))
    rename_i fs' cs' h1
    injection h1 with h1
    injection h1 with h1
    subst h1
    split at ht <;> (try (simp at ht; done))
    rename_i hl
    simp only [Option.map_eq_some_iff, Prod.mk.injEq] at ht
    obtain ⟨xs, h2, h3, h4⟩ := ht
    exact ⟨tf, xs, hl, h2, h3.symm, h4.symm⟩

theorem trod_array {n : Nat} {e : TypeId} (hd : P.underlying t = some (.array n e)) (ht : DataW.trod enc P w 0 (fun _ => true) held tf t ccs = some (d, p)) :
    ∃ tf' xs, ccs.length = P.cellsOf t ∧ (List.range n).mapM (fun i => DataW.trod enc P w 0 (fun _ => true) held tf' e ((ccs.drop (i * P.cellsOf e)).take (P.cellsOf e))) = some xs ∧ d = .agg (xs.map (·.1)) ∧ p = xs.flatMap (·.2) := by
  cases tf with
  | zero => simp [DataW.trod] at ht
  | succ tf =>
    unfold DataW.trod at ht
    rw [hd] at ht
    split at ht <;> (try (simp_all; done))
    rename_i n' e' cs' h1
    injection h1 with h1
    injection h1 with h1 h1'
    subst h1; subst h1'
    split at ht <;> (try (simp at ht; done))
    rename_i hl
    simp only [Option.map_eq_some_iff, Prod.mk.injEq] at ht
    obtain ⟨xs, h2, h3, h4⟩ := ht
    exact ⟨tf, xs, hl, h2, h3.symm, h4.symm⟩

theorem trod_iface {ms : Array (String × TypeId)} (hd : P.underlying t = some (.interface ms)) (ht : DataW.trod enc P w 0 (fun _ => true) held tf t ccs = some (d, p)) :
    (ccs = [.nilIface] ∧ d = .nil) ∨ ∃ u v, ccs = [.iface u v] ∧ ((held = true ∧ d = .held (enc (u, v))) ∨
      ∃ name tf' d' , P.typeName? 3 u = some name ∧ DataW.trod enc P w 0 (fun _ => true) held tf' u v.cells.toList = some (d', p) ∧ d = .iface name d') := by
  cases tf with
  | zero => simp [DataW.trod] at ht
  | succ tf =>
    unfold DataW.trod at ht
    rw [hd] at ht
    split at ht <;> (try (simp_all; done))
    rename_i ms' u v h1
    refine .inr ⟨u, v, rfl, ?_⟩
    split at ht
    · simp at ht; exact .inl ⟨rfl, ht.1.symm⟩
    · rename_i name hn
      simp only [Option.map_eq_some_iff, Prod.mk.injEq] at ht
      obtain ⟨⟨d', p'⟩, h2, h3, h4⟩ := ht
      simp only at h3 h4
      subst h4
      exact .inr ⟨name, tf, d', hn, h2, h3.symm⟩
    · simp at ht

theorem trod_func {a1 a2 : Array TypeId} {a3 : Bool} (hd : P.underlying t = some (.func a1 a2 a3)) (ht : DataW.trod enc P w 0 (fun _ => true) held tf t ccs = some (d, p)) :
    (ccs = [.nilFunc] ∧ d = .nil) ∨ ∃ fn first cap, ccs = [.func fn first cap] ∧ d = .held (enc (t, .func fn first cap)) := by
  cases tf with
  | zero => simp [DataW.trod] at ht
  | succ tf =>
    unfold DataW.trod at ht
    rw [hd] at ht
    split at ht <;> (try (simp_all; done))
    rename_i fn first cap _
    split at ht <;> (try (simp at ht; done))
    simp only [Option.some.injEq, Prod.mk.injEq] at ht
    exact .inr ⟨fn, first, cap, rfl, ht.1.symm⟩

theorem trod_map {k e : TypeId} (hd : P.underlying t = some (.map k e)) (ht : DataW.trod enc P w 0 (fun _ => true) held tf t ccs = some (d, p)) :
    (ccs = [.map none] ∧ d = .nil) ∨ ∃ b es clock tf' entries, ccs = [.map (some b)] ∧ w.heap[b]? = some (.map es clock) ∧ (es.all (·.born < clock) = true ∧ (es.toList.map (·.born)).eraseDups.length = es.size) ∧
      es.toList.mapM (fun x => (keyOf P k x.key).bind fun key => if x.val.formed P e then (DataW.trod enc P w 0 (fun _ => true) held tf' e x.val.cells.toList).map fun y => ((key, y.1), y.2) else none) = some entries ∧
      d = .map ((entries.map (·.1)).foldr DataW.insert []) ∧ p = .map b :: entries.flatMap (·.2) := by
  cases tf with
  | zero => simp [DataW.trod] at ht
  | succ tf =>
    unfold DataW.trod at ht
    rw [hd] at ht
    split at ht <;> (try (simp_all; done))
    rename_i k' e' b h1
    injection h1 with h1
    injection h1 with h1 h1'
    subst h1; subst h1'
    split at ht <;> (try (simp at ht; done))
    rename_i es clock hh
    split at ht <;> (try (simp at ht; done))
    rename_i hcond
    simp only [Option.bind_eq_some_iff] at ht
    obtain ⟨entries, h2, h3⟩ := ht
    split at h3 <;> (try (simp at h3; done))
    simp only [Option.some.injEq, Prod.mk.injEq] at h3
    exact .inr ⟨b, es, clock, tf, entries, rfl, hh, hcond.2.2, h2, h3.1.symm, h3.2.symm⟩
end

theorem litVal_ok {enc : TypeId × Value → H} {held : Bool} {t : TypeId} {ds : TypeDesc} {l : Lit} {v : Value} (hd : P.underlying t = some ds) (h : litVal ds l = some v) {tf : Nat} {ccs : List Value} {p : List MemPlace}
    (ht : DataW.trod enc P w 0 (fun _ => true) held tf t ccs = some (.lit l, p)) : ccs = [v] ∧ flat v = true := by
  cases ds <;> cases l <;> simp only [litVal] at h <;> (try (simp at h; done))
  · simp at h; subst h
    obtain ⟨b, h1, h2⟩ := trod_bool hd ht
    simp at h2; subst h2
    exact ⟨h1, rfl⟩
  · split at h <;> (try (simp at h; done))
    rename_i hk
    simp only [decide_eq_true_eq] at hk
    simp at h; subst h; subst hk
    obtain ⟨b, h1, h2⟩ := trod_int hd ht
    simp at h2; subst h2
    exact ⟨h1, rfl⟩
  · simp at h; subst h
    obtain ⟨b, h1, h2⟩ := trod_string hd ht
    simp at h2; subst h2
    exact ⟨h1, rfl⟩

theorem cells?_get {a : Addr} {n : Nat} {cs : List Value} (h : w.cells? 0 a n = some cs) : cs.length = n ∧ ∀ j v, cs[j]? = some v → w.cell? (a.add j) = some v := by
  unfold World.cells? at h
  rw [if_pos (Nat.zero_le _)] at h
  obtain ⟨h1, h2⟩ := mapM_some _ _ _ h
  simp only [List.length_range] at h1
  refine ⟨h1, fun j v hj => ?_⟩
  have hlt : j < n := by have := (List.getElem?_eq_some_iff.1 hj).1; omega
  obtain ⟨b, h3, h4⟩ := h2 j j (by simp [hlt])
  rw [hj] at h3; injection h3 with h3; subst h3
  exact h4

theorem cell?_block {a : Addr} {v : Value} (h : w.cell? a = some v) : a.spot = none ∧ ∃ c e fz, w.heap[a.block]? = some (.cells c e fz) ∧ c[a.off]? = some v := by
  unfold World.cell? at h
  split at h
  · rename_i c e fz hb
    split at h
    · simp at h
    · rename_i hs
      exact ⟨by simpa using hs, c, e, fz, hb, h⟩
  · simp at h

/-- cells in a row, behind an address -/
theorem row_rep {a : Addr} {c : List Value} {cs : List Value} {m : Nat → Option Loc} {id : Nat} {e : TypeId} {n : Nat} (hn : 1 ≤ n) (hlen : cs.length = n) (hcell : ∀ j v, cs[j]? = some v → w.cell? (a.add j) = some v)
    (hc : ∀ μ, Ext m μ → c.map (conc μ) = cs) (hid : m id = none) :
    a.spot = none ∧ a.block < w.heap.size ∧ ∀ μ, Ext (setM m id ⟨a.block, a.off, 0⟩) μ → ObjRep (Cx.of P) μ w id (.row e c false false) := by
  have h0 : w.cell? (a.add 0) = some (cs[0]'(by omega)) := hcell 0 _ (List.getElem?_eq_getElem (by omega))
  rw [show a.add 0 = a by simp [Addr.add]] at h0
  obtain ⟨hs, cells, e', fz, hb, hc0⟩ := cell?_block h0
  have hadd : ∀ j, a.add j = ⟨a.block, a.off + j, none⟩ := by
    intro j
    unfold Addr.add
    split
    · rename_i h; subst h; rw [← hs]; simp
    · rw [← hs]
  have hget : ∀ j v, cs[j]? = some v → cells[a.off + j]? = some v := by
    intro j v hj
    have := hcell j v hj
    rw [hadd] at this
    simpa [World.cell?, hb] using this
  refine ⟨hs, (Array.getElem?_eq_some_iff.1 hb).1, fun μ hμ => ?_⟩
  have hloc : μ id = ⟨a.block, a.off, 0⟩ := hμ _ _ (setM_same _ _)
  have hcm := hc μ (hμ.mono (setM_mono hid))
  have hcl : c.length = n := by rw [← hlen, ← hcm]; simp
  refine ⟨cells, e', fz, by rw [hloc]; exact hb, ?_, ?_, fun h => by simp at h, fun h => by simp at h, fun h => by simp at h⟩
  · rw [hloc, hcl]
    have hlast := hget (n - 1) (cs[n - 1]'(by omega)) (List.getElem?_eq_getElem (by omega))
    have := (Array.getElem?_eq_some_iff.1 hlast).1
    simp only; omega
  · intro j v hj _
    rw [hloc]
    refine hget j _ ?_
    rw [← hcm, List.getElem?_map, hj]; rfl

theorem row_mem {a : Addr} {n j : Nat} (hj : j < n) : MemPlace.cell a.block (a.off + j) ∈ MemPlace.row a n := by
  unfold MemPlace.row
  exact List.mem_map.2 ⟨j, by simpa using hj, rfl⟩

theorem PlacesOk.row {a : Addr} {n : Nat} {p q : List MemPlace} (h : PlacesOk P w (MemPlace.row a n ++ p ++ q)) (hs : a.spot = none) {j : Nat} (hj : j < n) {u : TypeId} {v : Value} (hc : w.cell? (a.add j) = some (.iface u v)) : Value.okWide P w .any 0 u v := by
  refine h a.block (a.off + j) (by simp [row_mem hj]) u v ?_
  have hadd : a.add j = ⟨a.block, a.off + j, none⟩ := by
    unfold Addr.add
    split
    · rename_i h; subst h; rw [← hs]; simp
    · rw [← hs]
  rw [← hadd]; exact hc

theorem insert_perm {x : Lit × DataW H} : ∀ (l : List (Lit × DataW H)), (DataW.insert x l).Perm (x :: l) := by
  intro l
  induction l with
  | nil => exact List.Perm.refl _
  | cons y l ih =>
    unfold DataW.insert
    split
    · exact List.Perm.refl _
    · exact (List.Perm.cons y ih).trans (List.Perm.swap x y l)
theorem sorted_perm : ∀ (l : List (Lit × DataW H)), (l.foldr DataW.insert []).Perm l := by
  intro l
  induction l with
  | nil => exact List.Perm.refl _
  | cons x l ih => exact (insert_perm _).trans (List.Perm.cons x ih)

/-- the entries of a map, in the text's order, and as they lie -/
def entryOf (cx : Cx) (f : LayF H) (kd : TypeDesc) (e : TypeId) (agg : Bool) (x : Lit × DataW H) : Value × Value := ((litVal kd x.1).getD undef, (valOf cx f e agg x.2).getD undef)

theorem layEntries_eq {cx : Cx} {f : LayF H} {kd : TypeDesc} {e : TypeId} {agg : Bool} : ∀ (l : List (Lit × DataW H)) (es : List MapEntry), layEntries cx f kd e agg l = some es →
    es.map kvOf = l.map (entryOf cx f kd e agg) ∧ (∀ x ∈ l, ∃ k v, litVal kd x.1 = some k ∧ valOf cx f e agg x.2 = some v) := by
  intro l
  induction l with
  | nil => intro es h; simp [layEntries] at h; subst h; exact ⟨rfl, fun x hx => by simp at hx⟩
  | cons x l ih =>
    obtain ⟨k, d⟩ := x
    intro es h
    simp only [layEntries] at h
    split at h <;> (try (simp at h; done))
    rename_i kv v r h1 h2 h3
    simp at h; subst h
    obtain ⟨h4, h5⟩ := ih r h3
    refine ⟨by simp [h4, kvOf, entryOf, h1, h2], fun x hx => ?_⟩
    rcases List.mem_cons.1 hx with rfl | hx
    · exact ⟨kv, v, h1, h2⟩
    · exact h5 x hx

theorem lay_start (P : Program) (w : World) : Lay P w (fun g => if g < P.globals.size then some ⟨g, 0, 0⟩ else none) ⟨.nil, P.globals.size⟩ where
  obj := fun id o h => by simp [St.G, T.get_nil] at h
  fresh := fun i hi => by rw [if_neg (by simpa using hi)]
  glob := fun g hg => by rw [if_pos hg]

theorem keyOf_litVal {kt : TypeId} {kd : TypeDesc} {x : Value} {k : Lit} {v : Value} (hd : P.underlying kt = some kd) (hk : keyOf P kt x = some k) (hl : litVal kd k = some v) : x = v := by
  unfold keyOf at hk
  rw [hd] at hk
  cases kd <;> cases k <;> simp only [litVal] at hl <;> (try (simp at hl; done)) <;> simp only at hk <;> unfold mapKey at hk <;> rw [hd] at hk
  · simp at hl; subst hl
    split at hk <;> simp_all
  · split at hl <;> (try (simp at hl; done))
    simp at hl; subst hl
    split at hk <;> simp_all
  · simp at hl; subst hl
    split at hk <;> simp_all
    obtain ⟨h1, rfl⟩ := hk
    rfl

theorem flatL_cell {c : List Value} (h : flatL c = true) (μ : Nat → Loc) : c.map (conc μ) = c := map_flat h μ

theorem litVal_flat {kd : TypeDesc} {key : Lit} {kv : Value} (h : litVal kd key = some kv) : flat kv = true := by
  cases kd <;> cases key <;> simp only [litVal] at h <;> (try (simp at h; done))
  · simp at h; subst h; rfl
  · split at h <;> (try (simp at h; done))
    simp at h; subst h; rfl
  · simp at h; subst h; rfl

theorem eraseDups_le : ∀ (n : Nat) (l : List Nat), l.length ≤ n → l.eraseDups.length ≤ l.length ∧ (l.eraseDups.length = l.length → l.Nodup) := by
  intro n
  induction n with
  | zero => intro l h; cases l with | nil => simp | cons _ _ => simp at h
  | succ n ih =>
    intro l h
    cases l with
    | nil => simp
    | cons x l =>
      rw [List.eraseDups_cons]
      have hf : (l.filter fun b => !b == x).length ≤ l.length := List.length_filter_le _ _
      obtain ⟨h1, h2⟩ := ih (l.filter fun b => !b == x) (by simp at h; omega)
      refine ⟨by simp only [List.length_cons]; omega, fun he => ?_⟩
      simp only [List.length_cons] at he
      have hfl : (l.filter fun b => !b == x) = l := by
        apply List.filter_eq_self.2
        have : (l.filter fun b => !b == x).length = l.length := by omega
        exact List.length_filter_eq_length_iff.1 this
      have hnd := h2 (by omega)
      rw [hfl] at hnd
      rw [List.nodup_cons]
      refine ⟨fun hx => ?_, hnd⟩
      have := List.filter_eq_self.1 hfl x hx
      simp at this

theorem nodup_of_eraseDups {l : List Nat} (h : l.eraseDups.length = l.length) : l.Nodup := (eraseDups_le l.length l (Nat.le_refl _)).2 h

/-- a map as it lies -/
theorem map_rep {enc : TypeId × Value → H} {held : Bool} {f : LayF H} (hf : LayOk enc P w held False f) {k e : TypeId} {kd : TypeDesc} {agg : Bool} (hkd : (Cx.of P).desc k = some kd) (hagg : (Cx.of P).isAgg e = some agg)
    {b : Nat} {es : Array MapEntry} {clock : Nat} {tf : Nat} {entries : List ((Lit × DataW H) × List MemPlace)} (hb : w.heap[b]? = some (.map es clock)) (hbn : es.all (·.born < clock) = true ∧ (es.toList.map (·.born)).eraseDups.length = es.size)
    (hm : es.toList.mapM (fun x => (keyOf P k x.key).bind fun key => if x.val.formed P e then (DataW.trod enc P w 0 (fun _ => true) held tf e x.val.cells.toList).map fun y => ((key, y.1), y.2) else none) = some entries)
    {aes : List MapEntry} (hl : layEntries (Cx.of P) f kd e agg ((entries.map (·.1)).foldr DataW.insert []) = some aes) {m : Nat → Option Loc} {id : Nat} :
    ∀ μ, Ext (setM m id ⟨b, 0, clock⟩) μ → ObjRep (Cx.of P) μ w id (.map aes true false) := by
  intro μ hμ
  have hloc : μ id = ⟨b, 0, clock⟩ := hμ _ _ (setM_same _ _)
  obtain ⟨h1, h2⟩ := layEntries_eq _ _ hl
  obtain ⟨h3, h4⟩ := mapM_some _ _ _ hm
  have hp := sorted_perm (entries.map (·.1))
  have hund := Cx.desc_under hkd
  -- each entry as it lies
  have each : ∀ (i : Nat) x, es.toList[i]? = some x → ∃ y, entries[i]? = some y ∧ kvOf x = entryOf (Cx.of P) f kd e agg y.1 ∧ flat x.val = true := by
    intro i x hi
    obtain ⟨y, h5, h6⟩ := h4 i x hi
    have hy : y ∈ entries := List.mem_of_getElem? h5
    refine ⟨y, h5, ?_⟩
    simp only [Option.bind_eq_some_iff] at h6
    obtain ⟨key, h7, h8⟩ := h6
    split at h8 <;> (try (simp at h8; done))
    rename_i hform
    simp only [Option.map_eq_some_iff] at h8
    obtain ⟨⟨d, p⟩, h9, rfl⟩ := h8
    obtain ⟨kv, v, h10, h11⟩ := h2 (key, d) (hp.mem_iff.2 (List.mem_map.2 ⟨_, hy, rfl⟩))
    have hkey := keyOf_litVal hund h7 h10
    have hval : x.val = v ∧ flat v = true := by
      have h12 := h11
      unfold valOf at h12
      split at h12 <;> (try (simp at h12; done))
      rename_i c st1 hfe
      split at h12 <;> (try (simp at h12; done))
      rename_i hfl
      simp only [Bool.and_eq_true] at hfl
      obtain ⟨m', _, _, hv, _⟩ := hf e d ⟨.nil, P.globals.size⟩ c st1 hfe _ (lay_start P w) tf _ p h9 (fun h => h.elim) (fun h => h.elim)
      have hcells : x.val.cells.toList = c := by
        rw [← hv _ (some0_ext m'), flatL_cell hfl.1]
      have hisA := hagg
      unfold Cx.isAgg at hisA
      cases agg with
      | true =>
        simp at h12; subst h12
        cases hx : x.val with
        | agg cs => rw [hx] at hcells; simp only [Value.cells] at hcells; subst hcells; exact ⟨rfl, by simp only [flat, flatA]; exact hfl.1⟩
        | _ =>
          exfalso
          rw [hx] at hform
          simp only [Value.formed] at hform
          split at hisA <;> (try (simp at hisA; done))
          all_goals
            rename_i hde
            simp [Cx.desc_under hde] at hform
      | false =>
        simp only at h12
        split at h12 <;> (try (simp at h12; done))
        rename_i u
        simp at h12; subst h12
        have hfu : flat u = true := by have := hfl.1; simp only [flatL, Bool.and_eq_true] at this; exact this.1
        cases hx : x.val with
        | agg cs =>
          exfalso
          rw [hx] at hform
          simp only [Value.formed] at hform
          split at hisA <;> (try (simp at hisA; done))
          rename_i hns hna hde
          rw [Cx.desc_under hde] at hform
          split at hform <;> simp_all
        | _ => rw [hx] at hcells; simp only [Value.cells] at hcells; simp at hcells; exact ⟨hcells, hfu⟩
    exact ⟨by simp [kvOf, entryOf, h10, h11, hkey, hval.1], by rw [hval.1]; exact hval.2⟩
  have hmap : es.toList.map kvOf = (entries.map (·.1)).map (entryOf (Cx.of P) f kd e agg) := by
    apply List.ext_getElem?
    intro i
    rw [List.getElem?_map, List.getElem?_map, List.getElem?_map]
    cases hi : es.toList[i]? with
    | none =>
      have : entries[i]? = none := by rw [List.getElem?_eq_none_iff] at hi ⊢; omega
      rw [this]; rfl
    | some x =>
      obtain ⟨y, h5, h6, _⟩ := each i x hi
      rw [h5]
      simp [h6]
  refine ⟨⟨es.toList, clock, ?_, ?_, nodup_of_eraseDups (by simpa using hbn.2), ?_, fun _ => by rw [hloc]⟩, ?_⟩
  · rw [hloc]
    have : es.toList.map (concE μ) = es.toList := by
      apply List.ext_getElem?
      intro i
      rw [List.getElem?_map]
      cases hi : es.toList[i]? with
      | none => rfl
      | some x =>
        obtain ⟨_, _, _, h6⟩ := each i x hi
        simp [concE, conc_flat μ x.val h6]
    rw [this]
    exact hb
  · rw [h1, hmap]
    exact (hp.map _).symm
  · intro e he
    have := Array.all_eq_true_iff_forall_mem.1 hbn.1 e (by simpa using he)
    simpa using this
  · intro a ha
    have : kvOf a ∈ aes.map kvOf := List.mem_map.2 ⟨a, ha, rfl⟩
    rw [h1] at this
    obtain ⟨x, hx, hxe⟩ := List.mem_map.1 this
    obtain ⟨kv, v, h5, _⟩ := h2 x hx
    simp only [entryOf, kvOf, h5, Option.getD_some, Prod.mk.injEq] at hxe
    rw [← hxe.1]
    exact litVal_flat h5

theorem CellsOk.sub {ccs l : List Value} (h : CellsOk P w ccs) (hs : ∀ v ∈ l, v ∈ ccs) : CellsOk P w l := fun u v hv => h u v (hs _ hv)

theorem layA_ok {enc : TypeId × Value → H} {held : Bool} {hold : H → Option Value} (hh : HoldOk enc hold) : ∀ (fuel : Nat) (nm : List (String × TypeId)), nm.all (nameOk P) = true → LayOk enc P w held (nm ≠ []) (layA (Cx.of P) nm hold fuel) := by
  intro fuel
  induction fuel with
  | zero => intro nm _ t d st cs st' h; simp [layA] at h
  | succ fuel ih =>
    intro nm hnm t d st cs st' h m hm tf ccs p ht hpl hcl
    have keep : ∀ {v : Value}, cs = [v] → st' = st → ccs = [v] → flat v = true → ∃ m', (∀ i l, m i = some l → m' i = some l) ∧ Lay P w m' st' ∧ VReps m' cs ccs ∧ st.ct ≤ st'.ct := by
      intro v h1 h2 h3 h4
      subst h1; subst h2; subst h3
      exact ⟨m, fun _ _ h => h, hm, fun μ _ => by simp [conc_flat μ v h4], Nat.le_refl _⟩
    unfold layA at h
    cases hd : (Cx.of P).desc t with
    | none => rw [hd] at h; simp at h
    | some ds =>
      rw [hd] at h
      simp only at h
      have hu := Cx.desc_under hd
      cases d with
      | lit l =>
        simp only at h
        split at h <;> (try (simp at h; done))
        rename_i v hv
        simp at h; obtain ⟨rfl, rfl⟩ := h
        obtain ⟨h1, h2⟩ := litVal_ok hu hv ht
        exact keep rfl rfl h1 h2
      | nil =>
        cases ds <;> simp only at h <;> (try (simp at h; done)) <;> simp at h <;> obtain ⟨rfl, rfl⟩ := h
        · rcases trod_ptr hu ht with ⟨h1, _⟩ | ⟨_, _, _, _, _, _, _, _, h1, _⟩
          · exact keep rfl rfl h1 rfl
          · cases h1
        · rcases trod_slice hu ht with ⟨h1, _⟩ | ⟨_, _, _, _, _, _, _, _, _, _, _, h1, _⟩
          · exact keep rfl rfl h1 rfl
          · cases h1
        · rcases trod_map hu ht with ⟨h1, _⟩ | ⟨_, _, _, _, _, _, _, _, _, h1, _⟩
          · exact keep rfl rfl h1 rfl
          · cases h1
        · rcases trod_func hu ht with ⟨h1, _⟩ | ⟨_, _, _, _, h1⟩
          · exact keep rfl rfl h1 rfl
          · cases h1
        · rcases trod_iface hu ht with ⟨h1, _⟩ | ⟨_, _, _, ⟨_, h1⟩ | ⟨_, _, _, _, _, h1⟩⟩
          · exact keep rfl rfl h1 rfl
          · cases h1
          · cases h1
      | ptr d =>
        cases ds <;> simp only at h <;> (try (simp at h; done))
        rename_i e
        split at h <;> (try (simp at h; done))
        rename_i c st1 n h1 hsz
        split at h <;> (try (simp at h; done))
        rename_i hb
        simp only [Bool.and_eq_true] at hb
        simp at h; obtain ⟨rfl, rfl⟩ := h
        have hn : 1 ≤ n := Nat.le_of_ble_eq_true hb.2
        rcases trod_ptr hu ht with ⟨_, h2⟩ | ⟨a, cs', tf', d', p', rfl, h2, h3, h4, rfl⟩
        · cases h2
        · injection h4 with h4; subst h4
          rw [size_cells hsz] at h2 hpl
          obtain ⟨hlen, hcell⟩ := cells?_get h2
          have h0 : w.cell? (a.add 0) = some (cs'[0]'(by omega)) := hcell 0 _ (List.getElem?_eq_getElem (by omega))
          rw [show a.add 0 = a by simp [Addr.add]] at h0
          have hsp := (cell?_block h0).1
          obtain ⟨m1, e1, l1, v1, c1⟩ := ih nm hnm e d st c st1 h1 m hm tf' cs' p' h3 (fun hne b off hb2 => hpl hne b off (by simp [hb2])) (fun hne u v hv => by
            obtain ⟨j, hj⟩ := List.getElem?_of_mem hv
            exact (show PlacesOk P w (MemPlace.row a n ++ p' ++ []) by simpa using hpl hne).row hsp (j := j) (by have := (List.getElem?_eq_some_iff.1 hj).1; omega) (hcell j _ hj))
          have hid := l1.fresh st1.ct (Nat.le_refl _)
          obtain ⟨hs, hblk, hobj⟩ := row_rep (P := P) (e := e) (id := st1.ct) hn hlen hcell v1 hid
          refine ⟨setM m1 st1.ct ⟨a.block, a.off, 0⟩, fun i l hi => setM_mono hid _ _ (e1 i l hi), l1.new rfl hblk l1.ng hobj, ?_, by simp; omega⟩
          intro μ hμ
          have hloc : μ st1.ct = ⟨a.block, a.off, 0⟩ := hμ _ _ (setM_same _ _)
          simp only [List.map_cons, List.map_nil, conc_ptr, concAddr, hloc]
          rw [← hs]
          simp
      | slice elems spare =>
        cases ds <;> simp only at h <;> (try (simp at h; done))
        rename_i e
        cases spare with
        | cons _ _ => simp at h
        | nil =>
          simp only at h
          split at h <;> (try (simp at h; done))
          rename_i cs1 st1 n h1 hsz
          split at h <;> (try (simp at h; done))
          rename_i hb
          simp only [Bool.and_eq_true] at hb
          simp at h; obtain ⟨rfl, rfl⟩ := h
          have hn : 1 ≤ n := Nat.le_of_ble_eq_true hb.1.2
          have hne : 1 ≤ elems.length := Nat.le_of_ble_eq_true hb.2
          rcases trod_slice hu ht with ⟨_, h2⟩ | ⟨a, len, cap, tf', els, rest, rfl, hlc, hcm, h2, h3, h4, rfl⟩
          · cases h2
          · injection h4 with h4 h5
            obtain ⟨hl3, _⟩ := mapM_some _ _ _ h3
            have hr0 : rest = [] := by cases rest with | nil => rfl | cons _ _ => simp at h5
            subst hr0
            simp only [List.length_range, List.length_nil] at hl3
            obtain rfl : cap = len := by omega
            rw [size_cells hsz] at h2 hpl
            obtain ⟨hl2, hel⟩ := mapM_some _ _ _ h2
            simp only [List.length_range] at hl2
            have hdl : elems.length = cap := by rw [h4]; simp [hl2]
            -- the cells of each element
            have hget : ∀ i, i < cap → ∃ c y, els[i]? = some y ∧ w.cells? 0 (a.add (i * n)) n = some c ∧ DataW.trod enc P w 0 (fun _ => true) held tf' e c = some y := by
              intro i hi
              obtain ⟨y, h6, h7⟩ := hel i i (by simp [hi])
              simp only [Option.bind_eq_some_iff] at h7
              obtain ⟨c, h8, h9⟩ := h7
              exact ⟨c, y, h6, h8, h9⟩
            let css : List (List Value) := (List.range cap).map fun i => (w.cells? 0 (a.add (i * n)) n).getD []
            have hcss : ∀ (i : Nat) c, css[i]? = some c → w.cells? 0 (a.add (i * n)) n = some c ∧ i < cap := by
              intro i c hi
              have hlt : i < cap := by have := (List.getElem?_eq_some_iff.1 hi).1; simpa [css] using this
              obtain ⟨c', y, _, h7, _⟩ := hget i hlt
              simp only [css, List.getElem?_map, List.getElem?_range hlt, Option.map_some, Option.some.injEq] at hi
              rw [h7] at hi
              simp only [Option.getD_some] at hi
              subst hi
              exact ⟨h7, hlt⟩
            obtain ⟨c0, y0, _, h70, _⟩ := hget 0 (by omega)
            have hsp : a.spot = none := by
              obtain ⟨q1, q2⟩ := cells?_get h70
              have h0 := q2 0 (c0[0]'(by omega)) (List.getElem?_eq_getElem (by omega))
              rw [show (a.add (0 * n)).add 0 = a by simp [Addr.add]] at h0
              exact (cell?_block h0).1
            have hadd : ∀ j, a.add j = ⟨a.block, a.off + j, none⟩ := by
              intro j
              unfold Addr.add
              split
              · rename_i h; subst h; rw [← hsp]; simp
              · rw [← hsp]
            have hadd2 : ∀ i j, (a.add i).add j = a.add (i + j) := by
              intro i j
              rw [hadd, hadd]
              unfold Addr.add
              split
              · rename_i h; subst h; simp
              · simp [Nat.add_assoc]
            obtain ⟨m1, e1, l1, v1, c1, _⟩ := layParts_ok (ih nm hnm) (elems.map fun _ => e) elems st cs1 st1 h1 m hm css (els.map (·.2)) tf' (by simp [css, hdl]) (by simp [hl2, hdl])
              (fun i t' c d' p' q1 q2 q3 q4 => by
                rw [List.getElem?_map, Option.map_eq_some_iff] at q1
                obtain ⟨_, _, rfl⟩ := q1
                obtain ⟨q5, q6⟩ := hcss i c q2
                obtain ⟨c', y, q7, q8, q9⟩ := hget i q6
                rw [q5] at q8; injection q8 with q8; subst q8
                rw [h4, List.getElem?_map, q7] at q3
                rw [List.getElem?_map, q7] at q4
                simp only [Option.map_some, Option.some.injEq] at q3 q4
                subst q3; subst q4
                exact q9)
              (fun hx p' hp' b off hb2 => by
                obtain ⟨y, hy, rfl⟩ := List.mem_map.1 hp'
                exact hpl hx b off (by
                  refine List.mem_append_right _ ?_
                  simp only [List.append_nil]
                  exact List.mem_flatMap.2 ⟨y, hy, hb2⟩))
              (fun hx c hc u v hv => by
                obtain ⟨i, hi⟩ := List.getElem?_of_mem hc
                obtain ⟨q5, q6⟩ := hcss i c hi
                obtain ⟨q7, q8⟩ := cells?_get q5
                obtain ⟨j, hj⟩ := List.getElem?_of_mem hv
                have hjn : j < n := by have := (List.getElem?_eq_some_iff.1 hj).1; omega
                have hcj := q8 j _ hj
                rw [hadd2] at hcj
                refine PlacesOk.row (p := []) (q := (els ++ []).flatMap fun (x : DataW H × List MemPlace) => x.2) (n := (els.length + ([] : List (DataW H × List MemPlace)).length) * n) (by simpa using hpl hx) hsp (j := i * n + j) ?_ hcj
                simp only [hl2, List.length_nil, Nat.add_zero]
                calc i * n + j < i * n + n := by omega
                  _ = (i + 1) * n := by rw [Nat.add_mul]; omega
                  _ ≤ cap * n := Nat.mul_le_mul_right _ (by omega))
            have hlong := hb.1.1
            have hcl1 : cs1.length = cap := by
              have := congrArg List.length (v1 _ (some0_ext m1))
              simp only [List.length_map, css, List.length_range] at this
              exact this
            have hlcss : allLong n css = true := by
              have : ∀ (l : List (List Value)), (∀ c ∈ l, c.length = n) → allLong n l = true := by
                intro l
                induction l with
                | nil => intro _; rfl
                | cons x l ih => intro h; simp only [allLong, Bool.and_eq_true]; exact ⟨by rw [h x (by simp)]; simp, ih fun c hc => h c (by simp [hc])⟩
              refine this _ fun c hc => ?_
              obtain ⟨i, hi⟩ := List.getElem?_of_mem hc
              exact (cells?_get (hcss i c hi).1).1
            have hid := l1.fresh st1.ct (Nat.le_refl _)
            have hflen : (flats css).length = cap * n := by rw [flats_length _ hlcss]; simp [css]
            have hfcell : ∀ j v, (flats css)[j]? = some v → w.cell? (a.add j) = some v := by
              intro j v hj
              have hjl : j < cap * n := by have := (List.getElem?_eq_some_iff.1 hj).1; omega
              have hi : j / n < cap := Nat.div_lt_of_lt_mul (by rw [Nat.mul_comm]; exact hjl)
              have hci : css[j / n]? = some (css[j / n]'(by simpa [css] using hi)) := List.getElem?_eq_getElem _
              have := flats_get css hlcss (j / n) _ hci (j % n) (Nat.mod_lt _ (by omega))
              rw [Nat.div_add_mod' j n] at this
              rw [this] at hj
              have h9 := (cells?_get (hcss _ _ hci).1).2 _ _ hj
              rw [hadd2, Nat.div_add_mod' j n] at h9
              exact h9
            obtain ⟨_, hblk, hobj⟩ := row_rep (P := P) (e := e) (id := st1.ct) (n := cap * n) (c := flats cs1) (Nat.mul_pos (by omega) (by omega)) hflen hfcell (fun μ hμ => by rw [flats_map, v1 μ hμ]) hid
            refine ⟨setM m1 st1.ct ⟨a.block, a.off, 0⟩, fun i l hi => setM_mono hid _ _ (e1 i l hi), l1.new rfl hblk l1.ng hobj, ?_, by simp; omega⟩
            intro μ hμ
            have hloc : μ st1.ct = ⟨a.block, a.off, 0⟩ := hμ _ _ (setM_same _ _)
            have hmax : isOpen elems.length = false := by
              unfold isOpen
              rw [hdl]
              unfold maxLen at hcm
              cases hb : Nat.ble 18446744073709551616 cap with
              | false => rfl
              | true => have := Nat.le_of_ble_eq_true hb; omega
            simp only [List.map_cons, List.map_nil, conc_slice, concEnd, concCap, hmax, concAddr, hloc]
            rw [hdl, ← hsp]
            simp
      | agg parts =>
        have whole : ∀ (ts : List TypeId) (offs : List (Nat × Nat)) (cs1 : List (List Value)) (st1 : St) (xs : List (DataW H × List MemPlace)) (tf' : Nat) (n : Nat), layParts (layA (Cx.of P) nm hold fuel) ts parts st = some (cs1, st1) →
            tiles offs cs1 0 = some n → ccs.length = n → ts.length = offs.length → xs.length = ts.length → parts = xs.map (·.1) → p = xs.flatMap (·.2) →
            (∀ (i : Nat) t' o x, ts[i]? = some t' → offs[i]? = some o → xs[i]? = some x → DataW.trod enc P w 0 (fun _ => true) held tf' t' ((ccs.drop o.1).take o.2) = some x) →
            ∃ m', (∀ i l, m i = some l → m' i = some l) ∧ Lay P w m' st1 ∧ VReps m' (flats cs1) ccs ∧ st.ct ≤ st1.ct := by
          intro ts offs cs1 st1 xs tf' n h1 h2 h3 h4 h5 h6 h7 h8
          obtain ⟨m1, e1, l1, v1, c1, _⟩ := layParts_ok (ih nm hnm) ts parts st cs1 st1 h1 m hm (offs.map fun o => (ccs.drop o.1).take o.2) (xs.map (·.2)) tf' (by simp [h4]) (by simp [h5])
            (fun i t' c d' p' q1 q2 q3 q4 => by
              rw [List.getElem?_map, Option.map_eq_some_iff] at q2
              obtain ⟨o, q5, rfl⟩ := q2
              rw [h6, List.getElem?_map, Option.map_eq_some_iff] at q3
              obtain ⟨x, q6, rfl⟩ := q3
              rw [List.getElem?_map, q6] at q4
              simp only [Option.map_some, Option.some.injEq] at q4
              subst q4
              exact h8 i t' o x q1 q5 q6)
            (fun hx p' hp' b off hb2 => by
              obtain ⟨y, hy, rfl⟩ := List.mem_map.1 hp'
              exact hpl hx b off (by rw [h7]; exact List.mem_flatMap.2 ⟨y, hy, hb2⟩))
            (fun hx c hc u v hv => by
              obtain ⟨o, _, rfl⟩ := List.mem_map.1 hc
              exact hcl hx u v (List.mem_of_mem_drop (List.mem_of_mem_take hv)))
          refine ⟨m1, e1, l1, fun μ hμ => ?_, c1⟩
          rw [flats_map]
          have := tiles_eq ccs offs _ 0 n (by
            rw [← h2]
            have : ∀ (l : List (Nat × Nat)) (cs : List (List Value)) (a : Nat), tiles l (cs.map (·.map (conc μ))) a = tiles l cs a := by
              intro l
              induction l with
              | nil => intro cs a; cases cs <;> rfl
              | cons x l ih => intro cs a; cases cs with
                | nil => rfl
                | cons c cs => simp only [List.map_cons, tiles, List.length_map, ih]
            exact this offs cs1 0) (Nat.zero_le _) h3.symm (v1 μ hμ)
          rw [this]; simp
        cases ds <;> simp only at h <;> (try (simp at h; done))
        · rename_i n e
          split at h <;> (try (simp at h; done))
          rename_i cs1 st1 mm k h1 hsz hn
          split at h <;> (try (simp at h; done))
          rename_i hb
          simp only [Bool.and_eq_true] at hb
          have hk := Nat.eq_of_beq_eq_true hb.2
          simp at h; obtain ⟨rfl, rfl⟩ := h
          obtain ⟨tf', xs, h2, h3, h4, h5⟩ := trod_array hu ht
          injection h4 with h4
          rw [size_cells hsz] at h3
          obtain ⟨q1, q2⟩ := mapM_some _ _ _ h3
          simp only [List.length_range] at q1
          have hlen1 : cs1.length = n := by
            have : ∀ (ts : List TypeId) (ds : List (DataW H)) (st : St) (cs : List (List Value)) (st' : St), layParts (layA (Cx.of P) nm hold fuel) ts ds st = some (cs, st') → cs.length = ts.length := by
              intro ts
              induction ts with
              | nil => intro ds st cs st' h; cases ds <;> simp [layParts] at h; simp [h.1]
              | cons t ts ih =>
                intro ds st cs st' h
                cases ds with
                | nil => simp [layParts] at h
                | cons d ds =>
                  simp only [layParts] at h
                  split at h <;> (try (simp at h; done))
                  split at h <;> (try (simp at h; done))
                  rename_i hr
                  simp at h; obtain ⟨rfl, _⟩ := h
                  simp [ih _ _ _ _ hr]
            have := this _ _ _ _ _ h1
            simpa using this
          have htl : ∀ (l : List Nat) (cs : List (List Value)) (s : Nat), allLong mm cs = true → cs.length = l.length → (∀ i (x : Nat), l[i]? = some x → x = s + i) → tiles (l.map fun i => (i * mm, mm)) cs (s * mm) = some ((s + l.length) * mm) := by
            intro l
            induction l with
            | nil => intro cs s _ hl _; cases cs <;> simp at hl; simp [tiles]
            | cons x l ih =>
              intro cs s hlong hl hx
              cases cs with
              | nil => simp at hl
              | cons c cs =>
                simp only [allLong, Bool.and_eq_true] at hlong
                have hx0 := hx 0 x rfl
                simp only [Nat.add_zero] at hx0
                subst hx0
                simp only [List.map_cons, tiles, hlong.1, Bool.and_true]
                have : Nat.beq (x * mm) (x * mm) = true := by simp
                rw [this]
                simp only
                rw [show x * mm + mm = (x + 1) * mm by rw [Nat.add_mul]; omega, ih cs (x + 1) hlong.2 (by simpa using hl) (fun i y hy => by have := hx (i + 1) y (by simpa using hy); omega)]
                simp only [List.length_cons]
                congr 2
                omega
          have htl0 := htl (List.range n) cs1 0 hb.1 (by simp [hlen1]) (fun i x hx => by
            rw [List.getElem?_range (by have := (List.getElem?_eq_some_iff.1 hx).1; simpa using this)] at hx
            simp at hx; omega)
          simp only [Nat.zero_mul, List.length_range, Nat.zero_add] at htl0
          refine whole _ ((List.range n).map fun i => (i * mm, mm)) cs1 st1 xs tf' (n * mm) h1 htl0 (by rw [h2, size_cells hn, hk]) (by simp) (by simp [q1]) h4 h5 ?_
          intro i t' o x g1 g2 g3
          rw [List.getElem?_map, Option.map_eq_some_iff] at g1
          obtain ⟨f, g4, rfl⟩ := g1
          rw [List.getElem?_map, g4] at g2
          simp only [Option.map_some, Option.some.injEq] at g2
          subst g2
          obtain ⟨y, g5, g6⟩ := q2 i f g4
          rw [g3] at g5; injection g5 with g5; subst g5
          exact g6
        · rename_i fs
          split at h <;> (try (simp at h; done))
          rename_i cs1 st1 sz n h1 hsz hn
          split at h <;> (try (simp at h; done))
          rename_i k htl
          split at h <;> (try (simp at h; done))
          rename_i hk
          have hk := Nat.eq_of_beq_eq_true hk
          simp at h; obtain ⟨rfl, rfl⟩ := h
          obtain ⟨tf', xs, h2, h3, h4, h5⟩ := trod_struct hu ht
          injection h4 with h4
          obtain ⟨q1, q2⟩ := mapM_some _ _ _ h3
          have hsz2 : ∀ (fs : List Field) (sz : List (Nat × Nat)), fieldSizes (Cx.of P) fs = some sz → sz = fs.map fun f => (f.offset, P.cellsOf f.type) := by
            intro fs
            induction fs with
            | nil => intro sz h; simp [fieldSizes] at h; subst h; rfl
            | cons f fs ih =>
              intro sz h
              simp only [fieldSizes] at h
              split at h <;> (try (simp at h; done))
              rename_i n hn
              split at h <;> (try (simp at h; done))
              rename_i r hr
              simp at h; subst h
              rw [ih r hr]; simp [size_cells hn]
          have hsz3 := hsz2 _ _ hsz
          refine whole _ sz cs1 st1 xs tf' k h1 htl (by rw [h2, size_cells hn, hk]) (by simp [hsz3]) (by simp [q1]) h4 h5 ?_
          intro i t' o x g1 g2 g3
          rw [List.getElem?_map, Option.map_eq_some_iff] at g1
          obtain ⟨f, g4, rfl⟩ := g1
          rw [hsz3, List.getElem?_map, g4] at g2
          simp only [Option.map_some, Option.some.injEq] at g2
          subst g2
          obtain ⟨y, g5, g6⟩ := q2 i f g4
          rw [g3] at g5; injection g5 with g5; subst g5
          exact g6
      | iface name d =>
        cases ds <;> simp only at h <;> (try (simp at h; done))
        split at h <;> (try (simp at h; done))
        rename_i u hty
        split at h <;> (try (simp at h; done))
        rename_i e hud
        split at h <;> (try (simp at h; done))
        rename_i v st1 h1
        simp at h; obtain ⟨rfl, rfl⟩ := h
        rcases trod_iface hu ht with ⟨_, h2⟩ | ⟨u', v', rfl, ⟨_, h2⟩ | ⟨name', tf', d', h2, h3, h4⟩⟩
        · cases h2
        · cases h2
        · injection h4 with h4 h5
          subst h4; subst h5
          have hne : nm ≠ [] := by rintro rfl; simp [typeOf] at hty
          have := typeOf_ok nm hnm _ _ _ hty h2
          subst this
          have hok := hcl hne u' v' (by simp)
          have hv' : v'.cells.toList = [v'] := by
            unfold Value.okWide at hok
            rw [Cx.desc_under hud] at hok
            unfold Cell.okWide at hok
            rw [Cx.desc_under hud] at hok
            unfold Cell.ok at hok
            rw [Cx.desc_under hud] at hok
            cases v' <;> simp [Value.cells] at hok ⊢
          have hnif : ∀ uu vv, v' ≠ .iface uu vv := by
            rintro uu vv rfl
            unfold Value.okWide at hok
            rw [Cx.desc_under hud] at hok
            unfold Cell.okWide at hok
            rw [Cx.desc_under hud] at hok
            unfold Cell.ok at hok
            rw [Cx.desc_under hud] at hok
            simp at hok
          rw [hv'] at h3
          obtain ⟨m1, e1, l1, v1, c1⟩ := ih nm hnm u' d st [v] st1 h1 m hm tf' [v'] p h3 hpl (fun _ uu vv hvv => absurd (List.mem_singleton.1 hvv).symm (hnif uu vv))
          refine ⟨m1, e1, l1, fun μ hμ => ?_, c1⟩
          have := v1 μ hμ
          simp only [List.map_cons, List.map_nil, List.cons.injEq, and_true] at this
          simp [conc, this]
      | held hv =>
        cases ds <;> simp only at h <;> (try (simp at h; done))
        split at h <;> (try (simp at h; done))
        rename_i v hv1
        split at h <;> (try (simp at h; done))
        rename_i hfl
        simp at h; obtain ⟨rfl, rfl⟩ := h
        rcases trod_func hu ht with ⟨_, h1⟩ | ⟨fn, first, cap, h1, h2⟩
        · cases h1
        · injection h2 with h2
          have := hh _ _ _ _ _ _ h2.symm hv1
          subst this
          exact keep rfl rfl h1 hfl
      | map entries =>
        cases ds <;> simp only at h <;> (try (simp at h; done))
        rename_i k e
        split at h <;> (try (simp at h; done))
        rename_i kd agg hkd hagg
        split at h <;> (try (simp at h; done))
        rename_i aes hl
        simp at h; obtain ⟨rfl, rfl⟩ := h
        rcases trod_map hu ht with ⟨_, h1⟩ | ⟨b, es, clock, tf', ents, rfl, h1, hbn, h2, h3, _⟩
        · cases h1
        · injection h3 with h3
          subst h3
          have hf0 : LayOk enc P w held False (layA (Cx.of P) [] hold fuel) := by
            have := ih [] (by rfl)
            intro t d st cs st' a1 m a2 tf ccs p a3 _ _
            exact this t d st cs st' a1 m a2 tf ccs p a3 (fun h => absurd rfl h) (fun h => absurd rfl h)
          have hid := hm.fresh st.ct (Nat.le_refl _)
          have hobj := map_rep hf0 hkd hagg h1 hbn h2 hl (m := m) (id := st.ct)
          refine ⟨setM m st.ct ⟨b, 0, clock⟩, setM_mono hid, hm.new rfl (Array.getElem?_eq_some_iff.1 h1).1 hm.ng hobj, fun μ hμ => ?_, by simp⟩
          have hloc : μ st.ct = ⟨b, 0, clock⟩ := hμ _ _ (setM_same _ _)
          simp [hloc]

end
end Go.Ai

/-! What package-level variables hold when a call begins: the state. -/
namespace Go.Ai
open Go

abbrev VarL (H : Type) := List (Nat × TypeId × DataW H)

def layVars {H : Type} (f : LayF H) : VarL H → St → Option St
  | [], st => some st
  | (g, t, d) :: l, st => match f t d st with
    | some (cs, st1) => layVars f l ⟨st1.hp.set g (.row t cs false false), st1.ct⟩
    | none => none

/-- the variable's number and type -/
def varOf (P : Program) (n : String) : Option (Nat × TypeId) := match P.globalNamed n with
  | some g => match P.globals[g]? with
    | some gl => some (g, gl.type)
    | none => none
  | none => none

def plainVars (P : Program) : List (String × DataW Unit) → Option (VarL Unit)
  | [] => some []
  | (n, d) :: l => match varOf P n, plainVars P l with
    | some (g, t), some r => some ((g, t, d) :: r)
    | _, _ => none

def tabVars (P : Program) : List (String × DataW Unit) → Option (VarL (List UInt8))
  | [] => some []
  | (n, d) :: l => match varOf P n, d.funcsIn?, tabVars P l with
    | some (g, t), some d, some r => some ((g, t, d.funcsOut) :: r)
    | _, _, _ => none

def holdOf (P : Program) : List Nat → List UInt8 → Option Value
  | [], _ => none
  | f :: l, h => match P.funcs[f]? with
    | some fn => match decide (fn.name.toUTF8.data.toList = h) && decide (h ≠ []) && decide (P.funcNamed fn.name = some f) with
      | true => some (.func (.func f) #[] #[])
      | false => holdOf P l h
    | none => none

def isTab (x : String × DataW Unit) : Bool := x.2.handleName?.isSome

/-- the abstract heap of a call without arguments -/
def laidStart (P : Program) (nm : List (String × TypeId)) (fs : List Nat) (laid : List (String × DataW Unit)) : Option St :=
  match plainVars P (laid.filter fun x => x.2.handleName?.isNone), tabVars P (laid.filter fun x => x.2.handleName?.isSome) with
  | some l1, some l2 => match layVars (layA (Cx.of P) nm (fun _ => none) 100) l1 ⟨.nil, P.globals.size⟩ with
    | some st1 => layVars (layA (Cx.of P) [] (holdOf P fs) 100) l2 st1
    | none => none
  | _, _ => none

section
variable {P : Program} {w : World} {H : Type}

theorem holdOf_ok (fs : List Nat) : HoldOk (funcToken P) (holdOf P fs) := by
  intro t fn first cap h v he hv
  induction fs with
  | nil => simp [holdOf] at hv
  | cons f0 l ih =>
    simp only [holdOf] at hv
    split at hv <;> (try (simp at hv; done))
    rename_i fn0 hf0
    split at hv
    · rename_i hc
      simp only [Bool.and_eq_true, decide_eq_true_eq] at hc
      obtain ⟨⟨h1, h2⟩, h3⟩ := hc
      simp at hv; subst hv
      unfold funcToken at he
      split at he <;> (try (simp_all; done))
      rename_i f first' cap' heq
      simp only [Prod.mk.injEq, Value.func.injEq] at heq
      obtain ⟨_, rfl, rfl, rfl⟩ := heq
      split at he
      · rename_i hemp
        simp only [Bool.and_eq_true, Array.isEmpty_iff] at hemp
        split at he
        · rename_i fn1 hf1
          split at he
          · rename_i hn1
            simp only [beq_iff_eq] at hn1
            have : fn1.name = fn0.name := by
              rw [← h1] at he
              have : fn1.name.toUTF8 = fn0.name.toUTF8 := by
                apply ByteArray.ext
                exact Array.ext' he
              exact String.toByteArray_inj.1 this
            rw [this, h3] at hn1
            injection hn1 with hn1
            subst hn1
            rw [hemp.1, hemp.2]
          · exact absurd he.symm h2
        · exact absurd he.symm h2
      · exact absurd he.symm h2
    · exact ih hv

structure VarAt (enc : TypeId × Value → H) (P : Program) (w : World) (held : Bool) (need : Prop) (x : Nat × TypeId × DataW H) : Prop where
  ex : ∃ (cs : Array Value) (e : TypeId) (fz : Nat × Nat) (tf : Nat) (p : List MemPlace), x.1 < P.globals.size ∧ w.heap[x.1]? = some (.cells cs e fz) ∧ DataW.trod enc P w 0 (fun _ => true) held tf x.2.1 cs.toList = some (x.2.2, p) ∧ (need → PlacesOk P w p) ∧ (need → CellsOk P w cs.toList)

theorem layVars_ok {enc : TypeId × Value → H} {held : Bool} {need : Prop} {f : LayF H} (hf : LayOk enc P w held need f) : ∀ (l : VarL H) (st st' : St), layVars f l st = some st' → ∀ m, Lay P w m st → (∀ x ∈ l, VarAt enc P w held need x) →
    ∃ m', (∀ i l, m i = some l → m' i = some l) ∧ Lay P w m' st' := by
  intro l
  induction l with
  | nil => intro st st' h m hm _; simp [layVars] at h; subst h; exact ⟨m, fun _ _ h => h, hm⟩
  | cons x l ih =>
    obtain ⟨g, t, d⟩ := x
    intro st st' h m hm hat
    simp only [layVars] at h
    split at h <;> (try (simp at h; done))
    rename_i cs1 st1 h1
    obtain ⟨cs, e, fz, tf, p, hg, hb, htr, hp, hc⟩ := (hat (g, t, d) (by simp)).ex
    simp only at hg hb htr
    obtain ⟨m1, e1, l1, v1, _⟩ := hf t d st cs1 st1 h1 m hm tf cs.toList p htr hp hc
    have hlay : Lay P w m1 ⟨st1.hp.set g (.row t cs1 false false), st1.ct⟩ := by
      refine ⟨?_, l1.fresh, l1.glob⟩
      intro id o hgo
      simp only [St.G, T.get_set] at hgo
      split at hgo
      · rename_i heq; subst heq
        injection hgo with hgo; subst hgo
        have hm1 := l1.glob id hg
        refine ⟨⟨_, hm1, (Array.getElem?_eq_some_iff.1 hb).1⟩, rfl, fun μ hμ => ?_⟩
        have hloc : μ id = ⟨id, 0, 0⟩ := hμ _ _ hm1
        have hv := v1 μ hμ
        refine ⟨cs, e, fz, by rw [hloc]; exact hb, ?_, ?_, fun h => by simp at h, fun h => by simp at h, fun h => by simp at h⟩
        · rw [hloc]
          have : cs1.length = cs.size := by rw [← Array.length_toList, ← hv]; simp
          simp [this]
        · intro j v hj _
          rw [hloc, ← Array.getElem?_toList, ← hv, List.getElem?_map]
          simp [hj]
      · exact l1.obj id o hgo
    obtain ⟨m2, e2, l2⟩ := ih _ st' h m1 hlay (fun x hx => hat x (by simp [hx]))
    exact ⟨m2, fun i l hi => e2 i l (e1 i l hi), l2⟩

theorem varOf_spec {n : String} {g : Nat} {t : TypeId} (h : varOf P n = some (g, t)) : P.globalNamed n = some g ∧ (P.globals[g]?).map (·.type) = some t ∧ g < P.globals.size := by
  unfold varOf at h
  split at h <;> (try (simp at h; done))
  rename_i g' hg
  split at h <;> (try (simp at h; done))
  rename_i gl hgl
  simp at h; obtain ⟨rfl, rfl⟩ := h
  exact ⟨hg, by simp [hgl], (Array.getElem?_eq_some_iff.1 hgl).1⟩

theorem var?_heap {n : String} {g : Nat} {cs : Array Value} (hg : P.globalNamed n = some g) (h : w.var? P n = some cs) : ∃ e fz, w.heap[g]? = some (.cells cs e fz) := by
  unfold World.var? at h
  rw [hg] at h
  simp only [Option.bind_some] at h
  split at h <;> (try (simp at h; done))
  rename_i e fz hb
  simp at h; subst h
  exact ⟨e, fz, hb⟩

theorem plainVars_at : ∀ (laid : List (String × DataW Unit)) (l : VarL Unit) (ps qs : List MemPlace), plainVars P laid = some l → DataW.LaidVars P w laid ps →
    (∀ b off, MemPlace.cell b off ∈ ps → ∀ u v, w.cell? ⟨b, off, none⟩ = some (.iface u v) → Value.okWide P w .any 0 u v) → ∀ (need : Prop), ∀ x ∈ l, VarAt (fun _ => ()) P w false need x := by
  intro laid
  induction laid with
  | nil => intro l ps qs h _ _ _ x hx; simp [plainVars] at h; subst h; simp at hx
  | cons y laid ih =>
    obtain ⟨n, d⟩ := y
    intro l ps qs h hl hok need x hx
    simp only [plainVars] at h
    split at h <;> (try (simp at h; done))
    rename_i g t r hv hr
    simp at h; subst h
    obtain ⟨h1, h2, h3⟩ := varOf_spec hv
    obtain ⟨g', t', cs, tf, p, q, k1, k2, k3, k4, k5, rfl⟩ := hl
    rw [h1] at k1; injection k1 with k1; subst k1
    rw [h2] at k2; injection k2 with k2; subst k2
    rcases List.mem_cons.1 hx with rfl | hx
    · obtain ⟨e, fz, hb⟩ := var?_heap h1 k3
      refine ⟨cs, e, fz, tf, p, h3, hb, k4, fun _ b off hm => hok b off (by simp [hm]), fun _ u v huv => ?_⟩
      obtain ⟨j, hj⟩ := List.getElem?_of_mem huv
      have hjl : j < cs.size := by have := (List.getElem?_eq_some_iff.1 hj).1; simpa using this
      refine hok g j ?_ u v ?_
      · have := row_mem (a := ⟨g, 0, none⟩) hjl
        simp only [Nat.zero_add] at this
        simp [this]
      · simp only [World.cell?, hb]
        simpa using hj
    · exact ih r q qs hr k5 (fun b off hm => hok b off (by simp [hm])) need x hx

theorem tabVars_at : ∀ (laid : List (String × DataW Unit)) (l : VarL (List UInt8)), tabVars P laid = some l → handlesMet P laid w → ∀ x ∈ l, VarAt (funcToken P) P w true False x := by
  intro laid
  induction laid with
  | nil => intro l h _ x hx; simp [tabVars] at h; subst h; simp at hx
  | cons y laid ih =>
    obtain ⟨n, d⟩ := y
    intro l h hl x hx
    simp only [tabVars] at h
    split at h <;> (try (simp at h; done))
    rename_i g t d' r hv hd hr
    simp at h; subst h
    obtain ⟨h1, h2, h3⟩ := varOf_spec hv
    rcases List.mem_cons.1 hx with rfl | hx
    · have := hl (n, d) (by simp)
      simp only [hd] at this
      obtain ⟨g', t', cs, tf, p, k1, k2, k3, k4⟩ := this
      rw [h1] at k1; injection k1 with k1; subst k1
      rw [h2] at k2; injection k2 with k2; subst k2
      obtain ⟨e, fz, hb⟩ := var?_heap h1 k3
      exact ⟨cs, e, fz, tf, p, h3, hb, k4, fun h => h.elim, fun h => h.elim⟩
    · exact ih r hr (fun x hx => hl x (by simp [hx])) x hx

/-- WHAT THE CONDITION ON THE LAID VARIABLES GIVES: the abstract heap. -/
theorem laidStart_rep {nm : List (String × TypeId)} {fs : List Nat} {laid : List (String × DataW Unit)} {st : St} (hnm : nm.all (nameOk P) = true) (h : laidStart P nm fs laid = some st) (hl : laidMetH P laid w) :
    ∃ m, Rep (Cx.of P) m st.G w ∧ (∀ i, st.ct ≤ i → m i = none) ∧ ∀ id o, st.G id o → o.isWr = false := by
  unfold laidStart at h
  split at h <;> (try (simp at h; done))
  rename_i l1 l2 h1 h2
  split at h <;> (try (simp at h; done))
  rename_i st1 h3
  have hpl : laidMet P (laid.filter fun x => x.2.handleName?.isNone) w ∧ handlesMet P (laid.filter fun x => x.2.handleName?.isSome) w := by
    unfold laidMetH at hl
    split at hl
    · rename_i hnil
      have : laid.filter (fun x => x.2.handleName?.isNone) = laid := by
        rw [List.filter_eq_self]
        intro x hx
        have := List.filter_eq_nil_iff.1 hnil x hx
        simpa using this
      rw [this]
      refine ⟨hl, fun x hx => ?_⟩
      rw [hnil] at hx; simp at hx
    · rename_i h hs heq
      rw [heq]; exact hl
  obtain ⟨⟨ps, hps, _, hok⟩, hhm⟩ := hpl
  obtain ⟨m1, _, k1⟩ := layVars_ok (layA_ok (enc := fun _ => ()) (held := false) (hold := fun _ => none) (fun _ _ _ _ _ _ _ h => by cases h) 100 nm hnm) l1 _ st1 h3 _ (lay_start P w)
    (plainVars_at _ l1 ps [] h1 hps (fun b off hm => (hok b off hm).2) _)
  obtain ⟨m2, _, k2⟩ := layVars_ok (layA_ok (held := true) (holdOf_ok (P := P) fs) 100 [] rfl) l2 _ st h m1 k1 (fun x hx => by
    obtain ⟨cs, e, fz, tf, p, q1, q2, q3, _, _⟩ := (tabVars_at _ l2 h2 hhm x hx).ex
    exact ⟨cs, e, fz, tf, p, q1, q2, q3, fun h => absurd rfl h, fun h => absurd rfl h⟩)
  refine ⟨m2, ⟨fun id o hg => (k2.obj id o hg).1, fun μ hμ id o hg => (k2.obj id o hg).2.2 μ hμ, ?_, k2.glob⟩, k2.fresh, fun id o hg => (k2.obj id o hg).2.1⟩
  intro i j oi oj li lj hi _ hw
  rw [(k2.obj i oi hi).2.1] at hw; cases hw

end
end Go.Ai

/-! A law without arguments, run by the abstract interpreter. -/
namespace Go.Ai
open Go Go.ChangeShapes Go.WideShapes Go.RowKit

/-- nothing that was there has turned -/
structure Stays (W W' : World) : Prop where
  os : W'.os = W.os
  output : W'.output = W.output
  size : W.heap.size ≤ W'.heap.size
  block : ∀ b, b < W.heap.size → W'.heap[b]? = W.heap[b]?

theorem Stays.keptBut {W W' : World} (h : Stays W W') (may : MemPlace → Prop) : W.keptBut W' may := by
  refine ⟨h.os, h.output, fun i hi => ?_⟩
  rw [h.block i hi]
  cases W.heap[i]? with
  | none => trivial
  | some o => cases o <;> simp

section
variable {P : Program}

theorem Step.stays {m m' : Nat → Option Loc} {G G' : Nat → AObj → Prop} {w w' : World} {ct ct' : Nat} (h : Step (Cx.of P) m G w ct m' G' w' ct') (hro : ∀ id o, G id o → o.isWr = false) : Stays w w' where
  os := h.fr.os
  output := h.fr.output
  size := h.fr.size
  block := fun b hb => h.fr.block b hb fun id o l hg hw => by rw [hro id o hg] at hw; cases hw

/-- the run of a law without arguments -/
noncomputable def closedRun (P : Program) (ex : List (Nat × Xt)) (nm : List (String × TypeId)) (fs : List Nat) (laid : List (String × DataW Unit)) (n f : Nat) : Bool :=
  ex.all (extFits P) && nm.all (nameOk P) && match laidStart P nm fs laid with
    | some st => match call (Cx.of P) (ovOf (Cx.of P) ex) n f [] st with
      | some (.bool true, _) => true
      | _ => false
    | none => false

theorem closed_calls (hmix : P.follows .mixedOrders = true) {ex : List (Nat × Xt)} {nm : List (String × TypeId)} {fs : List Nat} {laid : List (String × DataW Unit)} {n f : Nat} (h : closedRun P ex nm fs laid n f = true)
    {fn : Func} (hfn : P.funcs[f]? = some fn) (hb : fn.body.isSome = true) (hnm : (fn.name == "runtime.NumGoroutine") = false) {W : World} (hl : laidMetH P laid W) :
    Calls P f #[] W fun e W' => e = .returned (.bool true) ∧ Stays W W' := by
  unfold closedRun at h
  simp only [Bool.and_eq_true] at h
  obtain ⟨⟨h1, h2⟩, h3⟩ := h
  split at h3 <;> (try (cases h3; done))
  rename_i st hst
  split at h3 <;> (try (cases h3; done))
  rename_i st' hrun
  obtain ⟨m, hR, hfr, hro⟩ := laidStart_rep h2 hst hl
  have hc := call_sound hmix (ovOf_ok h1) (ovOf_mono ex) (ovOf_ids ex) hrun hR (cargs := []) (fun μ _ => rfl) (fun i hi _ => hfr i hi)
  have hent : (callFunc f #[]).run P W = .ok (.enter f #[]) W := by
    have h1 : fn.name ≠ "runtime.NumGoroutine" := by simpa using hnm
    obtain ⟨c, hc⟩ := Option.isSome_iff_exists.1 hb
    simp [callFunc, hfn, h1, hc]
  rcases hc with ⟨v, w', h4, _⟩ | ⟨_, h5⟩
  · rw [hent] at h4; cases h4
  · refine h5.mono fun e W' ⟨v, he, m', hs, hv⟩ => ?_
    have : v = .bool true := (hv _ (some0_ext m')).symm
    subst this
    exact ⟨he, hs.stays hro⟩

variable {H : Type} {enc : TypeId × Value → H}

/-- the words of the row, where nothing that was there has turned -/
theorem post_stays {f : Func} {s : ChangeSpec} {apart fresh handsOn again : Bool} {W W' : World} {args : Array Value} {v : Value} {ds gs : List (DataW H)} {before pa pv : List MemPlace}
    (hW : DataW.Whole enc P f.params.toList s.vars apart W args.toList ds gs before)
    (hres : ∀ (b : Nat) (sp : Nat → Bool) (hd : Bool), DataW.TrodAll enc P W' b sp hd f.resultTypes.toList (v.resultList f.resultTypes.size) (s.fn H (ds ++ gs)).results [])
    (hargs : ∀ sp : Nat → Bool, (∀ p ∈ before, sp p.block = true) → DataW.TrodAll enc P W' 0 sp true f.params.toList args.toList (s.fn H (ds ++ gs)).args pa)
    (hvars : ∀ sp : Nat → Bool, (∀ p ∈ before, sp p.block = true) → DataW.TrodVars enc P W' sp s.vars (s.fn H (ds ++ gs)).vars pv)
    (hps : before = pa ++ pv) (hk : Stays W W')
    (hok : ∀ (j : Nat) (t : TypeId) (r : Value), f.resultTypes[j]? = some t → (v.resultList f.resultTypes.size)[j]? = some r → Value.okWide P W' .any 0 t r) :
    s.post enc P f apart fresh handsOn again W args v W' := by
  have hold : ∀ p ∈ before, (fun b => decide (b < W.heap.size)) p.block = true := fun p hp => by simpa using hW.lt p hp
  refine ⟨ds, gs, before, [], pa, pv, hW, hres _ _ _, hargs _ hold, hvars _ hold, hk.keptBut _, fun _ => ?_⟩
  have hlt := hW.lt
  obtain ⟨_, _, _, _, _, hz, hn⟩ := hW
  refine ⟨hok, _, _, ([] ++ pa) ++ pv, ⟨[] ++ pa, pv, trodAll_append (hargs _ (fun _ _ => rfl)) (hres _ _ _), hvars _ (fun _ _ => rfl), rfl, ?_, ?_⟩, ?_⟩
  · intro b off hp
    have hp' : MemPlace.cell b off ∈ before := by rw [hps]; simpa using hp
    have := hz b off hp'
    have hb : b < W.heap.size := hlt _ hp'
    unfold World.frozen? at this ⊢
    rw [hk.block b hb]; exact this
  · intro ha
    have := hn ha
    rw [hps] at this
    simpa using this
  · intro p hp _
    rw [hps]
    simpa using hp

/-- a table's cells -/
def pinCells : DataW Unit → Array Value
  | .agg l => ⟨l.map fun d => match d with
    | .lit (.int k n) => .int k n
    | _ => undef⟩
  | _ => #[]

/-- a world with some variables' cells laid by hand -/
def pinWorld (w : World) : List (Nat × DataW Unit) → World
  | [] => w
  | (g, d) :: l => pinWorld { w with heap := w.heap.modify g fun o => match o with
    | .cells _ t fz => .cells (pinCells d) t fz
    | o => o } l

theorem closed_lifted {C : Checked} {os : Os} (started : os.Started) {f : FuncId} {fn : Func} {s : ChangeSpec} {laid : List (String × DataW Unit)} {ex : List (Nat × Xt)} {nm : List (String × TypeId)} {fs : List Nat} {n : Nat} {tb : TypeId} {apart fresh : Bool}
    (own : ownKnob C.prog.godebug = none) (noInit : C.prog.inits.idxOf? f = none) (hfn : C.prog.funcs[f]? = some fn) (hb : fn.body.isSome = true) (hname : (fn.name == "runtime.NumGoroutine") = false)
    (hp : fn.params = #[]) (hr : fn.resultTypes = #[tb]) (ht : C.prog.underlying tb = some .bool) (hv : s.vars = []) (hs : s.fn H [] = { results := [.lit (.bool true)], args := [] })
    (hrun : closedRun C.prog ex nm fs laid n f = true)
    (witness : ∃ (w : World) (tape : Tape) (i : Input), w.os = os ∧ (w.forCall tape i).Shaped C.prog ∧ i.vars = [] ∧ Input.okWide C.prog (w.forCall tape i) .any w.heap.size f i ∧
      ((s.pre enc C.prog fn [] apart (w.forCall tape i).memory i.args ∧ laidMetH C.prog laid (w.forCall tape i).memory) ∧ sizedMet enc C.prog fn (OpenSpec.ofChange s) apart (w.forCall tape i).memory i.args) ∧ ({} : Assume).holds C.prog (lone (Frame.enter C.prog f i.args .normal) [] (w.forCall tape i))) :
    ReturnsInHanded {} C os f .any (fun w args => (s.pre enc C.prog fn [] apart w args ∧ laidMetH C.prog laid w) ∧ sizedMet enc C.prog fn (OpenSpec.ofChange s) apart w args) (s.post enc C.prog fn apart fresh false false) := by
  refine returnsInHanded_of_change_and (C := C) (X := fun w _ => laidMetH C.prog laid w) (fun _ _ _ hh h => h.of_heap hh) own started noInit hfn witness ?_
  intro W base args ds gs before hval0 hW _ _ hL _
  have hW' := hW
  obtain ⟨p, q, hA, hV, rfl, hfz, hnd⟩ := hW
  rw [hp] at hA
  rw [hv] at hV
  obtain ⟨rfl, rfl, rfl⟩ := trodAll_none hA
  obtain ⟨rfl, rfl⟩ := trodVars_none hV
  refine (closed_calls C.mixed hrun hfn hb hname hL).mono fun e W' ⟨he, hst⟩ => ?_
  subst he
  refine ⟨_, rfl, post_stays (pa := []) (pv := []) hW' (fun b sp hd => ?_) (fun sp _ => ?_) (fun _ _ => ?_) rfl hst (ok_one hr rfl (okWide_bool_mk ht _))⟩
  · simp only [List.append_nil, hs, hr]
    exact trodAll_mk1 (shut_bool ht true)
  · simp only [List.append_nil, hs, hp]
    rfl
  · simp only [List.append_nil, hs, hv]
    rfl

end
end Go.Ai

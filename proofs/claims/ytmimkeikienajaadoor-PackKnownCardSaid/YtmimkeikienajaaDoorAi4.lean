/- The abstract interpreter and its soundness, part 4 of 4: by an AI agent. -/
import Derived.Test.YtmimkeikienajaaDoorAi3
import Derived.Laws.Externs
import Derived.Lib.BytesEntry
import Derived.Lib.MakeNoZero
import Derived.KernelRfl
import Derived.LaidLaws
import Derived.ProofKit
import Derived.LaidMore
import Derived.LaidHandle
import Derived.Stop.Joined

/-! The words for functions without a Go body are sound. -/
namespace Go.Ai
open Go

def extRow (fn : Func) : Xt → (Array Value → Sem Value)
  | .indexByte => Extern.BytealgIndexByte.indexByte
  | .count => Extern.BytealgCount.count
  | .same => Extern.AbiNoEscape.same
  | .makeNoZero _ => Extern.BytealgMakeNoZero.makeNoZero fn.params fn.resultTypes

theorem next_empty : Extern.allNextRows.lookup "" = none := by kernel_rfl

theorem find_next {fn : Func} (n : String) (hn : fn.name = n) (ho : fn.origin = "") (h : Extern.allNextRows.lookup n = none) : Extern.findNext fn = none := by
  unfold Extern.findNext
  simp [hn, ho, h, next_empty]

theorem find_plain {fn : Func} (n : String) (hn : fn.name = n) (r : Array Value → Sem Value) (h1 : Extern.allGenericRows.lookup n = none) (h2 : Extern.allTypedRows.lookup n = none) (h3 : Extern.allRows.lookup n = some r) : Extern.find fn = some r := by
  unfold Extern.find
  simp [hn, h1, h2, h3]

theorem find_typed {fn : Func} (n : String) (hn : fn.name = n) (r : Extern.Typed) (h1 : Extern.allGenericRows.lookup n = none) (h2 : Extern.allTypedRows.lookup n = some r) : Extern.find fn = some (r fn.params fn.resultTypes) := by
  unfold Extern.find
  simp [hn, h1, h2]

theorem fits_find {P : Program} {k : Nat} {e : Xt} (h : extFits P (k, e) = true) : ∃ fn, P.funcs[k]? = some fn ∧ (fn.name == "runtime.NumGoroutine") = false ∧ fn.body.isNone = true ∧ Extern.findNext fn = none ∧ Extern.find fn = some (extRow fn e) ∧
    (∀ t, e = .makeNoZero t → ∃ rt, fn.resultTypes = #[rt] ∧ (Cx.of P).desc rt = some (.slice t)) := by
  unfold extFits at h
  simp only at h
  split at h <;> (try (cases h; done))
  rename_i fn hfn
  simp only [Bool.and_eq_true, List.contains_iff_mem, beq_iff_eq] at h
  obtain ⟨⟨⟨hname, hbody⟩, horig⟩, hlast⟩ := h
  refine ⟨fn, hfn, ?_, hbody, ?_, ?_, ?_⟩
  · cases e <;> simp only [extNames, List.mem_cons, List.not_mem_nil, or_false] at hname <;> (first | (rcases hname with hname | hname <;> rw [hname] <;> rfl) | (rw [hname]; rfl))
  · cases e <;> simp only [extNames, List.mem_cons, List.not_mem_nil, or_false] at hname
    · rcases hname with hname | hname
      · exact find_next _ hname horig (by kernel_rfl)
      · exact find_next _ hname horig (by kernel_rfl)
    · rcases hname with hname | hname
      · exact find_next _ hname horig (by kernel_rfl)
      · exact find_next _ hname horig (by kernel_rfl)
    · exact find_next _ hname horig (by kernel_rfl)
    · exact find_next _ hname horig (by kernel_rfl)
  · cases e <;> simp only [extNames, List.mem_cons, List.not_mem_nil, or_false] at hname <;> simp only [extRow]
    · rcases hname with hname | hname
      · exact find_plain _ hname _ (by kernel_rfl) (by kernel_rfl) (by kernel_rfl)
      · exact find_plain _ hname _ (by kernel_rfl) (by kernel_rfl) (by kernel_rfl)
    · rcases hname with hname | hname
      · exact find_plain _ hname _ (by kernel_rfl) (by kernel_rfl) (by kernel_rfl)
      · exact find_plain _ hname _ (by kernel_rfl) (by kernel_rfl) (by kernel_rfl)
    · exact find_plain _ hname _ (by kernel_rfl) (by kernel_rfl) (by kernel_rfl)
    · exact find_typed _ hname _ (by kernel_rfl) (by kernel_rfl)
  · rintro t rfl
    simp only at hlast
    split at hlast <;> (try (cases hlast; done))
    rename_i rt hrt
    split at hlast <;> (try (cases hlast; done))
    rename_i e' he'
    exact ⟨rt, by apply Array.ext'; simpa using hrt, by rw [he', Nat.eq_of_beq_eq_true hlast]⟩

section
variable {P : Program} {m : Nat → Option Loc} {st : St} {w : World}

theorem bytesOf_run (hR : Rep (Cx.of P) m st.G w) {x : Value} {l : List UInt8} (h : bytesA x st = some l) {μ : Nat → Loc} (hμ : Ext m μ) :
    (Extern.Bytes.bytesOf (conc μ x)).run P w = .ok ⟨⟨l⟩⟩ w := by
  unfold bytesA at h
  split at h
  · simp at h; subst h; simp [Extern.Bytes.bytesOf]
  · simp at h; subst h; simp [Extern.Bytes.bytesOf]; rfl
  · rename_i a n c
    split at h <;> (try (simp at h; done))
    rename_i cs hrd
    obtain ⟨hlen, hsp, hcell⟩ := readCells_cell hR hrd hμ
    obtain ⟨ns, rfl, rfl⟩ := bytesOfCells_eq _ _ h
    simp only [conc_slice, Extern.Bytes.bytesOf]
    rw [List.length_map] at hlen
    subst hlen
    cases ns with
    | nil => simp [Extern.Bytes.loadBytes]; rfl
    | cons y ns =>
      have hc : concEnd μ a (concCap μ a.block c) = concAddr μ a := by
        simp [concEnd, hsp (by simp)]
      rw [hc]
      rw [Lib.run_loadBytesX w (y :: ns) _ _ (fun j x hj => by
        have := hcell j (.int .u8 x) (by rw [List.getElem?_map, hj]; rfl)
        simpa using this)]
      simp [Lib.bytesOf]
  · simp at h

theorem idxByte_eq (c : UInt8) : ∀ (l : List UInt8) (k : Nat), (idxByte c l k = none ∧ Lib.indexByte l c = -1) ∨ ∃ i, idxByte c l k = some (k + i) ∧ Lib.indexByte l c = i := by
  intro l
  induction l with
  | nil => intro k; exact .inl ⟨rfl, rfl⟩
  | cons b l ih =>
    intro k
    simp only [idxByte, Lib.indexByte]
    cases hb : Nat.beq b.toNat c.toNat with
    | true =>
      have : b = c := UInt8.toNat_inj.1 (Nat.eq_of_beq_eq_true hb)
      subst this
      exact .inr ⟨0, rfl, by simp⟩
    | false =>
      have hne : (b == c) = false := by
        cases h : b == c with
        | false => rfl
        | true =>
          rw [beq_iff_eq] at h; subst h
          simp at hb
      simp only [hne]
      rcases ih (k + 1) with ⟨h1, h2⟩ | ⟨i, h1, h2⟩
      · exact .inl ⟨h1, by rw [h2]; rfl⟩
      · refine .inr ⟨i + 1, by rw [h1]; congr 1; omega, ?_⟩
        rw [h2]
        have : ((i : Int) == -1) = false := by simp
        simp [this]

theorem cntByte_eq (c : UInt8) : ∀ (l : List UInt8) (n : Nat), cntByte c l n = n + Lib.countByte l c := by
  intro l
  induction l with
  | nil => intro n; simp [cntByte, Lib.countByte]
  | cons b l ih =>
    intro n
    simp only [cntByte, Lib.countByte]
    cases hb : Nat.beq b.toNat c.toNat with
    | true =>
      have : b = c := UInt8.toNat_inj.1 (Nat.eq_of_beq_eq_true hb)
      subst this
      simp only [ih, List.count_cons_self, Lib.countByte]; omega
    | false =>
      have hne : b ≠ c := by rintro rfl; simp at hb
      simp only [ih, Lib.countByte]
      rw [List.count_cons_of_ne hne]

/-- the bytes alone count -/
theorem entry_bytes {x : Value} {l : List UInt8} {f : ByteArray → Sem Value} {r : Value} (hx : (Extern.Bytes.bytesOf x).run P w = .ok ⟨⟨l⟩⟩ w)
    (h : (do let b ← Extern.Bytes.bytesOf (.string ⟨⟨l⟩⟩); f b : Sem Value).run P w = .ok r w) : (do let b ← Extern.Bytes.bytesOf x; f b : Sem Value).run P w = .ok r w := by
  rw [Sem.run_bind] at h ⊢
  rw [hx]
  exact h

theorem indexByte_run {x : Value} {l : List UInt8} (hx : (Extern.Bytes.bytesOf x).run P w = .ok ⟨⟨l⟩⟩ w) (c : Int) :
    (Extern.BytealgIndexByte.indexByte #[x, .int .u8 c]).run P w = .ok (orNeg (idxByte (UInt8.ofNat c.toNat) l 0)) w := by
  refine entry_bytes (f := fun b => do
    let c ← Extern.Bytes.asByte (.int .u8 c)
    match (List.range b.size).find? fun i => b[i]! == c with
    | some i => pure (goInt i)
    | none => pure (goInt (-1))) hx ?_
  refine (Lib.run_indexByteString (P := P) ⟨⟨l⟩⟩ c w).trans ?_
  rcases idxByte_eq (UInt8.ofNat c.toNat) l 0 with ⟨h1, h2⟩ | ⟨i, h1, h2⟩
  · rw [h1]
    have : Lib.indexByte l c.toNat.toUInt8 = -1 := h2
    simp only [this]; rfl
  · rw [h1]
    have : Lib.indexByte l c.toNat.toUInt8 = i := h2
    simp only [this, Nat.zero_add]; rfl

theorem count_run {x : Value} {l : List UInt8} (hx : (Extern.Bytes.bytesOf x).run P w = .ok ⟨⟨l⟩⟩ w) (c : Int) :
    (Extern.BytealgCount.count #[x, .int .u8 c]).run P w = .ok (goInt (cntByte (UInt8.ofNat c.toNat) l 0)) w := by
  refine entry_bytes (f := fun b => do
    let c ← Extern.Bytes.asByte (.int .u8 c)
    pure (goInt (b.foldl (fun n x => if x == c then n + 1 else n) (0 : Nat)))) hx ?_
  refine (Lib.run_countString (P := P) ⟨⟨l⟩⟩ c w).trans ?_
  rw [cntByte_eq, Nat.zero_add]
  rfl

theorem holes_get : ∀ (n j : Nat) (v : Value), (holes n)[j]? = some v → v = hole := by
  intro n
  induction n with
  | zero => intro j v h; simp [holes] at h
  | succ n ih =>
    intro j v h
    cases j with
    | zero => simp [holes] at h; exact h.symm
    | succ j => simp [holes] at h; exact ih j v h
theorem holes_length : ∀ n, (holes n).length = n := by
  intro n
  induction n with
  | zero => rfl
  | succ n ih => simp [holes, ih]

theorem heap_alloc_old (w : World) (o : Obj) (k : Nat) (hk : k < w.heap.size) : (w.alloc o).heap[k]? = w.heap[k]? := by
  show (w.heap.push _)[k]? = _
  rw [Array.getElem?_push]; simp [Nat.ne_of_lt hk]

/-- WHAT IS SAID OF A FUNCTION WITHOUT A GO BODY IS SO. -/
theorem ext_ok {k : Nat} {e : Xt} (hfit : extFits P (k, e) = true) {args : List Value} {st' : St} {v : Value} (h : extA (Cx.of P) e args st = some (v, st'))
    {cargs : List Value} (hR : Rep (Cx.of P) m st.G w) (ha : VReps m args cargs) (hf : Fresh m st.ct st'.ct) : FnOk P k cargs.toArray w (CallPost (Cx.of P) m st w v st') := by
  obtain ⟨fn, hfn, hname, hb, hnext, hfind, hmk⟩ := fits_find hfit
  have hcall := fun args => run_callFunc_extern hfn hname hb hnext hfind args w
  have hμ0 := some0_ext m
  have same : ∀ {r : Value}, (∀ μ, Ext m μ → (extRow fn e cargs.toArray).run P w = .ok (conc μ r) w) → v = r → st' = st → FnOk P k cargs.toArray w (CallPost (Cx.of P) m st w v st') := by
    intro r h1 h2 h3
    subst h2; subst h3
    refine .inl ⟨conc (some0 m) v, w, ?_, m, Step.refl hR, fun μ hμ => ?_⟩
    · rw [hcall, h1 _ hμ0]; rfl
    · have := h1 μ hμ
      rw [h1 _ hμ0] at this
      injection this with this
      exact this.symm
  cases e with
  | indexByte =>
    simp only [extA] at h
    split at h <;> (try (simp at h; done))
    rename_i x c
    split at h <;> (try (simp at h; done))
    rename_i l hl
    simp at h; obtain ⟨rfl, rfl⟩ := h
    refine same (r := orNeg (idxByte (UInt8.ofNat c.toNat) l 0)) (fun μ hμ => ?_) rfl rfl
    have h1 := ha μ hμ
    simp only [List.map_cons, List.map_nil, conc_int] at h1
    subst h1
    refine (indexByte_run (bytesOf_run hR hl hμ) c).trans ?_
    congr 1
    cases idxByte (UInt8.ofNat c.toNat) l 0 <;> simp [orNeg, goInt]
  | count =>
    simp only [extA] at h
    split at h <;> (try (simp at h; done))
    rename_i x c
    split at h <;> (try (simp at h; done))
    rename_i l hl
    simp at h; obtain ⟨rfl, rfl⟩ := h
    refine same (r := goInt (cntByte (UInt8.ofNat c.toNat) l 0)) (fun μ hμ => ?_) rfl rfl
    have h1 := ha μ hμ
    simp only [List.map_cons, List.map_nil, conc_int] at h1
    subst h1
    refine (count_run (bytesOf_run hR hl hμ) c).trans ?_
    simp [goInt]
  | same =>
    simp only [extA] at h
    split at h <;> (try (simp at h; done))
    rename_i x
    simp at h; obtain ⟨rfl, rfl⟩ := h
    refine same (r := x) (fun μ hμ => ?_) rfl rfl
    have h1 := ha μ hμ
    simp only [List.map_cons, List.map_nil] at h1
    subst h1
    rfl
  | makeNoZero e =>
    simp only [extA] at h
    split at h <;> (try (simp at h; done))
    rename_i n
    split at h <;> (try (simp at h; done))
    rename_i hsz
    split at h <;> (try (simp at h; done))
    rename_i hn
    simp only [decide_eq_true_eq] at hn
    simp at h; obtain ⟨rfl, rfl⟩ := h
    obtain ⟨rt, hrt, hd⟩ := hmk e rfl
    have h1 := ha _ hμ0
    simp only [List.map_cons, List.map_nil, conc_int] at h1
    subst h1
    obtain ⟨n, rfl⟩ : ∃ k : Nat, n = k := ⟨n.toNat, by omega⟩
    obtain ⟨cs, hrun, hge, hle⟩ := Lib.run_makeNoZero (P := P) w fn.params rt e (Cx.desc_under hd) n (by omega)
    have hid : m st.ct = none := hf _ (Nat.le_refl _) (by simp)
    have hle' : cs.size ≤ 9223372036854775807 := by
      have := hle (by unfold maxLen; omega)
      unfold maxLen at this; omega
    refine .inl ⟨.slice (some ⟨w.heap.size, 0, none⟩) n cs.size, w.drew.drew.alloc (.cells cs e), ?_, setM m st.ct ⟨w.heap.size, 0, cs.size, .nilFunc⟩, Step.newObj hR hid ⟨?_, rfl, rfl, rfl, ?_⟩ rfl ?_, ?_⟩
    · rw [hcall]
      simp only [extRow, hrt]
      rw [hrun]; rfl
    · show (w.heap.push _).size = _
      simp
    · intro k hk
      have := heap_alloc_old w.drew.drew (.cells cs e) k hk
      exact this
    · intro μ hμ
      have hloc : μ st.ct = ⟨w.heap.size, 0, cs.size, .nilFunc⟩ := hμ _ _ (setM_same _ _)
      refine ⟨cs, _, (0, 0), ?_, ?_, ?_, ?_, ?_, fun _ => ⟨rfl, fun h => by cases h⟩⟩
      · rw [hloc]; exact heap_alloc_new w.drew.drew _
      · rw [hloc, holes_length]; simp; omega
      · intro j v hj hcv
        rw [holes_get _ _ _ hj] at hcv
        simp [hole, isCell] at hcv
      · intro _ k _; simp
      · intro _ q hq
        rw [hsz] at hq; injection hq with hq; subst hq
        rw [hloc, holes_length]
        simp
        omega
    · intro μ hμ
      have hloc : μ st.ct = ⟨w.heap.size, 0, cs.size, .nilFunc⟩ := hμ _ _ (setM_same _ _)
      simp [concEnd, concAddr, concCap, hloc, isOpen, openCap]

theorem ovOf_mem {cx : Cx} : ∀ (l : List (Nat × Xt)) (f : Nat) (g : List Value → St → Option (Value × St)), ovOfF cx l f = some g → ∃ e, (f, e) ∈ l ∧ g = extA cx e := by
  intro l
  induction l with
  | nil => intro f g h; simp [ovOfF] at h
  | cons p l ih =>
    obtain ⟨k, e⟩ := p
    intro f g h
    simp only [ovOfF] at h
    cases hk : Nat.beq k f with
    | true =>
      rw [hk] at h
      simp at h; subst h
      have := Nat.eq_of_beq_eq_true hk
      subst this
      exact ⟨e, by simp, rfl⟩
    | false =>
      rw [hk] at h
      obtain ⟨e', h1, h2⟩ := ih f g h
      exact ⟨e', by simp [h1], h2⟩

theorem ovOf_ok {l : List (Nat × Xt)} (h : l.all (extFits P) = true) : OvOk P (ovOf (Cx.of P) l) := by
  refine ⟨?_, fun _ _ _ _ _ _ _ _ h => by cases h⟩
  intro f g args st v st' hg hr m w cargs hR ha hf
  obtain ⟨e, hm, rfl⟩ := ovOf_mem _ _ _ hg
  exact ext_ok (List.all_eq_true.1 h _ hm) hr hR ha hf

theorem extA_st {cx : Cx} {e : Xt} {args : List Value} {st st' : St} {v : Value} (h : extA cx e args st = some (v, st')) : st' = st ∨ ∃ o, st' = ⟨st.hp.set st.ct o, st.ct + 1⟩ := by
  cases e <;> simp only [extA] at h <;> (repeat' (split at h)) <;> (try (simp at h; done)) <;> (simp at h; obtain ⟨_, rfl⟩ := h)
  · exact .inl rfl
  · exact .inl rfl
  · exact .inl rfl
  · exact .inr ⟨_, rfl⟩

theorem ovOf_mono {cx : Cx} (l : List (Nat × Xt)) : OvMono (ovOf cx l) := by
  refine ⟨?_, (fun _ _ _ _ _ _ _ _ h => by cases h), fun _ _ _ _ _ _ _ _ h => by cases h⟩
  intro f g args st v st' hg hr
  obtain ⟨e, _, rfl⟩ := ovOf_mem _ _ _ hg
  rcases extA_st hr with rfl | ⟨o, rfl⟩
  · exact Nat.le_refl _
  · simp

theorem ovOf_ids {cx : Cx} (l : List (Nat × Xt)) : OvIds (ovOf cx l) := by
  refine ⟨?_, fun _ _ _ _ _ _ _ _ h => by cases h⟩
  intro f g args st v st' hg hr
  obtain ⟨e, _, rfl⟩ := ovOf_mem _ _ _ hg
  rcases extA_st hr with rfl | ⟨o, rfl⟩
  · exact Ids.refl _
  · exact Ids.add

end
end Go.Ai

/-! What package-level variables hold when a call begins, as an abstract heap: definitions, and their soundness. -/
namespace Go.Ai
open Go
noncomputable section

/-! ### definitions -/
def litVal : TypeDesc → Lit → Option Value
  | .bool, .bool b => some (.bool b)
  | .int k, .int q n => match decide (q = k) with
    | true => some (.int k n)
    | false => none
  | .string, .string l => some (.string ⟨⟨l⟩⟩)
  | _, _ => none

abbrev LayF (H : Type) := TypeId → DataW H → St → Option (List Value × St)

def layParts {H : Type} (f : LayF H) : List TypeId → List (DataW H) → St → Option (List (List Value) × St)
  | [], [], st => some ([], st)
  | t :: ts, d :: ds, st => match f t d st with
    | some (c, st1) => match layParts f ts ds st1 with
      | some (r, st2) => some (c :: r, st2)
      | none => none
    | none => none
  | _, _, _ => none

def flats : List (List Value) → List Value
  | [] => []
  | c :: l => c ++ flats l

/-- do the parts lie one behind the other, as long as is said? -/
def tiles : List (Nat × Nat) → List (List Value) → Nat → Option Nat
  | [], [], at_ => some at_
  | (o, n) :: l, c :: cs, at_ => match Nat.beq o at_ && Nat.beq c.length n with
    | true => tiles l cs (at_ + n)
    | false => none
  | _, _, _ => none

def allLong (n : Nat) : List (List Value) → Bool
  | [] => true
  | c :: l => Nat.beq c.length n && allLong n l

def fieldSizes (cx : Cx) : List Field → Option (List (Nat × Nat))
  | [] => some []
  | f :: l => match cx.size f.type with
    | some n => match fieldSizes cx l with
      | some r => some ((f.offset, n) :: r)
      | none => none
    | none => none

/-- a value that lies in no row -/
def valOf {H : Type} (cx : Cx) (f : LayF H) (e : TypeId) (agg : Bool) (d : DataW H) : Option Value :=
  match f e d ⟨.nil, cx.ng⟩ with
  | some (c, st1) => match flatL c && Nat.beq st1.ct cx.ng with
    | true => match agg with
      | true => some (.agg ⟨c⟩)
      | false => match c with
        | [v] => some v
        | _ => none
    | false => none
  | none => none

def layEntries {H : Type} (cx : Cx) (f : LayF H) (kd : TypeDesc) (e : TypeId) (agg : Bool) : List (Lit × DataW H) → Option (List MapEntry)
  | [] => some []
  | (k, d) :: l => match litVal kd k, valOf cx f e agg d, layEntries cx f kd e agg l with
    | some kv, some v, some r => some ({ key := kv, val := v, born := 0 } :: r)
    | _, _, _ => none

def typeOf (nm : List (String × TypeId)) (n : String) : Option TypeId := match nm with
  | [] => none
  | (m, t) :: l => match decide (n = "*" ++ m) with
    | true => some t
    | false => typeOf l n

def layA {H : Type} (cx : Cx) (nm : List (String × TypeId)) (hold : H → Option Value) : Nat → LayF H
  | 0 => fun _ _ _ => none
  | fuel + 1 => fun t d st => match cx.desc t with
    | none => none
    | some ds => match d with
      | .lit l => match litVal ds l with
        | some v => some ([v], st)
        | none => none
      | .nil => match ds with
        | .pointer _ => some ([.pointer none], st)
        | .slice _ => some ([.slice none 0 0], st)
        | .interface _ => some ([.nilIface], st)
        | .map _ _ => some ([.map none], st)
        | .func _ _ _ => some ([.nilFunc], st)
        | _ => none
      | .ptr d => match ds with
        | .pointer e => match layA cx nm hold fuel e d st, cx.size e with
          | some (c, st1), some n => match Nat.beq c.length n && Nat.ble 1 n with
            | true => some ([.pointer (some ⟨st1.ct, 0, none⟩)], ⟨st1.hp.set st1.ct (.row e c false false), st1.ct + 1⟩)
            | false => none
          | _, _ => none
        | _ => none
      | .slice elems spare => match ds, spare with
        | .slice e, [] => match layParts (layA cx nm hold fuel) (elems.map fun _ => e) elems st, cx.size e with
          | some (cs, st1), some n => match allLong n cs && Nat.ble 1 n && Nat.ble 1 elems.length with
            | true => some ([.slice (some ⟨st1.ct, 0, none⟩) elems.length elems.length], ⟨st1.hp.set st1.ct (.row e (flats cs) false false), st1.ct + 1⟩)
            | false => none
          | _, _ => none
        | _, _ => none
      | .agg parts => match ds with
        | .struct fs => match layParts (layA cx nm hold fuel) (fs.toList.map (·.type)) parts st, fieldSizes cx fs.toList, cx.size t with
          | some (cs, st1), some sz, some n => match tiles sz cs 0 with
            | some k => match Nat.beq k n with
              | true => some (flats cs, st1)
              | false => none
            | none => none
          | _, _, _ => none
        | .array n e => match layParts (layA cx nm hold fuel) ((List.range n).map fun _ => e) parts st, cx.size e, cx.size t with
          | some (cs, st1), some m, some k => match allLong m cs && Nat.beq (n * m) k with
            | true => some (flats cs, st1)
            | false => none
          | _, _, _ => none
        | _ => none
      | .iface name d => match ds with
        | .interface _ => match typeOf nm name with
          | some u => match cx.desc u with
            | some (.pointer _) => match layA cx nm hold fuel u d st with
              | some ([v], st1) => some ([.iface u v], st1)
              | _ => none
            | _ => none
          | none => none
        | _ => none
      | .held h => match ds with
        | .func _ _ _ => match hold h with
          | some v => match flat v with
            | true => some ([v], st)
            | false => none
          | none => none
        | _ => none
      | .map entries => match ds with
        | .map k e => match cx.desc k, cx.isAgg e with
          | some kd, some agg => match layEntries cx (layA cx [] hold fuel) kd e agg entries with
            | some es => some ([.map (some st.ct)], ⟨st.hp.set st.ct (.map es true false), st.ct + 1⟩)
            | none => none
          | _, _ => none
        | _ => none

/-! ### soundness -/
/-- the name tells the type -/
def nameOk (P : Program) : String × TypeId → Bool
  | (m, tp) => ((List.range P.types.size).all fun u => P.typeName? 3 u != some ("*" ++ m) || u == tp) &&
    ((List.range P.types.size).all fun e => P.typeName? 2 e != some m || (match (P.info? e).map (·.desc) with | some (TypeDesc.named _ _) => true | _ => false)) && (m.toList.head? != some '*')

theorem typeOf_ok {P : Program} : ∀ (nm : List (String × TypeId)), nm.all (nameOk P) = true → ∀ n t u, typeOf nm n = some t → P.typeName? 3 u = some n → u = t := by
  intro nm
  induction nm with
  | nil => intro _ n t u h; simp [typeOf] at h
  | cons p nm ih =>
    obtain ⟨m, tp⟩ := p
    intro hall n t u h hu
    simp only [List.all_cons, Bool.and_eq_true] at hall
    simp only [typeOf] at h
    split at h
    · rename_i hn
      simp only [decide_eq_true_eq] at hn
      simp at h; subst h
      have h1 := hall.1
      simp only [nameOk, Bool.and_eq_true, bne_iff_ne] at h1
      subst hn
      exact typeName_ptr_named h1.1.1 h1.1.2 h1.2 u hu
    · exact ih hall.2 n t u h hu

theorem size_cells {P : Program} {t : TypeId} {n : Nat} (h : (Cx.of P).size t = some n) : P.cellsOf t = n := by
  obtain ⟨i, hi, rfl⟩ := size_info h
  simp [Program.cellsOf, Cx.info hi]

theorem flats_length {n : Nat} : ∀ (l : List (List Value)), allLong n l = true → (flats l).length = l.length * n := by
  intro l
  induction l with
  | nil => intro _; simp [flats]
  | cons c l ih =>
    intro h
    simp only [allLong, Bool.and_eq_true] at h
    simp only [flats, List.length_append, ih h.2, List.length_cons, Nat.eq_of_beq_eq_true h.1]
    rw [Nat.add_mul]; omega

theorem flats_map (f : Value → Value) : ∀ (l : List (List Value)), (flats l).map f = flats (l.map (·.map f)) := by
  intro l
  induction l with
  | nil => rfl
  | cons c l ih => simp [flats, ih]

theorem flats_get {n : Nat} : ∀ (l : List (List Value)), allLong n l = true → ∀ i c, l[i]? = some c → ∀ j, j < n → (flats l)[i * n + j]? = c[j]? := by
  intro l
  induction l with
  | nil => intro _ i c h; simp at h
  | cons x l ih =>
    intro h i c hi j hj
    simp only [allLong, Bool.and_eq_true] at h
    have hx := Nat.eq_of_beq_eq_true h.1
    cases i with
    | zero =>
      simp at hi; subst hi
      simp only [flats, Nat.zero_mul, Nat.zero_add]
      rw [List.getElem?_append_left (by omega)]
    | succ i =>
      simp at hi
      simp only [flats]
      rw [List.getElem?_append_right (by rw [Nat.add_mul]; omega), show (i + 1) * n + j - x.length = i * n + j by rw [Nat.add_mul]; omega]
      exact ih h.2 i c hi j hj

theorem tiles_eq (cs : List Value) : ∀ (l : List (Nat × Nat)) (parts : List (List Value)) (a k : Nat), tiles l parts a = some k → a ≤ cs.length → k = cs.length →
    parts = l.map (fun x => (cs.drop x.1).take x.2) → flats parts = cs.drop a := by
  intro l
  induction l with
  | nil =>
    intro parts a k h ha hk hp
    cases parts with
    | nil => simp [tiles] at h; subst h; subst hk; simp [flats]
    | cons c parts => simp [tiles] at h
  | cons p l ih =>
    obtain ⟨o, n⟩ := p
    intro parts a k h ha hk hp
    cases parts with
    | nil => simp [tiles] at h
    | cons c parts =>
      simp only [tiles] at h
      split at h <;> (try (simp at h; done))
      rename_i hb
      simp only [Bool.and_eq_true] at hb
      have h1 := Nat.eq_of_beq_eq_true hb.1
      have h2 := Nat.eq_of_beq_eq_true hb.2
      subst h1
      simp only [List.map_cons, List.cons.injEq] at hp
      obtain ⟨hc, hp⟩ := hp
      have hlen : o + n ≤ cs.length := by
        rw [hc, List.length_take, List.length_drop] at h2; omega
      simp only [flats]
      rw [ih parts (o + n) k h hlen hk hp, hc, ← List.drop_drop, List.take_append_drop]

section
variable {P : Program} {w : World} {H : Type}

structure Lay (P : Program) (w : World) (m : Nat → Option Loc) (st : St) : Prop where
  obj : ∀ id o, st.G id o → (∃ l, m id = some l ∧ l.blk < w.heap.size) ∧ o.isWr = false ∧ ∀ μ, Ext m μ → ObjRep (Cx.of P) μ w id o
  fresh : ∀ i, st.ct ≤ i → m i = none
  glob : ∀ g, g < P.globals.size → m g = some ⟨g, 0, 0, .nilFunc⟩

def CellsOk (P : Program) (w : World) (ccs : List Value) : Prop := ∀ u v, .iface u v ∈ ccs → Value.okWide P w .any 0 u v
def PlacesOk (P : Program) (w : World) (p : List MemPlace) : Prop := ∀ b off, MemPlace.cell b off ∈ p → ∀ u v, w.cell? ⟨b, off, none⟩ = some (.iface u v) → Value.okWide P w .any 0 u v

/-- ('need': is it to be known what lies in interfaces?) -/
def LayOk (enc : TypeId × Value → H) (P : Program) (w : World) (held : Bool) (need : Prop) (f : LayF H) : Prop :=
  ∀ t d st cs st', f t d st = some (cs, st') → ∀ m, Lay P w m st → ∀ tf ccs p, DataW.trod enc P w 0 (fun _ => true) held tf t ccs = some (d, p) → (need → PlacesOk P w p) → (need → CellsOk P w ccs) →
    ∃ m', (∀ i l, m i = some l → m' i = some l) ∧ Lay P w m' st' ∧ VReps m' cs ccs ∧ st.ct ≤ st'.ct

theorem VReps.mono {m m' : Nat → Option Loc} {vs cvs : List Value} (h : VReps m vs cvs) (hm : ∀ i l, m i = some l → m' i = some l) : VReps m' vs cvs := fun μ hμ => h μ (hμ.mono hm)

theorem Lay.new {m : Nat → Option Loc} {st : St} (h : Lay P w m st) {o : AObj} {l : Loc} (ho : o.isWr = false) (hl : l.blk < w.heap.size) (_hng : P.globals.size ≤ st.ct)
    (hobj : ∀ μ, Ext (setM m st.ct l) μ → ObjRep (Cx.of P) μ w st.ct o) : Lay P w (setM m st.ct l) ⟨st.hp.set st.ct o, st.ct + 1⟩ where
  obj := by
    have hn := h.fresh st.ct (Nat.le_refl _)
    intro id o' hg
    simp only [St.G, T.get_set] at hg
    split at hg
    · rename_i e; subst e
      injection hg with hg; subst hg
      exact ⟨⟨l, setM_same _ _, hl⟩, ho, hobj⟩
    · rename_i hne
      obtain ⟨⟨l', h1, h2⟩, h3, h4⟩ := h.obj id o' hg
      exact ⟨⟨l', setM_mono hn _ _ h1, h2⟩, h3, fun μ hμ => h4 μ (hμ.mono (setM_mono hn))⟩
  fresh := by
    intro i hi
    simp only at hi
    simp only [setM]
    rw [if_neg (by omega)]
    exact h.fresh i (by omega)
  glob := fun g hg => setM_mono (h.fresh st.ct (Nat.le_refl _)) _ _ (h.glob g hg)

theorem Lay.ng {m : Nat → Option Loc} {st : St} (h : Lay P w m st) : P.globals.size ≤ st.ct := by
  rcases Nat.lt_or_ge st.ct P.globals.size with h1 | h1
  · have := h.glob st.ct h1
    rw [h.fresh st.ct (Nat.le_refl _)] at this; cases this
  · exact h1

/-- parts, each with its own cells -/
theorem layParts_ok {enc : TypeId × Value → H} {held : Bool} {need : Prop} {f : LayF H} (hf : LayOk enc P w held need f) : ∀ (ts : List TypeId) (ds : List (DataW H)) (st : St) (cs : List (List Value)) (st' : St), layParts f ts ds st = some (cs, st') →
    ∀ m, Lay P w m st → ∀ (css : List (List Value)) (ps : List (List MemPlace)) (tf : Nat), css.length = ts.length → ps.length = ts.length →
      (∀ (i : Nat) t c d p, ts[i]? = some t → css[i]? = some c → ds[i]? = some d → ps[i]? = some p → DataW.trod enc P w 0 (fun _ => true) held tf t c = some (d, p)) →
      (need → ∀ p ∈ ps, PlacesOk P w p) → (need → ∀ c ∈ css, CellsOk P w c) →
      ∃ m', (∀ i l, m i = some l → m' i = some l) ∧ Lay P w m' st' ∧ (∀ μ, Ext m' μ → cs.map (·.map (conc μ)) = css) ∧ st.ct ≤ st'.ct ∧ ds.length = ts.length := by
  intro ts
  induction ts with
  | nil =>
    intro ds st cs st' h m hm css ps tf hcs hps _ _ _
    cases ds with
    | nil =>
      simp [layParts] at h
      obtain ⟨rfl, rfl⟩ := h
      cases css with
      | nil => exact ⟨m, fun _ _ h => h, hm, fun _ _ => rfl, Nat.le_refl _, rfl⟩
      | cons c css => simp at hcs
    | cons d ds => simp [layParts] at h
  | cons t ts ih =>
    intro ds st cs st' h m hm css ps tf hcs hps htr hpl hcl
    cases ds with
    | nil => simp [layParts] at h
    | cons d ds =>
      cases css with
      | nil => simp at hcs
      | cons cc css =>
        cases ps with
        | nil => simp at hps
        | cons p ps =>
          simp only [layParts] at h
          split at h <;> (try (simp at h; done))
          rename_i c st1 h1
          split at h <;> (try (simp at h; done))
          rename_i r st2 h2
          simp at h; obtain ⟨rfl, rfl⟩ := h
          obtain ⟨m1, e1, l1, v1, c1⟩ := hf t d st c st1 h1 m hm tf cc p (htr 0 t cc d p rfl rfl rfl rfl) (fun hn => hpl hn p (by simp)) (fun hn => hcl hn cc (by simp))
          obtain ⟨m2, e2, l2, v2, c2, hlen⟩ := ih ds st1 r st2 h2 m1 l1 css ps tf (by simpa using hcs) (by simpa using hps)
            (fun i t' c' d' p' q1 q2 q3 q4 => htr (i + 1) t' c' d' p' (by simpa using q1) (by simpa using q2) (by simpa using q3) (by simpa using q4)) (fun hn p hp => hpl hn p (by simp [hp])) (fun hn c hc => hcl hn c (by simp [hc]))
          refine ⟨m2, fun i l hi => e2 i l (e1 i l hi), l2, fun μ hμ => ?_, by omega, by simp [hlen]⟩
          simp only [List.map_cons, v2 μ hμ]
          rw [v1 μ (hμ.mono e2)]

def HoldOk (enc : TypeId × Value → H) (hold : H → Option Value) : Prop := ∀ t fn first cap h v, enc (t, .func fn first cap) = h → hold h = some v → v = .func fn first cap

theorem mapM_some {α β : Type} (f : α → Option β) : ∀ (l : List α) (r : List β), l.mapM f = some r → r.length = l.length ∧ ∀ (i : Nat) a, l[i]? = some a → ∃ b, r[i]? = some b ∧ f a = some b := by
  intro l
  induction l with
  | nil => intro r h; simp at h; subst h; exact ⟨rfl, fun i a h => by simp at h⟩
  | cons x l ih =>
    intro r h
    rw [List.mapM_cons] at h
    simp only [bind, Option.bind_eq_some_iff, pure] at h
    obtain ⟨b, hb, q, hq, h⟩ := h
    simp at h; subst h
    obtain ⟨h1, h2⟩ := ih q hq
    refine ⟨by simp [h1], fun i a hi => ?_⟩
    cases i with
    | zero => simp at hi; subst hi; exact ⟨b, by simp, hb⟩
    | succ i => simp at hi ⊢; exact h2 i a hi

section
variable {enc : TypeId × Value → H} {held : Bool} {t : TypeId} {tf : Nat} {ccs : List Value} {d : DataW H} {p : List MemPlace}

theorem trod_bool (hd : P.underlying t = some .bool) (ht : DataW.trod enc P w 0 (fun _ => true) held tf t ccs = some (d, p)) : ∃ b, ccs = [.bool b] ∧ d = .lit (.bool b) := by
  cases tf with
  | zero => simp [DataW.trod] at ht
  | succ tf =>
    unfold DataW.trod at ht
    rw [hd] at ht
    split at ht <;> simp_all

theorem trod_int {k : IntKind} (hd : P.underlying t = some (.int k)) (ht : DataW.trod enc P w 0 (fun _ => true) held tf t ccs = some (d, p)) : ∃ n, ccs = [.int k n] ∧ d = .lit (.int k n) := by
  cases tf with
  | zero => simp [DataW.trod] at ht
  | succ tf =>
    unfold DataW.trod at ht
    rw [hd] at ht
    split at ht <;> (try (simp_all; done))

theorem trod_string (hd : P.underlying t = some .string) (ht : DataW.trod enc P w 0 (fun _ => true) held tf t ccs = some (d, p)) : ∃ s, ccs = [.string s] ∧ d = .lit (.string s.data.toList) := by
  cases tf with
  | zero => simp [DataW.trod] at ht
  | succ tf =>
    unfold DataW.trod at ht
    rw [hd] at ht
    split at ht <;> (try (simp_all; done))

theorem trod_ptr {e : TypeId} (hd : P.underlying t = some (.pointer e)) (ht : DataW.trod enc P w 0 (fun _ => true) held tf t ccs = some (d, p)) :
    (ccs = [.pointer none] ∧ d = .nil) ∨ ∃ a cs tf' d' p', ccs = [.pointer (some a)] ∧ w.cells? 0 a (P.cellsOf e) = some cs ∧ DataW.trod enc P w 0 (fun _ => true) held tf' e cs = some (d', p') ∧ d = .ptr d' ∧ p = MemPlace.row a (P.cellsOf e) ++ p' := by
  cases tf with
  | zero => simp [DataW.trod] at ht
  | succ tf =>
    unfold DataW.trod at ht
    rw [hd] at ht
    split at ht <;> (try (simp_all; done))
    rename_i e' a h1
    injection h1 with h1
    injection h1 with h1
    subst h1
    simp only [Option.map_eq_some_iff, Option.bind_eq_some_iff] at ht
    obtain ⟨⟨d', p'⟩, ⟨cs, h2, h3⟩, h4⟩ := ht
    simp only [Prod.mk.injEq] at h4
    exact .inr ⟨a, cs, tf, d', p', rfl, h2, h3, h4.1.symm, h4.2.symm⟩

theorem trod_slice {e : TypeId} (hd : P.underlying t = some (.slice e)) (ht : DataW.trod enc P w 0 (fun _ => true) held tf t ccs = some (d, p)) :
    (ccs = [.slice none 0 0] ∧ d = .nil) ∨ ∃ a len cap tf' elems rest, ccs = [.slice (some a) len cap] ∧ len ≤ cap ∧ cap ≤ maxLen ∧
      (List.range len).mapM (fun i => (w.cells? 0 (a.add (i * P.cellsOf e)) (P.cellsOf e)).bind (DataW.trod enc P w 0 (fun _ => true) held tf' e)) = some elems ∧
      (List.range (cap - len)).mapM (fun j => (w.cells? 0 (a.add ((len + j) * P.cellsOf e)) (P.cellsOf e)).bind (DataW.trod enc P w 0 (fun _ => true) held tf' e)) = some rest ∧
      d = .slice (elems.map (·.1)) (rest.map (·.1)) ∧ p = MemPlace.row a ((elems.length + rest.length) * P.cellsOf e) ++ (elems ++ rest).flatMap (·.2) := by
  cases tf with
  | zero => simp [DataW.trod] at ht
  | succ tf =>
    unfold DataW.trod at ht
    rw [hd] at ht
    split at ht <;> (try (simp_all; done))
    rename_i e' a len cap h1
    injection h1 with h1
    injection h1 with h1
    subst h1
    simp only at ht
    split at ht <;> (try (simp at ht; done))
    rename_i hc
    simp only [if_true, Option.bind_eq_some_iff, Option.map_eq_some_iff] at ht
    obtain ⟨elems, h2, rest, h3, h4⟩ := ht
    simp only [Prod.mk.injEq] at h4
    exact .inr ⟨a, len, cap, tf, elems, rest, rfl, hc.2.1, hc.2.2, h2, h3, h4.1.symm, h4.2.symm⟩

theorem trod_struct {fs : Array Field} (hd : P.underlying t = some (.struct fs)) (ht : DataW.trod enc P w 0 (fun _ => true) held tf t ccs = some (d, p)) :
    ∃ tf' xs, ccs.length = P.cellsOf t ∧ fs.toList.mapM (fun f => DataW.trod enc P w 0 (fun _ => true) held tf' f.type ((ccs.drop f.offset).take (P.cellsOf f.type))) = some xs ∧ d = .agg (xs.map (·.1)) ∧ p = xs.flatMap (·.2) := by
  cases tf with
  | zero => simp [DataW.trod] at ht
  | succ tf =>
    unfold DataW.trod at ht
    rw [hd] at ht
    split at ht <;> (try (simp_all; done))
    rename_i fs' cs' h1
    injection h1 with h1
    injection h1 with h1
    subst h1
    split at ht <;> (try (simp at ht; done))
    rename_i hl
    simp only [Option.map_eq_some_iff, Prod.mk.injEq] at ht
    obtain ⟨xs, h2, h3, h4⟩ := ht
    exact ⟨tf, xs, hl, h2, h3.symm, h4.symm⟩

theorem trod_array {n : Nat} {e : TypeId} (hd : P.underlying t = some (.array n e)) (ht : DataW.trod enc P w 0 (fun _ => true) held tf t ccs = some (d, p)) :
    ∃ tf' xs, ccs.length = P.cellsOf t ∧ (List.range n).mapM (fun i => DataW.trod enc P w 0 (fun _ => true) held tf' e ((ccs.drop (i * P.cellsOf e)).take (P.cellsOf e))) = some xs ∧ d = .agg (xs.map (·.1)) ∧ p = xs.flatMap (·.2) := by
  cases tf with
  | zero => simp [DataW.trod] at ht
  | succ tf =>
    unfold DataW.trod at ht
    rw [hd] at ht
    split at ht <;> (try (simp_all; done))
    rename_i n' e' cs' h1
    injection h1 with h1
    injection h1 with h1 h1'
    subst h1; subst h1'
    split at ht <;> (try (simp at ht; done))
    rename_i hl
    simp only [Option.map_eq_some_iff, Prod.mk.injEq] at ht
    obtain ⟨xs, h2, h3, h4⟩ := ht
    exact ⟨tf, xs, hl, h2, h3.symm, h4.symm⟩

theorem trod_iface {ms : Array (String × TypeId)} (hd : P.underlying t = some (.interface ms)) (ht : DataW.trod enc P w 0 (fun _ => true) held tf t ccs = some (d, p)) :
    (ccs = [.nilIface] ∧ d = .nil) ∨ ∃ u v, ccs = [.iface u v] ∧ ((held = true ∧ d = .held (enc (u, v))) ∨
      ∃ name tf' d' , P.typeName? 3 u = some name ∧ DataW.trod enc P w 0 (fun _ => true) held tf' u v.cells.toList = some (d', p) ∧ d = .iface name d') := by
  cases tf with
  | zero => simp [DataW.trod] at ht
  | succ tf =>
    unfold DataW.trod at ht
    rw [hd] at ht
    split at ht <;> (try (simp_all; done))
    rename_i ms' u v h1
    refine .inr ⟨u, v, rfl, ?_⟩
    split at ht
    · simp at ht; exact .inl ⟨rfl, ht.1.symm⟩
    · rename_i name hn
      simp only [Option.map_eq_some_iff, Prod.mk.injEq] at ht
      obtain ⟨⟨d', p'⟩, h2, h3, h4⟩ := ht
      simp only at h3 h4
      subst h4
      exact .inr ⟨name, tf, d', hn, h2, h3.symm⟩
    · simp at ht

theorem trod_func {a1 a2 : Array TypeId} {a3 : Bool} (hd : P.underlying t = some (.func a1 a2 a3)) (ht : DataW.trod enc P w 0 (fun _ => true) held tf t ccs = some (d, p)) :
    (ccs = [.nilFunc] ∧ d = .nil) ∨ ∃ fn first cap, ccs = [.func fn first cap] ∧ d = .held (enc (t, .func fn first cap)) := by
  cases tf with
  | zero => simp [DataW.trod] at ht
  | succ tf =>
    unfold DataW.trod at ht
    rw [hd] at ht
    split at ht <;> (try (simp_all; done))
    rename_i fn first cap _
    split at ht <;> (try (simp at ht; done))
    simp only [Option.some.injEq, Prod.mk.injEq] at ht
    exact .inr ⟨fn, first, cap, rfl, ht.1.symm⟩

theorem trod_map {k e : TypeId} (hd : P.underlying t = some (.map k e)) (ht : DataW.trod enc P w 0 (fun _ => true) held tf t ccs = some (d, p)) :
    (ccs = [.map none] ∧ d = .nil) ∨ ∃ b es clock tf' entries, ccs = [.map (some b)] ∧ w.heap[b]? = some (.map es clock) ∧ (es.all (·.born < clock) = true ∧ (es.toList.map (·.born)).eraseDups.length = es.size) ∧
      es.toList.mapM (fun x => (keyOf P k x.key).bind fun key => if x.val.formed P e then (DataW.trod enc P w 0 (fun _ => true) held tf' e x.val.cells.toList).map fun y => ((key, y.1), y.2) else none) = some entries ∧
      d = .map ((entries.map (·.1)).foldr DataW.insert []) ∧ p = .map b :: entries.flatMap (·.2) := by
  cases tf with
  | zero => simp [DataW.trod] at ht
  | succ tf =>
    unfold DataW.trod at ht
    rw [hd] at ht
    split at ht <;> (try (simp_all; done))
    rename_i k' e' b h1
    injection h1 with h1
    injection h1 with h1 h1'
    subst h1; subst h1'
    split at ht <;> (try (simp at ht; done))
    rename_i es clock hh
    split at ht <;> (try (simp at ht; done))
    rename_i hcond
    simp only [Option.bind_eq_some_iff] at ht
    obtain ⟨entries, h2, h3⟩ := ht
    split at h3 <;> (try (simp at h3; done))
    simp only [Option.some.injEq, Prod.mk.injEq] at h3
    exact .inr ⟨b, es, clock, tf, entries, rfl, hh, hcond.2.2, h2, h3.1.symm, h3.2.symm⟩
end

theorem litVal_ok {enc : TypeId × Value → H} {held : Bool} {t : TypeId} {ds : TypeDesc} {l : Lit} {v : Value} (hd : P.underlying t = some ds) (h : litVal ds l = some v) {tf : Nat} {ccs : List Value} {p : List MemPlace}
    (ht : DataW.trod enc P w 0 (fun _ => true) held tf t ccs = some (.lit l, p)) : ccs = [v] ∧ flat v = true := by
  cases ds <;> cases l <;> simp only [litVal] at h <;> (try (simp at h; done))
  · simp at h; subst h
    obtain ⟨b, h1, h2⟩ := trod_bool hd ht
    simp at h2; subst h2
    exact ⟨h1, rfl⟩
  · split at h <;> (try (simp at h; done))
    rename_i hk
    simp only [decide_eq_true_eq] at hk
    simp at h; subst h; subst hk
    obtain ⟨b, h1, h2⟩ := trod_int hd ht
    simp at h2; subst h2
    exact ⟨h1, rfl⟩
  · simp at h; subst h
    obtain ⟨b, h1, h2⟩ := trod_string hd ht
    simp at h2; subst h2
    exact ⟨h1, rfl⟩

theorem cells?_get {a : Addr} {n : Nat} {cs : List Value} (h : w.cells? 0 a n = some cs) : cs.length = n ∧ ∀ j v, cs[j]? = some v → w.cell? (a.add j) = some v := by
  unfold World.cells? at h
  rw [if_pos (Nat.zero_le _)] at h
  obtain ⟨h1, h2⟩ := mapM_some _ _ _ h
  simp only [List.length_range] at h1
  refine ⟨h1, fun j v hj => ?_⟩
  have hlt : j < n := by have := (List.getElem?_eq_some_iff.1 hj).1; omega
  obtain ⟨b, h3, h4⟩ := h2 j j (by simp [hlt])
  rw [hj] at h3; injection h3 with h3; subst h3
  exact h4

theorem cell?_block {a : Addr} {v : Value} (h : w.cell? a = some v) : a.spot = none ∧ ∃ c e fz, w.heap[a.block]? = some (.cells c e fz) ∧ c[a.off]? = some v := by
  unfold World.cell? at h
  split at h
  · rename_i c e fz hb
    split at h
    · simp at h
    · rename_i hs
      exact ⟨by simpa using hs, c, e, fz, hb, h⟩
  · simp at h

/-- cells in a row, behind an address -/
theorem row_rep {a : Addr} {c : List Value} {cs : List Value} {m : Nat → Option Loc} {id : Nat} {e : TypeId} {n : Nat} (hn : 1 ≤ n) (hlen : cs.length = n) (hcell : ∀ j v, cs[j]? = some v → w.cell? (a.add j) = some v)
    (hc : ∀ μ, Ext m μ → c.map (conc μ) = cs) (hid : m id = none) :
    a.spot = none ∧ a.block < w.heap.size ∧ ∀ μ, Ext (setM m id ⟨a.block, a.off, 0, .nilFunc⟩) μ → ObjRep (Cx.of P) μ w id (.row e c false false) := by
  have h0 : w.cell? (a.add 0) = some (cs[0]'(by omega)) := hcell 0 _ (List.getElem?_eq_getElem (by omega))
  rw [show a.add 0 = a by simp [Addr.add]] at h0
  obtain ⟨hs, cells, e', fz, hb, hc0⟩ := cell?_block h0
  have hadd : ∀ j, a.add j = ⟨a.block, a.off + j, none⟩ := by
    intro j
    unfold Addr.add
    split
    · rename_i h; subst h; rw [← hs]; simp
    · rw [← hs]
  have hget : ∀ j v, cs[j]? = some v → cells[a.off + j]? = some v := by
    intro j v hj
    have := hcell j v hj
    rw [hadd] at this
    simpa [World.cell?, hb] using this
  refine ⟨hs, (Array.getElem?_eq_some_iff.1 hb).1, fun μ hμ => ?_⟩
  have hloc : μ id = ⟨a.block, a.off, 0, .nilFunc⟩ := hμ _ _ (setM_same _ _)
  have hcm := hc μ (hμ.mono (setM_mono hid))
  have hcl : c.length = n := by rw [← hlen, ← hcm]; simp
  refine ⟨cells, e', fz, by rw [hloc]; exact hb, ?_, ?_, fun h => by simp at h, fun h => by simp at h, fun h => by simp at h⟩
  · rw [hloc, hcl]
    have hlast := hget (n - 1) (cs[n - 1]'(by omega)) (List.getElem?_eq_getElem (by omega))
    have := (Array.getElem?_eq_some_iff.1 hlast).1
    simp only; omega
  · intro j v hj _
    rw [hloc]
    refine hget j _ ?_
    rw [← hcm, List.getElem?_map, hj]; rfl

theorem row_mem {a : Addr} {n j : Nat} (hj : j < n) : MemPlace.cell a.block (a.off + j) ∈ MemPlace.row a n := by
  unfold MemPlace.row
  exact List.mem_map.2 ⟨j, by simpa using hj, rfl⟩

theorem PlacesOk.row {a : Addr} {n : Nat} {p q : List MemPlace} (h : PlacesOk P w (MemPlace.row a n ++ p ++ q)) (hs : a.spot = none) {j : Nat} (hj : j < n) {u : TypeId} {v : Value} (hc : w.cell? (a.add j) = some (.iface u v)) : Value.okWide P w .any 0 u v := by
  refine h a.block (a.off + j) (by simp [row_mem hj]) u v ?_
  have hadd : a.add j = ⟨a.block, a.off + j, none⟩ := by
    unfold Addr.add
    split
    · rename_i h; subst h; rw [← hs]; simp
    · rw [← hs]
  rw [← hadd]; exact hc

theorem insert_perm {x : Lit × DataW H} : ∀ (l : List (Lit × DataW H)), (DataW.insert x l).Perm (x :: l) := by
  intro l
  induction l with
  | nil => exact List.Perm.refl _
  | cons y l ih =>
    unfold DataW.insert
    split
    · exact List.Perm.refl _
    · exact (List.Perm.cons y ih).trans (List.Perm.swap x y l)
theorem sorted_perm : ∀ (l : List (Lit × DataW H)), (l.foldr DataW.insert []).Perm l := by
  intro l
  induction l with
  | nil => exact List.Perm.refl _
  | cons x l ih => exact (insert_perm _).trans (List.Perm.cons x ih)

/-- the entries of a map, in the text's order, and as they lie -/
def entryOf (cx : Cx) (f : LayF H) (kd : TypeDesc) (e : TypeId) (agg : Bool) (x : Lit × DataW H) : Value × Value := ((litVal kd x.1).getD undef, (valOf cx f e agg x.2).getD undef)

theorem layEntries_eq {cx : Cx} {f : LayF H} {kd : TypeDesc} {e : TypeId} {agg : Bool} : ∀ (l : List (Lit × DataW H)) (es : List MapEntry), layEntries cx f kd e agg l = some es →
    es.map kvOf = l.map (entryOf cx f kd e agg) ∧ (∀ x ∈ l, ∃ k v, litVal kd x.1 = some k ∧ valOf cx f e agg x.2 = some v) := by
  intro l
  induction l with
  | nil => intro es h; simp [layEntries] at h; subst h; exact ⟨rfl, fun x hx => by simp at hx⟩
  | cons x l ih =>
    obtain ⟨k, d⟩ := x
    intro es h
    simp only [layEntries] at h
    split at h <;> (try (simp at h; done))
    rename_i kv v r h1 h2 h3
    simp at h; subst h
    obtain ⟨h4, h5⟩ := ih r h3
    refine ⟨by simp [h4, kvOf, entryOf, h1, h2], fun x hx => ?_⟩
    rcases List.mem_cons.1 hx with rfl | hx
    · exact ⟨kv, v, h1, h2⟩
    · exact h5 x hx

theorem lay_start (P : Program) (w : World) : Lay P w (fun g => if g < P.globals.size then some ⟨g, 0, 0, .nilFunc⟩ else none) ⟨.nil, P.globals.size⟩ where
  obj := fun id o h => by simp [St.G, T.get_nil] at h
  fresh := fun i hi => by rw [if_neg (by simpa using hi)]
  glob := fun g hg => by rw [if_pos hg]

theorem keyOf_litVal {kt : TypeId} {kd : TypeDesc} {x : Value} {k : Lit} {v : Value} (hd : P.underlying kt = some kd) (hk : keyOf P kt x = some k) (hl : litVal kd k = some v) : x = v := by
  unfold keyOf at hk
  rw [hd] at hk
  cases kd <;> cases k <;> simp only [litVal] at hl <;> (try (simp at hl; done)) <;> simp only at hk <;> unfold mapKey at hk <;> rw [hd] at hk
  · simp at hl; subst hl
    split at hk <;> simp_all
  · split at hl <;> (try (simp at hl; done))
    simp at hl; subst hl
    split at hk <;> simp_all
  · simp at hl; subst hl
    split at hk <;> simp_all
    obtain ⟨h1, rfl⟩ := hk
    rfl

theorem flatL_cell {c : List Value} (h : flatL c = true) (μ : Nat → Loc) : c.map (conc μ) = c := map_flat h μ

theorem litVal_flat {kd : TypeDesc} {key : Lit} {kv : Value} (h : litVal kd key = some kv) : flat kv = true := by
  cases kd <;> cases key <;> simp only [litVal] at h <;> (try (simp at h; done))
  · simp at h; subst h; rfl
  · split at h <;> (try (simp at h; done))
    simp at h; subst h; rfl
  · simp at h; subst h; rfl

theorem eraseDups_le : ∀ (n : Nat) (l : List Nat), l.length ≤ n → l.eraseDups.length ≤ l.length ∧ (l.eraseDups.length = l.length → l.Nodup) := by
  intro n
  induction n with
  | zero => intro l h; cases l with | nil => simp | cons _ _ => simp at h
  | succ n ih =>
    intro l h
    cases l with
    | nil => simp
    | cons x l =>
      rw [List.eraseDups_cons]
      have hf : (l.filter fun b => !b == x).length ≤ l.length := List.length_filter_le _ _
      obtain ⟨h1, h2⟩ := ih (l.filter fun b => !b == x) (by simp at h; omega)
      refine ⟨by simp only [List.length_cons]; omega, fun he => ?_⟩
      simp only [List.length_cons] at he
      have hfl : (l.filter fun b => !b == x) = l := by
        apply List.filter_eq_self.2
        have : (l.filter fun b => !b == x).length = l.length := by omega
        exact List.length_filter_eq_length_iff.1 this
      have hnd := h2 (by omega)
      rw [hfl] at hnd
      rw [List.nodup_cons]
      refine ⟨fun hx => ?_, hnd⟩
      have := List.filter_eq_self.1 hfl x hx
      simp at this

theorem nodup_of_eraseDups {l : List Nat} (h : l.eraseDups.length = l.length) : l.Nodup := (eraseDups_le l.length l (Nat.le_refl _)).2 h

/-- a map as it lies -/
theorem map_rep {enc : TypeId × Value → H} {held : Bool} {f : LayF H} (hf : LayOk enc P w held False f) {k e : TypeId} {kd : TypeDesc} {agg : Bool} (hkd : (Cx.of P).desc k = some kd) (hagg : (Cx.of P).isAgg e = some agg)
    {b : Nat} {es : Array MapEntry} {clock : Nat} {tf : Nat} {entries : List ((Lit × DataW H) × List MemPlace)} (hb : w.heap[b]? = some (.map es clock)) (hbn : es.all (·.born < clock) = true ∧ (es.toList.map (·.born)).eraseDups.length = es.size)
    (hm : es.toList.mapM (fun x => (keyOf P k x.key).bind fun key => if x.val.formed P e then (DataW.trod enc P w 0 (fun _ => true) held tf e x.val.cells.toList).map fun y => ((key, y.1), y.2) else none) = some entries)
    {aes : List MapEntry} (hl : layEntries (Cx.of P) f kd e agg ((entries.map (·.1)).foldr DataW.insert []) = some aes) {m : Nat → Option Loc} {id : Nat} :
    ∀ μ, Ext (setM m id ⟨b, 0, clock, .nilFunc⟩) μ → ObjRep (Cx.of P) μ w id (.map aes true false) := by
  intro μ hμ
  have hloc : μ id = ⟨b, 0, clock, .nilFunc⟩ := hμ _ _ (setM_same _ _)
  obtain ⟨h1, h2⟩ := layEntries_eq _ _ hl
  obtain ⟨h3, h4⟩ := mapM_some _ _ _ hm
  have hp := sorted_perm (entries.map (·.1))
  have hund := Cx.desc_under hkd
  -- each entry as it lies
  have each : ∀ (i : Nat) x, es.toList[i]? = some x → ∃ y, entries[i]? = some y ∧ kvOf x = entryOf (Cx.of P) f kd e agg y.1 ∧ flat x.val = true := by
    intro i x hi
    obtain ⟨y, h5, h6⟩ := h4 i x hi
    have hy : y ∈ entries := List.mem_of_getElem? h5
    refine ⟨y, h5, ?_⟩
    simp only [Option.bind_eq_some_iff] at h6
    obtain ⟨key, h7, h8⟩ := h6
    split at h8 <;> (try (simp at h8; done))
    rename_i hform
    simp only [Option.map_eq_some_iff] at h8
    obtain ⟨⟨d, p⟩, h9, rfl⟩ := h8
    obtain ⟨kv, v, h10, h11⟩ := h2 (key, d) (hp.mem_iff.2 (List.mem_map.2 ⟨_, hy, rfl⟩))
    have hkey := keyOf_litVal hund h7 h10
    have hval : x.val = v ∧ flat v = true := by
      have h12 := h11
      unfold valOf at h12
      split at h12 <;> (try (simp at h12; done))
      rename_i c st1 hfe
      split at h12 <;> (try (simp at h12; done))
      rename_i hfl
      simp only [Bool.and_eq_true] at hfl
      obtain ⟨m', _, _, hv, _⟩ := hf e d ⟨.nil, P.globals.size⟩ c st1 hfe _ (lay_start P w) tf _ p h9 (fun h => h.elim) (fun h => h.elim)
      have hcells : x.val.cells.toList = c := by
        rw [← hv _ (some0_ext m'), flatL_cell hfl.1]
      have hisA := hagg
      unfold Cx.isAgg at hisA
      cases agg with
      | true =>
        simp at h12; subst h12
        cases hx : x.val with
        | agg cs => rw [hx] at hcells; simp only [Value.cells] at hcells; subst hcells; exact ⟨rfl, by simp only [flat, flatA]; exact hfl.1⟩
        | _ =>
          exfalso
          rw [hx] at hform
          simp only [Value.formed] at hform
          split at hisA <;> (try (simp at hisA; done))
          all_goals
            rename_i hde
            simp [Cx.desc_under hde] at hform
      | false =>
        simp only at h12
        split at h12 <;> (try (simp at h12; done))
        rename_i u
        simp at h12; subst h12
        have hfu : flat u = true := by have := hfl.1; simp only [flatL, Bool.and_eq_true] at this; exact this.1
        cases hx : x.val with
        | agg cs =>
          exfalso
          rw [hx] at hform
          simp only [Value.formed] at hform
          split at hisA <;> (try (simp at hisA; done))
          rename_i hns hna hde
          rw [Cx.desc_under hde] at hform
          split at hform <;> simp_all
        | _ => rw [hx] at hcells; simp only [Value.cells] at hcells; simp at hcells; exact ⟨hcells, hfu⟩
    exact ⟨by simp [kvOf, entryOf, h10, h11, hkey, hval.1], by rw [hval.1]; exact hval.2⟩
  have hmap : es.toList.map kvOf = (entries.map (·.1)).map (entryOf (Cx.of P) f kd e agg) := by
    apply List.ext_getElem?
    intro i
    rw [List.getElem?_map, List.getElem?_map, List.getElem?_map]
    cases hi : es.toList[i]? with
    | none =>
      have : entries[i]? = none := by rw [List.getElem?_eq_none_iff] at hi ⊢; omega
      rw [this]; rfl
    | some x =>
      obtain ⟨y, h5, h6, _⟩ := each i x hi
      rw [h5]
      simp [h6]
  refine ⟨⟨es.toList, clock, ?_, ?_, nodup_of_eraseDups (by simpa using hbn.2), ?_, fun _ => by rw [hloc]⟩, ?_⟩
  · rw [hloc]
    have : es.toList.map (concE μ) = es.toList := by
      apply List.ext_getElem?
      intro i
      rw [List.getElem?_map]
      cases hi : es.toList[i]? with
      | none => rfl
      | some x =>
        obtain ⟨_, _, _, h6⟩ := each i x hi
        simp [concE, conc_flat μ x.val h6]
    rw [this]
    exact hb
  · rw [h1, hmap]
    exact (hp.map _).symm
  · intro e he
    have := Array.all_eq_true_iff_forall_mem.1 hbn.1 e (by simpa using he)
    simpa using this
  · intro a ha
    have : kvOf a ∈ aes.map kvOf := List.mem_map.2 ⟨a, ha, rfl⟩
    rw [h1] at this
    obtain ⟨x, hx, hxe⟩ := List.mem_map.1 this
    obtain ⟨kv, v, h5, _⟩ := h2 x hx
    simp only [entryOf, kvOf, h5, Option.getD_some, Prod.mk.injEq] at hxe
    rw [← hxe.1]
    exact litVal_flat h5

theorem CellsOk.sub {ccs l : List Value} (h : CellsOk P w ccs) (hs : ∀ v ∈ l, v ∈ ccs) : CellsOk P w l := fun u v hv => h u v (hs _ hv)

theorem layA_ok {enc : TypeId × Value → H} {held : Bool} {hold : H → Option Value} (hh : HoldOk enc hold) : ∀ (fuel : Nat) (nm : List (String × TypeId)), nm.all (nameOk P) = true → LayOk enc P w held (nm ≠ []) (layA (Cx.of P) nm hold fuel) := by
  intro fuel
  induction fuel with
  | zero => intro nm _ t d st cs st' h; simp [layA] at h
  | succ fuel ih =>
    intro nm hnm t d st cs st' h m hm tf ccs p ht hpl hcl
    have keep : ∀ {v : Value}, cs = [v] → st' = st → ccs = [v] → flat v = true → ∃ m', (∀ i l, m i = some l → m' i = some l) ∧ Lay P w m' st' ∧ VReps m' cs ccs ∧ st.ct ≤ st'.ct := by
      intro v h1 h2 h3 h4
      subst h1; subst h2; subst h3
      exact ⟨m, fun _ _ h => h, hm, fun μ _ => by simp [conc_flat μ v h4], Nat.le_refl _⟩
    unfold layA at h
    cases hd : (Cx.of P).desc t with
    | none => rw [hd] at h; simp at h
    | some ds =>
      rw [hd] at h
      simp only at h
      have hu := Cx.desc_under hd
      cases d with
      | lit l =>
        simp only at h
        split at h <;> (try (simp at h; done))
        rename_i v hv
        simp at h; obtain ⟨rfl, rfl⟩ := h
        obtain ⟨h1, h2⟩ := litVal_ok hu hv ht
        exact keep rfl rfl h1 h2
      | nil =>
        cases ds <;> simp only at h <;> (try (simp at h; done)) <;> simp at h <;> obtain ⟨rfl, rfl⟩ := h
        · rcases trod_ptr hu ht with ⟨h1, _⟩ | ⟨_, _, _, _, _, _, _, _, h1, _⟩
          · exact keep rfl rfl h1 rfl
          · cases h1
        · rcases trod_slice hu ht with ⟨h1, _⟩ | ⟨_, _, _, _, _, _, _, _, _, _, _, h1, _⟩
          · exact keep rfl rfl h1 rfl
          · cases h1
        · rcases trod_map hu ht with ⟨h1, _⟩ | ⟨_, _, _, _, _, _, _, _, _, h1, _⟩
          · exact keep rfl rfl h1 rfl
          · cases h1
        · rcases trod_func hu ht with ⟨h1, _⟩ | ⟨_, _, _, _, h1⟩
          · exact keep rfl rfl h1 rfl
          · cases h1
        · rcases trod_iface hu ht with ⟨h1, _⟩ | ⟨_, _, _, ⟨_, h1⟩ | ⟨_, _, _, _, _, h1⟩⟩
          · exact keep rfl rfl h1 rfl
          · cases h1
          · cases h1
      | ptr d =>
        cases ds <;> simp only at h <;> (try (simp at h; done))
        rename_i e
        split at h <;> (try (simp at h; done))
        rename_i c st1 n h1 hsz
        split at h <;> (try (simp at h; done))
        rename_i hb
        simp only [Bool.and_eq_true] at hb
        simp at h; obtain ⟨rfl, rfl⟩ := h
        have hn : 1 ≤ n := Nat.le_of_ble_eq_true hb.2
        rcases trod_ptr hu ht with ⟨_, h2⟩ | ⟨a, cs', tf', d', p', rfl, h2, h3, h4, rfl⟩
        · cases h2
        · injection h4 with h4; subst h4
          rw [size_cells hsz] at h2 hpl
          obtain ⟨hlen, hcell⟩ := cells?_get h2
          have h0 : w.cell? (a.add 0) = some (cs'[0]'(by omega)) := hcell 0 _ (List.getElem?_eq_getElem (by omega))
          rw [show a.add 0 = a by simp [Addr.add]] at h0
          have hsp := (cell?_block h0).1
          obtain ⟨m1, e1, l1, v1, c1⟩ := ih nm hnm e d st c st1 h1 m hm tf' cs' p' h3 (fun hne b off hb2 => hpl hne b off (by simp [hb2])) (fun hne u v hv => by
            obtain ⟨j, hj⟩ := List.getElem?_of_mem hv
            exact (show PlacesOk P w (MemPlace.row a n ++ p' ++ []) by simpa using hpl hne).row hsp (j := j) (by have := (List.getElem?_eq_some_iff.1 hj).1; omega) (hcell j _ hj))
          have hid := l1.fresh st1.ct (Nat.le_refl _)
          obtain ⟨hs, hblk, hobj⟩ := row_rep (P := P) (e := e) (id := st1.ct) hn hlen hcell v1 hid
          refine ⟨setM m1 st1.ct ⟨a.block, a.off, 0, .nilFunc⟩, fun i l hi => setM_mono hid _ _ (e1 i l hi), l1.new rfl hblk l1.ng hobj, ?_, by simp; omega⟩
          intro μ hμ
          have hloc : μ st1.ct = ⟨a.block, a.off, 0, .nilFunc⟩ := hμ _ _ (setM_same _ _)
          simp only [List.map_cons, List.map_nil, conc_ptr, concAddr, hloc]
          rw [← hs]
          simp
      | slice elems spare =>
        cases ds <;> simp only at h <;> (try (simp at h; done))
        rename_i e
        cases spare with
        | cons _ _ => simp at h
        | nil =>
          simp only at h
          split at h <;> (try (simp at h; done))
          rename_i cs1 st1 n h1 hsz
          split at h <;> (try (simp at h; done))
          rename_i hb
          simp only [Bool.and_eq_true] at hb
          simp at h; obtain ⟨rfl, rfl⟩ := h
          have hn : 1 ≤ n := Nat.le_of_ble_eq_true hb.1.2
          have hne : 1 ≤ elems.length := Nat.le_of_ble_eq_true hb.2
          rcases trod_slice hu ht with ⟨_, h2⟩ | ⟨a, len, cap, tf', els, rest, rfl, hlc, hcm, h2, h3, h4, rfl⟩
          · cases h2
          · injection h4 with h4 h5
            obtain ⟨hl3, _⟩ := mapM_some _ _ _ h3
            have hr0 : rest = [] := by cases rest with | nil => rfl | cons _ _ => simp at h5
            subst hr0
            simp only [List.length_range, List.length_nil] at hl3
            obtain rfl : cap = len := by omega
            rw [size_cells hsz] at h2 hpl
            obtain ⟨hl2, hel⟩ := mapM_some _ _ _ h2
            simp only [List.length_range] at hl2
            have hdl : elems.length = cap := by rw [h4]; simp [hl2]
            -- the cells of each element
            have hget : ∀ i, i < cap → ∃ c y, els[i]? = some y ∧ w.cells? 0 (a.add (i * n)) n = some c ∧ DataW.trod enc P w 0 (fun _ => true) held tf' e c = some y := by
              intro i hi
              obtain ⟨y, h6, h7⟩ := hel i i (by simp [hi])
              simp only [Option.bind_eq_some_iff] at h7
              obtain ⟨c, h8, h9⟩ := h7
              exact ⟨c, y, h6, h8, h9⟩
            let css : List (List Value) := (List.range cap).map fun i => (w.cells? 0 (a.add (i * n)) n).getD []
            have hcss : ∀ (i : Nat) c, css[i]? = some c → w.cells? 0 (a.add (i * n)) n = some c ∧ i < cap := by
              intro i c hi
              have hlt : i < cap := by have := (List.getElem?_eq_some_iff.1 hi).1; simpa [css] using this
              obtain ⟨c', y, _, h7, _⟩ := hget i hlt
              simp only [css, List.getElem?_map, List.getElem?_range hlt, Option.map_some, Option.some.injEq] at hi
              rw [h7] at hi
              simp only [Option.getD_some] at hi
              subst hi
              exact ⟨h7, hlt⟩
            obtain ⟨c0, y0, _, h70, _⟩ := hget 0 (by omega)
            have hsp : a.spot = none := by
              obtain ⟨q1, q2⟩ := cells?_get h70
              have h0 := q2 0 (c0[0]'(by omega)) (List.getElem?_eq_getElem (by omega))
              rw [show (a.add (0 * n)).add 0 = a by simp [Addr.add]] at h0
              exact (cell?_block h0).1
            have hadd : ∀ j, a.add j = ⟨a.block, a.off + j, none⟩ := by
              intro j
              unfold Addr.add
              split
              · rename_i h; subst h; rw [← hsp]; simp
              · rw [← hsp]
            have hadd2 : ∀ i j, (a.add i).add j = a.add (i + j) := by
              intro i j
              rw [hadd, hadd]
              unfold Addr.add
              split
              · rename_i h; subst h; simp
              · simp [Nat.add_assoc]
            obtain ⟨m1, e1, l1, v1, c1, _⟩ := layParts_ok (ih nm hnm) (elems.map fun _ => e) elems st cs1 st1 h1 m hm css (els.map (·.2)) tf' (by simp [css, hdl]) (by simp [hl2, hdl])
              (fun i t' c d' p' q1 q2 q3 q4 => by
                rw [List.getElem?_map, Option.map_eq_some_iff] at q1
                obtain ⟨_, _, rfl⟩ := q1
                obtain ⟨q5, q6⟩ := hcss i c q2
                obtain ⟨c', y, q7, q8, q9⟩ := hget i q6
                rw [q5] at q8; injection q8 with q8; subst q8
                rw [h4, List.getElem?_map, q7] at q3
                rw [List.getElem?_map, q7] at q4
                simp only [Option.map_some, Option.some.injEq] at q3 q4
                subst q3; subst q4
                exact q9)
              (fun hx p' hp' b off hb2 => by
                obtain ⟨y, hy, rfl⟩ := List.mem_map.1 hp'
                exact hpl hx b off (by
                  refine List.mem_append_right _ ?_
                  simp only [List.append_nil]
                  exact List.mem_flatMap.2 ⟨y, hy, hb2⟩))
              (fun hx c hc u v hv => by
                obtain ⟨i, hi⟩ := List.getElem?_of_mem hc
                obtain ⟨q5, q6⟩ := hcss i c hi
                obtain ⟨q7, q8⟩ := cells?_get q5
                obtain ⟨j, hj⟩ := List.getElem?_of_mem hv
                have hjn : j < n := by have := (List.getElem?_eq_some_iff.1 hj).1; omega
                have hcj := q8 j _ hj
                rw [hadd2] at hcj
                refine PlacesOk.row (p := []) (q := (els ++ []).flatMap fun (x : DataW H × List MemPlace) => x.2) (n := (els.length + ([] : List (DataW H × List MemPlace)).length) * n) (by simpa using hpl hx) hsp (j := i * n + j) ?_ hcj
                simp only [hl2, List.length_nil, Nat.add_zero]
                calc i * n + j < i * n + n := by omega
                  _ = (i + 1) * n := by rw [Nat.add_mul]; omega
                  _ ≤ cap * n := Nat.mul_le_mul_right _ (by omega))
            have hlong := hb.1.1
            have hcl1 : cs1.length = cap := by
              have := congrArg List.length (v1 _ (some0_ext m1))
              simp only [List.length_map, css, List.length_range] at this
              exact this
            have hlcss : allLong n css = true := by
              have : ∀ (l : List (List Value)), (∀ c ∈ l, c.length = n) → allLong n l = true := by
                intro l
                induction l with
                | nil => intro _; rfl
                | cons x l ih => intro h; simp only [allLong, Bool.and_eq_true]; exact ⟨by rw [h x (by simp)]; simp, ih fun c hc => h c (by simp [hc])⟩
              refine this _ fun c hc => ?_
              obtain ⟨i, hi⟩ := List.getElem?_of_mem hc
              exact (cells?_get (hcss i c hi).1).1
            have hid := l1.fresh st1.ct (Nat.le_refl _)
            have hflen : (flats css).length = cap * n := by rw [flats_length _ hlcss]; simp [css]
            have hfcell : ∀ j v, (flats css)[j]? = some v → w.cell? (a.add j) = some v := by
              intro j v hj
              have hjl : j < cap * n := by have := (List.getElem?_eq_some_iff.1 hj).1; omega
              have hi : j / n < cap := Nat.div_lt_of_lt_mul (by rw [Nat.mul_comm]; exact hjl)
              have hci : css[j / n]? = some (css[j / n]'(by simpa [css] using hi)) := List.getElem?_eq_getElem _
              have := flats_get css hlcss (j / n) _ hci (j % n) (Nat.mod_lt _ (by omega))
              rw [Nat.div_add_mod' j n] at this
              rw [this] at hj
              have h9 := (cells?_get (hcss _ _ hci).1).2 _ _ hj
              rw [hadd2, Nat.div_add_mod' j n] at h9
              exact h9
            obtain ⟨_, hblk, hobj⟩ := row_rep (P := P) (e := e) (id := st1.ct) (n := cap * n) (c := flats cs1) (Nat.mul_pos (by omega) (by omega)) hflen hfcell (fun μ hμ => by rw [flats_map, v1 μ hμ]) hid
            refine ⟨setM m1 st1.ct ⟨a.block, a.off, 0, .nilFunc⟩, fun i l hi => setM_mono hid _ _ (e1 i l hi), l1.new rfl hblk l1.ng hobj, ?_, by simp; omega⟩
            intro μ hμ
            have hloc : μ st1.ct = ⟨a.block, a.off, 0, .nilFunc⟩ := hμ _ _ (setM_same _ _)
            have hmax : isOpen elems.length = false := by
              unfold isOpen
              rw [hdl]
              unfold maxLen at hcm
              cases hb : Nat.ble 18446744073709551616 cap with
              | false => rfl
              | true => have := Nat.le_of_ble_eq_true hb; omega
            simp only [List.map_cons, List.map_nil, conc_slice, concEnd, concCap, hmax, concAddr, hloc]
            rw [hdl, ← hsp]
            simp
      | agg parts =>
        have whole : ∀ (ts : List TypeId) (offs : List (Nat × Nat)) (cs1 : List (List Value)) (st1 : St) (xs : List (DataW H × List MemPlace)) (tf' : Nat) (n : Nat), layParts (layA (Cx.of P) nm hold fuel) ts parts st = some (cs1, st1) →
            tiles offs cs1 0 = some n → ccs.length = n → ts.length = offs.length → xs.length = ts.length → parts = xs.map (·.1) → p = xs.flatMap (·.2) →
            (∀ (i : Nat) t' o x, ts[i]? = some t' → offs[i]? = some o → xs[i]? = some x → DataW.trod enc P w 0 (fun _ => true) held tf' t' ((ccs.drop o.1).take o.2) = some x) →
            ∃ m', (∀ i l, m i = some l → m' i = some l) ∧ Lay P w m' st1 ∧ VReps m' (flats cs1) ccs ∧ st.ct ≤ st1.ct := by
          intro ts offs cs1 st1 xs tf' n h1 h2 h3 h4 h5 h6 h7 h8
          obtain ⟨m1, e1, l1, v1, c1, _⟩ := layParts_ok (ih nm hnm) ts parts st cs1 st1 h1 m hm (offs.map fun o => (ccs.drop o.1).take o.2) (xs.map (·.2)) tf' (by simp [h4]) (by simp [h5])
            (fun i t' c d' p' q1 q2 q3 q4 => by
              rw [List.getElem?_map, Option.map_eq_some_iff] at q2
              obtain ⟨o, q5, rfl⟩ := q2
              rw [h6, List.getElem?_map, Option.map_eq_some_iff] at q3
              obtain ⟨x, q6, rfl⟩ := q3
              rw [List.getElem?_map, q6] at q4
              simp only [Option.map_some, Option.some.injEq] at q4
              subst q4
              exact h8 i t' o x q1 q5 q6)
            (fun hx p' hp' b off hb2 => by
              obtain ⟨y, hy, rfl⟩ := List.mem_map.1 hp'
              exact hpl hx b off (by rw [h7]; exact List.mem_flatMap.2 ⟨y, hy, hb2⟩))
            (fun hx c hc u v hv => by
              obtain ⟨o, _, rfl⟩ := List.mem_map.1 hc
              exact hcl hx u v (List.mem_of_mem_drop (List.mem_of_mem_take hv)))
          refine ⟨m1, e1, l1, fun μ hμ => ?_, c1⟩
          rw [flats_map]
          have := tiles_eq ccs offs _ 0 n (by
            rw [← h2]
            have : ∀ (l : List (Nat × Nat)) (cs : List (List Value)) (a : Nat), tiles l (cs.map (·.map (conc μ))) a = tiles l cs a := by
              intro l
              induction l with
              | nil => intro cs a; cases cs <;> rfl
              | cons x l ih => intro cs a; cases cs with
                | nil => rfl
                | cons c cs => simp only [List.map_cons, tiles, List.length_map, ih]
            exact this offs cs1 0) (Nat.zero_le _) h3.symm (v1 μ hμ)
          rw [this]; simp
        cases ds <;> simp only at h <;> (try (simp at h; done))
        · rename_i n e
          split at h <;> (try (simp at h; done))
          rename_i cs1 st1 mm k h1 hsz hn
          split at h <;> (try (simp at h; done))
          rename_i hb
          simp only [Bool.and_eq_true] at hb
          have hk := Nat.eq_of_beq_eq_true hb.2
          simp at h; obtain ⟨rfl, rfl⟩ := h
          obtain ⟨tf', xs, h2, h3, h4, h5⟩ := trod_array hu ht
          injection h4 with h4
          rw [size_cells hsz] at h3
          obtain ⟨q1, q2⟩ := mapM_some _ _ _ h3
          simp only [List.length_range] at q1
          have hlen1 : cs1.length = n := by
            have : ∀ (ts : List TypeId) (ds : List (DataW H)) (st : St) (cs : List (List Value)) (st' : St), layParts (layA (Cx.of P) nm hold fuel) ts ds st = some (cs, st') → cs.length = ts.length := by
              intro ts
              induction ts with
              | nil => intro ds st cs st' h; cases ds <;> simp [layParts] at h; simp [h.1]
              | cons t ts ih =>
                intro ds st cs st' h
                cases ds with
                | nil => simp [layParts] at h
                | cons d ds =>
                  simp only [layParts] at h
                  split at h <;> (try (simp at h; done))
                  split at h <;> (try (simp at h; done))
                  rename_i hr
                  simp at h; obtain ⟨rfl, _⟩ := h
                  simp [ih _ _ _ _ hr]
            have := this _ _ _ _ _ h1
            simpa using this
          have htl : ∀ (l : List Nat) (cs : List (List Value)) (s : Nat), allLong mm cs = true → cs.length = l.length → (∀ i (x : Nat), l[i]? = some x → x = s + i) → tiles (l.map fun i => (i * mm, mm)) cs (s * mm) = some ((s + l.length) * mm) := by
            intro l
            induction l with
            | nil => intro cs s _ hl _; cases cs <;> simp at hl; simp [tiles]
            | cons x l ih =>
              intro cs s hlong hl hx
              cases cs with
              | nil => simp at hl
              | cons c cs =>
                simp only [allLong, Bool.and_eq_true] at hlong
                have hx0 := hx 0 x rfl
                simp only [Nat.add_zero] at hx0
                subst hx0
                simp only [List.map_cons, tiles, hlong.1, Bool.and_true]
                have : Nat.beq (x * mm) (x * mm) = true := by simp
                rw [this]
                simp only
                rw [show x * mm + mm = (x + 1) * mm by rw [Nat.add_mul]; omega, ih cs (x + 1) hlong.2 (by simpa using hl) (fun i y hy => by have := hx (i + 1) y (by simpa using hy); omega)]
                simp only [List.length_cons]
                congr 2
                omega
          have htl0 := htl (List.range n) cs1 0 hb.1 (by simp [hlen1]) (fun i x hx => by
            rw [List.getElem?_range (by have := (List.getElem?_eq_some_iff.1 hx).1; simpa using this)] at hx
            simp at hx; omega)
          simp only [Nat.zero_mul, List.length_range, Nat.zero_add] at htl0
          refine whole _ ((List.range n).map fun i => (i * mm, mm)) cs1 st1 xs tf' (n * mm) h1 htl0 (by rw [h2, size_cells hn, hk]) (by simp) (by simp [q1]) h4 h5 ?_
          intro i t' o x g1 g2 g3
          rw [List.getElem?_map, Option.map_eq_some_iff] at g1
          obtain ⟨f, g4, rfl⟩ := g1
          rw [List.getElem?_map, g4] at g2
          simp only [Option.map_some, Option.some.injEq] at g2
          subst g2
          obtain ⟨y, g5, g6⟩ := q2 i f g4
          rw [g3] at g5; injection g5 with g5; subst g5
          exact g6
        · rename_i fs
          split at h <;> (try (simp at h; done))
          rename_i cs1 st1 sz n h1 hsz hn
          split at h <;> (try (simp at h; done))
          rename_i k htl
          split at h <;> (try (simp at h; done))
          rename_i hk
          have hk := Nat.eq_of_beq_eq_true hk
          simp at h; obtain ⟨rfl, rfl⟩ := h
          obtain ⟨tf', xs, h2, h3, h4, h5⟩ := trod_struct hu ht
          injection h4 with h4
          obtain ⟨q1, q2⟩ := mapM_some _ _ _ h3
          have hsz2 : ∀ (fs : List Field) (sz : List (Nat × Nat)), fieldSizes (Cx.of P) fs = some sz → sz = fs.map fun f => (f.offset, P.cellsOf f.type) := by
            intro fs
            induction fs with
            | nil => intro sz h; simp [fieldSizes] at h; subst h; rfl
            | cons f fs ih =>
              intro sz h
              simp only [fieldSizes] at h
              split at h <;> (try (simp at h; done))
              rename_i n hn
              split at h <;> (try (simp at h; done))
              rename_i r hr
              simp at h; subst h
              rw [ih r hr]; simp [size_cells hn]
          have hsz3 := hsz2 _ _ hsz
          refine whole _ sz cs1 st1 xs tf' k h1 htl (by rw [h2, size_cells hn, hk]) (by simp [hsz3]) (by simp [q1]) h4 h5 ?_
          intro i t' o x g1 g2 g3
          rw [List.getElem?_map, Option.map_eq_some_iff] at g1
          obtain ⟨f, g4, rfl⟩ := g1
          rw [hsz3, List.getElem?_map, g4] at g2
          simp only [Option.map_some, Option.some.injEq] at g2
          subst g2
          obtain ⟨y, g5, g6⟩ := q2 i f g4
          rw [g3] at g5; injection g5 with g5; subst g5
          exact g6
      | iface name d =>
        cases ds <;> simp only at h <;> (try (simp at h; done))
        split at h <;> (try (simp at h; done))
        rename_i u hty
        split at h <;> (try (simp at h; done))
        rename_i e hud
        split at h <;> (try (simp at h; done))
        rename_i v st1 h1
        simp at h; obtain ⟨rfl, rfl⟩ := h
        rcases trod_iface hu ht with ⟨_, h2⟩ | ⟨u', v', rfl, ⟨_, h2⟩ | ⟨name', tf', d', h2, h3, h4⟩⟩
        · cases h2
        · cases h2
        · injection h4 with h4 h5
          subst h4; subst h5
          have hne : nm ≠ [] := by rintro rfl; simp [typeOf] at hty
          have := typeOf_ok nm hnm _ _ _ hty h2
          subst this
          have hok := hcl hne u' v' (by simp)
          have hv' : v'.cells.toList = [v'] := by
            unfold Value.okWide at hok
            rw [Cx.desc_under hud] at hok
            unfold Cell.okWide at hok
            rw [Cx.desc_under hud] at hok
            unfold Cell.ok at hok
            rw [Cx.desc_under hud] at hok
            cases v' <;> simp [Value.cells] at hok ⊢
          have hnif : ∀ uu vv, v' ≠ .iface uu vv := by
            rintro uu vv rfl
            unfold Value.okWide at hok
            rw [Cx.desc_under hud] at hok
            unfold Cell.okWide at hok
            rw [Cx.desc_under hud] at hok
            unfold Cell.ok at hok
            rw [Cx.desc_under hud] at hok
            simp at hok
          rw [hv'] at h3
          obtain ⟨m1, e1, l1, v1, c1⟩ := ih nm hnm u' d st [v] st1 h1 m hm tf' [v'] p h3 hpl (fun _ uu vv hvv => absurd (List.mem_singleton.1 hvv).symm (hnif uu vv))
          refine ⟨m1, e1, l1, fun μ hμ => ?_, c1⟩
          have := v1 μ hμ
          simp only [List.map_cons, List.map_nil, List.cons.injEq, and_true] at this
          simp [conc, this]
      | held hv =>
        cases ds <;> simp only at h <;> (try (simp at h; done))
        split at h <;> (try (simp at h; done))
        rename_i v hv1
        split at h <;> (try (simp at h; done))
        rename_i hfl
        simp at h; obtain ⟨rfl, rfl⟩ := h
        rcases trod_func hu ht with ⟨_, h1⟩ | ⟨fn, first, cap, h1, h2⟩
        · cases h1
        · injection h2 with h2
          have := hh _ _ _ _ _ _ h2.symm hv1
          subst this
          exact keep rfl rfl h1 hfl
      | map entries =>
        cases ds <;> simp only at h <;> (try (simp at h; done))
        rename_i k e
        split at h <;> (try (simp at h; done))
        rename_i kd agg hkd hagg
        split at h <;> (try (simp at h; done))
        rename_i aes hl
        simp at h; obtain ⟨rfl, rfl⟩ := h
        rcases trod_map hu ht with ⟨_, h1⟩ | ⟨b, es, clock, tf', ents, rfl, h1, hbn, h2, h3, _⟩
        · cases h1
        · injection h3 with h3
          subst h3
          have hf0 : LayOk enc P w held False (layA (Cx.of P) [] hold fuel) := by
            have := ih [] (by rfl)
            intro t d st cs st' a1 m a2 tf ccs p a3 _ _
            exact this t d st cs st' a1 m a2 tf ccs p a3 (fun h => absurd rfl h) (fun h => absurd rfl h)
          have hid := hm.fresh st.ct (Nat.le_refl _)
          have hobj := map_rep hf0 hkd hagg h1 hbn h2 hl (m := m) (id := st.ct)
          refine ⟨setM m st.ct ⟨b, 0, clock, .nilFunc⟩, setM_mono hid, hm.new rfl (Array.getElem?_eq_some_iff.1 h1).1 hm.ng hobj, fun μ hμ => ?_, by simp⟩
          have hloc : μ st.ct = ⟨b, 0, clock, .nilFunc⟩ := hμ _ _ (setM_same _ _)
          simp [hloc]

end
end
end Go.Ai

/-! What package-level variables hold when a call begins: the state. -/
namespace Go.Ai
open Go
noncomputable section

abbrev VarL (H : Type) := List (Nat × TypeId × DataW H)

def layVars {H : Type} (f : LayF H) : VarL H → St → Option St
  | [], st => some st
  | (g, t, d) :: l, st => match f t d st with
    | some (cs, st1) => layVars f l ⟨st1.hp.set g (.row t cs false false), st1.ct⟩
    | none => none

/-- the variable's number and type -/
def varOf (P : Program) (n : String) : Option (Nat × TypeId) := match P.globalNamed n with
  | some g => match P.globals[g]? with
    | some gl => some (g, gl.type)
    | none => none
  | none => none

def plainVars (P : Program) : List (String × DataW Unit) → Option (VarL Unit)
  | [] => some []
  | (n, d) :: l => match varOf P n, plainVars P l with
    | some (g, t), some r => some ((g, t, d) :: r)
    | _, _ => none

def tabVars (P : Program) : List (String × DataW Unit) → Option (VarL (List UInt8))
  | [] => some []
  | (n, d) :: l => match varOf P n, d.funcsIn?, tabVars P l with
    | some (g, t), some d, some r => some ((g, t, d.funcsOut) :: r)
    | _, _, _ => none

def holdOf (P : Program) : List Nat → List UInt8 → Option Value
  | [], _ => none
  | f :: l, h => match P.funcs[f]? with
    | some fn => match decide (fn.name.toUTF8.data.toList = h) && decide (h ≠ []) && decide (P.funcNamed fn.name = some f) with
      | true => some (.func (.func f) #[] #[])
      | false => holdOf P l h
    | none => none

def isTab (x : String × DataW Unit) : Bool := x.2.handleName?.isSome

/-- the abstract heap of a call without arguments -/
def laidStart (P : Program) (nm : List (String × TypeId)) (fs : List Nat) (laid : List (String × DataW Unit)) : Option St :=
  match plainVars P (laid.filter fun x => x.2.handleName?.isNone), tabVars P (laid.filter fun x => x.2.handleName?.isSome) with
  | some l1, some l2 => match layVars (layA (Cx.of P) nm (fun _ => none) 100) l1 ⟨.nil, P.globals.size⟩ with
    | some st1 => layVars (layA (Cx.of P) [] (holdOf P fs) 100) l2 st1
    | none => none
  | _, _ => none

section
variable {P : Program} {w : World} {H : Type}

theorem holdOf_ok (fs : List Nat) : HoldOk (funcToken P) (holdOf P fs) := by
  intro t fn first cap h v he hv
  induction fs with
  | nil => simp [holdOf] at hv
  | cons f0 l ih =>
    simp only [holdOf] at hv
    split at hv <;> (try (simp at hv; done))
    rename_i fn0 hf0
    split at hv
    · rename_i hc
      simp only [Bool.and_eq_true, decide_eq_true_eq] at hc
      obtain ⟨⟨h1, h2⟩, h3⟩ := hc
      simp at hv; subst hv
      unfold funcToken at he
      split at he <;> (try (simp_all; done))
      rename_i f first' cap' heq
      simp only [Prod.mk.injEq, Value.func.injEq] at heq
      obtain ⟨_, rfl, rfl, rfl⟩ := heq
      split at he
      · rename_i hemp
        simp only [Bool.and_eq_true, Array.isEmpty_iff] at hemp
        split at he
        · rename_i fn1 hf1
          split at he
          · rename_i hn1
            simp only [beq_iff_eq] at hn1
            have : fn1.name = fn0.name := by
              rw [← h1] at he
              have : fn1.name.toUTF8 = fn0.name.toUTF8 := by
                apply ByteArray.ext
                exact Array.ext' he
              exact String.toByteArray_inj.1 this
            rw [this, h3] at hn1
            injection hn1 with hn1
            subst hn1
            rw [hemp.1, hemp.2]
          · exact absurd he.symm h2
        · exact absurd he.symm h2
      · exact absurd he.symm h2
    · exact ih hv

structure VarAt (enc : TypeId × Value → H) (P : Program) (w : World) (held : Bool) (need : Prop) (x : Nat × TypeId × DataW H) : Prop where
  ex : ∃ (cs : Array Value) (e : TypeId) (fz : Nat × Nat) (tf : Nat) (p : List MemPlace), x.1 < P.globals.size ∧ w.heap[x.1]? = some (.cells cs e fz) ∧ DataW.trod enc P w 0 (fun _ => true) held tf x.2.1 cs.toList = some (x.2.2, p) ∧ (need → PlacesOk P w p) ∧ (need → CellsOk P w cs.toList)

theorem layVars_ok {enc : TypeId × Value → H} {held : Bool} {need : Prop} {f : LayF H} (hf : LayOk enc P w held need f) : ∀ (l : VarL H) (st st' : St), layVars f l st = some st' → ∀ m, Lay P w m st → (∀ x ∈ l, VarAt enc P w held need x) →
    ∃ m', (∀ i l, m i = some l → m' i = some l) ∧ Lay P w m' st' := by
  intro l
  induction l with
  | nil => intro st st' h m hm _; simp [layVars] at h; subst h; exact ⟨m, fun _ _ h => h, hm⟩
  | cons x l ih =>
    obtain ⟨g, t, d⟩ := x
    intro st st' h m hm hat
    simp only [layVars] at h
    split at h <;> (try (simp at h; done))
    rename_i cs1 st1 h1
    obtain ⟨cs, e, fz, tf, p, hg, hb, htr, hp, hc⟩ := (hat (g, t, d) (by simp)).ex
    simp only at hg hb htr
    obtain ⟨m1, e1, l1, v1, _⟩ := hf t d st cs1 st1 h1 m hm tf cs.toList p htr hp hc
    have hlay : Lay P w m1 ⟨st1.hp.set g (.row t cs1 false false), st1.ct⟩ := by
      refine ⟨?_, l1.fresh, l1.glob⟩
      intro id o hgo
      simp only [St.G, T.get_set] at hgo
      split at hgo
      · rename_i heq; subst heq
        injection hgo with hgo; subst hgo
        have hm1 := l1.glob id hg
        refine ⟨⟨_, hm1, (Array.getElem?_eq_some_iff.1 hb).1⟩, rfl, fun μ hμ => ?_⟩
        have hloc : μ id = ⟨id, 0, 0, .nilFunc⟩ := hμ _ _ hm1
        have hv := v1 μ hμ
        refine ⟨cs, e, fz, by rw [hloc]; exact hb, ?_, ?_, fun h => by simp at h, fun h => by simp at h, fun h => by simp at h⟩
        · rw [hloc]
          have : cs1.length = cs.size := by rw [← Array.length_toList, ← hv]; simp
          simp [this]
        · intro j v hj _
          rw [hloc, ← Array.getElem?_toList, ← hv, List.getElem?_map]
          simp [hj]
      · exact l1.obj id o hgo
    obtain ⟨m2, e2, l2⟩ := ih _ st' h m1 hlay (fun x hx => hat x (by simp [hx]))
    exact ⟨m2, fun i l hi => e2 i l (e1 i l hi), l2⟩

theorem varOf_spec {n : String} {g : Nat} {t : TypeId} (h : varOf P n = some (g, t)) : P.globalNamed n = some g ∧ (P.globals[g]?).map (·.type) = some t ∧ g < P.globals.size := by
  unfold varOf at h
  split at h <;> (try (simp at h; done))
  rename_i g' hg
  split at h <;> (try (simp at h; done))
  rename_i gl hgl
  simp at h; obtain ⟨rfl, rfl⟩ := h
  exact ⟨hg, by simp [hgl], (Array.getElem?_eq_some_iff.1 hgl).1⟩

theorem var?_heap {n : String} {g : Nat} {cs : Array Value} (hg : P.globalNamed n = some g) (h : w.var? P n = some cs) : ∃ e fz, w.heap[g]? = some (.cells cs e fz) := by
  unfold World.var? at h
  rw [hg] at h
  simp only [Option.bind_some] at h
  split at h <;> (try (simp at h; done))
  rename_i e fz hb
  simp at h; subst h
  exact ⟨e, fz, hb⟩

theorem plainVars_at : ∀ (laid : List (String × DataW Unit)) (l : VarL Unit) (ps _qs : List MemPlace), plainVars P laid = some l → DataW.LaidVars P w laid ps →
    (∀ b off, MemPlace.cell b off ∈ ps → ∀ u v, w.cell? ⟨b, off, none⟩ = some (.iface u v) → Value.okWide P w .any 0 u v) → ∀ (need : Prop), ∀ x ∈ l, VarAt (fun _ => ()) P w false need x := by
  intro laid
  induction laid with
  | nil => intro l ps qs h _ _ _ x hx; simp [plainVars] at h; subst h; simp at hx
  | cons y laid ih =>
    obtain ⟨n, d⟩ := y
    intro l ps qs h hl hok need x hx
    simp only [plainVars] at h
    split at h <;> (try (simp at h; done))
    rename_i g t r hv hr
    simp at h; subst h
    obtain ⟨h1, h2, h3⟩ := varOf_spec hv
    obtain ⟨g', t', cs, tf, p, q, k1, k2, k3, k4, k5, rfl⟩ := hl
    rw [h1] at k1; injection k1 with k1; subst k1
    rw [h2] at k2; injection k2 with k2; subst k2
    rcases List.mem_cons.1 hx with rfl | hx
    · obtain ⟨e, fz, hb⟩ := var?_heap h1 k3
      refine ⟨cs, e, fz, tf, p, h3, hb, k4, fun _ b off hm => hok b off (by simp [hm]), fun _ u v huv => ?_⟩
      obtain ⟨j, hj⟩ := List.getElem?_of_mem huv
      have hjl : j < cs.size := by have := (List.getElem?_eq_some_iff.1 hj).1; simpa using this
      refine hok g j ?_ u v ?_
      · have := row_mem (a := ⟨g, 0, none⟩) hjl
        simp only [Nat.zero_add] at this
        simp [this]
      · simp only [World.cell?, hb]
        simpa using hj
    · exact ih r q qs hr k5 (fun b off hm => hok b off (by simp [hm])) need x hx

theorem tabVars_at : ∀ (laid : List (String × DataW Unit)) (l : VarL (List UInt8)), tabVars P laid = some l → handlesMet P laid w → ∀ x ∈ l, VarAt (funcToken P) P w true False x := by
  intro laid
  induction laid with
  | nil => intro l h _ x hx; simp [tabVars] at h; subst h; simp at hx
  | cons y laid ih =>
    obtain ⟨n, d⟩ := y
    intro l h hl x hx
    simp only [tabVars] at h
    split at h <;> (try (simp at h; done))
    rename_i g t d' r hv hd hr
    simp at h; subst h
    obtain ⟨h1, h2, h3⟩ := varOf_spec hv
    rcases List.mem_cons.1 hx with rfl | hx
    · have := hl (n, d) (by simp)
      simp only [hd] at this
      obtain ⟨g', t', cs, tf, p, k1, k2, k3, k4⟩ := this
      rw [h1] at k1; injection k1 with k1; subst k1
      rw [h2] at k2; injection k2 with k2; subst k2
      obtain ⟨e, fz, hb⟩ := var?_heap h1 k3
      exact ⟨cs, e, fz, tf, p, h3, hb, k4, fun h => h.elim, fun h => h.elim⟩
    · exact ih r hr (fun x hx => hl x (by simp [hx])) x hx

/-- WHAT THE CONDITION ON THE LAID VARIABLES GIVES: the abstract heap. -/
theorem laidStart_rep {nm : List (String × TypeId)} {fs : List Nat} {laid : List (String × DataW Unit)} {st : St} (hnm : nm.all (nameOk P) = true) (h : laidStart P nm fs laid = some st) (hl : laidMetH P laid w) :
    ∃ m, Rep (Cx.of P) m st.G w ∧ (∀ i, st.ct ≤ i → m i = none) ∧ ∀ id o, st.G id o → o.isWr = false := by
  unfold laidStart at h
  split at h <;> (try (simp at h; done))
  rename_i l1 l2 h1 h2
  split at h <;> (try (simp at h; done))
  rename_i st1 h3
  have hpl : laidMet P (laid.filter fun x => x.2.handleName?.isNone) w ∧ handlesMet P (laid.filter fun x => x.2.handleName?.isSome) w := by
    unfold laidMetH at hl
    split at hl
    · rename_i hnil
      have : laid.filter (fun x => x.2.handleName?.isNone) = laid := by
        rw [List.filter_eq_self]
        intro x hx
        have := List.filter_eq_nil_iff.1 hnil x hx
        simpa using this
      rw [this]
      refine ⟨hl, fun x hx => ?_⟩
      rw [hnil] at hx; simp at hx
    · rename_i h hs heq
      rw [heq]; exact hl
  obtain ⟨⟨ps, hps, _, hok⟩, hhm⟩ := hpl
  obtain ⟨m1, _, k1⟩ := layVars_ok (layA_ok (enc := fun _ => ()) (held := false) (hold := fun _ => none) (fun _ _ _ _ _ _ _ h => by cases h) 100 nm hnm) l1 _ st1 h3 _ (lay_start P w)
    (plainVars_at _ l1 ps [] h1 hps (fun b off hm => (hok b off hm).2) _)
  obtain ⟨m2, _, k2⟩ := layVars_ok (layA_ok (held := true) (holdOf_ok (P := P) fs) 100 [] rfl) l2 _ st h m1 k1 (fun x hx => by
    obtain ⟨cs, e, fz, tf, p, q1, q2, q3, _, _⟩ := (tabVars_at _ l2 h2 hhm x hx).ex
    exact ⟨cs, e, fz, tf, p, q1, q2, q3, fun h => absurd rfl h, fun h => absurd rfl h⟩)
  refine ⟨m2, ⟨fun id o hg => (k2.obj id o hg).1, fun μ hμ id o hg => (k2.obj id o hg).2.2 μ hμ, ?_, k2.glob⟩, k2.fresh, fun id o hg => (k2.obj id o hg).2.1⟩
  intro i j oi oj li lj hi _ hw
  rw [(k2.obj i oi hi).2.1] at hw; cases hw

end
end
end Go.Ai

/-! Calls whose results are known already. -/
namespace Go.Ai
open Go
noncomputable section

structure Memo where
  f : Nat
  args : List Value
  v : Value
  /-- the objects that are looked at -/
  ids : List Nat

def beqE : List MapEntry → List MapEntry → Bool
  | [], [] => true
  | x :: a, y :: b => beqV x.key y.key && beqV x.val y.val && Nat.beq x.born y.born && beqE a b
  | _, _ => false
/-- objects that nothing may write, by sight -/
def beqO : AObj → AObj → Bool
  | .row e cs o wr, .row e' cs' o' wr' => !wr && !wr' && Nat.beq e e' && beqVL cs cs' && decide (o = o')
  | .map es lk wr, .map es' lk' wr' => !wr && !wr' && beqE es es' && decide (lk = lk')
  | _, _ => false

mutual
/-- all ids are below -/
def below (n : Nat) : Value → Bool
  | .pointer a => match a with | none => true | some a => Nat.blt a.block n
  | .slice a _ _ => match a with | none => true | some a => Nat.blt a.block n
  | .map r => match r with | none => true | some r => Nat.blt r n
  | .chan r => match r with | none => true | some r => Nat.blt r n
  | .func fn a b => (match fn with | .yield _ => false | _ => true) && belowA n a && belowA n b
  | .iface _ v => below n v
  | .agg cs => belowA n cs
  | .tuple cs => belowA n cs
  | _ => true
def belowA (n : Nat) : Array Value → Bool
  | ⟨l⟩ => belowL n l
def belowL (n : Nat) : List Value → Bool
  | [] => true
  | v :: l => below n v && belowL n l
end
def belowE (n : Nat) : List MapEntry → Bool
  | [] => true
  | e :: l => below n e.val && belowE n l
def belowO (n : Nat) : AObj → Bool
  | .row _ cs _ _ => belowL n cs
  | .map es _ _ => belowE n es
  | _ => false

def keepIds (hp : T AObj) : List Nat → T AObj
  | [] => .nil
  | i :: l => match hp.get i with
    | some o => (keepIds hp l).set i o
    | none => keepIds hp l
def keepOk (n : Nat) (hp : T AObj) : List Nat → Bool
  | [] => true
  | i :: l => Nat.blt i n && (match hp.get i with
    | some o => belowO n o
    | none => false) && keepOk n hp l
def hasIds (hp0 hp : T AObj) : List Nat → Bool
  | [] => true
  | i :: l => match hp0.get i, hp.get i with
    | some o, some o' => beqO o o' && hasIds hp0 hp l
    | _, _ => false

def memoOk (cx : Cx) (ov : Ov) (n : Nat) (st0 : St) (e : Memo) : Bool :=
  flatL e.args && flat e.v && Nat.ble cx.ng st0.ct && keepOk st0.ct st0.hp e.ids && match call cx ov n e.f e.args ⟨keepIds st0.hp e.ids, st0.ct⟩ with
    | some (v, _) => beqV e.v v
    | none => false

def memoFind (st0 : St) (f : Nat) (args : List Value) (st : St) : List Memo → Option Value
  | [] => none
  | e :: l => match Nat.beq e.f f with
    | true => match beqVL e.args args with
      | true => match hasIds st0.hp st.hp e.ids with
        | true => some e.v
        | false => memoFind st0 f args st l
      | false => memoFind st0 f args st l
    | false => memoFind st0 f args st l

def memoHas (f : Nat) : List Memo → Bool
  | [] => false
  | e :: l => match Nat.beq e.f f with
    | true => true
    | false => memoHas f l

/-- ahead of the others; else the call is run -/
def ovMemoF (cx : Cx) (st0 : St) (l : List Memo) (n : Nat) (ov : Ov) : Nat → Option (List Value → St → Option (Value × St)) := fun f =>
  match memoHas f l with
  | true => some fun args st => match memoFind st0 f args st l with
    | some v => some (v, st)
    | none => call cx ov n f args st
  | false => ov f
def ovMemo (cx : Cx) (st0 : St) (l : List Memo) (n : Nat) (ov : Ov) : Ov := ⟨ovMemoF cx st0 l n ov, ov.lp⟩

/-! ### soundness -/
theorem beqE_eq : ∀ (a b : List MapEntry), beqE a b = true → a = b
  | [], [], _ => rfl
  | [], _ :: _, h => by simp [beqE] at h
  | _ :: _, [], h => by simp [beqE] at h
  | x :: a, y :: b, h => by
    simp only [beqE, Bool.and_eq_true] at h
    obtain ⟨⟨⟨h1, h2⟩, h3⟩, h4⟩ := h
    have e1 := beqV_eq _ _ h1
    have e2 := beqV_eq _ _ h2
    have e3 := Nat.eq_of_beq_eq_true h3
    rw [beqE_eq a b h4]
    cases x; cases y; simp_all

theorem beqO_eq : ∀ (a b : AObj), beqO a b = true → a = b ∧ a.isWr = false := by
  intro a b h
  cases a <;> cases b <;> simp only [beqO] at h <;> (try (cases h; done))
  · simp only [Bool.and_eq_true, Bool.not_eq_true', decide_eq_true_eq] at h
    obtain ⟨⟨⟨⟨h1, h2⟩, h3⟩, h4⟩, h5⟩ := h
    have e1 := Nat.eq_of_beq_eq_true h3
    have e2 := beqVL_eq _ _ h4
    subst h1; subst h2; subst e1; subst e2; subst h5
    exact ⟨rfl, rfl⟩
  · simp only [Bool.and_eq_true, Bool.not_eq_true', decide_eq_true_eq] at h
    obtain ⟨⟨⟨h1, h2⟩, h3⟩, h4⟩ := h
    have e1 := beqE_eq _ _ h3
    subst h1; subst h2; subst e1; subst h4
    exact ⟨rfl, rfl⟩

def AgreeBelow (n : Nat) (μ μ' : Nat → Loc) : Prop := ∀ i, i < n → μ i = μ' i

mutual
theorem conc_below {n : Nat} {μ μ' : Nat → Loc} (h : AgreeBelow n μ μ') : ∀ v, below n v = true → conc μ v = conc μ' v
  | .bool _, _ => by simp
  | .int .., _ => by simp
  | .float .., _ => by simp [conc]
  | .complex .., _ => by simp [conc]
  | .string _, _ => by simp
  | .pointer a, hb => by
    cases a with
    | none => simp
    | some a =>
      simp only [below] at hb
      have := h _ (Nat.le_of_ble_eq_true hb)
      simp [concAddr, this]
  | .slice a _ c, hb => by
    cases a with
    | none => simp
    | some a =>
      simp only [below] at hb
      have := h _ (Nat.le_of_ble_eq_true hb)
      have hc : concCap μ a.block c = concCap μ' a.block c := by simp only [concCap, this]
      have he : ∀ k, concEnd μ a k = concEnd μ' a k := by
        intro k
        unfold concEnd
        cases a.spot <;> simp only [concAddr, this]
      rw [conc_slice, conc_slice, hc, he]
  | .map r, hb => by
    cases r with
    | none => simp
    | some r =>
      simp only [below] at hb
      have := h _ (Nat.le_of_ble_eq_true hb)
      simp [this]
  | .chan r, hb => by
    cases r with
    | none => simp [conc]
    | some r =>
      simp only [below] at hb
      have := h _ (Nat.le_of_ble_eq_true hb)
      simp [conc, this]
  | .func fn a b, hb => by
    simp only [below, Bool.and_eq_true] at hb
    have hfn : ∀ μ, concFn μ fn = fn := fun μ => concFn_of fun l e => by subst e; simp at hb
    simp [concA_below h a hb.1.2, concA_below h b hb.2, hfn]
  | .nilFunc, _ => by simp
  | .iface t v, hb => by simp only [below] at hb; simp [conc_below h v hb]
  | .nilIface, _ => by simp
  | .agg cs, hb => by simp only [below] at hb; simp [concA_below h cs hb]
  | .tuple cs, hb => by simp only [below] at hb; simp [concA_below h cs hb]
theorem concA_below {n : Nat} {μ μ' : Nat → Loc} (h : AgreeBelow n μ μ') : ∀ a, belowA n a = true → concA μ a = concA μ' a
  | ⟨l⟩, hb => by simp only [belowA] at hb; simp only [concA, concL_below h l hb]
theorem concL_below {n : Nat} {μ μ' : Nat → Loc} (h : AgreeBelow n μ μ') : ∀ l, belowL n l = true → concL μ l = concL μ' l
  | [], _ => by simp [concL]
  | v :: l, hb => by simp only [belowL, Bool.and_eq_true] at hb; simp [concL, conc_below h v hb.1, concL_below h l hb.2]
end

theorem belowL_mem {n : Nat} : ∀ (l : List Value), belowL n l = true → ∀ v ∈ l, below n v = true := by
  intro l
  induction l with
  | nil => intro _ v hv; simp at hv
  | cons x l ih =>
    intro h v hv
    simp only [belowL, Bool.and_eq_true] at h
    rcases List.mem_cons.1 hv with rfl | hv
    · exact h.1
    · exact ih h.2 v hv
theorem belowE_mem {n : Nat} : ∀ (l : List MapEntry), belowE n l = true → ∀ e ∈ l, below n e.val = true := by
  intro l
  induction l with
  | nil => intro _ v hv; simp at hv
  | cons x l ih =>
    intro h v hv
    simp only [belowE, Bool.and_eq_true] at h
    rcases List.mem_cons.1 hv with rfl | hv
    · exact h.1
    · exact ih h.2 v hv

theorem ObjRep.below {cx : Cx} {n : Nat} {μ μ' : Nat → Loc} (h : AgreeBelow n μ μ') {w : World} {id : Nat} (hid : id < n) {o : AObj} (ho : belowO n o = true) (hr : ObjRep cx μ' w id o) : ObjRep cx μ w id o := by
  have e := h id hid
  cases o with
  | row t cs o wr =>
    simp only [belowO] at ho
    obtain ⟨cells, e', fz, h1, h2, h3, h4, h5, h6⟩ := hr
    rw [← e] at h1 h2 h5 h6
    refine ⟨cells, e', fz, h1, h2, fun j v hj hc => ?_, h4, h5, h6⟩
    rw [e, conc_below h v (belowL_mem _ ho v (List.mem_of_getElem? hj))]
    exact h3 j v hj hc
  | map es lk wr =>
    simp only [belowO] at ho
    obtain ⟨⟨es', clock, h1, h2, h3, h4, h5⟩, h6⟩ := hr
    rw [← e] at h1 h5
    refine ⟨⟨es', clock, ?_, h2, h3, h4, h5⟩, h6⟩
    rw [h1]
    congr 2
    apply congrArg
    refine List.map_congr_left fun x hx => ?_
    have : kvOf x ∈ es.map kvOf := h2.mem_iff.1 (List.mem_map.2 ⟨x, hx, rfl⟩)
    obtain ⟨y, hy, hxy⟩ := List.mem_map.1 this
    simp only [kvOf, Prod.mk.injEq] at hxy
    have := belowE_mem _ ho y hy
    rw [hxy.2] at this
    simp [concE, conc_below h _ this]
  | _ => simp [belowO] at ho

theorem keepIds_get {hp : T AObj} : ∀ (l : List Nat) (id : Nat) (o : AObj), (keepIds hp l).get id = some o → id ∈ l ∧ hp.get id = some o := by
  intro l
  induction l with
  | nil => intro id o h; simp [keepIds, T.get_nil] at h
  | cons i l ih =>
    intro id o h
    simp only [keepIds] at h
    split at h
    · rename_i o' ho'
      rw [T.get_set] at h
      split at h
      · rename_i e; subst e; injection h with h; subst h; exact ⟨by simp, ho'⟩
      · obtain ⟨h1, h2⟩ := ih id o h; exact ⟨by simp [h1], h2⟩
    · obtain ⟨h1, h2⟩ := ih id o h; exact ⟨by simp [h1], h2⟩

theorem keepOk_mem {n : Nat} {hp : T AObj} : ∀ (l : List Nat), keepOk n hp l = true → ∀ id ∈ l, id < n ∧ ∃ o, hp.get id = some o ∧ belowO n o = true := by
  intro l
  induction l with
  | nil => intro _ id h; simp at h
  | cons i l ih =>
    intro h id hid
    simp only [keepOk, Bool.and_eq_true] at h
    rcases List.mem_cons.1 hid with rfl | hid
    · refine ⟨Nat.le_of_ble_eq_true h.1.1, ?_⟩
      have h2 := h.1.2
      split at h2
      · rename_i o ho; exact ⟨o, ho, h2⟩
      · cases h2
    · exact ih h.2 id hid

theorem hasIds_mem {hp0 hp : T AObj} : ∀ (l : List Nat), hasIds hp0 hp l = true → ∀ id ∈ l, ∀ o, hp0.get id = some o → hp.get id = some o ∧ o.isWr = false := by
  intro l
  induction l with
  | nil => intro _ id h; simp at h
  | cons i l ih =>
    intro h id hid o ho
    simp only [hasIds] at h
    split at h <;> (try (cases h; done))
    rename_i o1 o2 h1 h2
    simp only [Bool.and_eq_true] at h
    rcases List.mem_cons.1 hid with rfl | hid
    · obtain ⟨e1, e2⟩ := beqO_eq _ _ h.1
      subst e1
      rw [h1] at ho; injection ho with ho; subst ho
      exact ⟨h2, e2⟩
    · exact ih h.2 id hid o ho

theorem memoFind_mem {st0 st : St} {f : Nat} {args : List Value} : ∀ (l : List Memo) (v : Value), memoFind st0 f args st l = some v → ∃ e ∈ l, e.f = f ∧ e.args = args ∧ hasIds st0.hp st.hp e.ids = true ∧ e.v = v := by
  intro l
  induction l with
  | nil => intro v h; simp [memoFind] at h
  | cons e l ih =>
    intro v h
    have rest : memoFind st0 f args st l = some v → ∃ e' ∈ e :: l, e'.f = f ∧ e'.args = args ∧ hasIds st0.hp st.hp e'.ids = true ∧ e'.v = v := fun h => by
      obtain ⟨e', h1, h2⟩ := ih v h
      exact ⟨e', by simp [h1], h2⟩
    simp only [memoFind] at h
    split at h
    · rename_i h1
      split at h
      · rename_i h2
        split at h
        · rename_i h3
          simp at h
          exact ⟨e, by simp, Nat.eq_of_beq_eq_true h1, beqVL_eq _ _ h2, h3, h⟩
        · exact rest h
      · exact rest h
    · exact rest h

section
variable {P : Program} {ov : Ov}

theorem memo_ok (hmix : P.follows .mixedOrders = true) (hov : OvOk P ov) (hovm : OvMono ov) (hovi : OvIds ov) {n : Nat} {st0 st : St} {e : Memo} (h : memoOk (Cx.of P) ov n st0 e = true) (hids : hasIds st0.hp st.hp e.ids = true)
    {m : Nat → Option Loc} {w : World} {cargs : List Value} (hR : Rep (Cx.of P) m st.G w) (ha : VReps m e.args cargs) : FnOk P e.f cargs.toArray w (CallPost (Cx.of P) m st w e.v st) := by
  unfold memoOk at h
  simp only [Bool.and_eq_true] at h
  obtain ⟨⟨⟨⟨h1, h2⟩, h3⟩, h4⟩, h5⟩ := h
  split at h5 <;> (try (cases h5; done))
  rename_i v st2 hc
  have hv := beqV_eq _ _ h5
  have h3 := Nat.le_of_ble_eq_true h3
  generalize hm1 : (fun i => if i < st0.ct then m i else none) = m1
  have sub : ∀ id o, (⟨keepIds st0.hp e.ids, st0.ct⟩ : St).G id o → st.G id o ∧ o.isWr = false ∧ id < st0.ct ∧ belowO st0.ct o = true := by
    intro id o hg
    obtain ⟨g1, g2⟩ := keepIds_get _ _ _ hg
    obtain ⟨g3, o', g4, g5⟩ := keepOk_mem _ h4 id g1
    rw [g2] at g4; injection g4 with g4; subst g4
    obtain ⟨g6, g7⟩ := hasIds_mem _ hids id g1 o g2
    exact ⟨g6, g7, g3, g5⟩
  have hR1 : Rep (Cx.of P) m1 (⟨keepIds st0.hp e.ids, st0.ct⟩ : St).G w := {
    dom := fun id o hg => by
      obtain ⟨g1, _, g3, _⟩ := sub id o hg
      obtain ⟨l, k1, k2⟩ := hR.dom id o g1
      exact ⟨l, by rw [← hm1]; simp [g3, k1], k2⟩
    obj := fun μ hμ id o hg => by
      obtain ⟨g1, _, g3, g4⟩ := sub id o hg
      generalize hμ' : (fun i => if i < st0.ct then μ i else (m i).getD (μ i)) = μ'
      have hext : Ext m μ' := by
        intro i l hi
        rw [← hμ']
        by_cases hlt : i < st0.ct
        · simp only [hlt, if_true]
          exact hμ i l (by rw [← hm1]; simp [hlt, hi])
        · simp [hlt, hi]
      have hag : AgreeBelow st0.ct μ μ' := fun i hi => by rw [← hμ']; simp [hi]
      exact (hR.obj μ' hext id o g1).below hag g3 g4
    inj := fun i j oi oj li lj hi _ hw => by
      have := (sub i oi hi).2.1
      rw [this] at hw; cases hw
    glob := fun g hg => by
      have : g < st0.ct := Nat.lt_of_lt_of_le hg h3
      rw [← hm1]; simp [this, hR.glob g hg] }
  have hfl : ∀ μ : Nat → Loc, e.args.map (conc μ) = e.args := fun μ => by rw [← concL_eq]; exact concL_flat μ _ h1
  have hca : cargs = e.args := by rw [← ha _ (some0_ext m), hfl]
  have hfr : Fresh m1 st0.ct st2.ct := fun i hi _ => by rw [← hm1]; simp [Nat.not_lt.2 hi]
  have hcall := call_sound hmix hov hovm hovi hc hR1 (cargs := cargs) (fun μ _ => by rw [hca, hfl]) hfr
  have fin : ∀ cv w', CallPost (Cx.of P) m1 ⟨keepIds st0.hp e.ids, st0.ct⟩ w v st2 cv w' → CallPost (Cx.of P) m st w e.v st cv w' := by
    rintro cv w' ⟨m', hs, hvr⟩
    have hblk : ∀ b, b < w.heap.size → w'.heap[b]? = w.heap[b]? := fun b hb => hs.fr.block b hb fun id o l hg hw => by rw [(sub id o hg).2.1] at hw; cases hw
    refine ⟨m, ⟨fun _ _ h => h, fun _ _ h => .inl h, ⟨?_, ?_, hR.inj, hR.glob⟩, ⟨hs.fr.size, hs.fr.os, hs.fr.tape, hs.fr.output, fun b hb _ => hblk b hb⟩, fun id o l hg hl => .inr ⟨id, o, l, hg, fun h => h, hl, rfl⟩⟩, ?_⟩
    · intro id o hg
      obtain ⟨l, k1, k2⟩ := hR.dom id o hg
      exact ⟨l, k1, Nat.lt_of_lt_of_le k2 hs.fr.size⟩
    · intro μ hμ id o hg
      obtain ⟨l, k1, k2⟩ := hR.dom id o hg
      refine (hR.obj μ hμ id o hg).congr (hblk _ ?_)
      rw [hμ id l k1]; exact k2
    · intro μ _
      rw [conc_flat μ _ h2, ← hvr _ (some0_ext m'), ← hv, conc_flat _ _ h2]
  rcases hcall with ⟨cv, w', k1, k2⟩ | ⟨k1, k2⟩
  · exact .inl ⟨cv, w', k1, fin cv w' k2⟩
  · exact .inr ⟨k1, k2.mono fun x w' ⟨y, hy, hp⟩ => ⟨y, hy, fin y w' hp⟩⟩

theorem memoAll_nil {p : Memo → Prop} : ∀ e ∈ ([] : List Memo), p e := fun e he => by simp at he
theorem memoAll_cons {p : Memo → Prop} {e : Memo} {l : List Memo} (h : p e) (hl : ∀ x ∈ l, p x) : ∀ x ∈ e :: l, p x := fun x hx => by
  rcases List.mem_cons.1 hx with rfl | hx
  · exact h
  · exact hl x hx

theorem ovMemo_ok (hmix : P.follows .mixedOrders = true) (hov : OvOk P ov) (hovm : OvMono ov) (hovi : OvIds ov) {st0 : St} {l : List Memo} {n : Nat} (hl : ∀ e ∈ l, ∃ n, memoOk (Cx.of P) ov n st0 e = true) : OvOk P (ovMemo (Cx.of P) st0 l n ov) := by
  refine ⟨?_, hov.lp⟩
  intro f g args st v st' hg hr m w cargs hR ha hf
  simp only [ovMemo, ovMemoF] at hg
  split at hg
  · simp at hg; subst hg
    simp only at hr
    split at hr
    · rename_i v' hv'
      simp at hr; obtain ⟨rfl, rfl⟩ := hr
      obtain ⟨e, h1, rfl, rfl, h4, rfl⟩ := memoFind_mem _ _ hv'
      obtain ⟨n, hn⟩ := hl e h1
      exact memo_ok hmix hov hovm hovi hn h4 hR ha
    · exact call_sound hmix hov hovm hovi hr hR ha hf
  · exact hov.fn f g args st v st' hg hr m w cargs hR ha hf

theorem ovMemo_mono (hovm : OvMono ov) {cx : Cx} {st0 : St} {l : List Memo} {n : Nat} : OvMono (ovMemo cx st0 l n ov) := by
  refine ⟨?_, hovm.lp, hovm.keeps⟩
  intro f g args st v st' hg hr
  simp only [ovMemo, ovMemoF] at hg
  split at hg
  · simp at hg; subst hg
    simp only at hr
    split at hr
    · simp at hr; obtain ⟨_, rfl⟩ := hr; exact Nat.le_refl _
    · exact callA_ct hovm (run_ct hovm n) hr
  · exact hovm.fn f g args st v st' hg hr

theorem ovMemo_ids (hovm : OvMono ov) (hovi : OvIds ov) {st0 : St} {l : List Memo} {n : Nat} : OvIds (ovMemo (Cx.of P) st0 l n ov) := by
  refine ⟨?_, hovi.lp⟩
  intro f g args st v st' hg hr
  simp only [ovMemo, ovMemoF] at hg
  split at hg
  · simp at hg; subst hg
    simp only at hr
    split at hr
    · simp at hr; obtain ⟨_, rfl⟩ := hr; exact Ids.refl _
    · exact callA_ids hovi (run_ids hovm hovi n) hr
  · exact hovi.fn f g args st v st' hg hr

end
end
end Go.Ai

/-! The same interpreter, cut so that the kernel goes through it faster. -/
namespace Go.Ai
open Go
noncomputable section

/-! ### strings -/
theorem toListLoop_data (b : ByteArray) : ∀ (n i : Nat) (r : List UInt8), b.size - i = n → ByteArray.toList.loop b i r = r.reverse ++ b.data.toList.drop i := by
  intro n
  induction n with
  | zero =>
    intro i r h
    rw [ByteArray.toList.loop]
    rw [if_neg (by omega)]
    have : b.data.toList.length ≤ i := by
      have : b.data.toList.length = b.size := by rw [Array.length_toList]; rfl
      omega
    rw [List.drop_of_length_le this]; simp
  | succ n ih =>
    intro i r h
    rw [ByteArray.toList.loop]
    rw [if_pos (by omega), ih (i + 1) _ (by omega)]
    have hlt : i < b.data.toList.length := by
      have : b.data.toList.length = b.size := by rw [Array.length_toList]; rfl
      omega
    rw [List.drop_eq_getElem_cons hlt]
    have hget : b.get! i = b.data.toList[i] := by
      have h2 : i < b.data.size := by simpa using hlt
      show b.data[i]! = _
      rw [getElem!_pos b.data i h2]
      simp
    rw [hget]; simp
theorem toList_data (b : ByteArray) : b.toList = b.data.toList := by
  show ByteArray.toList.loop b 0 [] = _
  rw [toListLoop_data b _ 0 [] rfl]; simp

def beqBytes : List UInt8 → List UInt8 → Bool
  | [], [] => true
  | a :: x, b :: y => match Nat.beq a.toNat b.toNat with
    | true => beqBytes x y
    | false => false
  | _, _ => false
theorem beqBytes_eq : ∀ (x y : List UInt8), beqBytes x y = (x == y)
  | [], [] => rfl
  | [], _ :: _ => rfl
  | _ :: _, [] => rfl
  | a :: x, b :: y => by
    simp only [beqBytes]
    cases h : Nat.beq a.toNat b.toNat with
    | true =>
      have : a = b := UInt8.toNat_inj.1 (Nat.eq_of_beq_eq_true h)
      subst this
      simp [beqBytes_eq x y]
    | false =>
      have hne : a ≠ b := by rintro rfl; simp at h
      simp [hne]

/-! ### pure operations -/
def intF (op : BinOp) (k : IntKind) (x : Int) (k' : IntKind) (y : Int) : Option Value :=
  match op with
  | .add => match decide (k = k') with | true => some (.int k (k.wrap (x + y))) | false => none
  | .sub => match decide (k = k') with | true => some (.int k (k.wrap (x - y))) | false => none
  | .mul => match decide (k = k') with | true => some (.int k (k.wrap (x * y))) | false => none
  | .eql => match decide (k = k') with | true => some (.bool (decide (x = y))) | false => none
  | .neq => match decide (k = k') with | true => some (.bool (!decide (x = y))) | false => none
  | .lss => match decide (k = k') with | true => some (.bool (decide (x < y))) | false => none
  | .leq => match decide (k = k') with | true => some (.bool (decide (x ≤ y))) | false => none
  | .gtr => match decide (k = k') with | true => some (.bool (decide (x > y))) | false => none
  | .geq => match decide (k = k') with | true => some (.bool (decide (x ≥ y))) | false => none
  | .shl => match decide (y < 0) with | true => none | false => some (.int k (k.wrap (x * 2 ^ min y.toNat k.bits)))
  | .shr => match decide (y < 0) with | true => none | false => some (.int k (x.fdiv (2 ^ min y.toNat k.bits)))
  | .and => match decide (k = k') with | true => some (.int k (k.wrap (BitVec.ofInt k.bits x &&& BitVec.ofInt k.bits y).toNat)) | false => none
  | .or => match decide (k = k') with | true => some (.int k (k.wrap (BitVec.ofInt k.bits x ||| BitVec.ofInt k.bits y).toNat)) | false => none
  | .xor => match decide (k = k') with | true => some (.int k (k.wrap (BitVec.ofInt k.bits x ^^^ BitVec.ofInt k.bits y).toNat)) | false => none
  | .andNot => match decide (k = k') with | true => some (.int k (k.wrap (BitVec.ofInt k.bits x &&& ~~~BitVec.ofInt k.bits y).toNat)) | false => none
  | .quo => match decide (k = k') with
    | true => match decide (y = 0) with | true => none | false => some (.int k (k.wrap (x.tdiv y)))
    | false => none
  | .rem => match decide (k = k') with
    | true => match decide (y = 0) with | true => none | false => some (.int k (x.tmod y))
    | false => none

def slowBin (cx : Cx) (op : BinOp) (t : TypeId) (a b : Value) (x y : Operand) : Option Value :=
  match binOpA cx op t a b x y with
  | some v => some v
  | none => eqNilA cx op t a b
def strF (cx : Cx) (op : BinOp) (t : TypeId) (s u : ByteArray) (x y : Operand) : Option Value :=
  match op with
  | .eql => some (.bool (beqBytes s.data.toList u.data.toList))
  | .neq => some (.bool (!beqBytes s.data.toList u.data.toList))
  | _ => slowBin cx op t (.string s) (.string u) x y
def binF (cx : Cx) (op : BinOp) (t : TypeId) (a b : Value) (x y : Operand) : Option Value :=
  match a, b with
  | .int k n, .int k' m => intF op k n k' m
  | .string s, .string u => strF cx op t s u x y
  | _, _ => slowBin cx op t a b x y

theorem flat_int (k : IntKind) (n : Int) : flat (.int k n) = true := by simp [flat]
theorem flat_bool (b : Bool) : flat (.bool b) = true := by simp [flat]

theorem quietFlat_pure {P : Program} {v : Value} (h : flat v = true) : quietFlat P (.pure v) = some v := by
  simp [quietFlat, quiet, h]

theorem quiet_panic (P : Program) (s : String) : quietFlat P (runtimePanic (α := Value) (.error s)) = none := rfl

theorem eqNil_int {cx : Cx} {op : BinOp} {t : TypeId} {k k' : IntKind} {n m : Int} : eqNilA cx op t (.int k n) (.int k' m) = none := by
  unfold eqNilA
  cases cx.desc t with
  | none => rfl
  | some d => cases d <;> rfl

theorem intF_eq {cx : Cx} {op : BinOp} {t : TypeId} {k k' : IntKind} {n m : Int} {x y : Operand} : intF op k n k' m = slowBin cx op t (.int k n) (.int k' m) x y := by
  have slow : ∀ {r : Option Value}, binOpA cx op t (.int k n) (.int k' m) x y = r → slowBin cx op t (.int k n) (.int k' m) x y = r := by
    intro r h
    unfold slowBin
    rw [h]
    cases r with
    | none => exact eqNil_int
    | some v => rfl
  refine (slow ?_).symm
  by_cases hk : k = k'
  · subst hk
    cases op
    case add => simp [binOpA, binInt, intF]
    case sub => simp [binOpA, binInt, intF]
    case mul => simp [binOpA, binInt, intF]
    case eql => simp [binOpA, binInt, intF]; rfl
    case neq => simp [binOpA, binInt, intF, bne]; rfl
    case lss => simp [binOpA, binInt, intF]
    case leq => simp [binOpA, binInt, intF]
    case gtr => simp [binOpA, binInt, intF]
    case geq => simp [binOpA, binInt, intF]
    case shl =>
      simp only [binOpA, binOp, Op.shift, intF]
      by_cases hy : m < 0
      · simp only [hy, if_true, decide_true]; exact quiet_panic _ _
      · simp only [hy, if_false, decide_false]; exact quietFlat_pure (flat_int _ _)
    case shr =>
      simp only [binOpA, binOp, Op.shift, intF]
      by_cases hy : m < 0
      · simp only [hy, if_true, decide_true]; exact quiet_panic _ _
      · simp only [hy, if_false, decide_false]; exact quietFlat_pure (flat_int _ _)
    case and => simp only [binOpA, binOp, Op.intBits, intF, ne_eq, not_true_eq_false, if_false, decide_true]; exact quietFlat_pure (flat_int _ _)
    case or => simp only [binOpA, binOp, Op.intBits, intF, ne_eq, not_true_eq_false, if_false, decide_true]; exact quietFlat_pure (flat_int _ _)
    case xor => simp only [binOpA, binOp, Op.intBits, intF, ne_eq, not_true_eq_false, if_false, decide_true]; exact quietFlat_pure (flat_int _ _)
    case andNot => simp only [binOpA, binOp, Op.intBits, intF, ne_eq, not_true_eq_false, if_false, decide_true]; exact quietFlat_pure (flat_int _ _)
    case quo =>
      simp only [binOpA, binOp, Op.intDiv, intF, ne_eq, not_true_eq_false, if_false, decide_true]
      by_cases hy : m = 0
      · simp only [hy, if_true, decide_true]; exact quiet_panic _ _
      · simp only [hy, if_false, decide_false]; exact quietFlat_pure (flat_int _ _)
    case rem =>
      simp only [binOpA, binOp, Op.intDiv, intF, ne_eq, not_true_eq_false, if_false, decide_true]
      by_cases hy : m = 0
      · simp only [hy, if_true, decide_true]; exact quiet_panic _ _
      · simp only [hy, if_false, decide_false]; exact quietFlat_pure (flat_int _ _)
  · cases op
    case shl =>
      simp only [binOpA, binOp, Op.shift, intF]
      by_cases hy : m < 0
      · simp only [hy, if_true, decide_true]; exact quiet_panic _ _
      · simp only [hy, if_false, decide_false]; exact quietFlat_pure (flat_int _ _)
    case shr =>
      simp only [binOpA, binOp, Op.shift, intF]
      by_cases hy : m < 0
      · simp only [hy, if_true, decide_true]; exact quiet_panic _ _
      · simp only [hy, if_false, decide_false]; exact quietFlat_pure (flat_int _ _)
    all_goals simp [binOpA, intF, hk, binOp, quietFlat, quiet, stuck]

theorem strF_eq {cx : Cx} {op : BinOp} {t : TypeId} {s u : ByteArray} {x y : Operand} : strF cx op t s u x y = slowBin cx op t (.string s) (.string u) x y := by
  have e : ∀ (op : BinOp), (do eqGuard op t x y (.string s) (.string u); binOp op t (.string s) (.string u) : Sem Value) = binOp op t (.string s) (.string u) := by
    intro op
    cases op <;> rfl
  cases op <;> try rfl
  · show some _ = slowBin cx .eql t (.string s) (.string u) x y
    unfold slowBin binOpA
    simp only [flat, Bool.and_true, e]
    have : binOp .eql t (.string s) (.string u) = .pure (.bool (s.toList == u.toList)) := rfl
    rw [this, quietFlat_pure (flat_bool _), beqBytes_eq, toList_data, toList_data]
  · show some _ = slowBin cx .neq t (.string s) (.string u) x y
    unfold slowBin binOpA
    simp only [flat, Bool.and_true, e]
    have : binOp .neq t (.string s) (.string u) = .pure (.bool !(s.toList == u.toList)) := rfl
    rw [this, quietFlat_pure (flat_bool _), beqBytes_eq, toList_data, toList_data]

theorem binF_eq {cx : Cx} {op : BinOp} {t : TypeId} {a b : Value} {x y : Operand} : binF cx op t a b x y = slowBin cx op t a b x y := by
  unfold binF
  split
  · exact intF_eq
  · exact strF_eq
  · rfl

end
end Go.Ai

/-! The same interpreter, cut so that the kernel goes through it faster: operations, code. -/
namespace Go.Ai
open Go
noncomputable section

def fPick (cx : Cx) (tm : T Value) (c a b : Operand) : Option Value := match ev cx tm c with
  | some (.bool true) => ev cx tm a
  | some (.bool false) => ev cx tm b
  | _ => none
def fNil (cx : Cx) (tm : T Value) (x : Operand) : Option Value := match ev cx tm x with
  | some (.pointer (some a)) => some (.pointer (some a))
  | some (.func (.func f) a b) => some (.func (.func f) a b)
  | some (.iface t v) => some (.iface t v)
  | _ => none
def fBin (cx : Cx) (tm : T Value) (op : BinOp) (t : TypeId) (x y : Operand) : Option Value := match ev cx tm x with
  | some a => match ev cx tm y with
    | some b => binF cx op t a b x y
    | none => none
  | none => none
def fUn (cx : Cx) (tm : T Value) (op : UnOp) (x : Operand) : Option Value := match ev cx tm x with
  | some (.bool b) => match op with
    | .not => some (.bool (!b))
    | _ => none
  | some v => match flat v with
    | true => quietFlat cx.P (Op.unary op v)
    | false => none
  | none => none
def fConv (cx : Cx) (tm : T Value) (s d : TypeId) (x : Operand) : Option Value := match ev cx tm x with
  | some (.int k n) => match cx.desc d, cx.desc s with
    | some (.int k'), some (.int _) => some (.int k' (k'.wrap n))
    | _, _ => quietFlat cx.P (convert s d (.int k n))
  | some (.string b) => match cx.desc d, cx.desc s with
    | some .string, some .string => some (.string b)
    | _, _ => none
  | some v => match flat v with
    | true => quietFlat cx.P (convert s d v)
    | false => none
  | none => none
def fIface (cx : Cx) (tm : T Value) (t : TypeId) (x : Operand) : Option Value := match cx.desc t with
  | some (.interface _) => none
  | some _ => match ev cx tm x with
    | some v => some (.iface t v)
    | none => none
  | none => none
def fFunc (cx : Cx) (tm : T Value) (fn : Fn) (first captured : Array Operand) : Option Value := match evs cx tm first.toList, evs cx tm captured.toList with
  | some a, some b => match fn with
    | .yield _ => none
    | _ => some (.func fn ⟨a⟩ ⟨b⟩)
  | _, _ => none
def fField (cx : Cx) (tm : T Value) (t : TypeId) (x : Operand) (f : Nat) : Option Value := match ev cx tm x with
  | some (.agg cs) => match cx.desc t with
    | some (.struct fields) => match fields[f]? with
      | some fd => partA cx fd.type cs.toList fd.offset
      | none => none
    | _ => none
  | _ => none
def fIndex (cx : Cx) (tm : T Value) (t : TypeId) (x i : Operand) : Option Value := match ev cx tm x with
  | some a => match ev cx tm i with
    | some b => indexA cx t a b
    | none => none
  | none => none
def fExtract (cx : Cx) (tm : T Value) (x : Operand) (i : Nat) : Option Value := match ev cx tm x with
  | some (.tuple vs) => vs.toList[i]?
  | _ => none
def fFieldAddr (cx : Cx) (tm : T Value) (t : TypeId) (x : Operand) (f : Nat) : Option Value := match ev cx tm x with
  | some (.pointer (some a)) => match cx.desc t with
    | some (.struct fields) => match fields[f]? with
      | some fd => match cx.size fd.type with
        | some (_ + 1) => some (.pointer (some (a.add fd.offset)))
        | _ => none
      | none => none
    | _ => none
  | _ => none
def fIndexAddr (cx : Cx) (tm : T Value) (t : TypeId) (x i : Operand) : Option Value := match ev cx tm x with
  | some a => match ev cx tm i with
    | some b => indexAddrA cx t a b
    | none => none
  | none => none
def fSlice (cx : Cx) (tm : T Value) (t : TypeId) (x : Operand) (lo hi mx : Option Operand) : Option Value := match mx with
  | some _ => none
  | none => match ev cx tm x with
    | some a => match opt cx tm lo with
      | some l => match opt cx tm hi with
        | some h => sliceP cx t a l h
        | none => none
      | none => none
    | none => none
def fAssert (cx : Cx) (tm : T Value) (x : Operand) (t : TypeId) (ok : Bool) : Option Value := match ev cx tm x with
  | some v => typeAssertA cx v t ok
  | none => none
def fBuild (cx : Cx) (tm : T Value) (t : TypeId) (parts : Array (Nat × Operand)) : Option Value := match evParts cx tm parts.toList with
  | some ps => buildA cx t ps
  | none => none

/-- pureOp -/
def pureF (cx : Cx) (tm : T Value) : Op → Option Value
  | .move x => ev cx tm x
  | .assign x => ev cx tm x
  | .pick c a b => fPick cx tm c a b
  | .nilCheck x => fNil cx tm x
  | .binOp op t x y _ => fBin cx tm op t x y
  | .unOp op _ x => fUn cx tm op x
  | .convert s d x => fConv cx tm s d x
  | .makeInterface t x => fIface cx tm t x
  | .makeFunc fn first captured => fFunc cx tm fn first captured
  | .field t x f => fField cx tm t x f
  | .index t x i => fIndex cx tm t x i
  | .extract x i => fExtract cx tm x i
  | .fieldAddr t x f => fFieldAddr cx tm t x f
  | .indexAddr t x i => fIndexAddr cx tm t x i
  | .slice t x lo hi mx => fSlice cx tm t x lo hi mx
  | .typeAssert x _ t ok => fAssert cx tm x t ok
  | .build t parts => fBuild cx tm t parts
  | .call c => pureCall cx tm c
  | _ => none

theorem pureF_eq (cx : Cx) (tm : T Value) (op : Op) : pureF cx tm op = pureOp cx tm op := by
  cases op <;> try rfl
  case binOp op t x y u =>
    simp only [pureF, pureOp, fBin]
    cases ev cx tm x with
    | none => rfl
    | some a =>
      cases ev cx tm y with
      | none => rfl
      | some b => simp only [binF_eq]; rfl

/-! reading -/
def rLoad (cx : Cx) (tm : T Value) (st : St) (t : TypeId) (x : Operand) : Option Value := match ev cx tm x with
  | some (.pointer (some a)) => match cx.isAgg t, cx.size t with
    | some true, some n => match readCells st a n with
      | some l => some (.agg ⟨l⟩)
      | none => none
    | some false, some _ => match readCells st a 1 with
      | some [v] => some v
      | _ => none
    | _, _ => none
  | _ => none
def readF (cx : Cx) (tm : T Value) (st : St) (op : Op) : Option Value :=
  match op with
  | .load t x => rLoad cx tm st t x
  | op => readOp cx tm st op
theorem readF_eq (cx : Cx) (tm : T Value) (st : St) (op : Op) : readF cx tm st op = readOp cx tm st op := by
  cases op <;> rfl

/-! what an operation does, by sight -/
def kRange (cx : Cx) (t : TypeId) : Kind := match cx.desc t with
  | some .string => .alloc
  | _ => .heavy
def kConv (cx : Cx) (s d : TypeId) : Kind := match cx.desc s, cx.desc d with
  | some .string, some (.slice _) => .alloc
  | some (.slice _), some .string => .read
  | some (.pointer _), some .unsafePointer => .read
  | some .unsafePointer, some (.pointer _) => .read
  | _, _ => .pure
def kSlice (cx : Cx) (t : TypeId) : Kind := match cx.desc t with
  | some (.slice _) => .read
  | _ => .pure
def kCall (cx : Cx) (c : Call) : Kind := match c.callee with
  | .builtin b => match b with
    | .len => match c.argTypes.toList with
      | [t] => match cx.desc t with
        | some (.map _ _) => .read
        | _ => .pure
      | _ => .pure
    | .cap | .min | .max => .pure
    | _ => .heavy
  | _ => .heavy
def kindF (cx : Cx) : Op → Kind
  | .alloc _ | .box .. | .buildSlice .. | .makeSlice .. | .makeMap .. => .alloc
  | .range t _ => kRange cx t
  | .convert s d _ => kConv cx s d
  | .load .. | .lookup .. => .read
  | .slice t _ _ _ _ => kSlice cx t
  | .store .. | .mapUpdate .. | .insert .. | .next .. | .mapEntry .. | .entryStore .. | .entry .. => .heavy
  | .call c => kCall cx c
  | _ => .pure
theorem kindF_eq (cx : Cx) (op : Op) : kindF cx op = kindOf cx op := by
  cases op <;> rfl

def hStore (cx : Cx) (tm : T Value) (st : St) (t : TypeId) (x y : Operand) : Option (Value × St) := match ev cx tm x, ev cx tm y with
  | some (.pointer (some a)), some v => match cx.size t with
    | some n => match Nat.beq v.cells.size n with
      | true => match writeCells st a v.cells.toList with
        | some st' => some (undef, st')
        | none => none
      | false => none
    | none => none
  | _, _ => none
def heavyF (cx : Cx) (tm : T Value) (st : St) (op : Op) : Option (Value × St) :=
  match op with
  | .store t x y => hStore cx tm st t x y
  | op => heavyOp cx tm st op
theorem heavyF_eq (cx : Cx) (tm : T Value) (st : St) (op : Op) : heavyF cx tm st op = heavyOp cx tm st op := by
  cases op <;> rfl

/-! a call of a Go function is no builtin: not tried as one -/
def isVal (op : Op) : Bool :=
  match op with
  | .call c => match c.callee with
    | .value _ => true
    | _ => false
  | _ => false
theorem isVal_heavy {cx : Cx} {tm : T Value} {st : St} {op : Op} (h : isVal op = true) : heavyOp cx tm st op = none := by
  cases op <;> simp only [isVal] at h <;> (try (cases h; done))
  rename_i c
  split at h
  · rename_i f hc
    simp [heavyOp, heavyCall, hc]
  · cases h

def fPure (st : St) : Option Value → Option (Value × St)
  | some v => some (v, st)
  | none => none
def fAlloc (st : St) : Option (AObj × (Nat → Value)) → Option (Value × St)
  | some (ob, f) => some (f st.ct, ⟨st.hp.set st.ct ob, st.ct + 1⟩)
  | none => none
def fHeavy (cx : Cx) (ov : Ov) (ih : CodeRun) (tm : T Value) (st : St) (op : Op) : Option (Value × St) :=
  match isVal op with
  | true => callOp cx ov ih tm st op
  | false => match heavyF cx tm st op with
    | some r => some r
    | none => none

def opF (cx : Cx) (ov : Ov) (ih : CodeRun) (tm : T Value) (st : St) (o : Oper) : Option (Value × St) :=
  match kindF cx o.op with
  | .pure => fPure st (pureF cx tm o.op)
  | .alloc => fAlloc st (allocOp cx tm o.op)
  | .read => fPure st (readF cx tm st o.op)
  | .heavy => fHeavy cx ov ih tm st o.op

theorem opF_eq (cx : Cx) (ov : Ov) (ih : CodeRun) (tm : T Value) (st : St) (o : Oper) : opF cx ov ih tm st o = opA cx ov ih tm st o := by
  unfold opF opA
  rw [kindF_eq]
  cases kindOf cx o.op with
  | pure => simp only [pureF_eq]; cases pureOp cx tm o.op <;> rfl
  | alloc => cases allocOp cx tm o.op <;> rfl
  | read => simp only [readF_eq]; cases readOp cx tm st o.op <;> rfl
  | heavy =>
    simp only [fHeavy, heavyF_eq]
    cases hv : isVal o.op with
    | true => simp only [isVal_heavy hv]
    | false =>
      cases hh : heavyOp cx tm st o.op with
      | some r => rfl
      | none =>
        simp only
        unfold callOp
        split
        · rename_i c hc
          split
          · rename_i f hf
            rw [hc] at hv
            simp [isVal, hf] at hv
          · rfl
        · rfl

def opsF (cx : Cx) (ov : Ov) (ih : CodeRun) (nt : Nat) (all : List Oper) : List Oper → T Value → St → Option (T Value × St)
  | [], tm, st => some (tm, st)
  | o :: l, tm, st => match wantedA all tm o with
    | some true => match opF cx ov ih tm st o with
      | some (v, st') => match putDst nt tm o.dst v with
        | some tm' => opsF cx ov ih nt all l tm' st'
        | none => none
      | none => none
    | some false => match putDst nt tm o.dst undef with
      | some tm' => opsF cx ov ih nt all l tm' st
      | none => none
    | none => none

theorem opsF_eq (cx : Cx) (ov : Ov) (ih : CodeRun) (nt : Nat) (all : List Oper) : ∀ (l : List Oper) (tm : T Value) (st : St), opsF cx ov ih nt all l tm st = opsA cx ov ih nt all l tm st := by
  intro l
  induction l with
  | nil => intro tm st; rfl
  | cons o l ihl =>
    intro tm st
    simp only [opsF, opsA, opF_eq, ihl]
    rfl

/-! regions whose order is open -/
def dAlloc (nt : Nat) (i : Nat) (o : Oper) (ds : DS) : Option (AObj × (Nat → Value)) → Option DS
  | some (ob, f) => putD nt { ds with st := ⟨ds.st.hp, ds.st.ct + 1⟩, pend := (i, ds.st.ct, ob) :: ds.pend } o.dst (f ds.st.ct)
  | none => none
def dPure (nt : Nat) (o : Oper) (ds : DS) : Option Value → Option DS
  | some v => putD nt ds o.dst v
  | none => none
def dRead (cx : Cx) (nt bef i : Nat) (lt : T Value) (o : Oper) (ds : DS) : Option Value → Option DS
  | some v => match pastOk cx bef lt o.op v ds.past with
    | true => putD nt { ds with reads := (i, lt, o.op, v) :: ds.reads } o.dst v
    | false => none
  | none => none
def dHeavy (cx : Cx) (nt bef i : Nat) (befs : List Nat) (o : Oper) (ds : DS) : Option (Value × St) → Option DS
  | some (v, st') => match readsOk cx befs bef st'.hp (restP bef ds.pend) ds.reads with
    | true => putD nt { ds with st := st', pend := restP bef ds.pend, past := (i, ds.st.hp, ds.pend) :: ds.past } o.dst v
    | false => none
  | none => none

def stepDF (cx : Cx) (ov : Ov) (ih : CodeRun) (nt : Nat) (all : List Oper) (befs : List Nat) (i : Nat) (o : Oper) (ds : DS) : Option DS :=
  match wantedA all (limit ds.tm (looks all o)) o with
  | none => none
  | some false => putD nt ds o.dst undef
  | some true => match kindF cx o.op with
    | .pure => dPure nt o ds (pureF cx (limit ds.tm (looks all o)) o.op)
    | .alloc => dAlloc nt i o ds (allocOp cx (limit ds.tm (looks all o)) o.op)
    | .read => dRead cx nt (befs.getD i 0) i (limit ds.tm (looks all o)) o ds (readAt cx (limit ds.tm (looks all o)) ds.st.hp ds.pend (befs.getD i 0) o.op)
    | .heavy => dHeavy cx nt (befs.getD i 0) i befs o ds (opF cx ov ih (limit ds.tm (looks all o)) ⟨mergeP (befs.getD i 0) ds.pend ds.st.hp, ds.st.ct⟩ o)

theorem stepDF_eq (cx : Cx) (ov : Ov) (ih : CodeRun) (nt : Nat) (all : List Oper) (befs : List Nat) (i : Nat) (o : Oper) (ds : DS) : stepDF cx ov ih nt all befs i o ds = stepD cx ov ih nt all befs i o ds := by
  unfold stepDF stepD
  simp only [kindF_eq, pureF_eq, opF_eq]
  cases wantedA all (limit ds.tm (looks all o)) o with
  | none => rfl
  | some b =>
    cases b with
    | false => rfl
    | true =>
      simp only
      cases kindOf cx o.op with
      | pure => simp only; cases pureOp cx (limit ds.tm (looks all o)) o.op <;> rfl
      | alloc => simp only; cases allocOp cx (limit ds.tm (looks all o)) o.op <;> rfl
      | read => simp only; cases readAt cx (limit ds.tm (looks all o)) ds.st.hp ds.pend (befs.getD i 0) o.op <;> rfl
      | heavy => simp only; cases opA cx ov ih (limit ds.tm (looks all o)) ⟨mergeP (befs.getD i 0) ds.pend ds.st.hp, ds.st.ct⟩ o <;> rfl

def stepsDF (cx : Cx) (ov : Ov) (ih : CodeRun) (nt : Nat) (all : List Oper) (befs : List Nat) : Nat → List Oper → DS → Option DS
  | _, [], ds => some ds
  | i, o :: l, ds => match stepDF cx ov ih nt all befs i o ds with
    | some ds' => stepsDF cx ov ih nt all befs (i + 1) l ds'
    | none => none
theorem stepsDF_eq (cx : Cx) (ov : Ov) (ih : CodeRun) (nt : Nat) (all : List Oper) (befs : List Nat) : ∀ (l : List Oper) (i : Nat) (ds : DS), stepsDF cx ov ih nt all befs i l ds = stepsD cx ov ih nt all befs i l ds := by
  intro l
  induction l with
  | nil => intro i ds; rfl
  | cons o l ihl => intro i ds; simp only [stepsDF, stepsD, stepDF_eq, ihl]; rfl

def drawF (cx : Cx) (ov : Ov) (ih : CodeRun) (nt : Nat) (all : List Oper) (tm : T Value) (st : St) : Option (T Value × St) :=
  match drawOk cx all with
  | true => match stepsDF cx ov ih nt all (befsOf all []) 0 all ⟨tm, st, [], [], []⟩ with
    | some ds => some (ds.tm, ⟨mergeAll ds.pend ds.st.hp, ds.st.ct⟩)
    | none => none
  | false => none
theorem drawF_eq (cx : Cx) (ov : Ov) (ih : CodeRun) (nt : Nat) (all : List Oper) (tm : T Value) (st : St) : drawF cx ov ih nt all tm st = drawA cx ov ih nt all tm st := by
  unfold drawF drawA
  simp only [stepsDF_eq]
  rfl

/-! code -/
def cSeq (ih : CodeRun) (b : Code) (nt : Nat) : Option (Ex × T Value × St) → Option (Ex × T Value × St)
  | some (ex, tm', st') => match ex with
    | .normal => ih b nt tm' st'
    | _ => some (ex, tm', st')
  | none => none
def cCond (ih : CodeRun) (a b : Code) (nt : Nat) (tm : T Value) (st : St) : Option Value → Option (Ex × T Value × St)
  | some (.bool true) => ih a nt tm st
  | some (.bool false) => ih b nt tm st
  | _ => none
def cBlock (id : Nat) : Option (Ex × T Value × St) → Option (Ex × T Value × St)
  | some (ex, tm', st') => match ex with
    | .exit id' => match Nat.beq id' id with
      | true => some (.normal, tm', st')
      | false => some (.exit id', tm', st')
    | _ => some (ex, tm', st')
  | none => none
def cLoop (cx : Cx) (ov : Ov) (ih : CodeRun) (a : Code) (nt : Nat) (tm : T Value) (st : St) : Option MapLoop → Option (Ex × T Value × St)
  | some L => loopM cx ov ih a L nt tm st
  | none => cSeq ih (.loop a) nt (ih a nt tm st)
def cLp (cx : Cx) (ov : Ov) (ih : CodeRun) (a : Code) (nt : Nat) (tm : T Value) (st : St) : Option (Nat → T Value → St → Option (Ex × T Value × St)) → Option (Ex × T Value × St)
  | some g => g nt tm st
  | none => cLoop cx ov ih a nt tm st (mapLoop a)
def cRegion : Option (T Value × St) → Option (Ex × T Value × St)
  | some (tm', st') => some (.normal, tm', st')
  | none => none

def stepF (cx : Cx) (ov : Ov) (ih : CodeRun) : CodeRun := fun c nt tm st =>
  match c with
  | .skip => some (.normal, tm, st)
  | .label _ => some (.normal, tm, st)
  | .ret => some (.ret, tm, st)
  | .exit id => some (.exit id, tm, st)
  | .goto l => some (.goto l, tm, st)
  | .scope a => scopeA ih a nt 100000 a tm st
  | .rangeFunc f ps assign body => rangeA cx ov ih f ps.toList assign body nt tm st
  | .seq a b => cSeq ih b nt (ih a nt tm st)
  | .cond x a b => cCond ih a b nt tm st (ev cx tm x)
  | .block id a => cBlock id (ih a nt tm st)
  | .loop a => cLp cx ov ih a nt tm st (ov.lp a)
  | .region _ ops draw => match draw with
    | false => cRegion (opsF cx ov ih nt ops.toList ops.toList tm st)
    | true => cRegion (drawF cx ov ih nt ops.toList tm st)
  | _ => none

theorem stepF_eq (cx : Cx) (ov : Ov) (ih : CodeRun) : stepF cx ov ih = stepA cx ov ih := by
  funext c nt tm st
  cases c <;> try rfl
  case region id ops draw =>
    cases draw with
    | false => simp only [stepF, stepA, opsF_eq]; cases opsA cx ov ih nt ops.toList ops.toList tm st <;> rfl
    | true => simp only [stepF, stepA, drawF_eq]; cases drawA cx ov ih nt ops.toList tm st <;> rfl

def runF (cx : Cx) (ov : Ov) : Nat → CodeRun
  | 0 => fun _ _ _ _ => none
  | n + 1 => stepF cx ov (runF cx ov n)
theorem runF_eq (cx : Cx) (ov : Ov) : ∀ n, runF cx ov n = run cx ov n := by
  intro n
  induction n with
  | zero => rfl
  | succ n ih => simp only [runF, run, ih, stepF_eq]

def callF (cx : Cx) (ov : Ov) (n : Nat) (f : Nat) (args : List Value) (st : St) : Option (Value × St) := callA cx ov (runF cx ov n) f args st
theorem callF_eq (cx : Cx) (ov : Ov) (n f : Nat) (args : List Value) (st : St) : callF cx ov n f args st = call cx ov n f args st := by
  unfold callF call
  rw [runF_eq]

/-- memoOk by the faster one -/
def memoF (cx : Cx) (ov : Ov) (n : Nat) (st0 : St) (e : Memo) : Bool :=
  flatL e.args && flat e.v && Nat.ble cx.ng st0.ct && keepOk st0.ct st0.hp e.ids && match callF cx ov n e.f e.args ⟨keepIds st0.hp e.ids, st0.ct⟩ with
    | some (v, _) => beqV e.v v
    | none => false
theorem memoF_ok {cx : Cx} {ov : Ov} {n : Nat} {st0 : St} {e : Memo} (h : memoF cx ov n st0 e = true) : memoOk cx ov n st0 e = true := by
  unfold memoF at h
  rw [callF_eq] at h
  exact h

end
end Go.Ai

/-! Calls whose results are known already, with what lies in memory: the arguments' rows are matched, what is made is laid. -/
namespace Go.Ai
open Go
noncomputable section

mutual
/-- ids turned into ids -/
def ren (ρ : Nat → Nat) : Value → Value
  | .pointer a => match a with | none => .pointer none | some a => .pointer (some ⟨ρ a.block, a.off, a.spot⟩)
  | .slice a n c => match a with | none => .slice none n c | some a => .slice (some ⟨ρ a.block, a.off, a.spot⟩) n c
  | .map r => match r with | none => .map none | some r => .map (some (ρ r))
  | .chan r => match r with | none => .chan none | some r => .chan (some (ρ r))
  | .func fn a b => .func (match fn with | .yield l => .yield (ρ l) | fn => fn) (renA ρ a) (renA ρ b)
  | .iface t v => .iface t (ren ρ v)
  | .agg cs => .agg (renA ρ cs)
  | .tuple cs => .tuple (renA ρ cs)
  | .bool b => .bool b
  | .int k n => .int k n
  | .float k n => .float k n
  | .complex k n m => .complex k n m
  | .string s => .string s
  | .nilFunc => .nilFunc
  | .nilIface => .nilIface
def renA (ρ : Nat → Nat) : Array Value → Array Value
  | ⟨l⟩ => ⟨renL ρ l⟩
def renL (ρ : Nat → Nat) : List Value → List Value
  | [] => []
  | v :: l => ren ρ v :: renL ρ l
end
def renE (ρ : Nat → Nat) : List MapEntry → List MapEntry
  | [] => []
  | e :: l => { key := e.key, val := ren ρ e.val, born := e.born } :: renE ρ l
def renO (ρ : Nat → Nat) : AObj → AObj
  | .row e cs o wr => .row e (renL ρ cs) o wr
  | .map es lk wr => .map (renE ρ es) lk wr
  | o => o

mutual
/-- all ids are of these -/
def inIds (p : Nat → Bool) : Value → Bool
  | .pointer a => match a with | none => true | some a => p a.block
  | .slice a _ _ => match a with | none => true | some a => p a.block
  | .map r => match r with | none => true | some r => p r
  | .chan r => match r with | none => true | some r => p r
  | .func fn a b => (match fn with | .yield _ => false | _ => true) && inIdsA p a && inIdsA p b
  | .iface _ v => inIds p v
  | .agg cs => inIdsA p cs
  | .tuple cs => inIdsA p cs
  | _ => true
def inIdsA (p : Nat → Bool) : Array Value → Bool
  | ⟨l⟩ => inIdsL p l
def inIdsL (p : Nat → Bool) : List Value → Bool
  | [] => true
  | v :: l => inIds p v && inIdsL p l
end
def inIdsE (p : Nat → Bool) : List MapEntry → Bool
  | [] => true
  | e :: l => inIds p e.val && inIdsE p l
/-- a row or a map that nothing may write, of these ids -/
def frozenIn (p : Nat → Bool) : AObj → Bool
  | .row _ cs _ wr => !wr && inIdsL p cs
  | .map es _ wr => !wr && inIdsE p es
  | _ => false

/-- the same, but that the second may be written -/
def likeO : AObj → AObj → Bool
  | .row e cs o _, .row e' cs' o' _ => Nat.beq e e' && beqVL cs cs' && decide (o = o')
  | .map es lk _, .map es' lk' _ => beqE es es' && decide (lk = lk')
  | _, _ => false
def sameO : AObj → AObj → Bool
  | .row e cs o wr, .row e' cs' o' wr' => Nat.beq e e' && beqVL cs cs' && decide (o = o') && decide (wr = wr')
  | .map es lk wr, .map es' lk' wr' => beqE es es' && decide (lk = lk') && decide (wr = wr')
  | _, _ => false

abbrev Objs := List (Nat × AObj)
structure HMemo where
  f : Nat
  args : List Value
  objs : Objs
  /-- the ids of what is made: from here on, up to there -/
  n0 : Nat
  n1 : Nat
  v : Value
  news : Objs
  /-- the laid objects that are looked at -/
  ids : List Nat

def hasKey : Objs → Nat → Bool
  | [], _ => false
  | x :: l, i => Nat.beq x.1 i || hasKey l i
def okId (b : Nat) (l : Objs) (i : Nat) : Bool := Nat.blt i b || hasKey l i
def over0 (hp : T AObj) : Objs → T AObj
  | [] => hp
  | x :: l => (over0 hp l).set x.1 x.2
def objsOk (b n0 : Nat) (p : Nat → Bool) : Objs → Bool
  | [] => true
  | x :: l => Nat.ble b x.1 && Nat.blt x.1 n0 && frozenIn p x.2 && objsOk b n0 p l
def newsOk (n0 n1 : Nat) (hp : T AObj) : Objs → Bool
  | [] => true
  | x :: l => Nat.ble n0 x.1 && Nat.blt x.1 n1 && x.2.isWr && (match hp.get x.1 with | some o => sameO x.2 o | none => false) && newsOk n0 n1 hp l

def hmemoOk (cx : Cx) (ov : Ov) (n : Nat) (st0 : St) (e : HMemo) : Bool :=
  Nat.ble cx.ng st0.ct && Nat.ble st0.ct e.n0 && keepOk st0.ct st0.hp e.ids && objsOk st0.ct e.n0 (okId st0.ct e.objs) e.objs && inIdsL (okId st0.ct e.objs) e.args &&
  match callF cx ov n e.f e.args ⟨over0 (keepIds st0.hp e.ids) e.objs, e.n0⟩ with
    | some (v, st) => beqV e.v v && Nat.beq e.n1 st.ct && Nat.ble e.n0 e.n1 && newsOk e.n0 e.n1 st.hp e.news
    | none => false

/-! which id is which (found in whatever way: it is looked at afterwards) -/
abbrev Bind := List (Nat × Nat)
def getB : Bind → Nat → Option Nat
  | [], _ => none
  | x :: l, i => match Nat.beq x.1 i with | true => some x.2 | false => getB l i
def putB (b : Nat) (i j : Nat) (l : Bind) : Bind :=
  match Nat.blt i b with
  | true => l
  | false => match getB l i with
    | some _ => l
    | none => (i, j) :: l
mutual
def findV (b : Nat) : Value → Value → Bind → Bind
  | .pointer (some x), y, l => match y with | .pointer (some y) => putB b x.block y.block l | _ => l
  | .slice (some x) _ _, y, l => match y with | .slice (some y) _ _ => putB b x.block y.block l | _ => l
  | .map (some x), y, l => match y with | .map (some y) => putB b x y l | _ => l
  | .agg x, y, l => match y with | .agg y => findA' b x y l | _ => l
  | .iface _ x, y, l => match y with | .iface _ y => findV b x y l | _ => l
  | _, _, l => l
def findA' (b : Nat) : Array Value → Array Value → Bind → Bind
  | ⟨x⟩, ⟨y⟩, l => findL b x y l
def findL (b : Nat) : List Value → List Value → Bind → Bind
  | [], _, l => l
  | x :: xs, ys, l => match ys with
    | [] => l
    | y :: ys => findL b xs ys (findV b x y l)
end
def findO (b : Nat) (hp : T AObj) : Objs → Bind → Bind
  | [], l => l
  | x :: xs, l => match getB l x.1 with
    | some j => match x.2, hp.get j with
      | .row _ cs _ _, some (.row _ cs' _ _) => findO b hp xs (findL b cs cs' l)
      | _, _ => findO b hp xs l
    | none => findO b hp xs l

def rho (b n0 ct : Nat) (l : Bind) (i : Nat) : Nat :=
  match Nat.blt i b with
  | true => i
  | false => match Nat.blt i n0 with
    | true => match getB l i with | some j => j | none => 0
    | false => i - n0 + ct

def objsLike (ρ : Nat → Nat) (hp : T AObj) : Objs → Bool
  | [] => true
  | x :: l => (match hp.get (ρ x.1) with | some o => likeO (renO ρ x.2) o | none => false) && objsLike ρ hp l
def layNews (ρ : Nat → Nat) (hp : T AObj) : Objs → T AObj
  | [] => hp
  | x :: l => (layNews ρ hp l).set (ρ x.1) (renO ρ x.2)

def hmemoTry (st0 : St) (e : HMemo) (args : List Value) (st : St) : Option (Value × St) :=
  (fun ρ : Nat → Nat => match beqVL (renL ρ e.args) args && objsLike ρ st.hp e.objs && hasIds st0.hp st.hp e.ids with
    | true => some (ren ρ e.v, ⟨layNews ρ st.hp e.news, e.n1 - e.n0 + st.ct⟩)
    | false => none) (rho st0.ct e.n0 st.ct (findO st0.ct st.hp e.objs (findL st0.ct e.args args [])))
def hmemoFind (st0 : St) (f : Nat) (args : List Value) (st : St) : List HMemo → Option (Value × St)
  | [] => none
  | e :: l => match Nat.beq e.f f with
    | true => match hmemoTry st0 e args st with
      | some q => some q
      | none => hmemoFind st0 f args st l
    | false => hmemoFind st0 f args st l
def hmemoHas (f : Nat) : List HMemo → Bool
  | [] => false
  | e :: l => match Nat.beq e.f f with
    | true => true
    | false => hmemoHas f l
/-- ahead of the others; else the call is run -/
def ovHeapF (cx : Cx) (st0 : St) (l : List HMemo) (n : Nat) (ov : Ov) : Nat → Option (List Value → St → Option (Value × St)) := fun f =>
  match hmemoHas f l with
  | true => some fun args st => match hmemoFind st0 f args st l with
    | some q => some q
    | none => callF cx ov n f args st
  | false => ov f
def ovHeap (cx : Cx) (st0 : St) (l : List HMemo) (n : Nat) (ov : Ov) : Ov := ⟨ovHeapF cx st0 l n ov, ov.lp⟩

/-! ### soundness -/
mutual
theorem conc_ren (μ : Nat → Loc) (ρ : Nat → Nat) : ∀ v, conc μ (ren ρ v) = conc (fun i => μ (ρ i)) v
  | .bool _ => by simp [ren]
  | .int .. => by simp [ren]
  | .float .. => by simp [ren, conc]
  | .complex .. => by simp [ren, conc]
  | .string _ => by simp [ren]
  | .pointer a => by cases a <;> simp [ren, concAddr]
  | .slice a n c => by
    cases a with
    | none => simp [ren]
    | some a =>
      simp only [ren, conc_slice]
      have h1 : concCap μ (ρ a.block) c = concCap (fun i => μ (ρ i)) a.block c := rfl
      have h2 : ∀ k, concEnd μ ⟨ρ a.block, a.off, a.spot⟩ k = concEnd (fun i => μ (ρ i)) a k := by
        intro k
        unfold concEnd
        cases a.spot <;> rfl
      rw [h1, h2]
  | .map r => by cases r <;> simp [ren]
  | .chan r => by cases r <;> simp [ren, conc]
  | .func fn a b => by
    simp only [ren, conc_func, concA_ren μ ρ a, concA_ren μ ρ b]
    cases fn <;> rfl
  | .nilFunc => by simp [ren]
  | .iface t v => by simp [ren, conc_ren μ ρ v]
  | .nilIface => by simp [ren]
  | .agg cs => by simp [ren, concA_ren μ ρ cs]
  | .tuple cs => by simp [ren, concA_ren μ ρ cs]
theorem concA_ren (μ : Nat → Loc) (ρ : Nat → Nat) : ∀ a, concA μ (renA ρ a) = concA (fun i => μ (ρ i)) a
  | ⟨l⟩ => by simp only [renA, concA, concL_ren μ ρ l]
theorem concL_ren (μ : Nat → Loc) (ρ : Nat → Nat) : ∀ l, concL μ (renL ρ l) = concL (fun i => μ (ρ i)) l
  | [] => by simp [renL, concL]
  | v :: l => by simp [renL, concL, conc_ren μ ρ v, concL_ren μ ρ l]
end

mutual
theorem conc_in {p : Nat → Bool} {μ μ' : Nat → Loc} (h : ∀ i, p i = true → μ i = μ' i) : ∀ v, inIds p v = true → conc μ v = conc μ' v
  | .bool _, _ => by simp
  | .int .., _ => by simp
  | .float .., _ => by simp [conc]
  | .complex .., _ => by simp [conc]
  | .string _, _ => by simp
  | .pointer a, hb => by
    cases a with
    | none => simp
    | some a =>
      simp only [inIds] at hb
      simp [concAddr, h _ hb]
  | .slice a _ c, hb => by
    cases a with
    | none => simp
    | some a =>
      simp only [inIds] at hb
      have := h _ hb
      have hc : concCap μ a.block c = concCap μ' a.block c := by simp only [concCap, this]
      have he : ∀ k, concEnd μ a k = concEnd μ' a k := by
        intro k
        unfold concEnd
        cases a.spot <;> simp only [concAddr, this]
      rw [conc_slice, conc_slice, hc, he]
  | .map r, hb => by
    cases r with
    | none => simp
    | some r =>
      simp only [inIds] at hb
      simp [h _ hb]
  | .chan r, hb => by
    cases r with
    | none => simp [conc]
    | some r =>
      simp only [inIds] at hb
      simp [conc, h _ hb]
  | .func fn a b, hb => by
    simp only [inIds, Bool.and_eq_true] at hb
    have hfn : ∀ μ, concFn μ fn = fn := fun μ => concFn_of fun l e => by subst e; simp at hb
    simp [concA_in h a hb.1.2, concA_in h b hb.2, hfn]
  | .nilFunc, _ => by simp
  | .iface t v, hb => by simp only [inIds] at hb; simp [conc_in h v hb]
  | .nilIface, _ => by simp
  | .agg cs, hb => by simp only [inIds] at hb; simp [concA_in h cs hb]
  | .tuple cs, hb => by simp only [inIds] at hb; simp [concA_in h cs hb]
theorem concA_in {p : Nat → Bool} {μ μ' : Nat → Loc} (h : ∀ i, p i = true → μ i = μ' i) : ∀ a, inIdsA p a = true → concA μ a = concA μ' a
  | ⟨l⟩, hb => by simp only [inIdsA] at hb; simp only [concA, concL_in h l hb]
theorem concL_in {p : Nat → Bool} {μ μ' : Nat → Loc} (h : ∀ i, p i = true → μ i = μ' i) : ∀ l, inIdsL p l = true → concL μ l = concL μ' l
  | [], _ => by simp [concL]
  | v :: l, hb => by simp only [inIdsL, Bool.and_eq_true] at hb; simp [concL, conc_in h v hb.1, concL_in h l hb.2]
end

theorem renE_map (ρ : Nat → Nat) : ∀ l, renE ρ l = l.map fun e => { key := e.key, val := ren ρ e.val, born := e.born } := by
  intro l
  induction l with
  | nil => rfl
  | cons e l ih => simp [renE, ih]
theorem renL_map (ρ : Nat → Nat) : ∀ l, renL ρ l = l.map (ren ρ) := by
  intro l
  induction l with
  | nil => rfl
  | cons e l ih => simp [renL, ih]
theorem inIdsL_mem {p : Nat → Bool} : ∀ (l : List Value), inIdsL p l = true → ∀ v ∈ l, inIds p v = true := by
  intro l
  induction l with
  | nil => intro _ v hv; cases hv
  | cons x l ih =>
    intro h v hv
    simp only [inIdsL, Bool.and_eq_true] at h
    rcases List.mem_cons.1 hv with rfl | hv
    · exact h.1
    · exact ih h.2 v hv
theorem inIdsE_mem {p : Nat → Bool} : ∀ (l : List MapEntry), inIdsE p l = true → ∀ e ∈ l, inIds p e.val = true := by
  intro l
  induction l with
  | nil => intro _ v hv; cases hv
  | cons x l ih =>
    intro h v hv
    simp only [inIdsE, Bool.and_eq_true] at h
    rcases List.mem_cons.1 hv with rfl | hv
    · exact h.1
    · exact ih h.2 v hv

/-- an object under other names -/
theorem ObjRep.unren {cx : Cx} {p : Nat → Bool} {μ0 μ : Nat → Loc} {ρ : Nat → Nat} {w : World} {k : Nat} {o o' : AObj} (hag : ∀ i, p i = true → μ0 i = μ (ρ i)) (hk : μ0 k = μ (ρ k)) (hf : frozenIn p o = true) (hl : likeO (renO ρ o) o' = true)
    (hr : ObjRep cx μ w (ρ k) o') : ObjRep cx μ0 w k o := by
  cases o with
  | row e cs op wr =>
    simp only [frozenIn, Bool.and_eq_true, Bool.not_eq_true'] at hf
    obtain ⟨hwr, hin⟩ := hf
    subst hwr
    cases o' <;> simp only [renO, likeO] at hl <;> (try (cases hl; done))
    rename_i e' cs' op' wr'
    simp only [Bool.and_eq_true, decide_eq_true_eq] at hl
    obtain ⟨⟨h1, h2⟩, h3⟩ := hl
    have h1 := Nat.eq_of_beq_eq_true h1
    have h2 := beqVL_eq _ _ h2
    subst h1; subst h2; subst h3
    obtain ⟨cells, e2, fz, g1, g2, g3, _, g5, _⟩ := hr
    refine ⟨cells, e2, fz, by rw [hk]; exact g1, ?_, fun j v hj hc => ?_, (fun h => by cases h), ?_, (fun h => by cases h)⟩
    · rw [hk]; simpa [renL_map] using g2
    · have := g3 j (ren ρ v) (by rw [renL_map, List.getElem?_map, hj]; rfl) (by rw [← isCell_conc μ, conc_ren, isCell_conc]; exact hc)
      rw [hk, this, conc_ren, conc_in hag v (inIdsL_mem _ hin v (List.mem_of_getElem? hj))]
    · rw [hk]; simpa [renL_map] using g5
  | map es lk wr =>
    simp only [frozenIn, Bool.and_eq_true, Bool.not_eq_true'] at hf
    obtain ⟨hwr, hin⟩ := hf
    subst hwr
    cases o' <;> simp only [renO, likeO] at hl <;> (try (cases hl; done))
    rename_i es' lk' wr'
    simp only [Bool.and_eq_true, decide_eq_true_eq] at hl
    obtain ⟨h1, h2⟩ := hl
    have h1 := beqE_eq _ _ h1
    subst h1; subst h2
    obtain ⟨⟨es1, clock, g1, g2, g3, g4, g5⟩, g6⟩ := hr
    rw [renE_map] at g2 g6
    -- the entries as they lie, under the first names
    have hfl : ∀ e ∈ es, flat e.key = true := fun e he => g6 { key := e.key, val := Ai.ren ρ e.val, born := e.born } (List.mem_map.2 ⟨e, he, rfl⟩)
    have hback : ∀ (l1 : List MapEntry) (kv : List (Value × Value)), (l1.map kvOf).Perm ((kv.map fun q => (q.1, ren ρ q.2))) → ∃ l2 : List MapEntry, (l2.map kvOf).Perm kv ∧ l2.map (·.born) = l1.map (·.born) ∧ l1 = l2.map fun e => { key := e.key, val := ren ρ e.val, born := e.born } := by
      intro l1 kv hp
      have : ∀ (l1 : List MapEntry) (q : List (Value × Value)), l1.map kvOf = q.map (fun q => (q.1, ren ρ q.2)) → ∃ l2 : List MapEntry, l2.map kvOf = q ∧ l2.map (·.born) = l1.map (·.born) ∧ l1 = l2.map fun e => { key := e.key, val := ren ρ e.val, born := e.born } := by
        intro l1
        induction l1 with
        | nil => intro q h; cases q with
          | nil => exact ⟨[], rfl, rfl, rfl⟩
          | cons a q => simp at h
        | cons x l1 ih =>
          intro q h
          cases q with
          | nil => simp at h
          | cons a q =>
            simp only [List.map_cons, List.cons.injEq] at h
            obtain ⟨l2, h1, h2, h3⟩ := ih q h.2
            refine ⟨{ key := a.1, val := a.2, born := x.born } :: l2, by simp [kvOf, h1], by simp [h2], ?_⟩
            have hx := h.1
            simp only [kvOf, Prod.mk.injEq] at hx
            simp only [List.map_cons, List.cons.injEq]
            refine ⟨?_, h3⟩
            cases x; simp_all
      obtain ⟨q, hq1, hq2⟩ : ∃ q : List (Value × Value), l1.map kvOf = q.map (fun q => (q.1, ren ρ q.2)) ∧ q.Perm kv := by
        generalize hk2 : (kv.map fun q => (q.1, ren ρ q.2)) = kr at hp
        have gen : ∀ {a b : List (Value × Value)}, a.Perm b → ∀ kv : List (Value × Value), kv.map (fun q => (q.1, ren ρ q.2)) = b → ∃ q : List (Value × Value), a = q.map (fun q => (q.1, ren ρ q.2)) ∧ q.Perm kv := by
          intro a b hp
          induction hp with
          | nil => intro kv h; exact ⟨kv, h.symm, List.Perm.refl _⟩
          | cons x _ ih =>
            intro kv h
            cases kv with
            | nil => simp at h
            | cons y kv =>
              simp only [List.map_cons, List.cons.injEq] at h
              obtain ⟨q, h1, h2⟩ := ih kv h.2
              exact ⟨y :: q, by simp [h1, h.1], h2.cons y⟩
          | swap x y l =>
            intro kv h
            cases kv with
            | nil => simp at h
            | cons a kv => cases kv with
              | nil => simp at h
              | cons b kv =>
                simp only [List.map_cons, List.cons.injEq] at h
                exact ⟨b :: a :: kv, by simp [h.1, h.2.1, h.2.2], List.Perm.swap _ _ _⟩
          | trans _ _ ih1 ih2 =>
            intro kv h
            obtain ⟨q, h1, h2⟩ := ih2 kv h
            obtain ⟨q', h3, h4⟩ := ih1 q h1.symm
            exact ⟨q', h3, h4.trans h2⟩
        exact gen hp kv hk2
      obtain ⟨l2, h1, h2, h3⟩ := this l1 q hq1
      exact ⟨l2, by rw [h1]; exact hq2, h2, h3⟩
    obtain ⟨l2, k1, k2, k3⟩ := hback es1 (es.map kvOf) (by rw [List.map_map]; rw [List.map_map] at g2; exact g2)
    refine ⟨⟨l2, clock, ?_, k1, by rw [k2]; exact g3, fun e he => ?_, by rw [hk]; exact g5⟩, hfl⟩
    · rw [hk, g1, k3, List.map_map]
      congr 2
      apply congrArg
      refine List.map_congr_left fun x hx => ?_
      have : kvOf x ∈ es.map kvOf := k1.mem_iff.1 (List.mem_map.2 ⟨x, hx, rfl⟩)
      obtain ⟨y, hy, hxy⟩ := List.mem_map.1 this
      simp only [kvOf, Prod.mk.injEq] at hxy
      have hin2 := inIdsE_mem _ hin y hy
      rw [hxy.2] at hin2
      simp [concE, conc_ren, conc_in hag _ hin2]
    · have : e.born ∈ es1.map (·.born) := by rw [← k2]; exact List.mem_map.2 ⟨e, he, rfl⟩
      obtain ⟨e2, he2, hb⟩ := List.mem_map.1 this
      rw [← hb]; exact g4 e2 he2
  | _ => simp [frozenIn] at hf

/-- and a new one, under the names of now -/
theorem ObjRep.ren {cx : Cx} {μ : Nat → Loc} {ρ : Nat → Nat} {w : World} {k : Nat} {o : AObj} (hwr : o.isWr = true) (hso : ∃ o', sameO o o' = true) (hr : ObjRep cx (fun i => μ (ρ i)) w k o) : ObjRep cx μ w (ρ k) (renO ρ o) := by
  obtain ⟨o', hso⟩ := hso
  cases o with
  | row e cs op wr =>
    obtain ⟨cells, e2, fz, g1, g2, g3, g4, g5, g6⟩ := hr
    simp only [renO]
    refine ⟨cells, e2, fz, g1, by simpa [renL_map] using g2, fun j v hj hc => ?_, g4, by simpa [renL_map] using g5, g6⟩
    rw [renL_map, List.getElem?_map, Option.map_eq_some_iff] at hj
    obtain ⟨v0, hj, rfl⟩ := hj
    rw [conc_ren]
    refine g3 j v0 hj ?_
    rw [← isCell_conc (fun i => μ (ρ i)), ← conc_ren, isCell_conc]; exact hc
  | map es lk wr =>
    obtain ⟨⟨es1, clock, g1, g2, g3, g4, g5⟩, g6⟩ := hr
    simp only [renO]
    refine ⟨⟨es1.map fun e => { key := e.key, val := Ai.ren ρ e.val, born := e.born }, clock, ?_, ?_, ?_, ?_, g5⟩, ?_⟩
    · rw [g1, List.map_map]
      congr 2
      apply congrArg
      refine List.map_congr_left fun x _ => ?_
      simp [concE, conc_ren]
    · rw [renE_map, List.map_map, List.map_map]
      have := g2.map fun q : Value × Value => (q.1, Ai.ren ρ q.2)
      rw [List.map_map, List.map_map] at this
      exact this
    · rw [List.map_map]; exact g3
    · intro e he
      obtain ⟨x, hx, rfl⟩ := List.mem_map.1 he
      exact g4 x hx
    · intro e he
      rw [renE_map] at he
      obtain ⟨x, hx, rfl⟩ := List.mem_map.1 he
      exact g6 x hx
  | _ => simp [sameO] at hso

theorem sameO_eq : ∀ (a b : AObj), sameO a b = true → a = b := by
  intro a b h
  cases a <;> cases b <;> simp only [sameO] at h <;> (try (cases h; done))
  · simp only [Bool.and_eq_true, decide_eq_true_eq] at h
    obtain ⟨⟨⟨h3, h4⟩, h5⟩, h6⟩ := h
    rw [Nat.eq_of_beq_eq_true h3, beqVL_eq _ _ h4, h5, h6]
  · simp only [Bool.and_eq_true, decide_eq_true_eq] at h
    obtain ⟨⟨h3, h4⟩, h5⟩ := h
    rw [beqE_eq _ _ h3, h4, h5]

theorem over0_get {hp : T AObj} : ∀ (l : Objs) (id : Nat) (o : AObj), (over0 hp l).get id = some o → (id, o) ∈ l ∨ hp.get id = some o := by
  intro l
  induction l with
  | nil => intro id o h; exact .inr h
  | cons x l ih =>
    intro id o h
    simp only [over0, T.get_set] at h
    split at h
    · rename_i e; subst e; injection h with h; subst h; exact .inl (by simp)
    · rcases ih id o h with h | h
      · exact .inl (by simp [h])
      · exact .inr h
theorem objsOk_mem {b n0 : Nat} {p : Nat → Bool} : ∀ (l : Objs), objsOk b n0 p l = true → ∀ x ∈ l, b ≤ x.1 ∧ x.1 < n0 ∧ frozenIn p x.2 = true := by
  intro l
  induction l with
  | nil => intro _ x hx; cases hx
  | cons y l ih =>
    intro h x hx
    simp only [objsOk, Bool.and_eq_true] at h
    rcases List.mem_cons.1 hx with rfl | hx
    · exact ⟨Nat.le_of_ble_eq_true h.1.1.1, Nat.le_of_ble_eq_true h.1.1.2, h.1.2⟩
    · exact ih h.2 x hx
theorem newsOk_mem {n0 n1 : Nat} {hp : T AObj} : ∀ (l : Objs), newsOk n0 n1 hp l = true → ∀ x ∈ l, n0 ≤ x.1 ∧ x.1 < n1 ∧ x.2.isWr = true ∧ hp.get x.1 = some x.2 ∧ sameO x.2 x.2 = true := by
  intro l
  induction l with
  | nil => intro _ x hx; cases hx
  | cons y l ih =>
    intro h x hx
    simp only [newsOk, Bool.and_eq_true] at h
    rcases List.mem_cons.1 hx with rfl | hx
    · have h2 := h.1.2
      split at h2
      · rename_i o ho
        have e := sameO_eq _ _ h2
        subst e
        exact ⟨Nat.le_of_ble_eq_true h.1.1.1.1, Nat.le_of_ble_eq_true h.1.1.1.2, h.1.1.2, ho, h2⟩
      · cases h2
    · exact ih h.2 x hx
theorem objsLike_mem {ρ : Nat → Nat} {hp : T AObj} : ∀ (l : Objs), objsLike ρ hp l = true → ∀ x ∈ l, ∃ o, hp.get (ρ x.1) = some o ∧ likeO (renO ρ x.2) o = true := by
  intro l
  induction l with
  | nil => intro _ x hx; cases hx
  | cons y l ih =>
    intro h x hx
    simp only [objsLike, Bool.and_eq_true] at h
    rcases List.mem_cons.1 hx with rfl | hx
    · have h2 := h.1
      split at h2
      · rename_i o ho; exact ⟨o, ho, h2⟩
      · cases h2
    · exact ih h.2 x hx
theorem layNews_get {ρ : Nat → Nat} {hp : T AObj} : ∀ (l : Objs) (id : Nat) (o : AObj), (layNews ρ hp l).get id = some o → (∃ x ∈ l, id = ρ x.1 ∧ o = renO ρ x.2) ∨ hp.get id = some o := by
  intro l
  induction l with
  | nil => intro id o h; exact .inr h
  | cons x l ih =>
    intro id o h
    simp only [layNews, T.get_set] at h
    split at h
    · rename_i e; subst e; injection h with h; subst h; exact .inl ⟨x, by simp, rfl, rfl⟩
    · rcases ih id o h with ⟨y, h1, h2⟩ | h
      · exact .inl ⟨y, by simp [h1], h2⟩
      · exact .inr h
theorem hasKey_mem : ∀ (l : Objs) (i : Nat), hasKey l i = true → ∃ x ∈ l, x.1 = i := by
  intro l
  induction l with
  | nil => intro i h; cases h
  | cons x l ih =>
    intro i h
    simp only [hasKey, Bool.or_eq_true] at h
    rcases h with h | h
    · exact ⟨x, by simp, Nat.eq_of_beq_eq_true h⟩
    · obtain ⟨y, h1, h2⟩ := ih i h
      exact ⟨y, by simp [h1], h2⟩

theorem rho_low {b n0 ct : Nat} {l : Bind} {i : Nat} (h : i < b) : rho b n0 ct l i = i := by
  unfold rho
  have : Nat.blt i b = true := Nat.ble_eq.mpr h
  rw [this]
theorem rho_high {b n0 ct : Nat} {l : Bind} {i : Nat} (hb : b ≤ n0) (h : n0 ≤ i) : rho b n0 ct l i = i - n0 + ct := by
  unfold rho
  have h1 : Nat.blt i b = false := by
    cases hq : Nat.blt i b with
    | false => rfl
    | true => have : i < b := Nat.le_of_ble_eq_true hq; omega
  have h2 : Nat.blt i n0 = false := by
    cases hq : Nat.blt i n0 with
    | false => rfl
    | true => have : i < n0 := Nat.le_of_ble_eq_true hq; omega
  rw [h1, h2]

section
variable {P : Program} {ov : Ov}

theorem hmemo_ok (hmix : P.follows .mixedOrders = true) (hov : OvOk P ov) (hovm : OvMono ov) (hovi : OvIds ov) {n : Nat} {st0 st : St} {e : HMemo} (h : hmemoOk (Cx.of P) ov n st0 e = true) {args : List Value} {q : Value × St} (hq : hmemoTry st0 e args st = some q)
    {m : Nat → Option Loc} {w : World} {cargs : List Value} (hR : Rep (Cx.of P) m st.G w) (ha : VReps m args cargs) (hf : Fresh m st.ct q.2.ct) : FnOk P e.f cargs.toArray w (CallPost (Cx.of P) m st w q.1 q.2) := by
  unfold hmemoOk at h
  simp only [Bool.and_eq_true] at h
  obtain ⟨⟨⟨⟨⟨h1, h2⟩, h3⟩, h4⟩, h5⟩, h6⟩ := h
  split at h6 <;> (try (cases h6; done))
  rename_i v st2 hc
  rw [callF_eq] at hc
  simp only [Bool.and_eq_true] at h6
  obtain ⟨⟨⟨k1, k2⟩, k3⟩, k4⟩ := h6
  have hv := beqV_eq _ _ k1
  have hn1 := Nat.eq_of_beq_eq_true k2
  have hle := Nat.le_of_ble_eq_true k3
  have h1 := Nat.le_of_ble_eq_true h1
  have h2 := Nat.le_of_ble_eq_true h2
  unfold hmemoTry at hq
  generalize hρ : rho st0.ct e.n0 st.ct (findO st0.ct st.hp e.objs (findL st0.ct e.args args [])) = ρ at hq
  simp only at hq
  split at hq <;> (try (cases hq; done))
  rename_i hchk
  simp only [Bool.and_eq_true] at hchk
  obtain ⟨⟨c1, c2⟩, c3⟩ := hchk
  have c1 := beqVL_eq _ _ c1
  simp only [Option.some.injEq] at hq
  subst hq
  simp only at hf ⊢
  have hlow : ∀ i, i < st0.ct → ρ i = i := fun i hi => by rw [← hρ]; exact rho_low hi
  have hhigh : ∀ i, e.n0 ≤ i → ρ i = i - e.n0 + st.ct := fun i hi => by rw [← hρ]; exact rho_high h2 hi
  generalize hm0 : (fun i => if i < e.n0 then m (ρ i) else none) = m0
  have hm0a : ∀ i, i < e.n0 → m0 i = m (ρ i) := fun i hi => by rw [← hm0]; simp [hi]
  have hm0b : ∀ i, e.n0 ≤ i → m0 i = none := fun i hi => by rw [← hm0]; simp [Nat.not_lt.2 hi]
  have hobj := objsOk_mem _ h4
  have hlike := objsLike_mem _ c2
  -- any names that go on from the small ones go on to names that go on from the great ones
  have lift : ∀ μ0, Ext m0 μ0 → ∃ μ, Ext m μ ∧ ∀ i, okId st0.ct e.objs i = true → μ0 i = μ (ρ i) := by
    intro μ0 hμ0
    refine ⟨fun i => (m i).getD (μ0 i), fun i l hi => by simp [hi], fun i hi => ?_⟩
    simp only [okId, Bool.or_eq_true] at hi
    rcases hi with hi | hi
    · have hi : i < st0.ct := Nat.le_of_ble_eq_true hi
      rw [hlow i hi]
      cases hmi : m i with
      | none => simp [hmi]
      | some l =>
        simp only [hmi, Option.getD_some]
        exact hμ0 i l (by rw [hm0a i (by omega), hlow i hi, hmi])
    · obtain ⟨x, hx, rfl⟩ := hasKey_mem _ _ hi
      obtain ⟨_, hlt, _⟩ := hobj x hx
      obtain ⟨o, ho, _⟩ := hlike x hx
      obtain ⟨l, hl, _⟩ := hR.dom _ _ ho
      simp only [hl, Option.getD_some]
      exact hμ0 _ _ (by rw [hm0a _ hlt, hl])
  have sub : ∀ id o, (⟨over0 (keepIds st0.hp e.ids) e.objs, e.n0⟩ : St).G id o → o.isWr = false ∧ (((id, o) ∈ e.objs) ∨ (st.G id o ∧ id < st0.ct ∧ belowO st0.ct o = true)) := by
    intro id o hg
    rcases over0_get _ _ _ hg with hg | hg
    · obtain ⟨_, _, hfz⟩ := hobj _ hg
      refine ⟨?_, .inl hg⟩
      cases o <;> simp [frozenIn] at hfz <;> simp [AObj.isWr, hfz]
    · obtain ⟨g1, g2⟩ := keepIds_get _ _ _ hg
      obtain ⟨g3, o', g4, g5⟩ := keepOk_mem _ h3 id g1
      rw [g2] at g4; injection g4 with g4; subst g4
      obtain ⟨g6, g7⟩ := hasIds_mem _ c3 id g1 o g2
      exact ⟨g7, .inr ⟨g6, g3, g5⟩⟩
  have hR0 : Rep (Cx.of P) m0 (⟨over0 (keepIds st0.hp e.ids) e.objs, e.n0⟩ : St).G w := {
    dom := fun id o hg => by
      rcases (sub id o hg).2 with hx | ⟨g1, g2, _⟩
      · obtain ⟨_, hlt, _⟩ := hobj _ hx
        obtain ⟨o', ho', _⟩ := hlike _ hx
        obtain ⟨l, k5, k6⟩ := hR.dom _ _ ho'
        exact ⟨l, by rw [hm0a _ hlt]; exact k5, k6⟩
      · obtain ⟨l, k5, k6⟩ := hR.dom _ _ g1
        exact ⟨l, by rw [hm0a _ (by omega), hlow _ g2]; exact k5, k6⟩
    obj := fun μ0 hμ0 id o hg => by
      obtain ⟨μ, hμ, hag⟩ := lift μ0 hμ0
      rcases (sub id o hg).2 with hx | ⟨g1, g2, g3⟩
      · obtain ⟨_, _, hfz⟩ := hobj _ hx
        obtain ⟨o', ho', hlk⟩ := hlike _ hx
        have hkey : okId st0.ct e.objs id = true := by
          simp only [okId, Bool.or_eq_true]
          refine .inr ?_
          have : ∀ (l : Objs), (id, o) ∈ l → hasKey l id = true := by
            intro l
            induction l with
            | nil => intro h; cases h
            | cons y l ih =>
              intro h
              simp only [hasKey, Bool.or_eq_true]
              rcases List.mem_cons.1 h with h | h
              · subst h; exact .inl (by simp)
              · exact .inr (ih h)
          exact this _ hx
        exact ObjRep.unren hag (hag id hkey) hfz hlk (hR.obj μ hμ _ _ ho')
      · have hag2 : AgreeBelow st0.ct μ0 μ := fun i hi => by
          have := hag i (by simp only [okId, Bool.or_eq_true]; exact .inl (Nat.ble_eq.mpr hi))
          rw [hlow i hi] at this; exact this
        exact (hR.obj μ hμ id o g1).below hag2 g2 g3
    inj := fun i j oi oj li lj hi _ hw => by
      have := (sub i oi hi).1
      rw [this] at hw; cases hw
    glob := fun g hg => by
      have : g < st0.ct := Nat.lt_of_lt_of_le hg h1
      rw [hm0a _ (by omega), hlow _ this]; exact hR.glob g hg }
  have hargs : VReps m0 e.args cargs := by
    intro μ0 hμ0
    obtain ⟨μ, hμ, hag⟩ := lift μ0 hμ0
    rw [← ha μ hμ, ← c1, ← concL_eq, ← concL_eq, concL_ren]
    exact concL_in hag _ h5
  have hfr0 : Fresh m0 e.n0 st2.ct := fun i hi _ => hm0b i hi
  have hcall := call_sound hmix hov hovm hovi hc hR0 hargs hfr0
  have fin : ∀ cv w', CallPost (Cx.of P) m0 ⟨over0 (keepIds st0.hp e.ids) e.objs, e.n0⟩ w v st2 cv w' → CallPost (Cx.of P) m st w (ren ρ e.v) ⟨layNews ρ st.hp e.news, e.n1 - e.n0 + st.ct⟩ cv w' := by
    rintro cv w' ⟨m', hs, hvr⟩
    simp only at hs
    have hblk : ∀ b, b < w.heap.size → w'.heap[b]? = w.heap[b]? := fun b hb => hs.fr.block b hb fun id o l hg hw => by rw [(sub id o hg).1] at hw; cases hw
    generalize hm2 : (fun i => if st.ct ≤ i ∧ i < e.n1 - e.n0 + st.ct then m' (i - st.ct + e.n0) else m i) = m2
    have hm2a : ∀ i, e.n0 ≤ i → i < e.n1 → m2 (ρ i) = m' i := fun i hi1 hi2 => by
      rw [← hm2, hhigh i hi1]
      have : st.ct ≤ i - e.n0 + st.ct ∧ i - e.n0 + st.ct < e.n1 - e.n0 + st.ct := by omega
      simp only [if_pos this]
      congr 1; omega
    have hmono : ∀ i l, m i = some l → m2 i = some l := fun i l hi => by
      rw [← hm2]
      by_cases hr : st.ct ≤ i ∧ i < e.n1 - e.n0 + st.ct
      · rw [hf i hr.1 hr.2] at hi; cases hi
      · simp only [if_neg hr]; exact hi
    have hext : ∀ μ, Ext m2 μ → Ext m' (fun i => μ (ρ i)) := by
      intro μ hμ i l hi
      rcases hs.dom i l hi with h7 | ⟨h7, h8⟩
      · have hlt : i < e.n0 := by
          rcases Nat.lt_or_ge i e.n0 with h | h
          · exact h
          · rw [hm0b i h] at h7; cases h7
        rw [hm0a i hlt] at h7
        exact hμ _ _ (hmono _ _ h7)
      · exact hμ _ _ (by rw [hm2a i h7 (by omega)]; exact hi)
    have news : ∀ x ∈ e.news, ∃ l, m2 (ρ x.1) = some l ∧ l.blk < w'.heap.size ∧ w.heap.size ≤ l.blk ∧ st2.G x.1 x.2 ∧ st.ct ≤ ρ x.1 ∧ (renO ρ x.2).isWr = true := by
      intro x hx
      obtain ⟨n3, n4, n5, n6, n7⟩ := newsOk_mem _ k4 x hx
      obtain ⟨l, n8, n9⟩ := hs.rep.dom _ _ n6
      refine ⟨l, by rw [hm2a _ n3 n4]; exact n8, n9, ?_, n6, by rw [hhigh _ n3]; omega, ?_⟩
      · rcases hs.prov _ _ _ n6 n8 with h | ⟨id0, o0, l0, g0, gw, _⟩
        · exact h
        · have := (sub id0 o0 g0).1
          rw [gw n5] at this; cases this
      · cases hx2 : x.2 <;> rw [hx2] at n5 n7 <;> simp [sameO] at n7 <;> simpa [renO, AObj.isWr] using n5
    have old : ∀ i o, st.G i o → ∃ l, m i = some l ∧ m2 i = some l ∧ l.blk < w.heap.size := fun i o hg => by
      obtain ⟨l, g1, g2⟩ := hR.dom i o hg
      exact ⟨l, g1, hmono _ _ g1, g2⟩
    refine ⟨m2, ⟨hmono, fun i l hi => ?_, ⟨?_, ?_, ?_, fun g hg => hmono _ _ (hR.glob g hg)⟩, ⟨hs.fr.size, hs.fr.os, hs.fr.tape, hs.fr.output, fun b hb _ => hblk b hb⟩, ?_⟩, ?_⟩
    · rw [← hm2] at hi
      by_cases hr : st.ct ≤ i ∧ i < e.n1 - e.n0 + st.ct
      · exact .inr hr
      · simp only [if_neg hr] at hi; exact .inl hi
    · intro id o hg
      rcases layNews_get _ _ _ hg with ⟨x, hx, rfl, rfl⟩ | hg
      · obtain ⟨l, g1, g2, _⟩ := news x hx
        exact ⟨l, g1, g2⟩
      · obtain ⟨l, _, g2, g3⟩ := old id o hg
        exact ⟨l, g2, Nat.lt_of_lt_of_le g3 hs.fr.size⟩
    · intro μ hμ id o hg
      rcases layNews_get _ _ _ hg with ⟨x, hx, rfl, rfl⟩ | hg
      · obtain ⟨_, _, n5, n6, n7⟩ := newsOk_mem _ k4 x hx
        exact ObjRep.ren n5 ⟨_, n7⟩ (hs.rep.obj _ (hext μ hμ) _ _ n6)
      · obtain ⟨l, g1, g2, g3⟩ := old id o hg
        have hμm : Ext m μ := fun i l hi => hμ _ _ (hmono _ _ hi)
        refine (hR.obj μ hμm id o hg).congr (hblk _ ?_)
        rw [hμm id l g1]; exact g3
    · intro i j oi oj li lj hi hj hw hli hlj hb
      rcases layNews_get _ _ _ hi with ⟨x, hx, rfl, rfl⟩ | hi <;> rcases layNews_get _ _ _ hj with ⟨y, hy, rfl, rfl⟩ | hj
      · obtain ⟨n3, n4, n5, n6, _⟩ := newsOk_mem _ k4 x hx
        obtain ⟨n3', n4', _, n6', _⟩ := newsOk_mem _ k4 y hy
        rw [hm2a _ n3 n4] at hli
        rw [hm2a _ n3' n4'] at hlj
        have := hs.rep.inj _ _ _ _ _ _ n6 n6' n5 hli hlj hb
        rw [this]
      · obtain ⟨l, g1, _, g3, _⟩ := news x hx
        obtain ⟨l', _, g5, g6⟩ := old j oj hj
        rw [g1] at hli; injection hli with hli; subst hli
        rw [g5] at hlj; injection hlj with hlj; subst hlj
        omega
      · obtain ⟨l, g1, _, g3, _⟩ := news y hy
        obtain ⟨l', _, g5, g6⟩ := old i oi hi
        rw [g1] at hlj; injection hlj with hlj; subst hlj
        rw [g5] at hli; injection hli with hli; subst hli
        omega
      · obtain ⟨l, g1, g2, _⟩ := old i oi hi
        obtain ⟨l', g3, g4, _⟩ := old j oj hj
        rw [g2] at hli; injection hli with hli; subst hli
        rw [g4] at hlj; injection hlj with hlj; subst hlj
        exact hR.inj i j oi oj _ _ hi hj hw g1 g3 hb
    · intro id o l hg hl
      rcases layNews_get _ _ _ hg with ⟨x, hx, rfl, rfl⟩ | hg
      · obtain ⟨l', g1, _, g3, _⟩ := news x hx
        rw [g1] at hl; injection hl with hl; subst hl
        exact .inl g3
      · obtain ⟨l', g1, g2, _⟩ := old id o hg
        rw [g2] at hl; injection hl with hl; subst hl
        exact .inr ⟨id, o, _, hg, fun h => h, g1, rfl⟩
    · intro μ hμ
      rw [conc_ren, hv]
      exact hvr _ (hext μ hμ)
  rcases hcall with ⟨cv, w', g1, g2⟩ | ⟨g1, g2⟩
  · exact .inl ⟨cv, w', g1, fin cv w' g2⟩
  · exact .inr ⟨g1, g2.mono fun x w' ⟨y, hy, hp⟩ => ⟨y, hy, fin y w' hp⟩⟩

theorem hmemoFind_mem {st0 st : St} {f : Nat} {args : List Value} : ∀ (l : List HMemo) (q : Value × St), hmemoFind st0 f args st l = some q → ∃ e ∈ l, e.f = f ∧ hmemoTry st0 e args st = some q := by
  intro l
  induction l with
  | nil => intro v h; simp [hmemoFind] at h
  | cons e l ih =>
    intro q h
    have rest : hmemoFind st0 f args st l = some q → ∃ e' ∈ e :: l, e'.f = f ∧ hmemoTry st0 e' args st = some q := fun h => by
      obtain ⟨e', h1, h2⟩ := ih q h
      exact ⟨e', by simp [h1], h2⟩
    simp only [hmemoFind] at h
    split at h
    · rename_i h1
      split at h
      · rename_i q' hq
        simp at h; subst h
        exact ⟨e, by simp, Nat.eq_of_beq_eq_true h1, hq⟩
      · exact rest h
    · exact rest h

theorem hmemoAll_nil {p : HMemo → Prop} : ∀ e ∈ ([] : List HMemo), p e := fun e he => by cases he
theorem hmemoAll_cons {p : HMemo → Prop} {e : HMemo} {l : List HMemo} (h : p e) (hl : ∀ x ∈ l, p x) : ∀ x ∈ e :: l, p x := fun x hx => by
  rcases List.mem_cons.1 hx with rfl | hx
  · exact h
  · exact hl x hx

theorem hmemoTry_st {st0 st : St} {e : HMemo} {args : List Value} {q : Value × St} (h : hmemoTry st0 e args st = some q) : ∃ ρ : Nat → Nat, q.2 = ⟨layNews ρ st.hp e.news, e.n1 - e.n0 + st.ct⟩ ∧ ρ = rho st0.ct e.n0 st.ct (findO st0.ct st.hp e.objs (findL st0.ct e.args args [])) := by
  unfold hmemoTry at h
  simp only at h
  split at h
  · simp only [Option.some.injEq] at h; subst h; exact ⟨_, rfl, rfl⟩
  · cases h

theorem ovHeap_ok (hmix : P.follows .mixedOrders = true) (hov : OvOk P ov) (hovm : OvMono ov) (hovi : OvIds ov) {st0 : St} {l : List HMemo} {n : Nat} (hl : ∀ e ∈ l, ∃ n, hmemoOk (Cx.of P) ov n st0 e = true) : OvOk P (ovHeap (Cx.of P) st0 l n ov) := by
  refine ⟨?_, hov.lp⟩
  intro f g args st v st' hg hr m w cargs hR ha hf
  simp only [ovHeap, ovHeapF] at hg
  split at hg
  · simp at hg; subst hg
    simp only at hr
    split at hr
    · rename_i q hq
      simp at hr; subst hr
      obtain ⟨e, h1, rfl, h4⟩ := hmemoFind_mem _ _ hq
      obtain ⟨n, hn⟩ := hl e h1
      exact hmemo_ok hmix hov hovm hovi hn h4 hR ha hf
    · rw [callF_eq] at hr
      exact call_sound hmix hov hovm hovi hr hR ha hf
  · exact hov.fn f g args st v st' hg hr m w cargs hR ha hf

theorem ovHeap_mono (hovm : OvMono ov) {cx : Cx} {st0 : St} {l : List HMemo} {n : Nat} : OvMono (ovHeap cx st0 l n ov) := by
  refine ⟨?_, hovm.lp, hovm.keeps⟩
  intro f g args st v st' hg hr
  simp only [ovHeap, ovHeapF] at hg
  split at hg
  · simp at hg; subst hg
    simp only at hr
    split at hr
    · rename_i q hq
      simp at hr; subst hr
      obtain ⟨e, _, _, h4⟩ := hmemoFind_mem _ _ hq
      obtain ⟨_, h5, _⟩ := hmemoTry_st h4
      simp only at h5
      rw [h5]; simp
    · rw [callF_eq] at hr
      exact callA_ct hovm (run_ct hovm n) hr
  · exact hovm.fn f g args st v st' hg hr

theorem ovHeap_ids (hovm : OvMono ov) (hovi : OvIds ov) {st0 : St} {l : List HMemo} {n : Nat} (hl : ∀ e ∈ l, ∃ n, hmemoOk (Cx.of P) ov n st0 e = true) : OvIds (ovHeap (Cx.of P) st0 l n ov) := by
  refine ⟨?_, hovi.lp⟩
  intro f g args st v st' hg hr
  simp only [ovHeap, ovHeapF] at hg
  split at hg
  · simp at hg; subst hg
    simp only at hr
    split at hr
    · rename_i q hq
      simp at hr; subst hr
      obtain ⟨e, he, _, h4⟩ := hmemoFind_mem _ _ hq
      obtain ⟨ρ, h5, h6⟩ := hmemoTry_st h4
      simp only at h5
      obtain ⟨n, hn⟩ := hl e he
      unfold hmemoOk at hn
      simp only [Bool.and_eq_true] at hn
      obtain ⟨⟨⟨⟨⟨_, h2⟩, _⟩, _⟩, _⟩, h7⟩ := hn
      split at h7 <;> (try (cases h7; done))
      simp only [Bool.and_eq_true] at h7
      have h2 := Nat.le_of_ble_eq_true h2
      rw [h5]
      intro id o hgo
      rcases layNews_get _ _ _ hgo with ⟨x, hx, rfl, rfl⟩ | hgo
      · obtain ⟨n3, n4, _⟩ := newsOk_mem _ h7.2 x hx
        right
        rw [h6, rho_high h2 n3]
        simp only
        omega
      · exact .inl ⟨o, hgo⟩
    · rw [callF_eq] at hr
      exact callA_ids hovi (run_ids hovm hovi n) hr
  · exact hovi.fn f g args st v st' hg hr

end
end
end Go.Ai

/-! A law without arguments, run by the abstract interpreter. -/
namespace Go.Ai
open Go Go.ChangeShapes Go.WideShapes Go.RowKit
noncomputable section

/-- nothing that was there has turned -/
structure Stays (W W' : World) : Prop where
  os : W'.os = W.os
  output : W'.output = W.output
  size : W.heap.size ≤ W'.heap.size
  block : ∀ b, b < W.heap.size → W'.heap[b]? = W.heap[b]?

theorem Stays.keptBut {W W' : World} (h : Stays W W') (may : MemPlace → Prop) : W.keptBut W' may := by
  refine ⟨h.os, h.output, fun i hi => ?_⟩
  rw [h.block i hi]
  cases W.heap[i]? with
  | none => trivial
  | some o => cases o <;> simp

section
variable {P : Program}

theorem Step.stays {m m' : Nat → Option Loc} {G G' : Nat → AObj → Prop} {w w' : World} {ct ct' : Nat} (h : Step (Cx.of P) m G w ct m' G' w' ct') (hro : ∀ id o, G id o → o.isWr = false) : Stays w w' where
  os := h.fr.os
  output := h.fr.output
  size := h.fr.size
  block := fun b hb => h.fr.block b hb fun id o l hg hw => by rw [hro id o hg] at hw; cases hw

/-- the abstract heap at the start -/
def startOf (P : Program) (nm : List (String × TypeId)) (fs : List Nat) (laid : List (String × DataW Unit)) : St :=
  match laidStart P nm fs laid with
  | some st => st
  | none => ⟨.nil, 0⟩

/-- the run of a law without arguments -/
def closedRun (P : Program) (ov : Ov) (nm : List (String × TypeId)) (fs : List Nat) (laid : List (String × DataW Unit)) (n f : Nat) : Bool :=
  (laidStart P nm fs laid).isSome && match callF (Cx.of P) ov n f [] (startOf P nm fs laid) with
    | some (.bool true, _) => true
    | _ => false

theorem closed_calls (hmix : P.follows .mixedOrders = true) {ov : Ov} (hov : OvOk P ov) (hovm : OvMono ov) (hovi : OvIds ov) {nm : List (String × TypeId)} (h2 : nm.all (nameOk P) = true) {fs : List Nat} {laid : List (String × DataW Unit)} {n f : Nat} (h : closedRun P ov nm fs laid n f = true)
    {fn : Func} (hfn : P.funcs[f]? = some fn) (hb : fn.body.isSome = true) (hnm : (fn.name == "runtime.NumGoroutine") = false) {W : World} (hl : laidMetH P laid W) :
    Calls P f #[] W fun e W' => e = .returned (.bool true) ∧ Stays W W' := by
  unfold closedRun at h
  simp only [Bool.and_eq_true] at h
  obtain ⟨hs, h3⟩ := h
  obtain ⟨st, hst⟩ := Option.isSome_iff_exists.1 hs
  have hst2 : startOf P nm fs laid = st := by unfold startOf; rw [hst]
  rw [hst2] at h3
  split at h3 <;> (try (cases h3; done))
  rename_i st' hrun
  rw [callF_eq] at hrun
  obtain ⟨m, hR, hfr, hro⟩ := laidStart_rep h2 hst hl
  have hc := call_sound hmix hov hovm hovi hrun hR (cargs := []) (fun μ _ => rfl) (fun i hi _ => hfr i hi)
  have hent : (callFunc f #[]).run P W = .ok (.enter f #[]) W := by
    have h1 : fn.name ≠ "runtime.NumGoroutine" := by simpa using hnm
    obtain ⟨c, hc⟩ := Option.isSome_iff_exists.1 hb
    simp [callFunc, hfn, h1, hc]
  rcases hc with ⟨v, w', h4, _⟩ | ⟨_, h5⟩
  · rw [hent] at h4; cases h4
  · refine h5.mono fun e W' ⟨v, he, m', hs, hv⟩ => ?_
    have : v = .bool true := (hv _ (some0_ext m')).symm
    subst this
    exact ⟨he, hs.stays hro⟩

variable {H : Type} {enc : TypeId × Value → H}

/-- the words of the row, where nothing that was there has turned -/
theorem post_stays {f : Func} {s : ChangeSpec} {apart fresh handsOn again : Bool} {W W' : World} {args : Array Value} {v : Value} {ds gs : List (DataW H)} {before pa pv : List MemPlace}
    (hW : DataW.Whole enc P f.params.toList s.vars apart W args.toList ds gs before)
    (hres : ∀ (b : Nat) (sp : Nat → Bool) (hd : Bool), DataW.TrodAll enc P W' b sp hd f.resultTypes.toList (v.resultList f.resultTypes.size) (s.fn H (ds ++ gs)).results [])
    (hargs : ∀ sp : Nat → Bool, (∀ p ∈ before, sp p.block = true) → DataW.TrodAll enc P W' 0 sp true f.params.toList args.toList (s.fn H (ds ++ gs)).args pa)
    (hvars : ∀ sp : Nat → Bool, (∀ p ∈ before, sp p.block = true) → DataW.TrodVars enc P W' sp s.vars (s.fn H (ds ++ gs)).vars pv)
    (hps : before = pa ++ pv) (hk : Stays W W')
    (hok : ∀ (j : Nat) (t : TypeId) (r : Value), f.resultTypes[j]? = some t → (v.resultList f.resultTypes.size)[j]? = some r → Value.okWide P W' .any 0 t r) :
    s.post enc P f apart fresh handsOn again W args v W' := by
  have hold : ∀ p ∈ before, (fun b => decide (b < W.heap.size)) p.block = true := fun p hp => by simpa using hW.lt p hp
  refine ⟨ds, gs, before, [], pa, pv, hW, hres _ _ _, hargs _ hold, hvars _ hold, hk.keptBut _, fun _ => ?_⟩
  have hlt := hW.lt
  obtain ⟨_, _, _, _, _, hz, hn⟩ := hW
  refine ⟨hok, _, _, ([] ++ pa) ++ pv, ⟨[] ++ pa, pv, trodAll_append (hargs _ (fun _ _ => rfl)) (hres _ _ _), hvars _ (fun _ _ => rfl), rfl, ?_, ?_⟩, ?_⟩
  · intro b off hp
    have hp' : MemPlace.cell b off ∈ before := by rw [hps]; simpa using hp
    have := hz b off hp'
    have hb : b < W.heap.size := hlt _ hp'
    unfold World.frozen? at this ⊢
    rw [hk.block b hb]; exact this
  · intro ha
    have := hn ha
    rw [hps] at this
    simpa using this
  · intro p hp _
    rw [hps]
    simpa using hp

/-- a table's cells -/
def pinCells : DataW Unit → Array Value
  | .agg l => ⟨l.map fun d => match d with
    | .lit (.int k n) => .int k n
    | _ => undef⟩
  | _ => #[]

/-- a world with some variables' cells laid by hand -/
def pinWorld (w : World) : List (Nat × DataW Unit) → World
  | [] => w
  | (g, d) :: l => pinWorld { w with heap := w.heap.modify g fun o => match o with
    | .cells _ t fz => .cells (pinCells d) t fz
    | o => o } l

theorem closed_lifted {C : Checked} {os : Os} (started : os.Started) {f : FuncId} {fn : Func} {s : ChangeSpec} {laid : List (String × DataW Unit)} {tb : TypeId} {apart fresh : Bool}
    (own : ownKnob C.prog.godebug = none) (noInit : C.prog.inits.idxOf? f = none) (hfn : C.prog.funcs[f]? = some fn)
    (hp : fn.params = #[]) (hr : fn.resultTypes = #[tb]) (ht : C.prog.underlying tb = some .bool) (hv : s.vars = []) (hs : s.fn H [] = { results := [.lit (.bool true)], args := [] })
    (hcalls : ∀ W, laidMetH C.prog laid W → Calls C.prog f #[] W fun e W' => e = .returned (.bool true) ∧ Stays W W')
    (witness : ∃ (w : World) (tape : Tape) (i : Input), w.os = os ∧ (w.forCall tape i).Shaped C.prog ∧ i.vars = [] ∧ Input.okWide C.prog (w.forCall tape i) .any w.heap.size f i ∧
      ((s.pre enc C.prog fn [] apart (w.forCall tape i).memory i.args ∧ laidMetH C.prog laid (w.forCall tape i).memory) ∧ sizedMet enc C.prog fn (OpenSpec.ofChange s) apart (w.forCall tape i).memory i.args) ∧ ({} : Assume).holds C.prog (lone (Frame.enter C.prog f i.args .normal) [] (w.forCall tape i))) :
    ReturnsInHanded {} C os f .any (fun w args => (s.pre enc C.prog fn [] apart w args ∧ laidMetH C.prog laid w) ∧ sizedMet enc C.prog fn (OpenSpec.ofChange s) apart w args) (s.post enc C.prog fn apart fresh false false) := by
  refine returnsInHanded_of_change_and (C := C) (X := fun w _ => laidMetH C.prog laid w) (fun _ _ _ hh h => h.of_heap hh) own started noInit hfn witness ?_
  intro W base args ds gs before hval0 hW _ _ hL _
  have hW' := hW
  obtain ⟨p, q, hA, hV, rfl, hfz, hnd⟩ := hW
  rw [hp] at hA
  rw [hv] at hV
  obtain ⟨rfl, rfl, rfl⟩ := trodAll_none hA
  obtain ⟨rfl, rfl⟩ := trodVars_none hV
  refine (hcalls _ hL).mono fun e W' ⟨he, hst⟩ => ?_
  subst he
  refine ⟨_, rfl, post_stays (pa := []) (pv := []) hW' (fun b sp hd => ?_) (fun sp _ => ?_) (fun _ _ => ?_) rfl hst (ok_one hr rfl (okWide_bool_mk ht _))⟩
  · simp only [List.append_nil, hs, hr]
    exact trodAll_mk1 (shut_bool ht true)
  · simp only [List.append_nil, hs, hp]
    rfl
  · simp only [List.append_nil, hs, hv]
    rfl

end
end
end Go.Ai

/-! A closed law, from its start written out. -/
namespace Go.Ai
open Go
def saysTrue (x : Option (Value × St)) : Bool := match x with
  | some (.bool true, _) => true
  | _ => false
theorem saysTrue_some {x : Option (Value × St)} (h : saysTrue x = true) : ∃ st', x = some (.bool true, st') := by
  unfold saysTrue at h
  split at h
  · exact ⟨_, rfl⟩
  · cases h
section
variable {P : Program}
theorem closed_calls2 (hmix : P.follows .mixedOrders = true) {ov : Ov} (hov : OvOk P ov) (hovm : OvMono ov) (hovi : OvIds ov) {nm : List (String × TypeId)} (h2 : nm.all (nameOk P) = true) {fs : List Nat} {laid : List (String × DataW Unit)} {n f : Nat} {st : St}
    (hst : laidStart P nm fs laid = some st) (h : saysTrue (callF (Cx.of P) ov n f [] st) = true)
    {fn : Func} (hfn : P.funcs[f]? = some fn) (hb : fn.body.isSome = true) (hnm : (fn.name == "runtime.NumGoroutine") = false) {W : World} (hl : laidMetH P laid W) :
    Calls P f #[] W fun e W' => e = .returned (.bool true) ∧ Stays W W' := by
  obtain ⟨st', hrun⟩ := saysTrue_some h
  rw [callF_eq] at hrun
  obtain ⟨m, hR, hfr, hro⟩ := laidStart_rep h2 hst hl
  have hc := call_sound hmix hov hovm hovi hrun hR (cargs := []) (fun μ _ => rfl) (fun i hi _ => hfr i hi)
  have hent : (callFunc f #[]).run P W = .ok (.enter f #[]) W := by
    have h1 : fn.name ≠ "runtime.NumGoroutine" := by simpa using hnm
    obtain ⟨c, hc⟩ := Option.isSome_iff_exists.1 hb
    simp [callFunc, hfn, h1, hc]
  rcases hc with ⟨v, w', h4, _⟩ | ⟨_, h5⟩
  · rw [hent] at h4; cases h4
  · refine h5.mono fun e W' ⟨v, he, m', hs, hv⟩ => ?_
    have : v = .bool true := (hv _ (some0_ext m')).symm
    subst this
    exact ⟨he, hs.stays hro⟩
end
end Go.Ai

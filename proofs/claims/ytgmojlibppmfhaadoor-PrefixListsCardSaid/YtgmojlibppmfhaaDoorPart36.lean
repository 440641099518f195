/- Runs of the abstract interpreter, part 36: by an AI agent. -/
import Derived.Test.YtgmojlibppmfhaaDoorPart35

namespace Go.Proofs.YtgmojlibppmfhaaDoor
open Go Go.Ai
/-! ### loops that go over a row and lay another one -/
def accV (ne : Bool) (w id : Nat) (ac : List Value) : Value := match ne with
  | true => .slice (some ⟨id, 0, none⟩) (ac.length / w) openCap
  | false => match ac with
    | [] => .slice none 0 0
    | v :: l => .slice (some ⟨id, 0, none⟩) ((v :: l).length / w) openCap
def accO (ne : Bool) (e id : Nat) (ac : List Value) : Objs := match ne with
  | true => [(id, rowP e ac)]
  | false => match ac with
    | [] => []
    | v :: l => [(id, rowP e (v :: l))]
structure AX where
  cs : List Value
  n : Nat
  j : Nat × Nat
  ac : List Value
def slV (n : Nat) : Value := .slice (some ⟨11, 0, none⟩) n openCap
structure AP where
  c : Code
  nt : Nat
  keys : List Tmp
  outs : List Tmp
  e1 : Nat
  e2 : Nat
  w : Nat
  ne : Bool
  rest : AX → List Value
  pre : AX → Prop
  ex : Ex
  rv : AX → List Value
  ro : AX → Objs
  j : List Value → Option (Nat × Nat)
noncomputable def AP.get (A : AP) (vs : List Value) (hp : T AObj) : Option (Bool × (Bool → AX × Rho)) := match vs with
  | acc :: .slice (some s) n cap :: rs => match hp.get s.block, A.j rs with
    | some (.row _ cs _ _), some j => match acc with
      | .slice (some b) _ _ => match hp.get b.block with
        | some (.row _ ac _ _) => some (true, fun _ => (⟨cs, n, j, ac⟩, [(11, .sl s.block s.off cap), (12, .id b.block)]))
        | _ => none
      | _ => some (true, fun _ => (⟨cs, n, j, []⟩, [(11, .sl s.block s.off cap)]))
    | _, _ => none
  | _ => none
def AP.hv (A : AP) (x : AX) : List Value := accV A.ne A.w 12 x.ac :: slV x.n :: A.rest x
def AP.ho (A : AP) (x : AX) : Objs := (11, rowQ A.e1 x.cs) :: accO A.ne A.e2 12 x.ac
/-- cells that are numbers -/
def Ints (cs : List Value) : Prop := ∀ v ∈ cs, ∃ k n, v = .int k n
theorem Ints.ren {cs : List Value} (σ : Nat → Nat) (h : Ints cs) : renL σ cs = cs := by
  induction cs with
  | nil => rfl
  | cons v l ih =>
    obtain ⟨k, n, rfl⟩ := h v (by simp)
    simp [renL, Go.Ai.ren, ih (fun u hu => h u (by simp [hu]))]
theorem Ints.inIds {cs : List Value} (p : Nat → Bool) (h : Ints cs) : inIdsL p cs = true := by
  induction cs with
  | nil => rfl
  | cons v l ih =>
    obtain ⟨k, n, rfl⟩ := h v (by simp)
    simp [inIdsL, Go.Ai.inIds, ih (fun u hu => h u (by simp [hu]))]
theorem Ints.flat {cs : List Value} (h : Ints cs) : flatL cs = true := by
  induction cs with
  | nil => rfl
  | cons v l ih =>
    obtain ⟨k, n, rfl⟩ := h v (by simp)
    simp [flatL, Go.Ai.flat, ih (fun u hu => h u (by simp [hu]))]
theorem Ints.cells {cs : List Value} (h : Ints cs) : AllC cs := fun v hv => by obtain ⟨k, n, rfl⟩ := h v hv; rfl
theorem Ints.app {a b : List Value} (h : Ints a) (g : Ints b) : Ints (a ++ b) := fun v hv => (List.mem_append.1 hv).elim (h v) (g v)
theorem Ints.pair {k0 k1 : IntKind} : ∀ l, Ints (pairC k0 k1 l)
  | [] => fun v hv => by cases hv
  | p :: l => fun v hv => by
    rcases List.mem_cons.1 hv with rfl | hv
    · exact ⟨_, _, rfl⟩
    · rcases List.mem_cons.1 hv with rfl | hv
      · exact ⟨_, _, rfl⟩
      · exact Ints.pair l v hv
noncomputable def AP.ml (A : AP) : ML := ⟨A.c, A.nt, A.keys, A.outs, [], 11, 13, 14, AX, A.hv, A.ho, A.pre, fun _ => A.ex, A.rv, A.ro, A.get⟩
theorem fit_read {hp : T AObj} {e n : Nat} {cs : List Value} {ρ : Rho} (hg : hp.get 11 = some (rowQ e cs)) (hf : Ints cs) (hs : cx.size e = some n) (h1 : 1 ≤ n) : FitO cx 11 11 ((11, .sl 11 0 openCap) :: ρ) hp (11, rowQ e cs) :=
  ⟨Nat.le_refl _, e, cs, cs, true, false, n, rfl, hg, hs, h1, hf.flat, by simp, by simp, .inl ⟨by kernel_rfl, rfl, by simp, Nat.le_refl _⟩⟩
theorem fit_acc {hp : T AObj} {e id : Nat} {ac : List Value} (hg : hp.get id = some (rowP e ac)) (hf : Ints ac) : FitO cx 11 11 [(11, .sl 11 0 openCap), (12, .id id)] hp (12, rowP e ac) :=
  ⟨true, by rw [hg]; show _ = some (AObj.row e (renL _ ac) true true); rw [hf.ren]; rfl, fun _ => rfl⟩
/-- a round: it ends, or goes on with more laid -/
def AP.Goes (A : AP) (ov : Ov) (ovO : OvO) (meas : AX → Nat) (x : AX) (toks : List An) (asm : List Prop) (id m : Nat) (x' : AX) : Prop :=
  outM A.keys A.outs [11, id] (runO cx ov ovO 1000 A.c A.nt (putT A.keys (A.hv x) .nil) ⟨over0 (keepIds st0.hp []) (A.ho x), 13⟩ ⟨toks, []⟩) = some (.normal, .slice (some ⟨id, 0, none⟩) m openCap :: slV x.n :: A.rest x', [some (rowQ A.e1 x.cs), some (rowP A.e2 x'.ac)], asm) ∧
  Holds asm ∧ m = x'.ac.length / A.w ∧ id ≠ 11 ∧ x'.cs = x.cs ∧ x'.n = x.n ∧ x'.ac ≠ [] ∧ A.pre x' ∧ meas x' < meas x ∧ A.rv x' = A.rv x ∧ A.ro x' = A.ro x
def AP.Ends (A : AP) (ov : Ov) (ovO : OvO) (x : AX) (toks : List An) (asm : List Prop) : Prop :=
  ∃ vs os, outM A.keys A.outs [12] (runO cx ov ovO 1000 A.c A.nt (putT A.keys (A.hv x) .nil) ⟨over0 (keepIds st0.hp []) (A.ho x), 13⟩ ⟨toks, []⟩) = some (A.ex, vs, os, asm) ∧ Holds asm ∧
    ((vs = [.slice (some ⟨12, 0, none⟩) (x.ac.length / A.w) openCap] ∧ os = [some (rowP A.e2 x.ac)] ∧ A.rv x = [.slice (some ⟨13, 0, none⟩) (x.ac.length / A.w) openCap] ∧ A.ro x = [(13, rowP A.e2 x.ac)]) ∨
     (A.rv x = vs ∧ A.ro x = [] ∧ renL (tauB 11 []) vs = vs))
theorem run_eq {A : AP} {ov : Ov} {ovO : OvO} {x : AX} {c : Code} {nt : Nat} {keys outs : List Tmp} {vs0 : List Value} {os0 : Objs} {is : List Nat} {toks : List An} {r : Option (Ex × List Value × List (Option AObj) × List Prop)}
    (hc : A.c = c) (hn : A.nt = nt) (hk : A.keys = keys) (ho : A.outs = outs) (ev : A.hv x = vs0) (eo : A.ho x = os0)
    (hr : outM keys outs is (runO cx ov ovO 1000 c nt (putT keys vs0 .nil) ⟨over0 (keepIds st0.hp []) os0, 13⟩ ⟨toks, []⟩) = r) :
    outM A.keys A.outs is (runO cx ov ovO 1000 A.c A.nt (putT A.keys (A.hv x) .nil) ⟨over0 (keepIds st0.hp []) (A.ho x), 13⟩ ⟨toks, []⟩) = r := by
  subst hc hn hk ho ev eo; exact hr
structure AP.Ok (A : AP) (ov : Ov) (ovO : OvO) : Prop where
  ends : A.ex ≠ .normal
  outs : ∀ t ∈ A.outs, t ∈ dstsOf A.c
  s1 : ∃ n, cx.size A.e1 = some n ∧ 1 ≤ n
  ints : ∀ x, A.pre x → Ints x.cs ∧ Ints x.ac
  tail : ∀ x, A.pre x → tailOk 11 11 13 14 (A.ro x) (A.ro x) = true ∧ inIdsL (okId 11 (A.ro x)) (A.rv x) = true
  rest : ∀ x, renL (fun i => i) (A.rest x) = A.rest x ∧ ∀ ρ ρ', FitVs 11 ρ ρ' (A.rest x) (A.rest x)
  step : ∃ meas : AX → Nat, ∀ x, A.pre x → (∃ toks asm id m x', A.Goes ov ovO meas x toks asm id m x') ∨ (∃ toks asm, A.Ends ov ovO x toks asm)
theorem acc_cons {ne : Bool} {w id : Nat} : ∀ {ac : List Value}, ac ≠ [] → accV ne w id ac = .slice (some ⟨id, 0, none⟩) (ac.length / w) openCap
  | [], h => absurd rfl h
  | _ :: _, _ => by cases ne <;> rfl
theorem accO_cons {ne : Bool} {e id : Nat} : ∀ {ac : List Value}, ac ≠ [] → accO ne e id ac = [(id, rowP e ac)]
  | [], h => absurd rfl h
  | _ :: _, _ => by cases ne <;> rfl
theorem map_two {hp : T AObj} {i j : Nat} {o p : Option AObj} (h : [i, j].map hp.get = [o, p]) : hp.get i = o ∧ hp.get j = p := by simpa using h
theorem accO_head (ne : Bool) (e1 e2 : Nat) (cs ac : List Value) (h1 : Ints cs) (h2 : Ints ac) : headOk 11 11 13 ((11, rowQ e1 cs) :: accO ne e2 12 ac) ((11, rowQ e1 cs) :: accO ne e2 12 ac) = true := by
  have one (l : List Value) (h2 : Ints l) : headOk 11 11 13 [(11, rowQ e1 cs), (12, rowP e2 l)] [(11, rowQ e1 cs), (12, rowP e2 l)] = true := by
    show (true && rowIn _ (rowQ e1 cs) && (true && rowIn _ (rowP e2 l) && true)) = true
    rw [show rowIn _ (rowQ e1 cs) = true from h1.inIds _, show rowIn _ (rowP e2 l) = true from h2.inIds _]; rfl
  cases ne with
  | true => exact one ac h2
  | false => cases ac with
    | nil => show (true && rowIn _ (rowQ e1 cs) && true) = true; rw [show rowIn _ (rowQ e1 cs) = true from h1.inIds _]; rfl
    | cons v l => exact one (v :: l) h2
theorem AP.good (A : AP) {ov : Ov} {ovO : OvO} (hr : OvRef ov ovO) (h : A.Ok ov ovO) : A.ml.Good Tryd.prog ov st0 where
  keep := by kernel_rfl
  b0 := of_decide_eq_true (by kernel_rfl)
  b1 := of_decide_eq_true (by kernel_rfl)
  b2 := of_decide_eq_true (by kernel_rfl)
  outs := h.outs
  head := fun (x : AX) hx => ⟨accO_head _ _ _ _ _ (h.ints x hx).1 (h.ints x hx).2, fun i h1 h2 => absurd (show 11 ≤ i from h1) (Nat.not_le.2 h2)⟩
  tail := h.tail
  ok := by
    obtain ⟨meas, hs⟩ := h.step
    refine ⟨meas, fun (x : AX) hx => ?_⟩
    rcases hs x hx with ⟨toks, asm, id, m, x', hrun, ha, rfl, hid, hcs, hn, hne, hp, hm, hv, ho⟩ | ⟨toks, asm, vs, os, hrun, ha, hres⟩
    · obtain ⟨tmO, st', g1, g2, g3⟩ := path_round hr hrun ha
      obtain ⟨k1, k2⟩ := map_two g3
      obtain ⟨n1, hz1, hz2⟩ := h.s1
      refine ⟨1000, .normal, tmO, st', g1, .inl ⟨rfl, x', [(11, .sl 11 0 openCap), (12, .id id)], _, g2, hp, hm, ⟨rfl, hv, ho⟩, ⟨?_, ?_, ?_⟩, fun i h1 h2 => absurd (show 11 ≤ i from h1) (Nat.not_le.2 h2)⟩⟩
      · show FitOs cx 11 11 _ _ ((11, rowQ A.e1 x'.cs) :: accO A.ne A.e2 12 x'.ac)
        rw [accO_cons hne, hcs]
        exact ⟨fit_read k1 (h.ints x hx).1 hz1 hz2, fit_acc k2 (h.ints x' hp).2, trivial⟩
      · show FitVs 11 ((11, rowQ A.e1 x'.cs) :: accO A.ne A.e2 12 x'.ac) _ (accV A.ne A.w 12 x'.ac :: slV x'.n :: A.rest x') _
        rw [accO_cons hne, acc_cons hne, hn]
        exact ⟨.inl ⟨rfl, rfl⟩, .inr ⟨11, 11, 0, openCap, x.n, rfl, Nat.le_refl _, rfl, rfl, rfl⟩, (h.rest x').2 _ _⟩
      · show distB _ ((11, rowQ A.e1 x'.cs) :: accO A.ne A.e2 12 x'.ac) ((11, rowQ A.e1 x'.cs) :: accO A.ne A.e2 12 x'.ac) = true
        rw [accO_cons hne]
        show (true && ((!Nat.beq 11 id && true) && true)) = true
        cases hb : Nat.beq 11 id with
        | false => rfl
        | true => exact absurd (Nat.eq_of_beq_eq_true hb).symm hid
    · obtain ⟨tmO, st', g1, g2, g3⟩ := path_round hr hrun ha
      have g2 : readT tmO A.outs = some vs := by
        cases he : A.ex with
        | normal => exact absurd he h.ends
        | _ => rw [he] at g2; exact g2
      rcases hres with ⟨rfl, rfl, r1, r2⟩ | ⟨r1, r2, r3⟩
      · refine ⟨1000, A.ex, tmO, st', g1, .inr ⟨h.ends, rfl, [(13, 12)], ?_, ?_, ?_⟩⟩
        · show readT tmO A.outs = some (renL (tauB 11 [(13, 12)]) (A.rv x)); rw [g2, r1]; rfl
        · show FitR _ _ (A.ro x)
          rw [r2]
          refine ⟨?_, trivial⟩
          show st'.hp.get 12 = some (AObj.row A.e2 (renL _ x.ac) true true)
          rw [((h.ints x hx).2).ren, map_one g3]; rfl
        · show distR _ (A.ro x) (A.ro x) = true
          rw [r2]; rfl
      · refine ⟨1000, A.ex, tmO, st', g1, .inr ⟨h.ends, rfl, [], ?_, ?_, ?_⟩⟩
        · show readT tmO A.outs = some (renL (tauB 11 []) (A.rv x)); rw [r1, g2, r3]
        · show FitR _ _ (A.ro x); rw [r2]; trivial
        · show distR _ (A.ro x) (A.ro x) = true; rw [r2]; rfl
/-! ### the cells; what is laid -/
def pA (cs : List Value) (i : Nat) : Int := intAt cs (0 + (i : Int).toNat * 2 + 0)
def pB (cs : List Value) (i : Nat) : Int := intAt cs (0 + (i : Int).toNat * 2 + 1)
def isA (cs : List Value) (i : Nat) : Prop := cs[0 + (i : Int).toNat * 2 + 0]? = some (.int .u32 (pA cs i))
def isB (cs : List Value) (i : Nat) : Prop := cs[0 + (i : Int).toNat * 2 + 1]? = some (.int .i64 (pB cs i))
structure RowsOf (cs : List Value) (n : Nat) : Prop where
  ints : Ints cs
  a : ∀ i < n, isA cs i
  b : ∀ i < n, isB cs i
  a0 : ∀ i < n, 0 ≤ pA cs i
  a1 : ∀ i < n, pA cs i < 4294967296
def octL (x : Int) : List Value := [.int .u8 (octF x 0), .int .u8 (octF x 1), .int .u8 (octF x 2), .int .u8 (octF x 3)]
def bytesP (x b : Int) : List Value := .int .u8 b :: (octL x).take (szF b).toNat
def finB (cs : List Value) : Nat → Nat → List Value → List Value
  | 0, _, ac => ac
  | k + 1, i, ac => finB cs k (i + 1) (ac ++ bytesP (pA cs i) (pB cs i))
def finT (cs : List Value) : Nat → Nat → List Value → List Value
  | 0, _, ac => ac
  | k + 1, i, ac => finT cs k (i + 1) (ac ++ [.int .u32 (pA cs i), .int .i64 (pB cs i)])
def octsR (x b : Int) : Nat → Nat → List Value
  | 0, _ => []
  | f + 1, k => if 8 * (k : Int) < b then .int .u8 (octF x k) :: octsR x b f (k + 1) else []
theorem may_range {x b : Int} (h : mayF x b = true) : 0 ≤ b ∧ b ≤ 32 := by
  unfold mayF clampF at h
  simp only [Bool.and_eq_true, Bool.and_true, beq_iff_eq] at h
  have h := h.2
  split at h
  · omega
  · split at h <;> omega
theorem sz_cases {b : Int} (h0 : 0 ≤ b) (h1 : b ≤ 32) : szF b = 0 ∨ szF b = 1 ∨ szF b = 2 ∨ szF b = 3 ∨ szF b = 4 := by unfold szF; omega
theorem octs_all {x b : Int} (h0 : 0 ≤ b) (h1 : b ≤ 32) : octsR x b 5 0 = (octL x).take (szF b).toNat := by
  rcases sz_cases h0 h1 with h | h | h | h | h <;> rw [h] <;> unfold szF at h <;> simp only [octsR, octL]
  · rw [if_neg (by omega)]; rfl
  · rw [if_pos (by omega), if_neg (by omega)]; rfl
  · rw [if_pos (by omega), if_pos (by omega), if_neg (by omega)]; rfl
  · rw [if_pos (by omega), if_pos (by omega), if_pos (by omega), if_neg (by omega)]; rfl
  · rw [if_pos (by omega), if_pos (by omega), if_pos (by omega), if_pos (by omega), if_neg (by omega)]; rfl
theorem ble_no {a b : Nat} (h : b < a) : Nat.ble a b = false := by
  cases hb : Nat.ble a b with
  | false => rfl
  | true => exact absurd (Nat.le_of_ble_eq_true hb) (Nat.not_le.2 h)
theorem beq_ok {a b : Nat} (h : a = b) : (true && Nat.beq a b) = true := by subst h; simp
theorem two_ble {a b c d : Nat} (h : a ≤ b) (g : c ≤ d) : (Nat.ble a b && Nat.ble c d) = true := by rw [Nat.ble_eq_true_of_le h, Nat.ble_eq_true_of_le g]; rfl
theorem allC_nil : AllC [] := fun v hv => by cases hv
theorem allC_int {k : IntKind} {n : Int} {l : List Value} (h : AllC l) : AllC (.int k n :: l) := fun v hv => by
  rcases List.mem_cons.1 hv with rfl | hv
  · rfl
  · exact h v hv
theorem ints_nil : Ints [] := fun v hv => by cases hv
theorem ints_int {k : IntKind} {n : Int} {l : List Value} (h : Ints l) : Ints (.int k n :: l) := fun v hv => by
  rcases List.mem_cons.1 hv with rfl | hv
  · exact ⟨_, _, rfl⟩
  · exact h v hv
theorem Ints.take {l : List Value} (h : Ints l) (n : Nat) : Ints (l.take n) := fun v hv => h v (List.mem_of_mem_take hv)
theorem ints_bytes (x b : Int) : Ints (bytesP x b) := ints_int ((ints_int (ints_int (ints_int (ints_int ints_nil)))).take _)
theorem bytes_len (x b : Int) : (bytesP x b).length ≤ 5 ∧ bytesP x b ≠ [] := by
  refine ⟨?_, by intro h; cases h⟩
  show (List.take _ (octL x)).length + 1 ≤ 5
  rw [List.length_take]; show min _ 4 + 1 ≤ 5; omega
theorem finB_facts (cs : List Value) : ∀ (k i : Nat) (ac : List Value), Ints ac → (ac ≠ [] ∨ 0 < k) → Ints (finB cs k i ac) ∧ finB cs k i ac ≠ [] ∧ (finB cs k i ac).length ≤ ac.length + 5 * k
  | 0, i, ac, h, hn => ⟨h, hn.elim id (fun h => absurd h (Nat.lt_irrefl 0)), by simp [finB]⟩
  | k + 1, i, ac, h, hn => by
    have hl := bytes_len (pA cs i) (pB cs i)
    obtain ⟨g1, g2, g3⟩ := finB_facts cs k (i + 1) (ac ++ bytesP (pA cs i) (pB cs i)) (h.app (ints_bytes _ _)) (.inl (by intro h; exact hl.2 (List.append_eq_nil_iff.1 h).2))
    rw [List.length_append] at g3
    exact ⟨g1, g2, by show (finB cs k (i + 1) _).length ≤ _; omega⟩
theorem finT_facts (cs : List Value) : ∀ (k i : Nat) (ac : List Value), Ints ac → (ac ≠ [] ∨ 0 < k) → Ints (finT cs k i ac) ∧ finT cs k i ac ≠ [] ∧ (finT cs k i ac).length = ac.length + 2 * k
  | 0, i, ac, h, hn => ⟨h, hn.elim id (fun h => absurd h (Nat.lt_irrefl 0)), by simp [finT]⟩
  | k + 1, i, ac, h, hn => by
    obtain ⟨g1, g2, g3⟩ := finT_facts cs k (i + 1) (ac ++ [.int .u32 (pA cs i), .int .i64 (pB cs i)]) (h.app (ints_int (ints_int ints_nil))) (.inl (by simp))
    rw [List.length_append] at g3
    exact ⟨g1, g2, by show (finT cs k (i + 1) _).length = _; simp only [List.length_cons, List.length_nil] at g3; omega⟩
end Go.Proofs.YtgmojlibppmfhaaDoor

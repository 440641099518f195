/- Runs of the abstract interpreter, part 45: by an AI agent. -/
import Derived.Test.YtgmojlibppmfhaaDoorPart44

namespace Go.Proofs.YtgmojlibppmfhaaDoor
open Go Go.Ai
theorem mN_le (n : Nat) : mN n ≤ n ∧ mN n ≤ 40 ∧ (0 < n → 0 < mN n) := by unfold mN; split <;> omega
theorem intAt_of {cs : List Value} {j : Nat} {k : IntKind} {x : Int} (h : cs[j]? = some (.int k x)) : intAt cs j = x := by unfold intAt; rw [h]
theorem at0 (i : Nat) : 0 + (i : Int).toNat * 2 + 0 = 2 * i := by omega
theorem at1 (i : Nat) : 0 + (i : Int).toNat * 2 + 1 = 2 * i + 1 := by omega
theorem pair_at {l : List (Int × Int)} {i : Nat} {p : Int × Int} (h : l[i]? = some p) : isA (pairC .u32 .i64 l) i ∧ isB (pairC .u32 .i64 l) i ∧ pA (pairC .u32 .i64 l) i = p.1 ∧ pB (pairC .u32 .i64 l) i = p.2 := by
  obtain ⟨h1, h2⟩ := pairC_get .u32 .i64 l i p h
  have ea : pA (pairC .u32 .i64 l) i = p.1 := by unfold pA; rw [at0]; exact intAt_of h1
  have eb : pB (pairC .u32 .i64 l) i = p.2 := by unfold pB; rw [at1]; exact intAt_of h2
  refine ⟨?_, ?_, ea, eb⟩
  · unfold isA; rw [ea, at0]; exact h1
  · unfold isB; rw [eb, at1]; exact h2
theorem rows_pair {l : List (Int × Int)} {n : Nat} (hn : n ≤ l.length) (hp : ∀ p ∈ l, 0 ≤ p.1 ∧ p.1 < 4294967296) : RowsOf (pairC .u32 .i64 l) n := by
  have each : ∀ i < n, ∃ p ∈ l, l[i]? = some p := fun i hi => ⟨l[i], List.getElem_mem _, List.getElem?_eq_getElem (by omega)⟩
  refine ⟨Ints.pair l, fun i hi => ?_, fun i hi => ?_, fun i hi => ?_, fun i hi => ?_⟩ <;> obtain ⟨p, hm, h⟩ := each i hi <;> obtain ⟨h1, h2, h3, h4⟩ := pair_at h
  · exact h1
  · exact h2
  · rw [h3]; exact (hp p hm).1
  · rw [h3]; exact (hp p hm).2
def psOf (cs : List Value) : Nat → Nat → List (Int × Int)
  | 0, _ => []
  | k + 1, i => (pA cs i, pB cs i) :: psOf cs k (i + 1)
theorem finT_is (cs : List Value) : ∀ (k i : Nat) (ac : List Value), finT cs k i ac = ac ++ pairC .u32 .i64 (psOf cs k i)
  | 0, i, ac => by simp [finT, psOf, pairC]
  | k + 1, i, ac => by
    rw [finT, finT_is cs k (i + 1), psOf, pairC, List.append_assoc]; rfl
theorem psOf_len (cs : List Value) : ∀ k i, (psOf cs k i).length = k
  | 0, _ => rfl
  | k + 1, i => by simp [psOf, psOf_len cs k (i + 1)]
theorem psOf_get (cs : List Value) : ∀ (k i j : Nat), j < k → (psOf cs k i)[j]? = some (pA cs (i + j), pB cs (i + j))
  | 0, _, _, h => absurd h (Nat.not_lt_zero _)
  | k + 1, i, 0, _ => rfl
  | k + 1, i, j + 1, h => by
    rw [psOf, List.getElem?_cons_succ, psOf_get cs k (i + 1) j (by omega), show i + 1 + j = i + (j + 1) by omega]
theorem finB_congr (cs cs' : List Value) : ∀ (k i : Nat) (ac : List Value), (∀ j, i ≤ j → j < i + k → pA cs j = pA cs' j ∧ pB cs j = pB cs' j) → finB cs k i ac = finB cs' k i ac
  | 0, _, _, _ => rfl
  | k + 1, i, ac, h => by
    rw [finB, finB, (h i (Nat.le_refl _) (by omega)).1, (h i (Nat.le_refl _) (by omega)).2]
    exact finB_congr cs cs' k (i + 1) _ fun j h1 h2 => h j (by omega) (by omega)
theorem bytes_u8 (x b : Int) : AllB (bytesP x b) := fun v hv => by
  rcases List.mem_cons.1 hv with rfl | hv
  · exact ⟨_, rfl⟩
  · have hv := List.mem_of_mem_take hv
    simp only [octL, List.mem_cons, List.not_mem_nil, or_false] at hv
    rcases hv with rfl | rfl | rfl | rfl <;> exact ⟨_, rfl⟩
theorem finB_u8 (cs : List Value) : ∀ (k i : Nat) (ac : List Value), AllB ac → AllB (finB cs k i ac)
  | 0, _, _, h => h
  | k + 1, i, _, h => finB_u8 cs k (i + 1) _ fun v hv => (List.mem_append.1 hv).elim (h v) (bytes_u8 _ _ v)
section
variable {l : List (Int × Int)} {n : Nat}
/-- what holds of the law's list -/
structure Lst (l : List (Int × Int)) (n : Nat) : Prop where
  n0 : 0 < n
  n1 : n ≤ l.length
  n2 : l.length ≤ 9223372036854775807
  r : ∀ p ∈ l, 0 ≤ p.1 ∧ p.1 < 4294967296
theorem Lst.rows (h : Lst l n) : RowsOf (pairC .u32 .i64 l) (mN n) := rows_pair (by have := mN_le n; have := h.n1; omega) h.r
theorem Lst.fin5 (_ : Lst l n) : fin5 (xL (pairC .u32 .i64 l) n) = pairC .u32 .i64 (psOf (pairC .u32 .i64 l) (mN n) 0) := by
  show finT _ (mN n - 0) 0 [] = _; rw [finT_is]; rfl
theorem Lst.r5 (h : Lst l n) (c : Nat) : r5 (pairC .u32 .i64 l) n c = pairC .u32 .i64 (psOf (pairC .u32 .i64 l) (mN n) 0) := by
  unfold Go.Proofs.YtgmojlibppmfhaaDoor.r5; rw [h.fin5, (Ints.pair _).ren]
theorem Lst.len5 (h : Lst l n) : (Go.Proofs.YtgmojlibppmfhaaDoor.fin5 (xL (pairC .u32 .i64 l) n)).length / 2 = mN n := by
  rw [h.fin5, pairC_len, psOf_len]; omega
theorem Lst.at5 (h : Lst l n) (c : Nat) {i : Nat} (hi : i < mN n) : pA (Go.Proofs.YtgmojlibppmfhaaDoor.r5 (pairC .u32 .i64 l) n c) i = pA (pairC .u32 .i64 l) i ∧ pB (Go.Proofs.YtgmojlibppmfhaaDoor.r5 (pairC .u32 .i64 l) n c) i = pB (pairC .u32 .i64 l) i := by
  have hg := psOf_get (pairC .u32 .i64 l) (mN n) 0 i hi
  obtain ⟨_, _, h3, h4⟩ := pair_at hg
  rw [h.r5]
  rw [Nat.zero_add] at h3 h4
  exact ⟨h3, h4⟩
theorem Lst.rows5 (h : Lst l n) (c : Nat) : RowsOf (Go.Proofs.YtgmojlibppmfhaaDoor.r5 (pairC .u32 .i64 l) n c) (mN n) := by
  rw [h.r5]
  refine rows_pair (by rw [psOf_len]; exact Nat.le_refl _) fun p hp => ?_
  obtain ⟨i, hi, e⟩ := List.getElem_of_mem hp
  rw [psOf_len] at hi
  have hg := psOf_get (pairC .u32 .i64 l) (mN n) 0 i hi
  rw [List.getElem?_eq_getElem (by rw [psOf_len]; exact hi), Option.some.injEq] at hg
  rw [← e, hg]
  exact ⟨h.rows.a0 _ (by omega), h.rows.a1 _ (by omega)⟩
theorem Lst.preO (h : Lst l n) (c : Nat) : PreO (x6 (pairC .u32 .i64 l) n c) := by
  have e := h.len5
  have hm := mN_le n
  have h0 := hm.2.2 h.n0
  refine ⟨?_, ?_, ?_, Nat.zero_le _, ints_nil, Nat.le_refl _, fun _ => rfl⟩
  · show RowsOf _ ((Go.Proofs.YtgmojlibppmfhaaDoor.fin5 _).length / 2); rw [e]; exact h.rows5 c
  · show 0 < (Go.Proofs.YtgmojlibppmfhaaDoor.fin5 _).length / 2; omega
  · show (Go.Proofs.YtgmojlibppmfhaaDoor.fin5 _).length / 2 ≤ 1000; omega
theorem Lst.fin26 (h : Lst l n) (c : Nat) : fin25 (x6 (pairC .u32 .i64 l) n c) = fin25 (xL (pairC .u32 .i64 l) n) := by
  show finB _ ((Go.Proofs.YtgmojlibppmfhaaDoor.fin5 _).length / 2 - 0) 0 [] = finB _ (mN n - 0) 0 []
  rw [h.len5]
  exact finB_congr _ _ _ _ _ fun j _ hj => h.at5 c (by omega)
theorem Lst.ints25 (h : Lst l n) : Ints (fin25 (xL (pairC .u32 .i64 l) n)) := (finB_facts _ (mN n - 0) 0 [] ints_nil (.inr (by have := (mN_le n).2.2 h.n0; omega))).1
theorem Lst.u8 (_ : Lst l n) : AllB (fin25 (xL (pairC .u32 .i64 l) n)) := finB_u8 _ _ _ _ (fun v hv => by cases hv)
theorem Lst.r25 (h : Lst l n) (c : Nat) : r25 (pairC .u32 .i64 l) n c = fin25 (xL (pairC .u32 .i64 l) n) := h.ints25.ren _
theorem Lst.r26 (h : Lst l n) (c : Nat) : r26 (pairC .u32 .i64 l) n c = fin25 (xL (pairC .u32 .i64 l) n) := by
  unfold Go.Proofs.YtgmojlibppmfhaaDoor.r26; rw [h.fin26]; exact h.ints25.ren _
theorem sub_all {l : List Value} {n : Nat} (h : AllB l) : AllB (sub l 0 n) := fun v hv => h v (List.mem_of_mem_take (by simpa [sub] using hv))
/-- the caller's row fits -/
theorem fit_row {hp : T AObj} {cs : List Value} {c : Nat} (hg : hp.get 11 = some (.row 31 cs false false)) (hf : Ints cs) (hc : c ≤ 9223372036854775807) (hl : cs.length = 2 * c) : FitO cx 11 11 (rhL c) hp (11, rowQ 31 cs) :=
  ⟨Nat.le_refl _, 31, cs, cs, false, false, 2, rfl, hg, by kernel_rfl, by decide, hf.flat, by simp, by simp, .inr ⟨by
    show isOpen c = false
    unfold isOpen; exact ble_no (by omega), by show 0 + c * 2 ≤ cs.length; omega, by show cs.length ≤ c * 2; omega, hc⟩⟩
theorem look1 {hp : T AObj} {c : Nat} {cs : List Value} (h : lookR hp (rhL c) = osL cs) : hp.get 11 = some (.row 31 cs false false) := by
  have h : [hp.get 11] = [some (AObj.row 31 cs false false)] := h
  simpa using h
theorem fit_v (c n : Nat) (all : Objs) (h : hasKey all 11 = true) : FitV 11 all (rhL c) (slV (mN n)) (slL n c) := .inr ⟨11, 11, 0, c - 0, mN n, rfl, Nat.le_refl _, h, rfl, rfl⟩
end
end Go.Proofs.YtgmojlibppmfhaaDoor

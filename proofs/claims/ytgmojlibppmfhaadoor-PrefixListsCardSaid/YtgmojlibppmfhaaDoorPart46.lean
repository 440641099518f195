/- Runs of the abstract interpreter, part 46: by an AI agent. -/
import Derived.Test.YtgmojlibppmfhaaDoorPart45

namespace Go.Proofs.YtgmojlibppmfhaaDoor
open Go Go.Ai
section
variable {l : List (Int × Int)} {n : Nat}
theorem Lst.fit5 (h : Lst l n) : FitS cx 11 A5.ml (xL (pairC .u32 .i64 l) n) (rhL l.length) [.slice none 0 0, slL n l.length, .int .i64 0] (osL (pairC .u32 .i64 l)) := fun _ hl =>
  ⟨⟨fit_row (look1 hl) (Ints.pair l) h.n2 (pairC_len _ _ l), trivial⟩, ⟨.inl ⟨rfl, rfl⟩, fit_v _ _ _ rfl, .inl ⟨rfl, rfl⟩, trivial⟩, rfl⟩
theorem Lst.fit25 (h : Lst l n) : FitS cx 11 A25.ml (xL (pairC .u32 .i64 l) n) (rhL l.length) [.slice none 0 0, slL n l.length, .int .i64 (mN n : Int), .int .i64 0] (osL (pairC .u32 .i64 l)) := fun _ hl =>
  ⟨⟨fit_row (look1 hl) (Ints.pair l) h.n2 (pairC_len _ _ l), trivial⟩, ⟨.inl ⟨rfl, rfl⟩, fit_v _ _ _ rfl, .inl ⟨rfl, rfl⟩, .inl ⟨rfl, rfl⟩, trivial⟩, rfl⟩
theorem Lst.fit78 (h : Lst l n) {outs : List Tmp} {pre : S78 → Prop} {ex : Ex} {rv : S78 → List Value} : FitS cx 11 (L78 outs pre ex rv) (yL (pairC .u32 .i64 l) n) (rhL l.length) [slL n l.length, .func (.func 59) #[] #[], .int .i64 (mN n : Int), .int .i64 0] (osL (pairC .u32 .i64 l)) := fun _ hl =>
  ⟨⟨fit_row (look1 hl) (Ints.pair l) h.n2 (pairC_len _ _ l), trivial⟩, ⟨fit_v _ _ _ rfl, .inl ⟨rfl, rfl⟩, .inl ⟨rfl, rfl⟩, .inl ⟨rfl, rfl⟩, trivial⟩, rfl⟩
theorem fit6 (hI : Ints (r5 (pairC .u32 .i64 l) n l.length)) {outs : List Tmp} {pre : AX → Prop} {ex : Ex} {rv : AX → List Value} {ro : AX → Objs} :
    FitS cx 11 (AP.ml ⟨c26, 50, [4, 0, 5], outs, 35, 5, 1, false, restO, pre, ex, rv, ro, getO⟩) (x6 (pairC .u32 .i64 l) n l.length) rh6 [.slice none 0 0, .slice (some ⟨12, 0, none⟩) ((fin5 (xL (pairC .u32 .i64 l) n)).length / 2) openCap, .int .i64 0] [some (.row 35 (r5 (pairC .u32 .i64 l) n l.length) true true)] := fun hp hl => by
  have hl : [hp.get 12] = [some (AObj.row 35 (r5 (pairC .u32 .i64 l) n l.length) true true)] := hl
  have hg : hp.get 12 = some (AObj.row 35 (r5 (pairC .u32 .i64 l) n l.length) true true) := by simpa using hl
  exact ⟨⟨⟨Nat.le_refl _, 35, _, _, true, true, 2, rfl, hg, by kernel_rfl, by decide, hI.flat, (by show r5 _ _ _ = ((r5 _ _ _).drop 0).take (r5 _ _ _).length; simp), (by show 0 + (r5 _ _ _).length ≤ (r5 _ _ _).length; omega), .inl ⟨by kernel_rfl, rfl, by simp, Nat.le_refl _⟩⟩, trivial⟩,
    ⟨.inl ⟨rfl, rfl⟩, .inr ⟨11, 12, 0, openCap, _, rfl, Nat.le_refl _, rfl, rfl, rfl⟩, .inl ⟨rfl, rfl⟩, trivial⟩, rfl⟩
theorem Lst.open (h : Lst l n) : isOpen l.length = false := by unfold isOpen; exact ble_no (by have := h.n2; omega)
theorem Lst.dec (h : Lst l n) : decide ((0 : Int) ≤ (if (40 : Int) < (n : Int) then (40 : Int) else (n : Int)) ∧ (if (40 : Int) < (n : Int) then (40 : Int) else (n : Int)) ≤ (l.length : Int)) = true := decide_eq_true (by have := h.n1; split <;> omega)
theorem Lst.beq (h : Lst l n) : Nat.beq l.length 0 = false := by
  cases hb : Nat.beq l.length 0 with
  | false => rfl
  | true => have := Nat.eq_of_beq_eq_true hb; have := h.n0; have := h.n1; omega
theorem Lst.pre5 (h : Lst l n) : Pre5 (xL (pairC .u32 .i64 l) n) := by
  have hm := mN_le n
  exact ⟨h.rows, hm.2.2 h.n0, by show mN n ≤ 1000; omega, Nat.zero_le _, ints_nil, rfl⟩
theorem Lst.pre78 (h : Lst l n) : Pre78 (yL (pairC .u32 .i64 l) n) := by
  have hm := mN_le n
  exact ⟨h.rows, by show mN n ≤ 1000; omega, Nat.zero_le _⟩
theorem Lst.pre25 (h : Lst l n) (hM : ∀ i < mN n, mayF (pA (pairC .u32 .i64 l) i) (pB (pairC .u32 .i64 l) i) = true) : Pre25 (xL (pairC .u32 .i64 l) n) := by
  have hm := mN_le n
  exact ⟨h.rows, hM, hm.2.2 h.n0, by show mN n ≤ 1000; omega, Nat.zero_le _, ints_nil, Nat.le_refl _, fun _ => rfl⟩
theorem Lst.same (h : Lst l n) (c : Nat) : sameB (pairC .u32 .i64 l) n c := by
  unfold sameB n25 n26; rw [h.r25, h.r26, h.fin26]; exact decide_eq_true rfl
theorem LA (h : Lst l n) (hM : ∀ i < mN n, mayF (pA (pairC .u32 .i64 l) i) (pB (pairC .u32 .i64 l) i) = true) :
    ∃ st', call cx ovbA 1000 5 [.slice (some ⟨11, 0, none⟩) n l.length] (stL (pairC .u32 .i64 l)) = some (.bool true, st') := by
  have e := h.len5
  have s := h.same l.length
  refine path_call refbA (LA_run (pairC .u32 .i64 l) n l.length) ⟨rfl, s, s, s, s, ?_, ?_, ?_, ?_, fit6 (h.rows5 _).ints, ⟨h.preO _, fun i hi => ?_⟩, rfl, h.fit25, h.pre25 hM, rfl, h.fit78, ⟨h.pre78, hM⟩, rfl, h.fit5, h.pre5, rfl, h.beq, h.dec, h.open, trivial⟩
  · rw [h.r26]; exact sub_all h.u8
  · unfold n26; rw [h.r26, h.fin26]; exact Nat.ble_eq_true_of_le (by omega)
  · rw [h.r25]; exact sub_all h.u8
  · unfold n25; rw [h.r25]; exact Nat.ble_eq_true_of_le (by omega)
  · have hi : i < (fin5 (xL (pairC .u32 .i64 l) n)).length / 2 := hi
    show mayF (pA (r5 _ _ _) i) (pB (r5 _ _ _) i) = true
    rw [(h.at5 _ (by omega)).1, (h.at5 _ (by omega)).2]
    exact hM i (by omega)
theorem LB (h : Lst l n) {j : Nat} (hj : j < mN n) (hM : mayF (pA (pairC .u32 .i64 l) j) (pB (pairC .u32 .i64 l) j) = false) :
    ∃ st', call cx ovbB 1000 5 [.slice (some ⟨11, 0, none⟩) n l.length] (stL (pairC .u32 .i64 l)) = some (.bool true, st') := by
  have e := h.len5
  refine path_call refbB (LB_run (pairC .u32 .i64 l) n l.length) ⟨rfl, fit6 (h.rows5 _).ints, ⟨h.preO _, j, Nat.zero_le _, ?_, ?_⟩, rfl, decide_eq_true (by omega), h.fit78, ⟨h.pre78, j, Nat.zero_le _, hj, hM⟩, rfl, h.fit5, h.pre5, rfl, h.beq, h.dec, h.open, trivial⟩
  · show j < (fin5 (xL (pairC .u32 .i64 l) n)).length / 2; omega
  · show mayF (pA (r5 _ _ _) j) (pB (r5 _ _ _) j) = false
    rw [(h.at5 _ hj).1, (h.at5 _ hj).2]; exact hM
theorem LN (cs : List Value) {c : Nat} (hc : c ≤ 9223372036854775807) : ∃ st', call cx ovb1 1000 5 [.slice (some ⟨11, 0, none⟩) 0 c] (stL cs) = some (.bool true, st') := by
  have ho : isOpen c = false := by unfold isOpen; exact ble_no (by omega)
  cases hb : Nat.beq c 0 with
  | true => exact path_call refb1 (LN_run cs c) ⟨rfl, hb, decide_eq_true (by omega), ho, trivial⟩
  | false => exact path_call refb1 (LN1_run cs c) ⟨rfl, hb, decide_eq_true (by omega), ho, trivial⟩
theorem LM : ∃ st', call cx ovb1 1000 5 [.slice none 0 0] stT = some (.bool true, st') := path_call refb1 LM_run ⟨rfl, trivial⟩
end
end Go.Proofs.YtgmojlibppmfhaaDoor

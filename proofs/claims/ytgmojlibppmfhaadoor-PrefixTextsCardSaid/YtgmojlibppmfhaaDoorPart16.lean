/- Runs of the abstract interpreter, part 16: by an AI agent. -/
import Derived.Test.YtgmojlibppmfhaaDoorPart15

namespace Go.Proofs.YtgmojlibppmfhaaDoor
open Go Go.Ai
/-! ### prefix.number -/
def fit93 (s : ByteArray) : Prop := FitS cx 11 L93 (sB s, 0, 0) [(11, .id 13)] [.int .i64 0, .slice (some ⟨13, 0, none⟩) s.size openCap, .int .i64 s.size, .int .i64 0] [some (rowB s)]
theorem fit93_ok (s : ByteArray) : fit93 s := fun hp h => by
  have h : hp.get 13 = some (rowB s) := by simpa [lookR, RB.blk] using h
  refine ⟨⟨⟨true, ?_, fun _ => rfl⟩, trivial⟩, ?_, by kernel_rfl⟩
  · rw [h]
    show some (rowB s) = some (reWr true (renO _ (rowB (sB s))))
    rw [renO_rowB, sB_eq]
  · refine ⟨.inl ⟨rfl, rfl⟩, .inl ⟨?_, by kernel_rfl⟩, .inl ⟨?_, rfl⟩, .inl ⟨rfl, rfl⟩, trivial⟩
    · show Value.slice (some ⟨13, 0, none⟩) s.size openCap = ren _ (.slice (some ⟨11, 0, none⟩) (sB s).size openCap)
      rw [sB_eq]; kernel_rfl
    · show Value.int .i64 s.size = ren _ (.int .i64 (sB s).size)
      rw [sB_eq]; rfl
def A48_0 (s : ByteArray) : List Prop := [(eqS s ⟨⟨[]⟩⟩) = true, (eqS s ⟨⟨[]⟩⟩) = true, (eqS s ⟨⟨[]⟩⟩) = true, (eqS s ⟨⟨[]⟩⟩) = true]
theorem F48_0 (s : ByteArray) (h : Holds (A48_0 s)) : ∃ st', Go.Ai.call cx ovq1 1000 48 [.string s] ⟨keepIds st0.hp [], st0.ct⟩ = some (Value.tuple { toList := [Value.int IntKind.i64 (0 : Int), Value.bool false] }, st') :=
  path_call refq1 (toks := [.yes, .yes, .yes, .yes] ++ List.replicate 11 .ev) (by kernel_rfl) h
def A48_1 (s : ByteArray) : List Prop := [(decide ((s.size : Int) > (10 : Int))) = true, (decide ((s.size : Int) > (10 : Int))) = true, (decide ((s.size : Int) > (10 : Int))) = true, (decide ((s.size : Int) > (10 : Int))) = true, (eqS s ⟨⟨[]⟩⟩) = false, (eqS s ⟨⟨[]⟩⟩) = false, (eqS s ⟨⟨[]⟩⟩) = false, (eqS s ⟨⟨[]⟩⟩) = false]
theorem F48_1 (s : ByteArray) (h : Holds (A48_1 s)) : ∃ st', Go.Ai.call cx ovq1 1000 48 [.string s] ⟨keepIds st0.hp [], st0.ct⟩ = some (Value.tuple { toList := [Value.int IntKind.i64 (0 : Int), Value.bool false] }, st') :=
  path_call refq1 (toks := [.no, .no, .no, .no, .yes, .yes, .yes, .yes, .ev, .ev, .ev, .ev, .ev, .ev, .ev]) (by kernel_rfl) h
def A48_2 (s : ByteArray) : List Prop := [(!eqS (tT s) ⟨⟨[]⟩⟩) = true, (!eqS (tT s) ⟨⟨[]⟩⟩) = true, (!eqS (tT s) ⟨⟨[]⟩⟩) = true, (!eqS (tT s) ⟨⟨[]⟩⟩) = true, (!eqS (tT s) ⟨⟨[]⟩⟩) = true, (!eqS (tT s) ⟨⟨[]⟩⟩) = true, (decide ((s.size : Int) > (10 : Int))) = false, (decide ((s.size : Int) > (10 : Int))) = false, fit89 s, L89.pre (tR s.size s), L89.c = L89.c, fit90 s, L90.pre s, L90.c = L90.c, (eqS s ⟨⟨[]⟩⟩) = false, (eqS s ⟨⟨[]⟩⟩) = false, (eqS s ⟨⟨[]⟩⟩) = false, (decide ((s.size : Int) > (10 : Int))) = false, (decide ((s.size : Int) > (10 : Int))) = false, (eqS s ⟨⟨[]⟩⟩) = false, (eqS s ⟨⟨[]⟩⟩) = false, (eqS s ⟨⟨[]⟩⟩) = false, (eqS s ⟨⟨[]⟩⟩) = false]
theorem F48_2 (s : ByteArray) (h : Holds (A48_2 s)) : ∃ st', Go.Ai.call cx ovq1 1000 48 [.string s] ⟨keepIds st0.hp [], st0.ct⟩ = some (Value.tuple { toList := [Value.int IntKind.i64 (0 : Int), Value.bool false] }, st') :=
  path_call refq1 (toks := [.no, .no, .no, .no, .no, .no, .no, .no, .no] ++ List.replicate 83 .ev ++ [.no, .no, .yes, .yes, .yes, .yes, .yes, .yes, .ev]) (by kernel_rfl) h
def A48_3 (s : ByteArray) : List Prop := [(byteAt s (0 : Nat) == (48 : Int)) = true, (!eqS (tT s) ⟨⟨[]⟩⟩) = false, (decide ((s.size : Int) > (1 : Int))) = true, (!eqS (tT s) ⟨⟨[]⟩⟩) = false, (decide ((s.size : Int) > (1 : Int))) = true, (decide ((0 : Int) ≤ (0 : Int) ∧ (0 : Int) < (s.size : Int))) = true, (decide ((s.size : Int) > (1 : Int))) = true, (decide ((s.size : Int) > (1 : Int))) = true, (!eqS (tT s) ⟨⟨[]⟩⟩) = false, (!eqS (tT s) ⟨⟨[]⟩⟩) = false, (!eqS (tT s) ⟨⟨[]⟩⟩) = false, (!eqS (tT s) ⟨⟨[]⟩⟩) = false, (decide ((s.size : Int) > (10 : Int))) = false, (decide ((s.size : Int) > (10 : Int))) = false, fit89 s, L89.pre (tR s.size s), L89.c = L89.c, fit90 s, L90.pre s, L90.c = L90.c, (eqS s ⟨⟨[]⟩⟩) = false, (eqS s ⟨⟨[]⟩⟩) = false, (eqS s ⟨⟨[]⟩⟩) = false, (decide ((s.size : Int) > (10 : Int))) = false, (decide ((s.size : Int) > (10 : Int))) = false, (eqS s ⟨⟨[]⟩⟩) = false, (eqS s ⟨⟨[]⟩⟩) = false, (eqS s ⟨⟨[]⟩⟩) = false, (eqS s ⟨⟨[]⟩⟩) = false]
theorem F48_3 (s : ByteArray) (h : Holds (A48_3 s)) : ∃ st', Go.Ai.call cx ovq1 1000 48 [.string s] ⟨keepIds st0.hp [], st0.ct⟩ = some (Value.tuple { toList := [Value.int IntKind.i64 (0 : Int), Value.bool false] }, st') :=
  path_call refq1 (toks := [.no, .no, .no, .no, .no, .no, .no, .no, .no] ++ List.replicate 83 .ev ++ [.no, .no, .no, .no, .no, .no, .yes, .yes, .yes, .yes, .no, .yes, .no, .yes]) (by kernel_rfl) h
def A48_4 (s : ByteArray) : List Prop := [(byteAt s (0 : Nat) == (45 : Int)) = false, (decide ((0 : Int) ≤ (0 : Int) ∧ (0 : Int) < (s.size : Int))) = true, fit93 s, L93.pre (sB s, 0, 0), L93.c = L93.c, (s.size.ble (70368744177664 : Nat)) = true, (byteAt s (0 : Nat) == (43 : Int)) = false, (byteAt s (0 : Nat) == (45 : Int)) = false, (byteAt s (0 : Nat) == (45 : Int)) = false, (decide ((0 : Int) ≤ (0 : Int) ∧ (0 : Int) < (s.size : Int))) = true, (byteAt s (0 : Nat) == (45 : Int)) = false, (byteAt s (0 : Nat) == (45 : Int)) = false, (decide ((0 : Int) ≤ (0 : Int) ∧ (0 : Int) < (s.size : Int))) = true, (decide ((s.size : Int) < (19 : Int))) = true, (decide ((0 : Int) < (s.size : Int))) = true, (decide ((0 : Int) < (s.size : Int))) = true, (decide ((0 : Int) < (s.size : Int))) = true, (!eqS (tT s) ⟨⟨[]⟩⟩) = false, (decide ((s.size : Int) > (1 : Int))) = false, (!eqS (tT s) ⟨⟨[]⟩⟩) = false, (decide ((s.size : Int) > (1 : Int))) = false, (decide ((s.size : Int) > (1 : Int))) = false, (decide ((s.size : Int) > (1 : Int))) = false, (!eqS (tT s) ⟨⟨[]⟩⟩) = false, (!eqS (tT s) ⟨⟨[]⟩⟩) = false, (!eqS (tT s) ⟨⟨[]⟩⟩) = false, (!eqS (tT s) ⟨⟨[]⟩⟩) = false, (decide ((s.size : Int) > (10 : Int))) = false, (decide ((s.size : Int) > (10 : Int))) = false, fit89 s, L89.pre (tR s.size s), L89.c = L89.c, fit90 s, L90.pre s, L90.c = L90.c, (eqS s ⟨⟨[]⟩⟩) = false, (eqS s ⟨⟨[]⟩⟩) = false, (eqS s ⟨⟨[]⟩⟩) = false, (decide ((s.size : Int) > (10 : Int))) = false, (decide ((s.size : Int) > (10 : Int))) = false, (eqS s ⟨⟨[]⟩⟩) = false, (eqS s ⟨⟨[]⟩⟩) = false, (eqS s ⟨⟨[]⟩⟩) = false, (eqS s ⟨⟨[]⟩⟩) = false]
theorem F48_4 (s : ByteArray) (h : Holds (A48_4 s)) : ∃ st', Go.Ai.call cx ovq1 1000 48 [.string s] ⟨keepIds st0.hp [], st0.ct⟩ = some (Value.tuple { toList := [Value.int IntKind.i64 (valN (sB s) ((sB s).size - 0) 0 0), Value.bool true] }, st') :=
  path_call refq1 (toks := [.no, .no, .no, .no, .no, .no, .no, .no, .no] ++ List.replicate 83 .ev ++ [.no, .no, .no, .no, .no, .no, .no, .no, .no, .no, .no, .no] ++ List.replicate 10 .ev ++ [.yes, .yes, .ev, .yes, .ev, .ev, .ev, .yes, .yes, .no, .no, .yes, .no, .no, .no, .yes, .ev, .yes, .no, .ev]) (by kernel_rfl) h
def A48_5 (s : ByteArray) : List Prop := [(byteAt s (0 : Nat) == (45 : Int)) = false, (decide ((0 : Int) ≤ (0 : Int) ∧ (0 : Int) < (s.size : Int))) = true, fit93 s, L93.pre (sB s, 0, 0), L93.c = L93.c, (s.size.ble (70368744177664 : Nat)) = true, (byteAt s (0 : Nat) == (43 : Int)) = false, (byteAt s (0 : Nat) == (45 : Int)) = false, (byteAt s (0 : Nat) == (45 : Int)) = false, (decide ((0 : Int) ≤ (0 : Int) ∧ (0 : Int) < (s.size : Int))) = true, (byteAt s (0 : Nat) == (45 : Int)) = false, (byteAt s (0 : Nat) == (45 : Int)) = false, (decide ((0 : Int) ≤ (0 : Int) ∧ (0 : Int) < (s.size : Int))) = true, (decide ((s.size : Int) < (19 : Int))) = true, (decide ((0 : Int) < (s.size : Int))) = true, (decide ((0 : Int) < (s.size : Int))) = true, (decide ((0 : Int) < (s.size : Int))) = true, (byteAt s (0 : Nat) == (48 : Int)) = false, (!eqS (tT s) ⟨⟨[]⟩⟩) = false, (decide ((s.size : Int) > (1 : Int))) = true, (!eqS (tT s) ⟨⟨[]⟩⟩) = false, (decide ((s.size : Int) > (1 : Int))) = true, (decide ((0 : Int) ≤ (0 : Int) ∧ (0 : Int) < (s.size : Int))) = true, (decide ((s.size : Int) > (1 : Int))) = true, (decide ((s.size : Int) > (1 : Int))) = true, (!eqS (tT s) ⟨⟨[]⟩⟩) = false, (!eqS (tT s) ⟨⟨[]⟩⟩) = false, (!eqS (tT s) ⟨⟨[]⟩⟩) = false, (!eqS (tT s) ⟨⟨[]⟩⟩) = false, (decide ((s.size : Int) > (10 : Int))) = false, (decide ((s.size : Int) > (10 : Int))) = false, fit89 s, L89.pre (tR s.size s), L89.c = L89.c, fit90 s, L90.pre s, L90.c = L90.c, (eqS s ⟨⟨[]⟩⟩) = false, (eqS s ⟨⟨[]⟩⟩) = false, (eqS s ⟨⟨[]⟩⟩) = false, (decide ((s.size : Int) > (10 : Int))) = false, (decide ((s.size : Int) > (10 : Int))) = false, (eqS s ⟨⟨[]⟩⟩) = false, (eqS s ⟨⟨[]⟩⟩) = false, (eqS s ⟨⟨[]⟩⟩) = false, (eqS s ⟨⟨[]⟩⟩) = false]
theorem F48_5 (s : ByteArray) (h : Holds (A48_5 s)) : ∃ st', Go.Ai.call cx ovq1 1000 48 [.string s] ⟨keepIds st0.hp [], st0.ct⟩ = some (Value.tuple { toList := [Value.int IntKind.i64 (valN (sB s) ((sB s).size - 0) 0 0), Value.bool true] }, st') :=
  path_call refq1 (toks := [.no, .no, .no, .no, .no, .no, .no, .no, .no] ++ List.replicate 83 .ev ++ [.no, .no, .no, .no, .no, .no, .yes, .yes, .yes, .yes, .no, .yes, .no, .no] ++ List.replicate 9 .ev ++ [.yes, .yes, .ev, .yes, .ev, .ev, .ev, .yes, .yes, .no, .no, .yes, .no, .no, .no, .yes, .ev, .yes, .no, .ev]) (by kernel_rfl) h
def digI (s : ByteArray) : Value := .tuple #[.int .i64 (digV s), .bool (digS s)]
theorem F48_all (s : ByteArray) (hm : s.size ≤ 9223372036854775807) : ∃ st', Go.Ai.call cx ovq1 1000 48 [.string s] ⟨keepIds st0.hp [], st0.ct⟩ = some (digI s, st') := by
  have bad (h : ¬ (1 ≤ s.size ∧ s.size ≤ 10 ∧ allD s ∧ (1 < s.size → byteAt s 0 ≠ 48))) : digI s = .tuple #[.int .i64 0, .bool false] := by
    have hd : digS s = false := by
      cases hq : digS s with
      | false => rfl
      | true => exact absurd (digS_iff.1 hq) h
    simp [digI, digV, hd]
  have good (h : 1 ≤ s.size ∧ s.size ≤ 10 ∧ allD s ∧ (1 < s.size → byteAt s 0 ≠ 48)) : digI s = .tuple #[.int .i64 (valN (sB s) ((sB s).size - 0) 0 0), .bool true] := by
    have hd : digS s = true := digS_iff.2 h
    simp [digI, digV, hd, sB_eq]
  have es : eqS s ⟨⟨[]⟩⟩ = decide (s.size = 0) := eqS_nil s
  by_cases h0 : s.size = 0
  · rw [decide_eq_true h0] at es
    rw [bad (by omega)]
    exact F48_0 s ⟨es, es, es, es, trivial⟩
  · rw [decide_eq_false h0] at es
    by_cases h1 : s.size ≤ 10
    · have l90 : L90.pre s := hm
      have l89 : L89.pre (tR s.size s) := Nat.le_trans (tR_size _ _) hm
      by_cases ha : allD s
      · have et : (!eqS (tT s) ⟨⟨[]⟩⟩) = false := by rw [(tT_nil s).2 ha]; rfl
        have l93 : L93.pre (sB s, 0, 0) := by
          rw [sB_eq]; exact ⟨ha, h1, Nat.zero_le _, Int.le_refl _, by show (0 : Int) < ((10 ^ 0 : Nat) : Int); decide⟩
        have d48 := of_decide_eq_true (ha 0 (by omega))
        have hb : Nat.ble s.size 70368744177664 = true := Nat.ble_eq.mpr (by omega)
        by_cases h2 : 1 < s.size
        · by_cases h3 : byteAt s 0 = 48
          · rw [bad (fun h => h.2.2.2 h2 h3)]
            exact F48_3 s ⟨beq_iff_eq.2 h3, et, decide_eq_true (by omega), et, decide_eq_true (by omega), decide_eq_true (by omega), decide_eq_true (by omega), decide_eq_true (by omega), et, et, et, et, decide_eq_false (by omega), decide_eq_false (by omega), fit89_ok s, l89, rfl, fit90_ok s, l90, rfl, es, es, es, decide_eq_false (by omega), decide_eq_false (by omega), es, es, es, es, trivial⟩
          · rw [good ⟨by omega, h1, ha, fun _ => h3⟩]
            exact F48_5 s ⟨beq_eq_false_iff_ne.2 (by omega), decide_eq_true (by omega), fit93_ok s, l93, rfl, hb, beq_eq_false_iff_ne.2 (by omega), beq_eq_false_iff_ne.2 (by omega), beq_eq_false_iff_ne.2 (by omega), decide_eq_true (by omega), beq_eq_false_iff_ne.2 (by omega), beq_eq_false_iff_ne.2 (by omega), decide_eq_true (by omega), decide_eq_true (by omega), decide_eq_true (by omega), decide_eq_true (by omega), decide_eq_true (by omega), beq_eq_false_iff_ne.2 h3, et, decide_eq_true (by omega), et, decide_eq_true (by omega), decide_eq_true (by omega), decide_eq_true (by omega), decide_eq_true (by omega), et, et, et, et, decide_eq_false (by omega), decide_eq_false (by omega), fit89_ok s, l89, rfl, fit90_ok s, l90, rfl, es, es, es, decide_eq_false (by omega), decide_eq_false (by omega), es, es, es, es, trivial⟩
        · rw [good ⟨by omega, h1, ha, fun h => absurd h h2⟩]
          exact F48_4 s ⟨beq_eq_false_iff_ne.2 (by omega), decide_eq_true (by omega), fit93_ok s, l93, rfl, hb, beq_eq_false_iff_ne.2 (by omega), beq_eq_false_iff_ne.2 (by omega), beq_eq_false_iff_ne.2 (by omega), decide_eq_true (by omega), beq_eq_false_iff_ne.2 (by omega), beq_eq_false_iff_ne.2 (by omega), decide_eq_true (by omega), decide_eq_true (by omega), decide_eq_true (by omega), decide_eq_true (by omega), decide_eq_true (by omega), et, decide_eq_false (by omega), et, decide_eq_false (by omega), decide_eq_false (by omega), decide_eq_false (by omega), et, et, et, et, decide_eq_false (by omega), decide_eq_false (by omega), fit89_ok s, l89, rfl, fit90_ok s, l90, rfl, es, es, es, decide_eq_false (by omega), decide_eq_false (by omega), es, es, es, es, trivial⟩
      · have et : (!eqS (tT s) ⟨⟨[]⟩⟩) = true := by
          cases hq : eqS (tT s) ⟨⟨[]⟩⟩ with
          | false => rfl
          | true => exact absurd ((tT_nil s).1 hq) ha
        rw [bad (fun h => ha h.2.2.1)]
        exact F48_2 s ⟨et, et, et, et, et, et, decide_eq_false (by omega), decide_eq_false (by omega), fit89_ok s, l89, rfl, fit90_ok s, l90, rfl, es, es, es, decide_eq_false (by omega), decide_eq_false (by omega), es, es, es, es, trivial⟩
    · rw [bad (by omega)]
      exact F48_1 s ⟨decide_eq_true (by omega), decide_eq_true (by omega), decide_eq_true (by omega), decide_eq_true (by omega), es, es, es, es, trivial⟩
def C48 : FC := ⟨48, fun l => ∃ s, l = [.string s] ∧ s.size ≤ 9223372036854775807, fun l => match l with | [.string s] => digI s | _ => undef, []⟩
theorem C48_good : C48.Good Tryd.prog ovq1 st0 := ⟨by kernel_rfl, fun args ⟨s, e, h⟩ => by subst e; exact ⟨rfl, rfl, 1000, F48_all s h⟩⟩
end Go.Proofs.YtgmojlibppmfhaaDoor

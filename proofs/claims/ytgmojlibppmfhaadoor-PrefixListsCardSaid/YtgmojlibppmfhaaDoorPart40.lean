/- Runs of the abstract interpreter, part 40: by an AI agent. -/
import Derived.Test.YtgmojlibppmfhaaDoorPart39

namespace Go.Proofs.YtgmojlibppmfhaaDoor
open Go Go.Ai
/-! ### the law's loop: the row for the reference -/
theorem R5_e (cs : List Value) (n i : Nat) (ac : List Value) : outM [3, 0, 4] [3] [12] (runO cx ovb1 ovOb1 1000 c5 51 (putT [3, 0, 4] [.slice (some ⟨12, 0, none⟩) (ac.length / 2) openCap, slV n, .int .i64 (i : Int)] .nil) ⟨over0 (keepIds st0.hp []) [(11, rowQ 31 cs), (12, rowP 35 ac)], 13⟩ ⟨[.no], []⟩) = some (.exit 0, [.slice (some ⟨12, 0, none⟩) (ac.length / 2) openCap], [some (rowP 35 ac)], [(decide ((i : Int) < (n : Int))) = false]) := by kernel_rfl
theorem R5_c (cs : List Value) (n i : Nat) (ac : List Value) : outM [3, 0, 4] [3] [11, 14] (runO cx ovb1 ovOb1 1000 c5 51 (putT [3, 0, 4] [.slice (some ⟨12, 0, none⟩) (ac.length / 2) openCap, slV n, .int .i64 (i : Int)] .nil) ⟨over0 (keepIds st0.hp []) [(11, rowQ 31 cs), (12, rowP 35 ac)], 13⟩ ⟨[.yes, .yes, .yes, .ev, .yes, .ev, .ev, .yes, .ev, .ev, .no, .yes, .yes, .yes], []⟩) = some (.normal, [.slice (some ⟨14, 0, none⟩) ((ac.length / 2 + 1)) openCap, slV n, .int .i64 ((i : Int) + 1)], [some (rowQ 31 cs), some (rowP 35 (ac ++ [Value.int .u32 (pA cs i), Value.int .i64 (pB cs i)]))], [(decide ((-9223372036854775808 : Int) ≤ (i : Int) + (1 : Int) ∧ (i : Int) + (1 : Int) ≤ (9223372036854775807 : Int))) = true, AllC [Value.int .u32 (pA cs i), Value.int .i64 (pB cs i)], AllC ac, (true && (ac.length / 2 * 2).beq ac.length) = true, ((0 + (ac.length / 2 + 1) * 2).ble ac.length) = false, ((0 + ac.length / 2 * 2).ble ac.length) = true, (((ac.length / 2 + 1) * 16).ble 70368744177664 && (ac.length / 2 + 1).ble 70368744177664) = true, CCV.pre [.agg { toList := [Value.int .u32 (pA cs i), Value.int .i64 (pB cs i)] }], isB cs i, isA cs i, (decide ((0 : Int) ≤ (i : Int) ∧ (i : Int) < (n : Int))) = true, (decide ((i : Int) < (n : Int))) = true]) := by kernel_rfl
theorem R5_n (cs : List Value) (n i : Nat) : outM [3, 0, 4] [3] [11, 14] (runO cx ovb1 ovOb1 1000 c5 51 (putT [3, 0, 4] [.slice none 0 0, slV n, .int .i64 (i : Int)] .nil) ⟨over0 (keepIds st0.hp []) [(11, rowQ 31 cs)], 13⟩ ⟨[.yes, .yes, .yes, .ev, .ev, .ev, .ev, .yes], []⟩) = some (.normal, [.slice (some ⟨14, 0, none⟩) (1) openCap, slV n, .int .i64 ((i : Int) + 1)], [some (rowQ 31 cs), some (rowP 35 ([Value.int .u32 (pA cs i), Value.int .i64 (pB cs i)]))], [(decide ((-9223372036854775808 : Int) ≤ (i : Int) + (1 : Int) ∧ (i : Int) + (1 : Int) ≤ (9223372036854775807 : Int))) = true, AllC [Value.int .u32 (pA cs i), Value.int .i64 (pB cs i)], CCV.pre [.agg { toList := [Value.int .u32 (pA cs i), Value.int .i64 (pB cs i)] }], isB cs i, isA cs i, (decide ((0 : Int) ≤ (i : Int) ∧ (i : Int) < (n : Int))) = true, (decide ((i : Int) < (n : Int))) = true]) := by kernel_rfl
structure Pre5 (x : AX) : Prop where
  rows : RowsOf x.cs x.n
  n0 : 0 < x.n
  n1 : x.n ≤ 1000
  i1 : x.j.1 ≤ x.n
  ints : Ints x.ac
  len : x.ac.length = 2 * x.j.1
def fin5 (x : AX) : List Value := finT x.cs (x.n - x.j.1) x.j.1 x.ac
noncomputable def A5 : AP := ⟨c5, 51, [3, 0, 4], [3], 31, 35, 2, false, fun x => [.int .i64 (x.j.1 : Int)], Pre5, .exit 0, fun x => [.slice (some ⟨13, 0, none⟩) ((fin5 x).length / 2) openCap], fun x => [(13, rowP 35 (fin5 x))], fun vs => match vs with | [.int _ i] => some (i.toNat, 0) | _ => none⟩
theorem A5_ok : A5.Ok ovb1 ovOb1 where
  ends := by intro h; cases h
  outs := of_decide_eq_true (by kernel_rfl)
  s1 := ⟨2, by kernel_rfl, by decide⟩
  ints := fun x hx => ⟨hx.rows.ints, hx.ints⟩
  tail := fun x hx => ⟨by
    show (true && rowIn _ (rowP 35 (fin5 x)) && true) = true
    rw [show rowIn _ (rowP 35 (fin5 x)) = true from (finT_facts x.cs (x.n - x.j.1) x.j.1 x.ac hx.ints (by
      by_cases h : x.ac = []
      · have h2 := hx.len; rw [h] at h2; simp only [List.length_nil] at h2; have := hx.n0; exact .inr (by omega)
      · exact .inl h)).1.inIds _]; rfl, by kernel_rfl⟩
  rest := fun x => ⟨rfl, fun ρ ρ' => ⟨.inl ⟨rfl, rfl⟩, trivial⟩⟩
  step := ⟨fun x => x.n - x.j.1, fun x hx => by
    obtain ⟨cs, n, ⟨i, u⟩, ac⟩ := x
    obtain ⟨hR, hn0, hn1, hi1, hI, hL⟩ := hx
    simp only at hR hn0 hn1 hi1 hI hL
    by_cases hi : i < n
    · have hk : n - i = (n - (i + 1)) + 1 := by omega
      have hfin (ac' : List Value) (h : ac' = ac ++ [.int .u32 (pA cs i), .int .i64 (pB cs i)]) : fin5 ⟨cs, n, (i + 1, u), ac'⟩ = fin5 ⟨cs, n, (i, u), ac⟩ := by
        show finT cs (n - (i + 1)) (i + 1) ac' = finT cs (n - i) i ac
        rw [hk, finT, h]
      have fin (id m : Nat) (toks : List An) (asm : List Prop) (ac' vs0 : List Value) (os0 : Objs) (h : ac' = ac ++ [.int .u32 (pA cs i), .int .i64 (pB cs i)]) (hid : id ≠ 11) (hm : m = ac'.length / 2) (ev : A5.hv ⟨cs, n, (i, u), ac⟩ = vs0) (eo : A5.ho ⟨cs, n, (i, u), ac⟩ = os0)
          (hr : outM [3, 0, 4] [3] [11, id] (runO cx ovb1 ovOb1 1000 c5 51 (putT [3, 0, 4] vs0 .nil) ⟨over0 (keepIds st0.hp []) os0, 13⟩ ⟨toks, []⟩) = some (.normal, [.slice (some ⟨id, 0, none⟩) m openCap, slV n, .int .i64 ((i : Int) + 1)], [some (rowQ 31 cs), some (rowP 35 ac')], asm)) (ha : Holds asm) :
          (∃ toks asm id m x', A5.Goes ovb1 ovOb1 (fun x => x.n - x.j.1) ⟨cs, n, (i, u), ac⟩ toks asm id m x') ∨ (∃ toks asm, A5.Ends ovb1 ovOb1 ⟨cs, n, (i, u), ac⟩ toks asm) := by
        have hne : ac' ≠ [] := by rw [h]; simp
        refine .inl ⟨toks, asm, id, m, ⟨cs, n, (i + 1, u), ac'⟩, ?_, ha, hm, hid, rfl, rfl, hne, ⟨hR, hn0, hn1, hi, ?_, ?_⟩, ?_, ?_, ?_⟩
        · exact run_eq (c := c5) (nt := 51) (keys := [3, 0, 4]) (outs := [3]) (by simp only [A5]) rfl rfl rfl ev eo hr
        · rw [h]; exact hI.app (ints_int (ints_int ints_nil))
        · show ac'.length = 2 * (i + 1); rw [h, List.length_append]; show _ + 2 = _; omega
        · show n - (i + 1) < n - i; omega
        · show [Value.slice _ ((fin5 _).length / 2) openCap] = [Value.slice _ ((fin5 _).length / 2) openCap]; rw [hfin _ h]
        · show [(13, rowP 35 (fin5 _))] = [(13, rowP 35 (fin5 _))]; rw [hfin _ h]
      by_cases hne : ac = []
      · subst hne
        exact fin 14 (1) _ _ ([Value.int .u32 (pA cs i), Value.int .i64 (pB cs i)]) _ _ rfl (by decide) (by kernel_rfl) rfl rfl (R5_n cs n i) ⟨(decide_eq_true (by omega)), ((allC_int (allC_int allC_nil))), ⟨_, _, rfl⟩, (hR.b i hi), (hR.a i hi), (decide_eq_true (by omega)), (decide_eq_true (by omega)), trivial⟩
      · have ea : A5.hv ⟨cs, n, (i, u), ac⟩ = [.slice (some ⟨12, 0, none⟩) (ac.length / 2) openCap, slV n, .int .i64 (i : Int)] := by
          show accV false 2 12 ac :: _ = _; rw [acc_cons hne]; rfl
        have eo : A5.ho ⟨cs, n, (i, u), ac⟩ = [(11, rowQ 31 cs), (12, rowP 35 ac)] := by
          show _ :: accO false 35 12 ac = _; rw [accO_cons hne]; rfl
        exact fin 14 ((ac.length / 2 + 1)) _ _ (ac ++ [Value.int .u32 (pA cs i), Value.int .i64 (pB cs i)]) _ _ rfl (by decide) (by simp only [List.length_append, List.length_cons, List.length_nil]; omega) ea eo (R5_c cs n i ac) ⟨(decide_eq_true (by omega)), ((allC_int (allC_int allC_nil))), hI.cells, (beq_ok (by omega)), (ble_no (by omega)), (Nat.ble_eq_true_of_le (by omega)), (two_ble (by omega) (by omega)), ⟨_, _, rfl⟩, (hR.b i hi), (hR.a i hi), (decide_eq_true (by omega)), (decide_eq_true (by omega)), trivial⟩
    · have ei : i = n := by omega
      have hne : ac ≠ [] := fun h => by rw [h] at hL; simp only [List.length_nil] at hL; omega
      have ea : A5.hv ⟨cs, n, (i, u), ac⟩ = [.slice (some ⟨12, 0, none⟩) (ac.length / 2) openCap, slV n, .int .i64 (i : Int)] := by
        show accV false 2 12 ac :: _ = _; rw [acc_cons hne]; rfl
      have eo : A5.ho ⟨cs, n, (i, u), ac⟩ = [(11, rowQ 31 cs), (12, rowP 35 ac)] := by
        show _ :: accO false 35 12 ac = _; rw [accO_cons hne]; rfl
      have ef : fin5 ⟨cs, n, (i, u), ac⟩ = ac := by show finT cs (n - i) i ac = ac; rw [show n - i = 0 by omega]; rfl
      refine .inr ⟨_, _, _, _, run_eq (c := c5) (nt := 51) (keys := [3, 0, 4]) (outs := [3]) (by simp only [A5]) rfl rfl rfl ea eo (R5_e cs n i ac), ⟨(decide_eq_false (by omega)), trivial⟩, .inl ⟨rfl, rfl, ?_, ?_⟩⟩
      · show [Value.slice _ ((fin5 _).length / 2) openCap] = _; rw [ef]; rfl
      · show [(13, rowP 35 (fin5 _))] = _; rw [ef]; rfl⟩
theorem L5_good : A5.ml.Good Tryd.prog ovb1 st0 := A5.good refb1 A5_ok
end Go.Proofs.YtgmojlibppmfhaaDoor

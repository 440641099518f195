/- Runs of the abstract interpreter, part 37: by an AI agent. -/
import Derived.Test.YtgmojlibppmfhaaDoorPart36

namespace Go.Proofs.YtgmojlibppmfhaaDoor
open Go Go.Ai
/-! ### the bytes of prefixes (the reference's): the inner loop -/
theorem R26i_e (cs : List Value) (n i k : Nat) (ac : List Value) : outM [4, 0, 5, 6] [4] [12] (runO cx ovb0 ovOb0 1000 c26i 50 (putT [4, 0, 5, 6] [.slice (some ⟨12, 0, none⟩) (ac.length / 1) openCap, slV n, .int .i64 (i : Int), .int .i64 (k : Int)] .nil) ⟨over0 (keepIds st0.hp []) [(11, rowQ 35 cs), (12, rowP 5 ac)], 13⟩ ⟨[.yes, .yes, .yes, .no], []⟩) = some (.exit 2, [.slice (some ⟨12, 0, none⟩) (ac.length / 1) openCap], [some (rowP 5 ac)], [(decide ((8 : Int) * (k : Int) < pB cs i)) = false, isB cs i, (decide ((0 : Int) ≤ (i : Int) ∧ (i : Int) < (n : Int))) = true, (decide ((-9223372036854775808 : Int) ≤ (8 : Int) * (k : Int) ∧ (8 : Int) * (k : Int) ≤ (9223372036854775807 : Int))) = true]) := by kernel_rfl
theorem R26i_c (cs : List Value) (n i k : Nat) (ac : List Value) : outM [4, 0, 5, 6] [4] [11, 14] (runO cx ovb0 ovOb0 1000 c26i 50 (putT [4, 0, 5, 6] [.slice (some ⟨12, 0, none⟩) (ac.length / 1) openCap, slV n, .int .i64 (i : Int), .int .i64 (k : Int)] .nil) ⟨over0 (keepIds st0.hp []) [(11, rowQ 35 cs), (12, rowP 5 ac)], 13⟩ ⟨[.yes, .yes, .yes, .yes, .yes, .yes, .yes, .ev, .yes, .ev, .ev, .yes, .ev, .ev, .no, .yes, .yes, .yes], []⟩) = some (.normal, [.slice (some ⟨14, 0, none⟩) ((ac.length / 1 + 1)) openCap, slV n, .int .i64 (i : Int), .int .i64 ((k : Int) + 1)], [some (rowQ 35 cs), some (rowP 5 (ac ++ [Value.int .u8 (octF (pA cs i) (k : Int))]))], [(decide ((-9223372036854775808 : Int) ≤ (k : Int) + (1 : Int) ∧ (k : Int) + (1 : Int) ≤ (9223372036854775807 : Int))) = true, AllC [Value.int .u8 (octF (pA cs i) (k : Int))], AllC ac, (true && (ac.length / 1 * 1).beq ac.length) = true, ((0 + (ac.length / 1 + 1) * 1).ble ac.length) = false, ((0 + ac.length / 1 * 1).ble ac.length) = true, (((ac.length / 1 + 1) * 1).ble 70368744177664 && (ac.length / 1 + 1).ble 70368744177664) = true, (decide ((0 : Int) ≤ octF (pA cs i) (k : Int) ∧ octF (pA cs i) (k : Int) ≤ (255 : Int))) = true, COC.pre [Value.int .u32 (pA cs i), Value.int .i64 (k : Int)], isA cs i, (decide ((0 : Int) ≤ (i : Int) ∧ (i : Int) < (n : Int))) = true, (decide ((8 : Int) * (k : Int) < pB cs i)) = true, isB cs i, (decide ((0 : Int) ≤ (i : Int) ∧ (i : Int) < (n : Int))) = true, (decide ((-9223372036854775808 : Int) ≤ (8 : Int) * (k : Int) ∧ (8 : Int) * (k : Int) ≤ (9223372036854775807 : Int))) = true]) := by kernel_rfl
theorem ints_octs (x b : Int) : ∀ f k, Ints (octsR x b f k) ∧ (octsR x b f k).length ≤ f
  | 0, k => ⟨ints_nil, Nat.le_refl _⟩
  | f + 1, k => by
    rw [octsR]
    split
    · exact ⟨ints_int (ints_octs x b f (k + 1)).1, Nat.succ_le_succ (ints_octs x b f (k + 1)).2⟩
    · exact ⟨ints_nil, Nat.zero_le _⟩
structure PreI (x : AX) : Prop where
  rows : RowsOf x.cs x.n
  i1 : x.j.1 < x.n
  n1 : x.n ≤ 1000
  b0 : 0 ≤ pB x.cs x.j.1 ∧ pB x.cs x.j.1 ≤ 32
  k1 : x.j.2 ≤ 4
  ints : Ints x.ac
  ne : x.ac ≠ []
  len : x.ac.length ≤ 100000
def finI (x : AX) : List Value := x.ac ++ octsR (pA x.cs x.j.1) (pB x.cs x.j.1) (5 - x.j.2) x.j.2
noncomputable def A26i : AP := ⟨c26i, 50, [4, 0, 5, 6], [4], 35, 5, 1, true, fun x => [.int .i64 (x.j.1 : Int), .int .i64 (x.j.2 : Int)], fun x => PreI x ∧ x.ac.length + (4 - x.j.2) ≤ 100000, .exit 2, fun x => [.slice (some ⟨13, 0, none⟩) ((finI x).length / 1) openCap], fun x => [(13, rowP 5 (finI x))], fun vs => match vs with | [.int _ i, .int _ k] => some (i.toNat, k.toNat) | _ => none⟩
theorem A26i_ok : A26i.Ok ovb0 ovOb0 where
  ends := by intro h; cases h
  outs := of_decide_eq_true (by kernel_rfl)
  s1 := ⟨2, by kernel_rfl, by decide⟩
  ints := fun x hx => ⟨hx.1.rows.ints, hx.1.ints⟩
  tail := fun x hx => ⟨by
    show (true && rowIn _ (rowP 5 (finI x)) && true) = true
    rw [show rowIn _ (rowP 5 (finI x)) = true from (hx.1.ints.app (ints_octs _ _ _ _).1).inIds _]; rfl, by kernel_rfl⟩
  rest := fun x => ⟨rfl, fun ρ ρ' => ⟨.inl ⟨rfl, rfl⟩, .inl ⟨rfl, rfl⟩, trivial⟩⟩
  step := ⟨fun x => 5 - x.j.2, fun x hx => by
    obtain ⟨cs, n, ⟨i, k⟩, ac⟩ := x
    obtain ⟨⟨hR, hi, hn1, hb, hk4, hI, hne, hL⟩, hL2⟩ := hx
    simp only at hR hn1 hi hI hL hb hk4 hne hL2
    have hb1 := hb.1
    have hb2 := hb.2
    have ea : A26i.hv ⟨cs, n, (i, k), ac⟩ = [.slice (some ⟨12, 0, none⟩) (ac.length / 1) openCap, slV n, .int .i64 (i : Int), .int .i64 (k : Int)] := by
      show accV true 1 12 ac :: _ = _; rw [acc_cons hne]; rfl
    have eo : A26i.ho ⟨cs, n, (i, k), ac⟩ = [(11, rowQ 35 cs), (12, rowP 5 ac)] := by
      show _ :: accO true 5 12 ac = _; rw [accO_cons hne]; rfl
    have hs : 5 - k = (5 - (k + 1)) + 1 := by omega
    by_cases hk : 8 * (k : Int) < pB cs i
    · have hfin : finI ⟨cs, n, (i, k + 1), ac ++ [Value.int .u8 (octF (pA cs i) (k : Int))]⟩ = finI ⟨cs, n, (i, k), ac⟩ := by
        show (ac ++ [Value.int .u8 (octF (pA cs i) (k : Int))]) ++ octsR (pA cs i) (pB cs i) (5 - (k + 1)) (k + 1) = ac ++ octsR (pA cs i) (pB cs i) (5 - k) k
        rw [hs, octsR, if_pos hk, List.append_assoc]; rfl
      have hl : (ac ++ [Value.int .u8 (octF (pA cs i) (k : Int))]).length = ac.length + 1 := by rw [List.length_append]; rfl
      have hn : (ac ++ [Value.int .u8 (octF (pA cs i) (k : Int))]) ≠ [] := by simp
      have hii : Ints (ac ++ [Value.int .u8 (octF (pA cs i) (k : Int))]) := hI.app (ints_int ints_nil)
      refine .inl ⟨_, _, 14, (ac.length / 1 + 1), ⟨cs, n, (i, k + 1), ac ++ [Value.int .u8 (octF (pA cs i) (k : Int))]⟩, run_eq (c := c26i) (nt := 50) (keys := [4, 0, 5, 6]) (outs := [4]) (by simp only [A26i]) rfl rfl rfl ea eo (R26i_c cs n i k ac), ⟨(decide_eq_true (by omega)), ((allC_int allC_nil)), hI.cells, (beq_ok (by omega)), (ble_no (by omega)), (Nat.ble_eq_true_of_le (by omega)), (two_ble (by omega) (by omega)), (decide_eq_true ⟨(octF_range _ _).1, by have := (octF_range (pA cs i) (k : Int)).2; omega⟩), ⟨_, _, rfl, hR.a0 i hi, hR.a1 i hi, by omega, by omega⟩, (hR.a i hi), (decide_eq_true (by omega)), (decide_eq_true (by omega)), (hR.b i hi), (decide_eq_true (by omega)), (decide_eq_true (by omega)), trivial⟩, ?_, by decide, rfl, rfl, hn, ⟨⟨hR, hi, hn1, hb, ?_, hii, hn, ?_⟩, ?_⟩, ?_, ?_, ?_⟩
      · show _ = (ac ++ [Value.int .u8 (octF (pA cs i) (k : Int))]).length / 1; rw [hl]; omega
      · show k + 1 ≤ 4; omega
      · show (ac ++ [Value.int .u8 (octF (pA cs i) (k : Int))]).length ≤ 100000; omega
      · show (ac ++ [Value.int .u8 (octF (pA cs i) (k : Int))]).length + (4 - (k + 1)) ≤ 100000; omega
      · show 5 - (k + 1) < 5 - k; omega
      · show [Value.slice _ ((finI _).length / 1) openCap] = [Value.slice _ ((finI _).length / 1) openCap]; rw [hfin]
      · show [(13, rowP 5 (finI _))] = [(13, rowP 5 (finI _))]; rw [hfin]
    · have ef : finI ⟨cs, n, (i, k), ac⟩ = ac := by
        show ac ++ octsR (pA cs i) (pB cs i) (5 - k) k = ac
        rw [hs, octsR, if_neg hk, List.append_nil]
      refine .inr ⟨_, _, _, _, run_eq (c := c26i) (nt := 50) (keys := [4, 0, 5, 6]) (outs := [4]) (by simp only [A26i]) rfl rfl rfl ea eo (R26i_e cs n i k ac), ⟨(decide_eq_false (by omega)), (hR.b i hi), (decide_eq_true (by omega)), (decide_eq_true (by omega)), trivial⟩, .inl ⟨rfl, rfl, ?_, ?_⟩⟩
      · show [Value.slice _ ((finI _).length / 1) openCap] = _; rw [ef]; rfl
      · show [(13, rowP 5 (finI _))] = _; rw [ef]; rfl⟩
theorem L26i_good : A26i.ml.Good Tryd.prog ovb0 st0 := A26i.good refb0 A26i_ok
end Go.Proofs.YtgmojlibppmfhaaDoor

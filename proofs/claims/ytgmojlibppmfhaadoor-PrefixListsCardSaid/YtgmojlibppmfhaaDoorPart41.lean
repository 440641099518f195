/- Runs of the abstract interpreter, part 41: by an AI agent. -/
import Derived.Test.YtgmojlibppmfhaaDoorPart40

namespace Go.Proofs.YtgmojlibppmfhaaDoor
open Go Go.Ai
/-! ### the bytes of prefixes (the reference's): the outer loop -/
def xI (cs : List Value) (n i : Nat) (ac : List Value) : AX := ⟨cs, n, ((i : Int).toNat, 0), ac⟩
def fitI (cs : List Value) (n i : Nat) (m : Nat) (ac : List Value) : Prop := FitS cx 11 A26i.ml (xI cs n i ac) [(11, .sl 11 0 openCap), (12, .id 14)] [.slice (some ⟨14, 0, none⟩) m openCap, slV n, .int .i64 (i : Int), .int .i64 0] [some (rowQ 35 cs), some (rowP 5 ac)]
def inL (cs : List Value) (n i : Nat) (ac : List Value) : List Value := renL (sgo 11 11 13 15 [(11, .sl 11 0 openCap), (12, .id 14)]) (finI (xI cs n i ac))
theorem R26_e (cs : List Value) (n i : Nat) (ac : List Value) : outM [4, 0, 5] [4] [12] (runO cx ovb1 ovOb1 1000 c26 50 (putT [4, 0, 5] [.slice (some ⟨12, 0, none⟩) (ac.length / 1) openCap, slV n, .int .i64 (i : Int)] .nil) ⟨over0 (keepIds st0.hp []) [(11, rowQ 35 cs), (12, rowP 5 ac)], 13⟩ ⟨[.no], []⟩) = some (.exit 0, [.slice (some ⟨12, 0, none⟩) (ac.length / 1) openCap], [some (rowP 5 ac)], [(decide ((i : Int) < (n : Int))) = false]) := by kernel_rfl
theorem R26_c (outs : List Tmp) (cs : List Value) (n i : Nat) (ac : List Value) : outM [4, 0, 5] outs [11, 15] (runO cx ovb1 ovOb1 1000 c26 50 (putT [4, 0, 5] [.slice (some ⟨12, 0, none⟩) (ac.length / 1) openCap, slV n, .int .i64 (i : Int)] .nil) ⟨over0 (keepIds st0.hp []) [(11, rowQ 35 cs), (12, rowP 5 ac)], 13⟩ ⟨[.yes, .yes, .yes, .no, .yes, .yes, .yes, .ev, .yes, .ev, .ev, .yes, .ev, .ev, .no, .yes, .yes, .ev, .yes], []⟩) = some (.normal, [.slice (some ⟨15, 0, none⟩) ((finI (xI cs n i (ac ++ [Value.int .u8 (pB cs i)]))).length / 1) openCap, slV n, .int .i64 ((i : Int) + 1)], [some (rowQ 35 cs), some (rowP 5 (inL cs n i (ac ++ [Value.int .u8 (pB cs i)])))], [(decide ((-9223372036854775808 : Int) ≤ (i : Int) + (1 : Int) ∧ (i : Int) + (1 : Int) ≤ (9223372036854775807 : Int))) = true, fitI cs n i (ac.length / 1 + 1) (ac ++ [Value.int .u8 (pB cs i)]), A26i.ml.pre (xI cs n i (ac ++ [Value.int .u8 (pB cs i)])), A26i.ml.c = A26i.ml.c, AllC [Value.int .u8 (pB cs i)], AllC ac, (true && (ac.length / 1 * 1).beq ac.length) = true, ((0 + (ac.length / 1 + 1) * 1).ble ac.length) = false, ((0 + ac.length / 1 * 1).ble ac.length) = true, (((ac.length / 1 + 1) * 1).ble 70368744177664 && (ac.length / 1 + 1).ble 70368744177664) = true, (decide ((0 : Int) ≤ pB cs i ∧ pB cs i ≤ (255 : Int))) = true, isB cs i, (decide ((0 : Int) ≤ (i : Int) ∧ (i : Int) < (n : Int))) = true, (!mayF (pA cs i) (pB cs i)) = false, CM.pre [.agg { toList := [Value.int .u32 (pA cs i), Value.int .i64 (pB cs i)] }], isB cs i, isA cs i, (decide ((0 : Int) ≤ (i : Int) ∧ (i : Int) < (n : Int))) = true, (decide ((i : Int) < (n : Int))) = true]) := by kernel_rfl
theorem R26_n (outs : List Tmp) (cs : List Value) (n i : Nat) : outM [4, 0, 5] outs [11, 15] (runO cx ovb1 ovOb1 1000 c26 50 (putT [4, 0, 5] [.slice none 0 0, slV n, .int .i64 (i : Int)] .nil) ⟨over0 (keepIds st0.hp []) [(11, rowQ 35 cs)], 13⟩ ⟨[.yes, .yes, .yes, .no, .yes, .yes, .yes, .ev, .ev, .ev, .ev, .ev, .yes], []⟩) = some (.normal, [.slice (some ⟨15, 0, none⟩) ((finI (xI cs n i [Value.int .u8 (pB cs i)])).length / 1) openCap, slV n, .int .i64 ((i : Int) + 1)], [some (rowQ 35 cs), some (rowP 5 (inL cs n i [Value.int .u8 (pB cs i)]))], [(decide ((-9223372036854775808 : Int) ≤ (i : Int) + (1 : Int) ∧ (i : Int) + (1 : Int) ≤ (9223372036854775807 : Int))) = true, fitI cs n i (1) [Value.int .u8 (pB cs i)], A26i.ml.pre (xI cs n i [Value.int .u8 (pB cs i)]), A26i.ml.c = A26i.ml.c, AllC [Value.int .u8 (pB cs i)], (decide ((0 : Int) ≤ pB cs i ∧ pB cs i ≤ (255 : Int))) = true, isB cs i, (decide ((0 : Int) ≤ (i : Int) ∧ (i : Int) < (n : Int))) = true, (!mayF (pA cs i) (pB cs i)) = false, CM.pre [.agg { toList := [Value.int .u32 (pA cs i), Value.int .i64 (pB cs i)] }], isB cs i, isA cs i, (decide ((0 : Int) ≤ (i : Int) ∧ (i : Int) < (n : Int))) = true, (decide ((i : Int) < (n : Int))) = true]) := by kernel_rfl
theorem R26_bc (cs : List Value) (n i : Nat) (ac : List Value) : outM [4, 0, 5] [2, 3] [12] (runO cx ovb1 ovOb1 1000 c26 50 (putT [4, 0, 5] [.slice (some ⟨12, 0, none⟩) (ac.length / 1) openCap, slV n, .int .i64 (i : Int)] .nil) ⟨over0 (keepIds st0.hp []) [(11, rowQ 35 cs), (12, rowP 5 ac)], 13⟩ ⟨[.yes, .yes, .yes, .yes], []⟩) = some (.ret, [.slice none 0 0, .int .i64 1], [some (rowP 5 ac)], [(!mayF (pA cs i) (pB cs i)) = true, CM.pre [.agg { toList := [Value.int .u32 (pA cs i), Value.int .i64 (pB cs i)] }], isB cs i, isA cs i, (decide ((0 : Int) ≤ (i : Int) ∧ (i : Int) < (n : Int))) = true, (decide ((i : Int) < (n : Int))) = true]) := by kernel_rfl
theorem R26_bn (cs : List Value) (n i : Nat) : outM [4, 0, 5] [2, 3] [12] (runO cx ovb1 ovOb1 1000 c26 50 (putT [4, 0, 5] [.slice none 0 0, slV n, .int .i64 (i : Int)] .nil) ⟨over0 (keepIds st0.hp []) [(11, rowQ 35 cs)], 13⟩ ⟨[.yes, .yes, .yes, .yes], []⟩) = some (.ret, [.slice none 0 0, .int .i64 1], [none], [(!mayF (pA cs i) (pB cs i)) = true, CM.pre [.agg { toList := [Value.int .u32 (pA cs i), Value.int .i64 (pB cs i)] }], isB cs i, isA cs i, (decide ((0 : Int) ≤ (i : Int) ∧ (i : Int) < (n : Int))) = true, (decide ((i : Int) < (n : Int))) = true]) := by kernel_rfl
theorem fit_I {cs ac : List Value} {n i m : Nat} (hR : Ints cs) (hI : Ints ac) (hm : m = ac.length / 1) : fitI cs n i m ac := fun hp h => by
  have h : [hp.get 11, hp.get 14] = [some (rowQ 35 cs), some (rowP 5 ac)] := h
  simp only [List.cons.injEq, and_true] at h
  refine ⟨⟨fit_read (n := 2) h.1 hR (by kernel_rfl) (by decide), fit_acc h.2 hI, trivial⟩, ⟨.inl ⟨by rw [hm]; rfl, rfl⟩, .inr ⟨11, 11, 0, openCap, n, rfl, Nat.le_refl _, rfl, rfl, rfl⟩, .inl ⟨rfl, rfl⟩, .inl ⟨rfl, rfl⟩, trivial⟩, by kernel_rfl⟩
theorem finI_all {cs ac : List Value} {n i : Nat} (hb : 0 ≤ pB cs i ∧ pB cs i ≤ 32) : finI (xI cs n i (ac ++ [.int .u8 (pB cs i)])) = ac ++ bytesP (pA cs i) (pB cs i) := by
  show (ac ++ [.int .u8 (pB cs i)]) ++ octsR (pA cs i) (pB cs i) 5 0 = _
  rw [octs_all hb.1 hb.2, List.append_assoc]; rfl
structure PreO (x : AX) : Prop where
  rows : RowsOf x.cs x.n
  n0 : 0 < x.n
  n1 : x.n ≤ 1000
  i1 : x.j.1 ≤ x.n
  ints : Ints x.ac
  len : x.ac.length ≤ 5 * x.j.1
  nil : x.ac = [] → x.j.1 = 0
def restO (x : AX) : List Value := [.int .i64 (x.j.1 : Int)]
def getO (vs : List Value) : Option (Nat × Nat) := match vs with | [.int _ i] => some (i.toNat, 0) | _ => none
noncomputable def A26a : AP := ⟨c26, 50, [4, 0, 5], [4], 35, 5, 1, false, restO, fun x => PreO x ∧ ∀ i < x.n, mayF (pA x.cs i) (pB x.cs i) = true, .exit 0, fun x => [.slice (some ⟨13, 0, none⟩) ((fin25 x).length / 1) openCap], fun x => [(13, rowP 5 (fin25 x))], getO⟩
noncomputable def A26b : AP := ⟨c26, 50, [4, 0, 5], [2, 3], 35, 5, 1, false, restO, fun x => PreO x ∧ ∃ i, x.j.1 ≤ i ∧ i < x.n ∧ mayF (pA x.cs i) (pB x.cs i) = false, .ret, fun _ => [.slice none 0 0, .int .i64 1], fun _ => [], getO⟩
/-- a round at a prefix that may be -/
theorem round26 {A : AP} (hA : ∃ outs pre ex rv ro, A = ⟨c26, 50, [4, 0, 5], outs, 35, 5, 1, false, restO, pre, ex, rv, ro, getO⟩) {cs ac : List Value} {n i u : Nat} (hp : PreO ⟨cs, n, (i, u), ac⟩) (hi : i < n) (hm : mayF (pA cs i) (pB cs i) = true)
    (hv : ∀ x', x'.cs = cs → x'.n = n → x'.j.1 = i + 1 → x'.ac = ac ++ bytesP (pA cs i) (pB cs i) → PreO x' → A.pre x' ∧ A.rv x' = A.rv ⟨cs, n, (i, u), ac⟩ ∧ A.ro x' = A.ro ⟨cs, n, (i, u), ac⟩) :
    ∃ toks asm id m x', A.Goes ovb1 ovOb1 (fun x => x.n - x.j.1) ⟨cs, n, (i, u), ac⟩ toks asm id m x' := by
  obtain ⟨outs, pre, ex, rv, ro, rfl⟩ := hA
  obtain ⟨hR, hn0, hn1, hi1, hI, hL, hN⟩ := hp
  simp only at hR hn0 hn1 hi1 hI hL hN
  have hb := may_range hm
  have hb1 := hb.1
  have hb2 := hb.2
  have hmay : (!mayF (pA cs i) (pB cs i)) = false := by rw [hm]; rfl
  have hlen := bytes_len (pA cs i) (pB cs i)
  have hP : PreO ⟨cs, n, (i + 1, u), ac ++ bytesP (pA cs i) (pB cs i)⟩ := ⟨hR, hn0, hn1, hi, hI.app (ints_bytes _ _), by show (ac ++ _).length ≤ 5 * (i + 1); rw [List.length_append]; omega, fun h => absurd (List.append_eq_nil_iff.1 h).2 hlen.2⟩
  obtain ⟨k1, k2, k3⟩ := hv ⟨cs, n, (i + 1, u), ac ++ bytesP (pA cs i) (pB cs i)⟩ rfl rfl rfl rfl hP
  have hIa : Ints (ac ++ [.int .u8 (pB cs i)]) := hI.app (ints_int ints_nil)
  have hpre : A26i.ml.pre (xI cs n i (ac ++ [.int .u8 (pB cs i)])) := by
    have hl : (ac ++ [Value.int .u8 (pB cs i)]).length = ac.length + 1 := by rw [List.length_append]; rfl
    exact ⟨⟨hR, hi, hn1, hb, Nat.zero_le _, hIa, by show _ ++ _ ≠ []; simp, by show (ac ++ _).length ≤ 100000; omega⟩, by show (ac ++ _).length + 4 ≤ 100000; omega⟩
  have hin : inL cs n i (ac ++ [.int .u8 (pB cs i)]) = ac ++ bytesP (pA cs i) (pB cs i) := by
    unfold inL; rw [finI_all hb, (hI.app (ints_bytes _ _)).ren]
  by_cases hne : ac = []
  · subst hne
    have hr := R26_n outs cs n i
    have hin : inL cs n i [.int .u8 (pB cs i)] = [] ++ bytesP (pA cs i) (pB cs i) := hin
    rw [hin] at hr
    refine ⟨_, _, 15, _, ⟨cs, n, (i + 1, u), [] ++ bytesP (pA cs i) (pB cs i)⟩, run_eq (c := c26) (nt := 50) (keys := [4, 0, 5]) (outs := outs) (by dsimp only) rfl rfl rfl rfl rfl hr, ⟨(decide_eq_true (by omega)), (fit_I hR.ints (ints_int ints_nil) (by kernel_rfl)), hpre, rfl, ((allC_int allC_nil)), (decide_eq_true (by omega)), (hR.b i hi), (decide_eq_true (by omega)), hmay, ⟨_, _, rfl, hR.a0 i hi, hR.a1 i hi⟩, (hR.b i hi), (hR.a i hi), (decide_eq_true (by omega)), (decide_eq_true (by omega)), trivial⟩, ?_, by decide, rfl, rfl, hlen.2, k1, ?_, k2, k3⟩
    · show (finI (xI cs n i ([] ++ [.int .u8 (pB cs i)]))).length / 1 = _; rw [finI_all hb]
    · show n - (i + 1) < n - i; omega
  · have hr := R26_c outs cs n i ac
    rw [hin] at hr
    have ea : AP.hv ⟨c26, 50, [4, 0, 5], outs, 35, 5, 1, false, restO, pre, ex, rv, ro, getO⟩ ⟨cs, n, (i, u), ac⟩ = [.slice (some ⟨12, 0, none⟩) (ac.length / 1) openCap, slV n, .int .i64 (i : Int)] := by
      show accV false 1 12 ac :: _ = _; rw [acc_cons hne]; rfl
    have eo : AP.ho ⟨c26, 50, [4, 0, 5], outs, 35, 5, 1, false, restO, pre, ex, rv, ro, getO⟩ ⟨cs, n, (i, u), ac⟩ = [(11, rowQ 35 cs), (12, rowP 5 ac)] := by
      show _ :: accO false 5 12 ac = _; rw [accO_cons hne]
    refine ⟨_, _, 15, _, ⟨cs, n, (i + 1, u), ac ++ bytesP (pA cs i) (pB cs i)⟩, run_eq (c := c26) (nt := 50) (keys := [4, 0, 5]) (outs := outs) (by dsimp only) rfl rfl rfl ea eo hr, ⟨(decide_eq_true (by omega)), (fit_I hR.ints hIa (by rw [List.length_append]; show _ = (_ + 1) / 1; omega)), hpre, rfl, ((allC_int allC_nil)), hI.cells, (beq_ok (by omega)), (ble_no (by omega)), (Nat.ble_eq_true_of_le (by omega)), (two_ble (by omega) (by omega)), (decide_eq_true (by omega)), (hR.b i hi), (decide_eq_true (by omega)), hmay, ⟨_, _, rfl, hR.a0 i hi, hR.a1 i hi⟩, (hR.b i hi), (hR.a i hi), (decide_eq_true (by omega)), (decide_eq_true (by omega)), trivial⟩, ?_, by decide, rfl, rfl, fun h => hlen.2 (List.append_eq_nil_iff.1 h).2, k1, ?_, k2, k3⟩
    · show (finI (xI cs n i (ac ++ [.int .u8 (pB cs i)]))).length / 1 = _; rw [finI_all hb]
    · show n - (i + 1) < n - i; omega
theorem A26a_ok : A26a.Ok ovb1 ovOb1 where
  ends := by intro h; cases h
  outs := of_decide_eq_true (by kernel_rfl)
  s1 := ⟨2, by kernel_rfl, by decide⟩
  ints := fun x hx => ⟨hx.1.rows.ints, hx.1.ints⟩
  tail := fun x hx => ⟨by
    show (true && rowIn _ (rowP 5 (fin25 x)) && true) = true
    rw [show rowIn _ (rowP 5 (fin25 x)) = true from (finB_facts x.cs (x.n - x.j.1) x.j.1 x.ac hx.1.ints (by
      by_cases h : x.ac = []
      · have := hx.1.nil h; have := hx.1.n0; exact .inr (by omega)
      · exact .inl h)).1.inIds _]; rfl, by kernel_rfl⟩
  rest := fun x => ⟨rfl, fun ρ ρ' => ⟨.inl ⟨rfl, rfl⟩, trivial⟩⟩
  step := ⟨fun x => x.n - x.j.1, fun x hx => by
    obtain ⟨cs, n, ⟨i, u⟩, ac⟩ := x
    obtain ⟨hp, hM⟩ := hx
    by_cases hi : i < n
    · refine .inl (round26 ⟨_, _, _, _, _, rfl⟩ hp hi (hM i hi) fun x' h1 h2 h3 h4 h5 => ?_)
      have hf : fin25 x' = fin25 ⟨cs, n, (i, u), ac⟩ := by
        show finB x'.cs (x'.n - x'.j.1) x'.j.1 x'.ac = finB cs (n - i) i ac
        rw [h1, h2, h3, h4, show n - i = (n - (i + 1)) + 1 by omega]; rfl
      refine ⟨⟨h5, by rw [h1, h2]; exact hM⟩, ?_, ?_⟩
      · show [Value.slice _ ((fin25 _).length / 1) openCap] = [Value.slice _ ((fin25 _).length / 1) openCap]; rw [hf]
      · show [(13, rowP 5 (fin25 _))] = [(13, rowP 5 (fin25 _))]; rw [hf]
    · have hi1 : i ≤ n := hp.i1
      have hn0 : 0 < n := hp.n0
      have hne : ac ≠ [] := fun h => by have : i = 0 := hp.nil h; omega
      have ea : A26a.hv ⟨cs, n, (i, u), ac⟩ = [.slice (some ⟨12, 0, none⟩) (ac.length / 1) openCap, slV n, .int .i64 (i : Int)] := by
        show accV false 1 12 ac :: _ = _; rw [acc_cons hne]; rfl
      have eo : A26a.ho ⟨cs, n, (i, u), ac⟩ = [(11, rowQ 35 cs), (12, rowP 5 ac)] := by
        show _ :: accO false 5 12 ac = _; rw [accO_cons hne]; rfl
      have ef : fin25 ⟨cs, n, (i, u), ac⟩ = ac := by show finB cs (n - i) i ac = ac; rw [show n - i = 0 by omega]; rfl
      refine .inr ⟨_, _, _, _, run_eq (c := c26) (nt := 50) (keys := [4, 0, 5]) (outs := [4]) (by simp only [A26a]) rfl rfl rfl ea eo (R26_e cs n i ac), ⟨(decide_eq_false (by omega)), trivial⟩, .inl ⟨rfl, rfl, ?_, ?_⟩⟩
      · show [Value.slice _ ((fin25 _).length / 1) openCap] = _; rw [ef]; rfl
      · show [(13, rowP 5 (fin25 _))] = _; rw [ef]; rfl⟩
theorem A26b_ok : A26b.Ok ovb1 ovOb1 where
  ends := by intro h; cases h
  outs := of_decide_eq_true (by kernel_rfl)
  s1 := ⟨2, by kernel_rfl, by decide⟩
  ints := fun x hx => ⟨hx.1.rows.ints, hx.1.ints⟩
  tail := fun x hx => ⟨rfl, rfl⟩
  rest := fun x => ⟨rfl, fun ρ ρ' => ⟨.inl ⟨rfl, rfl⟩, trivial⟩⟩
  step := ⟨fun x => x.n - x.j.1, fun x hx => by
    obtain ⟨cs, n, ⟨i, u⟩, ac⟩ := x
    obtain ⟨hp, j, hj1, hj2, hj3⟩ := hx
    simp only at hj1 hj2 hj3
    have hi : i < n := by omega
    cases hm : mayF (pA cs i) (pB cs i) with
    | true =>
      refine .inl (round26 ⟨_, _, _, _, _, rfl⟩ hp hi hm fun x' h1 h2 h3 h4 h5 => ⟨⟨h5, j, ?_, by rw [h2]; exact hj2, by rw [h1]; exact hj3⟩, rfl, rfl⟩)
      rw [h3]
      by_cases he : i = j
      · subst he; rw [hm] at hj3; cases hj3
      · omega
    | false =>
      have hmay : (!mayF (pA cs i) (pB cs i)) = true := by rw [hm]; rfl
      have hR : RowsOf cs n := hp.rows
      by_cases hne : ac = []
      · subst hne
        exact .inr ⟨_, _, _, _, run_eq (c := c26) (nt := 50) (keys := [4, 0, 5]) (outs := [2, 3]) (by simp only [A26b]) rfl rfl rfl rfl rfl (R26_bn cs n i), ⟨hmay, ⟨_, _, rfl, hR.a0 i hi, hR.a1 i hi⟩, (hR.b i hi), (hR.a i hi), (decide_eq_true (by omega)), (decide_eq_true (by omega)), trivial⟩, .inr ⟨rfl, rfl, rfl⟩⟩
      · have ea : A26b.hv ⟨cs, n, (i, u), ac⟩ = [.slice (some ⟨12, 0, none⟩) (ac.length / 1) openCap, slV n, .int .i64 (i : Int)] := by
          show accV false 1 12 ac :: _ = _; rw [acc_cons hne]; rfl
        have eo : A26b.ho ⟨cs, n, (i, u), ac⟩ = [(11, rowQ 35 cs), (12, rowP 5 ac)] := by
          show _ :: accO false 5 12 ac = _; rw [accO_cons hne]; rfl
        exact .inr ⟨_, _, _, _, run_eq (c := c26) (nt := 50) (keys := [4, 0, 5]) (outs := [2, 3]) (by simp only [A26b]) rfl rfl rfl ea eo (R26_bc cs n i ac), ⟨hmay, ⟨_, _, rfl, hR.a0 i hi, hR.a1 i hi⟩, (hR.b i hi), (hR.a i hi), (decide_eq_true (by omega)), (decide_eq_true (by omega)), trivial⟩, .inr ⟨rfl, rfl, rfl⟩⟩⟩
theorem L26a_good : A26a.ml.Good Tryd.prog ovb1 st0 := A26a.good refb1 A26a_ok
theorem L26b_good : A26b.ml.Good Tryd.prog ovb1 st0 := A26b.good refb1 A26b_ok
end Go.Proofs.YtgmojlibppmfhaaDoor

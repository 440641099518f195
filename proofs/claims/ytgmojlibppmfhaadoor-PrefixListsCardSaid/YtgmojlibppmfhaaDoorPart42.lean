/- Runs of the abstract interpreter, part 42: by an AI agent. -/
import Derived.Test.YtgmojlibppmfhaaDoorPart41

namespace Go.Proofs.YtgmojlibppmfhaaDoor
open Go Go.Ai
/-! ### is there one that may not be? -/
theorem R78_e (cs : List Value) (n i : Nat) : outM [0, 1, 7, 8] [] [11] (runO cx ovb1 ovOb1 1000 c78 19 (putT [0, 1, 7, 8] [slV n, .func (.func 59) #[] #[], .int .i64 (n : Int), .int .i64 (i : Int)] .nil) ⟨over0 (keepIds st0.hp []) [(11, rowQ 31 cs)], 12⟩ ⟨[.no], []⟩) = some (.exit 0, [], [some (rowQ 31 cs)], [(decide ((i : Int) < (n : Int))) = false]) := by kernel_rfl
theorem R78_c (outs : List Tmp) (cs : List Value) (n i : Nat) : outM [0, 1, 7, 8] outs [11] (runO cx ovb1 ovOb1 1000 c78 19 (putT [0, 1, 7, 8] [slV n, .func (.func 59) #[] #[], .int .i64 (n : Int), .int .i64 (i : Int)] .nil) ⟨over0 (keepIds st0.hp []) [(11, rowQ 31 cs)], 12⟩ ⟨[.yes, .yes, .yes, .ev, .no, .yes], []⟩) = some (.normal, [slV n, .func (.func 59) #[] #[], .int .i64 (n : Int), .int .i64 ((i : Int) + 1)], [some (rowQ 31 cs)], [(decide ((-9223372036854775808 : Int) ≤ (i : Int) + (1 : Int) ∧ (i : Int) + (1 : Int) ≤ (9223372036854775807 : Int))) = true, (!mayF (pA cs i) (pB cs i)) = false, C27.pre [.agg { toList := [Value.int .u32 (pA cs i), Value.int .i64 (pB cs i)] }], isB cs i, isA cs i, (decide ((0 : Int) ≤ (i : Int) ∧ (i : Int) < (n : Int))) = true, (decide ((i : Int) < (n : Int))) = true]) := by kernel_rfl
theorem R78_b (cs : List Value) (n i : Nat) : outM [0, 1, 7, 8] [4] [11] (runO cx ovb1 ovOb1 1000 c78 19 (putT [0, 1, 7, 8] [slV n, .func (.func 59) #[] #[], .int .i64 (n : Int), .int .i64 (i : Int)] .nil) ⟨over0 (keepIds st0.hp []) [(11, rowQ 31 cs)], 12⟩ ⟨[.yes, .yes, .yes, .ev, .yes], []⟩) = some (.ret, [.int .i64 (i : Int)], [some (rowQ 31 cs)], [(!mayF (pA cs i) (pB cs i)) = true, C27.pre [.agg { toList := [Value.int .u32 (pA cs i), Value.int .i64 (pB cs i)] }], isB cs i, isA cs i, (decide ((0 : Int) ≤ (i : Int) ∧ (i : Int) < (n : Int))) = true, (decide ((i : Int) < (n : Int))) = true]) := by kernel_rfl
def badAt (cs : List Value) : Nat → Nat → Nat
  | 0, i => i
  | k + 1, i => if mayF (pA cs i) (pB cs i) = true then badAt cs k (i + 1) else i
structure S78 where
  cs : List Value
  n : Nat
  i : Nat
def hv78 (x : S78) : List Value := [slV x.n, .func (.func 59) #[] #[], .int .i64 (x.n : Int), .int .i64 (x.i : Int)]
def ho78 (x : S78) : Objs := [(11, rowQ 31 x.cs)]
noncomputable def get78 (vs : List Value) (hp : T AObj) : Option (Bool × (Bool → S78 × Rho)) := match vs with
  | [.slice (some s) n cap, _, _, .int _ i] => match hp.get s.block with
    | some (.row _ cs _ _) => some (true, fun _ => (⟨cs, n, i.toNat⟩, [(11, .sl s.block s.off cap)]))
    | _ => none
  | _ => none
structure Pre78 (x : S78) : Prop where
  rows : RowsOf x.cs x.n
  n1 : x.n ≤ 1000
  i1 : x.i ≤ x.n
noncomputable def L78 (outs : List Tmp) (pre : S78 → Prop) (ex : Ex) (rv : S78 → List Value) : ML := ⟨c78, 19, [0, 1, 7, 8], outs, [], 11, 12, 12, S78, hv78, ho78, pre, fun _ => ex, rv, fun _ => [], get78⟩
noncomputable def L78a : ML := L78 [] (fun x => Pre78 x ∧ ∀ i < x.n, mayF (pA x.cs i) (pB x.cs i) = true) (.exit 0) (fun _ => [])
noncomputable def L78b : ML := L78 [4] (fun x => Pre78 x ∧ ∃ i, x.i ≤ i ∧ i < x.n ∧ mayF (pA x.cs i) (pB x.cs i) = false) .ret (fun x => [.int .i64 (badAt x.cs (x.n - x.i) x.i : Int)])
theorem fit78 {hp : T AObj} {outs : List Tmp} {pre : S78 → Prop} {ex : Ex} {rv : S78 → List Value} {x : S78} (hR : Ints x.cs) (h : hp.get 11 = some (rowQ 31 x.cs)) : Fit cx 11 (L78 outs pre ex rv) x [(11, .sl 11 0 openCap)] (hv78 x) hp :=
  ⟨⟨fit_read (n := 2) h hR (by kernel_rfl) (by decide), trivial⟩, ⟨.inr ⟨11, 11, 0, openCap, x.n, rfl, Nat.le_refl _, rfl, rfl, rfl⟩, .inl ⟨rfl, rfl⟩, .inl ⟨rfl, rfl⟩, .inl ⟨rfl, rfl⟩, trivial⟩, by kernel_rfl⟩
theorem head78 (cs : List Value) (h : Ints cs) : headOk 11 11 12 [(11, rowQ 31 cs)] [(11, rowQ 31 cs)] = true := by
  show (true && rowIn _ (rowQ 31 cs) && true) = true; rw [show rowIn _ (rowQ 31 cs) = true from h.inIds _]; rfl
theorem next78 (outs : List Tmp) {cs : List Value} {n i : Nat} (hp : Pre78 ⟨cs, n, i⟩) (hi : i < n) (hm : mayF (pA cs i) (pB cs i) = true) :
    ∃ tmO st', (∀ tm2, Ai.Sub (putT [0, 1, 7, 8] (hv78 ⟨cs, n, i⟩) .nil) tm2 → ∃ tm2', run cx ovb1 1000 c78 19 tm2 ⟨over0 (keepIds st0.hp []) (ho78 ⟨cs, n, i⟩), 12⟩ = some (.normal, tm2', st') ∧ Ai.Sub tmO tm2') ∧ readT tmO [0, 1, 7, 8] = some (hv78 ⟨cs, n, i + 1⟩) ∧ st'.hp.get 11 = some (rowQ 31 cs) := by
  have hmay : (!mayF (pA cs i) (pB cs i)) = false := by rw [hm]; rfl
  have hR : RowsOf cs n := hp.rows
  have hn1 : n ≤ 1000 := hp.n1
  obtain ⟨tmO, st', g1, g2, g3⟩ := path_round refb1 (R78_c outs cs n i) ⟨(decide_eq_true (by omega)), hmay, ⟨_, _, rfl, hR.a0 i hi, hR.a1 i hi⟩, (hR.b i hi), (hR.a i hi), (decide_eq_true (by omega)), (decide_eq_true (by omega)), trivial⟩
  exact ⟨tmO, st', g1, g2, map_one g3⟩
theorem g_eq {L : ML} {x : L.X} {c : Code} {nt n0 : Nat} {keys : List Tmp} {vs0 : List Value} {os0 : Objs} {ex : Ex} {st' : St} {tmO : T Value} (hc : L.c = c) (hn : L.nt = nt) (hk : L.keys = keys) (hi : L.ids = []) (h0 : L.n0 = n0) (ev : L.hv x = vs0) (eo : L.ho x = os0)
    (g1 : ∀ tm2, Ai.Sub (putT keys vs0 .nil) tm2 → ∃ tm2', run cx ovb1 1000 c nt tm2 ⟨over0 (keepIds st0.hp []) os0, n0⟩ = some (ex, tm2', st') ∧ Ai.Sub tmO tm2') :
    ∀ tm2, Ai.Sub (putT L.keys (L.hv x) .nil) tm2 → ∃ tm2', run (Cx.of Tryd.prog) ovb1 1000 L.c L.nt tm2 ⟨over0 (keepIds st0.hp L.ids) (L.ho x), L.n0⟩ = some (ex, tm2', st') ∧ Ai.Sub tmO tm2' := by
  subst hc hn hk h0 ev eo; rw [hi]; exact g1
theorem L78a_good : L78a.Good Tryd.prog ovb1 st0 where
  keep := by kernel_rfl
  b0 := of_decide_eq_true (by kernel_rfl)
  b1 := of_decide_eq_true (by kernel_rfl)
  b2 := of_decide_eq_true (by kernel_rfl)
  outs := fun t h => by cases h
  head := fun (x : S78) hx => ⟨head78 x.cs hx.1.rows.ints, fun i h1 h2 => absurd (show 11 ≤ i from h1) (Nat.not_le.2 h2)⟩
  tail := fun (x : S78) hx => ⟨rfl, rfl⟩
  ok := ⟨fun (x : S78) => x.n - x.i, fun (x : S78) ⟨hp, hM⟩ => by
    obtain ⟨cs, n, i⟩ := x
    by_cases hi : i < n
    · obtain ⟨tmO, st', g1, g2, g3⟩ := next78 [] hp hi (hM i hi)
      exact ⟨1000, .normal, tmO, st', g_eq (c := c78) (nt := 19) (n0 := 12) (keys := [0, 1, 7, 8]) (by simp only [L78a, L78]) rfl rfl rfl rfl rfl rfl g1, .inl ⟨rfl, ⟨cs, n, i + 1⟩, [(11, .sl 11 0 openCap)], _, g2, ⟨⟨hp.rows, hp.n1, hi⟩, hM⟩, (by show n - (i + 1) < n - i; omega), ⟨rfl, rfl, rfl⟩, fit78 hp.rows.ints g3, fun i h1 h2 => absurd (show 11 ≤ i from h1) (Nat.not_le.2 h2)⟩⟩
    · have hi1 : i ≤ n := hp.i1
      obtain ⟨tmO, st', g1, g2, g3⟩ := path_round refb1 (R78_e cs n i) ⟨(decide_eq_false (by omega)), trivial⟩
      exact ⟨1000, .exit 0, tmO, st', g_eq (c := c78) (nt := 19) (n0 := 12) (keys := [0, 1, 7, 8]) (by simp only [L78a, L78]) rfl rfl rfl rfl rfl rfl g1, .inr ⟨(by intro h; cases h), rfl, [], rfl, trivial, rfl⟩⟩⟩
theorem L78b_good : L78b.Good Tryd.prog ovb1 st0 where
  keep := by kernel_rfl
  b0 := of_decide_eq_true (by kernel_rfl)
  b1 := of_decide_eq_true (by kernel_rfl)
  b2 := of_decide_eq_true (by kernel_rfl)
  outs := of_decide_eq_true (by kernel_rfl)
  head := fun (x : S78) hx => ⟨head78 x.cs hx.1.rows.ints, fun i h1 h2 => absurd (show 11 ≤ i from h1) (Nat.not_le.2 h2)⟩
  tail := fun (x : S78) hx => ⟨rfl, rfl⟩
  ok := ⟨fun (x : S78) => x.n - x.i, fun (x : S78) ⟨hp, j, hj1, hj2, hj3⟩ => by
    obtain ⟨cs, n, i⟩ := x
    simp only at hj1 hj2 hj3
    have hi : i < n := by omega
    have hk : n - i = (n - (i + 1)) + 1 := by omega
    cases hm : mayF (pA cs i) (pB cs i) with
    | true =>
      have hj : i + 1 ≤ j := by
        by_cases he : i = j
        · subst he; rw [hm] at hj3; cases hj3
        · omega
      have hb : badAt cs (n - (i + 1)) (i + 1) = badAt cs (n - i) i := by rw [hk, badAt, if_pos hm]
      obtain ⟨tmO, st', g1, g2, g3⟩ := next78 [4] hp hi hm
      refine ⟨1000, .normal, tmO, st', g_eq (c := c78) (nt := 19) (n0 := 12) (keys := [0, 1, 7, 8]) (by simp only [L78b, L78]) rfl rfl rfl rfl rfl rfl g1, .inl ⟨rfl, ⟨cs, n, i + 1⟩, [(11, .sl 11 0 openCap)], _, g2, ⟨⟨hp.rows, hp.n1, hi⟩, j, hj, hj2, hj3⟩, (by show n - (i + 1) < n - i; omega), ⟨rfl, ?_, rfl⟩, fit78 hp.rows.ints g3, fun i h1 h2 => absurd (show 11 ≤ i from h1) (Nat.not_le.2 h2)⟩⟩
      show [Value.int .i64 (badAt cs (n - (i + 1)) (i + 1) : Int)] = [Value.int .i64 (badAt cs (n - i) i : Int)]
      rw [hb]
    | false =>
      have hmay : (!mayF (pA cs i) (pB cs i)) = true := by rw [hm]; rfl
      have hR : RowsOf cs n := hp.rows
      have hb : badAt cs (n - i) i = i := by rw [hk, badAt, if_neg (by rw [hm]; intro h; cases h)]
      obtain ⟨tmO, st', g1, g2, g3⟩ := path_round refb1 (R78_b cs n i) ⟨hmay, ⟨_, _, rfl, hR.a0 i hi, hR.a1 i hi⟩, (hR.b i hi), (hR.a i hi), (decide_eq_true (by omega)), (decide_eq_true (by omega)), trivial⟩
      refine ⟨1000, .ret, tmO, st', g_eq (c := c78) (nt := 19) (n0 := 12) (keys := [0, 1, 7, 8]) (by simp only [L78b, L78]) rfl rfl rfl rfl rfl rfl g1, .inr ⟨(by intro h; cases h), rfl, [], ?_, trivial, rfl⟩⟩
      show readT tmO [4] = some (renL _ [Value.int .i64 (badAt cs (n - i) i : Int)])
      rw [hb]; exact g2⟩
noncomputable def ovbA : Ov := ovRows cx st0 [(Go.Ai.keyOf c5 1, A5.ml), (Go.Ai.keyOf c78 1, L78a), (Go.Ai.keyOf c25 1, A25.ml), (Go.Ai.keyOf c26 1, A26a.ml)] ovb1
noncomputable def ovObA : OvO := ovORows cx st0 [(Go.Ai.keyOf c5 1, A5.ml), (Go.Ai.keyOf c78 1, L78a), (Go.Ai.keyOf c25 1, A25.ml), (Go.Ai.keyOf c26 1, A26a.ml)] ovOb1
theorem refbA : OvRef ovbA ovObA := ovRows_ref refb1
theorem ovbA_ok : OvOk Tryd.prog ovbA ∧ OvMono ovbA ∧ OvIds ovbA :=
  ovRows_all Tryd.checked.mixed ovb1_ok.1 ovb1_ok.2.1 ovb1_ok.2.2 ng_st0 (fun x h => by
    simp only [List.mem_cons, List.not_mem_nil, or_false] at h
    rcases h with rfl | rfl | rfl | rfl
    · exact L5_good
    · exact L78a_good
    · exact L25_good
    · exact L26a_good)
noncomputable def ovbB : Ov := ovRows cx st0 [(Go.Ai.keyOf c5 1, A5.ml), (Go.Ai.keyOf c78 1, L78b), (Go.Ai.keyOf c26 1, A26b.ml)] ovb1
noncomputable def ovObB : OvO := ovORows cx st0 [(Go.Ai.keyOf c5 1, A5.ml), (Go.Ai.keyOf c78 1, L78b), (Go.Ai.keyOf c26 1, A26b.ml)] ovOb1
theorem refbB : OvRef ovbB ovObB := ovRows_ref refb1
theorem ovbB_ok : OvOk Tryd.prog ovbB ∧ OvMono ovbB ∧ OvIds ovbB :=
  ovRows_all Tryd.checked.mixed ovb1_ok.1 ovb1_ok.2.1 ovb1_ok.2.2 ng_st0 (fun x h => by
    simp only [List.mem_cons, List.not_mem_nil, or_false] at h
    rcases h with rfl | rfl | rfl
    · exact L5_good
    · exact L78b_good
    · exact L26b_good)
end Go.Proofs.YtgmojlibppmfhaaDoor

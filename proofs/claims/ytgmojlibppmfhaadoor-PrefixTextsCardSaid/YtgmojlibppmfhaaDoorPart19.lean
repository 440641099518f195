/- Runs of the abstract interpreter, part 19: by an AI agent. -/
import Derived.Test.YtgmojlibppmfhaaDoorPart18

namespace Go.Proofs.YtgmojlibppmfhaaDoor
open Go Go.Ai
theorem inIds_str (p : Nat → Bool) : ∀ (cs : List Value), AllStr cs → inIdsL p cs = true
  | [], _ => rfl
  | v :: l, h => by
    obtain ⟨s, rfl⟩ := h v (by simp)
    have := inIds_str p l (fun u hu => h u (by simp [hu]))
    simp [inIdsL, inIds, this]
theorem renL_str (σ : Nat → Nat) : ∀ (cs : List Value), AllStr cs → renL σ cs = cs
  | [], _ => rfl
  | v :: l, h => by
    obtain ⟨s, rfl⟩ := h v (by simp)
    have := renL_str σ l (fun u hu => h u (by simp [hu]))
    simp [renL, ren, this]
theorem renO_rowS (σ : Nat → Nat) (cs : List Value) (h : AllStr cs) : renO σ (rowS cs) = rowS cs := by
  show AObj.row 9 (renL σ cs) false true = _
  rw [renL_str σ cs h]; rfl
theorem setAt_len {cs : List Value} {i : Nat} {v : Value} (h : i < cs.length) : (setAt cs i [v]).length = cs.length := by
  unfold setAt
  simp only [List.length_append, List.length_take, List.length_drop, List.length_cons, List.length_nil]
  omega
theorem setAt_str {cs : List Value} {i : Nat} {s : ByteArray} (h : AllStr cs) : AllStr (setAt cs i [.string s]) := by
  intro v hv
  unfold setAt at hv
  rcases List.mem_append.1 hv with hv | hv
  · rcases List.mem_append.1 hv with hv | hv
    · exact h v (List.mem_of_mem_take hv)
    · rw [List.mem_singleton] at hv; exact ⟨s, hv⟩
  · exact h v (List.mem_of_mem_drop hv)
theorem spl_facts : ∀ (k : Nat) (s : ByteArray) (i : Nat) (cs : List Value), AllStr cs → i + k + 1 ≤ cs.length → s.size ≤ 1000 →
    AllStr (spl k s i cs).2.2 ∧ (spl k s i cs).2.2.length = cs.length ∧ i ≤ (spl k s i cs).2.1 ∧ (spl k s i cs).2.1 ≤ i + k ∧ (spl k s i cs).1.size ≤ 1000
  | 0, s, i, cs, h, _, hs => ⟨h, rfl, Nat.le_refl _, Nat.le_refl _, hs⟩
  | k + 1, s, i, cs, h, hl, hs => by
    rw [spl]
    split
    · exact ⟨h, rfl, Nat.le_refl _, (by show i ≤ i + (k + 1); omega), hs⟩
    · have hlen := setAt_len (cs := cs) (i := i) (v := .string (fS s)) (by omega)
      obtain ⟨g1, g2, g3, g4, g5⟩ := spl_facts k (lS s) (i + 1) _ (setAt_str (i := i) (s := fS s) h) (by omega) (by unfold lS; rw [ByteArray.size_extract]; omega)
      exact ⟨g1, by omega, by omega, by omega, g5⟩
theorem L69_good : L69.Good Tryd.prog ovn2 st0 where
  keep := by kernel_rfl
  b0 := of_decide_eq_true (by kernel_rfl)
  b1 := Nat.le_refl _
  b2 := Nat.le_refl _
  outs := of_decide_eq_true (by kernel_rfl)
  head := fun (x : ByteArray × Nat × List Value) ⟨_, h, _, _⟩ => ⟨by
    show (true && rowIn _ (rowS x.2.2) && true) = true
    rw [show rowIn _ (rowS x.2.2) = true from inIds_str _ _ h]; rfl, fun i h1 h2 => by obtain rfl := eleven h1 h2; rfl⟩
  tail := fun (x : ByteArray × Nat × List Value) ⟨hs, h, hi, _⟩ => ⟨by
    have hf := (spl_facts (x.2.2.length - 1 - x.2.1) x.1 x.2.1 x.2.2 h (by omega) hs).1
    show (true && rowIn _ (rowS _) && true) = true
    rw [show rowIn _ (rowS _) = true from inIds_str _ _ hf]; rfl, by kernel_rfl⟩
  ok := ⟨fun (x : ByteArray × Nat × List Value) => x.2.2.length - x.2.1, fun (x : ByteArray × Nat × List Value) ⟨hs, hc, hi, hn⟩ => by
    obtain ⟨s, i, cs⟩ := x
    simp only at hs hc hi hn
    have hr := iS_range s
    have rng : (0 : Int) + (i : Int).toNat * 1 = i := by omega
    have e0 : 0 + (i : Int).toNat * 1 = i := by omega
    have stop {ws : List Value} (hx : spl (cs.length - 1 - i) s i cs = (s, i, cs)) (hw : ws = [Value.string s, Value.int IntKind.i64 (i : Int)]) : L69.rv (s, i, cs) = ws ∧ L69.ro (s, i, cs) = [(11, rowS cs)] := by
      subst hw
      constructor
      · show [Value.string (spl (cs.length - 1 - i) s i cs).1, Value.int .i64 (spl (cs.length - 1 - i) s i cs).2.1] = _
        rw [hx]
      · show [(11, rowS (spl (cs.length - 1 - i) s i cs).2.2)] = _
        rw [hx]
    have fin {tmO : T Value} {st' : St} (hx : spl (cs.length - 1 - i) s i cs = (s, i, cs))
        (g1 : ∀ tm2, Sub (putT L69.keys (L69.hv (s, i, cs)) .nil) tm2 → ∃ tm2', run (Cx.of Tryd.prog) ovn2 1000 L69.c L69.nt tm2 ⟨over0 (keepIds st0.hp L69.ids) (L69.ho (s, i, cs)), L69.n0⟩ = some (.exit 0, tm2', st') ∧ Sub tmO tm2')
        (g2 : readT tmO (ksOf L69.keys L69.outs (.exit 0)) = some [Value.string s, Value.int IntKind.i64 (i : Int)]) (g3 : [11].map st'.hp.get = [some (rowS cs)]) :
        ∃ n ex tmO st', (∀ tm2, Sub (putT L69.keys (L69.hv (s, i, cs)) .nil) tm2 → ∃ tm2', run (Cx.of Tryd.prog) ovn2 n L69.c L69.nt tm2 ⟨over0 (keepIds st0.hp L69.ids) (L69.ho (s, i, cs)), L69.n0⟩ = some (ex, tm2', st') ∧ Sub tmO tm2') ∧
          ((ex = .normal ∧ ∃ (x' : ByteArray × Nat × List Value) (ρ : Rho) (vs' : List Value), readT tmO L69.keys = some vs' ∧ L69.pre x' ∧ x'.2.2.length - x'.2.1 < cs.length - i ∧ (L69.ex x' = L69.ex (s, i, cs) ∧ L69.rv x' = L69.rv (s, i, cs) ∧ L69.ro x' = L69.ro (s, i, cs)) ∧ Fit (Cx.of Tryd.prog) st0.ct L69 x' ρ vs' st'.hp ∧ stays st0.ct L69.s0 ρ) ∨
           (ex ≠ .normal ∧ ex = L69.ex (s, i, cs) ∧ ∃ τ, readT tmO L69.outs = some (renL (tauB L69.s0 τ) (L69.rv (s, i, cs))) ∧ FitR (tauB L69.s0 τ) st'.hp (L69.ro (s, i, cs)) ∧ distR (tauB L69.s0 τ) (L69.ro (s, i, cs)) (L69.ro (s, i, cs)) = true)) := by
      obtain ⟨s1, s2⟩ := stop hx rfl
      refine ⟨1000, .exit 0, tmO, st', g1, .inr ⟨(by intro h; cases h), rfl, [], ?_, ?_, ?_⟩⟩
      · rw [s1]; exact g2
      · rw [s2]
        refine ⟨?_, trivial⟩
        show st'.hp.get 11 = some (renO _ (rowS cs))
        rw [renO_rowS _ _ hc, map_one g3]
      · rw [s2]; kernel_rfl
    by_cases h1 : i + 1 < cs.length
    · have hk : cs.length - 1 - i = (cs.length - 1 - (i + 1)) + 1 := by omega
      -- a point is there
      have goOn {ws : List Value} {u : ByteArray} {tmO : T Value} {st' : St} (hd : ¬ iS s < 0) (hu : u = fS s)
          (g1 : ∀ tm2, Sub (putT L69.keys (L69.hv (s, i, cs)) .nil) tm2 → ∃ tm2', run (Cx.of Tryd.prog) ovn2 1000 L69.c L69.nt tm2 ⟨over0 (keepIds st0.hp L69.ids) (L69.ho (s, i, cs)), L69.n0⟩ = some (.normal, tm2', st') ∧ Sub tmO tm2')
          (hw : ws = [Value.string (lS s), Value.string dotS, Value.int IntKind.i64 (0 : Int), Value.int IntKind.i64 ((cs.length : Int) - 1), Value.slice (some ⟨11, 0, none⟩) cs.length cs.length, Value.int IntKind.i64 ((i : Int) + 1)])
          (g2 : readT tmO (ksOf L69.keys L69.outs .normal) = some ws) (g3 : [11].map st'.hp.get = [some (rowS (setAt cs (0 + (i : Int).toNat * 1) [Value.string u]))]) :
          ∃ n ex tmO st', (∀ tm2, Sub (putT L69.keys (L69.hv (s, i, cs)) .nil) tm2 → ∃ tm2', run (Cx.of Tryd.prog) ovn2 n L69.c L69.nt tm2 ⟨over0 (keepIds st0.hp L69.ids) (L69.ho (s, i, cs)), L69.n0⟩ = some (ex, tm2', st') ∧ Sub tmO tm2') ∧
          ((ex = .normal ∧ ∃ (x' : ByteArray × Nat × List Value) (ρ : Rho) (vs' : List Value), readT tmO L69.keys = some vs' ∧ L69.pre x' ∧ x'.2.2.length - x'.2.1 < cs.length - i ∧ (L69.ex x' = L69.ex (s, i, cs) ∧ L69.rv x' = L69.rv (s, i, cs) ∧ L69.ro x' = L69.ro (s, i, cs)) ∧ Fit (Cx.of Tryd.prog) st0.ct L69 x' ρ vs' st'.hp ∧ stays st0.ct L69.s0 ρ) ∨
           (ex ≠ .normal ∧ ex = L69.ex (s, i, cs) ∧ ∃ τ, readT tmO L69.outs = some (renL (tauB L69.s0 τ) (L69.rv (s, i, cs))) ∧ FitR (tauB L69.s0 τ) st'.hp (L69.ro (s, i, cs)) ∧ distR (tauB L69.s0 τ) (L69.ro (s, i, cs)) (L69.ro (s, i, cs)) = true)) := by
        subst hu
        have g3 := map_one g3
        rw [e0] at g3
        have hlen := setAt_len (cs := cs) (i := i) (v := .string (fS s)) (by omega)
        have hstep : spl (cs.length - 1 - i) s i cs = spl ((setAt cs i [.string (fS s)]).length - 1 - (i + 1)) (lS s) (i + 1) (setAt cs i [.string (fS s)]) := by
          rw [hk, spl, if_neg hd, hlen]
        refine ⟨1000, .normal, tmO, st', g1, .inl ⟨rfl, (lS s, i + 1, setAt cs i [.string (fS s)]), [(11, .id 11)], ws, g2, ⟨?_, setAt_str hc, ?_, ?_⟩, ?_, ⟨rfl, ?_, ?_⟩, ⟨⟨⟨true, ?_, fun _ => rfl⟩, trivial⟩, ?_, by kernel_rfl⟩, fun i h1 h2 => by obtain rfl := eleven h1 h2; rfl⟩⟩
        · show (lS s).size ≤ 1000
          unfold lS; rw [ByteArray.size_extract]; omega
        · show i + 1 + 1 ≤ (setAt cs i [.string (fS s)]).length; omega
        · show (setAt cs i [.string (fS s)]).length ≤ 2000; omega
        · show (setAt cs i [.string (fS s)]).length - (i + 1) < cs.length - i; omega
        · show [Value.string (spl ((setAt cs i [.string (fS s)]).length - 1 - (i + 1)) (lS s) (i + 1) (setAt cs i [.string (fS s)])).1, Value.int .i64 (spl ((setAt cs i [.string (fS s)]).length - 1 - (i + 1)) (lS s) (i + 1) (setAt cs i [.string (fS s)])).2.1] = [Value.string (spl (cs.length - 1 - i) s i cs).1, Value.int .i64 (spl (cs.length - 1 - i) s i cs).2.1]
          rw [hstep]
        · show [(11, rowS (spl ((setAt cs i [.string (fS s)]).length - 1 - (i + 1)) (lS s) (i + 1) (setAt cs i [.string (fS s)])).2.2)] = [(11, rowS (spl (cs.length - 1 - i) s i cs).2.2)]
          rw [hstep]
        · rw [g3]
          show some (rowS _) = some (reWr true (renO _ (rowS (setAt cs i [.string (fS s)]))))
          rw [renO_rowS _ _ (setAt_str hc)]; rfl
        · rw [hw]
          refine ⟨.inl ⟨rfl, rfl⟩, .inl ⟨rfl, rfl⟩, .inl ⟨rfl, rfl⟩, .inl ⟨?_, rfl⟩, .inl ⟨?_, by kernel_rfl⟩, .inl ⟨rfl, rfl⟩, trivial⟩
          · show _ = ren _ (Value.int .i64 (((setAt cs i [.string (fS s)]).length : Int) - 1))
            rw [hlen]; rfl
          · show _ = ren _ (Value.slice (some ⟨11, 0, none⟩) (setAt cs i [.string (fS s)]).length (setAt cs i [.string (fS s)]).length)
            rw [hlen]; kernel_rfl
      have hb : (0 + (i : Int).toNat * 1 + 1).ble cs.length = true := Nat.ble_eq.mpr (by omega)
      have hac (u : ByteArray) : AllC [.string u] := fun v hv => by rw [List.mem_singleton] at hv; subst hv; rfl
      cases ed : eqS dotS s with
      | true =>
        have es : s = dotS := by
          unfold eqS at ed
          exact (ByteArray.ext (Array.toList_inj.1 (of_decide_eq_true ed))).symm
        have z : iS s = 0 := by rw [es]; rfl
        have z1 : s.size = 1 := by rw [es]; rfl
        obtain ⟨tmO, st', g1, g2, g3⟩ := R69_1 s i cs ⟨decide_eq_true (by omega), decide_eq_true (by omega), hac _, hb, decide_eq_true (by omega), decide_eq_true (by omega), ed, decide_eq_true (by omega), trivial⟩
        exact goOn (u := s.extract 0 0) (by omega) (by unfold fS; rw [z]; rfl) g1 (by unfold lS; rw [z]; rfl) g2 g3
      | false =>
        by_cases hd : iS s < 0
        · obtain ⟨tmO, st', g1, g2, g3⟩ := R69_2 s i cs ⟨decide_eq_true hd, ⟨_, _, rfl⟩, ed, decide_eq_true (by omega), trivial⟩
          exact fin (by rw [hk, spl, if_pos hd]) g1 g2 g3
        · obtain ⟨tmO, st', g1, g2, g3⟩ := R69_0 s i cs ⟨decide_eq_true (by omega), decide_eq_true (by omega), decide_eq_true (by omega), hac _, hb, decide_eq_true (by omega), decide_eq_true (by omega), decide_eq_true (by omega), decide_eq_false hd, ⟨_, _, rfl⟩, ed, decide_eq_true (by omega), trivial⟩
          exact goOn (u := s.extract 0 (iS s + 0).toNat) hd (by unfold fS; rw [Int.add_zero]) g1 rfl g2 g3
    · obtain ⟨tmO, st', g1, g2, g3⟩ := R69_3 s i cs ⟨decide_eq_false (by omega), trivial⟩
      exact fin (by rw [show cs.length - 1 - i = 0 by omega]; rfl) g1 g2 g3⟩
end Go.Proofs.YtgmojlibppmfhaaDoor

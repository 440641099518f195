/- Runs of the abstract interpreter, part 26: by an AI agent. -/
import Derived.Test.YtgmojlibppmfhaaDoorPart25

namespace Go.Proofs.YtgmojlibppmfhaaDoor
open Go Go.Ai
def R49_a0 (s : ByteArray) (a x : Int) (f : Bool) (k : Nat) (o : Bool) : List Prop := [(decide ((k : Int) < (4 : Int))) = false]
theorem R49_0 (s : ByteArray) (a x : Int) (f : Bool) (k : Nat) (o : Bool) (h : Holds (R49_a0 s a x f k o)) :
    ∃ tmO st', (∀ tm2, Sub (putT L49.keys (L49.hv ⟨s, a, x, f, k, o⟩) .nil) tm2 → ∃ tm2', run (Cx.of Tryd.prog) ovx2 1000 L49.c L49.nt tm2 ⟨over0 (keepIds st0.hp L49.ids) (L49.ho ⟨s, a, x, f, k, o⟩), L49.n0⟩ = some ((.exit (0 : Nat)), tm2', st') ∧ Sub tmO tm2') ∧ readT tmO (ksOf L49.keys L49.outs (.exit (0 : Nat))) = some [Value.int IntKind.u32 (0 : Int), Value.int IntKind.i64 (0 : Int), Value.bool false, Value.int IntKind.i64 a, Value.int IntKind.i64 x, Value.bool f] ∧ [].map st'.hp.get = [] :=
  path_round refx2 (toks := [.no]) (by kernel_rfl) h
def R49_a1 (s : ByteArray) (a x : Int) (f : Bool) (k : Nat) (o : Bool) : List Prop := [(rowM s a == (0 : Int)) = true, C51.pre [Value.string s, Value.int IntKind.i64 a], (decide ((k : Int) > (0 : Int))) = false, (decide ((k : Int) < (4 : Int))) = true]
theorem R49_1 (s : ByteArray) (a x : Int) (f : Bool) (k : Nat) (o : Bool) (h : Holds (R49_a1 s a x f k o)) :
    ∃ tmO st', (∀ tm2, Sub (putT L49.keys (L49.hv ⟨s, a, x, f, k, o⟩) .nil) tm2 → ∃ tm2', run (Cx.of Tryd.prog) ovx2 1000 L49.c L49.nt tm2 ⟨over0 (keepIds st0.hp L49.ids) (L49.ho ⟨s, a, x, f, k, o⟩), L49.n0⟩ = some (.ret, tm2', st') ∧ Sub tmO tm2') ∧ readT tmO (ksOf L49.keys L49.outs .ret) = some [Value.int IntKind.u32 (0 : Int), Value.int IntKind.i64 (0 : Int), Value.bool false, Value.int IntKind.i64 a, Value.int IntKind.i64 x, Value.bool f] ∧ [].map st'.hp.get = [] :=
  path_round refx2 (toks := [.yes, .no, .yes]) (by kernel_rfl) h
def R49_a2 (s : ByteArray) (a x : Int) (f : Bool) (k : Nat) (o : Bool) : List Prop := [(decide ((-9223372036854775808 : Int) ≤ (k : Int) + (1 : Int) ∧ (k : Int) + (1 : Int) ≤ (9223372036854775807 : Int))) = true, (decide ((-9223372036854775808 : Int) ≤ a + rowM s a ∧ a + rowM s a ≤ (9223372036854775807 : Int))) = true, (decide ((-9223372036854775808 : Int) ≤ (256 : Int) * x + rowN s a % (256 : Int) ∧ (256 : Int) * x + rowN s a % (256 : Int) ≤ (9223372036854775807 : Int))) = true, (decide ((0 : Int) ≤ rowN s a ∧ (0 : Int) < (256 : Int))) = true, (decide ((-9223372036854775808 : Int) ≤ (256 : Int) * x ∧ (256 : Int) * x ≤ (9223372036854775807 : Int))) = true, (decide (rowN s a > (255 : Int))) = false, (rowM s a == (0 : Int)) = false, C51.pre [Value.string s, Value.int IntKind.i64 a], (decide ((k : Int) > (0 : Int))) = false, (decide ((k : Int) < (4 : Int))) = true]
theorem R49_2 (s : ByteArray) (a x : Int) (f : Bool) (k : Nat) (o : Bool) (h : Holds (R49_a2 s a x f k o)) :
    ∃ tmO st', (∀ tm2, Sub (putT L49.keys (L49.hv ⟨s, a, x, f, k, o⟩) .nil) tm2 → ∃ tm2', run (Cx.of Tryd.prog) ovx2 1000 L49.c L49.nt tm2 ⟨over0 (keepIds st0.hp L49.ids) (L49.ho ⟨s, a, x, f, k, o⟩), L49.n0⟩ = some (.normal, tm2', st') ∧ Sub tmO tm2') ∧ readT tmO (ksOf L49.keys L49.outs .normal) = some [Value.string s, Value.int IntKind.u32 (0 : Int), Value.int IntKind.i64 (0 : Int), Value.bool false, Value.int IntKind.i64 (a + rowM s a), Value.int IntKind.i64 ((256 : Int) * x + rowN s a % (256 : Int)), Value.bool f, Value.int IntKind.i64 ((k : Int) + (1 : Int))] ∧ [].map st'.hp.get = [] :=
  path_round refx2 (toks := [.yes, .no, .no, .no, .yes, .ev, .yes, .yes, .yes, .yes]) (by kernel_rfl) h
def R49_a3 (s : ByteArray) (a x : Int) (f : Bool) (k : Nat) (o : Bool) : List Prop := [(decide ((-9223372036854775808 : Int) ≤ (k : Int) + (1 : Int) ∧ (k : Int) + (1 : Int) ≤ (9223372036854775807 : Int))) = true, (decide ((-9223372036854775808 : Int) ≤ a + rowM s a ∧ a + rowM s a ≤ (9223372036854775807 : Int))) = true, (decide ((-9223372036854775808 : Int) ≤ (256 : Int) * x + rowN s a % (256 : Int) ∧ (256 : Int) * x + rowN s a % (256 : Int) ≤ (9223372036854775807 : Int))) = true, (decide ((0 : Int) ≤ rowN s a ∧ (0 : Int) < (256 : Int))) = true, (decide ((-9223372036854775808 : Int) ≤ (256 : Int) * x ∧ (256 : Int) * x ≤ (9223372036854775807 : Int))) = true, (decide (rowN s a > (255 : Int))) = true, (rowM s a == (0 : Int)) = false, C51.pre [Value.string s, Value.int IntKind.i64 a], (decide ((k : Int) > (0 : Int))) = false, (decide ((k : Int) < (4 : Int))) = true]
theorem R49_3 (s : ByteArray) (a x : Int) (f : Bool) (k : Nat) (o : Bool) (h : Holds (R49_a3 s a x f k o)) :
    ∃ tmO st', (∀ tm2, Sub (putT L49.keys (L49.hv ⟨s, a, x, f, k, o⟩) .nil) tm2 → ∃ tm2', run (Cx.of Tryd.prog) ovx2 1000 L49.c L49.nt tm2 ⟨over0 (keepIds st0.hp L49.ids) (L49.ho ⟨s, a, x, f, k, o⟩), L49.n0⟩ = some (.normal, tm2', st') ∧ Sub tmO tm2') ∧ readT tmO (ksOf L49.keys L49.outs .normal) = some [Value.string s, Value.int IntKind.u32 (0 : Int), Value.int IntKind.i64 (0 : Int), Value.bool false, Value.int IntKind.i64 (a + rowM s a), Value.int IntKind.i64 ((256 : Int) * x + rowN s a % (256 : Int)), Value.bool false, Value.int IntKind.i64 ((k : Int) + (1 : Int))] ∧ [].map st'.hp.get = [] :=
  path_round refx2 (toks := [.yes, .no, .no, .yes, .yes, .ev, .yes, .yes, .yes, .yes]) (by kernel_rfl) h
def R49_a4 (s : ByteArray) (a x : Int) (f : Bool) (k : Nat) (o : Bool) : List Prop := [(decide (a ≥ (s.size : Int))) = true, (decide (a ≥ (s.size : Int))) = true, (decide (a ≥ (s.size : Int))) = true, (decide (a ≥ (s.size : Int))) = true, (decide (a ≥ (s.size : Int))) = true, (decide ((k : Int) > (0 : Int))) = true, (decide ((k : Int) < (4 : Int))) = true]
theorem R49_4 (s : ByteArray) (a x : Int) (f : Bool) (k : Nat) (o : Bool) (h : Holds (R49_a4 s a x f k o)) :
    ∃ tmO st', (∀ tm2, Sub (putT L49.keys (L49.hv ⟨s, a, x, f, k, o⟩) .nil) tm2 → ∃ tm2', run (Cx.of Tryd.prog) ovx2 1000 L49.c L49.nt tm2 ⟨over0 (keepIds st0.hp L49.ids) (L49.ho ⟨s, a, x, f, k, o⟩), L49.n0⟩ = some (.ret, tm2', st') ∧ Sub tmO tm2') ∧ readT tmO (ksOf L49.keys L49.outs .ret) = some [Value.int IntKind.u32 (0 : Int), Value.int IntKind.i64 (0 : Int), Value.bool false, Value.int IntKind.i64 a, Value.int IntKind.i64 x, Value.bool f] ∧ [].map st'.hp.get = [] :=
  path_round refx2 (toks := [.yes, .yes, .yes, .yes, .yes, .yes, .yes, .ev]) (by kernel_rfl) h
def R49_a5 (s : ByteArray) (a x : Int) (f : Bool) (k : Nat) (o : Bool) : List Prop := [(byteAt s a.toNat != (46 : Int)) = true, (decide (a ≥ (s.size : Int))) = false, (decide (a ≥ (s.size : Int))) = false, (decide ((0 : Int) ≤ a ∧ a < (s.size : Int))) = true, (decide (a ≥ (s.size : Int))) = false, (decide (a ≥ (s.size : Int))) = false, (decide (a ≥ (s.size : Int))) = false, (decide ((k : Int) > (0 : Int))) = true, (decide ((k : Int) < (4 : Int))) = true]
theorem R49_5 (s : ByteArray) (a x : Int) (f : Bool) (k : Nat) (o : Bool) (h : Holds (R49_a5 s a x f k o)) :
    ∃ tmO st', (∀ tm2, Sub (putT L49.keys (L49.hv ⟨s, a, x, f, k, o⟩) .nil) tm2 → ∃ tm2', run (Cx.of Tryd.prog) ovx2 1000 L49.c L49.nt tm2 ⟨over0 (keepIds st0.hp L49.ids) (L49.ho ⟨s, a, x, f, k, o⟩), L49.n0⟩ = some (.ret, tm2', st') ∧ Sub tmO tm2') ∧ readT tmO (ksOf L49.keys L49.outs .ret) = some [Value.int IntKind.u32 (0 : Int), Value.int IntKind.i64 (0 : Int), Value.bool false, Value.int IntKind.i64 a, Value.int IntKind.i64 x, Value.bool f] ∧ [].map st'.hp.get = [] :=
  path_round refx2 (toks := [.yes, .yes, .no, .no, .no, .yes, .no, .no, .yes]) (by kernel_rfl) h
def R49_a6 (s : ByteArray) (a x : Int) (f : Bool) (k : Nat) (o : Bool) : List Prop := [(rowM s (a + (1 : Int)) == (0 : Int)) = true, C51.pre [Value.string s, Value.int IntKind.i64 (a + (1 : Int))], (decide ((-9223372036854775808 : Int) ≤ a + (1 : Int) ∧ a + (1 : Int) ≤ (9223372036854775807 : Int))) = true, (byteAt s a.toNat != (46 : Int)) = false, (decide (a ≥ (s.size : Int))) = false, (decide (a ≥ (s.size : Int))) = false, (decide ((0 : Int) ≤ a ∧ a < (s.size : Int))) = true, (decide (a ≥ (s.size : Int))) = false, (decide (a ≥ (s.size : Int))) = false, (decide (a ≥ (s.size : Int))) = false, (decide ((k : Int) > (0 : Int))) = true, (decide ((k : Int) < (4 : Int))) = true]
theorem R49_6 (s : ByteArray) (a x : Int) (f : Bool) (k : Nat) (o : Bool) (h : Holds (R49_a6 s a x f k o)) :
    ∃ tmO st', (∀ tm2, Sub (putT L49.keys (L49.hv ⟨s, a, x, f, k, o⟩) .nil) tm2 → ∃ tm2', run (Cx.of Tryd.prog) ovx2 1000 L49.c L49.nt tm2 ⟨over0 (keepIds st0.hp L49.ids) (L49.ho ⟨s, a, x, f, k, o⟩), L49.n0⟩ = some (.ret, tm2', st') ∧ Sub tmO tm2') ∧ readT tmO (ksOf L49.keys L49.outs .ret) = some [Value.int IntKind.u32 (0 : Int), Value.int IntKind.i64 (0 : Int), Value.bool false, Value.int IntKind.i64 (a + (1 : Int)), Value.int IntKind.i64 x, Value.bool f] ∧ [].map st'.hp.get = [] :=
  path_round refx2 (toks := [.yes, .yes, .no, .no, .no, .yes, .no, .no, .no, .yes, .yes]) (by kernel_rfl) h
def R49_a7 (s : ByteArray) (a x : Int) (f : Bool) (k : Nat) (o : Bool) : List Prop := [(decide ((-9223372036854775808 : Int) ≤ (k : Int) + (1 : Int) ∧ (k : Int) + (1 : Int) ≤ (9223372036854775807 : Int))) = true, (decide ((-9223372036854775808 : Int) ≤ a + (1 : Int) + rowM s (a + (1 : Int)) ∧ a + (1 : Int) + rowM s (a + (1 : Int)) ≤ (9223372036854775807 : Int))) = true, (decide ((-9223372036854775808 : Int) ≤ (256 : Int) * x + rowN s (a + (1 : Int)) % (256 : Int) ∧ (256 : Int) * x + rowN s (a + (1 : Int)) % (256 : Int) ≤ (9223372036854775807 : Int))) = true, (decide ((0 : Int) ≤ rowN s (a + (1 : Int)) ∧ (0 : Int) < (256 : Int))) = true, (decide ((-9223372036854775808 : Int) ≤ (256 : Int) * x ∧ (256 : Int) * x ≤ (9223372036854775807 : Int))) = true, (decide (rowN s (a + (1 : Int)) > (255 : Int))) = false, (rowM s (a + (1 : Int)) == (0 : Int)) = false, C51.pre [Value.string s, Value.int IntKind.i64 (a + (1 : Int))], (decide ((-9223372036854775808 : Int) ≤ a + (1 : Int) ∧ a + (1 : Int) ≤ (9223372036854775807 : Int))) = true, (byteAt s a.toNat != (46 : Int)) = false, (decide (a ≥ (s.size : Int))) = false, (decide (a ≥ (s.size : Int))) = false, (decide ((0 : Int) ≤ a ∧ a < (s.size : Int))) = true, (decide (a ≥ (s.size : Int))) = false, (decide (a ≥ (s.size : Int))) = false, (decide (a ≥ (s.size : Int))) = false, (decide ((k : Int) > (0 : Int))) = true, (decide ((k : Int) < (4 : Int))) = true]
theorem R49_7 (s : ByteArray) (a x : Int) (f : Bool) (k : Nat) (o : Bool) (h : Holds (R49_a7 s a x f k o)) :
    ∃ tmO st', (∀ tm2, Sub (putT L49.keys (L49.hv ⟨s, a, x, f, k, o⟩) .nil) tm2 → ∃ tm2', run (Cx.of Tryd.prog) ovx2 1000 L49.c L49.nt tm2 ⟨over0 (keepIds st0.hp L49.ids) (L49.ho ⟨s, a, x, f, k, o⟩), L49.n0⟩ = some (.normal, tm2', st') ∧ Sub tmO tm2') ∧ readT tmO (ksOf L49.keys L49.outs .normal) = some [Value.string s, Value.int IntKind.u32 (0 : Int), Value.int IntKind.i64 (0 : Int), Value.bool false, Value.int IntKind.i64 (a + (1 : Int) + rowM s (a + (1 : Int))), Value.int IntKind.i64 ((256 : Int) * x + rowN s (a + (1 : Int)) % (256 : Int)), Value.bool f, Value.int IntKind.i64 ((k : Int) + (1 : Int))] ∧ [].map st'.hp.get = [] :=
  path_round refx2 (toks := [.yes, .yes, .no, .no, .no, .yes, .no, .no, .no, .yes, .no, .no, .yes, .ev, .yes, .yes, .yes, .yes]) (by kernel_rfl) h
def R49_a8 (s : ByteArray) (a x : Int) (f : Bool) (k : Nat) (o : Bool) : List Prop := [(decide ((-9223372036854775808 : Int) ≤ (k : Int) + (1 : Int) ∧ (k : Int) + (1 : Int) ≤ (9223372036854775807 : Int))) = true, (decide ((-9223372036854775808 : Int) ≤ a + (1 : Int) + rowM s (a + (1 : Int)) ∧ a + (1 : Int) + rowM s (a + (1 : Int)) ≤ (9223372036854775807 : Int))) = true, (decide ((-9223372036854775808 : Int) ≤ (256 : Int) * x + rowN s (a + (1 : Int)) % (256 : Int) ∧ (256 : Int) * x + rowN s (a + (1 : Int)) % (256 : Int) ≤ (9223372036854775807 : Int))) = true, (decide ((0 : Int) ≤ rowN s (a + (1 : Int)) ∧ (0 : Int) < (256 : Int))) = true, (decide ((-9223372036854775808 : Int) ≤ (256 : Int) * x ∧ (256 : Int) * x ≤ (9223372036854775807 : Int))) = true, (decide (rowN s (a + (1 : Int)) > (255 : Int))) = true, (rowM s (a + (1 : Int)) == (0 : Int)) = false, C51.pre [Value.string s, Value.int IntKind.i64 (a + (1 : Int))], (decide ((-9223372036854775808 : Int) ≤ a + (1 : Int) ∧ a + (1 : Int) ≤ (9223372036854775807 : Int))) = true, (byteAt s a.toNat != (46 : Int)) = false, (decide (a ≥ (s.size : Int))) = false, (decide (a ≥ (s.size : Int))) = false, (decide ((0 : Int) ≤ a ∧ a < (s.size : Int))) = true, (decide (a ≥ (s.size : Int))) = false, (decide (a ≥ (s.size : Int))) = false, (decide (a ≥ (s.size : Int))) = false, (decide ((k : Int) > (0 : Int))) = true, (decide ((k : Int) < (4 : Int))) = true]
theorem R49_8 (s : ByteArray) (a x : Int) (f : Bool) (k : Nat) (o : Bool) (h : Holds (R49_a8 s a x f k o)) :
    ∃ tmO st', (∀ tm2, Sub (putT L49.keys (L49.hv ⟨s, a, x, f, k, o⟩) .nil) tm2 → ∃ tm2', run (Cx.of Tryd.prog) ovx2 1000 L49.c L49.nt tm2 ⟨over0 (keepIds st0.hp L49.ids) (L49.ho ⟨s, a, x, f, k, o⟩), L49.n0⟩ = some (.normal, tm2', st') ∧ Sub tmO tm2') ∧ readT tmO (ksOf L49.keys L49.outs .normal) = some [Value.string s, Value.int IntKind.u32 (0 : Int), Value.int IntKind.i64 (0 : Int), Value.bool false, Value.int IntKind.i64 (a + (1 : Int) + rowM s (a + (1 : Int))), Value.int IntKind.i64 ((256 : Int) * x + rowN s (a + (1 : Int)) % (256 : Int)), Value.bool false, Value.int IntKind.i64 ((k : Int) + (1 : Int))] ∧ [].map st'.hp.get = [] :=
  path_round refx2 (toks := [.yes, .yes, .no, .no, .no, .yes, .no, .no, .no, .yes, .no, .yes, .yes, .ev, .yes, .yes, .yes, .yes]) (by kernel_rfl) h
def RoundOf (P : Program) (ov : Ov) (st0 : St) (L : ML) (meas : L.X → Nat) (x : L.X) : Prop := ∃ n ex tmO st',
    (∀ tm2, Sub (putT L.keys (L.hv x) .nil) tm2 → ∃ tm2', run (Cx.of P) ov n L.c L.nt tm2 ⟨over0 (keepIds st0.hp L.ids) (L.ho x), L.n0⟩ = some (ex, tm2', st') ∧ Sub tmO tm2') ∧
    ((ex = .normal ∧ ∃ x' ρ vs', readT tmO L.keys = some vs' ∧ L.pre x' ∧ meas x' < meas x ∧ (L.ex x' = L.ex x ∧ L.rv x' = L.rv x ∧ L.ro x' = L.ro x) ∧ Fit (Cx.of P) st0.ct L x' ρ vs' st'.hp ∧ stays st0.ct L.s0 ρ) ∨
     (ex ≠ .normal ∧ ex = L.ex x ∧ ∃ τ, readT tmO L.outs = some (renL (tauB L.s0 τ) (L.rv x)) ∧ FitR (tauB L.s0 τ) st'.hp (L.ro x) ∧ distR (tauB L.s0 τ) (L.ro x) (L.ro x) = true))
theorem L49_good : L49.Good Tryd.prog ovx2 st0 where
  keep := by kernel_rfl
  b0 := of_decide_eq_true (by kernel_rfl)
  b1 := Nat.le_refl _
  b2 := Nat.le_refl _
  outs := of_decide_eq_true (by kernel_rfl)
  head := fun _ _ => ⟨rfl, fun i h1 h2 => absurd h2 (Nat.not_lt.2 h1)⟩
  tail := fun _ _ => ⟨rfl, rfl⟩
  ok := ⟨fun (y : A49) => 4 - y.k, fun (y : A49) ⟨h1, h2, h3, h4, h5, h6, h7⟩ => by
    obtain ⟨s, a, x, f, k, o⟩ := y
    simp only at h1 h2 h3 h4 h5 h6 h7
    have out (ex : Ex) {tmO : T Value} {st' : St} {v : Bool × Int × Int × Bool}
        (g1 : ∀ tm2, Sub (putT L49.keys (L49.hv ⟨s, a, x, f, k, o⟩) .nil) tm2 → ∃ tm2', run (Cx.of Tryd.prog) ovx2 1000 L49.c L49.nt tm2 ⟨over0 (keepIds st0.hp L49.ids) (L49.ho ⟨s, a, x, f, k, o⟩), L49.n0⟩ = some (ex, tm2', st') ∧ Sub tmO tm2')
        (hne : ex ≠ .normal) (hr : adrR s (4 - k) k a x f = v) (he : ex = exB 0 v.1)
        (g2 : readT tmO L49.outs = some [.int .u32 0, .int .i64 0, .bool false, .int .i64 v.2.1, .int .i64 v.2.2.1, .bool v.2.2.2]) :
        RoundOf Tryd.prog ovx2 st0 L49 (fun (y : A49) => 4 - y.k) ⟨s, a, x, f, k, o⟩ := by
      refine ⟨1000, ex, tmO, st', g1, .inr ⟨hne, ?_, [], ?_, trivial, rfl⟩⟩
      · rw [he, ← hr, h7]; rfl
      · rw [g2]
        show _ = some (renL _ [.int .u32 0, .int .i64 0, .bool false, .int .i64 (adrR s (4 - k) k a x f).2.1, .int .i64 (adrR s (4 - k) k a x f).2.2.1, .bool (adrR s (4 - k) k a x f).2.2.2])
        rw [hr]; rfl
    have go (y : A49) {tmO : T Value} {st' : St}
        (g1 : ∀ tm2, Sub (putT L49.keys (L49.hv ⟨s, a, x, f, k, o⟩) .nil) tm2 → ∃ tm2', run (Cx.of Tryd.prog) ovx2 1000 L49.c L49.nt tm2 ⟨over0 (keepIds st0.hp L49.ids) (L49.ho ⟨s, a, x, f, k, o⟩), L49.n0⟩ = some (.normal, tm2', st') ∧ Sub tmO tm2')
        (g2 : readT tmO L49.keys = some (L49.hv y)) (hk : y.k = k + 1) (hk4 : k < 4) (ho : y.ok = o)
        (hp : y.s.size ≤ 1000 ∧ 0 ≤ y.a ∧ y.a ≤ y.s.size ∧ 0 ≤ y.x ∧ y.x < ((256 ^ y.k : Nat) : Int)) (hr : adrR s (4 - k) k a x f = adrR y.s (4 - y.k) y.k y.a y.x y.f) :
        RoundOf Tryd.prog ovx2 st0 L49 (fun (y : A49) => 4 - y.k) ⟨s, a, x, f, k, o⟩ := by
      refine ⟨1000, .normal, tmO, st', g1, .inl ⟨rfl, y, [], _, g2, ⟨hp.1, hp.2.1, hp.2.2.1, hp.2.2.2.1, hp.2.2.2.2, by omega, ?_⟩, ?_, ⟨?_, ?_, rfl⟩, ⟨trivial, ?_, rfl⟩, fun i h1 h2 => absurd h2 (Nat.not_lt.2 h1)⟩⟩
      · rw [← hr, h7, ho]
      · show 4 - y.k < 4 - k; omega
      · show exB 0 y.ok = exB 0 o
        rw [ho]
      · show [Value.int .u32 0, .int .i64 0, .bool false, .int .i64 (adrR y.s (4 - y.k) y.k y.a y.x y.f).2.1, .int .i64 (adrR y.s (4 - y.k) y.k y.a y.x y.f).2.2.1, .bool (adrR y.s (4 - y.k) y.k y.a y.x y.f).2.2.2] = [Value.int .u32 0, .int .i64 0, .bool false, .int .i64 (adrR s (4 - k) k a x f).2.1, .int .i64 (adrR s (4 - k) k a x f).2.2.1, .bool (adrR s (4 - k) k a x f).2.2.2]
        rw [hr]
      · exact ⟨.inl ⟨rfl, rfl⟩, .inl ⟨rfl, rfl⟩, .inl ⟨rfl, rfl⟩, .inl ⟨rfl, rfl⟩, .inl ⟨rfl, rfl⟩, .inl ⟨rfl, rfl⟩, .inl ⟨rfl, rfl⟩, .inl ⟨rfl, rfl⟩, trivial⟩
    by_cases hk : k < 4
    · obtain ⟨j, hj⟩ : ∃ j, 4 - k = j + 1 := ⟨3 - k, by omega⟩
      have hp4 := Nat.pow_le_pow_right (show 0 < 256 by omega) (show k ≤ 3 by omega)
      have hq : (256 ^ 3 : Nat) = 16777216 := by decide
      rw [hq] at hp4
      have hps := Nat.pow_succ 256 k
      have hj1 : 4 - (k + 1) = j := by omega
      by_cases h0 : 0 < k
      · by_cases ha : a < s.size
        · by_cases hc : byteAt s a.toNat = 46
          · obtain ⟨w1, w2, w3, w4, w5, -⟩ := row_facts s (a := a + 1) (by omega)
            by_cases hm : rowM s (a + 1) = 0
            · obtain ⟨tmO, st', g1, g2, g3⟩ := R49_6 s a x f k o ⟨beq_iff_eq.2 hm, ⟨_, _, rfl, h1, by omega, by omega⟩, decide_eq_true (by omega), bne_eq_false_iff_eq.2 hc, decide_eq_false (by omega), decide_eq_false (by omega), decide_eq_true (by omega), decide_eq_false (by omega), decide_eq_false (by omega), decide_eq_false (by omega), decide_eq_true (by omega), decide_eq_true (by omega), trivial⟩
              exact out .ret (v := (false, a + 1, x, f)) g1 (by intro h; cases h) (by rw [hj, adrR, if_neg (fun h => h.2 ⟨ha, hc⟩), if_pos h0, if_pos hm]) rfl g2
            · have w3 := w3 (by omega)
              by_cases hb : 255 < rowN s (a + 1)
              · obtain ⟨tmO, st', g1, g2, g3⟩ := R49_8 s a x f k o ⟨decide_eq_true (by omega), decide_eq_true (by omega), decide_eq_true (by omega), decide_eq_true (by omega), decide_eq_true (by omega), decide_eq_true (by omega), beq_eq_false_iff_ne.2 hm, ⟨_, _, rfl, h1, by omega, by omega⟩, decide_eq_true (by omega), bne_eq_false_iff_eq.2 hc, decide_eq_false (by omega), decide_eq_false (by omega), decide_eq_true (by omega), decide_eq_false (by omega), decide_eq_false (by omega), decide_eq_false (by omega), decide_eq_true (by omega), decide_eq_true (by omega), trivial⟩
                refine go ⟨s, a + 1 + rowM s (a + 1), 256 * x + rowN s (a + 1) % 256, false, k + 1, o⟩ g1 g2 rfl (by omega) rfl ⟨h1, ?_, ?_, ?_, ?_⟩ ?_
                · show 0 ≤ a + 1 + rowM s (a + 1); omega
                · show a + 1 + rowM s (a + 1) ≤ s.size; omega
                · show 0 ≤ 256 * x + rowN s (a + 1) % 256; omega
                · show 256 * x + rowN s (a + 1) % 256 < ((256 ^ (k + 1) : Nat) : Int); rw [hps]; omega
                · show adrR s (4 - k) k a x f = adrR s (4 - (k + 1)) (k + 1) (a + 1 + rowM s (a + 1)) (256 * x + rowN s (a + 1) % 256) false
                  rw [hj, hj1, adrR, if_neg (fun h => h.2 ⟨ha, hc⟩), if_pos h0, if_neg hm, if_pos hb]
              · obtain ⟨tmO, st', g1, g2, g3⟩ := R49_7 s a x f k o ⟨decide_eq_true (by omega), decide_eq_true (by omega), decide_eq_true (by omega), decide_eq_true (by omega), decide_eq_true (by omega), decide_eq_false (by omega), beq_eq_false_iff_ne.2 hm, ⟨_, _, rfl, h1, by omega, by omega⟩, decide_eq_true (by omega), bne_eq_false_iff_eq.2 hc, decide_eq_false (by omega), decide_eq_false (by omega), decide_eq_true (by omega), decide_eq_false (by omega), decide_eq_false (by omega), decide_eq_false (by omega), decide_eq_true (by omega), decide_eq_true (by omega), trivial⟩
                refine go ⟨s, a + 1 + rowM s (a + 1), 256 * x + rowN s (a + 1) % 256, f, k + 1, o⟩ g1 g2 rfl (by omega) rfl ⟨h1, ?_, ?_, ?_, ?_⟩ ?_
                · show 0 ≤ a + 1 + rowM s (a + 1); omega
                · show a + 1 + rowM s (a + 1) ≤ s.size; omega
                · show 0 ≤ 256 * x + rowN s (a + 1) % 256; omega
                · show 256 * x + rowN s (a + 1) % 256 < ((256 ^ (k + 1) : Nat) : Int); rw [hps]; omega
                · show adrR s (4 - k) k a x f = adrR s (4 - (k + 1)) (k + 1) (a + 1 + rowM s (a + 1)) (256 * x + rowN s (a + 1) % 256) f
                  rw [hj, hj1, adrR, if_neg (fun h => h.2 ⟨ha, hc⟩), if_pos h0, if_neg hm, if_neg hb]
          · obtain ⟨tmO, st', g1, g2, g3⟩ := R49_5 s a x f k o ⟨bne_iff_ne.2 hc, decide_eq_false (by omega), decide_eq_false (by omega), decide_eq_true (by omega), decide_eq_false (by omega), decide_eq_false (by omega), decide_eq_false (by omega), decide_eq_true (by omega), decide_eq_true (by omega), trivial⟩
            exact out .ret (v := (false, a, x, f)) g1 (by intro h; cases h) (by rw [hj, adrR, if_pos ⟨h0, fun h => hc h.2⟩]) rfl g2
        · obtain ⟨tmO, st', g1, g2, g3⟩ := R49_4 s a x f k o ⟨decide_eq_true (by omega), decide_eq_true (by omega), decide_eq_true (by omega), decide_eq_true (by omega), decide_eq_true (by omega), decide_eq_true (by omega), decide_eq_true (by omega), trivial⟩
          exact out .ret (v := (false, a, x, f)) g1 (by intro h; cases h) (by rw [hj, adrR, if_pos ⟨h0, fun h => ha h.1⟩]) rfl g2
      · obtain rfl : k = 0 := by omega
        obtain ⟨w1, w2, w3, w4, w5, -⟩ := row_facts s (a := a) h2
        by_cases hm : rowM s a = 0
        · obtain ⟨tmO, st', g1, g2, g3⟩ := R49_1 s a x f 0 o ⟨beq_iff_eq.2 hm, ⟨_, _, rfl, h1, by omega, by omega⟩, decide_eq_false (by omega), decide_eq_true (by omega), trivial⟩
          exact out .ret (v := (false, a, x, f)) g1 (by intro h; cases h) (by rw [hj, adrR, if_neg (fun h => absurd h.1 (by omega)), if_neg h0, if_pos hm]) rfl g2
        · have w3 := w3 (by omega)
          by_cases hb : 255 < rowN s a
          · obtain ⟨tmO, st', g1, g2, g3⟩ := R49_3 s a x f 0 o ⟨decide_eq_true (by omega), decide_eq_true (by omega), decide_eq_true (by omega), decide_eq_true (by omega), decide_eq_true (by omega), decide_eq_true (by omega), beq_eq_false_iff_ne.2 hm, ⟨_, _, rfl, h1, by omega, by omega⟩, decide_eq_false (by omega), decide_eq_true (by omega), trivial⟩
            refine go ⟨s, a + rowM s a, 256 * x + rowN s a % 256, false, 0 + 1, o⟩ g1 g2 rfl (by omega) rfl ⟨h1, ?_, ?_, ?_, ?_⟩ ?_
            · show 0 ≤ a + rowM s a; omega
            · show a + rowM s a ≤ s.size; omega
            · show 0 ≤ 256 * x + rowN s a % 256; omega
            · show 256 * x + rowN s a % 256 < ((256 ^ (0 + 1) : Nat) : Int); rw [hps]; omega
            · show adrR s (4 - 0) 0 a x f = adrR s (4 - (0 + 1)) (0 + 1) (a + rowM s a) (256 * x + rowN s a % 256) false
              rw [hj, hj1, adrR, if_neg (fun h => absurd h.1 (by omega)), if_neg h0, if_neg hm, if_pos hb]
          · obtain ⟨tmO, st', g1, g2, g3⟩ := R49_2 s a x f 0 o ⟨decide_eq_true (by omega), decide_eq_true (by omega), decide_eq_true (by omega), decide_eq_true (by omega), decide_eq_true (by omega), decide_eq_false (by omega), beq_eq_false_iff_ne.2 hm, ⟨_, _, rfl, h1, by omega, by omega⟩, decide_eq_false (by omega), decide_eq_true (by omega), trivial⟩
            refine go ⟨s, a + rowM s a, 256 * x + rowN s a % 256, f, 0 + 1, o⟩ g1 g2 rfl (by omega) rfl ⟨h1, ?_, ?_, ?_, ?_⟩ ?_
            · show 0 ≤ a + rowM s a; omega
            · show a + rowM s a ≤ s.size; omega
            · show 0 ≤ 256 * x + rowN s a % 256; omega
            · show 256 * x + rowN s a % 256 < ((256 ^ (0 + 1) : Nat) : Int); rw [hps]; omega
            · show adrR s (4 - 0) 0 a x f = adrR s (4 - (0 + 1)) (0 + 1) (a + rowM s a) (256 * x + rowN s a % 256) f
              rw [hj, hj1, adrR, if_neg (fun h => absurd h.1 (by omega)), if_neg h0, if_neg hm, if_neg hb]
    · obtain rfl : k = 4 := by omega
      obtain ⟨tmO, st', g1, g2, g3⟩ := R49_0 s a x f 4 o ⟨decide_eq_false (by omega), trivial⟩
      exact out (.exit 0) (v := (true, a, x, f)) g1 (by intro h; cases h) (by show adrR s 0 4 a x f = (true, a, x, f); rfl) rfl g2⟩
end Go.Proofs.YtgmojlibppmfhaaDoor

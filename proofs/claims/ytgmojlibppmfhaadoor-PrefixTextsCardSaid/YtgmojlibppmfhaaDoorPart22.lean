/- Runs of the abstract interpreter, part 22: by an AI agent. -/
import Derived.Test.YtgmojlibppmfhaaDoorPart21

namespace Go.Proofs.YtgmojlibppmfhaaDoor
open Go Go.Ai
theorem cnt_range (c : UInt8) : ∀ (l : List UInt8) (n : Nat), n ≤ cntByte c l n ∧ cntByte c l n ≤ n + l.length
  | [], n => by simp [cntByte]
  | b :: l, n => by
    simp only [cntByte, List.length_cons]
    split
    · have := cnt_range c l (n + 1); omega
    · have := cnt_range c l n; omega
theorem cntI_range (s : ByteArray) : 0 ≤ cntI s 46 ∧ cntI s 46 ≤ s.size := by
  have := cnt_range (UInt8.ofNat (46 : Int).toNat) s.data.toList 0
  have e : s.data.toList.length = s.size := rfl
  unfold cntI; omega
theorem nS_range (s : ByteArray) : 1 ≤ nS s ∧ nS s ≤ s.size + 1 ∧ nS s ≤ cntI s 46 + 1 := by
  have := cntI_range s
  unfold nS; split <;> omega
theorem rep_str : ∀ (n : Nat), AllStr (rep n [.string ⟨⟨[]⟩⟩]) ∧ (rep n [Value.string ⟨⟨[]⟩⟩]).length = n
  | 0 => ⟨(fun v h => by cases h), rfl⟩
  | n + 1 => by
    obtain ⟨g1, g2⟩ := rep_str n
    refine ⟨fun v h => ?_, ?_⟩
    · rcases List.mem_cons.1 (show v ∈ Value.string ⟨⟨[]⟩⟩ :: rep n [Value.string ⟨⟨[]⟩⟩] from h) with h | h
      · exact ⟨_, h⟩
      · exact g1 v h
    · show (rep n [Value.string ⟨⟨[]⟩⟩]).length + 1 = n + 1
      rw [g2]
/-- texts of at most 1000 bytes -/
def BStr (cs : List Value) : Prop := ∀ v ∈ cs, ∃ s, v = .string s ∧ s.size ≤ 1000
theorem rep_b (n : Nat) : BStr (rep n [.string ⟨⟨[]⟩⟩]) := by
  induction n with
  | zero => intro v h; cases h
  | succ n ih =>
    intro v h
    rcases List.mem_cons.1 (show v ∈ Value.string ⟨⟨[]⟩⟩ :: rep n [Value.string ⟨⟨[]⟩⟩] from h) with h | h
    · exact ⟨_, h, Nat.zero_le _⟩
    · exact ih v h
theorem setAt_b {cs : List Value} {i : Nat} {s : ByteArray} (h : BStr cs) (hs : s.size ≤ 1000) : BStr (setAt cs i [.string s]) := by
  intro v hv
  unfold setAt at hv
  rcases List.mem_append.1 hv with hv | hv
  · rcases List.mem_append.1 hv with hv | hv
    · exact h v (List.mem_of_mem_take hv)
    · rw [List.mem_singleton] at hv; exact ⟨s, hv, hs⟩
  · exact h v (List.mem_of_mem_drop hv)
theorem fS_size {s : ByteArray} (h : s.size ≤ 1000) : (fS s).size ≤ 1000 := by unfold fS; rw [ByteArray.size_extract]; omega
theorem lS_size {s : ByteArray} (h : s.size ≤ 1000) : (lS s).size ≤ 1000 := by unfold lS; rw [ByteArray.size_extract]; omega
theorem spl_b : ∀ (k : Nat) (s : ByteArray) (i : Nat) (cs : List Value), BStr cs → s.size ≤ 1000 → BStr (spl k s i cs).2.2
  | 0, s, i, cs, h, _ => h
  | k + 1, s, i, cs, h, hs => by
    rw [spl]
    split
    · exact h
    · exact spl_b k (lS s) (i + 1) _ (setAt_b h (fS_size hs)) (lS_size hs)
theorem strAt_b {cs : List Value} (h : BStr cs) {j : Nat} (hj : j < cs.length) : cs[j]? = some (.string (strAt cs j)) ∧ (strAt cs j).size ≤ 1000 := by
  obtain ⟨u, hu, hz⟩ := h cs[j] (List.getElem_mem hj)
  have h1 : cs[j]? = some (.string u) := by rw [List.getElem?_eq_getElem hj, hu]
  have h2 : strAt cs j = u := by simp only [strAt, h1]
  rw [h2]; exact ⟨h1, hz⟩
theorem isOpen_small {c : Nat} (h : c ≤ 100000) : isOpen c = false := by
  unfold isOpen
  cases hq : Nat.ble 18446744073709551616 c with
  | false => rfl
  | true => have := Nat.le_of_ble_eq_true hq; omega
theorem fit69_ok (s : ByteArray) : fit69 s := fun hp h => by
  have h : hp.get 11 = some (rowS (zS s)) := by simpa [lookR, RB.blk] using h
  obtain ⟨g1, g2⟩ := rep_str (nS s).toNat
  have hn := nS_range s
  have g2 : (zS s).length = (nS s).toNat := g2
  refine ⟨⟨⟨true, ?_, fun _ => rfl⟩, trivial⟩, ?_, by kernel_rfl⟩
  · rw [h]
    show some (rowS (zS s)) = some (reWr true (renO _ (rowS (zS s))))
    rw [renO_rowS _ (zS s) g1]; rfl
  · refine ⟨.inl ⟨rfl, rfl⟩, .inl ⟨rfl, rfl⟩, .inl ⟨rfl, rfl⟩, .inl ⟨?_, rfl⟩, .inl ⟨?_, by kernel_rfl⟩, .inl ⟨rfl, rfl⟩, trivial⟩
    · show Value.int .i64 (nS s - 1) = ren _ (Value.int .i64 (((zS s).length : Int) - 1))
      rw [g2, show ((((nS s).toNat : Nat) : Int) - 1) = nS s - 1 by omega]; rfl
    · show Value.slice (some ⟨11, 0, none⟩) (nS s).toNat (nS s).toNat = ren _ (Value.slice (some ⟨11, 0, none⟩) (zS s).length (zS s).length)
      rw [g2]; kernel_rfl
theorem wrap_i64_nat {x : Nat} (h : x < 9223372036854775808) : IntKind.i64.wrap (x : Int) = x := wrap_in (k := .i64) ⟨by simp [IntKind.min, IntKind.signed, IntKind.bits] <;> omega, by simp [IntKind.max, IntKind.signed, IntKind.bits] <;> omega⟩
theorem and_255 {n : Int} (h0 : 0 ≤ n) (h1 : n < 9223372036854775808) : bitsI .and .i64 n 255 = n % 256 := by
  obtain ⟨k, rfl⟩ := Int.eq_ofNat_of_zero_le h0
  have e1 : (BitVec.ofInt 64 (k : Int)).toNat = k := by rw [BitVec.ofInt_natCast, BitVec.toNat_ofNat]; omega
  have e2 : (BitVec.ofInt 64 255).toNat = 255 := by decide
  have e : (BitVec.ofInt 64 (k : Int) &&& BitVec.ofInt 64 255).toNat = k % 256 := by
    rw [BitVec.toNat_and, e1, e2]
    exact Nat.and_two_pow_sub_one_eq_mod k 8
  show IntKind.i64.wrap ((BitVec.ofInt 64 (k : Int) &&& BitVec.ofInt 64 255).toNat : Int) = _
  rw [e, wrap_i64_nat (by omega)]; omega
theorem or_256 {a d : Int} (h0 : 0 ≤ a) (h1 : a < 16777216) (h2 : 0 ≤ d) (h3 : d < 256) : bitsI .or .u32 (a * 256) d = a * 256 + d := by
  obtain ⟨m, rfl⟩ := Int.eq_ofNat_of_zero_le h0
  obtain ⟨k, rfl⟩ := Int.eq_ofNat_of_zero_le h2
  have e : m * 256 ||| k = m * 256 + k := by
    have := Nat.shiftLeft_add_eq_or_of_lt (i := 8) (b := k) (by omega) m
    rw [Nat.shiftLeft_eq] at this
    exact this.symm
  have e1 : (BitVec.ofInt 32 ((m : Int) * 256)).toNat = m * 256 := by
    rw [show ((m : Int) * 256) = ((m * 256 : Nat) : Int) by omega, BitVec.ofInt_natCast, BitVec.toNat_ofNat]; omega
  have e2 : (BitVec.ofInt 32 (k : Int)).toNat = k := by
    rw [BitVec.ofInt_natCast, BitVec.toNat_ofNat]; omega
  show IntKind.u32.wrap ((BitVec.ofInt 32 ((m : Int) * 256) ||| BitVec.ofInt 32 (k : Int)).toNat : Int) = _
  rw [BitVec.toNat_or, e1, e2, e]
  have h := wrap_in (k := .u32) (z := ((m * 256 + k : Nat) : Int)) ⟨by simp [IntKind.min, IntKind.signed]; omega, by simp [IntKind.max, IntKind.signed, IntKind.bits]; omega⟩
  rw [h]; omega
def okP (s : ByteArray) : Bool := decide ((rS s).2.1 = 3) && (digS (pt s 0) && (digS (pt s 1) && (digS (pt s 2) && digS (pt s 3))))
def bigP (s : ByteArray) : Bool := decide (255 < digV (pt s 0)) || (decide (255 < digV (pt s 1)) || (decide (255 < digV (pt s 2)) || decide (255 < digV (pt s 3))))
def ipV (s : ByteArray) : Int := ((digV (pt s 0) * 256 + digV (pt s 1)) * 256 + digV (pt s 2)) * 256 + digV (pt s 3)
/-- what ParseIP tells -/
def ipN (s : ByteArray) : Int := if okP s && !bigP s then ipV s else 0
def ipE (s : ByteArray) : Int := if okP s then if bigP s then 24 else 0 else 5
def ipR (s : ByteArray) : Value := .tuple #[.int .u32 (ipN s), .int .i64 (ipE s)]
theorem len14_eq (s : ByteArray) : len14 s = (((rS s).2.1 : Nat) : Int) + 1 := by unfold len14; omega
structure Pre14 (s : ByteArray) : Prop where
  hs : s.size ≤ 1000
  hc1 : 0 ≤ cntI s 46
  hc2 : cntI s 46 ≤ s.size
  hn1 : 1 ≤ nS s
  hn2 : nS s ≤ s.size + 1
  r4 : (rS s).2.1 + 1 ≤ (nS s).toNat
  l69 : L69.pre (s, 0, zS s)
  hble : (((0 + (((rS s).2.1 : Nat) : Int).toNat * 1) + (1 : Nat)).ble (renL σ0 (rS s).2.2).length) = true
  cb : BStr (cS s)
  cl : (cS s).length = (nS s).toNat
theorem pre14 {s : ByteArray} (hs : s.size ≤ 1000) : Pre14 s := by
  have hc := cntI_range s
  have hn := nS_range s
  obtain ⟨z1, z2⟩ := rep_str (nS s).toNat
  have z1 : AllStr (zS s) := z1
  have z2 : (zS s).length = (nS s).toNat := z2
  obtain ⟨r1, r2, r3, r4, r5⟩ := spl_facts ((zS s).length - 1 - 0) s 0 (zS s) z1 (by omega) hs
  have rb := spl_b ((zS s).length - 1 - 0) s 0 (zS s) (rep_b _) hs
  have er : spl ((zS s).length - 1 - 0) s 0 (zS s) = rS s := rfl
  rw [er] at r1 r2 r3 r4 r5 rb
  have eσ : renL σ0 (rS s).2.2 = (rS s).2.2 := renL_str _ _ r1
  exact {
    hs := hs
    hc1 := hc.1
    hc2 := hc.2
    hn1 := hn.1
    hn2 := hn.2.1
    r4 := by omega
    l69 := ⟨hs, z1, by show 0 + 1 ≤ (zS s).length; omega, by show (zS s).length ≤ 2000; omega⟩
    hble := Nat.ble_eq.mpr (by rw [eσ]; omega)
    cb := by unfold cS; rw [eσ]; exact setAt_b rb r5
    cl := by unfold cS; rw [eσ, setAt_len (by omega), r2, z2] }
theorem allC_one (u : ByteArray) : AllC [.string u] := fun v hv => by rw [List.mem_singleton] at hv; subst hv; rfl
theorem beq_zero {n : Nat} (h : 0 < n) : n.beq 0 = false := by
  cases n with
  | zero => omega
  | succ n => rfl
theorem nt_of {b : Bool} (h : ¬ b = true) : (!b) = true := by simpa using h
theorem nb_of {b : Bool} (h : b = true) : (!b) = false := by rw [h]; rfl
structure Num14 (s : ByteArray) : Prop where
  v0 : 0 ≤ digV (pt s 0) ∧ digV (pt s 0) < 10000000000
  v1 : 0 ≤ digV (pt s 1) ∧ digV (pt s 1) < 10000000000
  v2 : 0 ≤ digV (pt s 2) ∧ digV (pt s 2) < 10000000000
  v3 : 0 ≤ digV (pt s 3) ∧ digV (pt s 3) < 10000000000
  b0 : bS s 0 = digV (pt s 0) % 256
  b1 : bS s 1 = digV (pt s 1) % 256
  b2 : bS s 2 = digV (pt s 2) % 256
  b3 : bS s 3 = digV (pt s 3) % 256
  j1 : i1 s = bS s 0
  j2 : i2 s = i1 s * 256 + bS s 1
  j3 : i3 s = i2 s * 256 + bS s 2
  j4 : i4 s = i3 s * 256 + bS s 3
theorem num14 (s : ByteArray) : Num14 s := by
  have v0 := digV_range (pt s 0)
  have v1 := digV_range (pt s 1)
  have v2 := digV_range (pt s 2)
  have v3 := digV_range (pt s 3)
  have b0 : bS s 0 = digV (pt s 0) % 256 := and_255 (by omega) (by omega)
  have b1 : bS s 1 = digV (pt s 1) % 256 := and_255 (by omega) (by omega)
  have b2 : bS s 2 = digV (pt s 2) % 256 := and_255 (by omega) (by omega)
  have b3 : bS s 3 = digV (pt s 3) % 256 := and_255 (by omega) (by omega)
  have j1 : i1 s = bS s 0 := (or_256 (a := 0) (d := bS s 0) (by omega) (by omega) (by omega) (by omega)).trans (by omega)
  have j2 : i2 s = i1 s * 256 + bS s 1 := or_256 (by omega) (by omega) (by omega) (by omega)
  have j3 : i3 s = i2 s * 256 + bS s 2 := or_256 (by omega) (by omega) (by omega) (by omega)
  have j4 : i4 s = i3 s * 256 + bS s 3 := or_256 (by omega) (by omega) (by omega) (by omega)
  exact ⟨v0, v1, v2, v3, b0, b1, b2, b3, j1, j2, j3, j4⟩
end Go.Proofs.YtgmojlibppmfhaaDoor

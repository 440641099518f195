/- Runs of the abstract interpreter, part 15: by an AI agent. -/
import Derived.Test.YtgmojlibppmfhaaDoorPart14

namespace Go.Proofs.YtgmojlibppmfhaaDoor
open Go Go.Ai
/-- those of a list hold -/
def allG (ps : List Prop) : List Nat → Prop
  | [] => True
  | i :: l => ps.getD i False ∧ allG ps l
theorem allG_mem {ps : List Prop} : ∀ {l : List Nat}, allG ps l → ∀ i ∈ l, ps.getD i False
  | [], _, _, h => by cases h
  | a :: l, ⟨h1, h2⟩, i, h => by
    rcases List.mem_cons.1 h with rfl | h
    · exact h1
    · exact allG_mem h2 i h
theorem holds_map {ps : List Prop} : ∀ {l : List Nat}, (∀ i ∈ l, ps.getD i False) → Holds (pl l ps)
  | [], _ => trivial
  | a :: l, h => ⟨h a (List.mem_cons_self ..), holds_map fun i hi => h i (List.mem_cons_of_mem _ hi)⟩
theorem holds_pl {ps : List Prop} {l s : List Nat} (h : allG ps s) (hs : l.all (fun i => s.contains i) = true) : Holds (pl l ps) :=
  holds_map fun i hi => allG_mem h i (by simpa using List.all_eq_true.1 hs i hi)
theorem allG_app {ps : List Prop} : ∀ {a b : List Nat}, allG ps a → allG ps b → allG ps (a ++ b)
  | [], _, _, h => h
  | _ :: _, _, ⟨h1, h2⟩, h => ⟨h1, allG_app h2 h⟩
theorem ref_i (k : IntKind) (x : Int) : beqV (.int k x) (.int k x) = true := by simp [beqV]
theorem ref_a (x b : Int) : beqV (.agg ⟨[.int .u32 x, .int .i64 b]⟩) (.agg ⟨[.int .u32 x, .int .i64 b]⟩) = true := by simp [beqV, beqVA, beqVL]
def sA : List Nat := [0, 1, 2, 3, 4, 5, 6, 7, 8, 9, 10, 11, 12, 13, 14, 16, 22, 24, 25, 26, 27, 28, 29, 30, 48, 52]
def sLow : List Nat := [31, 32, 33, 34, 35, 36, 37, 38, 39, 40, 41, 42, 43, 44, 45, 46, 47]
section
variable {x b y c z ub uc : Int} {sb sc : Bool} {X P Y Q : Int}
theorem factsA (x0 : 0 ≤ x) (x1 : x < 4294967296) (y0 : 0 ≤ y) (y1 : y < 4294967296) (z0 : 0 ≤ z) (z1 : z < 4294967296) (hsb : decide ((0 : Int) ≤ b ∧ b ≤ (18446744073709551615 : Int)) = sb) (hsc : decide ((0 : Int) ≤ c ∧ c ≤ (18446744073709551615 : Int)) = sc)
    (ub0 : 0 ≤ ub) (uc0 : 0 ≤ uc) (X0 : 0 ≤ X) (X1 : X < 4294967296) (Y0 : 0 ≤ Y) (Y1 : Y < 4294967296) (p0 : 0 ≤ P) (p1 : P ≤ 32) (hX : flF X P = X) : allG (prs x b y c z ub uc sb sc X P Y Q) sA :=
  ⟨hsb, decide_eq_true ⟨ub0, by omega⟩, decide_eq_true (by omega), ⟨_, _, rfl, x0, x1⟩, ref_i _ _, ref_i _ _, hsc, decide_eq_true ⟨uc0, by omega⟩, decide_eq_true (by omega), ⟨_, _, rfl, y0, y1⟩,
   ⟨_, _, _, _, rfl, X0, X1, Y0, Y1⟩, ref_a _ _, ref_a _ _, ⟨_, _, _, _, rfl, Y0, Y1, X0, X1⟩, ⟨_, _, _, rfl, X0, X1, z0, z1⟩, ⟨_, _, _, rfl, Y0, Y1, z0, z1⟩, ⟨_, _, _, _, rfl⟩, ⟨_, _, _, rfl, X0, X1, X0, X1⟩,
   a25 p0 p1 hX, ⟨_, _, _, _, rfl, X0, X1, X0, X1⟩, a27 p0 p1 hX, ⟨_, _, _, _, rfl⟩, a29, a30, rfl, ref_i _ _, trivial⟩
theorem factsLow (z0 : 0 ≤ z) (z1 : z < 4294967296) (X0 : 0 ≤ X) (X1 : X < 4294967296) (p0 : 0 ≤ P) (p1 : P < 32) (hX : flF X P = X) : allG (prs x b y c z ub uc sb sc X P Y Q) sLow := by
  have e := bits_up p0 p1 X0 X1 hX
  have ht : upF X P < 4294967296 := half_top p0 p1 X0 X1 hX
  have h0 : 0 ≤ upF X P := by have := pw_pos (P + 1); unfold upF; omega
  have hm : (2 : Int) ^ Min.min (31 - P).toNat 32 = pw (P + 1) := by rw [min_eq2 P p0, pw_bit p0 p1]
  have hp := pw_pos (P + 1)
  have hl := pw_le (P + 1) (by omega) (by omega)
  have hl2 := half_top p0 p1 X0 X1 hX
  refine ⟨beq_eq_false_iff_ne.2 (by omega), decide_eq_true (by omega), decide_eq_true (by omega), decide_eq_false (by omega), decide_eq_true (by rw [hm]; omega), ⟨_, _, _, rfl, X0, X1, z0, z1⟩, ref_a _ _, ⟨_, _, _, rfl, ?_, ?_, z0, z1⟩,
   ⟨_, _, _, _, rfl, X0, X1, X0, X1⟩, a40 p0 p1 hX, ⟨_, _, _, _, rfl, X0, X1, ?_, ?_⟩, ?_, ?_, ⟨_, _, rfl, ?_, ?_, by omega, by omega⟩, ?_, ⟨_, _, rfl, X0, X1, by omega, by omega⟩, a47 p0 p1 hX, trivial⟩
  · rw [e]; exact h0
  · rw [e]; exact ht
  · rw [e]; exact h0
  · rw [e]; exact ht
  · show contF X P (bitsI .or .u32 X (1 * 2 ^ Min.min (31 - P).toNat 32)) (P + 1) = true
    rw [e]; exact a42 p0 p1 hX
  · show (hasF X P z == !(hasF X (P + 1) z == hasF (bitsI .or .u32 X (1 * 2 ^ Min.min (31 - P).toNat 32)) (P + 1) z)) = true
    rw [e]; exact a43 p0 p1 hX z
  · rw [e]; exact h0
  · rw [e]; exact ht
  · show bitF (bitsI .or .u32 X (1 * 2 ^ Min.min (31 - P).toNat 32)) P = true
    rw [e]; exact a45 p0 p1 hX
end
end Go.Proofs.YtgmojlibppmfhaaDoor

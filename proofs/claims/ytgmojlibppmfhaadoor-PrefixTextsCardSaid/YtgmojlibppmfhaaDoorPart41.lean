/- Runs of the abstract interpreter, part 41: by an AI agent. -/
import Derived.Test.YtgmojlibppmfhaaDoorPart40

namespace Go.Proofs.YtgmojlibppmfhaaDoor
open Go Go.Ai
/-! ### prefix.Parse -/
def iQ (s : ByteArray) : Int := ixI s 47
def fQ (s : ByteArray) : ByteArray := s.extract 0 (iQ s).toNat
def lQ (s : ByteArray) : ByteArray := s.extract (iQ s + 1).toNat s.size
def A16_0 (s : ByteArray) : List Prop := [(ipE (s.extract (0 : Nat) (0 : Nat)) == (5 : Int)) = true, (ipE (s.extract (0 : Nat) (0 : Nat)) == (5 : Int)) = true, (ipE (s.extract (0 : Nat) (0 : Nat)) == (5 : Int)) = true, C48.pre [Value.string (s.extract (1 : Nat) s.size)], C14.pre [Value.string (s.extract (0 : Nat) (0 : Nat))], (decide ((0 : Int) ≤ (1 : Int) ∧ (1 : Int) ≤ (s.size : Int))) = true, (decide ((0 : Int) ≤ (0 : Int) ∧ (0 : Int) ≤ (s.size : Int))) = true, (eqS slashB s) = true]
theorem F16_0 (s : ByteArray) (h : Holds (A16_0 s)) : ∃ st', Go.Ai.call cx ovs 1000 16 [.string s] ⟨keepIds st0.hp [2], st0.ct⟩ = some (Value.tuple { toList := [Value.agg { toList := [Value.int IntKind.u32 (0 : Int), Value.int IntKind.i64 (0 : Int)] }, Value.int IntKind.i64 (5 : Int)] }, st') :=
  path_call refs (toks := [.ev, .ev, .ev, .ev, .yes, .ev, .ev, .yes, .ev, .ev, .yes, .ev, .yes, .yes, .yes, .ev, .ev]) (by kernel_rfl) h
def A16_1 (s : ByteArray) : List Prop := [(ipE s == (5 : Int)) = true, (ipE s == (5 : Int)) = true, (ipE s == (5 : Int)) = true, C48.pre [Value.string ⟨⟨[]⟩⟩], C14.pre [Value.string s], (decide (iQ s ≥ (0 : Int))) = false, C133.pre [Value.string s, Value.int IntKind.u8 (47 : Int)], (eqS slashB s) = false]
theorem F16_1 (s : ByteArray) (h : Holds (A16_1 s)) : ∃ st', Go.Ai.call cx ovs 1000 16 [.string s] ⟨keepIds st0.hp [2], st0.ct⟩ = some (Value.tuple { toList := [Value.agg { toList := [Value.int IntKind.u32 (0 : Int), Value.int IntKind.i64 (0 : Int)] }, Value.int IntKind.i64 (5 : Int)] }, st') :=
  path_call refs (toks := [.ev, .ev, .ev, .ev, .no, .ev, .ev, .no, .ev, .yes, .yes, .yes, .ev, .ev]) (by kernel_rfl) h
def A16_2 (s : ByteArray) : List Prop := [(ipE s == (5 : Int)) = false, (ipE s == (5 : Int)) = false, (ipE s == (5 : Int)) = false, C48.pre [Value.string ⟨⟨[]⟩⟩], C14.pre [Value.string s], (decide (iQ s ≥ (0 : Int))) = false, C133.pre [Value.string s, Value.int IntKind.u8 (47 : Int)], (eqS slashB s) = false]
theorem F16_2 (s : ByteArray) (h : Holds (A16_2 s)) : ∃ st', Go.Ai.call cx ovs 1000 16 [.string s] ⟨keepIds st0.hp [2], st0.ct⟩ = some (Value.tuple { toList := [Value.agg { toList := [Value.int IntKind.u32 (0 : Int), Value.int IntKind.i64 (0 : Int)] }, Value.int IntKind.i64 (5 : Int)] }, st') :=
  path_call refs (toks := [.ev, .ev, .ev, .ev, .no, .ev, .ev, .no, .ev, .no, .no, .no, .ev, .ev]) (by kernel_rfl) h
def A16_3 (s : ByteArray) : List Prop := [(ipE (fQ s) == (5 : Int)) = true, (ipE (fQ s) == (5 : Int)) = true, (ipE (fQ s) == (5 : Int)) = true, C48.pre [Value.string (lQ s)], C14.pre [Value.string (fQ s)], (decide ((0 : Int) ≤ iQ s + (1 : Int) ∧ iQ s + (1 : Int) ≤ (s.size : Int))) = true, (decide ((-9223372036854775808 : Int) ≤ iQ s + (1 : Int) ∧ iQ s + (1 : Int) ≤ (9223372036854775807 : Int))) = true, (decide ((0 : Int) ≤ iQ s ∧ iQ s ≤ (s.size : Int))) = true, (decide (iQ s ≥ (0 : Int))) = true, C133.pre [Value.string s, Value.int IntKind.u8 (47 : Int)], (eqS slashB s) = false]
theorem F16_3 (s : ByteArray) (h : Holds (A16_3 s)) : ∃ st', Go.Ai.call cx ovs 1000 16 [.string s] ⟨keepIds st0.hp [2], st0.ct⟩ = some (Value.tuple { toList := [Value.agg { toList := [Value.int IntKind.u32 (0 : Int), Value.int IntKind.i64 (0 : Int)] }, Value.int IntKind.i64 (5 : Int)] }, st') :=
  path_call refs (toks := [.ev, .ev, .ev, .ev, .no, .ev, .ev, .yes, .no, .yes, .yes, .no, .yes, .ev, .yes, .yes, .yes, .ev, .ev]) (by kernel_rfl) h
def A16_4 (s : ByteArray) : List Prop := [(!digS (lQ s)) = true, (ipE (fQ s) == (5 : Int)) = false, (ipE (fQ s) == (5 : Int)) = false, (ipE (fQ s) == (5 : Int)) = false, C48.pre [Value.string (lQ s)], C14.pre [Value.string (fQ s)], (decide ((0 : Int) ≤ iQ s + (1 : Int) ∧ iQ s + (1 : Int) ≤ (s.size : Int))) = true, (decide ((-9223372036854775808 : Int) ≤ iQ s + (1 : Int) ∧ iQ s + (1 : Int) ≤ (9223372036854775807 : Int))) = true, (decide ((0 : Int) ≤ iQ s ∧ iQ s ≤ (s.size : Int))) = true, (decide (iQ s ≥ (0 : Int))) = true, C133.pre [Value.string s, Value.int IntKind.u8 (47 : Int)], (eqS slashB s) = false]
theorem F16_4 (s : ByteArray) (h : Holds (A16_4 s)) : ∃ st', Go.Ai.call cx ovs 1000 16 [.string s] ⟨keepIds st0.hp [2], st0.ct⟩ = some (Value.tuple { toList := [Value.agg { toList := [Value.int IntKind.u32 (0 : Int), Value.int IntKind.i64 (0 : Int)] }, Value.int IntKind.i64 (5 : Int)] }, st') :=
  path_call refs (toks := [.ev, .ev, .ev, .ev, .no, .ev, .ev, .yes, .no, .yes, .yes, .no, .yes, .ev, .no, .no, .no, .yes, .ev]) (by kernel_rfl) h
def A16_5 (s : ByteArray) : List Prop := [(ipE (fQ s) != (0 : Int)) = true, (ipE (fQ s) != (0 : Int)) = true, (ipE (fQ s) != (0 : Int)) = true, (ipE (fQ s) != (0 : Int)) = true, (!digS (lQ s)) = false, (ipE (fQ s) == (5 : Int)) = false, (ipE (fQ s) == (5 : Int)) = false, (ipE (fQ s) == (5 : Int)) = false, C48.pre [Value.string (lQ s)], C14.pre [Value.string (fQ s)], (decide ((0 : Int) ≤ iQ s + (1 : Int) ∧ iQ s + (1 : Int) ≤ (s.size : Int))) = true, (decide ((-9223372036854775808 : Int) ≤ iQ s + (1 : Int) ∧ iQ s + (1 : Int) ≤ (9223372036854775807 : Int))) = true, (decide ((0 : Int) ≤ iQ s ∧ iQ s ≤ (s.size : Int))) = true, (decide (iQ s ≥ (0 : Int))) = true, C133.pre [Value.string s, Value.int IntKind.u8 (47 : Int)], (eqS slashB s) = false]
theorem F16_5 (s : ByteArray) (h : Holds (A16_5 s)) : ∃ st', Go.Ai.call cx ovs 1000 16 [.string s] ⟨keepIds st0.hp [2], st0.ct⟩ = some (Value.tuple { toList := [Value.agg { toList := [Value.int IntKind.u32 (0 : Int), Value.int IntKind.i64 (0 : Int)] }, Value.int IntKind.i64 (24 : Int)] }, st') :=
  path_call refs (toks := [.ev, .ev, .ev, .ev, .no, .ev, .ev, .yes, .no, .yes, .yes, .no, .yes, .ev, .no, .no, .no, .no, .yes, .yes, .yes, .yes, .ev, .ev]) (by kernel_rfl) h
def A16_6 (s : ByteArray) : List Prop := [(!mayF (ipN (fQ s)) (digV (lQ s))) = true, (ipE (fQ s) != (0 : Int)) = false, (ipE (fQ s) != (0 : Int)) = false, C27.pre [Value.agg { toList := [Value.int IntKind.u32 (ipN (fQ s)), Value.int IntKind.i64 (digV (lQ s))] }], (ipE (fQ s) != (0 : Int)) = false, (ipE (fQ s) != (0 : Int)) = false, (!digS (lQ s)) = false, (ipE (fQ s) == (5 : Int)) = false, (ipE (fQ s) == (5 : Int)) = false, (ipE (fQ s) == (5 : Int)) = false, C48.pre [Value.string (lQ s)], C14.pre [Value.string (fQ s)], (decide ((0 : Int) ≤ iQ s + (1 : Int) ∧ iQ s + (1 : Int) ≤ (s.size : Int))) = true, (decide ((-9223372036854775808 : Int) ≤ iQ s + (1 : Int) ∧ iQ s + (1 : Int) ≤ (9223372036854775807 : Int))) = true, (decide ((0 : Int) ≤ iQ s ∧ iQ s ≤ (s.size : Int))) = true, (decide (iQ s ≥ (0 : Int))) = true, C133.pre [Value.string s, Value.int IntKind.u8 (47 : Int)], (eqS slashB s) = false]
theorem F16_6 (s : ByteArray) (h : Holds (A16_6 s)) : ∃ st', Go.Ai.call cx ovs 1000 16 [.string s] ⟨keepIds st0.hp [2], st0.ct⟩ = some (Value.tuple { toList := [Value.agg { toList := [Value.int IntKind.u32 (0 : Int), Value.int IntKind.i64 (0 : Int)] }, Value.int IntKind.i64 (24 : Int)] }, st') :=
  path_call refs (toks := [.ev, .ev, .ev, .ev, .no, .ev, .ev, .yes, .no, .yes, .yes, .no, .yes, .ev, .no, .no, .no, .no, .no, .ev, .no, .no, .no, .yes, .ev]) (by kernel_rfl) h
def A16_7 (s : ByteArray) : List Prop := [(!mayF (ipN (fQ s)) (digV (lQ s))) = false, (ipE (fQ s) != (0 : Int)) = false, (ipE (fQ s) != (0 : Int)) = false, C27.pre [Value.agg { toList := [Value.int IntKind.u32 (ipN (fQ s)), Value.int IntKind.i64 (digV (lQ s))] }], (ipE (fQ s) != (0 : Int)) = false, (ipE (fQ s) != (0 : Int)) = false, (!digS (lQ s)) = false, (ipE (fQ s) == (5 : Int)) = false, (ipE (fQ s) == (5 : Int)) = false, (ipE (fQ s) == (5 : Int)) = false, C48.pre [Value.string (lQ s)], C14.pre [Value.string (fQ s)], (decide ((0 : Int) ≤ iQ s + (1 : Int) ∧ iQ s + (1 : Int) ≤ (s.size : Int))) = true, (decide ((-9223372036854775808 : Int) ≤ iQ s + (1 : Int) ∧ iQ s + (1 : Int) ≤ (9223372036854775807 : Int))) = true, (decide ((0 : Int) ≤ iQ s ∧ iQ s ≤ (s.size : Int))) = true, (decide (iQ s ≥ (0 : Int))) = true, C133.pre [Value.string s, Value.int IntKind.u8 (47 : Int)], (eqS slashB s) = false]
theorem F16_7 (s : ByteArray) (h : Holds (A16_7 s)) : ∃ st', Go.Ai.call cx ovs 1000 16 [.string s] ⟨keepIds st0.hp [2], st0.ct⟩ = some (Value.tuple { toList := [Value.agg { toList := [Value.int IntKind.u32 (ipN (fQ s)), Value.int IntKind.i64 (digV (lQ s))] }, Value.int IntKind.i64 (0 : Int)] }, st') :=
  path_call refs (toks := [.ev, .ev, .ev, .ev, .no, .ev, .ev, .yes, .no, .yes, .yes, .no, .yes, .ev, .no, .no, .no, .no, .no, .ev, .no, .no, .no, .no, .ev, .ev]) (by kernel_rfl) h
theorem iQ_range (s : ByteArray) : -1 ≤ iQ s ∧ iQ s < s.size := by
  unfold iQ ixI
  split
  · rename_i i h
    have := idx_range _ _ _ _ h
    have e : s.data.toList.length = s.size := rfl
    omega
  · omega
theorem ipN_range (s : ByteArray) : 0 ≤ ipN s ∧ ipN s < 4294967296 := by
  have v0 := digV_range (pt s 0)
  have v1 := digV_range (pt s 1)
  have v2 := digV_range (pt s 2)
  have v3 := digV_range (pt s 3)
  unfold ipN
  split
  · rename_i h
    rw [Bool.and_eq_true, Bool.not_eq_true'] at h
    have h2 := h.2
    unfold bigP at h2
    simp only [Bool.or_eq_false_iff, decide_eq_false_iff_not] at h2
    unfold ipV
    omega
  · omega
def prsG (s : ByteArray) : Bool := decide (0 ≤ iQ s) && (!decide (ipE (fQ s) = 5) && digS (lQ s))
def prsO (s : ByteArray) : Bool := decide (ipE (fQ s) = 0) && mayF (ipN (fQ s)) (digV (lQ s))
def prsE (s : ByteArray) : Int := if prsG s then if prsO s then 0 else 24 else 5
def prsX (s : ByteArray) : Int := if prsG s && prsO s then ipN (fQ s) else 0
def prsB (s : ByteArray) : Int := if prsG s && prsO s then digV (lQ s) else 0
def prsR (s : ByteArray) : Value := .tuple #[.agg #[.int .u32 (prsX s), .int .i64 (prsB s)], .int .i64 (prsE s)]
theorem prs_bad {s : ByteArray} (h : prsG s = false) : prsR s = .tuple #[.agg #[.int .u32 0, .int .i64 0], .int .i64 5] := by simp [prsR, prsE, prsX, prsB, h]
theorem prs_odd {s : ByteArray} (h : prsG s = true) (h2 : prsO s = false) : prsR s = .tuple #[.agg #[.int .u32 0, .int .i64 0], .int .i64 24] := by simp [prsR, prsE, prsX, prsB, h, h2]
theorem prs_ok {s : ByteArray} (h : prsG s = true) (h2 : prsO s = true) : prsR s = .tuple #[.agg #[.int .u32 (ipN (fQ s)), .int .i64 (digV (lQ s))], .int .i64 0] := by simp [prsR, prsE, prsX, prsB, h, h2]
theorem F16_all (s : ByteArray) (hm : s.size ≤ 1000) : ∃ st', Go.Ai.call cx ovs 1000 16 [.string s] ⟨keepIds st0.hp [2], st0.ct⟩ = some (prsR s, st') := by
  have hi := iQ_range s
  have rn := ipN_range (fQ s)
  have zf : (fQ s).size ≤ 1000 := by unfold fQ; rw [ByteArray.size_extract]; omega
  have zl : (lQ s).size ≤ 9223372036854775807 := by unfold lQ; rw [ByteArray.size_extract]; omega
  cases ed : eqS slashB s with
  | true =>
    have es : s = slashB := by
      unfold eqS at ed
      exact (ByteArray.ext (Array.toList_inj.1 (of_decide_eq_true ed))).symm
    rw [prs_bad (by rw [es]; kernel_rfl), es]
    exact F16_0 slashB ⟨(by kernel_rfl), (by kernel_rfl), (by kernel_rfl), ⟨_, rfl, of_decide_eq_true (by kernel_rfl)⟩, ⟨_, rfl, of_decide_eq_true (by kernel_rfl)⟩, (by kernel_rfl), (by kernel_rfl), (by kernel_rfl), trivial⟩
  | false =>
    by_cases hn : 0 ≤ iQ s
    · have c1 : decide (0 ≤ iQ s) = true := decide_eq_true hn
      by_cases h5 : ipE (fQ s) = 5
      · rw [prs_bad (by unfold prsG; rw [decide_eq_true h5]; simp)]
        exact F16_3 s ⟨beq_iff_eq.2 h5, beq_iff_eq.2 h5, beq_iff_eq.2 h5, ⟨_, rfl, zl⟩, ⟨_, rfl, zf⟩, decide_eq_true (by omega), decide_eq_true (by omega), decide_eq_true (by omega), decide_eq_true (by omega), ⟨_, _, rfl⟩, ed, trivial⟩
      · by_cases hl : digS (lQ s) = true
        · have hg : prsG s = true := by unfold prsG; rw [c1, decide_eq_false h5, hl]; rfl
          by_cases h0 : ipE (fQ s) = 0
          · by_cases hy : mayF (ipN (fQ s)) (digV (lQ s)) = true
            · rw [prs_ok hg (by unfold prsO; rw [decide_eq_true h0, hy]; rfl)]
              exact F16_7 s ⟨(nb_of hy), bne_eq_false_iff_eq.2 h0, bne_eq_false_iff_eq.2 h0, ⟨_, _, rfl, rn.1, rn.2⟩, bne_eq_false_iff_eq.2 h0, bne_eq_false_iff_eq.2 h0, (nb_of hl), beq_eq_false_iff_ne.2 h5, beq_eq_false_iff_ne.2 h5, beq_eq_false_iff_ne.2 h5, ⟨_, rfl, zl⟩, ⟨_, rfl, zf⟩, decide_eq_true (by omega), decide_eq_true (by omega), decide_eq_true (by omega), decide_eq_true (by omega), ⟨_, _, rfl⟩, ed, trivial⟩
            · rw [prs_odd hg (by unfold prsO; simp [hy])]
              exact F16_6 s ⟨(nt_of hy), bne_eq_false_iff_eq.2 h0, bne_eq_false_iff_eq.2 h0, ⟨_, _, rfl, rn.1, rn.2⟩, bne_eq_false_iff_eq.2 h0, bne_eq_false_iff_eq.2 h0, (nb_of hl), beq_eq_false_iff_ne.2 h5, beq_eq_false_iff_ne.2 h5, beq_eq_false_iff_ne.2 h5, ⟨_, rfl, zl⟩, ⟨_, rfl, zf⟩, decide_eq_true (by omega), decide_eq_true (by omega), decide_eq_true (by omega), decide_eq_true (by omega), ⟨_, _, rfl⟩, ed, trivial⟩
          · rw [prs_odd hg (by unfold prsO; rw [decide_eq_false h0]; rfl)]
            exact F16_5 s ⟨bne_iff_ne.2 h0, bne_iff_ne.2 h0, bne_iff_ne.2 h0, bne_iff_ne.2 h0, (nb_of hl), beq_eq_false_iff_ne.2 h5, beq_eq_false_iff_ne.2 h5, beq_eq_false_iff_ne.2 h5, ⟨_, rfl, zl⟩, ⟨_, rfl, zf⟩, decide_eq_true (by omega), decide_eq_true (by omega), decide_eq_true (by omega), decide_eq_true (by omega), ⟨_, _, rfl⟩, ed, trivial⟩
        · rw [prs_bad (by unfold prsG; simp [hl])]
          exact F16_4 s ⟨(nt_of hl), beq_eq_false_iff_ne.2 h5, beq_eq_false_iff_ne.2 h5, beq_eq_false_iff_ne.2 h5, ⟨_, rfl, zl⟩, ⟨_, rfl, zf⟩, decide_eq_true (by omega), decide_eq_true (by omega), decide_eq_true (by omega), decide_eq_true (by omega), ⟨_, _, rfl⟩, ed, trivial⟩
    · rw [prs_bad (by unfold prsG; rw [decide_eq_false hn]; rfl)]
      by_cases h5 : ipE s = 5
      · exact F16_1 s ⟨beq_iff_eq.2 h5, beq_iff_eq.2 h5, beq_iff_eq.2 h5, ⟨_, rfl, Nat.zero_le _⟩, ⟨_, rfl, hm⟩, decide_eq_false (by omega), ⟨_, _, rfl⟩, ed, trivial⟩
      · exact F16_2 s ⟨beq_eq_false_iff_ne.2 h5, beq_eq_false_iff_ne.2 h5, beq_eq_false_iff_ne.2 h5, ⟨_, rfl, Nat.zero_le _⟩, ⟨_, rfl, hm⟩, decide_eq_false (by omega), ⟨_, _, rfl⟩, ed, trivial⟩
def C16 : FC := ⟨16, fun l => ∃ s, l = [.string s] ∧ s.size ≤ 1000, fun l => match l with | [.string s] => prsR s | _ => undef, [2]⟩
theorem C16_good : C16.Good Tryd.prog ovs st0 := ⟨by kernel_rfl, fun args ⟨s, e, h⟩ => by subst e; exact ⟨rfl, rfl, 1000, F16_all s h⟩⟩
noncomputable def ovt : Ov := ovWith st0 [C16] [] ovs
noncomputable def ovOt : OvO := ovOWith st0 [C16] [] ovOs
theorem reft : OvRef ovt ovOt := ovWith_ref refs
theorem ovt_ok : OvOk Tryd.prog ovt ∧ OvMono ovt ∧ OvIds ovt :=
  ⟨ovWith_ok3 Tryd.checked.mixed ovs_ok.1 ng_st0 (fun C h => by
      simp only [List.mem_cons, List.not_mem_nil, or_false] at h
      subst h; exact ⟨_, ovs_ok.1, ovs_ok.2.1, ovs_ok.2.2, C16_good⟩),
   ovWith_mono ovs_ok.2.1 (fun x h => by cases h), ovWith_ids ovs_ok.2.2⟩
end Go.Proofs.YtgmojlibppmfhaaDoor

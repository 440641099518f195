/- Runs of the abstract interpreter, part 22: by an AI agent. -/
import Derived.Test.YtgmojlibppmfhaaDoorPart21

namespace Go.Proofs.YtgmojlibppmfhaaDoor
open Go Go.Ai
def A51f_0 (s : ByteArray) (a : Int) : List Prop := [(byteAt s a.toNat == (48 : Int)) = false, (decide ((rowR s a 11 0 0).2 > (10 : Int))) = false, (decide ((rowR s a 11 0 0).2 > (1 : Int))) = true, (decide ((rowR s a 11 0 0).2 > (10 : Int))) = false, (decide ((rowR s a 11 0 0).2 > (1 : Int))) = true, (decide ((0 : Int) ≤ a ∧ a < (s.size : Int))) = true, (decide ((rowR s a 11 0 0).2 > (1 : Int))) = true, (decide ((rowR s a 11 0 0).2 > (1 : Int))) = true, (decide ((rowR s a 11 0 0).2 > (1 : Int))) = true, (decide ((rowR s a 11 0 0).2 > (10 : Int))) = false, (decide ((rowR s a 11 0 0).2 > (10 : Int))) = false, (decide ((rowR s a 11 0 0).2 > (10 : Int))) = false, ((rowR s a 11 0 0).2 == (0 : Int)) = false, ((rowR s a 11 0 0).2 == (0 : Int)) = false, ((rowR s a 11 0 0).2 == (0 : Int)) = false, L51.pre [.string s, .int .i64 a, .int .i64 0, .int .i64 0], L51.c = L51.c]
theorem F51_0 (s : ByteArray) (a : Int) (h : Holds (A51f_0 s a)) : ∃ st', Go.Ai.call cx ovx1 1000 51 [.string s, .int .i64 a] ⟨keepIds st0.hp [], st0.ct⟩ = some (Value.tuple { toList := [Value.int IntKind.i64 (rowR s a 11 0 0).1, Value.int IntKind.i64 (rowR s a 11 0 0).2] }, st') :=
  path_call refx1 (toks := [.no, .no, .no, .no, .no, .no, .yes, .yes, .yes, .yes, .yes, .no, .yes, .no, .no]) (by kernel_rfl) h
def A51f_1 (s : ByteArray) (a : Int) : List Prop := [((rowR s a 11 0 0).2 == (0 : Int)) = true, ((rowR s a 11 0 0).2 == (0 : Int)) = true, ((rowR s a 11 0 0).2 == (0 : Int)) = true, L51.pre [.string s, .int .i64 a, .int .i64 0, .int .i64 0], L51.c = L51.c]
theorem F51_1 (s : ByteArray) (a : Int) (h : Holds (A51f_1 s a)) : ∃ st', Go.Ai.call cx ovx1 1000 51 [.string s, .int .i64 a] ⟨keepIds st0.hp [], st0.ct⟩ = some (Value.tuple { toList := [Value.int IntKind.i64 (0 : Int), Value.int IntKind.i64 (0 : Int)] }, st') :=
  path_call refx1 (toks := [.yes, .yes, .yes, .ev, .ev, .ev, .ev, .ev, .ev]) (by kernel_rfl) h
def A51f_2 (s : ByteArray) (a : Int) : List Prop := [(decide ((rowR s a 11 0 0).2 > (10 : Int))) = true, (decide ((rowR s a 11 0 0).2 > (10 : Int))) = true, (decide ((rowR s a 11 0 0).2 > (10 : Int))) = true, (decide ((rowR s a 11 0 0).2 > (10 : Int))) = true, (decide ((rowR s a 11 0 0).2 > (10 : Int))) = true, ((rowR s a 11 0 0).2 == (0 : Int)) = false, ((rowR s a 11 0 0).2 == (0 : Int)) = false, ((rowR s a 11 0 0).2 == (0 : Int)) = false, L51.pre [.string s, .int .i64 a, .int .i64 0, .int .i64 0], L51.c = L51.c]
theorem F51_2 (s : ByteArray) (a : Int) (h : Holds (A51f_2 s a)) : ∃ st', Go.Ai.call cx ovx1 1000 51 [.string s, .int .i64 a] ⟨keepIds st0.hp [], st0.ct⟩ = some (Value.tuple { toList := [Value.int IntKind.i64 (0 : Int), Value.int IntKind.i64 (0 : Int)] }, st') :=
  path_call refx1 (toks := [.no, .no, .no, .yes, .yes, .yes, .yes, .yes, .ev]) (by kernel_rfl) h
def A51f_3 (s : ByteArray) (a : Int) : List Prop := [(byteAt s a.toNat == (48 : Int)) = true, (decide ((rowR s a 11 0 0).2 > (10 : Int))) = false, (decide ((rowR s a 11 0 0).2 > (1 : Int))) = true, (decide ((rowR s a 11 0 0).2 > (10 : Int))) = false, (decide ((rowR s a 11 0 0).2 > (1 : Int))) = true, (decide ((0 : Int) ≤ a ∧ a < (s.size : Int))) = true, (decide ((rowR s a 11 0 0).2 > (1 : Int))) = true, (decide ((rowR s a 11 0 0).2 > (1 : Int))) = true, (decide ((rowR s a 11 0 0).2 > (1 : Int))) = true, (decide ((rowR s a 11 0 0).2 > (10 : Int))) = false, (decide ((rowR s a 11 0 0).2 > (10 : Int))) = false, (decide ((rowR s a 11 0 0).2 > (10 : Int))) = false, ((rowR s a 11 0 0).2 == (0 : Int)) = false, ((rowR s a 11 0 0).2 == (0 : Int)) = false, ((rowR s a 11 0 0).2 == (0 : Int)) = false, L51.pre [.string s, .int .i64 a, .int .i64 0, .int .i64 0], L51.c = L51.c]
theorem F51_3 (s : ByteArray) (a : Int) (h : Holds (A51f_3 s a)) : ∃ st', Go.Ai.call cx ovx1 1000 51 [.string s, .int .i64 a] ⟨keepIds st0.hp [], st0.ct⟩ = some (Value.tuple { toList := [Value.int IntKind.i64 (0 : Int), Value.int IntKind.i64 (0 : Int)] }, st') :=
  path_call refx1 (toks := [.no, .no, .no, .no, .no, .no, .yes, .yes, .yes, .yes, .yes, .no, .yes, .no, .yes]) (by kernel_rfl) h
def A51f_4 (s : ByteArray) (a : Int) : List Prop := [(decide ((rowR s a 11 0 0).2 > (10 : Int))) = false, (decide ((rowR s a 11 0 0).2 > (1 : Int))) = false, (decide ((rowR s a 11 0 0).2 > (10 : Int))) = false, (decide ((rowR s a 11 0 0).2 > (1 : Int))) = false, (decide ((rowR s a 11 0 0).2 > (1 : Int))) = false, (decide ((rowR s a 11 0 0).2 > (1 : Int))) = false, (decide ((rowR s a 11 0 0).2 > (1 : Int))) = false, (decide ((rowR s a 11 0 0).2 > (10 : Int))) = false, (decide ((rowR s a 11 0 0).2 > (10 : Int))) = false, (decide ((rowR s a 11 0 0).2 > (10 : Int))) = false, ((rowR s a 11 0 0).2 == (0 : Int)) = false, ((rowR s a 11 0 0).2 == (0 : Int)) = false, ((rowR s a 11 0 0).2 == (0 : Int)) = false, L51.pre [.string s, .int .i64 a, .int .i64 0, .int .i64 0], L51.c = L51.c]
theorem F51_4 (s : ByteArray) (a : Int) (h : Holds (A51f_4 s a)) : ∃ st', Go.Ai.call cx ovx1 1000 51 [.string s, .int .i64 a] ⟨keepIds st0.hp [], st0.ct⟩ = some (Value.tuple { toList := [Value.int IntKind.i64 (rowR s a 11 0 0).1, Value.int IntKind.i64 (rowR s a 11 0 0).2] }, st') :=
  path_call refx1 (toks := [.no, .no, .no, .no, .no, .no, .no, .no, .no, .no, .no, .no, .no, .ev]) (by kernel_rfl) h
theorem F51_all (s : ByteArray) (a : Int) (hs : s.size ≤ 1000) (h0 : 0 ≤ a) (h1 : a ≤ 1000) : ∃ st', Go.Ai.call cx ovx1 1000 51 [.string s, .int .i64 a] ⟨keepIds st0.hp [], st0.ct⟩ = some (rowV s a, st') := by
  obtain ⟨g1, g2, g3, g4, g5⟩ := rowR_spec s a h0 11 0 0 (by omega)
  have hp : L51.pre [.string s, .int .i64 a, .int .i64 0, .int .i64 0] := ⟨_, _, _, _, rfl, hs, h0, h1, by omega, by omega, by omega, by decide⟩
  by_cases hz : (rowR s a 11 0 0).2 = 0
  · have e1 : (rowR s a 11 0 0).1 = 0 := by rw [g5, hz]; rfl
    rw [show rowV s a = .tuple #[.int .i64 0, .int .i64 0] from by simp [rowV, rowN, rowM, rowBad, hz, e1]]
    exact F51_1 s a ⟨beq_iff_eq.2 (by omega), beq_iff_eq.2 (by omega), beq_iff_eq.2 (by omega), hp, rfl, trivial⟩
  · by_cases h10 : 10 < (rowR s a 11 0 0).2
    · rw [show rowV s a = .tuple #[.int .i64 0, .int .i64 0] from by simp [rowV, rowN, rowM, rowBad, h10]]
      exact F51_2 s a ⟨decide_eq_true (by omega), decide_eq_true (by omega), decide_eq_true (by omega), decide_eq_true (by omega), decide_eq_true (by omega), beq_eq_false_iff_ne.2 (by omega), beq_eq_false_iff_ne.2 (by omega), beq_eq_false_iff_ne.2 (by omega), hp, rfl, trivial⟩
    · by_cases h2 : 1 < (rowR s a 11 0 0).2
      · have := (g3 0 (by omega) (by omega)).1
        by_cases h3 : byteAt s a.toNat = 48
        · rw [show rowV s a = .tuple #[.int .i64 0, .int .i64 0] from by simp [rowV, rowN, rowM, rowBad, h2, h3]]
          exact F51_3 s a ⟨beq_iff_eq.2 h3, decide_eq_false (by omega), decide_eq_true (by omega), decide_eq_false (by omega), decide_eq_true (by omega), decide_eq_true (by omega), decide_eq_true (by omega), decide_eq_true (by omega), decide_eq_true (by omega), decide_eq_false (by omega), decide_eq_false (by omega), decide_eq_false (by omega), beq_eq_false_iff_ne.2 (by omega), beq_eq_false_iff_ne.2 (by omega), beq_eq_false_iff_ne.2 (by omega), hp, rfl, trivial⟩
        · rw [show rowV s a = .tuple #[.int .i64 (rowR s a 11 0 0).1, .int .i64 (rowR s a 11 0 0).2] from by simp [rowV, rowN, rowM, rowBad, h10, h3]]
          exact F51_0 s a ⟨beq_eq_false_iff_ne.2 h3, decide_eq_false (by omega), decide_eq_true (by omega), decide_eq_false (by omega), decide_eq_true (by omega), decide_eq_true (by omega), decide_eq_true (by omega), decide_eq_true (by omega), decide_eq_true (by omega), decide_eq_false (by omega), decide_eq_false (by omega), decide_eq_false (by omega), beq_eq_false_iff_ne.2 (by omega), beq_eq_false_iff_ne.2 (by omega), beq_eq_false_iff_ne.2 (by omega), hp, rfl, trivial⟩
      · rw [show rowV s a = .tuple #[.int .i64 (rowR s a 11 0 0).1, .int .i64 (rowR s a 11 0 0).2] from by simp [rowV, rowN, rowM, rowBad, h10, h2]]
        exact F51_4 s a ⟨decide_eq_false (by omega), decide_eq_false (by omega), decide_eq_false (by omega), decide_eq_false (by omega), decide_eq_false (by omega), decide_eq_false (by omega), decide_eq_false (by omega), decide_eq_false (by omega), decide_eq_false (by omega), decide_eq_false (by omega), beq_eq_false_iff_ne.2 (by omega), beq_eq_false_iff_ne.2 (by omega), beq_eq_false_iff_ne.2 (by omega), hp, rfl, trivial⟩
def C51 : FC := ⟨51, fun l => ∃ s a, l = [.string s, .int .i64 a] ∧ s.size ≤ 1000 ∧ 0 ≤ a ∧ a ≤ 1000, fun l => match l with | [.string s, .int _ a] => rowV s a | _ => undef, []⟩
theorem C51_good : C51.Good Tryd.prog ovx1 st0 := ⟨by kernel_rfl, fun args ⟨s, a, e, hs, h0, h1⟩ => by subst e; exact ⟨rfl, rfl, 1000, F51_all s a hs h0 h1⟩⟩
noncomputable def ovx2 : Ov := ovWith st0 [C51] [] ov0
noncomputable def ovOx2 : OvO := ovOWith st0 [C51] [] ovO0
theorem refx2 : OvRef ovx2 ovOx2 := ovWith_ref ref0
theorem ovx2_ok : OvOk Tryd.prog ovx2 ∧ OvMono ovx2 ∧ OvIds ovx2 :=
  ⟨ovWith_ok3 Tryd.checked.mixed ov0_ok.1 ng_st0 (fun C h => by
      simp only [List.mem_cons, List.not_mem_nil, or_false] at h
      subst h; exact ⟨_, ovx1_ok.1, ovx1_ok.2.1, ovx1_ok.2.2, C51_good⟩),
   ovWith_mono ov0_ok.2.1 (fun x h => by cases h), ovWith_ids ov0_ok.2.2⟩
end Go.Proofs.YtgmojlibppmfhaaDoor

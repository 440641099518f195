/- Runs of the abstract interpreter, part 17: by an AI agent. -/
import Derived.Test.YtgmojlibppmfhaaDoorPart16

namespace Go.Proofs.YtgmojlibppmfhaaDoor
open Go Go.Ai
def cut40 (s : ByteArray) : ByteArray := s.extract 0 (if (40 : Int) < s.size then (40 : Int) else s.size).toNat
def A9 (s : ByteArray) : List Prop := [((parP (cut40 s)).2 == (parP (cut40 s)).2) = true, C36n.pre [], ((parP (cut40 s)).2 == (parP (cut40 s)).2) = true, ((parP (cut40 s)).1 == (parP (cut40 s)).1) = true, ((parP (cut40 s)).1 == (parP (cut40 s)).1) = true, ((parP (cut40 s)).1 == (parP (cut40 s)).1) = true, ((parP (cut40 s)).1 == (parP (cut40 s)).1) = true, C35.pre [.string (cut40 s)], C34.pre [.string (cut40 s)], decide ((0 : Int) ≤ (if (40 : Int) < s.size then (40 : Int) else s.size) ∧ (if (40 : Int) < s.size then (40 : Int) else s.size) ≤ (s.size : Int)) = true]
theorem F9 (s : ByteArray) (h : Holds (A9 s)) : ∃ st', Go.Ai.call cx ovn6 1000 9 [.string s] stR = some (.bool true, st') :=
  path_call refn6 (toks := [.no, .yes, .yes, .yes, .yes, .yes, .yes, .yes]) (by kernel_rfl) h
theorem F9_all (s : ByteArray) (_ : s.size ≤ maxLen) : ∃ st', Go.Ai.call cx ovn6 1000 9 [.string s] stR = some (.bool true, st') := by
  have hc : (cut40 s).size ≤ 1000 := by
    unfold cut40
    rw [ByteArray.size_extract]
    split <;> omega
  exact F9 s ⟨beq_self_eq_true _, rfl, beq_self_eq_true _, beq_self_eq_true _, beq_self_eq_true _, beq_self_eq_true _, beq_self_eq_true _, ⟨_, rfl, hc⟩, ⟨_, rfl, hc⟩, decide_eq_true (by split <;> omega), trivial⟩
end Go.Proofs.YtgmojlibppmfhaaDoor

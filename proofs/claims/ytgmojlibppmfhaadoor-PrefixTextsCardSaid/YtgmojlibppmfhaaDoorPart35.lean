/- Runs of the abstract interpreter, part 35: by an AI agent. -/
import Derived.Test.YtgmojlibppmfhaaDoorPart34

namespace Go.Proofs.YtgmojlibppmfhaaDoor
open Go Go.Ai

def rtB (b : UInt8) : UInt8 := UInt8.ofNat (Int.toNat (b.toNat : Int))
theorem rtB_eq (b : UInt8) : rtB b = b := by simp [rtB]
def ipJ (a b c d : Nat) (x : Int) : ByteArray := ⟨⟨(expl (digB (octF x 0)).data.toList a 0).map rtB ++ 46 :: ((expl (digB (octF x 1)).data.toList b 0).map rtB ++ 46 :: ((expl (digB (octF x 2)).data.toList c 0).map rtB ++ 46 :: (expl (digB (octF x 3)).data.toList d 0).map rtB))⟩⟩
def pO (n : Int) (k : Nat) : List Prop := [AllC [.string (explode k (digB n))], ((digB n).size : Int) = (k : Int), CIT.pre [.int .i64 n], decide ((-9223372036854775808 : Int) ≤ n ∧ n ≤ 9223372036854775807) = true]
def pA (a b c d : Nat) (x : Int) : List Prop := [true = true, true = true] ++ (pO (octF x 3) d ++ (pO (octF x 2) c ++ (pO (octF x 1) b ++ (pO (octF x 0) a ++ [CBY.pre [.int .u32 x]]))))
def evn : Nat → List An
  | 0 => []
  | n + 1 => .ev :: evn n
def tkI (a b c d : Nat) : List An := [.ev, .yes, .at (a : Int), .ev, .ev, .ev, .ev, .ev, .ev, .yes, .at (b : Int), .ev, .ev, .ev, .ev, .ev, .ev, .ev, .ev, .ev, .ev, .ev, .yes, .at (c : Int), .ev, .ev, .ev, .ev, .ev, .ev, .ev, .ev, .ev, .ev, .ev, .yes, .at (d : Int)] ++ evn 196
end Go.Proofs.YtgmojlibppmfhaaDoor

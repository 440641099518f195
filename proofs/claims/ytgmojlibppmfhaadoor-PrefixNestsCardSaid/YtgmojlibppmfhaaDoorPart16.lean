/- Runs of the abstract interpreter, part 16: by an AI agent. -/
import Derived.Test.YtgmojlibppmfhaaDoorPart15

namespace Go.Proofs.YtgmojlibppmfhaaDoor
open Go Go.Ai
theorem law8_core {x b y c z ub uc : Int} {sb sc : Bool} {R : Prop} (x0 : 0 ≤ x) (x1 : x < 4294967296) (y0 : 0 ≤ y) (y1 : y < 4294967296) (z0 : 0 ≤ z) (z1 : z < 4294967296)
    (hsb : decide ((0 : Int) ≤ b ∧ b ≤ (18446744073709551615 : Int)) = sb) (hsc : decide ((0 : Int) ≤ c ∧ c ≤ (18446744073709551615 : Int)) = sc) (ub0 : 0 ≤ ub) (uc0 : 0 ≤ uc)
    (k0 : Holds (pl cd0 (prw x b y c z ub uc sb sc)) → R)
    (k1 : Holds (pl cd1 (prw x b y c z ub uc sb sc)) → R)
    (k2 : Holds (pl cd2 (prw x b y c z ub uc sb sc)) → R)
    (k3 : Holds (pl cd3 (prw x b y c z ub uc sb sc)) → R)
    (k5 : Holds (pl cd5 (prw x b y c z ub uc sb sc)) → R)
    (k7 : Holds (pl cd7 (prw x b y c z ub uc sb sc)) → R)
    (k8 : Holds (pl cd8 (prw x b y c z ub uc sb sc)) → R)
    (k10 : Holds (pl cd10 (prw x b y c z ub uc sb sc)) → R)
    (k11 : Holds (pl cd11 (prw x b y c z ub uc sb sc)) → R)
    (k13 : Holds (pl cd13 (prw x b y c z ub uc sb sc)) → R)
    (k16 : Holds (pl cd16 (prw x b y c z ub uc sb sc)) → R) : R := by
  unfold prw at *
  obtain ⟨p0, p1⟩ := clampF_range (ub % (33 : Int))
  obtain ⟨q0, q1⟩ := clampF_range (uc % (33 : Int))
  generalize clampF (ub % (33 : Int)) = P at *
  generalize clampF (uc % (33 : Int)) = Q at *
  obtain ⟨X0, X1'⟩ := flF_range (b := P) x0
  obtain ⟨Y0, Y1'⟩ := flF_range (b := Q) y0
  have hX : flF (flF x P) P = flF x P := fl_fl x (Int.le_refl P) p1
  have hY : flF (flF y Q) Q = flF y Q := fl_fl y (Int.le_refl Q) q1
  have X1 : flF x P < 4294967296 := by omega
  have Y1 : flF y Q < 4294967296 := by omega
  generalize flF x P = X at *
  generalize flF y Q = Y at *
  have hA := factsA (x := x) (b := b) (y := y) (c := c) (z := z) (Q := Q) x0 x1 y0 y1 z0 z1 hsb hsc ub0 uc0 X0 X1 Y0 Y1 p0 p1 hX
  by_cases h32 : P = 32
  · cases hp : hasF X P z
    · cases ha : contF X P Y Q
      · exact k11 (holds_pl (s := sA ++ [51, 53, 49, 56, 57]) (allG_app hA ⟨(beq_iff_eq.2 h32), (a53 p0 p1 hX h32 z), hp, ha, (a57 p0 p1 hX q0 q1 hY ha), trivial⟩) (by decide))
      · cases hq : hasF Y Q z
        · exact k3 (holds_pl (s := sA ++ [51, 53, 19, 21, 23, 49, 50]) (allG_app hA ⟨(beq_iff_eq.2 h32), (a53 p0 p1 hX h32 z), ha, (a21 p0 p1 hX q0 q1 hY ha), (a23 p0 p1 hX q0 q1 hY ha), hp, hq, trivial⟩) (by decide))
        · rw [cont_has p0 p1 hX q0 q1 hY ha hq] at hp; cases hp
    · cases ha : contF X P Y Q
      · cases hq : hasF Y Q z
        · exact k16 (holds_pl (s := sA ++ [51, 53, 15, 50, 56, 57]) (allG_app hA ⟨(beq_iff_eq.2 h32), (a53 p0 p1 hX h32 z), hp, hq, ha, (a57 p0 p1 hX q0 q1 hY ha), trivial⟩) (by decide))
        · cases hb : contF Y Q X P
          · rcases share p0 p1 hX q0 q1 hY hp hq with h | h
            · rw [ha] at h; cases h
            · rw [hb] at h; cases h
          · exact k10 (holds_pl (s := sA ++ [51, 53, 15, 17, 54, 55, 56, 57]) (allG_app hA ⟨(beq_iff_eq.2 h32), (a53 p0 p1 hX h32 z), hp, hq, (show (!contF X P Y Q) = true by rw [ha]; rfl), (show (!contF Y Q X P) = false by rw [hb]; rfl), ha, (a57 p0 p1 hX q0 q1 hY ha), trivial⟩) (by decide))
      · cases hq : hasF Y Q z
        · exfalso
          have h1 := (cont_iff p0 p1 hX q0 q1 hY).1 ha
          have h2 : P = Q := by omega
          have h3 := (cont_same p0 p1 hX q0 q1 hY h2).1 ha
          subst h2; subst h3; rw [hp] at hq; cases hq
        · exact k2 (holds_pl (s := sA ++ [51, 53, 15, 17, 18, 19, 20, 21, 23]) (allG_app hA ⟨(beq_iff_eq.2 h32), (a53 p0 p1 hX h32 z), hp, hq, (show (!contF X P Y Q) = false by rw [ha]; rfl), ha, (show (!hasF X P z) = false by rw [hp]; rfl), (a21 p0 p1 hX q0 q1 hY ha), (a23 p0 p1 hX q0 q1 hY ha), trivial⟩) (by decide))
  · cases hp : hasF X P z
    · cases ha : contF X P Y Q
      · exact k8 (holds_pl (s := sA ++ sLow ++ [49, 56, 57]) (allG_app (allG_app hA (factsLow z0 z1 X0 X1 p0 (by omega) hX)) ⟨hp, ha, (a57 p0 p1 hX q0 q1 hY ha), trivial⟩) (by decide))
      · cases hq : hasF Y Q z
        · exact k1 (holds_pl (s := sA ++ sLow ++ [19, 21, 23, 49, 50]) (allG_app (allG_app hA (factsLow z0 z1 X0 X1 p0 (by omega) hX)) ⟨ha, (a21 p0 p1 hX q0 q1 hY ha), (a23 p0 p1 hX q0 q1 hY ha), hp, hq, trivial⟩) (by decide))
        · rw [cont_has p0 p1 hX q0 q1 hY ha hq] at hp; cases hp
    · cases ha : contF X P Y Q
      · cases hq : hasF Y Q z
        · exact k13 (holds_pl (s := sA ++ sLow ++ [15, 50, 56, 57]) (allG_app (allG_app hA (factsLow z0 z1 X0 X1 p0 (by omega) hX)) ⟨hp, hq, ha, (a57 p0 p1 hX q0 q1 hY ha), trivial⟩) (by decide))
        · cases hb : contF Y Q X P
          · rcases share p0 p1 hX q0 q1 hY hp hq with h | h
            · rw [ha] at h; cases h
            · rw [hb] at h; cases h
          · exact k7 (holds_pl (s := sA ++ sLow ++ [15, 17, 54, 55, 56, 57]) (allG_app (allG_app hA (factsLow z0 z1 X0 X1 p0 (by omega) hX)) ⟨hp, hq, (show (!contF X P Y Q) = true by rw [ha]; rfl), (show (!contF Y Q X P) = false by rw [hb]; rfl), ha, (a57 p0 p1 hX q0 q1 hY ha), trivial⟩) (by decide))
      · cases hq : hasF Y Q z
        · exact k5 (holds_pl (s := sA ++ sLow ++ [15, 19, 21, 23, 50]) (allG_app (allG_app hA (factsLow z0 z1 X0 X1 p0 (by omega) hX)) ⟨hp, ha, (a21 p0 p1 hX q0 q1 hY ha), (a23 p0 p1 hX q0 q1 hY ha), hq, trivial⟩) (by decide))
        · exact k0 (holds_pl (s := sA ++ sLow ++ [15, 17, 18, 19, 20, 21, 23]) (allG_app (allG_app hA (factsLow z0 z1 X0 X1 p0 (by omega) hX)) ⟨hp, hq, (show (!contF X P Y Q) = false by rw [ha]; rfl), ha, (show (!hasF X P z) = false by rw [hp]; rfl), (a21 p0 p1 hX q0 q1 hY ha), (a23 p0 p1 hX q0 q1 hY ha), trivial⟩) (by decide))
theorem u64_wrap (b : Int) : 0 ≤ IntKind.u64.wrap b := by
  show 0 ≤ b % _
  exact Int.emod_nonneg _ (by decide)
theorem law8 (x b y c z : Int) (x0 : 0 ≤ x) (x1 : x < 4294967296) (y0 : 0 ≤ y) (y1 : y < 4294967296) (z0 : 0 ≤ z) (z1 : z < 4294967296) : ∃ st', Go.Ai.call cx ovp4 1000 8 (args8 x b y c z) stN = some (.bool true, st') := by
  cases hsb : decide ((0 : Int) ≤ b ∧ b ≤ (18446744073709551615 : Int)) <;> cases hsc : decide ((0 : Int) ≤ c ∧ c ≤ (18446744073709551615 : Int))
  · exact law8_core x0 x1 y0 y1 z0 z1 hsb hsc (u64_wrap b) (u64_wrap c) (w0_ff x b y c z) (w1_ff x b y c z) (w2_ff x b y c z) (w3_ff x b y c z) (w5_ff x b y c z) (w7_ff x b y c z) (w8_ff x b y c z) (w10_ff x b y c z) (w11_ff x b y c z) (w13_ff x b y c z) (w16_ff x b y c z)
  · exact law8_core x0 x1 y0 y1 z0 z1 hsb hsc (u64_wrap b) (of_decide_eq_true hsc).1 (w0_ft x b y c z) (w1_ft x b y c z) (w2_ft x b y c z) (w3_ft x b y c z) (w5_ft x b y c z) (w7_ft x b y c z) (w8_ft x b y c z) (w10_ft x b y c z) (w11_ft x b y c z) (w13_ft x b y c z) (w16_ft x b y c z)
  · exact law8_core x0 x1 y0 y1 z0 z1 hsb hsc (of_decide_eq_true hsb).1 (u64_wrap c) (w0_tf x b y c z) (w1_tf x b y c z) (w2_tf x b y c z) (w3_tf x b y c z) (w5_tf x b y c z) (w7_tf x b y c z) (w8_tf x b y c z) (w10_tf x b y c z) (w11_tf x b y c z) (w13_tf x b y c z) (w16_tf x b y c z)
  · exact law8_core x0 x1 y0 y1 z0 z1 hsb hsc (of_decide_eq_true hsb).1 (of_decide_eq_true hsc).1 (w0_tt x b y c z) (w1_tt x b y c z) (w2_tt x b y c z) (w3_tt x b y c z) (w5_tt x b y c z) (w7_tt x b y c z) (w8_tt x b y c z) (w10_tt x b y c z) (w11_tt x b y c z) (w13_tt x b y c z) (w16_tt x b y c z)
end Go.Proofs.YtgmojlibppmfhaaDoor

/- Runs of the abstract interpreter, part 39: by an AI agent. -/
import Derived.Test.YtgmojlibppmfhaaDoorPart38

namespace Go.Proofs.YtgmojlibppmfhaaDoor
open Go Go.Ai

theorem rtB_map (l : List UInt8) : l.map rtB = l := by
  have : (rtB : UInt8 → UInt8) = id := funext rtB_eq
  rw [this, List.map_id]
theorem ipJ_eq {a b c d : Nat} {x : Int} (ha : (digB (octF x 0)).size = a) (hb : (digB (octF x 1)).size = b) (hc : (digB (octF x 2)).size = c) (hd : (digB (octF x 3)).size = d) : ipJ a b c d x = ipB x := by
  have e {k : Nat} {s : ByteArray} (h : s.size = k) : expl s.data.toList k 0 = s.data.toList := expl_eq k 0 _ (by rw [← h, Nat.zero_add]; rfl)
  unfold ipJ
  rw [rtB_map, rtB_map, rtB_map, rtB_map, e ha, e hb, e hc, e hd]
  unfold ipB
  refine ByteArray.ext (Array.toList_inj.1 ?_)
  simp [dotB1]
theorem pA_holds {a b c d : Nat} {x : Int} (h0 : 0 ≤ x) (h1 : x < 4294967296) (ha : (digB (octF x 0)).size = a) (hb : (digB (octF x 1)).size = b) (hc : (digB (octF x 2)).size = c) (hd : (digB (octF x 3)).size = d) : Holds (pA a b c d x) := by
  have c1 (s : ByteArray) : AllC [.string s] := fun v hv => by
    rw [List.mem_singleton] at hv; subst hv; rfl
  have r0 := octF_range x 0
  have r1 := octF_range x 1
  have r2 := octF_range x 2
  have r3 := octF_range x 3
  exact ⟨rfl, rfl, c1 _, by rw [hd], ⟨_, rfl, r3⟩, decide_eq_true (by omega), c1 _, by rw [hc], ⟨_, rfl, r2⟩, decide_eq_true (by omega), c1 _, by rw [hb], ⟨_, rfl, r1⟩, decide_eq_true (by omega), c1 _, by rw [ha], ⟨_, rfl, r0⟩, decide_eq_true (by omega), ⟨_, rfl, h0, h1⟩, trivial⟩
theorem Fipt_all (x : Int) (h0 : 0 ≤ x) (h1 : x < 4294967296) : ∃ st', Go.Ai.call cx ovz3 1000 23 [.int .u32 x] ⟨keepIds st0.hp [2], st0.ct⟩ = some (.string (ipB x), st') := by
  have s {n : Int} : (digB n).size = 1 ∨ (digB n).size = 2 ∨ (digB n).size = 3 := by have := digB_size n; omega
  rcases @s (octF x 0) with ha | ha | ha
  · rcases @s (octF x 1) with hb | hb | hb
    · rcases @s (octF x 2) with hc | hc | hc
      · rcases @s (octF x 3) with hd | hd | hd
        · rw [← ipJ_eq ha hb hc hd]; exact Fipt_1111 x (pA_holds h0 h1 ha hb hc hd)
        · rw [← ipJ_eq ha hb hc hd]; exact Fipt_1112 x (pA_holds h0 h1 ha hb hc hd)
        · rw [← ipJ_eq ha hb hc hd]; exact Fipt_1113 x (pA_holds h0 h1 ha hb hc hd)
      · rcases @s (octF x 3) with hd | hd | hd
        · rw [← ipJ_eq ha hb hc hd]; exact Fipt_1121 x (pA_holds h0 h1 ha hb hc hd)
        · rw [← ipJ_eq ha hb hc hd]; exact Fipt_1122 x (pA_holds h0 h1 ha hb hc hd)
        · rw [← ipJ_eq ha hb hc hd]; exact Fipt_1123 x (pA_holds h0 h1 ha hb hc hd)
      · rcases @s (octF x 3) with hd | hd | hd
        · rw [← ipJ_eq ha hb hc hd]; exact Fipt_1131 x (pA_holds h0 h1 ha hb hc hd)
        · rw [← ipJ_eq ha hb hc hd]; exact Fipt_1132 x (pA_holds h0 h1 ha hb hc hd)
        · rw [← ipJ_eq ha hb hc hd]; exact Fipt_1133 x (pA_holds h0 h1 ha hb hc hd)
    · rcases @s (octF x 2) with hc | hc | hc
      · rcases @s (octF x 3) with hd | hd | hd
        · rw [← ipJ_eq ha hb hc hd]; exact Fipt_1211 x (pA_holds h0 h1 ha hb hc hd)
        · rw [← ipJ_eq ha hb hc hd]; exact Fipt_1212 x (pA_holds h0 h1 ha hb hc hd)
        · rw [← ipJ_eq ha hb hc hd]; exact Fipt_1213 x (pA_holds h0 h1 ha hb hc hd)
      · rcases @s (octF x 3) with hd | hd | hd
        · rw [← ipJ_eq ha hb hc hd]; exact Fipt_1221 x (pA_holds h0 h1 ha hb hc hd)
        · rw [← ipJ_eq ha hb hc hd]; exact Fipt_1222 x (pA_holds h0 h1 ha hb hc hd)
        · rw [← ipJ_eq ha hb hc hd]; exact Fipt_1223 x (pA_holds h0 h1 ha hb hc hd)
      · rcases @s (octF x 3) with hd | hd | hd
        · rw [← ipJ_eq ha hb hc hd]; exact Fipt_1231 x (pA_holds h0 h1 ha hb hc hd)
        · rw [← ipJ_eq ha hb hc hd]; exact Fipt_1232 x (pA_holds h0 h1 ha hb hc hd)
        · rw [← ipJ_eq ha hb hc hd]; exact Fipt_1233 x (pA_holds h0 h1 ha hb hc hd)
    · rcases @s (octF x 2) with hc | hc | hc
      · rcases @s (octF x 3) with hd | hd | hd
        · rw [← ipJ_eq ha hb hc hd]; exact Fipt_1311 x (pA_holds h0 h1 ha hb hc hd)
        · rw [← ipJ_eq ha hb hc hd]; exact Fipt_1312 x (pA_holds h0 h1 ha hb hc hd)
        · rw [← ipJ_eq ha hb hc hd]; exact Fipt_1313 x (pA_holds h0 h1 ha hb hc hd)
      · rcases @s (octF x 3) with hd | hd | hd
        · rw [← ipJ_eq ha hb hc hd]; exact Fipt_1321 x (pA_holds h0 h1 ha hb hc hd)
        · rw [← ipJ_eq ha hb hc hd]; exact Fipt_1322 x (pA_holds h0 h1 ha hb hc hd)
        · rw [← ipJ_eq ha hb hc hd]; exact Fipt_1323 x (pA_holds h0 h1 ha hb hc hd)
      · rcases @s (octF x 3) with hd | hd | hd
        · rw [← ipJ_eq ha hb hc hd]; exact Fipt_1331 x (pA_holds h0 h1 ha hb hc hd)
        · rw [← ipJ_eq ha hb hc hd]; exact Fipt_1332 x (pA_holds h0 h1 ha hb hc hd)
        · rw [← ipJ_eq ha hb hc hd]; exact Fipt_1333 x (pA_holds h0 h1 ha hb hc hd)
  · rcases @s (octF x 1) with hb | hb | hb
    · rcases @s (octF x 2) with hc | hc | hc
      · rcases @s (octF x 3) with hd | hd | hd
        · rw [← ipJ_eq ha hb hc hd]; exact Fipt_2111 x (pA_holds h0 h1 ha hb hc hd)
        · rw [← ipJ_eq ha hb hc hd]; exact Fipt_2112 x (pA_holds h0 h1 ha hb hc hd)
        · rw [← ipJ_eq ha hb hc hd]; exact Fipt_2113 x (pA_holds h0 h1 ha hb hc hd)
      · rcases @s (octF x 3) with hd | hd | hd
        · rw [← ipJ_eq ha hb hc hd]; exact Fipt_2121 x (pA_holds h0 h1 ha hb hc hd)
        · rw [← ipJ_eq ha hb hc hd]; exact Fipt_2122 x (pA_holds h0 h1 ha hb hc hd)
        · rw [← ipJ_eq ha hb hc hd]; exact Fipt_2123 x (pA_holds h0 h1 ha hb hc hd)
      · rcases @s (octF x 3) with hd | hd | hd
        · rw [← ipJ_eq ha hb hc hd]; exact Fipt_2131 x (pA_holds h0 h1 ha hb hc hd)
        · rw [← ipJ_eq ha hb hc hd]; exact Fipt_2132 x (pA_holds h0 h1 ha hb hc hd)
        · rw [← ipJ_eq ha hb hc hd]; exact Fipt_2133 x (pA_holds h0 h1 ha hb hc hd)
    · rcases @s (octF x 2) with hc | hc | hc
      · rcases @s (octF x 3) with hd | hd | hd
        · rw [← ipJ_eq ha hb hc hd]; exact Fipt_2211 x (pA_holds h0 h1 ha hb hc hd)
        · rw [← ipJ_eq ha hb hc hd]; exact Fipt_2212 x (pA_holds h0 h1 ha hb hc hd)
        · rw [← ipJ_eq ha hb hc hd]; exact Fipt_2213 x (pA_holds h0 h1 ha hb hc hd)
      · rcases @s (octF x 3) with hd | hd | hd
        · rw [← ipJ_eq ha hb hc hd]; exact Fipt_2221 x (pA_holds h0 h1 ha hb hc hd)
        · rw [← ipJ_eq ha hb hc hd]; exact Fipt_2222 x (pA_holds h0 h1 ha hb hc hd)
        · rw [← ipJ_eq ha hb hc hd]; exact Fipt_2223 x (pA_holds h0 h1 ha hb hc hd)
      · rcases @s (octF x 3) with hd | hd | hd
        · rw [← ipJ_eq ha hb hc hd]; exact Fipt_2231 x (pA_holds h0 h1 ha hb hc hd)
        · rw [← ipJ_eq ha hb hc hd]; exact Fipt_2232 x (pA_holds h0 h1 ha hb hc hd)
        · rw [← ipJ_eq ha hb hc hd]; exact Fipt_2233 x (pA_holds h0 h1 ha hb hc hd)
    · rcases @s (octF x 2) with hc | hc | hc
      · rcases @s (octF x 3) with hd | hd | hd
        · rw [← ipJ_eq ha hb hc hd]; exact Fipt_2311 x (pA_holds h0 h1 ha hb hc hd)
        · rw [← ipJ_eq ha hb hc hd]; exact Fipt_2312 x (pA_holds h0 h1 ha hb hc hd)
        · rw [← ipJ_eq ha hb hc hd]; exact Fipt_2313 x (pA_holds h0 h1 ha hb hc hd)
      · rcases @s (octF x 3) with hd | hd | hd
        · rw [← ipJ_eq ha hb hc hd]; exact Fipt_2321 x (pA_holds h0 h1 ha hb hc hd)
        · rw [← ipJ_eq ha hb hc hd]; exact Fipt_2322 x (pA_holds h0 h1 ha hb hc hd)
        · rw [← ipJ_eq ha hb hc hd]; exact Fipt_2323 x (pA_holds h0 h1 ha hb hc hd)
      · rcases @s (octF x 3) with hd | hd | hd
        · rw [← ipJ_eq ha hb hc hd]; exact Fipt_2331 x (pA_holds h0 h1 ha hb hc hd)
        · rw [← ipJ_eq ha hb hc hd]; exact Fipt_2332 x (pA_holds h0 h1 ha hb hc hd)
        · rw [← ipJ_eq ha hb hc hd]; exact Fipt_2333 x (pA_holds h0 h1 ha hb hc hd)
  · rcases @s (octF x 1) with hb | hb | hb
    · rcases @s (octF x 2) with hc | hc | hc
      · rcases @s (octF x 3) with hd | hd | hd
        · rw [← ipJ_eq ha hb hc hd]; exact Fipt_3111 x (pA_holds h0 h1 ha hb hc hd)
        · rw [← ipJ_eq ha hb hc hd]; exact Fipt_3112 x (pA_holds h0 h1 ha hb hc hd)
        · rw [← ipJ_eq ha hb hc hd]; exact Fipt_3113 x (pA_holds h0 h1 ha hb hc hd)
      · rcases @s (octF x 3) with hd | hd | hd
        · rw [← ipJ_eq ha hb hc hd]; exact Fipt_3121 x (pA_holds h0 h1 ha hb hc hd)
        · rw [← ipJ_eq ha hb hc hd]; exact Fipt_3122 x (pA_holds h0 h1 ha hb hc hd)
        · rw [← ipJ_eq ha hb hc hd]; exact Fipt_3123 x (pA_holds h0 h1 ha hb hc hd)
      · rcases @s (octF x 3) with hd | hd | hd
        · rw [← ipJ_eq ha hb hc hd]; exact Fipt_3131 x (pA_holds h0 h1 ha hb hc hd)
        · rw [← ipJ_eq ha hb hc hd]; exact Fipt_3132 x (pA_holds h0 h1 ha hb hc hd)
        · rw [← ipJ_eq ha hb hc hd]; exact Fipt_3133 x (pA_holds h0 h1 ha hb hc hd)
    · rcases @s (octF x 2) with hc | hc | hc
      · rcases @s (octF x 3) with hd | hd | hd
        · rw [← ipJ_eq ha hb hc hd]; exact Fipt_3211 x (pA_holds h0 h1 ha hb hc hd)
        · rw [← ipJ_eq ha hb hc hd]; exact Fipt_3212 x (pA_holds h0 h1 ha hb hc hd)
        · rw [← ipJ_eq ha hb hc hd]; exact Fipt_3213 x (pA_holds h0 h1 ha hb hc hd)
      · rcases @s (octF x 3) with hd | hd | hd
        · rw [← ipJ_eq ha hb hc hd]; exact Fipt_3221 x (pA_holds h0 h1 ha hb hc hd)
        · rw [← ipJ_eq ha hb hc hd]; exact Fipt_3222 x (pA_holds h0 h1 ha hb hc hd)
        · rw [← ipJ_eq ha hb hc hd]; exact Fipt_3223 x (pA_holds h0 h1 ha hb hc hd)
      · rcases @s (octF x 3) with hd | hd | hd
        · rw [← ipJ_eq ha hb hc hd]; exact Fipt_3231 x (pA_holds h0 h1 ha hb hc hd)
        · rw [← ipJ_eq ha hb hc hd]; exact Fipt_3232 x (pA_holds h0 h1 ha hb hc hd)
        · rw [← ipJ_eq ha hb hc hd]; exact Fipt_3233 x (pA_holds h0 h1 ha hb hc hd)
    · rcases @s (octF x 2) with hc | hc | hc
      · rcases @s (octF x 3) with hd | hd | hd
        · rw [← ipJ_eq ha hb hc hd]; exact Fipt_3311 x (pA_holds h0 h1 ha hb hc hd)
        · rw [← ipJ_eq ha hb hc hd]; exact Fipt_3312 x (pA_holds h0 h1 ha hb hc hd)
        · rw [← ipJ_eq ha hb hc hd]; exact Fipt_3313 x (pA_holds h0 h1 ha hb hc hd)
      · rcases @s (octF x 3) with hd | hd | hd
        · rw [← ipJ_eq ha hb hc hd]; exact Fipt_3321 x (pA_holds h0 h1 ha hb hc hd)
        · rw [← ipJ_eq ha hb hc hd]; exact Fipt_3322 x (pA_holds h0 h1 ha hb hc hd)
        · rw [← ipJ_eq ha hb hc hd]; exact Fipt_3323 x (pA_holds h0 h1 ha hb hc hd)
      · rcases @s (octF x 3) with hd | hd | hd
        · rw [← ipJ_eq ha hb hc hd]; exact Fipt_3331 x (pA_holds h0 h1 ha hb hc hd)
        · rw [← ipJ_eq ha hb hc hd]; exact Fipt_3332 x (pA_holds h0 h1 ha hb hc hd)
        · rw [← ipJ_eq ha hb hc hd]; exact Fipt_3333 x (pA_holds h0 h1 ha hb hc hd)
def CPT : FC := ⟨23, fun l => ∃ x, l = [.int .u32 x] ∧ 0 ≤ x ∧ x < 4294967296, fun l => match l with | [.int _ x] => .string (ipB x) | _ => undef, [2]⟩
theorem CPT_good : CPT.Good Tryd.prog ovz3 st0 := ⟨by kernel_rfl, fun args ⟨x, e, h0, h1⟩ => by subst e; exact ⟨rfl, rfl, 1000, Fipt_all x h0 h1⟩⟩
noncomputable def ovz4 : Ov := ovWith st0 [CPT] [] ovz3
noncomputable def ovOz4 : OvO := ovOWith st0 [CPT] [] (ovOWith st0 [CBY] [] ovOz2)
theorem refz4 : OvRef ovz4 ovOz4 := ovWith_ref (ovWith_ref refz2)
theorem ovz4_ok : OvOk Tryd.prog ovz4 ∧ OvMono ovz4 ∧ OvIds ovz4 :=
  ⟨ovWith_ok Tryd.checked.mixed ovz3_ok.1 ovz3_ok.2.1 ovz3_ok.2.2 ngc_st0 (fun C h => by
      simp only [List.mem_cons, List.not_mem_nil, or_false] at h
      subst h; exact CPT_good) (fun x h => by cases h),
   ovWith_mono ovz3_ok.2.1 (fun x h => by cases h), ovWith_ids ovz3_ok.2.2⟩

theorem Fpx_all (x b : Int) (h0 : 0 ≤ x) (h1 : x < 4294967296) : ∃ st', Go.Ai.call cx ovz4 1000 24 [.agg #[.int .u32 x, .int .i64 b]] ⟨keepIds st0.hp [2], st0.ct⟩ = some (.string (txB x b), st') := by
  have s0 := ipB_size x
  have s1 := digB_size b
  have d1 : slashB.size = 1 := rfl
  unfold txB
  by_cases hm : mayF x b = true
  · obtain ⟨b0, b1, _⟩ := mayF_range hm
    rw [if_pos hm]
    exact path_call refz4 (toks := [.ev, .no, .ev, .yes, .ev, .ev, .yes]) (asm := [decide ((ipB x ++ slashB).size + (digB b).size ≤ (9223372036854775807 : Nat)) = true, CIT.pre [.int .i64 b], beqV (.int .i64 b) (.int .i64 b) = true, decide ((ipB x).size + 1 ≤ (9223372036854775807 : Nat)) = true, CPT.pre [.int .u32 x], (!mayF x b) = false, C27.pre [.agg #[.int .u32 x, .int .i64 b]]]) (by kernel_rfl)
      ⟨decide_eq_true (by simp only [ByteArray.size_append]; omega), ⟨_, rfl, b0, by omega⟩, by simp [beqV], decide_eq_true (by omega), ⟨_, rfl, h0, h1⟩, by rw [hm]; rfl, ⟨_, _, rfl, h0, h1⟩, trivial⟩
  · rw [if_neg hm]
    exact path_call refz4 (toks := [.ev, .yes]) (asm := [(!mayF x b) = true, C27.pre [.agg #[.int .u32 x, .int .i64 b]]]) (by kernel_rfl) ⟨by simp [hm], ⟨_, _, rfl, h0, h1⟩, trivial⟩
def CPX : FC := ⟨24, fun l => ∃ x b, l = [.agg #[.int .u32 x, .int .i64 b]] ∧ 0 ≤ x ∧ x < 4294967296, fun l => match l with | [.agg ⟨[.int _ x, .int _ b]⟩] => .string (txB x b) | _ => undef, [2]⟩
theorem CPX_good : CPX.Good Tryd.prog ovz4 st0 := ⟨by kernel_rfl, fun args ⟨x, b, e, h0, h1⟩ => by subst e; exact ⟨rfl, rfl, 1000, Fpx_all x b h0 h1⟩⟩
noncomputable def ovz5 : Ov := ovWith st0 [CPX] [] ovz4
noncomputable def ovOz5 : OvO := ovOWith st0 [CPX] [] ovOz4
theorem refz5 : OvRef ovz5 ovOz5 := ovWith_ref refz4
theorem ovz5_ok : OvOk Tryd.prog ovz5 ∧ OvMono ovz5 ∧ OvIds ovz5 :=
  ⟨ovWith_ok Tryd.checked.mixed ovz4_ok.1 ovz4_ok.2.1 ovz4_ok.2.2 ngc_st0 (fun C h => by
      simp only [List.mem_cons, List.not_mem_nil, or_false] at h
      subst h; exact CPX_good) (fun x h => by cases h),
   ovWith_mono ovz4_ok.2.1 (fun x h => by cases h), ovWith_ids ovz4_ok.2.2⟩
end Go.Proofs.YtgmojlibppmfhaaDoor

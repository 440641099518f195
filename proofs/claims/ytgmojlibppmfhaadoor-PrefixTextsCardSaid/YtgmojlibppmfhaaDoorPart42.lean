/- Runs of the abstract interpreter, part 42: by an AI agent. -/
import Derived.Test.YtgmojlibppmfhaaDoorPart41

namespace Go.Proofs.YtgmojlibppmfhaaDoor
open Go Go.Ai
/-! ### addresses and their texts: plain arithmetic -/
theorem spl_ge : ∀ (k : Nat) (s : ByteArray) (i : Nat) (cs : List Value), i ≤ (spl k s i cs).2.1
  | 0, s, i, cs => Nat.le_refl _
  | k + 1, s, i, cs => by
    rw [spl]
    split
    · exact Nat.le_refl _
    · exact Nat.le_of_succ_le (spl_ge k (lS s) (i + 1) _)
theorem spl_end {k : Nat} {s : ByteArray} {i : Nat} {cs : List Value} (h : (spl k s i cs).2.1 = i) : spl k s i cs = (s, i, cs) := by
  cases k with
  | zero => rfl
  | succ k =>
    rw [spl] at h ⊢
    split
    · rfl
    · rename_i hn
      rw [if_neg hn] at h
      have := spl_ge k (lS s) (i + 1) (setAt cs i [.string (fS s)])
      omega
theorem spl_in {k : Nat} {s : ByteArray} {i j : Nat} {cs : List Value} (h : (spl k s i cs).2.1 = j) (hij : i < j) : 0 ≤ iS s ∧ ∃ k', k = k' + 1 ∧ spl k s i cs = spl k' (lS s) (i + 1) (setAt cs i [.string (fS s)]) := by
  cases k with
  | zero =>
    have h : i = j := h
    omega
  | succ k =>
    rw [spl] at h ⊢
    by_cases hn : iS s < 0
    · rw [if_pos hn] at h
      have h : i = j := h
      omega
    · rw [if_neg hn]
      exact ⟨by omega, k, rfl, rfl⟩
def set3 (cs : List Value) (s : ByteArray) : List Value := setAt (setAt (setAt cs 0 [.string (fS s)]) 1 [.string (fS (lS s))]) 2 [.string (fS (lS (lS s)))]
theorem spl_three {k : Nat} {s : ByteArray} {cs : List Value} (h : (spl k s 0 cs).2.1 = 3) : 0 ≤ iS s ∧ 0 ≤ iS (lS s) ∧ 0 ≤ iS (lS (lS s)) ∧ spl k s 0 cs = (lS (lS (lS s)), 3, set3 cs s) := by
  obtain ⟨a1, k1, _, e1⟩ := spl_in h (by omega)
  rw [e1] at h ⊢
  obtain ⟨a2, k2, _, e2⟩ := spl_in h (by omega)
  rw [e2] at h ⊢
  obtain ⟨a3, k3, _, e3⟩ := spl_in h (by omega)
  rw [e3] at h ⊢
  exact ⟨a1, a2, a3, spl_end h⟩
theorem spl_goes {k : Nat} {s : ByteArray} {cs : List Value} (hk : 3 ≤ k) (h0 : 0 ≤ iS s) (h1 : 0 ≤ iS (lS s)) (h2 : 0 ≤ iS (lS (lS s))) (h3 : iS (lS (lS (lS s))) < 0) : (spl k s 0 cs).2.1 = 3 := by
  obtain ⟨k', rfl⟩ : ∃ k', k = k' + 3 := ⟨k - 3, by omega⟩
  rw [show k' + 3 = (k' + 2) + 1 by omega, spl, if_neg (by omega), spl, if_neg (by omega), spl, if_neg (by omega)]
  cases k' with
  | zero => rfl
  | succ k' => rw [spl, if_pos h3]
theorem setAt_get {cs : List Value} {i j : Nat} {v : Value} (h : i < cs.length) : (setAt cs i [v])[j]? = if j = i then some v else cs[j]? := by
  unfold setAt
  have hl : (cs.take i).length = i := by rw [List.length_take]; omega
  rw [List.append_assoc]
  by_cases h1 : j < i
  · rw [List.getElem?_append_left (by omega), if_neg (by omega), List.getElem?_take, if_pos h1]
  · rw [List.getElem?_append_right (by omega), hl]
    by_cases h2 : j = i
    · rw [if_pos h2, h2, Nat.sub_self]; rfl
    · rw [if_neg h2]
      obtain ⟨m, rfl⟩ : ∃ m, j = i + 1 + m := ⟨j - i - 1, by omega⟩
      rw [show i + 1 + m - i = m + 1 by omega]
      show (([v] ++ cs.drop (i + [v].length)) : List Value)[m + 1]? = _
      rw [List.getElem?_append_right (by simp), List.getElem?_drop]
      simp
theorem pts {s : ByteArray} (hs : s.size ≤ 1000) (h : (rS s).2.1 = 3) : 0 ≤ iS s ∧ 0 ≤ iS (lS s) ∧ 0 ≤ iS (lS (lS s)) ∧ pt s 0 = fS s ∧ pt s 1 = fS (lS s) ∧ pt s 2 = fS (lS (lS s)) ∧ pt s 3 = lS (lS (lS s)) := by
  have p := pre14 hs
  obtain ⟨z1, z2⟩ := rep_str (nS s).toNat
  have z1 : AllStr (zS s) := z1
  have z2 : (zS s).length = (nS s).toNat := z2
  have hn := nS_range s
  have r4 := p.r4
  obtain ⟨a1, a2, a3, e⟩ := spl_three (k := (zS s).length - 1 - 0) (cs := zS s) h
  have e : rS s = (lS (lS (lS s)), 3, set3 (zS s) s) := e
  have l1 := setAt_len (cs := zS s) (i := 0) (v := .string (fS s)) (by omega)
  have l2 := setAt_len (cs := setAt (zS s) 0 [.string (fS s)]) (i := 1) (v := .string (fS (lS s))) (by omega)
  have l3 := setAt_len (cs := setAt (setAt (zS s) 0 [.string (fS s)]) 1 [.string (fS (lS s))]) (i := 2) (v := .string (fS (lS (lS s)))) (by omega)
  have hst : AllStr (set3 (zS s) s) := setAt_str (setAt_str (setAt_str z1))
  have hc : cS s = setAt (set3 (zS s) s) 3 [.string (lS (lS (lS s)))] := by
    unfold cS
    rw [e]
    show setAt (renL σ0 (set3 (zS s) s)) 3 _ = _
    rw [renL_str _ _ hst]
  have l4 : (set3 (zS s) s).length = (nS s).toNat := by unfold set3; omega
  have at4 (j : Nat) : (cS s)[j]? = if j = 3 then some (.string (lS (lS (lS s)))) else if j = 2 then some (.string (fS (lS (lS s)))) else if j = 1 then some (.string (fS (lS s))) else if j = 0 then some (.string (fS s)) else (zS s)[j]? := by
    rw [hc, setAt_get (by omega)]
    unfold set3
    rw [setAt_get (by omega), setAt_get (by omega), setAt_get (by omega)]
  refine ⟨a1, a2, a3, ?_, ?_, ?_, ?_⟩
  · have := at4 0; simp at this; unfold pt strAt; rw [this]
  · have := at4 1; simp at this; unfold pt strAt; rw [this]
  · have := at4 2; simp at this; unfold pt strAt; rw [this]
  · have := at4 3; simp at this; unfold pt strAt; rw [this]
/-! how many points -/
theorem cnt_from (c : UInt8) : ∀ (l : List UInt8) (n : Nat), cntByte c l n = n + cntByte c l 0
  | [], n => rfl
  | b :: l, n => by
    simp only [cntByte]
    split
    · rw [cnt_from c l (n + 1), cnt_from c l (0 + 1)]; omega
    · exact cnt_from c l n
theorem cnt_app (c : UInt8) : ∀ (a b : List UInt8) (n : Nat), cntByte c (a ++ b) n = cntByte c b (cntByte c a n)
  | [], b, n => rfl
  | x :: a, b, n => by
    simp only [List.cons_append, cntByte]
    split
    · exact cnt_app c a b (n + 1)
    · exact cnt_app c a b n
theorem cntI_lS {s : ByteArray} (h : 0 ≤ iS s) : cntI (lS s) 46 + 1 ≤ cntI s 46 ∧ (lS s).size + 1 ≤ s.size := by
  have hs := t_split h
  constructor
  · have e : s.data.toList = ((fS s).data.toList ++ dot1.data.toList) ++ (lS s).data.toList := by
      conv => lhs; rw [hs]
      rw [toList_app, toList_app]
    unfold cntI
    rw [e, cnt_app, cnt_app]
    have q1 : cntByte (UInt8.ofNat (46 : Int).toNat) dot1.data.toList 0 = 1 := rfl
    have q2 := cnt_from (UInt8.ofNat (46 : Int).toNat) dot1.data.toList (cntByte (UInt8.ofNat (46 : Int).toNat) (fS s).data.toList 0)
    have q3 := cnt_from (UInt8.ofNat (46 : Int).toNat) (lS s).data.toList (cntByte (UInt8.ofNat (46 : Int).toNat) dot1.data.toList (cntByte (UInt8.ofNat (46 : Int).toNat) (fS s).data.toList 0))
    omega
  · conv => rhs; rw [hs]
    have e : dot1.size = 1 := rfl
    rw [ByteArray.size_append, ByteArray.size_append]; omega
theorem rS_goes {s : ByteArray} (h0 : 0 ≤ iS s) (h1 : 0 ≤ iS (lS s)) (h2 : 0 ≤ iS (lS (lS s))) (h3 : iS (lS (lS (lS s))) < 0) : (rS s).2.1 = 3 := by
  obtain ⟨c1, z1⟩ := cntI_lS h0
  obtain ⟨c2, z2⟩ := cntI_lS h1
  obtain ⟨c3, z3⟩ := cntI_lS h2
  have c4 := cntI_range (lS (lS (lS s)))
  have zl : (zS s).length = (nS s).toNat := (rep_str (nS s).toNat).2
  have hn : 4 ≤ nS s := by unfold nS; split <;> omega
  exact spl_goes (by omega) h0 h1 h2 h3
/-! bytes' texts -/
def dbOk (k : Nat) : Bool := decide ((digB (k : Int)).data.toList = decL k)
theorem db_all : (List.range 256).all dbOk = true := by kernel_rfl
theorem digB_dec {n : Int} (h0 : 0 ≤ n) (h1 : n < 256) : digB n = decB n := by
  have h := List.all_eq_true.1 db_all n.toNat (List.mem_range.2 (by omega))
  have := of_decide_eq_true h
  rw [show ((n.toNat : Nat) : Int) = n by omega] at this
  exact ByteArray.ext (Array.toList_inj.1 this)
theorem dot_same : dotB1 = dot1 := rfl
theorem app_assoc (a b c : ByteArray) : a ++ b ++ c = a ++ (b ++ c) := ByteArray.ext (Array.toList_inj.1 (by simp))
theorem ipB_nest (x : Int) : ipB x = digB (octF x 0) ++ dot1 ++ (digB (octF x 1) ++ dot1 ++ (digB (octF x 2) ++ dot1 ++ digB (octF x 3))) := by
  unfold ipB
  rw [dot_same]
  simp only [app_assoc]
theorem oct_dig (x k : Int) : digS (digB (octF x k)) = true ∧ digV (digB (octF x k)) = octF x k := by
  obtain ⟨h0, h1⟩ := octF_range x k
  rw [digB_dec h0 h1]
  exact digS_dec h0 (by omega)
theorem oct0 (x : Int) : octF x 0 = x / 256 / 256 / 256 % 256 := rfl
theorem oct1 (x : Int) : octF x 1 = x / 256 / 256 % 256 := rfl
theorem oct2 (x : Int) : octF x 2 = x / 256 % 256 := rfl
theorem oct3 (x : Int) : octF x 3 = x % 256 := rfl
theorem ip_there {x : Int} (h0 : 0 ≤ x) (h1 : x < 4294967296) : ipE (ipB x) = 0 ∧ ipN (ipB x) = x := by
  obtain ⟨d0, v0⟩ := oct_dig x 0
  obtain ⟨d1, v1⟩ := oct_dig x 1
  obtain ⟨d2, v2⟩ := oct_dig x 2
  obtain ⟨d3, v3⟩ := oct_dig x 3
  have a0 := (digS_iff.1 d0).2.2.1
  have a1 := (digS_iff.1 d1).2.2.1
  have a2 := (digS_iff.1 d2).2.2.1
  have a3 := (digS_iff.1 d3).2.2.1
  have hs : (ipB x).size ≤ 1000 := by have := ipB_size x; omega
  have en := ipB_nest x
  have l0 : lS (ipB x) = digB (octF x 1) ++ dot1 ++ (digB (octF x 2) ++ dot1 ++ digB (octF x 3)) := by rw [en, lS_app a0]
  have l1 : lS (lS (ipB x)) = digB (octF x 2) ++ dot1 ++ digB (octF x 3) := by rw [l0, lS_app a1]
  have l2 : lS (lS (lS (ipB x))) = digB (octF x 3) := by rw [l1, lS_app a2]
  have h3 : (rS (ipB x)).2.1 = 3 := rS_goes (by rw [en, iS_app a0]; omega) (by rw [l0, iS_app a1]; omega) (by rw [l1, iS_app a2]; omega) (by rw [l2]; exact nodot_dig a3)
  obtain ⟨_, _, _, p0, p1, p2, p3⟩ := pts hs h3
  have q0 : pt (ipB x) 0 = digB (octF x 0) := by rw [p0, en, fS_app a0]
  have q1 : pt (ipB x) 1 = digB (octF x 1) := by rw [p1, l0, fS_app a1]
  have q2 : pt (ipB x) 2 = digB (octF x 2) := by rw [p2, l1, fS_app a2]
  have q3 : pt (ipB x) 3 = digB (octF x 3) := by rw [p3, l2]
  have r0 := octF_range x 0
  have r1 := octF_range x 1
  have r2 := octF_range x 2
  have r3 := octF_range x 3
  have ho : okP (ipB x) = true := by unfold okP; rw [decide_eq_true h3, q0, q1, q2, q3, d0, d1, d2, d3]; rfl
  have hb : bigP (ipB x) = false := by unfold bigP; rw [q0, q1, q2, q3, v0, v1, v2, v3]; simp; omega
  have hv : ipV (ipB x) = x := by
    unfold ipV
    rw [q0, q1, q2, q3, v0, v1, v2, v3, oct0, oct1, oct2, oct3]; omega
  refine ⟨?_, ?_⟩
  · unfold ipE; rw [ho, hb]; rfl
  · unfold ipN; rw [ho, hb]; exact hv
theorem ok_of {s : ByteArray} (h : ipE s = 0) : okP s = true ∧ bigP s = false := by
  unfold ipE at h
  cases ho : okP s with
  | false => rw [ho] at h; cases h
  | true =>
    cases hb : bigP s with
    | true => rw [ho, hb] at h; cases h
    | false => exact ⟨rfl, rfl⟩
theorem ip_parts {s : ByteArray} (hs : s.size ≤ 1000) (h : ipE s = 0) : ∃ p0 p1 p2 p3 : ByteArray, s = p0 ++ dot1 ++ (p1 ++ dot1 ++ (p2 ++ dot1 ++ p3)) ∧ digS p0 = true ∧ digS p1 = true ∧ digS p2 = true ∧ digS p3 = true ∧
    digV p0 ≤ 255 ∧ digV p1 ≤ 255 ∧ digV p2 ≤ 255 ∧ digV p3 ≤ 255 ∧ ipN s = ((digV p0 * 256 + digV p1) * 256 + digV p2) * 256 + digV p3 := by
  obtain ⟨ho, hb⟩ := ok_of h
  have hn : ipN s = ipV s := by unfold ipN; rw [ho, hb]; rfl
  unfold okP at ho
  simp only [Bool.and_eq_true, decide_eq_true_eq] at ho
  obtain ⟨h3, d0, d1, d2, d3⟩ := ho
  unfold bigP at hb
  simp only [Bool.or_eq_false_iff, decide_eq_false_iff_not] at hb
  obtain ⟨a1, a2, a3, p0, p1, p2, p3⟩ := pts hs h3
  refine ⟨pt s 0, pt s 1, pt s 2, pt s 3, ?_, d0, d1, d2, d3, by omega, by omega, by omega, by omega, hn⟩
  rw [p0, p1, p2, p3, ← t_split a3, ← t_split a2, ← t_split a1]
theorem ip_back {s : ByteArray} (hs : s.size ≤ 1000) (h : ipE s = 0) : ipB (ipN s) = s := by
  obtain ⟨p0, p1, p2, p3, e, d0, d1, d2, d3, b0, b1, b2, b3, hn⟩ := ip_parts hs h
  have v0 := digV_range p0
  have v1 := digV_range p1
  have v2 := digV_range p2
  have v3 := digV_range p3
  have o0 : octF (ipN s) 0 = digV p0 := by rw [hn, oct0]; omega
  have o1 : octF (ipN s) 1 = digV p1 := by rw [hn, oct1]; omega
  have o2 : octF (ipN s) 2 = digV p2 := by rw [hn, oct2]; omega
  have o3 : octF (ipN s) 3 = digV p3 := by rw [hn, oct3]; omega
  rw [ipB_nest, o0, o1, o2, o3, digB_dec v0.1 (by omega), digB_dec v1.1 (by omega), digB_dec v2.1 (by omega), digB_dec v3.1 (by omega), dec_digS d0, dec_digS d1, dec_digS d2, dec_digS d3, ← e]
/-! the stroke -/
theorem iQ_some {s : ByteArray} (h : 0 ≤ iQ s) : s.data.toList[(iQ s).toNat]? = some 47 := by
  revert h
  unfold iQ ixI
  have e : UInt8.ofNat (47 : Int).toNat = 47 := rfl
  rw [e]
  split
  · rename_i j hj
    obtain ⟨_, g2, _⟩ := idx_some _ _ _ _ hj
    intro _
    simpa using g2
  · intro h; omega
theorem q_split {t : ByteArray} (h : 0 ≤ iQ t) : t = fQ t ++ slashB ++ lQ t := by
  have g1 := iQ_some h
  have hr := iQ_range t
  unfold fQ lQ
  refine ByteArray.ext (Array.toList_inj.1 ?_)
  simp only [toList_app]
  rw [ext_list, ext_list, List.drop_zero, ← len_size t, List.take_of_length_le (Nat.le_refl _)]
  obtain ⟨j, ej⟩ : ∃ j : Nat, iQ t = j := ⟨(iQ t).toNat, by omega⟩
  rw [ej] at g1 hr ⊢
  rw [show ((j : Int)).toNat = j by omega] at g1
  rw [show ((j : Int)).toNat = j by omega, show ((j : Int) + 1).toNat = j + 1 by omega, List.append_assoc]
  have hl : j < t.data.toList.length := by rw [len_size]; omega
  have hj : t.data.toList[j] = 47 := by
    rw [List.getElem?_eq_getElem hl] at g1
    injection g1
  have e : slashB.data.toList ++ t.data.toList.drop (j + 1) = t.data.toList.drop j := by
    rw [List.drop_eq_getElem_cons hl, hj]; rfl
  rw [e, List.take_append_drop]
theorem dig_no47 {p : ByteArray} (h : digS p = true) : (47 : UInt8) ∉ p.data.toList := fun hm => by
  have := allD_list.1 (digS_iff.1 h).2.2.1 47 hm
  have e : (47 : UInt8).toNat = 47 := rfl
  omega
theorem ip_nostroke {s : ByteArray} (hs : s.size ≤ 1000) (h : ipE s = 0) : iQ s < 0 := by
  obtain ⟨p0, p1, p2, p3, e, d0, d1, d2, d3, _⟩ := ip_parts hs h
  rcases Int.lt_or_le (iQ s) 0 with h0 | h0
  · exact h0
  · have hm := List.mem_of_getElem? (iQ_some h0)
    rw [e] at hm
    simp only [toList_app, List.mem_append] at hm
    have hd : (47 : UInt8) ∉ dot1.data.toList := by decide
    have n0 := dig_no47 d0
    have n1 := dig_no47 d1
    have n2 := dig_no47 d2
    have n3 := dig_no47 d3
    rcases hm with (hm | hm) | (hm | hm) | (hm | hm) | hm
    · exact absurd hm n0
    · exact absurd hm hd
    · exact absurd hm n1
    · exact absurd hm hd
    · exact absurd hm n2
    · exact absurd hm hd
    · exact absurd hm n3
theorem prs_nostroke {s : ByteArray} (h : iQ s < 0) : prsE s = 5 := by
  have : prsG s = false := by unfold prsG; rw [decide_eq_false (by omega)]; rfl
  unfold prsE; rw [this]; rfl
theorem prs_zero {s : ByteArray} (h : prsE s ≠ 0) : prsX s = 0 ∧ prsB s = 0 := by
  unfold prsE at h
  unfold prsX prsB
  cases hg : prsG s with
  | false => exact ⟨rfl, rfl⟩
  | true =>
    cases ho : prsO s with
    | false => exact ⟨rfl, rfl⟩
    | true => rw [hg, ho] at h; exact absurd rfl h
theorem prs_back {s : ByteArray} (hs : s.size ≤ 1000) (h : prsE s = 0) : txB (prsX s) (prsB s) = s := by
  unfold prsE at h
  cases hg : prsG s with
  | false => rw [hg] at h; cases h
  | true =>
    cases ho : prsO s with
    | false => rw [hg, ho] at h; cases h
    | true =>
      have hx : prsX s = ipN (fQ s) := by simp [prsX, hg, ho]
      have hb : prsB s = digV (lQ s) := by simp [prsB, hg, ho]
      unfold prsG at hg
      unfold prsO at ho
      simp only [Bool.and_eq_true, decide_eq_true_eq] at hg ho
      obtain ⟨g1, _, g3⟩ := hg
      obtain ⟨o1, o2⟩ := ho
      have hr := iQ_range s
      have hf : (fQ s).size ≤ 1000 := by unfold fQ; rw [ByteArray.size_extract]; omega
      obtain ⟨b0, b1, _⟩ := mayF_range o2
      unfold txB
      rw [hx, hb, if_pos o2, ip_back hf o1, digB_dec b0 (by omega), dec_digS g3, ← q_split g1]
end Go.Proofs.YtgmojlibppmfhaaDoor

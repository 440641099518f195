/- Runs of the abstract interpreter, part 27: by an AI agent. -/
import Derived.Test.YtgmojlibppmfhaaDoorPart26

namespace Go.Proofs.YtgmojlibppmfhaaDoor
open Go Go.Ai
theorem F14_all (s : ByteArray) (hs : s.size ≤ 1000) : ∃ st', Go.Ai.call cx ovq3 1000 14 [.string s] ⟨keepIds st0.hp [], st0.ct⟩ = some (ipR s, st') := by
  have p := pre14 hs
  have u := num14 s
  by_cases h3 : (rS s).2.1 = 3
  · by_cases d0 : digS (pt s 0) = true
    · by_cases q0 : 255 < digV (pt s 0)
      · by_cases d1 : digS (pt s 1) = true
        · by_cases q1 : 255 < digV (pt s 1)
          · by_cases d2 : digS (pt s 2) = true
            · by_cases q2 : 255 < digV (pt s 2)
              · by_cases d3 : digS (pt s 3) = true
                · by_cases q3 : 255 < digV (pt s 3)
                  · exact G14_bbbb p u h3 d0 q0 d1 q1 d2 q2 d3 q3
                  · exact G14_bbba p u h3 d0 q0 d1 q1 d2 q2 d3 q3
                · exact G14_bbbx p u h3 d0 q0 d1 q1 d2 q2 d3
              · by_cases d3 : digS (pt s 3) = true
                · by_cases q3 : 255 < digV (pt s 3)
                  · exact G14_bbab p u h3 d0 q0 d1 q1 d2 q2 d3 q3
                  · exact G14_bbaa p u h3 d0 q0 d1 q1 d2 q2 d3 q3
                · exact G14_bbax p u h3 d0 q0 d1 q1 d2 q2 d3
            · exact G14_bbx p u h3 d0 q0 d1 q1 d2
          · by_cases d2 : digS (pt s 2) = true
            · by_cases q2 : 255 < digV (pt s 2)
              · by_cases d3 : digS (pt s 3) = true
                · by_cases q3 : 255 < digV (pt s 3)
                  · exact G14_babb p u h3 d0 q0 d1 q1 d2 q2 d3 q3
                  · exact G14_baba p u h3 d0 q0 d1 q1 d2 q2 d3 q3
                · exact G14_babx p u h3 d0 q0 d1 q1 d2 q2 d3
              · by_cases d3 : digS (pt s 3) = true
                · by_cases q3 : 255 < digV (pt s 3)
                  · exact G14_baab p u h3 d0 q0 d1 q1 d2 q2 d3 q3
                  · exact G14_baaa p u h3 d0 q0 d1 q1 d2 q2 d3 q3
                · exact G14_baax p u h3 d0 q0 d1 q1 d2 q2 d3
            · exact G14_bax p u h3 d0 q0 d1 q1 d2
        · exact G14_bx p u h3 d0 q0 d1
      · by_cases d1 : digS (pt s 1) = true
        · by_cases q1 : 255 < digV (pt s 1)
          · by_cases d2 : digS (pt s 2) = true
            · by_cases q2 : 255 < digV (pt s 2)
              · by_cases d3 : digS (pt s 3) = true
                · by_cases q3 : 255 < digV (pt s 3)
                  · exact G14_abbb p u h3 d0 q0 d1 q1 d2 q2 d3 q3
                  · exact G14_abba p u h3 d0 q0 d1 q1 d2 q2 d3 q3
                · exact G14_abbx p u h3 d0 q0 d1 q1 d2 q2 d3
              · by_cases d3 : digS (pt s 3) = true
                · by_cases q3 : 255 < digV (pt s 3)
                  · exact G14_abab p u h3 d0 q0 d1 q1 d2 q2 d3 q3
                  · exact G14_abaa p u h3 d0 q0 d1 q1 d2 q2 d3 q3
                · exact G14_abax p u h3 d0 q0 d1 q1 d2 q2 d3
            · exact G14_abx p u h3 d0 q0 d1 q1 d2
          · by_cases d2 : digS (pt s 2) = true
            · by_cases q2 : 255 < digV (pt s 2)
              · by_cases d3 : digS (pt s 3) = true
                · by_cases q3 : 255 < digV (pt s 3)
                  · exact G14_aabb p u h3 d0 q0 d1 q1 d2 q2 d3 q3
                  · exact G14_aaba p u h3 d0 q0 d1 q1 d2 q2 d3 q3
                · exact G14_aabx p u h3 d0 q0 d1 q1 d2 q2 d3
              · by_cases d3 : digS (pt s 3) = true
                · by_cases q3 : 255 < digV (pt s 3)
                  · exact G14_aaab p u h3 d0 q0 d1 q1 d2 q2 d3 q3
                  · exact G14_aaaa p u h3 d0 q0 d1 q1 d2 q2 d3 q3
                · exact G14_aaax p u h3 d0 q0 d1 q1 d2 q2 d3
            · exact G14_aax p u h3 d0 q0 d1 q1 d2
        · exact G14_ax p u h3 d0 q0 d1
    · exact G14_x p u h3  d0
  · have e : ipR s = .tuple #[.int .u32 0, .int .i64 5] := by
      have : okP s = false := by unfold okP; rw [decide_eq_false h3]; rfl
      simp [ipR, ipN, ipE, this]
    rw [e]
    obtain ⟨hs, hc1, hc2, hn1, hn2, r4, l69, hble, cb, cl⟩ := p
    have f69 := fit69_ok s
    have l14 := len14_eq s
    exact F14_n s ⟨bne_iff_ne.2 (by omega), (beq_zero (by omega)), decide_eq_true (by omega), (isOpen_small (by omega)), decide_eq_true (by omega), allC_one _, hble, decide_eq_true (by omega), f69, l69, rfl, decide_eq_true (by omega), decide_eq_true (by omega), decide_eq_true (by omega), decide_eq_true (by omega), ⟨_, _, rfl⟩, trivial⟩
def C14 : FC := ⟨14, fun l => ∃ s, l = [.string s] ∧ s.size ≤ 1000, fun l => match l with | [.string s] => ipR s | _ => undef, []⟩
theorem C14_good : C14.Good Tryd.prog ovq3 st0 := ⟨by kernel_rfl, fun args ⟨s, e, h⟩ => by subst e; exact ⟨rfl, rfl, 1000, F14_all s h⟩⟩
end Go.Proofs.YtgmojlibppmfhaaDoor

/- Runs of the abstract interpreter, part 24: by an AI agent. -/
import Derived.Test.YtgmojlibppmfhaaDoorPart23

namespace Go.Proofs.YtgmojlibppmfhaaDoor
open Go Go.Ai
theorem G14_aaab {s : ByteArray} (p : Pre14 s) (u : Num14 s) (h3 : (rS s).2.1 = 3) (d0 : digS (pt s 0) = true) (q0 : ¬ 255 < digV (pt s 0)) (d1 : digS (pt s 1) = true) (q1 : ¬ 255 < digV (pt s 1)) (d2 : digS (pt s 2) = true) (q2 : ¬ 255 < digV (pt s 2)) (d3 : digS (pt s 3) = true) (q3 : 255 < digV (pt s 3)) : ∃ st', Go.Ai.call cx ovq3 1000 14 [.string s] ⟨keepIds st0.hp [], st0.ct⟩ = some (ipR s, st') := by
  obtain ⟨hs, hc1, hc2, hn1, hn2, r4, l69, hble, cb, cl⟩ := p
  obtain ⟨v0, v1, v2, v3, b0, b1, b2, b3, j1, j2, j3, j4⟩ := u
  have f69 := fit69_ok s
  have l14 := len14_eq s
  have g (j : Nat) (hj : j < 4) := strAt_b cb (j := j) (by omega)
  have c3 : (decide ((rS s).2.1 = 3)) = true := decide_eq_true h3
  have ho4 : okP s = true := by unfold okP; rw [c3, d0, d1, d2, d3]; rfl
  have hb4 : bigP s = true := by unfold bigP; simp; omega
  rw [show ipR s = .tuple #[.int .u32 0, .int .i64 24] from by simp [ipR, ipN, ipE, ho4, hb4]]
  exact F14_aaab s ⟨decide_eq_false (by omega), decide_eq_true (by omega), decide_eq_true (by omega), decide_eq_true (by omega), (nb_of d3), ⟨_, rfl, Nat.le_trans (g 3 (by omega)).2 (by omega)⟩, (g 3 (by omega)).1, decide_eq_true (by omega), decide_eq_true (by omega), decide_eq_true (by omega), decide_eq_true (by omega), decide_eq_false (by omega), (nb_of d2), ⟨_, rfl, Nat.le_trans (g 2 (by omega)).2 (by omega)⟩, (g 2 (by omega)).1, decide_eq_true (by omega), decide_eq_true (by omega), decide_eq_true (by omega), decide_eq_true (by omega), decide_eq_false (by omega), (nb_of d1), ⟨_, rfl, Nat.le_trans (g 1 (by omega)).2 (by omega)⟩, (g 1 (by omega)).1, decide_eq_true (by omega), decide_eq_true (by omega), decide_eq_true (by omega), decide_eq_false (by omega), (nb_of d0), ⟨_, rfl, Nat.le_trans (g 0 (by omega)).2 (by omega)⟩, (g 0 (by omega)).1, decide_eq_true (by omega), decide_eq_true (by omega), bne_eq_false_iff_eq.2 (by omega), (beq_zero (by omega)), decide_eq_true (by omega), (isOpen_small (by omega)), decide_eq_true (by omega), allC_one _, hble, decide_eq_true (by omega), f69, l69, rfl, decide_eq_true (by omega), decide_eq_true (by omega), decide_eq_true (by omega), decide_eq_true (by omega), ⟨_, _, rfl⟩, trivial⟩
theorem G14_aabx {s : ByteArray} (p : Pre14 s) (u : Num14 s) (h3 : (rS s).2.1 = 3) (d0 : digS (pt s 0) = true) (q0 : ¬ 255 < digV (pt s 0)) (d1 : digS (pt s 1) = true) (q1 : ¬ 255 < digV (pt s 1)) (d2 : digS (pt s 2) = true) (q2 : 255 < digV (pt s 2)) (d3 : ¬ digS (pt s 3) = true) : ∃ st', Go.Ai.call cx ovq3 1000 14 [.string s] ⟨keepIds st0.hp [], st0.ct⟩ = some (ipR s, st') := by
  obtain ⟨hs, hc1, hc2, hn1, hn2, r4, l69, hble, cb, cl⟩ := p
  obtain ⟨v0, v1, v2, v3, b0, b1, b2, b3, j1, j2, j3, j4⟩ := u
  have f69 := fit69_ok s
  have l14 := len14_eq s
  have g (j : Nat) (hj : j < 4) := strAt_b cb (j := j) (by omega)
  have c3 : (decide ((rS s).2.1 = 3)) = true := decide_eq_true h3
  have dx : digS (pt s 3) = false := by simpa using d3
  have ho4 : okP s = false := by unfold okP; rw [c3, d0, d1, d2, dx]; rfl
  rw [show ipR s = .tuple #[.int .u32 0, .int .i64 5] from by simp [ipR, ipN, ipE, ho4]]
  exact F14_aabx s ⟨(nt_of d3), ⟨_, rfl, Nat.le_trans (g 3 (by omega)).2 (by omega)⟩, (g 3 (by omega)).1, decide_eq_true (by omega), decide_eq_true (by omega), decide_eq_true (by omega), decide_eq_true (by omega), decide_eq_true (by omega), (nb_of d2), ⟨_, rfl, Nat.le_trans (g 2 (by omega)).2 (by omega)⟩, (g 2 (by omega)).1, decide_eq_true (by omega), decide_eq_true (by omega), decide_eq_true (by omega), decide_eq_true (by omega), decide_eq_false (by omega), (nb_of d1), ⟨_, rfl, Nat.le_trans (g 1 (by omega)).2 (by omega)⟩, (g 1 (by omega)).1, decide_eq_true (by omega), decide_eq_true (by omega), decide_eq_true (by omega), decide_eq_false (by omega), (nb_of d0), ⟨_, rfl, Nat.le_trans (g 0 (by omega)).2 (by omega)⟩, (g 0 (by omega)).1, decide_eq_true (by omega), decide_eq_true (by omega), bne_eq_false_iff_eq.2 (by omega), (beq_zero (by omega)), decide_eq_true (by omega), (isOpen_small (by omega)), decide_eq_true (by omega), allC_one _, hble, decide_eq_true (by omega), f69, l69, rfl, decide_eq_true (by omega), decide_eq_true (by omega), decide_eq_true (by omega), decide_eq_true (by omega), ⟨_, _, rfl⟩, trivial⟩
theorem G14_abax {s : ByteArray} (p : Pre14 s) (u : Num14 s) (h3 : (rS s).2.1 = 3) (d0 : digS (pt s 0) = true) (q0 : ¬ 255 < digV (pt s 0)) (d1 : digS (pt s 1) = true) (q1 : 255 < digV (pt s 1)) (d2 : digS (pt s 2) = true) (q2 : ¬ 255 < digV (pt s 2)) (d3 : ¬ digS (pt s 3) = true) : ∃ st', Go.Ai.call cx ovq3 1000 14 [.string s] ⟨keepIds st0.hp [], st0.ct⟩ = some (ipR s, st') := by
  obtain ⟨hs, hc1, hc2, hn1, hn2, r4, l69, hble, cb, cl⟩ := p
  obtain ⟨v0, v1, v2, v3, b0, b1, b2, b3, j1, j2, j3, j4⟩ := u
  have f69 := fit69_ok s
  have l14 := len14_eq s
  have g (j : Nat) (hj : j < 4) := strAt_b cb (j := j) (by omega)
  have c3 : (decide ((rS s).2.1 = 3)) = true := decide_eq_true h3
  have dx : digS (pt s 3) = false := by simpa using d3
  have ho4 : okP s = false := by unfold okP; rw [c3, d0, d1, d2, dx]; rfl
  rw [show ipR s = .tuple #[.int .u32 0, .int .i64 5] from by simp [ipR, ipN, ipE, ho4]]
  exact F14_abax s ⟨(nt_of d3), ⟨_, rfl, Nat.le_trans (g 3 (by omega)).2 (by omega)⟩, (g 3 (by omega)).1, decide_eq_true (by omega), decide_eq_true (by omega), decide_eq_true (by omega), decide_eq_true (by omega), decide_eq_false (by omega), (nb_of d2), ⟨_, rfl, Nat.le_trans (g 2 (by omega)).2 (by omega)⟩, (g 2 (by omega)).1, decide_eq_true (by omega), decide_eq_true (by omega), decide_eq_true (by omega), decide_eq_true (by omega), decide_eq_true (by omega), (nb_of d1), ⟨_, rfl, Nat.le_trans (g 1 (by omega)).2 (by omega)⟩, (g 1 (by omega)).1, decide_eq_true (by omega), decide_eq_true (by omega), decide_eq_true (by omega), decide_eq_false (by omega), (nb_of d0), ⟨_, rfl, Nat.le_trans (g 0 (by omega)).2 (by omega)⟩, (g 0 (by omega)).1, decide_eq_true (by omega), decide_eq_true (by omega), bne_eq_false_iff_eq.2 (by omega), (beq_zero (by omega)), decide_eq_true (by omega), (isOpen_small (by omega)), decide_eq_true (by omega), allC_one _, hble, decide_eq_true (by omega), f69, l69, rfl, decide_eq_true (by omega), decide_eq_true (by omega), decide_eq_true (by omega), decide_eq_true (by omega), ⟨_, _, rfl⟩, trivial⟩
theorem G14_abx {s : ByteArray} (p : Pre14 s) (u : Num14 s) (h3 : (rS s).2.1 = 3) (d0 : digS (pt s 0) = true) (q0 : ¬ 255 < digV (pt s 0)) (d1 : digS (pt s 1) = true) (q1 : 255 < digV (pt s 1)) (d2 : ¬ digS (pt s 2) = true) : ∃ st', Go.Ai.call cx ovq3 1000 14 [.string s] ⟨keepIds st0.hp [], st0.ct⟩ = some (ipR s, st') := by
  obtain ⟨hs, hc1, hc2, hn1, hn2, r4, l69, hble, cb, cl⟩ := p
  obtain ⟨v0, v1, v2, v3, b0, b1, b2, b3, j1, j2, j3, j4⟩ := u
  have f69 := fit69_ok s
  have l14 := len14_eq s
  have g (j : Nat) (hj : j < 4) := strAt_b cb (j := j) (by omega)
  have c3 : (decide ((rS s).2.1 = 3)) = true := decide_eq_true h3
  have dx : digS (pt s 2) = false := by simpa using d2
  have ho4 : okP s = false := by unfold okP; rw [c3, d0, d1, dx]; rfl
  rw [show ipR s = .tuple #[.int .u32 0, .int .i64 5] from by simp [ipR, ipN, ipE, ho4]]
  exact F14_abx s ⟨(nt_of d2), ⟨_, rfl, Nat.le_trans (g 2 (by omega)).2 (by omega)⟩, (g 2 (by omega)).1, decide_eq_true (by omega), decide_eq_true (by omega), decide_eq_true (by omega), decide_eq_true (by omega), decide_eq_true (by omega), (nb_of d1), ⟨_, rfl, Nat.le_trans (g 1 (by omega)).2 (by omega)⟩, (g 1 (by omega)).1, decide_eq_true (by omega), decide_eq_true (by omega), decide_eq_true (by omega), decide_eq_false (by omega), (nb_of d0), ⟨_, rfl, Nat.le_trans (g 0 (by omega)).2 (by omega)⟩, (g 0 (by omega)).1, decide_eq_true (by omega), decide_eq_true (by omega), bne_eq_false_iff_eq.2 (by omega), (beq_zero (by omega)), decide_eq_true (by omega), (isOpen_small (by omega)), decide_eq_true (by omega), allC_one _, hble, decide_eq_true (by omega), f69, l69, rfl, decide_eq_true (by omega), decide_eq_true (by omega), decide_eq_true (by omega), decide_eq_true (by omega), ⟨_, _, rfl⟩, trivial⟩
theorem G14_baax {s : ByteArray} (p : Pre14 s) (u : Num14 s) (h3 : (rS s).2.1 = 3) (d0 : digS (pt s 0) = true) (q0 : 255 < digV (pt s 0)) (d1 : digS (pt s 1) = true) (q1 : ¬ 255 < digV (pt s 1)) (d2 : digS (pt s 2) = true) (q2 : ¬ 255 < digV (pt s 2)) (d3 : ¬ digS (pt s 3) = true) : ∃ st', Go.Ai.call cx ovq3 1000 14 [.string s] ⟨keepIds st0.hp [], st0.ct⟩ = some (ipR s, st') := by
  obtain ⟨hs, hc1, hc2, hn1, hn2, r4, l69, hble, cb, cl⟩ := p
  obtain ⟨v0, v1, v2, v3, b0, b1, b2, b3, j1, j2, j3, j4⟩ := u
  have f69 := fit69_ok s
  have l14 := len14_eq s
  have g (j : Nat) (hj : j < 4) := strAt_b cb (j := j) (by omega)
  have c3 : (decide ((rS s).2.1 = 3)) = true := decide_eq_true h3
  have dx : digS (pt s 3) = false := by simpa using d3
  have ho4 : okP s = false := by unfold okP; rw [c3, d0, d1, d2, dx]; rfl
  rw [show ipR s = .tuple #[.int .u32 0, .int .i64 5] from by simp [ipR, ipN, ipE, ho4]]
  exact F14_baax s ⟨(nt_of d3), ⟨_, rfl, Nat.le_trans (g 3 (by omega)).2 (by omega)⟩, (g 3 (by omega)).1, decide_eq_true (by omega), decide_eq_true (by omega), decide_eq_true (by omega), decide_eq_true (by omega), decide_eq_false (by omega), (nb_of d2), ⟨_, rfl, Nat.le_trans (g 2 (by omega)).2 (by omega)⟩, (g 2 (by omega)).1, decide_eq_true (by omega), decide_eq_true (by omega), decide_eq_true (by omega), decide_eq_true (by omega), decide_eq_false (by omega), (nb_of d1), ⟨_, rfl, Nat.le_trans (g 1 (by omega)).2 (by omega)⟩, (g 1 (by omega)).1, decide_eq_true (by omega), decide_eq_true (by omega), decide_eq_true (by omega), decide_eq_true (by omega), (nb_of d0), ⟨_, rfl, Nat.le_trans (g 0 (by omega)).2 (by omega)⟩, (g 0 (by omega)).1, decide_eq_true (by omega), decide_eq_true (by omega), bne_eq_false_iff_eq.2 (by omega), (beq_zero (by omega)), decide_eq_true (by omega), (isOpen_small (by omega)), decide_eq_true (by omega), allC_one _, hble, decide_eq_true (by omega), f69, l69, rfl, decide_eq_true (by omega), decide_eq_true (by omega), decide_eq_true (by omega), decide_eq_true (by omega), ⟨_, _, rfl⟩, trivial⟩
theorem G14_bax {s : ByteArray} (p : Pre14 s) (u : Num14 s) (h3 : (rS s).2.1 = 3) (d0 : digS (pt s 0) = true) (q0 : 255 < digV (pt s 0)) (d1 : digS (pt s 1) = true) (q1 : ¬ 255 < digV (pt s 1)) (d2 : ¬ digS (pt s 2) = true) : ∃ st', Go.Ai.call cx ovq3 1000 14 [.string s] ⟨keepIds st0.hp [], st0.ct⟩ = some (ipR s, st') := by
  obtain ⟨hs, hc1, hc2, hn1, hn2, r4, l69, hble, cb, cl⟩ := p
  obtain ⟨v0, v1, v2, v3, b0, b1, b2, b3, j1, j2, j3, j4⟩ := u
  have f69 := fit69_ok s
  have l14 := len14_eq s
  have g (j : Nat) (hj : j < 4) := strAt_b cb (j := j) (by omega)
  have c3 : (decide ((rS s).2.1 = 3)) = true := decide_eq_true h3
  have dx : digS (pt s 2) = false := by simpa using d2
  have ho4 : okP s = false := by unfold okP; rw [c3, d0, d1, dx]; rfl
  rw [show ipR s = .tuple #[.int .u32 0, .int .i64 5] from by simp [ipR, ipN, ipE, ho4]]
  exact F14_bax s ⟨(nt_of d2), ⟨_, rfl, Nat.le_trans (g 2 (by omega)).2 (by omega)⟩, (g 2 (by omega)).1, decide_eq_true (by omega), decide_eq_true (by omega), decide_eq_true (by omega), decide_eq_true (by omega), decide_eq_false (by omega), (nb_of d1), ⟨_, rfl, Nat.le_trans (g 1 (by omega)).2 (by omega)⟩, (g 1 (by omega)).1, decide_eq_true (by omega), decide_eq_true (by omega), decide_eq_true (by omega), decide_eq_true (by omega), (nb_of d0), ⟨_, rfl, Nat.le_trans (g 0 (by omega)).2 (by omega)⟩, (g 0 (by omega)).1, decide_eq_true (by omega), decide_eq_true (by omega), bne_eq_false_iff_eq.2 (by omega), (beq_zero (by omega)), decide_eq_true (by omega), (isOpen_small (by omega)), decide_eq_true (by omega), allC_one _, hble, decide_eq_true (by omega), f69, l69, rfl, decide_eq_true (by omega), decide_eq_true (by omega), decide_eq_true (by omega), decide_eq_true (by omega), ⟨_, _, rfl⟩, trivial⟩
theorem G14_bbba {s : ByteArray} (p : Pre14 s) (u : Num14 s) (h3 : (rS s).2.1 = 3) (d0 : digS (pt s 0) = true) (q0 : 255 < digV (pt s 0)) (d1 : digS (pt s 1) = true) (q1 : 255 < digV (pt s 1)) (d2 : digS (pt s 2) = true) (q2 : 255 < digV (pt s 2)) (d3 : digS (pt s 3) = true) (q3 : ¬ 255 < digV (pt s 3)) : ∃ st', Go.Ai.call cx ovq3 1000 14 [.string s] ⟨keepIds st0.hp [], st0.ct⟩ = some (ipR s, st') := by
  obtain ⟨hs, hc1, hc2, hn1, hn2, r4, l69, hble, cb, cl⟩ := p
  obtain ⟨v0, v1, v2, v3, b0, b1, b2, b3, j1, j2, j3, j4⟩ := u
  have f69 := fit69_ok s
  have l14 := len14_eq s
  have g (j : Nat) (hj : j < 4) := strAt_b cb (j := j) (by omega)
  have c3 : (decide ((rS s).2.1 = 3)) = true := decide_eq_true h3
  have ho4 : okP s = true := by unfold okP; rw [c3, d0, d1, d2, d3]; rfl
  have hb4 : bigP s = true := by unfold bigP; simp; omega
  rw [show ipR s = .tuple #[.int .u32 0, .int .i64 24] from by simp [ipR, ipN, ipE, ho4, hb4]]
  exact F14_bbba s ⟨decide_eq_false (by omega), decide_eq_true (by omega), decide_eq_true (by omega), decide_eq_false (by omega), (nb_of d3), ⟨_, rfl, Nat.le_trans (g 3 (by omega)).2 (by omega)⟩, (g 3 (by omega)).1, decide_eq_true (by omega), decide_eq_true (by omega), decide_eq_true (by omega), decide_eq_true (by omega), decide_eq_true (by omega), (nb_of d2), ⟨_, rfl, Nat.le_trans (g 2 (by omega)).2 (by omega)⟩, (g 2 (by omega)).1, decide_eq_true (by omega), decide_eq_true (by omega), decide_eq_true (by omega), decide_eq_true (by omega), decide_eq_true (by omega), (nb_of d1), ⟨_, rfl, Nat.le_trans (g 1 (by omega)).2 (by omega)⟩, (g 1 (by omega)).1, decide_eq_true (by omega), decide_eq_true (by omega), decide_eq_true (by omega), decide_eq_true (by omega), (nb_of d0), ⟨_, rfl, Nat.le_trans (g 0 (by omega)).2 (by omega)⟩, (g 0 (by omega)).1, decide_eq_true (by omega), decide_eq_true (by omega), bne_eq_false_iff_eq.2 (by omega), (beq_zero (by omega)), decide_eq_true (by omega), (isOpen_small (by omega)), decide_eq_true (by omega), allC_one _, hble, decide_eq_true (by omega), f69, l69, rfl, decide_eq_true (by omega), decide_eq_true (by omega), decide_eq_true (by omega), decide_eq_true (by omega), ⟨_, _, rfl⟩, trivial⟩
theorem G14_bx {s : ByteArray} (p : Pre14 s) (u : Num14 s) (h3 : (rS s).2.1 = 3) (d0 : digS (pt s 0) = true) (q0 : 255 < digV (pt s 0)) (d1 : ¬ digS (pt s 1) = true) : ∃ st', Go.Ai.call cx ovq3 1000 14 [.string s] ⟨keepIds st0.hp [], st0.ct⟩ = some (ipR s, st') := by
  obtain ⟨hs, hc1, hc2, hn1, hn2, r4, l69, hble, cb, cl⟩ := p
  obtain ⟨v0, v1, v2, v3, b0, b1, b2, b3, j1, j2, j3, j4⟩ := u
  have f69 := fit69_ok s
  have l14 := len14_eq s
  have g (j : Nat) (hj : j < 4) := strAt_b cb (j := j) (by omega)
  have c3 : (decide ((rS s).2.1 = 3)) = true := decide_eq_true h3
  have dx : digS (pt s 1) = false := by simpa using d1
  have ho4 : okP s = false := by unfold okP; rw [c3, d0, dx]; rfl
  rw [show ipR s = .tuple #[.int .u32 0, .int .i64 5] from by simp [ipR, ipN, ipE, ho4]]
  exact F14_bx s ⟨(nt_of d1), ⟨_, rfl, Nat.le_trans (g 1 (by omega)).2 (by omega)⟩, (g 1 (by omega)).1, decide_eq_true (by omega), decide_eq_true (by omega), decide_eq_true (by omega), decide_eq_true (by omega), (nb_of d0), ⟨_, rfl, Nat.le_trans (g 0 (by omega)).2 (by omega)⟩, (g 0 (by omega)).1, decide_eq_true (by omega), decide_eq_true (by omega), bne_eq_false_iff_eq.2 (by omega), (beq_zero (by omega)), decide_eq_true (by omega), (isOpen_small (by omega)), decide_eq_true (by omega), allC_one _, hble, decide_eq_true (by omega), f69, l69, rfl, decide_eq_true (by omega), decide_eq_true (by omega), decide_eq_true (by omega), decide_eq_true (by omega), ⟨_, _, rfl⟩, trivial⟩
end Go.Proofs.YtgmojlibppmfhaaDoor

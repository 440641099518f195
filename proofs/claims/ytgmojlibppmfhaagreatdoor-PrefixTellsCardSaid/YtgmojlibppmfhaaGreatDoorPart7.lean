/- Runs of the abstract interpreter, part 7: by an AI agent. -/
import Derived.Test.YtgmojlibppmfhaaGreatDoorPart6

namespace Go.Proofs.YtgmojlibppmfhaaGreatDoor
open Go Go.Ai
theorem F29_p0 (x : Int) (b : Int) (y : Int) (c : Int) (h : Holds [(Decidable.decide (c ≥ b)) = true, Go.Proofs.YtgmojlibppmfhaaGreatDoor.C28.pre [Go.Value.agg { toList := [Go.Value.int Go.IntKind.u32 x, Go.Value.int Go.IntKind.i64 b] }, Go.Value.int Go.IntKind.u32 y], (Decidable.decide (c ≥ b)) = true, (Decidable.decide (c ≥ b)) = true, (Decidable.decide (c ≥ b)) = true, (Decidable.decide (c ≥ b)) = true, (Go.Proofs.YtgmojlibppmfhaaGreatDoor.mayF y c) = true, (Go.Proofs.YtgmojlibppmfhaaGreatDoor.mayF y c) = true, (Go.Proofs.YtgmojlibppmfhaaGreatDoor.mayF y c) = true, (Go.Proofs.YtgmojlibppmfhaaGreatDoor.mayF y c) = true, (Go.Proofs.YtgmojlibppmfhaaGreatDoor.mayF y c) = true, (Go.Proofs.YtgmojlibppmfhaaGreatDoor.mayF y c) = true, Go.Proofs.YtgmojlibppmfhaaGreatDoor.C27.pre [Go.Value.agg { toList := [Go.Value.int Go.IntKind.u32 y, Go.Value.int Go.IntKind.i64 c] }]]) : ∃ st', Go.Ai.call cx ovp3 1000 14 [.agg #[.int .u32 x, .int .i64 b], .agg #[.int .u32 y, .int .i64 c]] ⟨keepIds st0.hp [], st0.ct⟩ = some (Go.Value.bool (Go.Proofs.YtgmojlibppmfhaaGreatDoor.hasF x b y), st') :=
  path_call refp3 (toks := [.ev, .yes, .yes, .ev, .yes, .yes, .ev, .yes, .yes, .yes, .ev, .yes, .yes, .ev, .yes, .yes]) (by kernel_rfl) h
theorem F29_p1 (x : Int) (b : Int) (y : Int) (c : Int) (h : Holds [(Decidable.decide (c ≥ b)) = false, (Decidable.decide (c ≥ b)) = false, (Decidable.decide (c ≥ b)) = false, (Decidable.decide (c ≥ b)) = false, (Decidable.decide (c ≥ b)) = false, (Go.Proofs.YtgmojlibppmfhaaGreatDoor.mayF y c) = true, (Go.Proofs.YtgmojlibppmfhaaGreatDoor.mayF y c) = true, (Go.Proofs.YtgmojlibppmfhaaGreatDoor.mayF y c) = true, (Go.Proofs.YtgmojlibppmfhaaGreatDoor.mayF y c) = true, (Go.Proofs.YtgmojlibppmfhaaGreatDoor.mayF y c) = true, (Go.Proofs.YtgmojlibppmfhaaGreatDoor.mayF y c) = true, Go.Proofs.YtgmojlibppmfhaaGreatDoor.C27.pre [Go.Value.agg { toList := [Go.Value.int Go.IntKind.u32 y, Go.Value.int Go.IntKind.i64 c] }]]) : ∃ st', Go.Ai.call cx ovp3 1000 14 [.agg #[.int .u32 x, .int .i64 b], .agg #[.int .u32 y, .int .i64 c]] ⟨keepIds st0.hp [], st0.ct⟩ = some (Go.Value.bool Bool.false, st') :=
  path_call refp3 (toks := [.ev, .yes, .yes, .ev, .yes, .yes, .ev, .yes, .yes, .no, .no, .no, .no, .no]) (by kernel_rfl) h
theorem F29_p2 (x : Int) (b : Int) (y : Int) (c : Int) (h : Holds [(Go.Proofs.YtgmojlibppmfhaaGreatDoor.mayF y c) = false, (Go.Proofs.YtgmojlibppmfhaaGreatDoor.mayF y c) = false, (Go.Proofs.YtgmojlibppmfhaaGreatDoor.mayF y c) = false, (Go.Proofs.YtgmojlibppmfhaaGreatDoor.mayF y c) = false, (Go.Proofs.YtgmojlibppmfhaaGreatDoor.mayF y c) = false, (Go.Proofs.YtgmojlibppmfhaaGreatDoor.mayF y c) = false, Go.Proofs.YtgmojlibppmfhaaGreatDoor.C27.pre [Go.Value.agg { toList := [Go.Value.int Go.IntKind.u32 y, Go.Value.int Go.IntKind.i64 c] }]]) : ∃ st', Go.Ai.call cx ovp3 1000 14 [.agg #[.int .u32 x, .int .i64 b], .agg #[.int .u32 y, .int .i64 c]] ⟨keepIds st0.hp [], st0.ct⟩ = some (Go.Value.bool Bool.false, st') :=
  path_call refp3 (toks := [.ev, .no, .no, .no, .no, .no, .no, .ev, .ev, .ev, .ev, .ev]) (by kernel_rfl) h
set_option maxHeartbeats 4000000 in
theorem F29_all (x : Int) (b : Int) (y : Int) (c : Int) (h0 : 0 ≤ x) (h1 : x < 4294967296) (h2 : 0 ≤ y) (h3 : y < 4294967296) : ∃ st', Go.Ai.call cx ovp3 1000 14 [.agg #[.int .u32 x, .int .i64 b], .agg #[.int .u32 y, .int .i64 c]] ⟨keepIds st0.hp [], st0.ct⟩ = some (.bool (contF x b y c), st') := by
  cases b0 : (Go.Proofs.YtgmojlibppmfhaaGreatDoor.mayF y c)
  ·
    obtain ⟨st', h⟩ := F29_p2 x b y c ⟨b0, b0, b0, b0, b0, b0, (by first | exact ⟨_, _, rfl, by omega, by omega⟩ | (simp [beqV, beqVA, beqVL]; done) | exact ⟨_, _, _, rfl, h0, h1, h2, h3⟩), trivial⟩
    exact ⟨st', h.trans (congrArg (fun v => some (v, st')) (by refine congrArg Value.bool ?_; unfold contF; rw [show mayF y c = false from b0]; rfl))⟩
  ·
    cases b1 : (Decidable.decide (c ≥ b))
    ·
      have c1 := of_decide_eq_false b1
      obtain ⟨st', h⟩ := F29_p1 x b y c ⟨b1, b1, b1, b1, b1, b0, b0, b0, b0, b0, b0, (by first | exact ⟨_, _, rfl, by omega, by omega⟩ | (simp [beqV, beqVA, beqVL]; done) | exact ⟨_, _, _, rfl, h0, h1, h2, h3⟩), trivial⟩
      exact ⟨st', h.trans (congrArg (fun v => some (v, st')) (by refine congrArg Value.bool ?_; unfold contF; rw [show mayF y c = true from b0, show decide (b ≤ c) = false from b1]; rfl))⟩
    ·
      have c1 := of_decide_eq_true b1
      obtain ⟨st', h⟩ := F29_p0 x b y c ⟨b1, (by first | exact ⟨_, _, rfl, by omega, by omega⟩ | (simp [beqV, beqVA, beqVL]; done) | exact ⟨_, _, _, rfl, h0, h1, h2, h3⟩), b1, b1, b1, b1, b0, b0, b0, b0, b0, b0, (by first | exact ⟨_, _, rfl, by omega, by omega⟩ | (simp [beqV, beqVA, beqVL]; done) | exact ⟨_, _, _, rfl, h0, h1, h2, h3⟩), trivial⟩
      exact ⟨st', h.trans (congrArg (fun v => some (v, st')) (by refine congrArg Value.bool ?_; unfold contF; rw [show mayF y c = true from b0, show decide (b ≤ c) = true from b1]; rfl))⟩

def C29 : FC := ⟨14, fun l => ∃ x b y c, l = [.agg #[.int .u32 x, .int .i64 b], .agg #[.int .u32 y, .int .i64 c]] ∧ 0 ≤ x ∧ x < 4294967296 ∧ 0 ≤ y ∧ y < 4294967296, fun l => match l with | [.agg ⟨[.int _ x, .int _ b]⟩, .agg ⟨[.int _ y, .int _ c]⟩] => .bool (contF x b y c) | _ => undef, []⟩
theorem C29_good : C29.Good Tryz.prog ovp3 st0 := ⟨by kernel_rfl, fun args ⟨x, b, y, c, e, h0, h1, h2, h3⟩ => by subst e; exact ⟨rfl, rfl, 1000, F29_all x b y c h0 h1 h2 h3⟩⟩
def ids22 : List Nat := ids
theorem tells22_run : isTrue (callF cx ov0 1000000 22 [] ⟨keepIds st0.hp ids22, st0.ct⟩) = true := by kernel_rfl
def C22 : FC := ⟨22, fun l => l = [], fun _ => .bool true, ids22⟩
theorem C22_good : C22.Good Tryz.prog ov0 st0 := ⟨by kernel_rfl, fun args e => by
  subst e
  obtain ⟨st', h⟩ := isTrue_ex tells22_run
  rw [callF_eq] at h
  exact ⟨rfl, rfl, 1000000, st', h⟩⟩
/-- contracts that are good over other known ones -/
theorem ovWith_ok2 {P : Program} {ov : Ov} (hmix : P.follows .mixedOrders = true) (hov : OvOk P ov) {st0 : St} (h3 : (Cx.of P).ng ≤ st0.ct) {fs : List FC}
    (hf : ∀ C ∈ fs, ∃ ov', OvOk P ov' ∧ OvMono ov' ∧ OvIds ov' ∧ C.Good P ov' st0) : OvOk P (ovWith st0 fs [] ov) where
  fn := by
    intro f g args st v st' hg hr m w cargs hR ha hfr
    simp only [ovWith] at hg
    split at hg
    · rename_i C hC
      simp only [Option.some.injEq] at hg; subst hg
      obtain ⟨h1, h2, rfl, rfl⟩ := FC.go_some hr
      obtain ⟨hm, rfl⟩ := findF_mem _ _ hC
      obtain ⟨ov', k1, k2, k3, k4⟩ := hf C hm
      exact FC.sound hmix k1 k2 k3 h3 k4 h2 h1 hR ha
    · exact hov.fn f g args st v st' hg hr m w cargs hR ha hfr
  lp := by
    intro c g nt tm st ex tm' st' hg hr
    simp only [ovWith] at hg
    exact hov.lp c g nt tm st ex tm' st' hg hr
noncomputable def ovp4 : Ov := ovWith st0 [C29, C22] [] ovp3
noncomputable def ovOp4 : OvO := ovOWith st0 [C29, C22] [] ovOp3
theorem refp4 : OvRef ovp4 ovOp4 := ovWith_ref refp3
theorem ovp4_ok : OvOk Tryz.prog ovp4 ∧ OvMono ovp4 ∧ OvIds ovp4 :=
  ⟨ovWith_ok2 Tryz.checked.mixed ovp3_ok.1 ng_st0 (fun C h => by simp at h; rcases h with rfl | rfl; exact ⟨ovp3, ovp3_ok.1, ovp3_ok.2.1, ovp3_ok.2.2, C29_good⟩; exact ⟨ov0, ov0_ok.1, ov0_ok.2.1, ov0_ok.2.2, C22_good⟩),
   ovWith_mono ovp3_ok.2.1 (fun x h => by cases h), ovWith_ids ovp3_ok.2.2⟩
end Go.Proofs.YtgmojlibppmfhaaGreatDoor

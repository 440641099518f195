/- Runs of the abstract interpreter, part 7: by an AI agent. -/
import Derived.Test.YtgmojlibppmfhaaDoorPart6

namespace Go.Proofs.YtgmojlibppmfhaaDoor
open Go Go.Ai
set_option maxHeartbeats 4000000 in
def ids22 : List Nat := [2, 3, 4, 5, 6, 7, 8, 9, 10]
theorem tells22_run : isTrue (callF cx ov0 1000000 22 [] ⟨keepIds st0.hp ids22, st0.ct⟩) = true := by kernel_rfl
def C22 : FC := ⟨22, fun l => l = [], fun _ => .bool true, ids22⟩
theorem C22_good : C22.Good Tryd.prog ov0 st0 := ⟨by kernel_rfl, fun args e => by
  subst e
  obtain ⟨st', h⟩ := isTrue_ex tells22_run
  rw [callF_eq] at h
  exact ⟨rfl, rfl, 1000000, st', h⟩⟩
/-- contracts that are good over other known ones -/
theorem ovWith_ok2 {P : Program} {ov : Ov} (hmix : P.follows .mixedOrders = true) (hov : OvOk P ov) {st0 : St} (h3 : (Cx.of P).ng ≤ st0.ct) {fs : List FC}
    (hf : ∀ C ∈ fs, ∃ ov', OvOk P ov' ∧ OvMono ov' ∧ OvIds ov' ∧ C.Good P ov' st0) : OvOk P (ovWith st0 fs [] ov) where
  fn := by
    intro f g args st v st' hg hr m w cargs hR ha hfr
    simp only [ovWith] at hg
    split at hg
    · rename_i C hC
      simp only [Option.some.injEq] at hg; subst hg
      obtain ⟨h1, h2, rfl, rfl⟩ := FC.go_some hr
      obtain ⟨hm, rfl⟩ := findF_mem _ _ hC
      obtain ⟨ov', k1, k2, k3, k4⟩ := hf C hm
      exact FC.sound hmix k1 k2 k3 h3 k4 h2 h1 hR ha
    · exact hov.fn f g args st v st' hg hr m w cargs hR ha hfr
  lp := by
    intro c g nt tm st ex tm' st' hg hr
    simp only [ovWith] at hg
    exact hov.lp c g nt tm st ex tm' st' hg hr
end Go.Proofs.YtgmojlibppmfhaaDoor

/- The program's ColorsUsed returns what the reference's returns, for every list of designs: no condition. -/
import Derived.Test.YtacimfnaacdobaaSFnExactColorsUsed
import Derived.Test.YtacimfnaacdobaaMCP
namespace Go.Proofs.Ytacimfnaacdobaa.Pure
open Go.RowKit Go.Proofs.Ytacimfnaacdobaa.Q Go.Proofs.Ytacimfnaacdobaa.M Go.Proofs.YtacimfnaacdobaaW.PrintWords Go.Proofs.YtacimfnaacdobaaW.Pl
set_option linter.unusedSimpArgs false

theorem FnExactColorsUsed : laws_FnExactColorsUsed.Pure := by
  intro l0 ⟨hZ, _⟩
  refine Ev.rounds ?_
  unfold laws_FnExactColorsUsed.f
  obtain ⟨r, hr, hs⟩ := szDesigns l0 hZ
  rw [hr]
  simp only [Option.bind_some]
  by_cases h : 1048576 < l0.length
  · simp only [if_pos (hs.2 h)]
    exact Ev.now _
  · have hl : (l0.map cvDesign).length ≤ 1048576 := by simp; omega
    have hto := toDesigns l0 (by omega)
    have hsz : ¬ r < 0 := fun h2 => h (hs.1 h2)
    have heq := eqDesigns _ hl
    generalize l0.map cvDesign = l at hl hto heq
    obtain ⟨q, hQ, hS, hI⟩ := colsBoth l hl
    obtain ⟨l', hmk⟩ := markDesigns l hl
    have hei := eqInts _ hQ
    have hmi := markInts _ hQ
    have hhi := heldInts _ hQ
    have hn : ¬ (((q.1.length + 1 : Nat) : Int) < 0) := by omega
    have hneg : ¬ (((4 * l.length + 1 : Nat) : Int) < 0) := by omega
    simp only [if_neg hsz]
    repeat' first
      | exact Ev.now _
      | (with_reducible refine Ev.bind hto ?_)
      | (with_reducible refine Ev.bind hS ?_)
      | (with_reducible refine Ev.bind hI ?_)
      | (with_reducible refine Ev.bind heq ?_)
      | (with_reducible refine Ev.bind hei ?_)
      | (with_reducible refine Ev.bind hmk ?_)
      | (with_reducible refine Ev.bind hmi ?_)
      | (with_reducible refine Ev.bind hhi ?_)
      | simp only [if_true, bne_self_eq_false, Bool.false_eq_true, if_false, if_neg hneg, if_neg hn]
      | (refine Ev.succ ?_; simp only [laws_FnExactColorsUsed.j0, laws_FnExactColorsUsed.j1, laws_FnExactColorsUsed.j2, Bool.false_eq_true, if_false])
end Go.Proofs.Ytacimfnaacdobaa.Pure

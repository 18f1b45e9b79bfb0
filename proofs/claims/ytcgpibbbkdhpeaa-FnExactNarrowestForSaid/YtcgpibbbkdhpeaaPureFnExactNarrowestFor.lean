/- The program's NarrowestFor returns what the reference's returns, for all arguments: no condition. -/
import Derived.Test.YtcgpibbbkdhpeaaSFnExactNarrowestFor
import Derived.Test.YtcgpibbbkdhpeaaMC2
namespace Go.Proofs.Ytcgpibbbkdhpeaa.Pure
open Go.RowKit Go.Proofs.Ytcgpibbbkdhpeaa.Q Go.Proofs.Ytcgpibbbkdhpeaa.M Go.Proofs.YtcgpibbbkdhpeaaW.PrintWords Go.Proofs.YtcgpibbbkdhpeaaW.Pl
set_option linter.unusedSimpArgs false

theorem FnExactNarrowestFor : laws_FnExactNarrowestFor.Pure := by
  intro l0 m ⟨hZ, _⟩ _
  refine Ev.rounds ?_
  unfold laws_FnExactNarrowestFor.f
  by_cases hcm : (m.length : Int) > 1048576
  · simp only [if_pos hcm]
    repeat' first | exact Ev.now _ | split
  simp only [if_neg hcm]
  obtain ⟨r, hr, hs⟩ := szLoomJobs l0 hZ
  rw [hr]
  simp only [Option.bind_some]
  by_cases h : 1048576 < l0.length
  · simp only [if_pos (hs.2 h)]
    exact Ev.now _
  · have hl : (l0.map cvLoomJob).length ≤ 1048576 := by simp; omega
    have hto := toLoomJobs l0 (by omega)
    have hsz : ¬ r < 0 := fun h2 => h (hs.1 h2)
    have heq := eqLoomJobs _ hl
    generalize l0.map cvLoomJob = l at hl hto heq
    have hbm : m.length ≤ 1048576 := by omega
    have htm := toInts m hbm
    have hem := eqInts m hbm
    obtain ⟨q, hQ, hS, hI⟩ := narrowBoth l m hl hbm
    obtain ⟨l', hmk⟩ := markLoomJobs l hl
    obtain ⟨p0, e0, _, hmk0⟩ := markIntsFrom m hbm (5 * l.length + 1) (by omega)
    have hei := eqInts _ hQ
    have hmi := markInts _ hQ
    have hhi := heldInts _ hQ
    have hn : ¬ (((q.1.length + 1 : Nat) : Int) < 0) := by omega
    have hneg : ¬ (p0.1 < 0) := by rw [e0]; omega
    simp only [if_neg hsz]
    repeat' first
      | exact Ev.now _
      | (with_reducible refine Ev.bind hto ?_)
      | (with_reducible refine Ev.bind htm ?_)
      | (with_reducible refine Ev.bind hS ?_)
      | (with_reducible refine Ev.bind hI ?_)
      | (with_reducible refine Ev.bind heq ?_)
      | (with_reducible refine Ev.bind hem ?_)
      | (with_reducible refine Ev.bind hei ?_)
      | (with_reducible refine Ev.bind hmk ?_)
      | (with_reducible refine Ev.bind hmk0 ?_)
      | (with_reducible refine Ev.bind hmi ?_)
      | (with_reducible refine Ev.bind hhi ?_)
      | simp only [if_true, bne_self_eq_false, Bool.false_eq_true, if_false, if_neg hneg, if_neg hn]
      | (refine Ev.succ ?_; simp only [laws_FnExactNarrowestFor.j0, laws_FnExactNarrowestFor.j1, laws_FnExactNarrowestFor.j2, Bool.false_eq_true, if_false])
end Go.Proofs.Ytcgpibbbkdhpeaa.Pure

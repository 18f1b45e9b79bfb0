/- The program's LastEnd returns what the reference's returns, for all arguments: no condition. -/
import Derived.Test.YtcgpibbbkdhpeaaSFnExactLastEnd
import Derived.Test.YtcgpibbbkdhpeaaMC
namespace Go.Proofs.Ytcgpibbbkdhpeaa.Pure
open Go.RowKit Go.Proofs.Ytcgpibbbkdhpeaa.Q Go.Proofs.Ytcgpibbbkdhpeaa.M Go.Proofs.YtcgpibbbkdhpeaaW.PrintWords Go.Proofs.YtcgpibbbkdhpeaaW.Pl
set_option linter.unusedSimpArgs false

theorem FnExactLastEnd : laws_FnExactLastEnd.Pure := by
  intro l0 m p ⟨hZ, _⟩ _ _
  refine Ev.rounds ?_
  unfold laws_FnExactLastEnd.f
  by_cases hcm : (m.length : Int) > 1048576
  · simp only [if_pos hcm]
    repeat' first | exact Ev.now _ | split
  by_cases hcp : (p.length : Int) > 1048576
  · simp only [if_pos hcp]
    repeat' first | exact Ev.now _ | split
  simp only [if_neg hcm, if_neg hcp]
  obtain ⟨r, hr, hs⟩ := szLoomJobs l0 hZ
  rw [hr]
  simp only [Option.bind_some]
  by_cases h : 1048576 < l0.length
  · simp only [if_pos (hs.2 h)]
    exact Ev.now _
  · have hl : (l0.map cvLoomJob).length ≤ 1048576 := by simp; omega
    have hto := toLoomJobs l0 (by omega)
    have hsz : ¬ r < 0 := fun h2 => h (hs.1 h2)
    have heq := eqLoomJobs _ hl
    generalize l0.map cvLoomJob = l at hl hto heq
    have hbm : m.length ≤ 1048576 := by omega
    have htm := toInts m hbm
    have hem := eqInts m hbm
    have hbp : p.length ≤ 1048576 := by omega
    have htp := toInts p hbp
    have hep := eqInts p hbp
    obtain ⟨q, hS, hI⟩ := lastBoth l m p hl hbm
    simp only [if_neg hsz]
    repeat' first
      | exact Ev.now _
      | (with_reducible refine Ev.bind hto ?_)
      | (with_reducible refine Ev.bind htm ?_)
      | (with_reducible refine Ev.bind htp ?_)
      | (with_reducible refine Ev.bind hS ?_)
      | (with_reducible refine Ev.bind hI ?_)
      | (with_reducible refine Ev.bind heq ?_)
      | (with_reducible refine Ev.bind hem ?_)
      | (with_reducible refine Ev.bind hep ?_)
      | simp only [if_true, bne_self_eq_false, Bool.false_eq_true, if_false]
      | (refine Ev.succ ?_; simp only [laws_FnExactLastEnd.j0, Bool.false_eq_true, if_false])
end Go.Proofs.Ytcgpibbbkdhpeaa.Pure

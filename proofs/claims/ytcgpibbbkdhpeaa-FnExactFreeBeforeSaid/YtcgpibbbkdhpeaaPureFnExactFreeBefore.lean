/- The program's FreeBefore returns what the reference's returns, for all arguments: no condition. -/
import Derived.Test.YtcgpibbbkdhpeaaSFnExactFreeBefore
import Derived.Test.YtcgpibbbkdhpeaaMB4
namespace Go.Proofs.Ytcgpibbbkdhpeaa.Pure
open Go.RowKit Go.Proofs.Ytcgpibbbkdhpeaa.Q Go.Proofs.Ytcgpibbbkdhpeaa.M Go.Proofs.YtcgpibbbkdhpeaaW.PrintWords Go.Proofs.YtcgpibbbkdhpeaaW.Pl
set_option linter.unusedSimpArgs false

theorem FnExactFreeBefore : laws_FnExactFreeBefore.Pure := by
  intro l0 m p a ⟨hZ, _⟩ _ _ _
  refine Ev.rounds ?_
  unfold laws_FnExactFreeBefore.f
  by_cases hcm : (m.length : Int) > 1048576
  · simp only [if_pos hcm]
    repeat' first | exact Ev.now _ | split
  by_cases hcp : (p.length : Int) > 1048576
  · simp only [if_pos hcp]
    repeat' first | exact Ev.now _ | split
  simp only [if_neg hcm, if_neg hcp]
  obtain ⟨r, hr, hs⟩ := szLoomJobs l0 hZ
  rw [hr]
  simp only [Option.bind_some]
  by_cases h : 1048576 < l0.length
  · simp only [if_pos (hs.2 h)]
    exact Ev.now _
  · have hl : (l0.map cvLoomJob).length ≤ 1048576 := by simp; omega
    have hto := toLoomJobs l0 (by omega)
    have hsz : ¬ r < 0 := fun h2 => h (hs.1 h2)
    have heq := eqLoomJobs _ hl
    generalize l0.map cvLoomJob = l at hl hto heq
    have hbm : m.length ≤ 1048576 := by omega
    have htm := toInts m hbm
    have hem := eqInts m hbm
    have hbp : p.length ≤ 1048576 := by omega
    have htp := toInts p hbp
    have hep := eqInts p hbp
    obtain ⟨q, hQ, hS, hI⟩ := beforeBoth l m p a hl hbm
    obtain ⟨l', hmk⟩ := markLoomJobs l hl
    obtain ⟨p0, e0, _, hmk0⟩ := markIntsFrom m hbm (5 * l.length + 1) (by omega)
    obtain ⟨p1, e1, _, hmk1⟩ := markIntsFrom p hbp (5 * l.length + 1 + m.length) (by omega)
    have hei := eqInts _ hQ
    have hmi := markInts _ hQ
    have hhi := heldInts _ hQ
    have hn : ¬ (((q.1.length + 1 : Nat) : Int) < 0) := by omega
    have hneg : ¬ (p1.1 < 0) := by rw [e1]; omega
    simp only [if_neg hsz]
    repeat' first
      | exact Ev.now _
      | (with_reducible refine Ev.bind hto ?_)
      | (with_reducible refine Ev.bind htm ?_)
      | (with_reducible refine Ev.bind htp ?_)
      | (with_reducible refine Ev.bind hS ?_)
      | (with_reducible refine Ev.bind hI ?_)
      | (with_reducible refine Ev.bind heq ?_)
      | (with_reducible refine Ev.bind hem ?_)
      | (with_reducible refine Ev.bind hep ?_)
      | (with_reducible refine Ev.bind hei ?_)
      | (with_reducible refine Ev.bind hmk ?_)
      | (with_reducible refine Ev.bind hmk0 ?_)
      | (with_reducible refine Ev.bind hmk1 ?_)
      | (with_reducible refine Ev.bind hmi ?_)
      | (with_reducible refine Ev.bind hhi ?_)
      | simp only [if_true, bne_self_eq_false, Bool.false_eq_true, if_false, if_neg hneg, if_neg hn, e0]
      | (refine Ev.succ ?_; simp only [laws_FnExactFreeBefore.j0, laws_FnExactFreeBefore.j1, laws_FnExactFreeBefore.j2, Bool.false_eq_true, if_false])
end Go.Proofs.Ytcgpibbbkdhpeaa.Pure

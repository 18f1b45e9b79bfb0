/- The program's KnotsAnHour returns what the reference's returns, for every list of rows: no condition. -/
import Derived.Test.YthmgiagecgkmiaaSFnExactKnotsAnHour
import Derived.Test.YthmgiagecgkmiaaME
namespace Go.Proofs.Ythmgiagecgkmiaa.Pure
open Go.RowKit Go.Proofs.Ythmgiagecgkmiaa.Q Go.Proofs.Ythmgiagecgkmiaa.M Go.Proofs.YthmgiagecgkmiaaW.PrintWords Go.Proofs.YthmgiagecgkmiaaW.Pl
set_option linter.unusedSimpArgs false

theorem FnExactKnotsAnHour : laws_FnExactKnotsAnHour.Pure := by
  intro l ⟨hm, _⟩
  refine Ev.rounds ?_
  unfold laws_FnExactKnotsAnHour.f
  obtain ⟨r, hr, hs⟩ := szRows l hm
  rw [hr]
  simp only [Option.bind_some]
  by_cases h : 1048576 < l.length
  · simp only [if_pos (hs.2 h)]
    exact Ev.now _
  · have hl : (l.map cvM).length ≤ 1048576 := by simp; omega
    obtain ⟨q, hq1, hq2⟩ := knotsBoth (l.map cvM) hl
    simp only [if_neg (fun h2 => h (hs.1 h2))]
    refine Ev.bind (toRows l (by omega)) ?_
    refine Ev.bind hq1 ?_
    refine Ev.bind (toRows l (by omega)) ?_
    refine Ev.bind hq2 ?_
    simp only [if_true, bne_self_eq_false]
    refine Ev.succ ?_
    simp only [laws_FnExactKnotsAnHour.j0, Bool.false_eq_true, if_false]
    refine Ev.bind (toRows l (by omega)) ?_
    refine Ev.bind (eqRows _ hl) ?_
    simp only [if_true]
    exact Ev.now _
end Go.Proofs.Ythmgiagecgkmiaa.Pure

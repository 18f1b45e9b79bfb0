/- The program's AreMonthRows returns what the reference's returns, for every list of rows: no condition. -/
import Derived.Test.YthmgiagecgkmiaaSFnExactAreMonthRows
import Derived.Test.YthmgiagecgkmiaaMA
namespace Go.Proofs.Ythmgiagecgkmiaa.Pure
open Go.RowKit Go.Proofs.Ythmgiagecgkmiaa.Q Go.Proofs.Ythmgiagecgkmiaa.M Go.Proofs.YthmgiagecgkmiaaW.PrintWords Go.Proofs.YthmgiagecgkmiaaW.Pl

theorem FnExactAreMonthRows : laws_FnExactAreMonthRows.Pure := by
  intro l ⟨hm, _⟩
  refine Ev.rounds ?_
  unfold laws_FnExactAreMonthRows.f spec_AreMonthRows.f
  obtain ⟨r, hr, hs⟩ := szRows l hm
  rw [hr]
  simp only [Option.bind_some]
  by_cases h : 1048576 < l.length
  · simp only [if_pos (hs.2 h)]
    exact Ev.now _
  · have hl : (l.map cvM).length ≤ 1048576 := by simp; omega
    simp only [if_neg (fun h2 => h (hs.1 h2))]
    refine Ev.bind (toRows l (by omega)) ?_
    refine Ev.bind (Ev.bind (sGood _ hl) (Ev.now _)) ?_
    refine Ev.bind (toRows l (by omega)) ?_
    refine Ev.bind (iGood _ hl) ?_
    simp only [bne_self_eq_false, Bool.false_eq_true, if_false]
    refine Ev.bind (toRows l (by omega)) ?_
    refine Ev.bind (eqRows _ hl) ?_
    simp only [if_true]
    exact Ev.now _
end Go.Proofs.Ythmgiagecgkmiaa.Pure

/- The program's IsProgram returns what the reference's returns, for every list of designs: no condition. -/
import Derived.Test.YtacimfnaacdobaaSFnExactIsProgram
import Derived.Test.YtacimfnaacdobaaMA
namespace Go.Proofs.Ytacimfnaacdobaa.Pure
open Go.RowKit Go.Proofs.Ytacimfnaacdobaa.Q Go.Proofs.Ytacimfnaacdobaa.M Go.Proofs.YtacimfnaacdobaaW.PrintWords Go.Proofs.YtacimfnaacdobaaW.Pl

theorem FnExactIsProgram : laws_FnExactIsProgram.Pure := by
  intro l ⟨hm, _⟩
  refine Ev.rounds ?_
  unfold laws_FnExactIsProgram.f spec_IsProgram.f
  obtain ⟨r, hr, hs⟩ := szDesigns l hm
  rw [hr]
  simp only [Option.bind_some]
  by_cases h : 1048576 < l.length
  · simp only [if_pos (hs.2 h)]
    exact Ev.now _
  · have hl : (l.map cvDesign).length ≤ 1048576 := by simp; omega
    simp only [if_neg (fun h2 => h (hs.1 h2))]
    refine Ev.bind (toDesigns l (by omega)) ?_
    refine Ev.bind (Ev.bind (sGood _ hl) (Ev.now _)) ?_
    refine Ev.bind (toDesigns l (by omega)) ?_
    refine Ev.bind (iGood _ hl) ?_
    simp only [bne_self_eq_false, Bool.false_eq_true, if_false]
    refine Ev.bind (toDesigns l (by omega)) ?_
    refine Ev.bind (eqDesigns _ hl) ?_
    simp only [if_true]
    exact Ev.now _
end Go.Proofs.Ytacimfnaacdobaa.Pure

/- The program's BestMonths returns what the reference's returns, for every list of rows: no condition. -/
import Derived.Test.YthmgiagecgkmiaaSFnExactBestMonths
import Derived.Test.YthmgiagecgkmiaaMC
namespace Go.Proofs.Ythmgiagecgkmiaa.Pure
open Go.RowKit Go.Proofs.Ythmgiagecgkmiaa.Q Go.Proofs.Ythmgiagecgkmiaa.M Go.Proofs.YthmgiagecgkmiaaW.PrintWords Go.Proofs.YthmgiagecgkmiaaW.Pl
set_option linter.unusedSimpArgs false

theorem FnExactBestMonths : laws_FnExactBestMonths.Pure := by
  intro l ⟨hm, _⟩
  refine Ev.rounds ?_
  unfold laws_FnExactBestMonths.f
  obtain ⟨r, hr, hs⟩ := szRows l hm
  rw [hr]
  simp only [Option.bind_some]
  by_cases h : 1048576 < l.length
  · simp only [if_pos (hs.2 h)]
    exact Ev.now _
  · have hl : (l.map cvM).length ≤ 1048576 := by simp; omega
    have hz := bestRes_len (l.map cvM) hl
    obtain ⟨l', hmk⟩ := markRows (l.map cvM) hl
    simp only [if_neg (fun h2 => h (hs.1 h2))]
    refine Ev.bind (toRows l (by omega)) ?_
    refine Ev.bind (sBest _ hl) ?_
    refine Ev.bind (toRows l (by omega)) ?_
    refine Ev.bind (iBest _ hl) ?_
    refine Ev.bind (eqInts _ hz) ?_
    simp only [if_true, bne_self_eq_false]
    refine Ev.succ ?_
    simp only [laws_FnExactBestMonths.j0, Bool.false_eq_true, if_false]
    refine Ev.bind (toRows l (by omega)) ?_
    refine Ev.bind (eqRows _ hl) ?_
    simp only [if_true]
    refine Ev.bind hmk ?_
    simp only [if_neg (show ¬ (((6 * (l.map cvM).length + 1 : Nat) : Int) < 0) by omega)]
    refine Ev.bind (eqInts _ hz) ?_
    simp only [if_true, bne_self_eq_false]
    refine Ev.succ ?_
    simp only [laws_FnExactBestMonths.j1, Bool.false_eq_true, if_false]
    refine Ev.bind (markInts _ hz) ?_
    refine Ev.bind (heldInts _ hz) ?_
    simp only [if_neg (show ¬ ((((bestRes (l.map cvM)).1.length + 1 : Nat) : Int) < 0) by omega), if_true]
    refine Ev.bind (toRows l (by omega)) ?_
    refine Ev.bind (iBest _ hl) ?_
    refine Ev.bind (eqInts _ hz) ?_
    simp only [if_true, bne_self_eq_false]
    refine Ev.succ ?_
    simp only [laws_FnExactBestMonths.j2, Bool.false_eq_true, if_false]
    refine Ev.bind (heldInts _ hz) ?_
    simp only [if_neg (show ¬ ((((bestRes (l.map cvM)).1.length + 1 : Nat) : Int) < 0) by omega), if_true]
    exact Ev.now _
end Go.Proofs.Ythmgiagecgkmiaa.Pure

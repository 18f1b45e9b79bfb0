/- The program's DaysToSell returns what the reference's returns, for every shop: no condition. -/
import Derived.Test.YtmhiaggpnkihcaaSFnExactDaysToSell
import Derived.Test.YtmhiaggpnkihcaaMC
namespace Go.Proofs.Ytmhiaggpnkihcaa.Pure
open Go.RowKit Go.Proofs.Ytmhiaggpnkihcaa.Q Go.Proofs.Ytmhiaggpnkihcaa.M Go.Proofs.YtmhiaggpnkihcaaW.PrintWords Go.Proofs.YtmhiaggpnkihcaaW.Pl
set_option linter.unusedSimpArgs false

theorem FnExactDaysToSell : laws_FnExactDaysToSell.Pure := by
  intro day looms l m hg
  have hm : l.length ≤ maxLen := by
    unfold g32 at hg
    exact hg.2.2.1.1
  refine Ev.rounds ?_
  unfold laws_FnExactDaysToSell.f
  obtain ⟨r, hr, hs⟩ := szShop day looms m l hm
  rw [hr]
  simp only [Option.bind_some]
  by_cases h : 1048576 < l.length
  · simp only [if_pos (hs.2 h)]
    exact Ev.now _
  · have hl : (l.map cvC).length ≤ 1048576 := by simp; omega
    have hto : Ev (fun k => laws_toShop.f k day looms l m) (day, looms, l.map cvC, m) := by
      unfold laws_toShop.f
      exact Ev.bind (toCarpets l (by omega)) (Ev.now _)
    simp only [if_neg (fun h2 => h (hs.1 h2))]
    refine Ev.bind hto ?_
    obtain ⟨q, hq1, hq2⟩ := daysBoth day looms m (l.map cvC)
    refine Ev.bind hq1 ?_
    refine Ev.bind hto ?_
    refine Ev.bind hq2 ?_
    simp only [if_true, bne_self_eq_false]
    refine Ev.succ ?_
    simp only [laws_FnExactDaysToSell.j0, Bool.false_eq_true, if_false]
    refine Ev.bind hto ?_
    have heq : Ev (fun k => laws_eqShop.f k day looms (l.map cvC) m day looms (l.map cvC) m) true := by
      unfold laws_eqShop.f
      simp only [if_true]
      exact Ev.bind (eqCarpets _ hl) (by simp only [if_true]; exact Ev.now _)
    refine Ev.bind heq ?_
    simp only [if_true]
    exact Ev.now _
end Go.Proofs.Ytmhiaggpnkihcaa.Pure

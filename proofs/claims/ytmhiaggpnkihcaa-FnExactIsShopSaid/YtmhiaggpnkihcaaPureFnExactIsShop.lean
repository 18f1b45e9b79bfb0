/- The program's IsShop returns what the reference's returns, for every shop: no condition. -/
import Derived.Test.YtmhiaggpnkihcaaSFnExactIsShop
import Derived.Test.YtmhiaggpnkihcaaMA
namespace Go.Proofs.Ytmhiaggpnkihcaa.Pure
open Go.RowKit Go.Proofs.Ytmhiaggpnkihcaa.Q Go.Proofs.Ytmhiaggpnkihcaa.M Go.Proofs.YtmhiaggpnkihcaaW.PrintWords Go.Proofs.YtmhiaggpnkihcaaW.Pl
set_option linter.unusedSimpArgs false

theorem FnExactIsShop : laws_FnExactIsShop.Pure := by
  intro day looms l m hg
  have hm : l.length ≤ maxLen := by
    unfold g32 at hg
    exact hg.2.2.1.1
  refine Ev.rounds ?_
  unfold laws_FnExactIsShop.f
  obtain ⟨r, hr, hs⟩ := szShop day looms m l hm
  rw [hr]
  simp only [Option.bind_some]
  by_cases h : 1048576 < l.length
  · simp only [if_pos (hs.2 h)]
    exact Ev.now _
  · have hl : (l.map cvC).length ≤ 1048576 := by simp; omega
    have hto : Ev (fun k => laws_toShop.f k day looms l m) (day, looms, l.map cvC, m) := by
      unfold laws_toShop.f
      exact Ev.bind (toCarpets l (by omega)) (Ev.now _)
    simp only [if_neg (fun h2 => h (hs.1 h2))]
    refine Ev.bind hto ?_
    have hsp : Ev (fun k => spec_IsShop.f k day looms (l.map cvC) m) (goodS day looms (l.map cvC) m) := by
      unfold spec_IsShop.f
      exact Ev.bind (sGood day looms m (l.map cvC)) (Ev.now _)
    refine Ev.bind hsp ?_
    refine Ev.bind hto ?_
    refine Ev.bind (iGood day looms m (l.map cvC)) ?_
    simp only [bne_self_eq_false, Bool.false_eq_true, if_false]
    refine Ev.bind hto ?_
    have heq : Ev (fun k => laws_eqShop.f k day looms (l.map cvC) m day looms (l.map cvC) m) true := by
      unfold laws_eqShop.f
      simp only [if_true]
      exact Ev.bind (eqCarpets _ hl) (by simp only [if_true]; exact Ev.now _)
    refine Ev.bind heq ?_
    simp only [if_true]
    exact Ev.now _
end Go.Proofs.Ytmhiaggpnkihcaa.Pure

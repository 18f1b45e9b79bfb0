/- The program's IsLikelier returns what the reference's returns, for all arguments: no condition. -/
import Derived.Test.YtblihmohgfmpgaaSFnExactIsLikelier
import Derived.Test.YtblihmohgfmpgaaMB
namespace Go.Proofs.Ytblihmohgfmpgaa.Pure
open Go.RowKit Go.Proofs.Ytblihmohgfmpgaa.Q Go.Proofs.Ytblihmohgfmpgaa.M Go.Proofs.YtblihmohgfmpgaaW.PrintWords Go.Proofs.YtblihmohgfmpgaaW.Pl
set_option linter.unusedSimpArgs false

theorem FnExactIsLikelier : laws_FnExactIsLikelier.Pure := by
  intro l0 m a b x y ⟨hZ, hG⟩ hq _ _
  have hGl : ∀ x ∈ l0, x.f1.length ≤ maxLen := fun x hx => by have := hG x hx; unfold g68 at this; exact this.2.1.1
  have hml : m.length ≤ maxLen := by have := hq; unfold g31 at this; exact this.1.1
  refine Ev.rounds ?_
  unfold laws_FnExactIsLikelier.f
  obtain ⟨r, hr, hc⟩ := szSchools l0 hZ hGl
  refine Ev.bind hr ?_
  rcases hc with hc | ⟨c1, c2, c3, c4⟩
  · simp only [if_pos hc]
    exact Ev.now _
  · obtain ⟨r2, hr2, hc2⟩ := szPiece m a b r hml ⟨c1, c2⟩
    simp only [if_neg (show ¬ r < 0 by omega), hr2, Option.bind_some]
    rcases hc2 with hc2 | ⟨d1, d2⟩
    · simp only [if_pos hc2]
      exact Ev.now _
    · simp only [if_neg (show ¬ r2 < 0 by omega)]
      have hto := toSchools l0 c3 c4
      have hl : (l0.map cvS).length ≤ 1048576 := by simp; exact c3
      have hg : ∀ i, i < (l0.map cvS).length → (nth (l0.map cvS) i z69).f1.length ≤ 1048576 := fun i hi => by
        have hi' : i < l0.length := by simpa using hi
        rw [nth_map (z := z68) hi']
        exact c4 i hi'
      have heq := eqSchools _ hl hg
      generalize l0.map cvS = l at hl hg hto heq
      have htp := toPiece m a b d2
      have hep := eqPiece m a b d2
      obtain ⟨q, hS, hI⟩ := likelierBoth l m a b x y hl hg d2
      repeat' first
        | exact Ev.now _
        | (with_reducible refine Ev.bind hto ?_)
        | (with_reducible refine Ev.bind htp ?_)
        | (with_reducible refine Ev.bind hS ?_)
        | (with_reducible refine Ev.bind hI ?_)
        | (with_reducible refine Ev.bind heq ?_)
        | (with_reducible refine Ev.bind hep ?_)
        | simp only [if_true, bne_self_eq_false, Bool.false_eq_true, if_false]
        | (refine Ev.succ ?_; simp only [laws_FnExactIsLikelier.j0, Bool.false_eq_true, if_false])
end Go.Proofs.Ytblihmohgfmpgaa.Pure

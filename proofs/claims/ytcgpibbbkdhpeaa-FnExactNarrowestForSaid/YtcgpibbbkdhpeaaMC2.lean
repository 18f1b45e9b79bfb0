import Derived.Test.YtcgpibbbkdhpeaaMB
import Derived.Test.YtcgpibbbkdhpeaaQx23
import Derived.Test.YtcgpibbbkdhpeaaQx24
namespace Go.Proofs.Ytcgpibbbkdhpeaa.M
open Go.RowKit Go.Proofs.Ytcgpibbbkdhpeaa.Q Go.Proofs.YtcgpibbbkdhpeaaW.PrintWords Go.Proofs.YtcgpibbbkdhpeaaW.PrintLast Go.Proofs.YtcgpibbbkdhpeaaW.Pl Classical
set_option linter.unusedSimpArgs false
set_option linter.unusedVariables false

theorem narrowBoth (l : List S51) (m : List Int) (hl : l.length ≤ 1048576) (hm : m.length ≤ 1048576) : ∃ q : List Int × Bool, q.1.length ≤ 1048576 ∧ Ev (fun k => spec_NarrowestFor.f k l m) q ∧ Ev (fun k => impl_NarrowestFor.f k l m) q := by
  unfold spec_NarrowestFor.f impl_NarrowestFor.f
  simp only [Option.bind_some]
  by_cases hJ : goodJ l = true
  · by_cases hL : goodL m = true
    · have hmm : 1 ≤ m.length ∧ m.length ≤ 3 := by
        unfold goodL at hL
        rw [Bool.and_eq_true] at hL
        exact of_decide_eq_true hL.2
      have main : ∀ d (i : Nat) (s : List Int), l.length - i = d → i ≤ l.length → s.length ≤ i → ∃ q : List Int × Bool, q.1.length ≤ 1048576 ∧ Ev (fun k => spec_NarrowestFor.l0 k l m s (i : Int)) q ∧ Ev (fun k => impl_NarrowestFor.l0 k m s l (l.length : Int) (i : Int)) q := by
        intro d
        induction d with
        | zero =>
          intro i s hd hi hs
          have hil : i = l.length := by omega
          subst hil
          refine ⟨(s, true), by simp only; omega, Ev.succ ?_, Ev.succ ?_⟩
          · simp only [spec_NarrowestFor.l0, if_neg (show ¬ ((l.length : Int) < (l.length : Int)) by omega)]
            exact Ev.now _
          · simp only [impl_NarrowestFor.l0, if_neg (show ¬ ((l.length : Int) < (l.length : Int)) by omega)]
            exact Ev.now _
        | succ d ih =>
          intro i s hd hi hs
          have inner : ∀ e (j : Nat) (b : Int), m.length - j = e → j ≤ m.length → (-1 ≤ b ∧ b < (m.length : Int)) → ∃ q : List Int × Bool, q.1.length ≤ 1048576 ∧ Ev (fun k => spec_NarrowestFor.l1 k l m s (i : Int) b (j : Int)) q ∧ Ev (fun k => impl_NarrowestFor.l1 k m s b l (l.length : Int) (i : Int) m (m.length : Int) (j : Int) (nth l i z51).f0 (nth l i z51).f1 (nth l i z51).f2 (nth l i z51).f3 (nth l i z51).f4) q := by
            intro e
            induction e with
            | zero =>
              intro j b he hj hb
              have hjm : j = m.length := by omega
              subst hjm
              by_cases hb0 : b < 0
              · refine ⟨([], false), by simp, Ev.succ ?_, Ev.succ ?_⟩
                · simp only [spec_NarrowestFor.l1, if_neg (show ¬ ((m.length : Int) < (m.length : Int)) by omega), if_pos hb0]
                  exact Ev.now _
                · simp only [impl_NarrowestFor.l1, if_neg (show ¬ ((m.length : Int) < (m.length : Int)) by omega), if_pos hb0]
                  exact Ev.now _
              · obtain ⟨q, hq, g1, g2⟩ := ih (i + 1) (s ++ [b]) (by omega) (by omega) (by simp; omega)
                refine ⟨q, hq, Ev.succ ?_, Ev.succ ?_⟩
                · simp only [spec_NarrowestFor.l1, if_neg (show ¬ ((m.length : Int) < (m.length : Int)) by omega), if_neg hb0, if_pos (show s.length < 17592186044416 by omega), stepI i (by omega)]
                  exact g1
                · simp only [impl_NarrowestFor.l1, if_neg (show ¬ ((m.length : Int) < (m.length : Int)) by omega), if_neg hb0, if_pos (show s.length < 17592186044416 by omega), stepI i (by omega)]
                  exact g2
            | succ e ihe =>
              intro j b he hj hb
              obtain ⟨q1, hq1, a1, a2⟩ := ihe (j + 1) (j : Int) (by omega) (by omega) (by omega)
              obtain ⟨q0, hq0, c1, c2⟩ := ihe (j + 1) b (by omega) (by omega) hb
              by_cases hw : nth m j 0 ≥ (nth l i z51).f1
              · by_cases hb0 : b < 0
                · refine ⟨q1, hq1, Ev.succ ?_, Ev.succ ?_⟩
                  · simp only [spec_NarrowestFor.l1, rdI, rd51, if_pos (show (j : Int) < (m.length : Int) by omega), if_pos (show (0 : Int) ≤ (j : Int) by omega), if_pos (show (0 : Int) ≤ (i : Int) by omega), if_pos (show (i : Int) < (l.length : Int) by omega), if_pos hw, if_pos hb0, stepI j (by omega)]
                    exact a1
                  · simp only [impl_NarrowestFor.l1, rdI, rd51, if_pos (show (j : Int) < (m.length : Int) by omega), if_pos (show (0 : Int) ≤ (j : Int) by omega), if_pos hw, if_pos hb0, stepI j (by omega)]
                    exact a2
                · by_cases hn : nth m j 0 < rd m b
                  · refine ⟨q1, hq1, Ev.succ ?_, Ev.succ ?_⟩
                    · simp only [spec_NarrowestFor.l1, rdI, rd51, if_pos (show (j : Int) < (m.length : Int) by omega), if_pos (show (0 : Int) ≤ (j : Int) by omega), if_pos (show (0 : Int) ≤ (i : Int) by omega), if_pos (show (i : Int) < (l.length : Int) by omega), if_pos hw, if_neg hb0, if_pos (show 0 ≤ b by omega), if_pos hb.2, if_pos hn, stepI j (by omega)]
                      exact a1
                    · simp only [impl_NarrowestFor.l1, rdI, rd51, if_pos (show (j : Int) < (m.length : Int) by omega), if_pos (show (0 : Int) ≤ (j : Int) by omega), if_pos hw, if_neg hb0, if_pos (show 0 ≤ b by omega), if_pos hb.2, if_pos hn, stepI j (by omega)]
                      exact a2
                  · refine ⟨q0, hq0, Ev.succ ?_, Ev.succ ?_⟩
                    · simp only [spec_NarrowestFor.l1, rdI, rd51, if_pos (show (j : Int) < (m.length : Int) by omega), if_pos (show (0 : Int) ≤ (j : Int) by omega), if_pos (show (0 : Int) ≤ (i : Int) by omega), if_pos (show (i : Int) < (l.length : Int) by omega), if_pos hw, if_neg hb0, if_pos (show 0 ≤ b by omega), if_pos hb.2, if_neg hn, stepI j (by omega)]
                      exact c1
                    · simp only [impl_NarrowestFor.l1, rdI, rd51, if_pos (show (j : Int) < (m.length : Int) by omega), if_pos (show (0 : Int) ≤ (j : Int) by omega), if_pos hw, if_neg hb0, if_pos (show 0 ≤ b by omega), if_pos hb.2, if_neg hn, stepI j (by omega)]
                      exact c2
              · refine ⟨q0, hq0, Ev.succ ?_, Ev.succ ?_⟩
                · simp only [spec_NarrowestFor.l1, rdI, rd51, if_pos (show (j : Int) < (m.length : Int) by omega), if_pos (show (0 : Int) ≤ (j : Int) by omega), if_pos (show (0 : Int) ≤ (i : Int) by omega), if_pos (show (i : Int) < (l.length : Int) by omega), if_neg hw, stepI j (by omega)]
                  exact c1
                · simp only [impl_NarrowestFor.l1, rdI, rd51, if_pos (show (j : Int) < (m.length : Int) by omega), if_pos (show (0 : Int) ≤ (j : Int) by omega), if_neg hw, stepI j (by omega)]
                  exact c2
          obtain ⟨q, hq, g1, g2⟩ := inner m.length 0 (-1) (by omega) (by omega) (by omega)
          refine ⟨q, hq, Ev.succ ?_, Ev.succ ?_⟩
          · simp only [spec_NarrowestFor.l0, if_pos (show (i : Int) < (l.length : Int) by omega)]
            exact g1
          · simp only [impl_NarrowestFor.l0, if_pos (show (i : Int) < (l.length : Int) by omega), if_pos (show (0 : Int) ≤ (i : Int) by omega), rd51]
            exact g2
      obtain ⟨q, hq, g1, g2⟩ := main l.length 0 [] (by omega) (by omega) (by simp)
      refine ⟨q, hq, Ev.bind (sBoth l m hl hm) ?_, Ev.bind (iJobs l hl) ?_⟩
      · simp only [hJ, hL, Bool.and_self, if_true]
        exact g1
      · simp only [hJ, hL, if_true, iLooms, Option.bind_some, Bool.not_true]
        refine Ev.succ ?_
        simp only [impl_NarrowestFor.j0, Bool.false_eq_true, if_false]
        exact g2
    · refine ⟨([], false), by simp, Ev.bind (sBoth l m hl hm) ?_, Ev.bind (iJobs l hl) ?_⟩
      · simp only [hJ, hL, Bool.and_false, Bool.false_eq_true, if_false]
        exact Ev.now _
      · simp only [hJ, hL, if_true, iLooms, Option.bind_some, Bool.not_false]
        refine Ev.succ ?_
        simp only [impl_NarrowestFor.j0, if_true]
        exact Ev.now _
  · refine ⟨([], false), by simp, Ev.bind (sBoth l m hl hm) ?_, Ev.bind (iJobs l hl) ?_⟩
    · simp only [hJ, Bool.false_and, Bool.false_eq_true, if_false]
      exact Ev.now _
    · simp only [hJ, Bool.false_eq_true, if_false]
      refine Ev.succ ?_
      simp only [impl_NarrowestFor.j0, if_true]
      exact Ev.now _
end Go.Proofs.Ytcgpibbbkdhpeaa.M

import Derived.Test.YtmhiaggpnkihcaaMB
import Derived.Test.YtmhiaggpnkihcaaSFnExactDaysToSell
namespace Go.Proofs.Ytmhiaggpnkihcaa.M
open Go.RowKit Go.Proofs.Ytmhiaggpnkihcaa.Q Go.Proofs.YtmhiaggpnkihcaaW.PrintWords Go.Proofs.YtmhiaggpnkihcaaW.PrintLast Go.Proofs.YtmhiaggpnkihcaaW.Pl Classical
set_option linter.unusedSimpArgs false
set_option linter.unusedVariables false

theorem most0 (x : Int) : spec_l1Most.f 0 x = some (if x > 0 then x else 0) := by
  unfold spec_l1Most.f
  by_cases h : x > 0 <;> by_cases h2 : (0 : Int) > x <;> simp [h, h2] <;> omega
/-- The days till a carpet is dry. -/
def leftC (day e : Int) : Int := if e + 3 - day > 0 then e + 3 - day else 0
/-- The least number of days so far, with one more carpet. -/
def nextD (day : Int) (x : S50) (s : Int) : Int := if x.f2 = 3 then (if day + leftC day x.f4 ≤ 4000 then (if s < 0 then leftC day x.f4 else if leftC day x.f4 < s then leftC day x.f4 else s) else s) else s
theorem daysBoth (day looms m : Int) (l : List S50) : ∃ q, Ev (fun k => spec_DaysToSell.f k day looms l m) q ∧ Ev (fun k => impl_DaysToSell.f k day looms l m) q := by
  unfold spec_DaysToSell.f impl_DaysToSell.f
  by_cases hg : goodS day looms l m = true
  · obtain ⟨hday, hl, hok⟩ := good_at hg
    have main : ∀ d (i : Nat) (s : Int), l.length - i = d → i ≤ l.length → ∃ q, Ev (fun k => spec_DaysToSell.l0 k s (i : Int) day looms l m) q ∧ Ev (fun k => impl_DaysToSell.l0 k s l (l.length : Int) (i : Int) day looms l m) q := by
      intro d
      induction d with
      | zero =>
        intro i s hd hi
        have hil : i = l.length := by omega
        subst hil
        by_cases hs : s < 0
        · refine ⟨(0, false), Ev.succ ?_, Ev.succ ?_⟩
          · simp only [spec_DaysToSell.l0, if_neg (show ¬ ((l.length : Int) < (l.length : Int)) by omega), if_pos hs]
            exact Ev.now _
          · simp only [impl_DaysToSell.l0, if_neg (show ¬ ((l.length : Int) < (l.length : Int)) by omega)]
            rw [show mx s 0 = 0 by unfold mx; omega, decide_eq_false (show ¬ s ≥ 0 by omega)]
            exact Ev.now _
        · refine ⟨(s, true), Ev.succ ?_, Ev.succ ?_⟩
          · simp only [spec_DaysToSell.l0, if_neg (show ¬ ((l.length : Int) < (l.length : Int)) by omega), if_neg hs]
            exact Ev.now _
          · simp only [impl_DaysToSell.l0, if_neg (show ¬ ((l.length : Int) < (l.length : Int)) by omega)]
            rw [show mx s 0 = s by unfold mx; omega, decide_eq_true (show s ≥ 0 by omega)]
            exact Ev.now _
      | succ d ih =>
        intro i s hd hi
        obtain ⟨_, _, _, hE⟩ := okC_b (hok i (by omega))
        obtain ⟨q, h1, h2⟩ := ih (i + 1) (nextD day (nth l i z50) s) (by omega) (by omega)
        have hL : 0 ≤ leftC day (nth l i z50).f4 ∧ leftC day (nth l i z50).f4 ≤ 3 := by unfold leftC; split <;> omega
        have hM : mx ((nth l i z50).f4 + 3) day = day + leftC day (nth l i z50).f4 := by unfold mx leftC; split <;> omega
        refine ⟨q, Ev.succ ?_, Ev.succ ?_⟩
        · simp only [spec_DaysToSell.l0, if_pos (show (i : Int) < (l.length : Int) by omega), if_pos (show (0 : Int) ≤ (i : Int) by omega), rd50, (show wrap64 ((i : Int) + 1) = ((i + 1 : Nat) : Int) by rw [w64 (by omega)]; omega), w64 (x := (nth l i z50).f4 + 3) (by omega), w64 (x := (nth l i z50).f4 + 3 - day) (by omega), most0, Option.bind_some]
          rw [show (if (nth l i z50).f4 + 3 - day > 0 then (nth l i z50).f4 + 3 - day else 0) = leftC day (nth l i z50).f4 from rfl, w64 (x := day + leftC day (nth l i z50).f4) (by omega)]
          unfold nextD at h1
          by_cases c1 : (nth l i z50).f2 = 3
          · simp only [if_pos c1] at h1 ⊢
            by_cases c2 : day + leftC day (nth l i z50).f4 ≤ 4000
            · simp only [if_pos c2] at h1 ⊢
              by_cases c3 : s < 0
              · simp only [if_pos c3] at h1 ⊢; exact h1
              · simp only [if_neg c3] at h1 ⊢
                by_cases c4 : leftC day (nth l i z50).f4 < s
                · simp only [if_pos c4] at h1 ⊢; exact h1
                · simp only [if_neg c4] at h1 ⊢; exact h1
            · simp only [if_neg c2] at h1 ⊢; exact h1
          · simp only [if_neg c1] at h1 ⊢; exact h1
        · simp only [impl_DaysToSell.l0, if_pos (show (i : Int) < (l.length : Int) by omega), if_pos (show (0 : Int) ≤ (i : Int) by omega), rd50, (show wrap64 ((i : Int) + 1) = ((i + 1 : Nat) : Int) by rw [w64 (by omega)]; omega), w64 (x := (nth l i z50).f4 + 3) (by omega), hM, impl_isDay.f, iIn, Option.bind_some, w64 (x := day + leftC day (nth l i z50).f4 - day) (by omega)]
          rw [show day + leftC day (nth l i z50).f4 - day = leftC day (nth l i z50).f4 by omega]
          unfold nextD at h2
          by_cases c1 : (nth l i z50).f2 = 3
          · simp only [if_pos c1] at h2 ⊢
            by_cases c2 : day + leftC day (nth l i z50).f4 ≤ 4000
            · simp only [if_pos c2, decide_eq_true (show 0 ≤ day + leftC day (nth l i z50).f4 ∧ day + leftC day (nth l i z50).f4 ≤ 4000 by omega), if_true] at h2 ⊢
              by_cases c3 : s < 0
              · simp only [if_pos c3] at h2 ⊢; exact h2
              · simp only [if_neg c3] at h2 ⊢
                by_cases c4 : leftC day (nth l i z50).f4 < s
                · simp only [if_pos c4] at h2 ⊢; exact h2
                · simp only [if_neg c4] at h2 ⊢; exact h2
            · simp only [if_neg c2, decide_eq_false (show ¬ (0 ≤ day + leftC day (nth l i z50).f4 ∧ day + leftC day (nth l i z50).f4 ≤ 4000) by omega), Bool.false_eq_true, if_false] at h2 ⊢; exact h2
          · simp only [if_neg c1] at h2 ⊢; exact h2
    obtain ⟨q, h1, h2⟩ := main l.length 0 (-1) rfl (by omega)
    refine ⟨q, Ev.bind (sGood day looms m l) ?_, Ev.bind (iGood day looms m l) ?_⟩
    · simp only [hg, if_true]; exact h1
    · simp only [hg, if_true]; exact h2
  · refine ⟨(0, false), Ev.bind (sGood day looms m l) ?_, Ev.bind (iGood day looms m l) ?_⟩
    · simp only [hg, if_false, Bool.false_eq_true]; exact Ev.now _
    · simp only [hg, if_false, Bool.false_eq_true]; exact Ev.now _
end Go.Proofs.Ytmhiaggpnkihcaa.M

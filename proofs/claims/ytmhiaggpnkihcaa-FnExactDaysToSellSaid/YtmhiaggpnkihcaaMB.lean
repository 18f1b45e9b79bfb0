import Derived.Test.YtmhiaggpnkihcaaMA
import Derived.Test.YtmhiaggpnkihcaaSFnExactRowsLeft
namespace Go.Proofs.Ytmhiaggpnkihcaa.M
open Go.RowKit Go.Proofs.Ytmhiaggpnkihcaa.Q Go.Proofs.YtmhiaggpnkihcaaW.PrintWords Go.Proofs.YtmhiaggpnkihcaaW.PrintLast Go.Proofs.YtmhiaggpnkihcaaW.Pl Classical
set_option linter.unusedSimpArgs false
set_option linter.unusedVariables false

theorem good_at {day looms m : Int} {l : List S50} (h : goodS day looms l m = true) : (0 ≤ day ∧ day ≤ 4000) ∧ l.length ≤ 8 ∧ ∀ i, i < l.length → okC day looms (nth l i z50).f0 (nth l i z50).f1 (nth l i z50).f2 (nth l i z50).f3 (nth l i z50).f4 = true := by
  unfold goodS at h
  rw [Bool.and_eq_true, range_all] at h
  have h1 := of_decide_eq_true h.1
  refine ⟨h1.1, h1.2.2.2, fun i hi => ?_⟩
  have := h.2 i hi
  unfold okAt at this
  rw [Bool.and_eq_true] at this
  exact this.1
theorem okC_b {day looms a b c d e : Int} (h : okC day looms a b c d e = true) : (1 ≤ a ∧ a ≤ 500) ∧ (0 ≤ b ∧ b ≤ a) ∧ (0 ≤ c ∧ c ≤ 4) ∧ (0 ≤ e ∧ e ≤ day) := by
  unfold okC at h
  have := of_decide_eq_true h
  exact ⟨this.1, this.2.1, this.2.2.1, this.2.2.2.1⟩
theorem rowsBoth (day looms m : Int) (l : List S50) : ∃ q, Ev (fun k => spec_RowsLeft.f k day looms l m) q ∧ Ev (fun k => impl_RowsLeft.f k day looms l m) q := by
  unfold spec_RowsLeft.f impl_RowsLeft.f
  by_cases hg : goodS day looms l m = true
  · obtain ⟨_, hl, hok⟩ := good_at hg
    have main : ∀ d (i : Nat) (s : Int), l.length - i = d → i ≤ l.length → (0 ≤ s ∧ s ≤ 500 * (i : Int)) → ∃ q, Ev (fun k => spec_RowsLeft.l0 k s (i : Int) day looms l m) q ∧ Ev (fun k => impl_RowsLeft.l0 k s l (l.length : Int) (i : Int)) q := by
      intro d
      induction d with
      | zero =>
        intro i s hd hi hb
        have hil : i = l.length := by omega
        subst hil
        refine ⟨(s, true), Ev.succ ?_, Ev.succ ?_⟩
        · simp only [spec_RowsLeft.l0, if_neg (show ¬ ((l.length : Int) < (l.length : Int)) by omega)]
          exact Ev.now _
        · simp only [impl_RowsLeft.l0, if_neg (show ¬ ((l.length : Int) < (l.length : Int)) by omega)]
          exact Ev.now _
      | succ d ih =>
        intro i s hd hi hb
        obtain ⟨hA, hB, _, _⟩ := okC_b (hok i (by omega))
        obtain ⟨q, h1, h2⟩ := ih (i + 1) (s + (nth l i z50).f0 - (nth l i z50).f1) (by omega) (by omega) (by omega)
        refine ⟨q, Ev.succ ?_, Ev.succ ?_⟩
        · simp only [spec_RowsLeft.l0, if_pos (show (i : Int) < (l.length : Int) by omega), if_pos (show (0 : Int) ≤ (i : Int) by omega), rd50, (show wrap64 ((i : Int) + 1) = ((i + 1 : Nat) : Int) by rw [w64 (by omega)]; omega), w64 (x := s + (nth l i z50).f0) (by omega), w64 (x := s + (nth l i z50).f0 - (nth l i z50).f1) (by omega)]
          exact h1
        · simp only [impl_RowsLeft.l0, if_pos (show (i : Int) < (l.length : Int) by omega), if_pos (show (0 : Int) ≤ (i : Int) by omega), rd50, (show wrap64 ((i : Int) + 1) = ((i + 1 : Nat) : Int) by rw [w64 (by omega)]; omega), w64 (x := (nth l i z50).f0 - (nth l i z50).f1) (by omega), w64 (x := s + ((nth l i z50).f0 - (nth l i z50).f1)) (by omega)]
          rw [show s + ((nth l i z50).f0 - (nth l i z50).f1) = s + (nth l i z50).f0 - (nth l i z50).f1 by omega]
          exact h2
    obtain ⟨q, h1, h2⟩ := main l.length 0 0 rfl (by omega) (by omega)
    refine ⟨q, Ev.bind (sGood day looms m l) ?_, Ev.bind (iGood day looms m l) ?_⟩
    · simp only [hg, if_true]; exact h1
    · simp only [hg, if_true]; exact h2
  · refine ⟨(0, false), Ev.bind (sGood day looms m l) ?_, Ev.bind (iGood day looms m l) ?_⟩
    · simp only [hg, if_false, Bool.false_eq_true]; exact Ev.now _
    · simp only [hg, if_false, Bool.false_eq_true]; exact Ev.now _
end Go.Proofs.Ytmhiaggpnkihcaa.M

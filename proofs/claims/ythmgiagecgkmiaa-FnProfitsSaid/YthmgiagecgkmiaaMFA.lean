import Derived.Test.YthmgiagecgkmiaaPl
import Derived.Test.YthmgiagecgkmiaaQx1000039
import Derived.Test.YthmgiagecgkmiaaQx1000040
import Derived.Test.YthmgiagecgkmiaaQx12
import Derived.Test.YthmgiagecgkmiaaQx16
import Derived.Test.YthmgiagecgkmiaaQx36
import Derived.Test.YthmgiagecgkmiaaQx38
import Derived.Test.YthmgiagecgkmiaaQx8888801
namespace Go.Proofs.Ythmgiagecgkmiaa.M
open Go.RowKit Go.Proofs.Ythmgiagecgkmiaa.Q Go.Proofs.YthmgiagecgkmiaaW.PrintWords Go.Proofs.YthmgiagecgkmiaaW.PrintLast Go.Proofs.YthmgiagecgkmiaaW.Pl Classical

set_option linter.unusedSimpArgs false
theorem l1In (a b c : Int) : spec_l1In.f a b c = some (decide (b ≤ a ∧ a ≤ c)) := by
  unfold spec_l1In.f
  by_cases h : b ≤ a <;> by_cases h2 : a ≤ c <;> simp [h, h2]
theorem iIn (a b c : Int) : impl_in.f a b c = some (decide (b ≤ a ∧ a ≤ c)) := by
  unfold impl_in.f
  by_cases h : b ≤ a <;> by_cases h2 : a ≤ c <;> simp [h, h2]
/-- A valid row. -/
def okM (m c n h i s : Int) : Bool := decide ((1 ≤ m ∧ m ≤ 1200) ∧ (0 ≤ c ∧ c ≤ 99) ∧ (0 ≤ n ∧ n ≤ 9000000) ∧ (0 ≤ h ∧ h ≤ 9999) ∧ (n = 0 ∨ 0 < h) ∧ (0 ≤ i ∧ i ≤ 100000000) ∧ (0 ≤ s ∧ s ≤ 100000000))
theorem l26One (k : Nat) (m c n h i s : Int) : spec_l26One.f (k + 1) m c n h i s = some (okM m c n h i s) := by
  unfold spec_l26One.f okM
  simp only [l1In, Option.bind_some, spec_l26One.j0]
  repeat' split
  all_goals (simp_all <;> omega)
theorem l26E (m c n h i s : Int) : Ev (fun k => spec_l26One.f k m c n h i s) (okM m c n h i s) := Ev.succ ⟨0, fun k _ => l26One k m c n h i s⟩
theorem iRow (m c n h i s : Int) : impl_IsMonthRow.f m c n h i s = some (okM m c n h i s) := by
  unfold impl_IsMonthRow.f okM
  simp only [iIn, Option.bind_some]
  repeat' split
  all_goals (simp_all <;> omega)
theorem rd25 (l : List S25) (i : Nat) : rd_T25 l (i : Int) = nth l i z25 := by unfold rd_T25 nth; simp
def okR (x : S25) : Bool := okM x.f0 x.f1 x.f2 x.f3 x.f4 x.f5
/-- Valid rows, in order. -/
def goodM (l : List S25) : Bool := decide (l.length ≤ 12) && (List.range l.length).all fun i => okR (nth l i z25) && (decide (i = 0) || decide ((nth l (i - 1) z25).f0 < (nth l i z25).f0))
theorem sGood (l : List S25) (hm : l.length ≤ 1048576) : Ev (fun k => spec_l26Good.f k l) (goodM l) := by
  unfold spec_l26Good.f
  have h := scanE l.length (fun i => okR (nth l i z25) && (decide (i = 0) || decide ((nth l (i - 1) z25).f0 < (nth l i z25).f0))) (decide (l.length ≤ 12)) false (fun k i => spec_l26Good.l0 k l i) ?hs ?hb ?he
  case hs =>
    intro i r hi ho hr
    refine Ev.succ ?_
    simp only [spec_l26Good.l0, rd25]
    simp only [if_pos (show (i : Int) < (l.length : Int) by omega), if_pos (show (0 : Int) ≤ (i : Int) by omega)]
    refine Ev.bind (l26E _ _ _ _ _ _) ?_
    simp only [Bool.and_eq_true, Bool.or_eq_true, decide_eq_true_iff] at ho
    simp only [show okM _ _ _ _ _ _ = true from ho.1, if_true, w64 (x := (i : Int) + 1) (by omega)]
    by_cases h0 : i = 0
    · subst h0
      simp only [if_neg (show ¬ (((0 : Nat) : Int) > 0) by omega)]
      exact hr
    · simp only [if_pos (show (i : Int) > 0 by omega), (show wrap64 ((i : Int) - 1) = ((i - 1 : Nat) : Int) by rw [w64 (by omega)]; omega), if_pos (show (0 : Int) ≤ ((i - 1 : Nat) : Int) by omega), if_pos (show ((i - 1 : Nat) : Int) < (l.length : Int) by omega), rd25]
      simp only [if_neg (show ¬ ((nth l (i - 1) z25).f0 ≥ (nth l i z25).f0) by omega)]
      exact hr
  case hb =>
    intro i hi ho
    refine Ev.succ ?_
    simp only [spec_l26Good.l0, rd25]
    simp only [if_pos (show (i : Int) < (l.length : Int) by omega), if_pos (show (0 : Int) ≤ (i : Int) by omega)]
    refine Ev.bind (l26E _ _ _ _ _ _) ?_
    by_cases h1 : okR (nth l i z25) = true
    · have h1' : okM (nth l i z25).f0 (nth l i z25).f1 (nth l i z25).f2 (nth l i z25).f3 (nth l i z25).f4 (nth l i z25).f5 = true := h1
      rw [h1, Bool.true_and, Bool.or_eq_false_iff, decide_eq_false_iff_not, decide_eq_false_iff_not] at ho
      simp only [h1', if_true, if_pos (show (i : Int) > 0 by omega), (show wrap64 ((i : Int) - 1) = ((i - 1 : Nat) : Int) by rw [w64 (by omega)]; omega), if_pos (show (0 : Int) ≤ ((i - 1 : Nat) : Int) by omega), if_pos (show ((i - 1 : Nat) : Int) < (l.length : Int) by omega), rd25]
      simp only [if_pos (show (nth l (i - 1) z25).f0 ≥ (nth l i z25).f0 by omega)]
      exact Ev.now _
    · have h1' : ¬ (okM (nth l i z25).f0 (nth l i z25).f1 (nth l i z25).f2 (nth l i z25).f3 (nth l i z25).f4 (nth l i z25).f5 = true) := h1
      simp only [if_neg h1']
      exact Ev.now _
  case he =>
    refine Ev.succ ?_
    simp only [spec_l26Good.l0, if_neg (show ¬ ((l.length : Int) < (l.length : Int)) by omega)]
    refine Ev.c ?_
    congr 1
    by_cases h : l.length ≤ 12
    · rw [decide_eq_true h, decide_eq_true (by omega)]
    · rw [decide_eq_false h, decide_eq_false (by omega)]
  have e : (if ((List.range l.length).all fun i => okR (nth l i z25) && (decide (i = 0) || decide ((nth l (i - 1) z25).f0 < (nth l i z25).f0))) = true then decide (l.length ≤ 12) else false) = goodM l := by
    unfold goodM
    generalize (List.range l.length).all _ = b
    cases b <;> simp
  rw [e] at h
  exact h
theorem iAsc (l : List S25) (hm : l.length ≤ 1048576) : Ev (fun k => impl_MonthRow_40__impl_AreMonthRows_1.f k l) ((List.range l.length).all fun i => decide (i = 0) || decide ((nth l (i - 1) z25).f0 < (nth l i z25).f0)) := by
  unfold impl_MonthRow_40__impl_AreMonthRows_1.f
  have main : ∀ d (i : Nat), l.length + 1 - i = d → 1 ≤ i → i ≤ l.length + 1 → Ev (fun k => impl_MonthRow_40__impl_AreMonthRows_1.l0 k l (i : Int)) (decide (∀ j, i ≤ j → j < l.length → (nth l (j - 1) z25).f0 < (nth l j z25).f0)) := by
    intro d
    induction d with
    | zero =>
      intro i hd h1 hi
      refine Ev.succ ?_
      simp only [impl_MonthRow_40__impl_AreMonthRows_1.l0, if_neg (show ¬ ((i : Int) < (l.length : Int)) by omega)]
      rw [decide_eq_true (fun j h2 h3 => by omega)]
      exact Ev.now _
    | succ d ih =>
      intro i hd h1 hi
      refine Ev.succ ?_
      by_cases hlt : i < l.length
      · simp only [impl_MonthRow_40__impl_AreMonthRows_1.l0, impl_AreMonthRows_1.f, if_pos (show (i : Int) < (l.length : Int) by omega), (show wrap64 ((i : Int) - 1) = ((i - 1 : Nat) : Int) by rw [w64 (by omega)]; omega), if_pos (show (0 : Int) ≤ ((i - 1 : Nat) : Int) by omega), if_pos (show ((i - 1 : Nat) : Int) < (l.length : Int) by omega), rd25, Option.bind_some, if_pos (show (0 : Int) ≤ (i : Int) by omega), w64 (x := (i : Int) + 1) (by omega)]
        by_cases hle : (nth l (i - 1) z25).f0 < (nth l i z25).f0
        · simp only [if_neg (show ¬ ((nth l (i - 1) z25).f0 ≥ (nth l i z25).f0) by omega)]
          have := ih (i + 1) (by omega) (by omega) (by omega)
          rw [show (decide (∀ j, i ≤ j → j < l.length → (nth l (j - 1) z25).f0 < (nth l j z25).f0)) = decide (∀ j, i + 1 ≤ j → j < l.length → (nth l (j - 1) z25).f0 < (nth l j z25).f0) from by
            rw [decide_eq_decide]
            exact ⟨fun h j h2 h3 => h j (by omega) h3, fun h j h2 h3 => by
              by_cases e : j = i
              · subst e; exact hle
              · exact h j (by omega) h3⟩]
          exact this
        · simp only [if_pos (show (nth l (i - 1) z25).f0 ≥ (nth l i z25).f0 by omega)]
          rw [decide_eq_false (fun h => hle (h i (by omega) hlt))]
          exact Ev.now _
      · simp only [impl_MonthRow_40__impl_AreMonthRows_1.l0, if_neg (show ¬ ((i : Int) < (l.length : Int)) by omega)]
        rw [decide_eq_true (fun j h2 h3 => by omega)]
        exact Ev.now _
  have h := main l.length 1 (by omega) (by omega) (by omega)
  rw [show ((List.range l.length).all fun i => decide (i = 0) || decide ((nth l (i - 1) z25).f0 < (nth l i z25).f0)) = decide (∀ j, 1 ≤ j → j < l.length → (nth l (j - 1) z25).f0 < (nth l j z25).f0) from by
    rw [Bool.eq_iff_iff, range_all, decide_eq_true_iff]
    constructor
    · intro h j h1 h2
      have := h j h2
      simp only [Bool.or_eq_true, decide_eq_true_iff] at this
      omega
    · intro h j h2
      by_cases h0 : j = 0
      · simp [h0]
      · simp [h j (by omega) h2]]
  exact h
theorem iGood (l : List S25) (hm : l.length ≤ 1048576) : Ev (fun k => impl_AreMonthRows.f k l) (goodM l) := by
  unfold impl_AreMonthRows.f impl_MonthRow_39__impl_IsMonthRow.f
  rw [all_total (p := okR) (fun x _ => iRow _ _ _ _ _ _)]
  unfold goodM
  by_cases hl : l.length ≤ 12
  · simp only [if_pos (show (l.length : Int) ≤ 12 by omega), Option.bind_some, decide_eq_true hl, Bool.true_and]
    by_cases ha : l.all okR = true
    · simp only [if_pos ha]
      have hb := iAsc l hm
      have e : ((List.range l.length).all fun i => okR (nth l i z25) && (decide (i = 0) || decide ((nth l (i - 1) z25).f0 < (nth l i z25).f0))) = ((List.range l.length).all fun i => decide (i = 0) || decide ((nth l (i - 1) z25).f0 < (nth l i z25).f0)) := by
        rw [Bool.eq_iff_iff, range_all, range_all]
        rw [all_iff_nth z25] at ha
        constructor
        · intro h i hi
          have := h i hi
          rwa [ha i hi, Bool.true_and] at this
        · intro h i hi
          rw [ha i hi, Bool.true_and]; exact h i hi
      rw [e]
      exact Ev.bind hb (Ev.now _)
    · simp only [if_neg ha]
      have e : ((List.range l.length).all fun i => okR (nth l i z25) && (decide (i = 0) || decide ((nth l (i - 1) z25).f0 < (nth l i z25).f0))) = false := by
        rw [Bool.eq_false_iff]
        intro h
        rw [range_all] at h
        apply ha
        rw [all_iff_nth z25]
        intro i hi
        have := h i hi
        rw [Bool.and_eq_true] at this
        exact this.1
      rw [e]
      exact Ev.now _
  · simp only [if_neg (show ¬ ((l.length : Int) ≤ 12) by omega), decide_eq_false hl, Bool.false_and]
    exact Ev.now _
end Go.Proofs.Ythmgiagecgkmiaa.M

import Derived.Test.YthmgiagecgkmiaaMFA
import Derived.Test.YthmgiagecgkmiaaQx28
import Derived.Test.YthmgiagecgkmiaaQx29
import Derived.Test.YthmgiagecgkmiaaQx8888801
namespace Go.Proofs.Ythmgiagecgkmiaa.M
open Go.RowKit Go.Proofs.Ythmgiagecgkmiaa.Q Go.Proofs.YthmgiagecgkmiaaW.PrintWords Go.Proofs.YthmgiagecgkmiaaW.PrintLast Go.Proofs.YthmgiagecgkmiaaW.Pl Classical
set_option linter.unusedSimpArgs false

theorem prof (m c n h i s : Int) : spec_l26Profit.f m c n h i s = some (wrap64 (i - s)) := rfl
theorem profI (m c n h i s : Int) : impl_MonthRow_profit.f m c n h i s = some (wrap64 (i - s)) := rfl
/-- The profit of the row at a place. -/
def pr (l : List S25) (i : Nat) : Int := wrap64 ((nth l i z25).f4 - (nth l i z25).f5)
theorem mxE (a b : Int) : mx a b = if b > a then b else a := by unfold mx; first | rfl | (split <;> first | rfl | omega)
/-- The best profit over the places below one, and the months that have it. -/
def bestTo (l : List S25) (n : Nat) : Int := (List.range n).foldl (fun s i => if pr l i > s then pr l i else s) (pr l 0)
def monthsOf (l : List S25) (b : Int) (n : Nat) : List Int := (List.range n).foldl (fun s i => if pr l i = b then s ++ [(nth l i z25).f0] else s) []
theorem bestTo_succ (l : List S25) (n : Nat) : bestTo l (n + 1) = if pr l n > bestTo l n then pr l n else bestTo l n := by
  unfold bestTo; rw [List.range_succ, List.foldl_append]; rfl
theorem monthsOf_succ (l : List S25) (b : Int) (n : Nat) : monthsOf l b (n + 1) = if pr l n = b then monthsOf l b n ++ [(nth l n z25).f0] else monthsOf l b n := by
  unfold monthsOf; rw [List.range_succ, List.foldl_append]; rfl
theorem bestTo_ge (l : List S25) (n : Nat) : ∀ i, i < n → pr l i ≤ bestTo l n := by
  induction n with
  | zero => intro i h; omega
  | succ n ih =>
    intro i h
    rw [bestTo_succ]
    by_cases e : i = n
    · subst e; split <;> omega
    · have := ih i (by omega); split <;> omega
theorem monthsOf_len (l : List S25) (b : Int) (n : Nat) : (monthsOf l b n).length ≤ n := by
  induction n with
  | zero => simp [monthsOf]
  | succ n ih => rw [monthsOf_succ]; split <;> (try rw [List.length_append, List.length_singleton]) <;> omega
theorem monthsOf_none (l : List S25) (b : Int) (n : Nat) (h : ∀ i, i < n → pr l i ≠ b) : monthsOf l b n = [] := by
  induction n with
  | zero => rfl
  | succ n ih => rw [monthsOf_succ, if_neg (h n (by omega)), ih (fun i hi => h i (by omega))]
def bestF (l : List S25) (i : Nat) (s : Int × List Int) : Int × List Int := if pr l i > s.1 then (pr l i, [(nth l i z25).f0]) else if pr l i = s.1 then (s.1, s.2 ++ [(nth l i z25).f0]) else s
theorem bestF_run (l : List S25) (n : Nat) : (List.range n).foldl (fun s i => bestF l i s) (pr l 0, []) = (bestTo l n, monthsOf l (bestTo l n) n) := by
  induction n with
  | zero => simp [bestTo, monthsOf]
  | succ n ih =>
    rw [List.range_succ, List.foldl_append, ih, List.foldl_cons, List.foldl_nil, bestF, bestTo_succ]
    by_cases h : pr l n > bestTo l n
    · simp only [if_pos h, monthsOf_succ, if_true]
      rw [monthsOf_none l (pr l n) n (fun i hi => by have := bestTo_ge l n i hi; omega)]
      rfl
    · simp only [if_neg h, monthsOf_succ]
      split <;> rfl
def bestRes (l : List S25) : List Int × Int × Bool := if goodM l = true ∧ l.length ≠ 0 then (monthsOf l (bestTo l l.length) l.length, bestTo l l.length, true) else ([], 0, false)
theorem sBestRun (l : List S25) (hm : l.length ≤ 1048576) : Ev (fun k => spec_BestMonths.l0 k l [] (pr l 0) 0) (monthsOf l (bestTo l l.length) l.length, bestTo l l.length, true) := by
  have h := foldI (σ := Int × List Int) l.length (fun i s => s.2.length ≤ i) (bestF l) (fun k s i => spec_BestMonths.l0 k l s.2 s.1 i) (fun s => (s.2, s.1, true)) ?hi ?hs ?he (pr l 0, []) (by simp)
  case hi =>
    intro i s hi hI
    unfold bestF
    split
    · show (1 : Nat) ≤ i + 1; omega
    · split
      · show (s.2 ++ [(nth l i z25).f0]).length ≤ i + 1; rw [List.length_append, List.length_singleton]; omega
      · omega
  case hs =>
    intro i s q hi hI hq
    refine Ev.succ ?_
    simp only [spec_BestMonths.l0, if_pos (show (i : Int) < (l.length : Int) by omega), if_pos (show (0 : Int) ≤ (i : Int) by omega), rd25, prof, Option.bind_some, if_pos (show s.2.length < 17592186044416 by omega), (show wrap64 ((i : Int) + 1) = ((i + 1 : Nat) : Int) by rw [w64 (by omega)]; omega)]
    unfold bestF pr at hq
    by_cases h1 : wrap64 ((nth l i z25).f4 - (nth l i z25).f5) > s.1
    · simp only [if_pos h1] at hq ⊢
      simpa using hq
    · by_cases h2 : wrap64 ((nth l i z25).f4 - (nth l i z25).f5) = s.1
      · simp only [if_neg h1, if_pos h2] at hq ⊢
        exact hq
      · simp only [if_neg h1, if_neg h2] at hq ⊢
        exact hq
  case he =>
    intro s _
    refine Ev.succ ?_
    simp only [spec_BestMonths.l0, if_neg (show ¬ ((l.length : Int) < (l.length : Int)) by omega)]
    exact Ev.now _
  have h1 := h.1
  rw [bestF_run] at h1
  exact h1
theorem iMonths (l : List S25) (hm : l.length ≤ 1048576) (b : Int) : Ev (fun k => impl_BestMonths.l1 k b [] l (l.length : Int) 0) (monthsOf l b l.length, b, true) := by
  have h := foldI (σ := List Int) l.length (fun i s => s.length ≤ i) (fun i s => if pr l i = b then s ++ [(nth l i z25).f0] else s) (fun k s i => impl_BestMonths.l1 k b s l (l.length : Int) i) (fun s => (s, b, true)) ?hi ?hs ?he [] (by simp)
  case hi =>
    intro i s hi hI
    split <;> (try rw [List.length_append, List.length_singleton]) <;> omega
  case hs =>
    intro i s q hi hI hq
    refine Ev.succ ?_
    simp only [impl_BestMonths.l1, if_pos (show (i : Int) < (l.length : Int) by omega), if_pos (show (0 : Int) ≤ (i : Int) by omega), rd25, profI, Option.bind_some, if_pos (show s.length < 17592186044416 by omega), (show wrap64 ((i : Int) + 1) = ((i + 1 : Nat) : Int) by rw [w64 (by omega)]; omega)]
    unfold pr at hq
    by_cases h2 : wrap64 ((nth l i z25).f4 - (nth l i z25).f5) = b
    · simp only [if_pos h2] at hq ⊢
      exact hq
    · simp only [if_neg h2] at hq ⊢
      exact hq
  case he =>
    intro s _
    refine Ev.succ ?_
    simp only [impl_BestMonths.l1, if_neg (show ¬ ((l.length : Int) < (l.length : Int)) by omega)]
    exact Ev.now _
  exact h.1
theorem iBestRun (l : List S25) (hm : l.length ≤ 1048576) : Ev (fun k => impl_BestMonths.l0 k l (pr l 0) [] l (l.length : Int) 0) (monthsOf l (bestTo l l.length) l.length, bestTo l l.length, true) := by
  have main : ∀ d (i : Nat), l.length - i = d → i ≤ l.length → Ev (fun k => impl_BestMonths.l0 k l (bestTo l i) [] l (l.length : Int) (i : Int)) (monthsOf l (bestTo l l.length) l.length, bestTo l l.length, true) := by
    intro d
    induction d with
    | zero =>
      intro i hd hi
      have hil : i = l.length := by omega
      subst hil
      refine Ev.succ ?_
      simp only [impl_BestMonths.l0, if_neg (show ¬ ((l.length : Int) < (l.length : Int)) by omega)]
      exact iMonths l hm _
    | succ d ih =>
      intro i hd hi
      have := ih (i + 1) (by omega) (by omega)
      rw [bestTo_succ] at this
      refine Ev.succ ?_
      simp only [impl_BestMonths.l0, if_pos (show (i : Int) < (l.length : Int) by omega), if_pos (show (0 : Int) ≤ (i : Int) by omega), rd25, profI, Option.bind_some, mxE, (show wrap64 ((i : Int) + 1) = ((i + 1 : Nat) : Int) by rw [w64 (by omega)]; omega)]
      exact this
  exact main l.length 0 (by omega) (by omega)
theorem sBest (l : List S25) (hm : l.length ≤ 1048576) : Ev (fun k => spec_BestMonths.f k l) (bestRes l) := by
  unfold spec_BestMonths.f bestRes
  refine Ev.bind (sGood l hm) ?_
  by_cases hg : goodM l = true
  · by_cases hc : l.length = 0
    · simp only [hg, hc, ne_eq, not_true, and_false, if_false, if_true]
      refine Ev.succ ?_
      simp only [spec_BestMonths.j0]
      exact Ev.now _
    · simp only [hg, hc, ne_eq, not_false_iff, and_self, if_true]
      rw [show (((l.length : Int) == 0) : Bool) = false by rw [beq_eq_false_iff_ne]; omega]
      refine Ev.succ ?_
      simp only [spec_BestMonths.j0, Bool.false_eq_true, if_false, if_pos (show (0 : Int) < (l.length : Int) by omega), show rd_T25 l 0 = nth l 0 z25 from rd25 l 0, prof, Option.bind_some]
      exact sBestRun l hm
  · simp only [hg, false_and, if_false, Bool.false_eq_true]
    refine Ev.succ ?_
    simp only [spec_BestMonths.j0, if_true]
    exact Ev.now _
theorem iBest (l : List S25) (hm : l.length ≤ 1048576) : Ev (fun k => impl_BestMonths.f k l) (bestRes l) := by
  unfold impl_BestMonths.f bestRes
  refine Ev.bind (iGood l hm) ?_
  by_cases hg : goodM l = true
  · by_cases hc : l.length = 0
    · simp only [hg, hc, ne_eq, not_true, and_false, if_false, if_true]
      refine Ev.succ ?_
      simp only [impl_BestMonths.j0]
      exact Ev.now _
    · simp only [hg, hc, ne_eq, not_false_iff, and_self, if_true]
      rw [show (((l.length : Int) == 0) : Bool) = false by rw [beq_eq_false_iff_ne]; omega]
      refine Ev.succ ?_
      simp only [impl_BestMonths.j0, Bool.false_eq_true, if_false, if_pos (show (0 : Int) < (l.length : Int) by omega), show rd_T25 l 0 = nth l 0 z25 from rd25 l 0, profI, Option.bind_some]
      exact iBestRun l hm
  · simp only [hg, false_and, if_false, Bool.false_eq_true]
    refine Ev.succ ?_
    simp only [impl_BestMonths.j0, if_true]
    exact Ev.now _
theorem bestRes_len (l : List S25) (hm : l.length ≤ 1048576) : (bestRes l).1.length ≤ 1048576 := by
  unfold bestRes
  split
  · have := monthsOf_len l (bestTo l l.length) l.length
    show (monthsOf l (bestTo l l.length) l.length).length ≤ _; omega
  · simp
end Go.Proofs.Ythmgiagecgkmiaa.M

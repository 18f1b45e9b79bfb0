import Derived.Test.YthmgiagecgkmiaaMA
import Derived.Test.YthmgiagecgkmiaaMI
namespace Go.Proofs.Ythmgiagecgkmiaa.M
open Go.RowKit Go.Proofs.Ythmgiagecgkmiaa.Q Go.Proofs.YthmgiagecgkmiaaW.PrintWords Go.Proofs.YthmgiagecgkmiaaW.PrintLast Go.Proofs.YthmgiagecgkmiaaW.Pl Classical
set_option linter.unusedSimpArgs false

theorem bindLen {α γ : Type} {n : Nat} (a : List α) (F : List α → Nat → Option γ) (G : List α → Nat → Option γ) (h : a.length = n) (hF : ∀ a' : List α, a'.length = n → ∃ b : List α, b.length = n ∧ ∀ k, F a' k = G b k) : ∃ b : List α, b.length = n ∧ ∀ k, ((some a).bind fun y => F y k) = G b k := hF a h
theorem markStep (l : List S25) (m i : Int) (h0 : 0 ≤ i) (h1 : i < (l.length : Int)) : ∃ b : List S25, b.length = l.length ∧ ∀ k, laws_markMonthRowS.l0 (k + 1) l m i = laws_markMonthRowS.l0 k b (wrap64 ((wrap64 ((wrap64 ((wrap64 ((wrap64 ((wrap64 (m + 1)) + 1)) + 1)) + 1)) + 1)) + 1)) (wrap64 (i + 1)) := by
  simp only [laws_markMonthRowS.l0, if_pos h1, if_pos h0]
  generalize (i.toNat) = j
  refine bindLen _ _ (fun b k => laws_markMonthRowS.l0 k b _ _) (by rw [List.length_set]) (fun b1 hb1 => ?_)
  refine bindLen _ _ (fun b k => laws_markMonthRowS.l0 k b _ _) (by rw [List.length_set]; exact hb1) (fun b2 hb2 => ?_)
  refine bindLen _ _ (fun b k => laws_markMonthRowS.l0 k b _ _) (by rw [List.length_set]; exact hb2) (fun b3 hb3 => ?_)
  refine bindLen _ _ (fun b k => laws_markMonthRowS.l0 k b _ _) (by rw [List.length_set]; exact hb3) (fun b4 hb4 => ?_)
  refine bindLen _ _ (fun b k => laws_markMonthRowS.l0 k b _ _) (by rw [List.length_set]; exact hb4) (fun b5 hb5 => ?_)
  exact ⟨_, by rw [List.length_set]; exact hb5, fun _ => rfl⟩
theorem stepI (n : Nat) (h : n < 4611686018427387904) : wrap64 ((n : Int) + 1) = ((n + 1 : Nat) : Int) := by
  rw [w64 (by omega)]
  rfl
/-- A list of rows is marked: the marks stay positive. -/
theorem markRows (l : List S25) (hm : l.length ≤ 1048576) : ∃ l', Ev (fun k => laws_markMonthRowS.f k l 1) (((6 * l.length + 1 : Nat) : Int), l') := by
  have main : ∀ d (i m : Nat) (a : List S25), m = 6 * i + 1 → a.length = l.length → l.length - i = d → i ≤ l.length → ∃ l', Ev (fun k => laws_markMonthRowS.l0 k a (m : Int) (i : Int)) (((6 * l.length + 1 : Nat) : Int), l') := by
    intro d
    induction d with
    | zero =>
      intro i m a hmi ha hd hi
      have hil : i = l.length := by omega
      refine ⟨a, Ev.succ ?_⟩
      simp only [laws_markMonthRowS.l0, if_neg (show ¬ ((i : Int) < (a.length : Int)) by omega)]
      rw [hmi, hil]
      exact Ev.now _
    | succ d ih =>
      intro i m a hmi ha hd hi
      have hb1 : m < 4611686018427380000 := by omega
      obtain ⟨b, hb, hs⟩ := markStep a (m : Int) (i : Int) (by omega) (by omega)
      rw [stepI m (by omega), stepI (m + 1) (by omega), stepI (m + 1 + 1) (by omega), stepI (m + 1 + 1 + 1) (by omega), stepI (m + 1 + 1 + 1 + 1) (by omega), stepI (m + 1 + 1 + 1 + 1 + 1) (by omega), stepI i (by omega)] at hs
      obtain ⟨l', h⟩ := ih (i + 1) (m + 1 + 1 + 1 + 1 + 1 + 1) b (by clear hs; omega) (by clear hs; omega) (by clear hs; omega) (by clear hs; omega)
      refine ⟨l', Ev.succ ?_⟩
      have : (fun k => laws_markMonthRowS.l0 (k + 1) a (m : Int) (i : Int)) = (fun k => laws_markMonthRowS.l0 k b ((m + 1 + 1 + 1 + 1 + 1 + 1 : Nat) : Int) ((i + 1 : Nat) : Int)) := funext hs
      rw [this]
      exact h
  exact main l.length 0 1 l rfl rfl (by omega) (by omega)
theorem prof (m c n h i s : Int) : spec_l26Profit.f m c n h i s = some (wrap64 (i - s)) := rfl
theorem profI (m c n h i s : Int) : impl_MonthRow_profit.f m c n h i s = some (wrap64 (i - s)) := rfl
theorem centsS (a : Int) : spec_l26Cents.f a = some (decide (-100000000 ≤ a ∧ a ≤ 100000000)) := by
  unfold spec_l26Cents.f; rw [l1In]; rfl
theorem centsI (a : Int) : impl_isCents.f a = some (decide (-100000000 ≤ a ∧ a ≤ 100000000)) := by
  unfold impl_isCents.f; rw [iIn]; rfl
/-- The profit of the row at a place. -/
def pr (l : List S25) (i : Nat) : Int := wrap64 ((nth l i z25).f4 - (nth l i z25).f5)
def stepR (l : List S25) (i : Nat) (s : Int × List Int) : Int × List Int := (wrap64 (s.1 + pr l i), s.2 ++ [wrap64 (s.1 + pr l i)])
def sumsR (l : List S25) (a : Int) : List Int := ((List.range l.length).foldl (fun s i => stepR l i s) (a, [])).2
theorem sRun (l : List S25) (hm : l.length ≤ 1048576) (a : Int) : Ev (fun k => spec_RunningSum.l0 k l a [] 0) (sumsR l a, true) ∧ (sumsR l a).length = l.length := by
  have h := foldI (σ := Int × List Int) l.length (fun i s => s.2.length = i) (stepR l) (fun k s i => spec_RunningSum.l0 k l s.1 s.2 i) (fun s => (s.2, true)) ?hi ?hs ?he (a, []) rfl
  case hi => intro i s hi hI; simp [stepR, hI]
  case hs =>
    intro i s q hi hI hq
    refine Ev.succ ?_
    simp only [spec_RunningSum.l0, if_pos (show (i : Int) < (l.length : Int) by omega), if_pos (show (0 : Int) ≤ (i : Int) by omega), rd25, prof, Option.bind_some, if_pos (show s.2.length < 17592186044416 by omega), (show wrap64 ((i : Int) + 1) = ((i + 1 : Nat) : Int) by rw [w64 (by omega)]; omega)]
    exact hq
  case he =>
    intro s _
    refine Ev.succ ?_
    simp only [spec_RunningSum.l0, if_neg (show ¬ ((l.length : Int) < (l.length : Int)) by omega)]
    exact Ev.now _
  exact h
theorem iRun (l : List S25) (hm : l.length ≤ 1048576) (a : Int) : Ev (fun k => impl_RunningSum.l0 k a [] l (l.length : Int) 0) (sumsR l a, true) := by
  have h := foldI (σ := Int × List Int) l.length (fun i s => s.2.length = i) (stepR l) (fun k s i => impl_RunningSum.l0 k s.1 s.2 l (l.length : Int) i) (fun s => (s.2, true)) ?hi ?hs ?he (a, []) rfl
  case hi => intro i s hi hI; simp [stepR, hI]
  case hs =>
    intro i s q hi hI hq
    refine Ev.succ ?_
    simp only [impl_RunningSum.l0, if_pos (show (i : Int) < (l.length : Int) by omega), if_pos (show (0 : Int) ≤ (i : Int) by omega), rd25, profI, Option.bind_some, if_pos (show s.2.length < 17592186044416 by omega), (show wrap64 ((i : Int) + 1) = ((i + 1 : Nat) : Int) by rw [w64 (by omega)]; omega)]
    exact hq
  case he =>
    intro s _
    refine Ev.succ ?_
    simp only [impl_RunningSum.l0, if_neg (show ¬ ((l.length : Int) < (l.length : Int)) by omega)]
    exact Ev.now _
  exact h.1
def runRes (l : List S25) (a : Int) : List Int × Bool := if goodM l = true ∧ (-100000000 ≤ a ∧ a ≤ 100000000) then (sumsR l a, true) else ([], false)
theorem sRunning (l : List S25) (hm : l.length ≤ 1048576) (a : Int) : Ev (fun k => spec_RunningSum.f k l a) (runRes l a) := by
  unfold spec_RunningSum.f runRes
  simp only [Option.bind_some, centsS]
  refine Ev.bind (sGood l hm) ?_
  by_cases hg : goodM l = true
  · by_cases hc : -100000000 ≤ a ∧ a ≤ 100000000
    · simp only [hg, hc, and_self, decide_true, if_true, Bool.not_true]
      refine Ev.succ ?_
      simp only [spec_RunningSum.j0, Bool.false_eq_true, if_false]
      exact (sRun l hm a).1
    · simp only [hg, hc, and_false, decide_false, if_true, if_false, Bool.not_false]
      refine Ev.succ ?_
      simp only [spec_RunningSum.j0, if_true]
      exact Ev.now _
  · simp only [hg, false_and, if_false, Bool.false_eq_true]
    refine Ev.succ ?_
    simp only [spec_RunningSum.j0, if_true]
    exact Ev.now _
theorem iRunning (l : List S25) (hm : l.length ≤ 1048576) (a : Int) : Ev (fun k => impl_RunningSum.f k l a) (runRes l a) := by
  unfold impl_RunningSum.f runRes
  simp only [Option.bind_some, centsI]
  refine Ev.bind (iGood l hm) ?_
  by_cases hg : goodM l = true
  · by_cases hc : -100000000 ≤ a ∧ a ≤ 100000000
    · simp only [hg, hc, and_self, decide_true, if_true, Bool.not_true]
      refine Ev.succ ?_
      simp only [impl_RunningSum.j0, Bool.false_eq_true, if_false]
      exact iRun l hm a
    · simp only [hg, hc, and_false, decide_false, if_true, if_false, Bool.not_false]
      refine Ev.succ ?_
      simp only [impl_RunningSum.j0, if_true]
      exact Ev.now _
  · simp only [hg, false_and, if_false, Bool.false_eq_true]
    refine Ev.succ ?_
    simp only [impl_RunningSum.j0, if_true]
    exact Ev.now _
theorem runRes_len (l : List S25) (hm : l.length ≤ 1048576) (a : Int) : (runRes l a).1.length ≤ 1048576 := by
  unfold runRes
  split
  · show (sumsR l a).length ≤ _; rw [(sRun l hm a).2]; exact hm
  · simp
end Go.Proofs.Ythmgiagecgkmiaa.M

import Derived.Test.YthmgiagecgkmiaaMFA
import Derived.Test.YthmgiagecgkmiaaQx18
import Derived.Test.YthmgiagecgkmiaaQx19
import Derived.Test.YthmgiagecgkmiaaQx8888801
namespace Go.Proofs.Ythmgiagecgkmiaa.M
open Go.RowKit Go.Proofs.Ythmgiagecgkmiaa.Q Go.Proofs.YthmgiagecgkmiaaW.PrintWords Go.Proofs.YthmgiagecgkmiaaW.PrintLast Go.Proofs.YthmgiagecgkmiaaW.Pl Classical
set_option linter.unusedSimpArgs false

theorem profD (m c n h i s : Int) : spec_l26Profit.f m c n h i s = some (wrap64 (i - s)) := rfl
theorem profID (m c n h i s : Int) : impl_MonthRow_profit.f m c n h i s = some (wrap64 (i - s)) := rfl
/-- The profit of the row at a place, and its month. -/
def prd (l : List S25) (i : Nat) : Int := wrap64 ((nth l i z25).f4 - (nth l i z25).f5)
def mo (l : List S25) (i : Nat) : Int := (nth l i z25).f0
theorem mo_bound (l : List S25) (h : goodM l = true) (i : Nat) (hi : i < l.length) : 1 ≤ mo l i ∧ mo l i ≤ 1200 := by
  unfold goodM at h
  rw [Bool.and_eq_true, range_all] at h
  have := h.2 i hi
  rw [Bool.and_eq_true] at this
  have h2 := this.1
  unfold okR okM at h2
  exact (of_decide_eq_true h2).1
theorem len_bound (l : List S25) (h : goodM l = true) : l.length ≤ 12 := by
  unfold goodM at h
  rw [Bool.and_eq_true] at h
  exact of_decide_eq_true h.1
theorem sStepA (l : List S25) (hl : l.length ≤ 12) (i : Nat) (hi : i < l.length) (e b r : Int) (hb : 0 ≤ b ∧ b ≤ 12) (hr : 0 ≤ r ∧ r ≤ 12) (q : Int × Int × Bool)
    (h : Ev (fun k => spec_LossRun.l0 k l (if prd l i ≥ 0 then e else if r + 1 > b then mo l i else e) (if prd l i ≥ 0 then b else if r + 1 > b then r + 1 else b) (if prd l i ≥ 0 then 0 else r + 1) ((i + 1 : Nat) : Int)) q) :
    Ev (fun k => spec_LossRun.j2 k l e b r (i : Int)) q := by
  refine Ev.succ ?_
  simp only [spec_LossRun.j2, if_pos (show (i : Int) < (l.length : Int) by omega), if_pos (show (0 : Int) ≤ (i : Int) by omega), rd25, profD, Option.bind_some, (show wrap64 ((i : Int) + 1) = ((i + 1 : Nat) : Int) by rw [w64 (by omega)]; omega), if_neg (show ¬ (0 > b) by omega), w64 (x := r + 1) (by omega)]
  by_cases h1 : prd l i ≥ 0
  · simp only [if_pos h1] at h
    unfold prd at h1
    simp only [if_pos h1]
    exact h
  · simp only [if_neg h1] at h
    unfold prd at h1
    simp only [if_neg h1]
    by_cases h2 : r + 1 > b
    · simp only [if_pos h2] at h ⊢
      exact h
    · simp only [if_neg h2] at h ⊢
      exact h
theorem sStep (l : List S25) (hl : l.length ≤ 12) (hg : goodM l = true) (i : Nat) (hi : i < l.length) (e b r r0 : Int) (hb : 0 ≤ b ∧ b ≤ 12) (hr : 0 ≤ r ∧ r ≤ 12) (q : Int × Int × Bool)
    (h0 : r0 = if 0 < i ∧ mo l i ≠ mo l (i - 1) + 1 then 0 else r)
    (h : Ev (fun k => spec_LossRun.l0 k l (if prd l i ≥ 0 then e else if r0 + 1 > b then mo l i else e) (if prd l i ≥ 0 then b else if r0 + 1 > b then r0 + 1 else b) (if prd l i ≥ 0 then 0 else r0 + 1) ((i + 1 : Nat) : Int)) q) :
    Ev (fun k => spec_LossRun.l0 k l e b r (i : Int)) q := by
  refine Ev.succ ?_
  by_cases hi0 : 0 < i
  · have hb1 := mo_bound l hg (i - 1) (by omega)
    have hw : wrap64 ((nth l (i - 1) z25).f0 + 1) = mo l (i - 1) + 1 := w64 (by unfold mo at hb1; omega)
    simp only [spec_LossRun.l0, if_pos (show (i : Int) < (l.length : Int) by omega), if_pos (show (0 : Int) ≤ (i : Int) by omega), if_pos (show (i : Int) > 0 by omega), (show wrap64 ((i : Int) - 1) = ((i - 1 : Nat) : Int) by rw [w64 (by omega)]; omega), if_pos (show (0 : Int) ≤ ((i - 1 : Nat) : Int) by omega), if_pos (show ((i - 1 : Nat) : Int) < (l.length : Int) by omega), rd25, hw]
    refine Ev.succ ?_
    by_cases hc : mo l i = mo l (i - 1) + 1
    · have : (((nth l i z25).f0) != mo l (i - 1) + 1) = false := by rw [bne_eq_false_iff_eq]; exact hc
      simp only [this, spec_LossRun.j1, Bool.false_eq_true, if_false]
      rw [if_neg (fun h => h.2 hc)] at h0
      subst h0
      exact sStepA l hl i hi e b _ hb hr q h
    · have : (((nth l i z25).f0) != mo l (i - 1) + 1) = true := by rw [bne_iff_ne]; exact hc
      simp only [this, spec_LossRun.j1, if_true]
      rw [if_pos ⟨hi0, hc⟩] at h0
      subst h0
      exact sStepA l hl i hi e b _ hb (by omega) q h
  · simp only [spec_LossRun.l0, if_pos (show (i : Int) < (l.length : Int) by omega), if_neg (show ¬ ((i : Int) > 0) by omega)]
    refine Ev.succ ?_
    simp only [spec_LossRun.j1, Bool.false_eq_true, if_false]
    rw [if_neg (fun h => hi0 h.1)] at h0
    subst h0
    exact sStepA l hl i hi e b _ hb hr q h
theorem iStepP (l : List S25) (hl : l.length ≤ 12) (i : Nat) (hi : i < l.length) (f t st : Int) (q : Int × Int × Bool) (hp : prd l i ≥ 0)
    (h : Ev (fun k => impl_LossRun.l0 k l f t st l (l.length : Int) ((i + 1 : Nat) : Int)) q) :
    Ev (fun k => impl_LossRun.l0 k l f t st l (l.length : Int) (i : Int)) q := by
  refine Ev.succ ?_
  unfold prd at hp
  simp only [impl_LossRun.l0, if_pos (show (i : Int) < (l.length : Int) by omega), if_pos (show (0 : Int) ≤ (i : Int) by omega), rd25, profID, Option.bind_some, if_pos hp, (show wrap64 ((i : Int) + 1) = ((i + 1 : Nat) : Int) by rw [w64 (by omega)]; omega)]
  exact h
theorem iStepT (l : List S25) (hl : l.length ≤ 12) (i : Nat) (hi : i < l.length) (f t st a1 a2 a3 a4 a5 : Int) (q : Int × Int × Bool)
    (hw : wrap64 (t - f) = t - f)
    (h : Ev (fun k => impl_LossRun.l0 k l (if 0 > t - f then mo l i else f) (if 0 > t - f then mo l i else t) (mo l i) l (l.length : Int) ((i + 1 : Nat) : Int)) q) :
    Ev (fun k => impl_LossRun.j1 k l f t st l (l.length : Int) (i : Int) true (mo l i) a1 a2 a3 a4 a5) q := by
  refine Ev.succ ?_
  simp only [impl_LossRun.j1, if_true, hw, (show wrap64 ((i : Int) + 1) = ((i + 1 : Nat) : Int) by rw [w64 (by omega)]; omega)]
  by_cases h2 : 0 > t - f
  · simp only [if_pos h2] at h ⊢
    exact h
  · simp only [if_neg h2] at h ⊢
    exact h
theorem iStepF (l : List S25) (hl : l.length ≤ 12) (i : Nat) (hi : i < l.length) (f t st a1 a2 a3 a4 a5 : Int) (q : Int × Int × Bool)
    (hw : wrap64 (t - f) = t - f) (hw2 : wrap64 (mo l i - st) = mo l i - st)
    (h : Ev (fun k => impl_LossRun.l0 k l (if mo l i - st > t - f then st else f) (if mo l i - st > t - f then mo l i else t) st l (l.length : Int) ((i + 1 : Nat) : Int)) q) :
    Ev (fun k => impl_LossRun.j1 k l f t st l (l.length : Int) (i : Int) false (mo l i) a1 a2 a3 a4 a5) q := by
  refine Ev.succ ?_
  simp only [impl_LossRun.j1, Bool.false_eq_true, if_false, hw, hw2, (show wrap64 ((i : Int) + 1) = ((i + 1 : Nat) : Int) by rw [w64 (by omega)]; omega)]
  by_cases h2 : mo l i - st > t - f
  · simp only [if_pos h2] at h ⊢
    exact h
  · simp only [if_neg h2] at h ⊢
    exact h
theorem iFresh (l : List S25) (hl : l.length ≤ 12) (hg : goodM l = true) (i : Nat) (hi : i < l.length) (f t st : Int) (q : Int × Int × Bool) (hp : ¬ prd l i ≥ 0)
    (hf : i = 0 ∨ prd l (i - 1) ≥ 0 ∨ mo l i ≠ mo l (i - 1) + 1)
    (hw : wrap64 (t - f) = t - f)
    (h : Ev (fun k => impl_LossRun.l0 k l (if 0 > t - f then mo l i else f) (if 0 > t - f then mo l i else t) (mo l i) l (l.length : Int) ((i + 1 : Nat) : Int)) q) :
    Ev (fun k => impl_LossRun.l0 k l f t st l (l.length : Int) (i : Int)) q := by
  refine Ev.succ ?_
  unfold prd at hp
  by_cases hi0 : i = 0
  · simp only [impl_LossRun.l0, if_pos (show (i : Int) < (l.length : Int) by omega), if_pos (show (0 : Int) ≤ (i : Int) by omega), rd25, profID, Option.bind_some, if_neg hp, if_pos (show (i : Int) = 0 by omega)]
    exact iStepT l hl i hi f t st _ _ _ _ _ q hw h
  · have hb1 := mo_bound l hg (i - 1) (by omega)
    have hw1 : wrap64 ((nth l (i - 1) z25).f0 + 1) = mo l (i - 1) + 1 := w64 (by unfold mo at hb1; omega)
    simp only [impl_LossRun.l0, if_pos (show (i : Int) < (l.length : Int) by omega), if_pos (show (0 : Int) ≤ (i : Int) by omega), (show wrap64 ((i : Int) - 1) = ((i - 1 : Nat) : Int) by rw [w64 (by omega)]; omega), if_pos (show (0 : Int) ≤ ((i - 1 : Nat) : Int) by omega), if_pos (show ((i - 1 : Nat) : Int) < (l.length : Int) by omega), rd25, profID, Option.bind_some, if_neg hp, if_neg (show ¬ ((i : Int) = 0) by omega), hw1]
    by_cases hq : prd l (i - 1) ≥ 0
    · unfold prd at hq
      simp only [if_pos hq]
      exact iStepT l hl i hi f t st _ _ _ _ _ q hw h
    · have hne : mo l i ≠ mo l (i - 1) + 1 := by rcases hf with h1 | h1 | h1; exact absurd h1 hi0; exact absurd h1 hq; exact h1
      unfold prd at hq
      have : ((mo l (i - 1) + 1) != ((nth l i z25).f0)) = true := by rw [bne_iff_ne]; exact fun h => hne h.symm
      simp only [if_neg hq, this]
      exact iStepT l hl i hi f t st _ _ _ _ _ q hw h
theorem iGoes (l : List S25) (hl : l.length ≤ 12) (hg : goodM l = true) (i : Nat) (hi : i < l.length) (f t st : Int) (q : Int × Int × Bool) (hp : ¬ prd l i ≥ 0)
    (hi0 : i ≠ 0) (hq : ¬ prd l (i - 1) ≥ 0) (hc : mo l i = mo l (i - 1) + 1)
    (hw : wrap64 (t - f) = t - f) (hw2 : wrap64 (mo l i - st) = mo l i - st)
    (h : Ev (fun k => impl_LossRun.l0 k l (if mo l i - st > t - f then st else f) (if mo l i - st > t - f then mo l i else t) st l (l.length : Int) ((i + 1 : Nat) : Int)) q) :
    Ev (fun k => impl_LossRun.l0 k l f t st l (l.length : Int) (i : Int)) q := by
  refine Ev.succ ?_
  unfold prd at hp hq
  have hb1 := mo_bound l hg (i - 1) (by omega)
  have hw1 : wrap64 ((nth l (i - 1) z25).f0 + 1) = mo l (i - 1) + 1 := w64 (by unfold mo at hb1; omega)
  have : ((mo l (i - 1) + 1) != ((nth l i z25).f0)) = false := by rw [bne_eq_false_iff_eq]; exact hc.symm
  simp only [impl_LossRun.l0, if_pos (show (i : Int) < (l.length : Int) by omega), if_pos (show (0 : Int) ≤ (i : Int) by omega), (show wrap64 ((i : Int) - 1) = ((i - 1 : Nat) : Int) by rw [w64 (by omega)]; omega), if_pos (show (0 : Int) ≤ ((i - 1 : Nat) : Int) by omega), if_pos (show ((i - 1 : Nat) : Int) < (l.length : Int) by omega), rd25, profID, Option.bind_some, if_neg hp, if_neg (show ¬ ((i : Int) = 0) by omega), hw1, if_neg hq, this]
  exact iStepF l hl i hi f t st _ _ _ _ _ q hw hw2 h
/-- What both keep of the months that were looked at. -/
def Inv (l : List S25) (i : Nat) (e b r f t st : Int) : Prop :=
  (0 ≤ b ∧ b ≤ (i : Int)) ∧ (0 ≤ r ∧ r ≤ (i : Int)) ∧ (b = 0 → f = 0 ∧ t = -1) ∧ (0 < b → t = e ∧ f = e - b + 1 ∧ 1 ≤ e ∧ e ≤ 1200)
   ∧ (0 < r → 0 < i ∧ prd l (i - 1) < 0 ∧ st = mo l (i - 1) - r + 1) ∧ (0 < i → prd l (i - 1) < 0 → 0 < r)
theorem both (l : List S25) (hg : goodM l = true) : ∀ d (i : Nat) (e b r f t st : Int), l.length - i = d → i ≤ l.length → Inv l i e b r f t st → ∃ q, Ev (fun k => spec_LossRun.l0 k l e b r (i : Int)) q ∧ Ev (fun k => impl_LossRun.l0 k l f t st l (l.length : Int) (i : Int)) q := by
  have hl := len_bound l hg
  intro d
  induction d with
  | zero =>
    intro i e b r f t st hd hi hI
    have hil : i = l.length := by omega
    subst hil
    obtain ⟨hb, hr, h0, h1, _, _⟩ := hI
    by_cases hb0 : b = 0
    · refine ⟨(0, 0, false), Ev.succ ?_, Ev.succ ?_⟩
      · simp only [spec_LossRun.l0, if_neg (show ¬ ((l.length : Int) < (l.length : Int)) by omega), if_pos hb0]
        exact Ev.now _
      · have := h0 hb0
        simp only [impl_LossRun.l0, if_neg (show ¬ ((l.length : Int) < (l.length : Int)) by omega), if_pos (show t < 0 by omega)]
        exact Ev.now _
    · obtain ⟨rfl, h2, h3, h4⟩ := h1 (by omega)
      refine ⟨(f, t, true), Ev.succ ?_, Ev.succ ?_⟩
      · simp only [spec_LossRun.l0, if_neg (show ¬ ((l.length : Int) < (l.length : Int)) by omega), if_neg hb0]
        rw [w64 (x := t - b) (by omega), w64 (x := t - b + 1) (by omega), ← h2]
        exact Ev.now _
      · simp only [impl_LossRun.l0, if_neg (show ¬ ((l.length : Int) < (l.length : Int)) by omega), if_neg (show ¬ t < 0 by omega)]
        exact Ev.now _
  | succ d ih =>
    intro i e b r f t st hd hi hI
    obtain ⟨hb, hr, h0, h1, h2, h3⟩ := hI
    have hlt : i < l.length := by omega
    have hmi := mo_bound l hg i hlt
    have htf : t - f = b - 1 := by
      by_cases hb0 : b = 0
      · have := h0 hb0; omega
      · have := h1 (by omega); omega
    have hw : wrap64 (t - f) = t - f := w64 (by omega)
    by_cases hp : prd l i ≥ 0
    · obtain ⟨q, hs, hii⟩ := ih (i + 1) e b 0 f t st (by clear hw; omega) (by clear hw; omega) ⟨by clear hw; omega, by clear hw; omega, h0, h1, fun h => by clear hw; omega, fun _ h => by rw [Nat.add_sub_cancel] at h; clear hw; omega⟩
      refine ⟨q, ?_, iStepP l hl i hlt f t st q hp hii⟩
      refine sStep l hl hg i hlt e b r _ (by clear hw; omega) (by clear hw; omega) q rfl ?_
      simp only [if_pos hp]
      exact hs
    · by_cases hc : i ≠ 0 ∧ prd l (i - 1) < 0 ∧ mo l i = mo l (i - 1) + 1
      · obtain ⟨hi0, hq, hc⟩ := hc
        have hr0 := h3 (by clear hw; omega) hq
        obtain ⟨_, _, hst⟩ := h2 hr0
        have hw2 : wrap64 (mo l i - st) = mo l i - st := w64 (by clear hw; omega)
        obtain ⟨q, hs, hii⟩ := ih (i + 1) (if r + 1 > b then mo l i else e) (if r + 1 > b then r + 1 else b) (r + 1) (if mo l i - st > t - f then st else f) (if mo l i - st > t - f then mo l i else t) st (by clear hw hw2; omega) (by clear hw hw2; omega)
          ⟨by clear hw hw2; split <;> omega, by clear hw hw2; omega, by clear hw hw2; split <;> omega, by clear hw hw2; intro h5; split <;> split <;> (try have h6 := h1 (by omega)) <;> omega, fun _ => ⟨by clear hw hw2; omega, by rw [Nat.add_sub_cancel]; clear hw hw2; omega, by rw [Nat.add_sub_cancel]; clear hw hw2; omega⟩, fun _ _ => by clear hw hw2; omega⟩
        refine ⟨q, ?_, iGoes l hl hg i hlt f t st q hp hi0 (by clear hw hw2; omega) hc hw hw2 hii⟩
        refine sStep l hl hg i hlt e b r r (by clear hw hw2; omega) (by clear hw hw2; omega) q (by rw [if_neg (fun h => h.2 hc)]) ?_
        simp only [if_neg hp]
        exact hs
      · obtain ⟨q, hs, hii⟩ := ih (i + 1) (if 0 + 1 > b then mo l i else e) (if 0 + 1 > b then 0 + 1 else b) (0 + 1) (if 0 > t - f then mo l i else f) (if 0 > t - f then mo l i else t) (mo l i) (by clear hw; omega) (by clear hw; omega)
          ⟨by clear hw; split <;> omega, by clear hw; omega, by clear hw; split <;> omega, by clear hw; intro h5; split <;> split <;> (try have h6 := h1 (by omega)) <;> omega, fun _ => ⟨by clear hw; omega, by rw [Nat.add_sub_cancel]; clear hw; omega, by rw [Nat.add_sub_cancel]; clear hw; omega⟩, fun _ _ => by clear hw; omega⟩
        have hf : i = 0 ∨ prd l (i - 1) ≥ 0 ∨ mo l i ≠ mo l (i - 1) + 1 := by
          by_cases a1 : i = 0
          · exact Or.inl a1
          · by_cases a2 : prd l (i - 1) ≥ 0
            · exact Or.inr (Or.inl a2)
            · exact Or.inr (Or.inr (fun a3 => hc ⟨a1, by clear hw; omega, a3⟩))
        refine ⟨q, ?_, iFresh l hl hg i hlt f t st q hp hf hw hii⟩
        refine sStep l hl hg i hlt e b r 0 (by clear hw; omega) (by clear hw; omega) q ?_ ?_
        · split
          · rfl
          · rename_i hn
            by_cases a1 : i = 0
            · clear hw; omega
            · by_cases a2 : prd l (i - 1) ≥ 0
              · by_cases a3 : 0 < r
                · have := h2 a3; clear hw; omega
                · clear hw; omega
              · exfalso
                refine hc ⟨a1, by clear hw; omega, ?_⟩
                apply Classical.byContradiction
                intro a4
                exact hn ⟨by clear hw; omega, a4⟩
        · simp only [if_neg hp]
          exact hs
theorem lossBoth (l : List S25) (hm : l.length ≤ 1048576) : ∃ q, Ev (fun k => spec_LossRun.f k l) q ∧ Ev (fun k => impl_LossRun.f k l) q := by
  unfold spec_LossRun.f impl_LossRun.f
  by_cases hg : goodM l = true
  · obtain ⟨q, hs, hi⟩ := both l hg l.length 0 0 0 0 0 (-1) 0 rfl (by omega) ⟨by omega, by omega, by omega, by omega, by omega, by omega⟩
    refine ⟨q, Ev.bind (sGood l hm) ?_, Ev.bind (iGood l hm) ?_⟩
    · simp only [hg, if_true]; exact hs
    · simp only [hg, if_true]; exact hi
  · refine ⟨(0, 0, false), Ev.bind (sGood l hm) ?_, Ev.bind (iGood l hm) ?_⟩
    · simp only [hg, if_false, Bool.false_eq_true]; exact Ev.now _
    · simp only [hg, if_false, Bool.false_eq_true]; exact Ev.now _
end Go.Proofs.Ythmgiagecgkmiaa.M

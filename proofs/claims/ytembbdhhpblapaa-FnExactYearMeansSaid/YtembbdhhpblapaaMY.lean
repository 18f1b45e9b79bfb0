import Derived.Test.YtembbdhhpblapaaMC
import Derived.Test.YtembbdhhpblapaaMI4
import Derived.Test.YtembbdhhpblapaaQx31
import Derived.Test.YtembbdhhpblapaaQx37
import Derived.Test.YtembbdhhpblapaaQx38
import Derived.Test.YtembbdhhpblapaaQx63
import Derived.Test.YtembbdhhpblapaaQx8888801
/-! The means of the years: plain words. -/
namespace Go.Proofs.Ytembbdhhpblapaa.M
open Go.RowKit Go.Proofs.Ytembbdhhpblapaa.Q Go.Proofs.YtembbdhhpblapaaW.PrintWords Go.Proofs.YtembbdhhpblapaaW.PrintLast
open Go.Proofs.YtembbdhhpblapaaW.Pl (nth nth_get nth_mem range_all Ev.succ Ev.c Ev.bindc stepI predI)
set_option linter.unusedSimpArgs false
set_option linter.unusedVariables false
/-- The cents of m sales from i on. -/
def sumC (l : List S40) (i : Nat) : Nat → Int
  | 0 => 0
  | m + 1 => sumC l i m + (nth l (i + m) z40).f2
theorem sumC_b {l : List S40} (hC : ∀ i, i < l.length → 1 ≤ (nth l i z40).f2 ∧ (nth l i z40).f2 ≤ 100000000) (i : Nat) : ∀ m, i + m ≤ l.length → (m : Int) ≤ sumC l i m ∧ sumC l i m ≤ 100000000 * (m : Int)
  | 0, _ => by simp [sumC]
  | m + 1, h => by
    have := sumC_b hC i m (by omega)
    have := hC (i + m) (by omega)
    simp only [sumC]
    omega
theorem runEnd (l : List S40) (i : Nat) (hi : i < l.length) : ∃ e, i < e ∧ e ≤ l.length ∧ (∀ k, i ≤ k → k < e → (nth l k z40).f0 = (nth l i z40).f0) ∧ (e = l.length ∨ (nth l e z40).f0 ≠ (nth l i z40).f0) := by
  have main : ∀ d e, l.length - e = d → i < e → e ≤ l.length → (∀ k, i ≤ k → k < e → (nth l k z40).f0 = (nth l i z40).f0) → ∃ e, i < e ∧ e ≤ l.length ∧ (∀ k, i ≤ k → k < e → (nth l k z40).f0 = (nth l i z40).f0) ∧ (e = l.length ∨ (nth l e z40).f0 ≠ (nth l i z40).f0) := by
    intro d
    induction d with
    | zero => intro e hd h1 h2 h3; exact ⟨e, h1, h2, h3, .inl (by omega)⟩
    | succ d ih =>
      intro e hd h1 h2 h3
      by_cases h : (nth l e z40).f0 = (nth l i z40).f0
      · exact ih (e + 1) (by omega) (by omega) (by omega) (fun k k1 k2 => by
          by_cases e' : k = e
          · subst e'; exact h
          · exact h3 k k1 (by omega))
      · exact ⟨e, h1, h2, h3, .inr h⟩
  exact main (l.length - (i + 1)) (i + 1) rfl (by omega) (by omega) (fun k k1 k2 => by
    have : k = i := by omega
    subst this; rfl)
def yearsQ (q : List (List Int) × Bool) : Prop := q.1.length ≤ 10 ∧ ∀ x, x ∈ q.1 → x.length = 3
theorem years_snoc {s : List (List Int)} {a b c : Int} (h : ∀ x, x ∈ s → x.length = 3) : ∀ x, x ∈ s ++ [[a, b, c]] → x.length = 3 := fun x hx => by
  rcases List.mem_append.1 hx with hx | hx
  · exact h x hx
  · rw [List.mem_singleton.1 hx]; rfl
theorem yearLoop (l : List S40) (hl : l.length ≤ 10) (hC : ∀ i, i < l.length → 1 ≤ (nth l i z40).f2 ∧ (nth l i z40).f2 ≤ 100000000) (hY : ∀ i j, i ≤ j → j < l.length → (nth l i z40).f0 ≤ (nth l j z40).f0) :
    ∀ d (i : Nat) (s : List (List Int)), l.length - i ≤ d → i ≤ l.length → (i = 0 ∨ i = l.length ∨ (nth l (i - 1) z40).f0 ≠ (nth l i z40).f0) → (∀ x, x ∈ s → x.length = 3) → s.length ≤ i →
    ∃ q, yearsQ q ∧ Ev (fun k => spec_YearMeans.l0 k l s (i : Int)) q ∧ Ev (fun k => impl_YearMeans.l0 k l s (i : Int)) q := by
  intro d
  induction d with
  | zero =>
    intro i s hd hi hb hs hn
    obtain rfl : i = l.length := by omega
    refine ⟨(s, true), ⟨by simp only; omega, hs⟩, Ev.succ ?_, Ev.succ ?_⟩
    · simp only [spec_YearMeans.l0, if_neg (show ¬ ((l.length : Int) < (l.length : Int)) by omega)]
      exact Ev.now _
    · simp only [impl_YearMeans.l0, if_neg (show ¬ ((l.length : Int) < (l.length : Int)) by omega)]
      exact Ev.now _
  | succ d ih =>
    intro i s hd hi hb hs hn
    by_cases hil : i < l.length
    case neg =>
      obtain rfl : i = l.length := by omega
      refine ⟨(s, true), ⟨by simp only; omega, hs⟩, Ev.succ ?_, Ev.succ ?_⟩
      · simp only [spec_YearMeans.l0, if_neg (show ¬ ((l.length : Int) < (l.length : Int)) by omega)]
        exact Ev.now _
      · simp only [impl_YearMeans.l0, if_neg (show ¬ ((l.length : Int) < (l.length : Int)) by omega)]
        exact Ev.now _
    obtain ⟨e, e1, e2, e3, e4⟩ := runEnd l i hil
    have hsum := sumC_b hC i (e - i) (by omega)
    obtain ⟨a, b, hf⟩ := frac_run (sumC l i (e - i)) ((e - i : Nat) : Int) (by omega) (by omega) (by omega)
    have hfs : Ev (fun k => spec_l2Reduce.f k (sumC l i (e - i)) ((e - i : Nat) : Int)) (a, b) := ⟨((e - i : Nat) : Int).toNat + 1, fun k hk => by
      have := (hf (k - (((e - i : Nat) : Int).toNat + 1))).1
      rwa [Nat.add_sub_cancel' hk] at this⟩
    have hfi : Ev (fun k => impl_fraction.f k (sumC l i (e - i)) ((e - i : Nat) : Int)) (a, b) := ⟨((e - i : Nat) : Int).toNat + 1, fun k hk => by
      have := (hf (k - (((e - i : Nat) : Int).toNat + 1))).2
      rwa [Nat.add_sub_cancel' hk] at this⟩
    obtain ⟨q, hq, g1, g2⟩ := ih e (s ++ [[(nth l i z40).f0, a, b]]) (by omega) e2 (by
      rcases e4 with h | h
      · exact .inr (.inl h)
      · refine .inr (.inr (fun hh => h ?_))
        rw [← hh]
        exact e3 (e - 1) (by omega) (by omega)) (years_snoc hs) (by simp; omega)
    refine ⟨q, hq, ?_, ?_⟩
    · -- the reference: skips within a run
      have skip : ∀ c (j : Nat), e - j = c → i < j → j ≤ e → Ev (fun k => spec_YearMeans.l0 k l (s ++ [[(nth l i z40).f0, a, b]]) (j : Int)) q := by
        intro c
        induction c with
        | zero =>
          intro j h1 h2 h3
          obtain rfl : j = e := by omega
          exact g1
        | succ c ihc =>
          intro j h1 h2 h3
          have hy : (nth l (j - 1) z40).f0 = (nth l j z40).f0 := by rw [e3 (j - 1) (by omega) (by omega), e3 j (by omega) (by omega)]
          refine Ev.succ ?_
          simp only [spec_YearMeans.l0, rd40, if_pos (show (j : Int) < (l.length : Int) by omega), if_pos (show (j : Int) > 0 by omega), predI j (by omega), if_pos (show (0 : Int) ≤ ((j - 1 : Nat) : Int) by omega), if_pos (show ((j - 1 : Nat) : Int) < (l.length : Int) by omega), if_pos (show (0 : Int) ≤ (j : Int) by omega), hy, beq_self_eq_true]
          refine Ev.succ ?_
          simp only [spec_YearMeans.j1, if_true, stepI j (by omega)]
          exact ihc (j + 1) (by omega) (by omega) (by omega)
      have hloop : ∀ c (k : Nat), l.length - k = c → k ≤ l.length → Ev (fun f => spec_YearMeans.l1 f l s (i : Int) (sumC l i (min k e - i)) ((min k e - i : Nat) : Int) (k : Int)) q := by
        intro c
        induction c with
        | zero =>
          intro k h1 h2
          obtain rfl : k = l.length := by omega
          have hm : min l.length e - i = e - i := by omega
          rw [hm]
          refine Ev.succ ?_
          simp only [spec_YearMeans.l1, if_neg (show ¬ ((l.length : Int) < (l.length : Int)) by omega)]
          refine Ev.bind hfs ?_
          simp only [rd40, if_pos (show (0 : Int) ≤ (i : Int) by omega), if_pos (show (i : Int) < (l.length : Int) by omega), if_pos (show s.length < 5864062014805 by omega), stepI i (by omega)]
          exact skip (e - (i + 1)) (i + 1) rfl (by omega) (by omega)
        | succ c ihc =>
          intro k h1 h2
          have hnext := ihc (k + 1) (by omega) (by omega)
          have hb1 := sumC_b hC i (min k e - i) (by omega)
          refine Ev.succ ?_
          simp only [spec_YearMeans.l1, rd40, if_pos (show (k : Int) < (l.length : Int) by omega), if_pos (show (0 : Int) ≤ (k : Int) by omega), if_pos (show (0 : Int) ≤ (i : Int) by omega), if_pos (show (i : Int) < (l.length : Int) by omega), stepI k (by omega)]
          by_cases hk : i ≤ k ∧ k < e
          · have hc := hC k (by omega)
            have hm : min (k + 1) e - i = (min k e - i) + 1 := by omega
            have hs2 : sumC l i (min (k + 1) e - i) = sumC l i (min k e - i) + (nth l k z40).f2 := by
              rw [hm, sumC, show i + (min k e - i) = k by omega]
            rw [hs2, hm] at hnext
            simp only [if_pos (e3 k hk.1 hk.2), w64 (x := sumC l i (min k e - i) + (nth l k z40).f2) (by omega), stepI (min k e - i) (by omega)]
            exact hnext
          · have hne : (nth l k z40).f0 ≠ (nth l i z40).f0 := by
              by_cases hki : k < i
              · rcases hb with h0 | h0 | h0
                · omega
                · omega
                · have q1 := hY k (i - 1) (by omega) (by omega)
                  have q2 := hY (i - 1) i (by omega) hil
                  omega
              · rcases e4 with h0 | h0
                · omega
                · have q1 := hY e k (by omega) (by omega)
                  have q2 := hY i e (by omega) (by omega)
                  omega
            have hm : min (k + 1) e - i = min k e - i := by omega
            rw [hm] at hnext
            simp only [if_neg hne]
            exact hnext
      have h0 := hloop l.length 0 (by omega) (by omega)
      have hm0 : min 0 e - i = 0 := by omega
      rw [hm0] at h0
      refine Ev.succ ?_
      simp only [spec_YearMeans.l0, if_pos (show (i : Int) < (l.length : Int) by omega)]
      by_cases hi0 : i = 0
      · simp only [if_neg (show ¬ (i : Int) > 0 by omega)]
        refine Ev.succ ?_
        simp only [spec_YearMeans.j1, Bool.false_eq_true, if_false]
        exact h0
      · have hne : ((nth l (i - 1) z40).f0 == (nth l i z40).f0) = false := by
          rcases hb with h1 | h1 | h1
          · omega
          · omega
          · simpa using h1
        simp only [rd40, if_pos (show (i : Int) > 0 by omega), predI i (by omega), if_pos (show (0 : Int) ≤ ((i - 1 : Nat) : Int) by omega), if_pos (show ((i - 1 : Nat) : Int) < (l.length : Int) by omega), if_pos (show (0 : Int) ≤ (i : Int) by omega), hne]
        refine Ev.succ ?_
        simp only [spec_YearMeans.j1, Bool.false_eq_true, if_false]
        exact h0
    · -- the program: one run after another
      have hloop : ∀ c (k : Nat), e - k = c → i ≤ k → k ≤ e → Ev (fun f => impl_YearMeans.l1 f l s (i : Int) (sumC l i (k - i)) (k : Int)) q := by
        intro c
        induction c with
        | zero =>
          intro k h1 h2 h3
          obtain rfl : k = e := by omega
          have hw : wrap64 ((k : Int) - (i : Int)) = ((k - i : Nat) : Int) := by rw [w64 (by omega)]; omega
          refine Ev.succ ?_
          by_cases hel : k < l.length
          · have hne : (nth l k z40).f0 ≠ (nth l i z40).f0 := by
              rcases e4 with h | h
              · omega
              · exact h
            simp only [impl_YearMeans.l1, rd40, if_pos (show (k : Int) < (l.length : Int) by omega), if_pos (show (0 : Int) ≤ (k : Int) by omega), if_pos (show (0 : Int) ≤ (i : Int) by omega), if_pos (show (i : Int) < (l.length : Int) by omega), if_neg hne, hw]
            refine Ev.bind hfi ?_
            simp only [if_pos (show s.length < 5864062014805 by omega)]
            exact g2
          · simp only [impl_YearMeans.l1, rd40, if_neg (show ¬ (k : Int) < (l.length : Int) by omega), hw]
            refine Ev.bind hfi ?_
            simp only [if_pos (show (0 : Int) ≤ (i : Int) by omega), if_pos (show (i : Int) < (l.length : Int) by omega), if_pos (show s.length < 5864062014805 by omega)]
            exact g2
        | succ c ihc =>
          intro k h1 h2 h3
          have hnext := ihc (k + 1) (by omega) (by omega) (by omega)
          have hb1 := sumC_b hC i (k - i) (by omega)
          have hc := hC k (by omega)
          rw [show k + 1 - i = (k - i) + 1 by omega, sumC, show i + (k - i) = k by omega] at hnext
          refine Ev.succ ?_
          simp only [impl_YearMeans.l1, rd40, if_pos (show (k : Int) < (l.length : Int) by omega), if_pos (show (0 : Int) ≤ (k : Int) by omega), if_pos (show (0 : Int) ≤ (i : Int) by omega), if_pos (show (i : Int) < (l.length : Int) by omega), if_pos (e3 k h2 (by omega)), w64 (x := sumC l i (k - i) + (nth l k z40).f2) (by omega), stepI k (by omega)]
          exact hnext
      have h0 := hloop (e - i) i rfl (Nat.le_refl _) (by omega)
      rw [Nat.sub_self] at h0
      refine Ev.succ ?_
      simp only [impl_YearMeans.l0, if_pos (show (i : Int) < (l.length : Int) by omega)]
      exact h0
theorem sGoodE (l : List S40) (hl : l.length ≤ 1048576) : Ev (fun k => spec_l24Good.f k l) (goodS l) := ⟨l.length + 1, fun k hk => sGood l hl k (by omega)⟩
theorem iGoodE (l : List S40) (hl : l.length ≤ 1048576) : Ev (fun k => impl_AreSales.f k l) (goodS l) := ⟨l.length + 1, fun k hk => iGood l hl k (by omega)⟩
theorem goodS_at {l : List S40} (h : goodS l = true) : l.length ≤ 10 ∧ (∀ i, i < l.length → okSx (nth l i z40) = true) ∧ ∀ i j, i ≤ j → j < l.length → (nth l i z40).f0 ≤ (nth l j z40).f0 := by
  unfold goodS at h
  rw [Bool.and_eq_true, decide_eq_true_iff, range_all] at h
  obtain ⟨h1, h2⟩ := h
  refine ⟨h1, fun i hi => ?_, fun i j hij hj => ?_⟩
  · have := h2 i hi
    rw [Bool.and_eq_true] at this
    exact this.1
  · obtain ⟨d, rfl⟩ : ∃ d, j = i + d := ⟨j - i, by omega⟩
    clear hij
    induction d with
    | zero => exact Int.le_refl _
    | succ d ih =>
      have := ih (by omega)
      have h3 := h2 (i + (d + 1)) hj
      rw [Bool.and_eq_true, Bool.or_eq_true, decide_eq_true_iff, decide_eq_true_iff] at h3
      have h4 := h3.2.resolve_left (by omega)
      rw [show i + (d + 1) - 1 = i + d by omega] at h4
      omega
theorem okSx_cents {x : S40} (h : okSx x = true) : 1 ≤ x.f2 ∧ x.f2 ≤ 100000000 := (okS_iff.1 h).2.2
theorem yearBoth (l : List S40) (hl : l.length ≤ 1048576) : ∃ q : List (List Int) × Bool, yearsQ q ∧ Ev (fun k => spec_YearMeans.f k l) q ∧ Ev (fun k => impl_YearMeans.f k l) q := by
  unfold spec_YearMeans.f impl_YearMeans.f
  simp only [Option.bind_some]
  cases hg : goodS l with
  | true =>
    obtain ⟨h1, h2, h3⟩ := goodS_at hg
    obtain ⟨q, hq, g1, g2⟩ := yearLoop l h1 (fun i hi => okSx_cents (h2 i hi)) h3 l.length 0 [] (by omega) (by omega) (.inl rfl) (by simp) (by simp)
    refine ⟨q, hq, Ev.bind (sGoodE l hl) ?_, Ev.bind (iGoodE l hl) ?_⟩
    · simp only [hg, if_true]
      exact g1
    · simp only [hg, if_true]
      exact g2
  | false =>
    refine ⟨([], false), ⟨by simp, by simp⟩, Ev.bind (sGoodE l hl) ?_, Ev.bind (iGoodE l hl) ?_⟩ <;>
    · simp only [hg, Bool.false_eq_true, if_false]
      exact Ev.now _
end Go.Proofs.Ytembbdhhpblapaa.M

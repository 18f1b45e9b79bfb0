import Derived.Test.YthmgiagecgkmiaaMFA
import Derived.Test.YthmgiagecgkmiaaQx20
import Derived.Test.YthmgiagecgkmiaaQx21
import Derived.Test.YthmgiagecgkmiaaQx8888801
namespace Go.Proofs.Ythmgiagecgkmiaa.M
open Go.RowKit Go.Proofs.Ythmgiagecgkmiaa.Q Go.Proofs.YthmgiagecgkmiaaW.PrintWords Go.Proofs.YthmgiagecgkmiaaW.PrintLast Go.Proofs.YthmgiagecgkmiaaW.Pl Classical
set_option linter.unusedSimpArgs false

/-- The greatest common divisor as both texts compute it. -/
theorem gcd_run (d : Nat) : ∀ (a b : Int), 0 ≤ a → 0 ≤ b → b.toNat < d → ∃ g, (∀ k, impl_gcd.l0 (d + k) a b = some g) ∧ (∀ x y k, spec_l2Reduce.l0 (d + k) x y a b = if g = 0 then none else some (wrap64 (Int.tdiv x g), wrap64 (Int.tdiv y g))) ∧ 0 ≤ g ∧ (0 < a ∨ 0 < b → 0 < g) ∧ g ≤ max a b := by
  induction d with
  | zero => intro a b _ _ h; omega
  | succ d ih =>
    intro a b ha hb hd
    by_cases hz : b = 0
    · subst hz
      refine ⟨a, fun k => ?_, fun x y k => ?_, ha, fun h => by omega, by omega⟩
      · rw [show d + 1 + k = (d + k) + 1 by omega]; simp [impl_gcd.l0]
      · rw [show d + 1 + k = (d + k) + 1 by omega]; simp [spec_l2Reduce.l0]
    · have hm0 : 0 ≤ Int.tmod a b := Int.tmod_nonneg _ ha
      have hm1 : Int.tmod a b < b := Int.tmod_lt_of_pos _ (by omega)
      obtain ⟨g, h1, h2, h3, h4, h5⟩ := ih b (Int.tmod a b) hb hm0 (by omega)
      refine ⟨g, fun k => ?_, fun x y k => ?_, h3, fun _ => h4 (.inl (by omega)), by omega⟩
      · rw [show d + 1 + k = (d + k) + 1 by omega]; simp only [impl_gcd.l0]; rw [if_neg hz, h1]
      · rw [show d + 1 + k = (d + k) + 1 by omega]; simp only [spec_l2Reduce.l0]; rw [if_neg hz, h2]
theorem frac_run (x y : Int) (h0 : 0 ≤ x) (h1 : x ≤ 9223372036854775807) (h2 : 0 < y) : ∃ n m, ∀ k, spec_l2Reduce.f (y.toNat + 1 + k) x y = some (n, m) ∧ impl_fraction.f (y.toNat + 1 + k) x y = some (n, m) := by
  obtain ⟨g, ha, hb, hc, hd, _⟩ := gcd_run (y.toNat + 1) x y h0 (by omega) (by omega)
  have hg := hd (.inr h2)
  refine ⟨wrap64 (Int.tdiv x g), wrap64 (Int.tdiv y g), fun k => ⟨?_, ?_⟩⟩
  · unfold spec_l2Reduce.f spec_l1Most.f
    rw [w64 (x := -x) (by omega)]
    by_cases h : x > -x
    · rw [if_pos h]; simp only [Option.bind_some]; rw [hb, if_neg (by omega)]
    · have : x = 0 := by omega
      subst this
      simp only [Int.neg_zero, gt_iff_lt, Int.lt_irrefl, if_false, Option.bind_some]; rw [hb, if_neg (by omega)]
  · unfold impl_fraction.f impl_abs.f
    rw [w64 (x := -x) (by omega)]
    have : mx x (-x) = x := by unfold mx; omega
    simp only [Option.bind_some, this]
    unfold impl_gcd.f
    rw [ha]
    simp only [Option.bind_some]
    rw [if_neg (by omega)]
theorem fracE (x y : Int) (h0 : 0 ≤ x) (h1 : x ≤ 9223372036854775807) (h2 : 0 < y) : ∃ q, Ev (fun k => spec_l2Reduce.f k x y) q ∧ Ev (fun k => impl_fraction.f k x y) q := by
  obtain ⟨n, m, h⟩ := frac_run x y h0 h1 h2
  refine ⟨(n, m), ⟨y.toNat + 1, fun k hk => ?_⟩, ⟨y.toNat + 1, fun k hk => ?_⟩⟩
  · have := (h (k - (y.toNat + 1))).1
    rwa [show y.toNat + 1 + (k - (y.toNat + 1)) = k by omega] at this
  · have := (h (k - (y.toNat + 1))).2
    rwa [show y.toNat + 1 + (k - (y.toNat + 1)) = k by omega] at this
theorem okRow_bound (l : List S25) (h : goodM l = true) (i : Nat) (hi : i < l.length) : (0 ≤ (nth l i z25).f2 ∧ (nth l i z25).f2 ≤ 9000000) ∧ 0 ≤ (nth l i z25).f3 ∧ (nth l i z25).f3 ≤ 9999 := by
  unfold goodM at h
  rw [Bool.and_eq_true, range_all] at h
  have := h.2 i hi
  rw [Bool.and_eq_true] at this
  have h2 := this.1
  unfold okR okM at h2
  have h3 := of_decide_eq_true h2
  exact ⟨h3.2.2.1, h3.2.2.2.1⟩
theorem kRun (l : List S25) (hg : goodM l = true) : ∃ q, Ev (fun k => spec_KnotsAnHour.l0 k l 0 0 0) q ∧ Ev (fun k => impl_KnotsAnHour.l0 k 0 0 l (l.length : Int) 0) q := by
  have hl : l.length ≤ 12 := by
    unfold goodM at hg
    rw [Bool.and_eq_true] at hg
    exact of_decide_eq_true hg.1
  have main : ∀ d (i : Nat) (a b : Int), l.length - i = d → i ≤ l.length → (0 ≤ a ∧ a ≤ 9000000 * (i : Int)) → (0 ≤ b ∧ b ≤ 9999 * (i : Int)) → ∃ q, Ev (fun k => spec_KnotsAnHour.l0 k l a b (i : Int)) q ∧ Ev (fun k => impl_KnotsAnHour.l0 k a b l (l.length : Int) (i : Int)) q := by
    intro d
    induction d with
    | zero =>
      intro i a b hd hi ha hb
      have hil : i = l.length := by omega
      subst hil
      by_cases hb0 : b = 0
      · refine ⟨(0, 0, false), Ev.succ ?_, Ev.succ ?_⟩
        · simp only [spec_KnotsAnHour.l0, if_neg (show ¬ ((l.length : Int) < (l.length : Int)) by omega), if_pos hb0]
          exact Ev.now _
        · simp only [impl_KnotsAnHour.l0, if_neg (show ¬ ((l.length : Int) < (l.length : Int)) by omega), if_pos hb0]
          exact Ev.now _
      · obtain ⟨q, h1, h2⟩ := fracE a b (by omega) (by omega) (by omega)
        refine ⟨(q.1, q.2, true), Ev.succ ?_, Ev.succ ?_⟩
        · simp only [spec_KnotsAnHour.l0, if_neg (show ¬ ((l.length : Int) < (l.length : Int)) by omega), if_neg hb0]
          exact Ev.bind h1 (Ev.now _)
        · simp only [impl_KnotsAnHour.l0, if_neg (show ¬ ((l.length : Int) < (l.length : Int)) by omega), if_neg hb0]
          exact Ev.bind h2 (Ev.now _)
    | succ d ih =>
      intro i a b hd hi ha hb
      have hr := okRow_bound l hg i (by omega)
      obtain ⟨q, h1, h2⟩ := ih (i + 1) (a + (nth l i z25).f2) (b + (nth l i z25).f3) (by omega) (by omega) (by omega) (by omega)
      refine ⟨q, Ev.succ ?_, Ev.succ ?_⟩
      · simp only [spec_KnotsAnHour.l0, if_pos (show (i : Int) < (l.length : Int) by omega), if_pos (show (0 : Int) ≤ (i : Int) by omega), rd25, (show wrap64 ((i : Int) + 1) = ((i + 1 : Nat) : Int) by rw [w64 (by omega)]; omega), w64 (x := a + (nth l i z25).f2) (by omega), w64 (x := b + (nth l i z25).f3) (by omega)]
        exact h1
      · simp only [impl_KnotsAnHour.l0, if_pos (show (i : Int) < (l.length : Int) by omega), if_pos (show (0 : Int) ≤ (i : Int) by omega), rd25, (show wrap64 ((i : Int) + 1) = ((i + 1 : Nat) : Int) by rw [w64 (by omega)]; omega), w64 (x := a + (nth l i z25).f2) (by omega), w64 (x := b + (nth l i z25).f3) (by omega)]
        exact h2
  exact main l.length 0 0 0 rfl (by omega) (by omega) (by omega)
theorem knotsBoth (l : List S25) (hm : l.length ≤ 1048576) : ∃ q, Ev (fun k => spec_KnotsAnHour.f k l) q ∧ Ev (fun k => impl_KnotsAnHour.f k l) q := by
  unfold spec_KnotsAnHour.f impl_KnotsAnHour.f
  by_cases hg : goodM l = true
  · obtain ⟨q, hs, hi⟩ := kRun l hg
    refine ⟨q, Ev.bind (sGood l hm) ?_, Ev.bind (iGood l hm) ?_⟩
    · simp only [hg, if_true]; exact hs
    · simp only [hg, if_true]; exact hi
  · refine ⟨(0, 0, false), Ev.bind (sGood l hm) ?_, Ev.bind (iGood l hm) ?_⟩
    · simp only [hg, if_false, Bool.false_eq_true]; exact Ev.now _
    · simp only [hg, if_false, Bool.false_eq_true]; exact Ev.now _
end Go.Proofs.Ythmgiagecgkmiaa.M

import Derived.Test.YtkglpfdoefdhdaaMD
import Derived.Test.YtkglpfdoefdhdaaQx112
import Derived.Test.YtkglpfdoefdhdaaQx113
import Derived.Test.YtkglpfdoefdhdaaQx41
import Derived.Test.YtkglpfdoefdhdaaQx43
import Derived.Test.YtkglpfdoefdhdaaQx8888801
namespace Go.Proofs.Ytkglpfdoefdhdaa.M
open Go.RowKit Go.Proofs.Ytkglpfdoefdhdaa.Q Go.Proofs.YtkglpfdoefdhdaaW.PrintWords Go.Proofs.YtkglpfdoefdhdaaW.PrintLast Go.Proofs.YtkglpfdoefdhdaaW.Pl Classical
set_option linter.unusedSimpArgs false
set_option linter.unusedVariables false

/-- The patch of a hole. -/
def patchH (w h : Int) (x : S76) : S76 := ⟨mx (wrap64 (x.f0 - 1)) 0, mx (wrap64 (x.f1 - 1)) 0, mn (wrap64 (x.f2 + 1)) (wrap64 (h - 1)), mn (wrap64 (x.f3 + 1)) (wrap64 (w - 1))⟩
theorem iPatch (w h : Int) (c : List Int) (x : S76) : impl_Chart_patch.f w h c x.f0 x.f1 x.f2 x.f3 = some ((patchH w h x).f0, (patchH w h x).f1, (patchH w h x).f2, (patchH w h x).f3) := rfl
theorem mostMx (a : Int) : spec_l1Most.f 0 a = some (mx a 0) := by
  unfold spec_l1Most.f mx
  by_cases h : 0 > a
  · rw [if_pos h, if_pos (by omega)]
  · rw [if_neg h]
    by_cases h2 : a < 0
    · omega
    · rw [if_neg h2]
theorem leastMn (a b : Int) : spec_l1Least.f a b = some (mn b a) := by
  unfold spec_l1Least.f mn
  by_cases h : a < b
  · rw [if_pos h]
    by_cases h2 : b < a
    · omega
    · first | rw [if_pos (by omega)] | rw [if_neg (by omega)]
  · rw [if_neg h]
    by_cases h2 : a = b
    · subst h2; split <;> rfl
    · first | rw [if_neg (by omega)] | rw [if_pos (by omega)]
theorem sPatch (w h : Int) (c : List Int) (x : S76) : spec_l23Patch.f w h c x.f0 x.f1 x.f2 x.f3 = some ((patchH w h x).f0, (patchH w h x).f1, (patchH w h x).f2, (patchH w h x).f3) := by
  unfold spec_l23Patch.f
  simp only [mostMx, leastMn, Option.bind_some]
  rfl
/-- What is told of the pairs. -/
def pairsQ (q : List (List Int) × Bool) : Prop := q.1.length ≤ 64 ∧ ∀ x, x ∈ q.1 → x.length = 2
theorem pairs_snoc {s : List (List Int)} {a b : Int} (h : ∀ x, x ∈ s → x.length = 2) : ∀ x, x ∈ s ++ [[a, b]] → x.length = 2 := fun x hx => by
  rcases List.mem_append.1 hx with hx | hx
  · exact h x hx
  · rw [List.mem_singleton.1 hx]; rfl
theorem shareLoop (w h : Int) (c : List Int) (l : List S76) (hl : l.length ≤ 8) : ∀ d (i : Nat) (s : List (List Int)), l.length - i = d → i ≤ l.length → (∀ x, x ∈ s → x.length = 2) → s.length ≤ 8 * i →
    ∃ q, pairsQ q ∧ Ev (fun k => spec_ShareKnots.l0 k l s (i : Int) w h c) q ∧ Ev (fun k => impl_ShareKnots.l0 k l s (l.length : Int) (i : Int) w h c) q := by
  intro d
  induction d with
  | zero =>
    intro i s hd hi hs hn
    obtain rfl : i = l.length := by omega
    refine ⟨(s, true), ⟨by simp only; omega, hs⟩, Ev.succ ?_, Ev.succ ?_⟩
    · simp only [spec_ShareKnots.l0, if_neg (show ¬ ((l.length : Int) < (l.length : Int)) by omega)]
      exact Ev.now _
    · simp only [impl_ShareKnots.l0, if_neg (show ¬ ((l.length : Int) < (l.length : Int)) by omega)]
      exact Ev.now _
  | succ d ih =>
    intro i s hd hi hs hn
    have inner : ∀ e (j : Nat) (s : List (List Int)), l.length - j = e → j ≤ l.length → (∀ x, x ∈ s → x.length = 2) → s.length ≤ 8 * i + j →
        ∃ q, pairsQ q ∧ Ev (fun k => spec_ShareKnots.l1 k l s (i : Int) (j : Int) w h c) q ∧ Ev (fun k => impl_ShareKnots.l1 k l s (i : Int) (j : Int) (l.length : Int) (i : Int) w h c) q := by
      intro e
      induction e with
      | zero =>
        intro j s he hj hs hn
        obtain rfl : j = l.length := by omega
        obtain ⟨q, hq, g1, g2⟩ := ih (i + 1) s (by omega) (by omega) hs (by omega)
        refine ⟨q, hq, Ev.succ ?_, Ev.succ ?_⟩
        · simp only [spec_ShareKnots.l1, if_neg (show ¬ ((l.length : Int) < (l.length : Int)) by omega), stepI i (by omega)]
          exact g1
        · simp only [impl_ShareKnots.l1, if_neg (show ¬ ((l.length : Int) < (l.length : Int)) by omega), stepI i (by omega)]
          exact g2
      | succ e ihe =>
        intro j s he hj hs hn
        by_cases hm : meetH (patchH w h (nth l i z76)) (patchH w h (nth l j z76)) = true
        · obtain ⟨q, hq, g1, g2⟩ := ihe (j + 1) (s ++ [[(i : Int), (j : Int)]]) (by omega) (by omega) (pairs_snoc hs) (by simp; omega)
          refine ⟨q, hq, Ev.succ ?_, Ev.succ ?_⟩
          · simp only [spec_ShareKnots.l1, rd76, sPatch, sMeet, hm, Option.bind_some, if_pos (show (j : Int) < (l.length : Int) by omega), if_pos (show (0 : Int) ≤ (i : Int) by omega), if_pos (show (i : Int) < (l.length : Int) by omega), if_pos (show (0 : Int) ≤ (j : Int) by omega), if_true, if_pos (show s.length < 5864062014805 by omega), stepI j (by omega)]
            exact g1
          · simp only [impl_ShareKnots.l1, rd76, iPatch, iMeet, hm, Option.bind_some, if_pos (show (j : Int) < (l.length : Int) by omega), if_pos (show (0 : Int) ≤ (i : Int) by omega), if_pos (show (i : Int) < (l.length : Int) by omega), if_pos (show (0 : Int) ≤ (j : Int) by omega), if_true, if_pos (show s.length < 5864062014805 by omega), stepI j (by omega)]
            exact g2
        · obtain ⟨q, hq, g1, g2⟩ := ihe (j + 1) s (by omega) (by omega) hs (by omega)
          have hm' : meetH (patchH w h (nth l i z76)) (patchH w h (nth l j z76)) = false := by simpa using hm
          refine ⟨q, hq, Ev.succ ?_, Ev.succ ?_⟩
          · simp only [spec_ShareKnots.l1, rd76, sPatch, sMeet, hm', Option.bind_some, if_pos (show (j : Int) < (l.length : Int) by omega), if_pos (show (0 : Int) ≤ (i : Int) by omega), if_pos (show (i : Int) < (l.length : Int) by omega), if_pos (show (0 : Int) ≤ (j : Int) by omega), Bool.false_eq_true, if_false, stepI j (by omega)]
            exact g1
          · simp only [impl_ShareKnots.l1, rd76, iPatch, iMeet, hm', Option.bind_some, if_pos (show (j : Int) < (l.length : Int) by omega), if_pos (show (0 : Int) ≤ (i : Int) by omega), if_pos (show (i : Int) < (l.length : Int) by omega), if_pos (show (0 : Int) ≤ (j : Int) by omega), Bool.false_eq_true, if_false, stepI j (by omega)]
            exact g2
    obtain ⟨q, hq, g1, g2⟩ := inner (l.length - (i + 1)) (i + 1) s rfl (by omega) hs (by omega)
    refine ⟨q, hq, Ev.succ ?_, Ev.succ ?_⟩
    · simp only [spec_ShareKnots.l0, if_pos (show (i : Int) < (l.length : Int) by omega), stepI i (by omega)]
      exact g1
    · simp only [impl_ShareKnots.l0, if_pos (show (i : Int) < (l.length : Int) by omega), stepI i (by omega)]
      exact g2
theorem shareBoth (w h : Int) (c : List Int) (l : List S76) (hc : c.length ≤ 1048576) (hl : l.length ≤ 1048576) : ∃ q : List (List Int) × Bool, pairsQ q ∧ Ev (fun k => spec_ShareKnots.f k w h c l) q ∧ Ev (fun k => impl_ShareKnots.f k w h c l) q := by
  unfold spec_ShareKnots.f impl_ShareKnots.f
  simp only [Option.bind_some]
  cases hg : goodH w h c l with
  | true =>
    obtain ⟨q, hq, g1, g2⟩ := shareLoop w h c l (goodH_at hg).2.1 l.length 0 [] (by omega) (by omega) (by simp) (by simp)
    refine ⟨q, hq, Ev.bind (sHoles w h c l hc hl) ?_, Ev.bind (iHoles w h c l hl) ?_⟩
    · simp only [hg, if_true]
      exact g1
    · simp only [hg, if_true]
      exact g2
  | false =>
    refine ⟨([], false), ⟨by simp, by simp⟩, Ev.bind (sHoles w h c l hc hl) ?_, Ev.bind (iHoles w h c l hl) ?_⟩ <;>
    · simp only [hg, Bool.false_eq_true, if_false]
      exact Ev.now _
end Go.Proofs.Ytkglpfdoefdhdaa.M

import Derived.Test.YtkglpfdoefdhdaaMB
import Derived.Test.YtkglpfdoefdhdaaQx110
namespace Go.Proofs.Ytkglpfdoefdhdaa.M
open Go.RowKit Go.Proofs.Ytkglpfdoefdhdaa.Q Go.Proofs.YtkglpfdoefdhdaaW.PrintWords Go.Proofs.YtkglpfdoefdhdaaW.PrintLast Go.Proofs.YtkglpfdoefdhdaaW.Pl Classical
set_option linter.unusedSimpArgs false
set_option linter.unusedVariables false

theorem sInner (w h : Int) (c : List Int) (l : List S76) (i : Nat) (r : Bool) (hl : l.length ≤ 1048576) (hi : i < l.length) (hr : Ev (fun k => spec_l23Good.l0 k l ((i + 1 : Nat) : Int) w h c) r) :
    Ev (fun k => spec_l23Good.l1 k l (i : Int) 0 w h c (nth l i z76).f0 (nth l i z76).f1 (nth l i z76).f2 (nth l i z76).f3) (if freeH l i = true then r else false) := by
  have hs := scanE i (fun j => !meetH (nth l j z76) (nth l i z76)) r false (fun k j => spec_l23Good.l1 k l (i : Int) j w h c (nth l i z76).f0 (nth l i z76).f1 (nth l i z76).f2 (nth l i z76).f3) ?hs ?hb ?he
  case hs =>
    intro j q hj ho hq
    refine Ev.succ ?_
    have ho' : meetH (nth l j z76) (nth l i z76) = false := by simpa using ho
    simp only [spec_l23Good.l1, rd76, sMeet, ho', Option.bind_some, if_pos (show (j : Int) < (i : Int) by omega), if_pos (show (0 : Int) ≤ (j : Int) by omega), if_pos (show (j : Int) < (l.length : Int) by omega), stepI j (by omega), Bool.false_eq_true, if_false]
    exact hq
  case hb =>
    intro j hj ho
    refine Ev.succ ?_
    have ho' : meetH (nth l j z76) (nth l i z76) = true := by simpa using ho
    simp only [spec_l23Good.l1, rd76, sMeet, ho', Option.bind_some, if_pos (show (j : Int) < (i : Int) by omega), if_pos (show (0 : Int) ≤ (j : Int) by omega), if_pos (show (j : Int) < (l.length : Int) by omega), if_true]
    exact Ev.now _
  case he =>
    refine Ev.succ ?_
    simp only [spec_l23Good.l1, if_neg (show ¬ ((i : Int) < (i : Int)) by omega), stepI i (by omega)]
    exact hr
  exact hs
theorem sMid (w h : Int) (c : List Int) (l : List S76) (i : Nat) (r : Bool) (hl : l.length ≤ 1048576) (hi : i < l.length) (hr : Ev (fun k => spec_l23Good.l0 k l ((i + 1 : Nat) : Int) w h c) r) :
    Ev (fun k => spec_l23Good.j1 k l (i : Int) false w h c (nth l i z76).f0 (nth l i z76).f1 (nth l i z76).f2 (nth l i z76).f3) (if (ascH l i && freeH l i) = true then r else false) := by
  have hin := sInner w h c l i r hl hi hr
  have j2f : Ev (fun k => spec_l23Good.j2 k l (i : Int) false w h c (nth l i z76).f0 (nth l i z76).f1 (nth l i z76).f2 (nth l i z76).f3) (if freeH l i = true then r else false) := by
    refine Ev.succ ?_
    simp only [spec_l23Good.j2, Bool.false_eq_true, if_false]
    exact hin
  have j2t : Ev (fun k => spec_l23Good.j2 k l (i : Int) true w h c (nth l i z76).f0 (nth l i z76).f1 (nth l i z76).f2 (nth l i z76).f3) false := by
    refine Ev.succ ?_
    simp only [spec_l23Good.j2, if_true]
    exact Ev.now _
  refine Ev.succ ?_
  by_cases h0 : i = 0
  · have ha : ascH l i = true := by unfold ascH; simp [h0]
    simp only [spec_l23Good.j1, Bool.false_eq_true, if_false, if_neg (show ¬ ((i : Int) > 0) by omega), ha, Bool.true_and]
    exact j2f
  · simp only [spec_l23Good.j1, Bool.false_eq_true, if_false, if_pos (show (i : Int) > 0 by omega), predI i (by omega), if_pos (show (0 : Int) ≤ ((i - 1 : Nat) : Int) by omega), if_pos (show ((i - 1 : Nat) : Int) < (l.length : Int) by omega), rd76]
    by_cases h1 : (nth l (i - 1) z76).f0 > (nth l i z76).f0
    · have ha : ascH l i = false := by
        unfold ascH befH
        rw [Bool.or_eq_false_iff, decide_eq_false_iff_not, decide_eq_false_iff_not]
        exact ⟨h0, by omega⟩
      simp only [if_pos h1, ha, Bool.false_and, Bool.false_eq_true, if_false]
      exact j2t
    · by_cases h2 : (nth l (i - 1) z76).f0 = (nth l i z76).f0
      · by_cases h3 : (nth l (i - 1) z76).f1 ≥ (nth l i z76).f1
        · have ha : ascH l i = false := by
            unfold ascH befH
            rw [Bool.or_eq_false_iff, decide_eq_false_iff_not, decide_eq_false_iff_not]
            exact ⟨h0, by omega⟩
          simp only [if_neg h1, if_pos h2, decide_eq_true h3, ha, Bool.false_and, Bool.false_eq_true, if_false]
          exact j2t
        · have ha : ascH l i = true := by
            unfold ascH befH
            rw [Bool.or_eq_true, decide_eq_true_iff, decide_eq_true_iff]
            exact .inr (by omega)
          simp only [if_neg h1, if_pos h2, decide_eq_false h3, ha, Bool.true_and]
          exact j2f
      · have ha : ascH l i = true := by
          unfold ascH befH
          rw [Bool.or_eq_true, decide_eq_true_iff, decide_eq_true_iff]
          exact .inr (by omega)
        simp only [if_neg h1, if_neg h2, ha, Bool.true_and]
        exact j2f
theorem sInnerNo (w h : Int) (c : List Int) (l : List S76) (i : Nat) (hl : l.length ≤ 1048576) (hi : i < l.length) (hf : ¬ freeH l i = true) :
    Ev (fun k => spec_l23Good.l1 k l (i : Int) 0 w h c (nth l i z76).f0 (nth l i z76).f1 (nth l i z76).f2 (nth l i z76).f3) false := by
  have main : ∀ d (j : Nat), i - j = d → j ≤ i → (∃ k, j ≤ k ∧ k < i ∧ meetH (nth l k z76) (nth l i z76) = true) → Ev (fun k => spec_l23Good.l1 k l (i : Int) (j : Int) w h c (nth l i z76).f0 (nth l i z76).f1 (nth l i z76).f2 (nth l i z76).f3) false := by
    intro d
    induction d with
    | zero => intro j hd hj ⟨k, k1, k2, _⟩; omega
    | succ d ih =>
      intro j hd hj ⟨k, k1, k2, k3⟩
      refine Ev.succ ?_
      simp only [spec_l23Good.l1, rd76, sMeet, Option.bind_some, if_pos (show (j : Int) < (i : Int) by omega), if_pos (show (0 : Int) ≤ (j : Int) by omega), if_pos (show (j : Int) < (l.length : Int) by omega), stepI j (by omega)]
      by_cases hm : meetH (nth l j z76) (nth l i z76) = true
      · simp only [hm, if_true]
        exact Ev.now _
      · simp only [hm, Bool.false_eq_true, if_false]
        exact ih (j + 1) (by omega) (by omega) ⟨k, by
          by_cases e : k = j
          · subst e; exact absurd k3 hm
          · omega, k2, k3⟩
  refine main i 0 (by omega) (by omega) ?_
  unfold freeH at hf
  rw [range_all] at hf
  by_cases hx : ∃ k, 0 ≤ k ∧ k < i ∧ meetH (nth l k z76) (nth l i z76) = true
  · exact hx
  · refine absurd (fun k hk => ?_) hf
    cases hm : meetH (nth l k z76) (nth l i z76) with
    | false => rfl
    | true => exact absurd ⟨k, Nat.zero_le _, hk, hm⟩ hx
theorem sMidNo (w h : Int) (c : List Int) (l : List S76) (i : Nat) (hl : l.length ≤ 1048576) (hi : i < l.length) (hno : ¬ (ascH l i && freeH l i) = true) :
    Ev (fun k => spec_l23Good.j1 k l (i : Int) false w h c (nth l i z76).f0 (nth l i z76).f1 (nth l i z76).f2 (nth l i z76).f3) false := by
  have j2f : ascH l i = true → Ev (fun k => spec_l23Good.j2 k l (i : Int) false w h c (nth l i z76).f0 (nth l i z76).f1 (nth l i z76).f2 (nth l i z76).f3) false := fun ha => by
    rw [ha, Bool.true_and] at hno
    refine Ev.succ ?_
    simp only [spec_l23Good.j2, Bool.false_eq_true, if_false]
    exact sInnerNo w h c l i hl hi hno
  have j2t : Ev (fun k => spec_l23Good.j2 k l (i : Int) true w h c (nth l i z76).f0 (nth l i z76).f1 (nth l i z76).f2 (nth l i z76).f3) false := by
    refine Ev.succ ?_
    simp only [spec_l23Good.j2, if_true]
    exact Ev.now _
  refine Ev.succ ?_
  by_cases h0 : i = 0
  · have ha : ascH l i = true := by unfold ascH; simp [h0]
    simp only [spec_l23Good.j1, Bool.false_eq_true, if_false, if_neg (show ¬ ((i : Int) > 0) by omega)]
    exact j2f ha
  · simp only [spec_l23Good.j1, Bool.false_eq_true, if_false, if_pos (show (i : Int) > 0 by omega), predI i (by omega), if_pos (show (0 : Int) ≤ ((i - 1 : Nat) : Int) by omega), if_pos (show ((i - 1 : Nat) : Int) < (l.length : Int) by omega), rd76]
    by_cases h1 : (nth l (i - 1) z76).f0 > (nth l i z76).f0
    · have ha : ascH l i = false := by
        unfold ascH befH
        rw [Bool.or_eq_false_iff, decide_eq_false_iff_not, decide_eq_false_iff_not]
        exact ⟨h0, by omega⟩
      simp only [if_pos h1]
      exact j2t
    · by_cases h2 : (nth l (i - 1) z76).f0 = (nth l i z76).f0
      · by_cases h3 : (nth l (i - 1) z76).f1 ≥ (nth l i z76).f1
        · have ha : ascH l i = false := by
            unfold ascH befH
            rw [Bool.or_eq_false_iff, decide_eq_false_iff_not, decide_eq_false_iff_not]
            exact ⟨h0, by omega⟩
          simp only [if_neg h1, if_pos h2, decide_eq_true h3]
          exact j2t
        · have ha : ascH l i = true := by
            unfold ascH befH
            rw [Bool.or_eq_true, decide_eq_true_iff, decide_eq_true_iff]
            exact .inr (by omega)
          simp only [if_neg h1, if_pos h2, decide_eq_false h3]
          exact j2f ha
      · have ha : ascH l i = true := by
          unfold ascH befH
          rw [Bool.or_eq_true, decide_eq_true_iff, decide_eq_true_iff]
          exact .inr (by omega)
        simp only [if_neg h1, if_neg h2]
        exact j2f ha
/-- As the reference asks it (the bounds may wrap where the chart is not valid). -/
def okHw (w h : Int) (x : S76) : Bool := decide ((0 ≤ x.f2 ∧ x.f2 ≤ wrap64 (h - 1)) ∧ (0 ≤ x.f0 ∧ x.f0 ≤ x.f2) ∧ (0 ≤ x.f3 ∧ x.f3 ≤ wrap64 (w - 1)) ∧ (0 ≤ x.f1 ∧ x.f1 ≤ x.f3))
theorem okHw_eq {w h : Int} {c : List Int} (hg : goodC w h c = true) (x : S76) : okHw w h x = okH w h x := by
  obtain ⟨h1, h2, _⟩ := goodC_at hg
  unfold okHw okH
  rw [w64 (x := h - 1) (by omega), w64 (x := w - 1) (by omega)]
theorem sHoles (w h : Int) (c : List Int) (l : List S76) (hc : c.length ≤ 1048576) (hl : l.length ≤ 1048576) : Ev (fun k => spec_l23Good.f k w h c l) (goodH w h c l) := by
  unfold spec_l23Good.f
  have hs := scanE l.length (fun i => okHw w h (nth l i z76) && (ascH l i && freeH l i)) (goodC w h c && decide (l.length ≤ 8)) false (fun k i => spec_l23Good.l0 k l i w h c) ?hs ?hb ?he
  case hs =>
    intro i r hi ho hr
    rw [Bool.and_eq_true] at ho
    obtain ⟨h1, h2⟩ := ho
    have hm := sMid w h c l i r hl hi hr
    rw [if_pos h2] at hm
    unfold okHw at h1
    have h1 := of_decide_eq_true h1
    refine Ev.succ ?_
    simp only [spec_l23Good.l0, rd76, l1In, Option.bind_some, if_pos (show (i : Int) < (l.length : Int) by omega), if_pos (show (0 : Int) ≤ (i : Int) by omega), h1, and_self, decide_true, if_true, Bool.not_true]
    exact hm
  case hb =>
    intro i hi ho
    have j1t : Ev (fun k => spec_l23Good.j1 k l (i : Int) true w h c (nth l i z76).f0 (nth l i z76).f1 (nth l i z76).f2 (nth l i z76).f3) false := by
      refine Ev.succ ?_
      simp only [spec_l23Good.j1, if_true]
      exact Ev.now _
    refine Ev.succ ?_
    simp only [spec_l23Good.l0, rd76, l1In, Option.bind_some, if_pos (show (i : Int) < (l.length : Int) by omega), if_pos (show (0 : Int) ≤ (i : Int) by omega)]
    by_cases h1 : okHw w h (nth l i z76) = true
    · rw [h1, Bool.true_and] at ho
      unfold okHw at h1
      have h1 := of_decide_eq_true h1
      simp only [h1, and_self, decide_true, if_true, Bool.not_true]
      exact sMidNo w h c l i hl hi (by rw [ho]; simp)
    · unfold okHw at h1
      rw [decide_eq_true_iff] at h1
      by_cases g1 : 0 ≤ (nth l i z76).f2 ∧ (nth l i z76).f2 ≤ wrap64 (h - 1) <;> simp only [g1, and_self, decide_true, decide_false, if_true, Bool.false_eq_true, if_false, Bool.not_false, Bool.not_true]
      · by_cases g2 : 0 ≤ (nth l i z76).f0 ∧ (nth l i z76).f0 ≤ (nth l i z76).f2 <;> simp only [g2, and_self, decide_true, decide_false, if_true, Bool.false_eq_true, if_false, Bool.not_false, Bool.not_true]
        · by_cases g3 : 0 ≤ (nth l i z76).f3 ∧ (nth l i z76).f3 ≤ wrap64 (w - 1) <;> simp only [g3, and_self, decide_true, decide_false, if_true, Bool.false_eq_true, if_false, Bool.not_false, Bool.not_true]
          · by_cases g4 : 0 ≤ (nth l i z76).f1 ∧ (nth l i z76).f1 ≤ (nth l i z76).f3 <;> simp only [g4, and_self, decide_true, decide_false, if_true, Bool.false_eq_true, if_false, Bool.not_false, Bool.not_true]
            · exact absurd ⟨g1, g2, g3, g4⟩ h1
            · exact j1t
          · exact j1t
        · exact j1t
      · exact j1t
  case he =>
    refine Ev.succ ?_
    simp only [spec_l23Good.l0, if_neg (show ¬ ((l.length : Int) < (l.length : Int)) by omega)]
    refine Ev.bind (sGood w h c hc) ?_
    cases hg : goodC w h c with
    | true =>
      simp only [if_true, Bool.true_and]
      refine Ev.c ?_
      congr 1
      rw [decide_eq_decide]
      omega
    | false =>
      simp only [Bool.false_eq_true, if_false, Bool.false_and]
      exact Ev.now _
  have e : (if ((List.range l.length).all fun i => okHw w h (nth l i z76) && (ascH l i && freeH l i)) = true then (goodC w h c && decide (l.length ≤ 8)) else false) = goodH w h c l := by
    unfold goodH
    cases hg : goodC w h c with
    | false => simp
    | true =>
      have e2 : (fun i => okHw w h (nth l i z76) && (ascH l i && freeH l i)) = fun i => holeAt w h l i := by
        funext i
        unfold holeAt
        rw [okHw_eq hg]
      rw [e2]
      generalize (List.range l.length).all _ = b
      cases b <;> simp
  rw [e] at hs
  exact hs
end Go.Proofs.Ytkglpfdoefdhdaa.M

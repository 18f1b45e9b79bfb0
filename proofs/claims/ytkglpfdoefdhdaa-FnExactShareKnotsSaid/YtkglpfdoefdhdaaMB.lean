import Derived.Test.YtkglpfdoefdhdaaMA
import Derived.Test.YtkglpfdoefdhdaaQx1000131
import Derived.Test.YtkglpfdoefdhdaaQx104
import Derived.Test.YtkglpfdoefdhdaaQx111
import Derived.Test.YtkglpfdoefdhdaaQx114
import Derived.Test.YtkglpfdoefdhdaaQx144
import Derived.Test.YtkglpfdoefdhdaaQx8888801
namespace Go.Proofs.Ytkglpfdoefdhdaa.M
open Go.RowKit Go.Proofs.Ytkglpfdoefdhdaa.Q Go.Proofs.YtkglpfdoefdhdaaW.PrintWords Go.Proofs.YtkglpfdoefdhdaaW.PrintLast Go.Proofs.YtkglpfdoefdhdaaW.Pl Classical
set_option linter.unusedSimpArgs false
set_option linter.unusedVariables false

theorem l1In (a b c : Int) : spec_l1In.f a b c = some (decide (b ≤ a ∧ a ≤ c)) := by
  unfold spec_l1In.f
  by_cases h : b ≤ a <;> by_cases h2 : a ≤ c <;> simp [h, h2]
theorem iIn (a b c : Int) : impl_in.f a b c = some (decide (b ≤ a ∧ a ≤ c)) := by
  unfold impl_in.f
  by_cases h : b ≤ a <;> by_cases h2 : a ≤ c <;> simp [h, h2]
/-- A valid chart. -/
def okK (x : Int) : Bool := decide (0 ≤ x ∧ x ≤ 5)
def goodC (w h : Int) (l : List Int) : Bool := decide ((1 ≤ w ∧ w ≤ 8) ∧ (1 ≤ h ∧ h ≤ 8) ∧ (l.length : Int) = wrap64 (w * h)) && (List.range l.length).all fun i => okK (nth l i 0)
theorem goodC_at {w h : Int} {l : List Int} (hg : goodC w h l = true) : (1 ≤ w ∧ w ≤ 8) ∧ (1 ≤ h ∧ h ≤ 8) ∧ (l.length : Int) = w * h ∧ l.length ≤ 64 ∧ ∀ i, i < l.length → 0 ≤ nth l i 0 ∧ nth l i 0 ≤ 5 := by
  unfold goodC at hg
  rw [Bool.and_eq_true, decide_eq_true_iff, range_all] at hg
  obtain ⟨⟨h1, h2, h3⟩, h4⟩ := hg
  have hm := mul_b (a := w) (b := h) (A := 8) (B := 8) (by omega) h1.2 (by omega) h2.2
  rw [w64 (x := w * h) (by omega)] at h3
  exact ⟨h1, h2, h3, by omega, fun i hi => of_decide_eq_true (h4 i hi)⟩
theorem sGood (w h : Int) (l : List Int) (hl : l.length ≤ 1048576) : Ev (fun k => spec_l2Good.f k w h l) (goodC w h l) := by
  unfold spec_l2Good.f
  have hs := scanE l.length (fun i => okK (nth l i 0)) (decide ((1 ≤ w ∧ w ≤ 8) ∧ (1 ≤ h ∧ h ≤ 8) ∧ (l.length : Int) = wrap64 (w * h))) false (fun k i => spec_l2Good.l0 k i w h l) ?hs ?hb ?he
  case hs =>
    intro i r hi ho hr
    refine Ev.succ ?_
    simp only [spec_l2Good.l0, spec_l2Color.f, rdI, l1In, Option.bind_some, if_pos (show (i : Int) < (l.length : Int) by omega), if_pos (show (0 : Int) ≤ (i : Int) by omega), stepI i (by omega), show decide (0 ≤ nth l i 0 ∧ nth l i 0 ≤ 5) = true from ho, if_true]
    exact hr
  case hb =>
    intro i hi ho
    refine Ev.succ ?_
    simp only [spec_l2Good.l0, spec_l2Color.f, rdI, l1In, Option.bind_some, if_pos (show (i : Int) < (l.length : Int) by omega), if_pos (show (0 : Int) ≤ (i : Int) by omega), show decide (0 ≤ nth l i 0 ∧ nth l i 0 ≤ 5) = false from ho, Bool.false_eq_true, if_false]
    exact Ev.now _
  case he =>
    refine Ev.succ ?_
    simp only [spec_l2Good.l0, spec_l2Side.f, l1In, Option.bind_some, if_neg (show ¬ ((l.length : Int) < (l.length : Int)) by omega)]
    by_cases h1 : 1 ≤ w ∧ w ≤ 8
    · by_cases h2 : 1 ≤ h ∧ h ≤ 8
      · simp only [h1, h2, and_self, decide_true, if_true, true_and]
        refine Ev.c ?_
        by_cases h3 : (l.length : Int) = wrap64 (w * h)
        · simp [h3]
        · simp [h3]
      · simp only [h1, h2, and_self, decide_true, if_true, decide_false, Bool.false_eq_true, if_false, false_and, and_false]
        first | done | exact Ev.now _
    · simp only [h1, decide_false, Bool.false_eq_true, if_false, false_and]
      first | done | exact Ev.now _
  have e : (if ((List.range l.length).all fun i => okK (nth l i 0)) = true then decide ((1 ≤ w ∧ w ≤ 8) ∧ (1 ≤ h ∧ h ≤ 8) ∧ (l.length : Int) = wrap64 (w * h)) else false) = goodC w h l := by
    unfold goodC
    generalize (List.range l.length).all _ = b
    cases b <;> simp
  rw [e] at hs
  exact hs
theorem all_nth {α : Type} {l : List α} {p : α → Bool} (z : α) : l.all p = (List.range l.length).all fun i => p (nth l i z) := by
  rw [Bool.eq_iff_iff, all_iff_nth z, range_all]
theorem iChart (w h : Int) (l : List Int) : impl_IsChart.f w h l = some (goodC w h l) := by
  unfold impl_IsChart.f impl_isSide.f impl_areAll_int__impl_isColor.f goodC
  rw [all_total (p := okK) (fun x _ => by unfold impl_isColor.f okK; rw [iIn]; rfl), all_nth (p := okK) 0]
  simp only [iIn, Option.bind_some]
  by_cases h1 : 1 ≤ w ∧ w ≤ 8
  · by_cases h2 : 1 ≤ h ∧ h ≤ 8
    · by_cases h3 : (l.length : Int) = wrap64 (w * h)
      · simp [h1, h2, h3]
      · simp [h1, h2, h3]
    · simp [h1, h2]
  · simp [h1]
/-- A valid hole of a chart; before another one; one that meets another one. -/
def okH (w h : Int) (x : S76) : Bool := decide ((0 ≤ x.f2 ∧ x.f2 ≤ h - 1) ∧ (0 ≤ x.f0 ∧ x.f0 ≤ x.f2) ∧ (0 ≤ x.f3 ∧ x.f3 ≤ w - 1) ∧ (0 ≤ x.f1 ∧ x.f1 ≤ x.f3))
def befH (x y : S76) : Bool := decide (x.f0 < y.f0 ∨ x.f0 = y.f0 ∧ x.f1 < y.f1)
def meetH (x y : S76) : Bool := decide (x.f0 ≤ y.f2 ∧ y.f0 ≤ x.f2 ∧ x.f1 ≤ y.f3 ∧ y.f1 ≤ x.f3)
def freeH (l : List S76) (i : Nat) : Bool := (List.range i).all fun k => !meetH (nth l k z76) (nth l i z76)
def ascH (l : List S76) (i : Nat) : Bool := decide (i = 0) || befH (nth l (i - 1) z76) (nth l i z76)
def holeAt (w h : Int) (l : List S76) (i : Nat) : Bool := okH w h (nth l i z76) && (ascH l i && freeH l i)
def goodH (w h : Int) (c : List Int) (l : List S76) : Bool := (goodC w h c && decide (l.length ≤ 8)) && (List.range l.length).all fun i => holeAt w h l i
theorem goodH_at {w h : Int} {c : List Int} {l : List S76} (hg : goodH w h c l = true) : goodC w h c = true ∧ l.length ≤ 8 ∧ ∀ i, i < l.length → holeAt w h l i = true := by
  unfold goodH at hg
  rw [Bool.and_eq_true, Bool.and_eq_true, decide_eq_true_iff, range_all] at hg
  exact ⟨hg.1.1, hg.1.2, hg.2⟩
theorem sMeet (x y : S76) : spec_l23Meet.f x.f0 x.f1 x.f2 x.f3 y.f0 y.f1 y.f2 y.f3 = some (meetH x y) := by
  unfold spec_l23Meet.f meetH
  by_cases h1 : x.f0 ≤ y.f2 <;> by_cases h2 : y.f0 ≤ x.f2 <;> by_cases h3 : x.f1 ≤ y.f3 <;> simp [h1, h2, h3]
theorem iMeet (x y : S76) : impl_Hole_meets.f x.f0 x.f1 x.f2 x.f3 y.f0 y.f1 y.f2 y.f3 = some (meetH x y) := by
  unfold impl_Hole_meets.f meetH
  by_cases h1 : x.f0 ≤ y.f2 <;> by_cases h2 : y.f0 ≤ x.f2 <;> by_cases h3 : x.f1 ≤ y.f3 <;> simp [h1, h2, h3]
theorem meet_comm (x y : S76) : meetH x y = meetH y x := by
  unfold meetH
  rw [decide_eq_decide]
  omega
theorem any_total {α : Type} {f : α → Option Bool} {p : α → Bool} : ∀ {l : List α}, (∀ x, x ∈ l → f x = some (p x)) → (l.mapM f).map (fun bs => bs.any id) = some (l.any p)
  | [], _ => by simp
  | x :: l, h => by
    have ih := any_total (f := f) (p := p) (l := l) (fun y hy => h y (List.mem_cons_of_mem _ hy))
    rw [List.mapM_cons, h x (List.mem_cons_self)]
    cases hm : l.mapM f with
    | none => rw [hm] at ih; cases ih
    | some bs =>
      rw [hm] at ih
      simp only [Option.map_some, Option.some.injEq] at ih
      simp [ih]
theorem iAnyMeets (l : List S76) (y : S76) : impl_Hole_131__impl_Hole_meets.f l y.f0 y.f1 y.f2 y.f3 = some (l.any fun x => meetH y x) := by
  unfold impl_Hole_131__impl_Hole_meets.f
  exact any_total (fun x _ => iMeet y x)
end Go.Proofs.Ytkglpfdoefdhdaa.M

import Derived.Test.YtkglpfdoefdhdaaMC
import Derived.Test.YtkglpfdoefdhdaaQx1000129
import Derived.Test.YtkglpfdoefdhdaaQx117
import Derived.Test.YtkglpfdoefdhdaaQx130
import Derived.Test.YtkglpfdoefdhdaaQx63
import Derived.Test.YtkglpfdoefdhdaaQx85
import Derived.Test.YtkglpfdoefdhdaaQx8888801
namespace Go.Proofs.Ytkglpfdoefdhdaa.M
open Go.RowKit Go.Proofs.Ytkglpfdoefdhdaa.Q Go.Proofs.YtkglpfdoefdhdaaW.PrintWords Go.Proofs.YtkglpfdoefdhdaaW.PrintLast Go.Proofs.YtkglpfdoefdhdaaW.Pl Classical
set_option linter.unusedSimpArgs false
set_option linter.unusedVariables false

/-- cmp.Compare and cmp.Or of two. -/
def cmpI (a b : Int) : Int := if a < b then -1 else if a > b then 1 else 0
def orI (a b : Int) : Int := if a ≠ 0 then a else b
theorem cmp_f (a b : Int) : cmp_Compare_int.f a b = some (cmpI a b) := by
  unfold cmp_Compare_int.f cmp_isNaN_int.f cmpI
  rw [show (a != a) = false by simp, show (b != b) = false by simp]
  simp only [Option.bind_some, Bool.false_eq_true, if_false]
  repeat' split
  all_goals rfl
theorem or_f (a b : Int) : Ev (fun k => cmp_Or_int.f k [a, b]) (orI a b) := by
  have h2 : wrap64 1 = 1 := by unfold wrap64; omega
  have h3 : wrap64 2 = 2 := by unfold wrap64; omega
  have h0 : cmp_Or_int.f 4 [a, b] = some (orI a b) := by
    unfold cmp_Or_int.f orI
    by_cases h : a = 0
    · by_cases h' : b = 0
      · simp [cmp_Or_int.l0, rd, h2, h3, h, h']
      · simp [cmp_Or_int.l0, rd, h2, h3, h, h']
    · simp [cmp_Or_int.l0, rd, h2, h3, h]
  exact ⟨4, fun k hk => at_rounds (cmp_Or_int.mono [a, b]) hk h0⟩
theorem iComp (x y : S76) : Ev (fun k => impl_Hole_compare.f k x.f0 x.f1 x.f2 x.f3 y.f0 y.f1 y.f2 y.f3) (orI (cmpI x.f0 y.f0) (cmpI x.f1 y.f1)) := by
  unfold impl_Hole_compare.f
  simp only [cmp_f, Option.bind_some]
  exact Ev.bind (or_f _ _) (Ev.now _)
theorem comp_bef (x y : S76) : orI (cmpI x.f0 y.f0) (cmpI x.f1 y.f1) ≥ 0 ↔ befH x y = false := by
  unfold befH
  rw [decide_eq_false_iff_not]
  unfold orI cmpI
  repeat' split
  all_goals omega
theorem iPlace (w h : Int) (c : List Int) (a b : Int) : impl_Chart_hasPlace.f w h c a b = some (decide ((0 ≤ a ∧ a ≤ wrap64 (h - 1)) ∧ 0 ≤ b ∧ b ≤ wrap64 (w - 1))) := by
  unfold impl_Chart_hasPlace.f
  simp only [iIn, Option.bind_some]
  by_cases h1 : 0 ≤ a ∧ a ≤ wrap64 (h - 1) <;> simp [h1]
theorem iIsHole {w h : Int} {c : List Int} (hg : goodC w h c = true) (x : S76) : impl_Chart_isHole.f w h c x.f0 x.f1 x.f2 x.f3 = some (okH w h x) := by
  obtain ⟨h1, h2, _⟩ := goodC_at hg
  unfold impl_Chart_isHole.f okH
  rw [iPlace, iPlace, w64 (x := h - 1) (by omega), w64 (x := w - 1) (by omega)]
  simp only [Option.bind_some]
  by_cases g1 : (0 ≤ x.f0 ∧ x.f0 ≤ h - 1) ∧ 0 ≤ x.f1 ∧ x.f1 ≤ w - 1
  · by_cases g2 : (0 ≤ x.f2 ∧ x.f2 ≤ h - 1) ∧ 0 ≤ x.f3 ∧ x.f3 ≤ w - 1
    · by_cases g3 : x.f0 ≤ x.f2
      · simp only [decide_eq_true g1, decide_eq_true g2, if_true, if_pos g3]
        congr 1
        rw [decide_eq_decide]
        omega
      · simp only [decide_eq_true g1, decide_eq_true g2, if_true, if_neg g3]
        rw [decide_eq_false (by omega)]
    · simp only [decide_eq_true g1, decide_eq_false g2, if_true, Bool.false_eq_true, if_false]
      rw [decide_eq_false (by omega)]
  · simp only [decide_eq_false g1, Bool.false_eq_true, if_false]
    rw [decide_eq_false (by omega)]
theorem free_take (l : List S76) (i : Nat) (hi : i < l.length) : freeH l i = !((l.take i).any fun x => meetH (nth l i z76) x) := by
  rw [Bool.eq_iff_iff, Bool.not_eq_true', List.any_eq_false]
  unfold freeH
  rw [range_all]
  constructor
  · intro h x hx
    obtain ⟨k, hk, rfl⟩ := List.mem_iff_getElem.1 hx
    rw [List.length_take] at hk
    have := h k (by omega)
    rw [List.getElem_take, meet_comm, ← nth_get (z := z76)]
    simpa using this
  · intro h k hk
    have := h (l[k]'(by omega)) (by
      rw [List.mem_iff_getElem]
      exact ⟨k, by rw [List.length_take]; omega, by rw [List.getElem_take]⟩)
    rw [meet_comm, ← nth_get (z := z76)] at this
    simpa using this
theorem iHoles (w h : Int) (c : List Int) (l : List S76) (hl : l.length ≤ 1048576) : Ev (fun k => impl_AreHoles.f k w h c l) (goodH w h c l) := by
  unfold impl_AreHoles.f
  rw [iChart]
  have j0t : Ev (fun k => impl_AreHoles.j0 k l true) false := by
    refine Ev.succ ?_
    simp only [impl_AreHoles.j0, if_true]
    exact Ev.now _
  simp only [Option.bind_some]
  cases hg : goodC w h c with
  | false =>
    simp only [Bool.false_eq_true, if_false]
    have : goodH w h c l = false := by unfold goodH; rw [hg]; simp
    rw [this]
    exact j0t
  | true =>
    simp only [if_true]
    by_cases h8 : l.length ≤ 8
    · simp only [if_neg (show ¬ (l.length : Int) > 8 by omega)]
      unfold impl_Hole_129__impl_Chart_isHole.f
      rw [all_total (p := okH w h) (fun x _ => iIsHole hg x), all_nth (p := okH w h) z76]
      simp only [Option.bind_some]
      by_cases ha : ((List.range l.length).all fun i => okH w h (nth l i z76)) = true
      · simp only [ha, Bool.not_true]
        refine Ev.succ ?_
        simp only [impl_AreHoles.j0, Bool.false_eq_true, if_false]
        have hs := scanE l.length (fun i => ascH l i && freeH l i) true false (fun k i => impl_AreHoles.l0 k l l (l.length : Int) i) ?hs ?hb ?he
        case hs =>
          intro i r hi ho hr
          rw [Bool.and_eq_true] at ho
          obtain ⟨h1, h2⟩ := ho
          rw [free_take l i hi] at h2
          have h2' : ((l.take i).any fun x => meetH (nth l i z76) x) = false := by simpa using h2
          refine Ev.succ ?_
          by_cases h0 : i = 0
          · simp only [impl_AreHoles.l0, rd76, if_pos (show (i : Int) < (l.length : Int) by omega), if_pos (show (0 : Int) ≤ (i : Int) by omega), if_neg (show ¬ (i : Int) > 0 by omega), if_pos (show (i : Int) ≤ (l.length : Int) by omega), Int.toNat_natCast, iAnyMeets, Option.bind_some, h2', Bool.false_eq_true, if_false, stepI i (by omega)]
            exact hr
          · have hb : befH (nth l (i - 1) z76) (nth l i z76) = true := by
              unfold ascH at h1
              rw [Bool.or_eq_true, decide_eq_true_iff] at h1
              exact h1.resolve_left h0
            simp only [impl_AreHoles.l0, rd76, if_pos (show (i : Int) < (l.length : Int) by omega), if_pos (show (0 : Int) ≤ (i : Int) by omega), if_pos (show (i : Int) > 0 by omega), predI i (by omega), if_pos (show (0 : Int) ≤ ((i - 1 : Nat) : Int) by omega), if_pos (show ((i - 1 : Nat) : Int) < (l.length : Int) by omega)]
            refine Ev.bind (iComp _ _) ?_
            have hn : ¬ orI (cmpI (nth l (i - 1) z76).f0 (nth l i z76).f0) (cmpI (nth l (i - 1) z76).f1 (nth l i z76).f1) ≥ 0 := fun hh => by rw [(comp_bef _ _).1 hh] at hb; cases hb
            simp only [if_neg hn, if_pos (show (i : Int) ≤ (l.length : Int) by omega), Int.toNat_natCast, iAnyMeets, Option.bind_some, h2', Bool.false_eq_true, if_false, stepI i (by omega)]
            exact hr
        case hb =>
          intro i hi ho
          refine Ev.succ ?_
          by_cases h0 : i = 0
          · have h2' : ((l.take i).any fun x => meetH (nth l i z76) x) = true := by
              rw [free_take l i hi] at ho
              exfalso
              simp [ascH, h0] at ho
            simp only [impl_AreHoles.l0, rd76, if_pos (show (i : Int) < (l.length : Int) by omega), if_pos (show (0 : Int) ≤ (i : Int) by omega), if_neg (show ¬ (i : Int) > 0 by omega), if_pos (show (i : Int) ≤ (l.length : Int) by omega), Int.toNat_natCast, iAnyMeets, Option.bind_some, h2', if_true]
            exact Ev.now _
          · simp only [impl_AreHoles.l0, rd76, if_pos (show (i : Int) < (l.length : Int) by omega), if_pos (show (0 : Int) ≤ (i : Int) by omega), if_pos (show (i : Int) > 0 by omega), predI i (by omega), if_pos (show (0 : Int) ≤ ((i - 1 : Nat) : Int) by omega), if_pos (show ((i - 1 : Nat) : Int) < (l.length : Int) by omega)]
            refine Ev.bind (iComp _ _) ?_
            by_cases hb : befH (nth l (i - 1) z76) (nth l i z76) = true
            · have hn : ¬ orI (cmpI (nth l (i - 1) z76).f0 (nth l i z76).f0) (cmpI (nth l (i - 1) z76).f1 (nth l i z76).f1) ≥ 0 := fun hh => by rw [(comp_bef _ _).1 hh] at hb; cases hb
              have h2' : ((l.take i).any fun x => meetH (nth l i z76) x) = true := by
                rw [free_take l i hi] at ho
                unfold ascH at ho
                simpa [h0, hb] using ho
              simp only [if_neg hn, if_pos (show (i : Int) ≤ (l.length : Int) by omega), Int.toNat_natCast, iAnyMeets, Option.bind_some, h2', if_true]
              exact Ev.now _
            · have hn : orI (cmpI (nth l (i - 1) z76).f0 (nth l i z76).f0) (cmpI (nth l (i - 1) z76).f1 (nth l i z76).f1) ≥ 0 := (comp_bef _ _).2 (by simpa using hb)
              simp only [if_pos hn]
              exact Ev.now _
        case he =>
          refine Ev.succ ?_
          simp only [impl_AreHoles.l0, if_neg (show ¬ ((l.length : Int) < (l.length : Int)) by omega)]
          exact Ev.now _
        have e : (if ((List.range l.length).all fun i => ascH l i && freeH l i) = true then true else false) = goodH w h c l := by
          unfold goodH
          rw [hg, decide_eq_true h8]
          simp only [Bool.true_and]
          have e2 : ((List.range l.length).all fun i => holeAt w h l i) = ((List.range l.length).all fun i => ascH l i && freeH l i) := by
            rw [Bool.eq_iff_iff, range_all, range_all]
            rw [range_all] at ha
            exact ⟨fun hh i hi => by have := hh i hi; unfold holeAt at this; rw [Bool.and_eq_true] at this; exact this.2, fun hh i hi => by unfold holeAt; rw [ha i hi, hh i hi]; rfl⟩
          rw [e2]
          generalize (List.range l.length).all _ = b
          cases b <;> rfl
        rw [e] at hs
        exact hs
      · have hf : ((List.range l.length).all fun i => okH w h (nth l i z76)) = false := by simpa using ha
        simp only [hf, Bool.not_false]
        have : goodH w h c l = false := by
          cases hh : goodH w h c l with
          | false => rfl
          | true =>
            refine absurd ?_ ha
            rw [range_all]
            intro i hi
            have := (goodH_at hh).2.2 i hi
            unfold holeAt at this
            rw [Bool.and_eq_true] at this
            exact this.1
        rw [this]
        exact j0t
    · simp only [if_pos (show (l.length : Int) > 8 by omega)]
      have : goodH w h c l = false := by unfold goodH; rw [decide_eq_false h8]; simp
      rw [this]
      exact j0t
end Go.Proofs.Ytkglpfdoefdhdaa.M

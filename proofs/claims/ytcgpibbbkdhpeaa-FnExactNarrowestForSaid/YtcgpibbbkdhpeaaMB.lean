import Derived.Test.YtcgpibbbkdhpeaaMA
import Derived.Test.YtcgpibbbkdhpeaaQx25
import Derived.Test.YtcgpibbbkdhpeaaQx58
import Derived.Test.YtcgpibbbkdhpeaaQx60
import Derived.Test.YtcgpibbbkdhpeaaQx61
import Derived.Test.YtcgpibbbkdhpeaaQx63
import Derived.Test.YtcgpibbbkdhpeaaQx8888801
namespace Go.Proofs.Ytcgpibbbkdhpeaa.M
open Go.RowKit Go.Proofs.Ytcgpibbbkdhpeaa.Q Go.Proofs.YtcgpibbbkdhpeaaW.PrintWords Go.Proofs.YtcgpibbbkdhpeaaW.PrintLast Go.Proofs.YtcgpibbbkdhpeaaW.Pl Classical
set_option linter.unusedSimpArgs false
set_option linter.unusedVariables false

theorem markStepLoomJob (l : List S51) (m i : Int) (h0 : 0 ≤ i) (h1 : i < (l.length : Int)) : ∃ b : List S51, b.length = l.length ∧ ∀ k, laws_markLoomJobS.l0 (k + 1) l m i = laws_markLoomJobS.l0 k b (wrap64 ((wrap64 ((wrap64 ((wrap64 ((wrap64 (m + 1)) + 1)) + 1)) + 1)) + 1)) (wrap64 (i + 1)) := by
  simp only [laws_markLoomJobS.l0, if_pos h1, if_pos h0]
  generalize (i.toNat) = j
  refine bindLen _ _ (fun b k => laws_markLoomJobS.l0 k b _ _) (by rw [List.length_set]) (fun b1 hb1 => ?_)
  refine bindLen _ _ (fun b k => laws_markLoomJobS.l0 k b _ _) (by rw [List.length_set]; exact hb1) (fun b2 hb2 => ?_)
  refine bindLen _ _ (fun b k => laws_markLoomJobS.l0 k b _ _) (by rw [List.length_set]; exact hb2) (fun b3 hb3 => ?_)
  refine bindLen _ _ (fun b k => laws_markLoomJobS.l0 k b _ _) (by rw [List.length_set]; exact hb3) (fun b4 hb4 => ?_)
  exact ⟨_, by rw [List.length_set]; exact hb4, fun _ => rfl⟩
/-- A list of them is marked: the marks stay positive. -/
theorem markLoomJobs (l : List S51) (hm : l.length ≤ 1048576) : ∃ l', Ev (fun k => laws_markLoomJobS.f k l 1) (((5 * l.length + 1 : Nat) : Int), l') := by
  have main : ∀ d (i m : Nat) (a : List S51), m = 5 * i + 1 → a.length = l.length → l.length - i = d → i ≤ l.length → ∃ l', Ev (fun k => laws_markLoomJobS.l0 k a (m : Int) (i : Int)) (((5 * l.length + 1 : Nat) : Int), l') := by
    intro d
    induction d with
    | zero =>
      intro i m a hmi ha hd hi
      have hil : i = l.length := by omega
      refine ⟨a, Ev.succ ?_⟩
      simp only [laws_markLoomJobS.l0, if_neg (show ¬ ((i : Int) < (a.length : Int)) by omega)]
      rw [hmi, hil]
      exact Ev.now _
    | succ d ih =>
      intro i m a hmi ha hd hi
      have hb1 : m < 4611686018427380000 := by omega
      obtain ⟨b, hb, hs⟩ := markStepLoomJob a (m : Int) (i : Int) (by omega) (by omega)
      rw [stepI (m) (by omega), stepI (m + 1) (by omega), stepI (m + 1 + 1) (by omega), stepI (m + 1 + 1 + 1) (by omega), stepI (m + 1 + 1 + 1 + 1) (by omega), stepI i (by omega)] at hs
      obtain ⟨l', h⟩ := ih (i + 1) (m + 1 + 1 + 1 + 1 + 1) b (by clear hs; omega) (by clear hs; omega) (by clear hs; omega) (by clear hs; omega)
      refine ⟨l', Ev.succ ?_⟩
      have : (fun k => laws_markLoomJobS.l0 (k + 1) a (m : Int) (i : Int)) = (fun k => laws_markLoomJobS.l0 k b ((m + 1 + 1 + 1 + 1 + 1 : Nat) : Int) ((i + 1 : Nat) : Int)) := funext hs
      rw [this]
      exact h
  exact main l.length 0 1 l rfl rfl (by omega) (by omega)
def asked (l : List S51) (m p : List Int) : Bool := (goodJ l && goodL m) && goodP l m p
theorem sAsked (l : List S51) (m p : List Int) (hl : l.length ≤ 1048576) (hm : m.length ≤ 1048576) : Ev (fun k => spec_l16Asked.f k l m p) (asked l m p) := by
  unfold spec_l16Asked.f asked
  refine Ev.bind (sBoth l m hl hm) ?_
  by_cases h : (goodJ l && goodL m) = true
  · simp only [h, if_true, Bool.true_and]
    exact Ev.bind (sPlan l m p hl hm) (Ev.now _)
  · simp only [h, Bool.false_eq_true, if_false, Bool.false_and]
    exact Ev.now _
theorem iAsked (l : List S51) (m p : List Int) (hl : l.length ≤ 1048576) (hm : m.length ≤ 1048576) : Ev (fun k => impl_isPlanned.f k l m p) (asked l m p) := by
  unfold impl_isPlanned.f asked
  refine Ev.bind (iIsPlan l m p hl hm) ?_
  unfold planRes
  by_cases h : (goodJ l && goodL m) = true
  · simp only [h, if_true, Bool.true_and]
    cases goodP l m p <;> exact Ev.now _
  · simp only [h, Bool.false_eq_true, if_false, Bool.false_and]
    exact Ev.now _
/-- What a valid call gives. -/
theorem asked_at {l : List S51} {m p : List Int} (h : asked l m p = true) : l.length ≤ 6 ∧ (1 ≤ m.length ∧ m.length ≤ 3) ∧ p.length = l.length ∧ (∀ i, i < l.length → okJ (nth l i z51) = true) ∧ ∀ i, i < p.length → 0 ≤ nth p i 0 ∧ nth p i 0 < (m.length : Int) := by
  unfold asked goodJ goodL goodP at h
  simp only [Bool.and_eq_true, decide_eq_true_iff, range_all] at h
  refine ⟨h.1.1.1, h.1.2.2, h.2.1, fun i hi => (h.1.1.2 i hi).1, fun i hi => ?_⟩
  have := h.2.2 i hi
  unfold okP at this
  have := of_decide_eq_true this
  omega
theorem most (a b : Int) : spec_l1Most.f a b = some (mx a b) := by
  unfold spec_l1Most.f mx
  by_cases h : a > b
  · rw [if_pos h, if_neg (by omega)]
  · by_cases h2 : a < b
    · rw [if_neg h, if_pos h2]
    · rw [if_neg h, if_neg h2]; congr 1; omega
/-- One more job: the ends so far, and the day on which each loom is free. -/
def stepE (l : List S51) (p : List Int) (i : Nat) (s : List Int × List Int) : List Int × List Int :=
  (s.1 ++ [wrap64 (mx (rd s.2 (nth p i 0)) (nth l i z51).f3 + (nth l i z51).f2)], s.2.set (nth p i 0).toNat (wrap64 (mx (rd s.2 (nth p i 0)) (nth l i z51).f3 + (nth l i z51).f2)))
def endsOf (l : List S51) (m p : List Int) : List Int × List Int := (List.range p.length).foldl (fun s i => stepE l p i s) ([], List.replicate m.length 0)
theorem sEnds (l : List S51) (m p : List Int) (h : asked l m p = true) : Ev (fun k => spec_l16Ends.f k l m p) (endsOf l m p) ∧ ((endsOf l m p).1.length = p.length ∧ (endsOf l m p).2.length = m.length) := by
  obtain ⟨hl, hm, hp, hj, hq⟩ := asked_at h
  unfold spec_l16Ends.f
  simp only [if_pos (show (0 : Int) ≤ (m.length : Int) by omega), Int.toNat_natCast, if_pos (show m.length ≤ 35184372088832 by omega)]
  have h := foldI (σ := List Int × List Int) p.length (fun i s => s.1.length = i ∧ s.2.length = m.length) (stepE l p) (fun k s i => spec_l16Ends.l0 k l p s.2 s.1 i) (fun s => s) ?hi ?hs ?he ([], List.replicate m.length 0) (by simp)
  case hi => intro i s hi ⟨h1, h2⟩; simp [stepE, h1, h2]
  case hs =>
    intro i s q hi ⟨h1, h2⟩ hq2
    have := hq i hi
    refine Ev.succ ?_
    simp only [spec_l16Ends.l0, rdI, rd51, most, Option.bind_some, if_pos (show (i : Int) < (p.length : Int) by omega), if_pos (show (0 : Int) ≤ (i : Int) by omega), if_pos this.1, if_pos (show nth p i 0 < (s.2.length : Int) by omega), if_pos (show (i : Int) < (l.length : Int) by omega), if_pos (show s.1.length < 17592186044416 by omega), stepI i (by omega)]
    exact hq2
  case he =>
    intro s _
    refine Ev.succ ?_
    simp only [spec_l16Ends.l0, if_neg (show ¬ ((p.length : Int) < (p.length : Int)) by omega)]
    exact Ev.now _
  exact h
theorem iEnds (l : List S51) (m p : List Int) (h : asked l m p = true) : Ev (fun k => impl_ends.f k l m p) (endsOf l m p) := by
  obtain ⟨hl, hm, hp, hj, hq⟩ := asked_at h
  unfold impl_ends.f
  simp only [if_pos (show (0 : Int) ≤ (m.length : Int) by omega), Int.toNat_natCast, if_pos (show m.length ≤ 35184372088832 by omega)]
  have h := foldI (σ := List Int × List Int) p.length (fun i s => s.1.length = i ∧ s.2.length = m.length) (stepE l p) (fun k s i => impl_ends.l0 k l s.1 s.2 p (p.length : Int) i) (fun s => s) ?hi ?hs ?he ([], List.replicate m.length 0) (by simp)
  case hi => intro i s hi ⟨h1, h2⟩; simp [stepE, h1, h2]
  case hs =>
    intro i s q hi ⟨h1, h2⟩ hq2
    have := hq i hi
    refine Ev.succ ?_
    simp only [impl_ends.l0, rdI, rd51, Option.bind_some, if_pos (show (i : Int) < (p.length : Int) by omega), if_pos (show (0 : Int) ≤ (i : Int) by omega), if_pos this.1, if_pos (show nth p i 0 < (s.2.length : Int) by omega), if_pos (show (i : Int) < (l.length : Int) by omega), if_pos (show s.1.length < 17592186044416 by omega), stepI i (by omega)]
    exact hq2
  case he =>
    intro s _
    refine Ev.succ ?_
    simp only [impl_ends.l0, if_neg (show ¬ ((p.length : Int) < (p.length : Int)) by omega)]
    exact Ev.now _
  exact h.1
end Go.Proofs.Ytcgpibbbkdhpeaa.M

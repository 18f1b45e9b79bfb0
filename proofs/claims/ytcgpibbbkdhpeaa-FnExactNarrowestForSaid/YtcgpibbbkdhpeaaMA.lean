import Derived.Test.YtcgpibbbkdhpeaaMI2
import Derived.Test.YtcgpibbbkdhpeaaQx1000049
import Derived.Test.YtcgpibbbkdhpeaaQx1000051
import Derived.Test.YtcgpibbbkdhpeaaQx16
import Derived.Test.YtcgpibbbkdhpeaaQx17
import Derived.Test.YtcgpibbbkdhpeaaQx18
import Derived.Test.YtcgpibbbkdhpeaaQx19
import Derived.Test.YtcgpibbbkdhpeaaQx21
import Derived.Test.YtcgpibbbkdhpeaaQx47
import Derived.Test.YtcgpibbbkdhpeaaQx48
import Derived.Test.YtcgpibbbkdhpeaaQx50
import Derived.Test.YtcgpibbbkdhpeaaQx53
import Derived.Test.YtcgpibbbkdhpeaaQx54
import Derived.Test.YtcgpibbbkdhpeaaQx55
import Derived.Test.YtcgpibbbkdhpeaaQx57
import Derived.Test.YtcgpibbbkdhpeaaQx8888801
namespace Go.Proofs.Ytcgpibbbkdhpeaa.M
open Go.RowKit Go.Proofs.Ytcgpibbbkdhpeaa.Q Go.Proofs.YtcgpibbbkdhpeaaW.PrintWords Go.Proofs.YtcgpibbbkdhpeaaW.PrintLast Go.Proofs.YtcgpibbbkdhpeaaW.Pl Classical
set_option linter.unusedSimpArgs false
set_option linter.unusedVariables false

theorem rd51 (l : List S51) (i : Nat) : rd_T51 l (i : Int) = nth l i z51 := by unfold rd_T51 nth; simp
theorem rd57 (l : List S57) (i : Nat) : rd_T57 l (i : Int) = nth l i z57 := by unfold rd_T57 nth; simp
theorem szLoomJobs (l : List S57) (hm : l.length ≤ maxLen) : ∃ r, laws_szLoomJobS.f l 1048576 = some r ∧ (r < 0 ↔ 1048576 < l.length) := by
  unfold laws_szLoomJobS.f
  have := sz_small hm
  by_cases h : wrap64 (1048576 - (l.length : Int)) < 0
  · exact ⟨-1, by rw [if_pos h], by rw [← this]; exact ⟨fun _ => h, fun _ => by omega⟩⟩
  · exact ⟨_, by rw [if_neg h], this⟩
def cvLoomJob (x : S57) : S51 := ⟨x.f0, x.f1, x.f2, x.f3, x.f4⟩
theorem toLoomJobs (l : List S57) (hm : l.length ≤ 1048576) : Ev (fun k => laws_toLoomJobS.f k l) (l.map cvLoomJob) := by
  refine ⟨l.length + 1, fun k hk => ?_⟩
  show laws_toLoomJobS.f k l = _
  unfold laws_toLoomJobS.f
  rw [if_pos (by omega), if_pos (by omega)]
  have h := fill_gen l cvLoomJob (fun k acc i => laws_toLoomJobS.l0 k l acc i) ?hstep ?hend k hk (List.replicate l.length z51) (by simp)
  case hstep =>
    intro k acc i hi ha
    simp only [laws_toLoomJobS.l0]
    rw [if_pos (by omega), if_pos (by omega), rd57, nth_get hi]
    simp only [laws_toLoomJob.f, Option.bind_some]
    rw [if_pos (by omega), w64 (x := (i : Int) + 1) (by omega)]
    rfl
  case hend =>
    intro k acc
    simp [laws_toLoomJobS.l0]
  simpa using h
theorem eqLoomJobs (l : List S51) (hm : l.length ≤ 1048576) : Ev (fun k => laws_eqLoomJobS.f k l l) true := by
  unfold laws_eqLoomJobS.f
  simp only [if_true]
  have h := scanE l.length (fun _ => true) true false (fun k i => laws_eqLoomJobS.l0 k l l i) ?hs ?hb ?he
  case hs =>
    intro i r hi _ hr
    refine Ev.succ ?_
    simp only [laws_eqLoomJobS.l0, laws_eqLoomJob.f, if_pos (show (i : Int) < (l.length : Int) by omega), if_pos (show (0 : Int) ≤ (i : Int) by omega), if_true, Option.bind_some, w64 (x := (i : Int) + 1) (by omega)]
    exact hr
  case hb => intro i _ h; cases h
  case he =>
    refine Ev.succ ?_
    simp only [laws_eqLoomJobS.l0, if_neg (show ¬ ((l.length : Int) < (l.length : Int)) by omega)]
    exact Ev.now _
  simpa using h
theorem l1In (a b c : Int) : spec_l1In.f a b c = some (decide (b ≤ a ∧ a ≤ c)) := by
  unfold spec_l1In.f
  by_cases h : b ≤ a <;> by_cases h2 : a ≤ c <;> simp [h, h2]
theorem iIn (a b c : Int) : impl_in.f a b c = some (decide (b ≤ a ∧ a ≤ c)) := by
  unfold impl_in.f
  by_cases h : b ≤ a <;> by_cases h2 : a ≤ c <;> simp [h, h2]
/-- A valid job. -/
def okF (a b c d e : Int) : Bool := decide ((1 ≤ a ∧ a ≤ 99) ∧ (1 ≤ b ∧ b ≤ 500) ∧ (1 ≤ c ∧ c ≤ 400) ∧ (0 ≤ d ∧ d ≤ 4000) ∧ (0 ≤ e ∧ e ≤ 4000) ∧ d ≤ e)
def okJ (x : S51) : Bool := okF x.f0 x.f1 x.f2 x.f3 x.f4
theorem iValid (x : S51) : impl_LoomJob_isValid.f x.f0 x.f1 x.f2 x.f3 x.f4 = some (okJ x) := by
  unfold impl_LoomJob_isValid.f impl_isId.f impl_isJobWide.f impl_isDay.f okJ okF
  simp only [iIn, Option.bind_some]
  repeat' split
  all_goals (simp_all <;> omega)
def ascAt (l : List S51) (i : Nat) : Bool := decide (i = 0) || decide ((nth l (i - 1) z51).f0 < (nth l i z51).f0)
/-- Valid jobs, in order. -/
def goodJ (l : List S51) : Bool := decide (l.length ≤ 6) && (List.range l.length).all fun i => okJ (nth l i z51) && ascAt l i
theorem sJobs (l : List S51) (hm : l.length ≤ 1048576) : Ev (fun k => spec_l16Jobs.f k l) (goodJ l) := by
  unfold spec_l16Jobs.f
  have h := scanE l.length (fun i => okJ (nth l i z51) && ascAt l i) (decide (l.length ≤ 6)) false (fun k i => spec_l16Jobs.l0 k l i) ?hs ?hb ?he
  case hs =>
    intro i r hi ho hr
    refine Ev.succ ?_
    rw [Bool.and_eq_true] at ho
    obtain ⟨h1, h2⟩ := ho
    unfold okJ okF at h1
    have h1 := of_decide_eq_true h1
    unfold ascAt at h2
    simp only [Bool.or_eq_true, decide_eq_true_iff] at h2
    simp only [spec_l16Jobs.l0, spec_l2Day.f, rd51, l1In, Option.bind_some, if_pos (show (i : Int) < (l.length : Int) by omega), if_pos (show (0 : Int) ≤ (i : Int) by omega), h1, and_self, decide_true, if_true, stepI i (by omega), if_neg (show ¬ ((nth l i z51).f4 < (nth l i z51).f3) by omega)]
    by_cases h0 : i = 0
    · subst h0
      simp only [if_neg (show ¬ (((0 : Nat) : Int) > 0) by omega)]
      exact hr
    · simp only [if_pos (show (i : Int) > 0 by omega), predI i (by omega), if_pos (show (0 : Int) ≤ ((i - 1 : Nat) : Int) by omega), if_pos (show ((i - 1 : Nat) : Int) < (l.length : Int) by omega), rd51]
      simp only [if_neg (show ¬ ((nth l (i - 1) z51).f0 ≥ (nth l i z51).f0) by omega)]
      exact hr
  case hb =>
    intro i hi ho
    refine Ev.succ ?_
    simp only [spec_l16Jobs.l0, spec_l2Day.f, rd51, l1In, Option.bind_some, if_pos (show (i : Int) < (l.length : Int) by omega), if_pos (show (0 : Int) ≤ (i : Int) by omega)]
    by_cases h1 : okJ (nth l i z51) = true
    · rw [h1, Bool.true_and] at ho
      unfold ascAt at ho
      rw [Bool.or_eq_false_iff, decide_eq_false_iff_not, decide_eq_false_iff_not] at ho
      unfold okJ okF at h1
      have h1 := of_decide_eq_true h1
      simp only [h1, and_self, decide_true, if_true, if_neg (show ¬ ((nth l i z51).f4 < (nth l i z51).f3) by omega), if_pos (show (i : Int) > 0 by omega), predI i (by omega), if_pos (show (0 : Int) ≤ ((i - 1 : Nat) : Int) by omega), if_pos (show ((i - 1 : Nat) : Int) < (l.length : Int) by omega), rd51]
      simp only [if_pos (show (nth l (i - 1) z51).f0 ≥ (nth l i z51).f0 by omega)]
      exact Ev.now _
    · unfold okJ okF at h1
      rw [decide_eq_true_iff] at h1
      by_cases g1 : 1 ≤ (nth l i z51).f0 ∧ (nth l i z51).f0 ≤ 99 <;> simp only [g1, and_self, decide_true, decide_false, if_true, Bool.false_eq_true, if_false]
      · by_cases g2 : 1 ≤ (nth l i z51).f1 ∧ (nth l i z51).f1 ≤ 500 <;> simp only [g2, and_self, decide_true, decide_false, if_true, Bool.false_eq_true, if_false]
        · by_cases g3 : 1 ≤ (nth l i z51).f2 ∧ (nth l i z51).f2 ≤ 400 <;> simp only [g3, and_self, decide_true, decide_false, if_true, Bool.false_eq_true, if_false]
          · by_cases g4 : 0 ≤ (nth l i z51).f3 ∧ (nth l i z51).f3 ≤ 4000 <;> simp only [g4, and_self, decide_true, decide_false, if_true, Bool.false_eq_true, if_false]
            · by_cases g5 : 0 ≤ (nth l i z51).f4 ∧ (nth l i z51).f4 ≤ 4000 <;> simp only [g5, and_self, decide_true, decide_false, if_true, Bool.false_eq_true, if_false]
              · simp only [if_pos (show (nth l i z51).f4 < (nth l i z51).f3 by omega)]
                exact Ev.now _
              · exact Ev.now _
            · exact Ev.now _
          · exact Ev.now _
        · exact Ev.now _
      · exact Ev.now _
  case he =>
    refine Ev.succ ?_
    simp only [spec_l16Jobs.l0, if_neg (show ¬ ((l.length : Int) < (l.length : Int)) by omega)]
    refine Ev.c ?_
    congr 1
    by_cases h : l.length ≤ 6
    · rw [decide_eq_true h, decide_eq_true (by omega)]
    · rw [decide_eq_false h, decide_eq_false (by omega)]
  have e : (if ((List.range l.length).all fun i => okJ (nth l i z51) && ascAt l i) = true then decide (l.length ≤ 6) else false) = goodJ l := by
    unfold goodJ
    generalize (List.range l.length).all _ = b
    cases b <;> simp
  rw [e] at h
  exact h
theorem iAsc (l : List S51) (hm : l.length ≤ 1048576) : Ev (fun k => impl_LoomJob_51__impl_AreJobs_1.f k l) ((List.range l.length).all fun i => ascAt l i) := by
  unfold impl_LoomJob_51__impl_AreJobs_1.f
  have main : ∀ d (i : Nat), l.length + 1 - i = d → 1 ≤ i → i ≤ l.length + 1 → Ev (fun k => impl_LoomJob_51__impl_AreJobs_1.l0 k l (i : Int)) (decide (∀ j, i ≤ j → j < l.length → (nth l (j - 1) z51).f0 < (nth l j z51).f0)) := by
    intro d
    induction d with
    | zero =>
      intro i hd h1 hi
      refine Ev.succ ?_
      simp only [impl_LoomJob_51__impl_AreJobs_1.l0, if_neg (show ¬ ((i : Int) < (l.length : Int)) by omega)]
      rw [decide_eq_true (fun j h2 h3 => by omega)]
      exact Ev.now _
    | succ d ih =>
      intro i hd h1 hi
      refine Ev.succ ?_
      by_cases hlt : i < l.length
      · simp only [impl_LoomJob_51__impl_AreJobs_1.l0, impl_AreJobs_1.f, if_pos (show (i : Int) < (l.length : Int) by omega), predI i (by omega), if_pos (show (0 : Int) ≤ ((i - 1 : Nat) : Int) by omega), if_pos (show ((i - 1 : Nat) : Int) < (l.length : Int) by omega), rd51, Option.bind_some, if_pos (show (0 : Int) ≤ (i : Int) by omega), stepI i (by omega)]
        by_cases hle : (nth l (i - 1) z51).f0 < (nth l i z51).f0
        · simp only [if_neg (show ¬ ((nth l (i - 1) z51).f0 ≥ (nth l i z51).f0) by omega)]
          have := ih (i + 1) (by omega) (by omega) (by omega)
          rw [show (decide (∀ j, i ≤ j → j < l.length → (nth l (j - 1) z51).f0 < (nth l j z51).f0)) = decide (∀ j, i + 1 ≤ j → j < l.length → (nth l (j - 1) z51).f0 < (nth l j z51).f0) from by
            rw [decide_eq_decide]
            exact ⟨fun h j h2 h3 => h j (by omega) h3, fun h j h2 h3 => by
              by_cases e : j = i
              · subst e; exact hle
              · exact h j (by omega) h3⟩]
          exact this
        · simp only [if_pos (show (nth l (i - 1) z51).f0 ≥ (nth l i z51).f0 by omega)]
          rw [decide_eq_false (fun h => hle (h i (by omega) hlt))]
          exact Ev.now _
      · simp only [impl_LoomJob_51__impl_AreJobs_1.l0, if_neg (show ¬ ((i : Int) < (l.length : Int)) by omega)]
        rw [decide_eq_true (fun j h2 h3 => by omega)]
        exact Ev.now _
  have h := main l.length 1 (by omega) (by omega) (by omega)
  rw [show ((List.range l.length).all fun i => ascAt l i) = decide (∀ j, 1 ≤ j → j < l.length → (nth l (j - 1) z51).f0 < (nth l j z51).f0) from by
    rw [Bool.eq_iff_iff, range_all, decide_eq_true_iff]
    constructor
    · intro h j h1 h2
      have := h j h2
      unfold ascAt at this
      simp only [Bool.or_eq_true, decide_eq_true_iff] at this
      omega
    · intro h j h2
      unfold ascAt
      by_cases h0 : j = 0
      · simp [h0]
      · simp [h j (by omega) h2]]
  exact h
theorem all_split {n : Nat} {p q : Nat → Bool} : ((List.range n).all fun i => p i && q i) = ((List.range n).all p && (List.range n).all q) := by
  rw [Bool.eq_iff_iff, Bool.and_eq_true, range_all, range_all, range_all]
  constructor
  · intro h
    exact ⟨fun i hi => by have := h i hi; rw [Bool.and_eq_true] at this; exact this.1, fun i hi => by have := h i hi; rw [Bool.and_eq_true] at this; exact this.2⟩
  · intro ⟨h1, h2⟩ i hi
    rw [h1 i hi, h2 i hi]; rfl
theorem all_nth {α : Type} {l : List α} {p : α → Bool} (z : α) : l.all p = (List.range l.length).all fun i => p (nth l i z) := by
  rw [Bool.eq_iff_iff, all_iff_nth z, range_all]
theorem iJobs (l : List S51) (hm : l.length ≤ 1048576) : Ev (fun k => impl_AreJobs.f k l) (goodJ l) := by
  unfold impl_AreJobs.f impl_LoomJob_49__impl_LoomJob_isValid.f
  rw [all_total (p := okJ) (fun x _ => iValid x)]
  unfold goodJ
  rw [all_split, ← all_nth (p := okJ) z51]
  by_cases hl : l.length ≤ 6
  · simp only [if_pos (show (l.length : Int) ≤ 6 by omega), Option.bind_some, decide_eq_true hl, Bool.true_and]
    by_cases ha : l.all okJ = true
    · simp only [ha, if_true, Bool.true_and]
      exact Ev.bind (iAsc l hm) (Ev.now _)
    · simp only [ha, Bool.false_eq_true, if_false, Bool.false_and]
      exact Ev.now _
  · simp only [if_neg (show ¬ ((l.length : Int) ≤ 6) by omega), decide_eq_false hl, Bool.false_and]
    exact Ev.now _
/-- Valid looms. -/
def okL (x : Int) : Bool := decide (1 ≤ x ∧ x ≤ 500)
def goodL (l : List Int) : Bool := (List.range l.length).all (fun i => okL (nth l i 0)) && decide (1 ≤ l.length ∧ l.length ≤ 3)
theorem iLooms (l : List Int) : impl_areJobLooms.f l = some (goodL l) := by
  unfold impl_areJobLooms.f impl_areAll_int__impl_isJobWide.f goodL
  rw [all_total (p := okL) (fun x _ => by unfold impl_isJobWide.f okL; rw [iIn]; rfl), all_nth (p := okL) 0, iIn]
  by_cases h : 1 ≤ l.length ∧ l.length ≤ 3
  · simp [h, show (1 : Int) ≤ (l.length : Int) ∧ (l.length : Int) ≤ 3 by omega]
  · rw [decide_eq_false h, decide_eq_false (by omega)]; simp
theorem sBoth (l : List S51) (m : List Int) (hl : l.length ≤ 1048576) (hm : m.length ≤ 1048576) : Ev (fun k => spec_l16Both.f k l m) (goodJ l && goodL m) := by
  unfold spec_l16Both.f
  have h := scanE m.length (fun i => okL (nth m i 0)) (goodJ l && decide (1 ≤ m.length ∧ m.length ≤ 3)) false (fun k i => spec_l16Both.l0 k l m i) ?hs ?hb ?he
  case hs =>
    intro i r hi ho hr
    refine Ev.succ ?_
    simp only [spec_l16Both.l0, rdI, l1In, Option.bind_some, if_pos (show (i : Int) < (m.length : Int) by omega), if_pos (show (0 : Int) ≤ (i : Int) by omega), stepI i (by omega), show decide (1 ≤ nth m i 0 ∧ nth m i 0 ≤ 500) = true from ho, if_true]
    exact hr
  case hb =>
    intro i hi ho
    refine Ev.succ ?_
    simp only [spec_l16Both.l0, rdI, l1In, Option.bind_some, if_pos (show (i : Int) < (m.length : Int) by omega), if_pos (show (0 : Int) ≤ (i : Int) by omega), stepI i (by omega), show decide (1 ≤ nth m i 0 ∧ nth m i 0 ≤ 500) = false from ho, Bool.false_eq_true, if_false]
    exact Ev.now _
  case he =>
    refine Ev.succ ?_
    simp only [spec_l16Both.l0, if_neg (show ¬ ((m.length : Int) < (m.length : Int)) by omega), l1In, Option.bind_some]
    refine Ev.bind (sJobs l hl) ?_
    cases goodJ l with
    | true =>
      simp only [if_true, Bool.true_and]
      refine Ev.c ?_
      congr 1
      rw [decide_eq_decide]
      omega
    | false =>
      simp only [Bool.false_eq_true, if_false, Bool.false_and]
      exact Ev.now _
  have e : (if ((List.range m.length).all fun i => okL (nth m i 0)) = true then (goodJ l && decide (1 ≤ m.length ∧ m.length ≤ 3)) else false) = (goodJ l && goodL m) := by
    unfold goodL
    generalize (List.range m.length).all _ = b
    cases b <;> cases goodJ l <;> simp
  rw [e] at h
  exact h
/-- A place of a plan. -/
def okP (l : List S51) (m p : List Int) (i : Nat) : Bool := decide ((0 ≤ nth p i 0 ∧ nth p i 0 ≤ (m.length : Int) - 1) ∧ (nth l i z51).f1 ≤ rd m (nth p i 0))
def goodP (l : List S51) (m p : List Int) : Bool := decide (p.length = l.length) && (List.range p.length).all fun i => okP l m p i
theorem sPlan (l : List S51) (m p : List Int) (hl : l.length ≤ 1048576) (hm : m.length ≤ 1048576) : Ev (fun k => spec_l16Plan.f k l m p) (goodP l m p) := by
  unfold spec_l16Plan.f goodP
  by_cases hpl : p.length = l.length
  · simp only [if_pos (show (p.length : Int) = (l.length : Int) by omega), decide_eq_true hpl, Bool.true_and]
    have h := scanE p.length (fun i => okP l m p i) true false (fun k i => spec_l16Plan.l0 k l m p i) ?hs ?hb ?he
    case hs =>
      intro i r hi ho hr
      refine Ev.succ ?_
      unfold okP at ho
      have ho := of_decide_eq_true ho
      simp only [spec_l16Plan.l0, rdI, rd51, l1In, Option.bind_some, if_pos (show (i : Int) < (p.length : Int) by omega), if_pos (show (0 : Int) ≤ (i : Int) by omega), if_pos (show (i : Int) < (l.length : Int) by omega), stepI i (by omega), w64 (x := (m.length : Int) - 1) (by omega), ho.1, and_self, decide_true, if_true, if_pos (show nth p i 0 < (m.length : Int) by omega), if_neg (show ¬ (rd m (nth p i 0) < (nth l i z51).f1) by omega)]
      exact hr
    case hb =>
      intro i hi ho
      refine Ev.succ ?_
      unfold okP at ho
      have ho := of_decide_eq_false ho
      simp only [spec_l16Plan.l0, rdI, rd51, l1In, Option.bind_some, if_pos (show (i : Int) < (p.length : Int) by omega), if_pos (show (0 : Int) ≤ (i : Int) by omega), if_pos (show (i : Int) < (l.length : Int) by omega), stepI i (by omega), w64 (x := (m.length : Int) - 1) (by omega)]
      by_cases g : 0 ≤ nth p i 0 ∧ nth p i 0 ≤ (m.length : Int) - 1
      · simp only [g, and_self, decide_true, if_true, if_pos (show nth p i 0 < (m.length : Int) by omega), if_pos (show rd m (nth p i 0) < (nth l i z51).f1 by omega)]
        exact Ev.now _
      · simp only [g, decide_false, Bool.false_eq_true, if_false]
        exact Ev.now _
    case he =>
      refine Ev.succ ?_
      simp only [spec_l16Plan.l0, if_neg (show ¬ ((p.length : Int) < (p.length : Int)) by omega)]
      exact Ev.now _
    rw [show ((List.range p.length).all fun i => okP l m p i) = if ((List.range p.length).all fun i => okP l m p i) = true then true else false by cases ((List.range p.length).all fun i => okP l m p i) <;> rfl]
    exact h
  · simp only [if_neg (show ¬ ((p.length : Int) = (l.length : Int)) by omega), decide_eq_false hpl, Bool.false_and]
    exact Ev.now _
theorem iPlan (l : List S51) (m p : List Int) (hl : l.length ≤ 1048576) (hm : m.length ≤ 1048576) : Ev (fun k => impl_isLoomPlan.f k l m p) (goodP l m p) := by
  unfold impl_isLoomPlan.f goodP
  by_cases hpl : p.length = l.length
  · simp only [if_pos (show (p.length : Int) = (l.length : Int) by omega), decide_eq_true hpl, Bool.true_and]
    have h := scanE p.length (fun i => okP l m p i) true false (fun k i => impl_isLoomPlan.l0 k l m p (p.length : Int) i) ?hs ?hb ?he
    case hs =>
      intro i r hi ho hr
      refine Ev.succ ?_
      unfold okP at ho
      have ho := of_decide_eq_true ho
      simp only [impl_isLoomPlan.l0, rdI, rd51, iIn, Option.bind_some, if_pos (show (i : Int) < (p.length : Int) by omega), if_pos (show (0 : Int) ≤ (i : Int) by omega), if_pos (show (i : Int) < (l.length : Int) by omega), stepI i (by omega), w64 (x := (m.length : Int) - 1) (by omega), ho.1, and_self, decide_true, if_true, if_pos (show nth p i 0 < (m.length : Int) by omega), if_neg (show ¬ (rd m (nth p i 0) < (nth l i z51).f1) by omega)]
      exact hr
    case hb =>
      intro i hi ho
      refine Ev.succ ?_
      unfold okP at ho
      have ho := of_decide_eq_false ho
      simp only [impl_isLoomPlan.l0, rdI, rd51, iIn, Option.bind_some, if_pos (show (i : Int) < (p.length : Int) by omega), if_pos (show (0 : Int) ≤ (i : Int) by omega), if_pos (show (i : Int) < (l.length : Int) by omega), stepI i (by omega), w64 (x := (m.length : Int) - 1) (by omega)]
      by_cases g : 0 ≤ nth p i 0 ∧ nth p i 0 ≤ (m.length : Int) - 1
      · simp only [g, and_self, decide_true, if_true, if_pos (show nth p i 0 < (m.length : Int) by omega), if_pos (show rd m (nth p i 0) < (nth l i z51).f1 by omega)]
        exact Ev.now _
      · simp only [g, decide_false, Bool.false_eq_true, if_false]
        exact Ev.now _
    case he =>
      refine Ev.succ ?_
      simp only [impl_isLoomPlan.l0, if_neg (show ¬ ((p.length : Int) < (p.length : Int)) by omega)]
      exact Ev.now _
    rw [show ((List.range p.length).all fun i => okP l m p i) = if ((List.range p.length).all fun i => okP l m p i) = true then true else false by cases ((List.range p.length).all fun i => okP l m p i) <;> rfl]
    exact h
  · simp only [if_neg (show ¬ ((p.length : Int) = (l.length : Int)) by omega), decide_eq_false hpl, Bool.false_and]
    exact Ev.now _
/-- What IsLoomPlan answers. -/
def planRes (l : List S51) (m p : List Int) : Bool × Bool := if (goodJ l && goodL m) = true then (goodP l m p, true) else (false, false)
theorem sIsPlan (l : List S51) (m p : List Int) (hl : l.length ≤ 1048576) (hm : m.length ≤ 1048576) : Ev (fun k => spec_IsLoomPlan.f k l m p) (planRes l m p) := by
  unfold spec_IsLoomPlan.f planRes
  refine Ev.bind (sBoth l m hl hm) ?_
  by_cases h : (goodJ l && goodL m) = true
  · simp only [h, if_true]
    exact Ev.bind (sPlan l m p hl hm) (Ev.now _)
  · simp only [h, Bool.false_eq_true, if_false]
    exact Ev.now _
theorem iIsPlan (l : List S51) (m p : List Int) (hl : l.length ≤ 1048576) (hm : m.length ≤ 1048576) : Ev (fun k => impl_IsLoomPlan.f k l m p) (planRes l m p) := by
  unfold impl_IsLoomPlan.f planRes
  refine Ev.bind (iJobs l hl) ?_
  cases goodJ l with
  | true =>
    simp only [if_true, iLooms, Option.bind_some, Bool.true_and]
    cases goodL m with
    | true =>
      simp only [if_true]
      exact Ev.bind (iPlan l m p hl hm) (Ev.now _)
    | false =>
      simp only [Bool.false_eq_true, if_false]
      exact Ev.now _
  | false =>
    simp only [Bool.false_eq_true, if_false, Bool.false_and]
    exact Ev.now _
end Go.Proofs.Ytcgpibbbkdhpeaa.M

import Derived.Test.YtblihmohgfmpgaaMI1
import Derived.Test.YtblihmohgfmpgaaQx1000057
import Derived.Test.YtblihmohgfmpgaaQx1000059
import Derived.Test.YtblihmohgfmpgaaQx13
import Derived.Test.YtblihmohgfmpgaaQx14
import Derived.Test.YtblihmohgfmpgaaQx15
import Derived.Test.YtblihmohgfmpgaaQx16
import Derived.Test.YtblihmohgfmpgaaQx17
import Derived.Test.YtblihmohgfmpgaaQx19
import Derived.Test.YtblihmohgfmpgaaQx20
import Derived.Test.YtblihmohgfmpgaaQx21
import Derived.Test.YtblihmohgfmpgaaQx22
import Derived.Test.YtblihmohgfmpgaaQx48
import Derived.Test.YtblihmohgfmpgaaQx54
import Derived.Test.YtblihmohgfmpgaaQx55
import Derived.Test.YtblihmohgfmpgaaQx58
import Derived.Test.YtblihmohgfmpgaaQx61
import Derived.Test.YtblihmohgfmpgaaQx64
import Derived.Test.YtblihmohgfmpgaaQx69
import Derived.Test.YtblihmohgfmpgaaQx70
import Derived.Test.YtblihmohgfmpgaaQx8888801
namespace Go.Proofs.Ytblihmohgfmpgaa.M
open Go.RowKit Go.Proofs.Ytblihmohgfmpgaa.Q Go.Proofs.YtblihmohgfmpgaaW.PrintWords Go.Proofs.YtblihmohgfmpgaaW.PrintLast Go.Proofs.YtblihmohgfmpgaaW.Pl Classical
set_option linter.unusedSimpArgs false
set_option linter.unusedVariables false

theorem rd69 (l : List S69) (i : Nat) : rd_T69 l (i : Int) = nth l i z69 := by unfold rd_T69 nth; simp
theorem rd68 (l : List S68) (i : Nat) : rd_T68 l (i : Int) = nth l i z68 := by unfold rd_T68 nth; simp
theorem l1In (a b c : Int) : spec_l1In.f a b c = some (decide (b ≤ a ∧ a ≤ c)) := by
  unfold spec_l1In.f
  by_cases h : b ≤ a <;> by_cases h2 : a ≤ c <;> simp [h, h2]
theorem iIn (a b c : Int) : impl_in.f a b c = some (decide (b ≤ a ∧ a ≤ c)) := by
  unfold impl_in.f
  by_cases h : b ≤ a <;> by_cases h2 : a ≤ c <;> simp [h, h2]
/-- The sizes' check. -/
theorem szSchools (l : List S68) (hl : l.length ≤ maxLen) (hg : ∀ x ∈ l, x.f1.length ≤ maxLen) : ∃ r, Ev (fun k => laws_szSchoolS.f k l 1048576) r ∧ (r < 0 ∨ (0 ≤ r ∧ r ≤ 1048576 ∧ l.length ≤ 1048576 ∧ ∀ i, i < l.length → (nth l i z68).f1.length ≤ 1048576)) := by
  unfold laws_szSchoolS.f
  have hs := sz_small hl
  by_cases h : wrap64 (1048576 - (l.length : Int)) < 0
  · simp only [if_pos h]
    exact ⟨-1, Ev.now _, by omega⟩
  · simp only [if_neg h]
    have hlen : l.length ≤ 1048576 := by
      by_cases h2 : 1048576 < l.length
      · exact absurd (hs.2 h2) h
      · omega
    rw [w64 (by omega)]
    have main : ∀ d (i : Nat) (a : Int), l.length - i = d → i ≤ l.length → (0 ≤ a ∧ a ≤ 1048576) → (∀ j, j < i → (nth l j z68).f1.length ≤ 1048576) → ∃ r, Ev (fun k => laws_szSchoolS.l0 k l a (i : Int)) r ∧ (r < 0 ∨ (0 ≤ r ∧ r ≤ 1048576 ∧ l.length ≤ 1048576 ∧ ∀ i, i < l.length → (nth l i z68).f1.length ≤ 1048576)) := by
      intro d
      induction d with
      | zero =>
        intro i a hd hi ha hp
        have hil : i = l.length := by omega
        subst hil
        refine ⟨a, Ev.succ ?_, .inr ⟨ha.1, ha.2, hlen, hp⟩⟩
        simp only [laws_szSchoolS.l0, if_neg (show ¬ ((l.length : Int) < (l.length : Int)) by omega)]
        exact Ev.now _
      | succ d ih =>
        intro i a hd hi ha hp
        obtain ⟨r, hr, hc⟩ := szInts (nth l i z68).f1 a (hg _ (nth_mem (by omega))) ha
        have hsz : laws_szSchool.f (nth l i z68).f0 (nth l i z68).f1 (nth l i z68).f2 (nth l i z68).f3 a = some (if r < 0 then -1 else r) := by
          unfold laws_szSchool.f
          rw [hr, Option.bind_some]
          split <;> rfl
        rcases hc with hc | ⟨c1, c2, c3⟩
        · refine ⟨-1, Ev.succ ?_, by omega⟩
          simp only [laws_szSchoolS.l0, rd68, hsz, Option.bind_some, if_pos (show (i : Int) < (l.length : Int) by omega), if_pos (show (0 : Int) ≤ (i : Int) by omega), if_pos hc, if_pos (show (-1 : Int) < 0 by omega)]
          exact Ev.now _
        · obtain ⟨q, hq, hq2⟩ := ih (i + 1) r (by omega) (by omega) ⟨c1, c2⟩ (fun j hj => by
            by_cases e : j = i
            · subst e; exact c3
            · exact hp j (by omega))
          refine ⟨q, Ev.succ ?_, hq2⟩
          simp only [laws_szSchoolS.l0, rd68, hsz, Option.bind_some, if_pos (show (i : Int) < (l.length : Int) by omega), if_pos (show (0 : Int) ≤ (i : Int) by omega), if_neg (show ¬ r < 0 by omega), stepI i (by omega)]
          exact hq
    exact main l.length 0 _ (by omega) (by omega) (by omega) (fun j hj => by omega)
theorem szPiece (m : List Int) (a b c : Int) (hm : m.length ≤ maxLen) (hc : 0 ≤ c ∧ c ≤ 1048576) : ∃ r, laws_szPiece.f m a b c = some r ∧ (r < 0 ∨ (0 ≤ r ∧ m.length ≤ 1048576)) := by
  obtain ⟨r, hr, h⟩ := szInts m c hm hc
  unfold laws_szPiece.f
  rw [hr, Option.bind_some]
  by_cases h0 : r < 0
  · exact ⟨-1, by rw [if_pos h0], by omega⟩
  · exact ⟨r, by rw [if_neg h0], by omega⟩
def cvS (x : S68) : S69 := ⟨x.f0, x.f1, x.f2, x.f3⟩
theorem toSchools (l : List S68) (hm : l.length ≤ 1048576) (hg : ∀ i, i < l.length → (nth l i z68).f1.length ≤ 1048576) : Ev (fun k => laws_toSchoolS.f k l) (l.map cvS) := by
  unfold laws_toSchoolS.f
  simp only [if_pos (show (0 : Int) ≤ (l.length : Int) by omega), Int.toNat_natCast, if_pos (show l.length ≤ 5864062014805 by omega)]
  have main : ∀ d (i : Nat) (s : List S69), l.length - i = d → i ≤ l.length → s.length = l.length → (∀ j, j < i → nth s j z69 = cvS (nth l j z68)) → Ev (fun k => laws_toSchoolS.l0 k l s (i : Int)) (l.map cvS) := by
    intro d
    induction d with
    | zero =>
      intro i s hd hi hs hp
      have hil : i = l.length := by omega
      subst hil
      refine Ev.succ ?_
      simp only [laws_toSchoolS.l0, if_neg (show ¬ ((l.length : Int) < (l.length : Int)) by omega)]
      have e : s = l.map cvS := by
        apply List.ext_getElem (by simp [hs])
        intro j h1 h2
        have := hp j (by omega)
        rw [nth_get h1, nth_get (by omega)] at this
        rw [this]; simp
      rw [e]
      exact Ev.now _
    | succ d ih =>
      intro i s hd hi hs hp
      refine Ev.succ ?_
      simp only [laws_toSchoolS.l0, rd68, if_pos (show (i : Int) < (l.length : Int) by omega), if_pos (show (0 : Int) ≤ (i : Int) by omega), if_pos (show (i : Int) < (s.length : Int) by omega), stepI i (by omega), Int.toNat_natCast]
      refine Ev.bind (a := ((nth l i z68).f0, (nth l i z68).f1, (nth l i z68).f2, (nth l i z68).f3)) ?_ ?_
      · unfold laws_toSchool.f
        exact Ev.bind (toInts _ (hg i (by omega))) (Ev.now _)
      · refine ih (i + 1) _ (by omega) (by omega) (by simp [hs]) (fun j hj => ?_)
        rw [nth_get (by simp; omega), List.getElem_set]
        by_cases e : i = j
        · subst e; rw [if_pos rfl]; rfl
        · rw [if_neg e, ← nth_get (z := z69) (by omega)]
          exact hp j (by omega)
  exact main l.length 0 _ (by omega) (by omega) (by simp) (fun j hj => by omega)
theorem eqSchools (l : List S69) (hm : l.length ≤ 1048576) (hg : ∀ i, i < l.length → (nth l i z69).f1.length ≤ 1048576) : Ev (fun k => laws_eqSchoolS.f k l l) true := by
  unfold laws_eqSchoolS.f
  simp only [if_true]
  have h := scanE l.length (fun _ => true) true false (fun k i => laws_eqSchoolS.l0 k l l i) ?hs ?hb ?he
  case hs =>
    intro i r hi _ hr
    refine Ev.succ ?_
    simp only [laws_eqSchoolS.l0, rd69, if_pos (show (i : Int) < (l.length : Int) by omega), if_pos (show (0 : Int) ≤ (i : Int) by omega), stepI i (by omega)]
    refine Ev.bind (a := true) ?_ ?_
    · unfold laws_eqSchool.f
      simp only [if_true]
      exact Ev.bind (eqInts _ (hg i hi)) (by simp only [if_true]; exact Ev.now _)
    · simp only [if_true]
      exact hr
  case hb => intro i _ h; cases h
  case he =>
    refine Ev.succ ?_
    simp only [laws_eqSchoolS.l0, if_neg (show ¬ ((l.length : Int) < (l.length : Int)) by omega)]
    exact Ev.now _
  simpa using h
theorem toPiece (m : List Int) (a b : Int) (hm : m.length ≤ 1048576) : Ev (fun k => laws_toPiece.f k m a b) (m, a, b) := by
  unfold laws_toPiece.f
  exact Ev.bind (toInts m hm) (Ev.now _)
theorem eqPiece (m : List Int) (a b : Int) (hm : m.length ≤ 1048576) : Ev (fun k => laws_eqPiece.f k m a b m a b) true := by
  unfold laws_eqPiece.f
  refine Ev.bind (eqInts m hm) ?_
  simp only [if_true]
  exact Ev.now _
/-- Marks within bounds. -/
def inB (lo hi : Int) (x : Int) : Bool := decide (lo ≤ x ∧ x ≤ hi)
def okM (lo hi : Int) (m : List Int) : Bool := ((List.range m.length).all fun i => inB lo hi (nth m i 0)) && decide (m.length = 8)
theorem all_nth {α : Type} {l : List α} {p : α → Bool} (z : α) : l.all p = (List.range l.length).all fun i => p (nth l i z) := by
  rw [Bool.eq_iff_iff, all_iff_nth z, range_all]
theorem sMarks (m : List Int) (lo hi : Int) (hm : m.length ≤ 1048576) : Ev (fun k => spec_l20Marks.f k m lo hi) (okM lo hi m) := by
  unfold spec_l20Marks.f okM
  have h := scanE m.length (fun i => inB lo hi (nth m i 0)) (decide (m.length = 8)) false (fun k i => spec_l20Marks.l0 k m lo hi i) ?hs ?hb ?he
  case hs =>
    intro i r hi ho hr
    refine Ev.succ ?_
    unfold inB at ho
    simp only [spec_l20Marks.l0, rdI, l1In, Option.bind_some, if_pos (show (i : Int) < (m.length : Int) by omega), if_pos (show (0 : Int) ≤ (i : Int) by omega), stepI i (by omega), ho, if_true]
    exact hr
  case hb =>
    intro i hi ho
    refine Ev.succ ?_
    unfold inB at ho
    simp only [spec_l20Marks.l0, rdI, l1In, Option.bind_some, if_pos (show (i : Int) < (m.length : Int) by omega), if_pos (show (0 : Int) ≤ (i : Int) by omega), stepI i (by omega), ho, Bool.false_eq_true, if_false]
    exact Ev.now _
  case he =>
    refine Ev.succ ?_
    simp only [spec_l20Marks.l0, if_neg (show ¬ ((m.length : Int) < (m.length : Int)) by omega)]
    refine Ev.c ?_
    congr 1
    by_cases e : m.length = 8
    · rw [e]; rfl
    · rw [decide_eq_false e, beq_eq_false_iff_ne]; omega
  have e : (if ((List.range m.length).all fun i => inB lo hi (nth m i 0)) = true then decide (m.length = 8) else false) = (((List.range m.length).all fun i => inB lo hi (nth m i 0)) && decide (m.length = 8)) := by
    generalize (List.range m.length).all _ = b
    cases b <;> simp
  rw [e] at h
  exact h
def okE (a b : Int) : Bool := decide (1 ≤ a ∧ a ≤ b ∧ b ≤ 3000)
theorem sYears (a b : Int) : spec_l20Years.f a b = some (okE a b) := by
  unfold spec_l20Years.f okE
  rw [l1In, Option.bind_some]
  by_cases h : 1 ≤ a ∧ a ≤ b
  · rw [decide_eq_true h, if_pos rfl]; congr 1; rw [decide_eq_decide]; omega
  · rw [decide_eq_false h, decide_eq_false (show ¬ (1 ≤ a ∧ a ≤ b ∧ b ≤ 3000) from fun g => h ⟨g.1, g.2.1⟩)]; rfl
theorem iEra (a b : Int) : impl_areEra.f a b = some (okE a b) := by
  unfold impl_areEra.f okE
  by_cases h : a ≥ 1
  · by_cases h2 : a ≤ b
    · rw [if_pos h, if_pos h2]; congr 1; rw [decide_eq_decide]; omega
    · rw [if_pos h, if_neg h2, decide_eq_false (by omega)]
  · rw [if_neg h, decide_eq_false (by omega)]
/-- A valid school. -/
def okS (x : S69) : Bool := decide (1 ≤ x.f0 ∧ x.f0 ≤ 99) && (okM 0 100 x.f1 && okE x.f2 x.f3)
theorem iSchool (x : S69) : impl_School_isValid.f x.f0 x.f1 x.f2 x.f3 = some (okS x) := by
  unfold impl_School_isValid.f impl_isId.f okS impl_areAll_int__impl_School_isValid_1.f okM
  rw [iIn, Option.bind_some, Option.bind_some, all_total (p := inB 0 100) (fun y _ => by unfold impl_School_isValid_1.f; rw [iIn]; rfl), all_nth (p := inB 0 100) 0, iEra]
  cases decide (1 ≤ x.f0 ∧ x.f0 ≤ 99) <;> cases okE x.f2 x.f3 <;> by_cases h8 : x.f1.length = 8 <;> simp [h8] <;> omega
def ascAt (l : List S69) (i : Nat) : Bool := decide (i = 0) || decide ((nth l (i - 1) z69).f0 < (nth l i z69).f0)
/-- Valid schools, in order. -/
def goodS (l : List S69) : Bool := ((List.range l.length).all fun i => okS (nth l i z69) && ascAt l i) && decide (1 ≤ l.length ∧ l.length ≤ 6)
theorem sGood (l : List S69) (hm : l.length ≤ 1048576) (hg : ∀ i, i < l.length → (nth l i z69).f1.length ≤ 1048576) : Ev (fun k => spec_l20Good.f k l) (goodS l) := by
  unfold spec_l20Good.f
  have h := scanE l.length (fun i => okS (nth l i z69) && ascAt l i) (decide (1 ≤ l.length ∧ l.length ≤ 6)) false (fun k i => spec_l20Good.l0 k l i) ?hs ?hb ?he
  case hs =>
    intro i r hi ho hr
    refine Ev.succ ?_
    rw [Bool.and_eq_true] at ho
    obtain ⟨h1, h2⟩ := ho
    unfold okS at h1
    rw [Bool.and_eq_true, Bool.and_eq_true] at h1
    unfold ascAt at h2
    simp only [Bool.or_eq_true, decide_eq_true_iff] at h2
    simp only [spec_l20Good.l0, rd69, l1In, Option.bind_some, if_pos (show (i : Int) < (l.length : Int) by omega), if_pos (show (0 : Int) ≤ (i : Int) by omega), h1.1, if_true, stepI i (by omega)]
    refine Ev.bind (sMarks _ _ _ (hg i hi)) ?_
    simp only [h1.2.1, if_true, sYears, Option.bind_some, h1.2.2]
    by_cases h0 : i = 0
    · subst h0
      simp only [if_neg (show ¬ (((0 : Nat) : Int) > 0) by omega)]
      exact hr
    · simp only [if_pos (show (i : Int) > 0 by omega), predI i (by omega), if_pos (show (0 : Int) ≤ ((i - 1 : Nat) : Int) by omega), if_pos (show ((i - 1 : Nat) : Int) < (l.length : Int) by omega), rd69]
      simp only [if_neg (show ¬ ((nth l (i - 1) z69).f0 ≥ (nth l i z69).f0) by omega)]
      exact hr
  case hb =>
    intro i hi ho
    refine Ev.succ ?_
    simp only [spec_l20Good.l0, rd69, l1In, Option.bind_some, if_pos (show (i : Int) < (l.length : Int) by omega), if_pos (show (0 : Int) ≤ (i : Int) by omega)]
    cases g1 : decide (1 ≤ (nth l i z69).f0 ∧ (nth l i z69).f0 ≤ 99) with
    | false =>
      simp only [Bool.false_eq_true, if_false]
      exact Ev.now _
    | true =>
      simp only [if_true]
      refine Ev.bind (sMarks _ _ _ (hg i hi)) ?_
      cases g2 : okM 0 100 (nth l i z69).f1 with
      | false =>
        simp only [Bool.false_eq_true, if_false]
        exact Ev.now _
      | true =>
        simp only [if_true, sYears, Option.bind_some]
        cases g3 : okE (nth l i z69).f2 (nth l i z69).f3 with
        | false =>
          simp only [Bool.false_eq_true, if_false]
          exact Ev.now _
        | true =>
          unfold okS ascAt at ho
          rw [g1, g2, g3] at ho
          simp only [Bool.and_self, Bool.true_and, Bool.or_eq_false_iff, decide_eq_false_iff_not] at ho
          simp only [if_true, if_pos (show (i : Int) > 0 by omega), predI i (by omega), if_pos (show (0 : Int) ≤ ((i - 1 : Nat) : Int) by omega), if_pos (show ((i - 1 : Nat) : Int) < (l.length : Int) by omega), rd69]
          simp only [if_pos (show (nth l (i - 1) z69).f0 ≥ (nth l i z69).f0 by omega)]
          exact Ev.now _
  case he =>
    refine Ev.succ ?_
    simp only [spec_l20Good.l0, if_neg (show ¬ ((l.length : Int) < (l.length : Int)) by omega), l1In, Option.bind_some]
    refine Ev.c ?_
    congr 1
    rw [decide_eq_decide]; omega
  have e : (if ((List.range l.length).all fun i => okS (nth l i z69) && ascAt l i) = true then decide (1 ≤ l.length ∧ l.length ≤ 6) else false) = goodS l := by
    unfold goodS
    generalize (List.range l.length).all _ = b
    cases b <;> simp
  rw [e] at h
  exact h
theorem iAsc (l : List S69) (hm : l.length ≤ 1048576) : Ev (fun k => impl_School_59__impl_AreSchools_1.f k l) ((List.range l.length).all fun i => ascAt l i) := by
  unfold impl_School_59__impl_AreSchools_1.f
  have main : ∀ d (i : Nat), l.length + 1 - i = d → 1 ≤ i → i ≤ l.length + 1 → Ev (fun k => impl_School_59__impl_AreSchools_1.l0 k l (i : Int)) (decide (∀ j, i ≤ j → j < l.length → (nth l (j - 1) z69).f0 < (nth l j z69).f0)) := by
    intro d
    induction d with
    | zero =>
      intro i hd h1 hi
      refine Ev.succ ?_
      simp only [impl_School_59__impl_AreSchools_1.l0, if_neg (show ¬ ((i : Int) < (l.length : Int)) by omega)]
      rw [decide_eq_true (fun j h2 h3 => by omega)]
      exact Ev.now _
    | succ d ih =>
      intro i hd h1 hi
      refine Ev.succ ?_
      by_cases hlt : i < l.length
      · simp only [impl_School_59__impl_AreSchools_1.l0, impl_AreSchools_1.f, if_pos (show (i : Int) < (l.length : Int) by omega), predI i (by omega), if_pos (show (0 : Int) ≤ ((i - 1 : Nat) : Int) by omega), if_pos (show ((i - 1 : Nat) : Int) < (l.length : Int) by omega), rd69, Option.bind_some, if_pos (show (0 : Int) ≤ (i : Int) by omega), stepI i (by omega)]
        by_cases hle : (nth l (i - 1) z69).f0 < (nth l i z69).f0
        · simp only [if_neg (show ¬ ((nth l (i - 1) z69).f0 ≥ (nth l i z69).f0) by omega)]
          have := ih (i + 1) (by omega) (by omega) (by omega)
          rw [show (decide (∀ j, i ≤ j → j < l.length → (nth l (j - 1) z69).f0 < (nth l j z69).f0)) = decide (∀ j, i + 1 ≤ j → j < l.length → (nth l (j - 1) z69).f0 < (nth l j z69).f0) from by
            rw [decide_eq_decide]
            exact ⟨fun h j h2 h3 => h j (by omega) h3, fun h j h2 h3 => by
              by_cases e : j = i
              · subst e; exact hle
              · exact h j (by omega) h3⟩]
          exact this
        · simp only [if_pos (show (nth l (i - 1) z69).f0 ≥ (nth l i z69).f0 by omega)]
          rw [decide_eq_false (fun h => hle (h i (by omega) hlt))]
          exact Ev.now _
      · simp only [impl_School_59__impl_AreSchools_1.l0, if_neg (show ¬ ((i : Int) < (l.length : Int)) by omega)]
        rw [decide_eq_true (fun j h2 h3 => by omega)]
        exact Ev.now _
  have h := main l.length 1 (by omega) (by omega) (by omega)
  rw [show ((List.range l.length).all fun i => ascAt l i) = decide (∀ j, 1 ≤ j → j < l.length → (nth l (j - 1) z69).f0 < (nth l j z69).f0) from by
    rw [Bool.eq_iff_iff, range_all, decide_eq_true_iff]
    constructor
    · intro h j h1 h2
      have := h j h2
      unfold ascAt at this
      simp only [Bool.or_eq_true, decide_eq_true_iff] at this
      omega
    · intro h j h2
      unfold ascAt
      by_cases h0 : j = 0
      · simp [h0]
      · simp [h j (by omega) h2]]
  exact h
theorem all_split {n : Nat} {p q : Nat → Bool} : ((List.range n).all fun i => p i && q i) = ((List.range n).all p && (List.range n).all q) := by
  rw [Bool.eq_iff_iff, Bool.and_eq_true, range_all, range_all, range_all]
  constructor
  · intro h
    exact ⟨fun i hi => by have := h i hi; rw [Bool.and_eq_true] at this; exact this.1, fun i hi => by have := h i hi; rw [Bool.and_eq_true] at this; exact this.2⟩
  · intro ⟨h1, h2⟩ i hi
    rw [h1 i hi, h2 i hi]; rfl
theorem iGood (l : List S69) (hm : l.length ≤ 1048576) : Ev (fun k => impl_AreSchools.f k l) (goodS l) := by
  unfold impl_AreSchools.f impl_School_57__impl_School_isValid.f goodS
  rw [all_total (p := okS) (fun x _ => iSchool x), all_split, ← all_nth (p := okS) z69, iIn]
  simp only [Option.bind_some]
  by_cases hl : 1 ≤ l.length ∧ l.length ≤ 6
  · simp only [decide_eq_true hl, decide_eq_true (show (1 : Int) ≤ (l.length : Int) ∧ (l.length : Int) ≤ 6 by omega), if_true, Bool.and_true]
    by_cases ha : l.all okS = true
    · simp only [ha, if_true, Bool.true_and]
      exact Ev.bind (iAsc l hm) (Ev.now _)
    · simp only [ha, Bool.false_eq_true, if_false, Bool.false_and]
      exact Ev.now _
  · simp only [decide_eq_false hl, decide_eq_false (show ¬ ((1 : Int) ≤ (l.length : Int) ∧ (l.length : Int) ≤ 6) by omega), Bool.false_eq_true, if_false, Bool.and_false]
    exact Ev.now _
theorem schoolsBoth (l : List S69) (hm : l.length ≤ 1048576) (hg : ∀ i, i < l.length → (nth l i z69).f1.length ≤ 1048576) : ∃ q : Bool, Ev (fun k => spec_AreSchools.f k l) q ∧ Ev (fun k => impl_AreSchools.f k l) q := by
  refine ⟨goodS l, ?_, iGood l hm⟩
  unfold spec_AreSchools.f
  exact Ev.bind (sGood l hm hg) (Ev.now _)
/-- A valid piece. -/
def goodP (m : List Int) (a b : Int) : Bool := okM (-1) 1 m && okE a b
theorem sPiece (m : List Int) (a b : Int) (hm : m.length ≤ 1048576) : Ev (fun k => spec_l20Piece.f k m a b) (goodP m a b) := by
  unfold spec_l20Piece.f goodP
  refine Ev.bind (sMarks m _ _ hm) ?_
  cases okM (-1) 1 m with
  | true => simp only [if_true, sYears, Option.bind_some, Bool.true_and]; exact Ev.now _
  | false => simp only [Bool.false_eq_true, if_false, Bool.false_and]; exact Ev.now _
theorem iPiece (m : List Int) (a b : Int) : impl_IsPiece.f m a b = some (goodP m a b) := by
  unfold impl_IsPiece.f goodP impl_areAll_int__impl_IsPiece_1.f okM
  rw [all_total (p := inB (-1) 1) (fun y _ => by unfold impl_IsPiece_1.f; rw [iIn]; rfl), all_nth (p := inB (-1) 1) 0, iEra]
  cases okE a b <;> by_cases h8 : m.length = 8 <;> simp [h8] <;> omega
def both (l : List S69) (m : List Int) (a b : Int) : Bool := goodS l && goodP m a b
theorem sBoth (l : List S69) (m : List Int) (a b : Int) (hm : l.length ≤ 1048576) (hg : ∀ i, i < l.length → (nth l i z69).f1.length ≤ 1048576) (hp : m.length ≤ 1048576) : Ev (fun k => spec_l20Both.f k l m a b) (both l m a b) := by
  unfold spec_l20Both.f both
  refine Ev.bind (sGood l hm hg) ?_
  cases goodS l with
  | true => simp only [if_true, Bool.true_and]; exact Ev.bind (sPiece m a b hp) (Ev.now _)
  | false => simp only [Bool.false_eq_true, if_false, Bool.false_and]; exact Ev.now _
theorem iBoth (l : List S69) (m : List Int) (a b : Int) (hm : l.length ≤ 1048576) : Ev (fun k => impl_areCompared.f k l m a b) (both l m a b) := by
  unfold impl_areCompared.f both
  refine Ev.bind (iGood l hm) ?_
  cases goodS l with
  | true => simp only [if_true, Bool.true_and, iPiece, Option.bind_some]; exact Ev.now _
  | false => simp only [Bool.false_eq_true, if_false, Bool.false_and]; exact Ev.now _
/-- The place of a school. -/
def find (l : List S69) (a : Int) : Int := idx (fun x : S69 => decide (x.f0 = a)) l
theorem sFind (l : List S69) (a : Int) (hm : l.length ≤ 1048576) : Ev (fun k => spec_l20Find.f k l a) (find l a) := by
  unfold spec_l20Find.f
  have main : ∀ d (i : Nat), l.length - i = d → i ≤ l.length → (∀ j (hj : j < l.length), j < i → decide ((l[j]).f0 = a) = false) → Ev (fun k => spec_l20Find.l0 k l a (i : Int)) (find l a) := by
    intro d
    induction d with
    | zero =>
      intro i hd hi hp
      have hil : i = l.length := by omega
      subst hil
      refine Ev.succ ?_
      simp only [spec_l20Find.l0, if_neg (show ¬ ((l.length : Int) < (l.length : Int)) by omega)]
      refine Ev.c ?_
      congr 1
      exact (idx_miss (fun j hj => hp j hj hj)).symm
    | succ d ih =>
      intro i hd hi hp
      refine Ev.succ ?_
      simp only [spec_l20Find.l0, rd69, if_pos (show (i : Int) < (l.length : Int) by omega), if_pos (show (0 : Int) ≤ (i : Int) by omega), stepI i (by omega)]
      by_cases e : (nth l i z69).f0 = a
      · simp only [if_pos e]
        refine Ev.c ?_
        congr 1
        have hi' : i < l.length := by omega
        rw [nth_get hi'] at e
        exact (idx_hit (p := fun x : S69 => decide (x.f0 = a)) hi' (decide_eq_true e) (fun j hj => hp j (by omega) hj)).symm
      · simp only [if_neg e]
        refine ih (i + 1) (by omega) (by omega) (fun j hj hji => ?_)
        by_cases ej : j = i
        · subst ej; rw [nth_get hj] at e; exact decide_eq_false e
        · exact hp j hj (by omega)
  exact main l.length 0 (by omega) (by omega) (fun j hj h => by omega)
theorem find_b (l : List S69) (a : Int) : -1 ≤ find l a ∧ find l a < (l.length : Int) := by
  unfold find idx
  cases h : l.findIdx? (fun x : S69 => decide (x.f0 = a)) with
  | none => simp only; omega
  | some i =>
    obtain ⟨hi, _⟩ := List.findIdx?_eq_some_iff_getElem.1 h
    simp only; omega
/-- What a valid call gives. -/
theorem both_at {l : List S69} {m : List Int} {a b : Int} (h : both l m a b = true) : l.length ≤ 6 ∧ (∀ i, i < l.length → (nth l i z69).f1.length = 8 ∧ (∀ j, j < 8 → 0 ≤ nth (nth l i z69).f1 j 0 ∧ nth (nth l i z69).f1 j 0 ≤ 100) ∧ (1 ≤ (nth l i z69).f2 ∧ (nth l i z69).f2 ≤ (nth l i z69).f3 ∧ (nth l i z69).f3 ≤ 3000) ∧ (1 ≤ (nth l i z69).f0 ∧ (nth l i z69).f0 ≤ 99)) ∧ m.length = 8 ∧ (∀ j, j < 8 → -1 ≤ nth m j 0 ∧ nth m j 0 ≤ 1) ∧ (1 ≤ a ∧ a ≤ b ∧ b ≤ 3000) := by
  unfold both goodS goodP okS okM okE inB at h
  simp only [Bool.and_eq_true, decide_eq_true_iff, range_all] at h
  obtain ⟨⟨h1, h2⟩, ⟨h3, h4⟩, h5⟩ := h
  refine ⟨h2.2, fun i hi => ?_, h4, fun j hj => h3 j (by omega), h5⟩
  have := (h1 i hi).1
  exact ⟨this.2.1.2, fun j hj => this.2.1.1 j (by omega), this.2.2, this.1⟩
theorem most (a b : Int) : spec_l1Most.f a b = some (mx a b) := by
  unfold spec_l1Most.f mx
  by_cases h : a > b
  · rw [if_pos h, if_neg (by omega)]
  · by_cases h2 : a < b
    · rw [if_neg h, if_pos h2]
    · rw [if_neg h, if_neg h2]; congr 1; omega
theorem least (a b : Int) : spec_l1Least.f a b = some (mn a b) := by
  unfold spec_l1Least.f mn
  by_cases h : a < b
  · rw [if_pos h]; congr 1; split <;> omega
  · rw [if_neg h]; congr 1; split <;> omega
theorem mx_c (a b c : Int) : mx a b ≤ c ↔ a ≤ c ∧ b ≤ c := by unfold mx; split <;> omega
theorem mn_c (a b c : Int) : c ≤ mn a b ↔ c ≤ a ∧ c ≤ b := by unfold mn; split <;> omega
theorem yearsBoth (l : List S69) (m : List Int) (a b id : Int) (hm : l.length ≤ 1048576) (hg : ∀ i, i < l.length → (nth l i z69).f1.length ≤ 1048576) (hp : m.length ≤ 1048576) : ∃ q : Int × Int × Bool, Ev (fun k => spec_YearsOf.f k l m a b id) q ∧ Ev (fun k => impl_YearsOf.f k l m a b id) q := by
  unfold spec_YearsOf.f impl_YearsOf.f impl_findSchool.f
  simp only [Option.bind_some]
  change ∃ q : Int × Int × Bool, _ ∧ Ev (fun k => (impl_areCompared.f k l m a b).bind fun t208 => (if t208 = true then (if find l id < 0 then (some (0, 0, false)) else (if 0 ≤ find l id then (if find l id < (l.length : Int) then ((impl_shareYears.f ((rd_T69 l (find l id)).f0) ((rd_T69 l (find l id)).f1) ((rd_T69 l (find l id)).f2) ((rd_T69 l (find l id)).f3) m a b).bind fun t210 => (if t210 = true then (some (mx ((rd_T69 l (find l id)).f2) a, mn ((rd_T69 l (find l id)).f3) b, true)) else (some (0, 0, false)))) else (none)) else (none))) else (some (0, 0, false)))) q
  have hf := find_b l id
  by_cases h : both l m a b = true
  · obtain ⟨hl, hs, _, _, hy⟩ := both_at h
    by_cases h0 : find l id < 0
    · refine ⟨(0, 0, false), Ev.bind (sFind l id hm) (Ev.bind (sBoth l m a b hm hg hp) ?_), Ev.bind (iBoth l m a b hm) ?_⟩
      · simp only [h, if_true, decide_eq_true h0]
        refine Ev.succ ?_
        simp only [spec_YearsOf.j0, if_true]
        exact Ev.now _
      · simp only [h, if_true, if_pos h0]
        exact Ev.now _
    · obtain ⟨i, hi⟩ : ∃ i : Nat, find l id = (i : Int) := ⟨(find l id).toNat, by omega⟩
      rw [hi] at hf h0 ⊢
      obtain ⟨_, _, hx, _⟩ := hs i (by omega)
      have hA := mx_c (nth l i z69).f2 a (mn (nth l i z69).f3 b)
      have hB := mn_c (nth l i z69).f3 b (nth l i z69).f2
      have hC := mn_c (nth l i z69).f3 b a
      by_cases hsh : (nth l i z69).f2 ≤ b ∧ a ≤ (nth l i z69).f3
      · refine ⟨(mx (nth l i z69).f2 a, mn (nth l i z69).f3 b, true), Ev.bind (hi ▸ sFind l id hm) (Ev.bind (sBoth l m a b hm hg hp) ?_), Ev.bind (iBoth l m a b hm) ?_⟩
        · simp only [h, if_true, decide_eq_false h0]
          refine Ev.succ ?_
          simp only [spec_YearsOf.j0, Bool.false_eq_true, if_false, rd69, most, least, Option.bind_some, if_pos (show (0 : Int) ≤ (i : Int) by omega), if_pos hf.2, if_neg (show ¬ (mx (nth l i z69).f2 a > mn (nth l i z69).f3 b) by omega)]
          exact Ev.now _
        · simp only [h, if_true, if_neg h0, if_pos (show (0 : Int) ≤ (i : Int) by omega), if_pos hf.2, impl_shareYears.f, rd69, if_pos hsh.1, Option.bind_some, decide_eq_true hsh.2]
          exact Ev.now _
      · refine ⟨(0, 0, false), Ev.bind (hi ▸ sFind l id hm) (Ev.bind (sBoth l m a b hm hg hp) ?_), Ev.bind (iBoth l m a b hm) ?_⟩
        · simp only [h, if_true, decide_eq_false h0]
          refine Ev.succ ?_
          simp only [spec_YearsOf.j0, Bool.false_eq_true, if_false, rd69, most, least, Option.bind_some, if_pos (show (0 : Int) ≤ (i : Int) by omega), if_pos hf.2, if_pos (show mx (nth l i z69).f2 a > mn (nth l i z69).f3 b by omega)]
          exact Ev.now _
        · simp only [h, if_true, if_neg h0, if_pos (show (0 : Int) ≤ (i : Int) by omega), if_pos hf.2, impl_shareYears.f, rd69]
          by_cases h1 : (nth l i z69).f2 ≤ b
          · simp only [if_pos h1, Option.bind_some, decide_eq_false (show ¬ (a ≤ (nth l i z69).f3) by omega), Bool.false_eq_true, if_false]
            exact Ev.now _
          · simp only [if_neg h1, Option.bind_some, Bool.false_eq_true, if_false]
            exact Ev.now _
  · refine ⟨(0, 0, false), Ev.bind (sFind l id hm) (Ev.bind (sBoth l m a b hm hg hp) ?_), Ev.bind (iBoth l m a b hm) ?_⟩
    · simp only [h, Bool.false_eq_true, if_false]
      refine Ev.succ ?_
      simp only [spec_YearsOf.j0, if_true]
      exact Ev.now _
    · simp only [h, Bool.false_eq_true, if_false]
      exact Ev.now _
end Go.Proofs.Ytblihmohgfmpgaa.M

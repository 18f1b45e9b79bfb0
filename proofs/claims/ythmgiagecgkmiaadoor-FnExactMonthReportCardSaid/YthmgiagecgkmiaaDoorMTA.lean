import Derived.Test.YthmgiagecgkmiaaDoorMTL
import Derived.Test.YthmgiagecgkmiaaDoorQx10
import Derived.Test.YthmgiagecgkmiaaDoorQx1000043
import Derived.Test.YthmgiagecgkmiaaDoorQx1000044
import Derived.Test.YthmgiagecgkmiaaDoorQx14
import Derived.Test.YthmgiagecgkmiaaDoorQx16
import Derived.Test.YthmgiagecgkmiaaDoorQx28
import Derived.Test.YthmgiagecgkmiaaDoorQx31
import Derived.Test.YthmgiagecgkmiaaDoorQx34
import Derived.Test.YthmgiagecgkmiaaDoorQx8888801
namespace Go.Proofs.YthmgiagecgkmiaaDoor.M
open Go.RowKit Go.Proofs.YthmgiagecgkmiaaDoor.Q Go.Proofs.YthmgiagecgkmiaaDoorW.PrintWords Go.Proofs.YthmgiagecgkmiaaDoorW.PrintLast Go.Proofs.YthmgiagecgkmiaaDoorW.Pl Classical
set_option linter.unusedSimpArgs false
set_option linter.unusedVariables false
theorem rd28 (l : List S28) (i : Nat) : rd_T28 l (i : Int) = nth l i z28 := by unfold rd_T28 nth; simp
theorem rd26 (l : List S26) (i : Nat) : rd_T26 l (i : Int) = nth l i z26 := by unfold rd_T26 nth; simp
def cvM (x : S26) : S28 := ⟨x.f0, x.f1, x.f2, x.f3, x.f4, x.f5⟩
theorem toRows (l : List S26) (hm : l.length ≤ 1048576) : Ev (fun k => laws_toMonthRowS.f k l) (l.map cvM) := by
  refine ⟨l.length + 1, fun k hk => ?_⟩
  show laws_toMonthRowS.f k l = _
  unfold laws_toMonthRowS.f
  rw [if_pos (by omega), if_pos (by omega)]
  have h := fill_gen l cvM (fun k acc i => laws_toMonthRowS.l0 k l acc i) ?hstep ?hend k hk (List.replicate l.length z28) (by simp)
  case hstep =>
    intro k acc i hi ha
    simp only [laws_toMonthRowS.l0]
    rw [if_pos (by omega), if_pos (by omega), rd26, nth_get hi]
    simp only [laws_toMonthRow.f, Option.bind_some]
    rw [if_pos (by omega), w64 (x := (i : Int) + 1) (by omega)]
    rfl
  case hend =>
    intro k acc
    simp [laws_toMonthRowS.l0]
  simpa using h
def okR (x : S28) : Bool := okM x.f0 x.f1 x.f2 x.f3 x.f4 x.f5
/-- Valid rows, in order. -/
def goodM (l : List S28) : Bool := decide (l.length ≤ 12) && (List.range l.length).all fun i => okR (nth l i z28) && (decide (i = 0) || decide ((nth l (i - 1) z28).f0 < (nth l i z28).f0))
theorem sGood (l : List S28) (hm : l.length ≤ 1048576) : Ev (fun k => spec_l26Good.f k l) (goodM l) := by
  unfold spec_l26Good.f
  have h := scanE l.length (fun i => okR (nth l i z28) && (decide (i = 0) || decide ((nth l (i - 1) z28).f0 < (nth l i z28).f0))) (decide (l.length ≤ 12)) false (fun k i => spec_l26Good.l0 k l i) ?hs ?hb ?he
  case hs =>
    intro i r hi ho hr
    refine Ev.succ ?_
    simp only [spec_l26Good.l0, rd28]
    simp only [if_pos (show (i : Int) < (l.length : Int) by omega), if_pos (show (0 : Int) ≤ (i : Int) by omega)]
    refine Ev.bind (l26E _ _ _ _ _ _) ?_
    simp only [Bool.and_eq_true, Bool.or_eq_true, decide_eq_true_iff] at ho
    simp only [show okM _ _ _ _ _ _ = true from ho.1, if_true, w64 (x := (i : Int) + 1) (by omega)]
    by_cases h0 : i = 0
    · subst h0
      simp only [if_neg (show ¬ (((0 : Nat) : Int) > 0) by omega)]
      exact hr
    · simp only [if_pos (show (i : Int) > 0 by omega), (show wrap64 ((i : Int) - 1) = ((i - 1 : Nat) : Int) by rw [w64 (by omega)]; omega), if_pos (show (0 : Int) ≤ ((i - 1 : Nat) : Int) by omega), if_pos (show ((i - 1 : Nat) : Int) < (l.length : Int) by omega), rd28]
      simp only [if_neg (show ¬ ((nth l (i - 1) z28).f0 ≥ (nth l i z28).f0) by omega)]
      exact hr
  case hb =>
    intro i hi ho
    refine Ev.succ ?_
    simp only [spec_l26Good.l0, rd28]
    simp only [if_pos (show (i : Int) < (l.length : Int) by omega), if_pos (show (0 : Int) ≤ (i : Int) by omega)]
    refine Ev.bind (l26E _ _ _ _ _ _) ?_
    by_cases h1 : okR (nth l i z28) = true
    · have h1' : okM (nth l i z28).f0 (nth l i z28).f1 (nth l i z28).f2 (nth l i z28).f3 (nth l i z28).f4 (nth l i z28).f5 = true := h1
      rw [h1, Bool.true_and, Bool.or_eq_false_iff, decide_eq_false_iff_not, decide_eq_false_iff_not] at ho
      simp only [h1', if_true, if_pos (show (i : Int) > 0 by omega), (show wrap64 ((i : Int) - 1) = ((i - 1 : Nat) : Int) by rw [w64 (by omega)]; omega), if_pos (show (0 : Int) ≤ ((i - 1 : Nat) : Int) by omega), if_pos (show ((i - 1 : Nat) : Int) < (l.length : Int) by omega), rd28]
      simp only [if_pos (show (nth l (i - 1) z28).f0 ≥ (nth l i z28).f0 by omega)]
      exact Ev.now _
    · have h1' : ¬ (okM (nth l i z28).f0 (nth l i z28).f1 (nth l i z28).f2 (nth l i z28).f3 (nth l i z28).f4 (nth l i z28).f5 = true) := h1
      simp only [if_neg h1']
      exact Ev.now _
  case he =>
    refine Ev.succ ?_
    simp only [spec_l26Good.l0, if_neg (show ¬ ((l.length : Int) < (l.length : Int)) by omega)]
    refine Ev.c ?_
    congr 1
    by_cases h : l.length ≤ 12
    · rw [decide_eq_true h, decide_eq_true (by omega)]
    · rw [decide_eq_false h, decide_eq_false (by omega)]
  have e : (if ((List.range l.length).all fun i => okR (nth l i z28) && (decide (i = 0) || decide ((nth l (i - 1) z28).f0 < (nth l i z28).f0))) = true then decide (l.length ≤ 12) else false) = goodM l := by
    unfold goodM
    generalize (List.range l.length).all _ = b
    cases b <;> simp
  rw [e] at h
  exact h
theorem iAsc (l : List S28) (hm : l.length ≤ 1048576) : Ev (fun k => impl_MonthRow_44__impl_AreMonthRows_1.f k l) ((List.range l.length).all fun i => decide (i = 0) || decide ((nth l (i - 1) z28).f0 < (nth l i z28).f0)) := by
  unfold impl_MonthRow_44__impl_AreMonthRows_1.f
  have main : ∀ d (i : Nat), l.length + 1 - i = d → 1 ≤ i → i ≤ l.length + 1 → Ev (fun k => impl_MonthRow_44__impl_AreMonthRows_1.l0 k l (i : Int)) (decide (∀ j, i ≤ j → j < l.length → (nth l (j - 1) z28).f0 < (nth l j z28).f0)) := by
    intro d
    induction d with
    | zero =>
      intro i hd h1 hi
      refine Ev.succ ?_
      simp only [impl_MonthRow_44__impl_AreMonthRows_1.l0, if_neg (show ¬ ((i : Int) < (l.length : Int)) by omega)]
      rw [decide_eq_true (fun j h2 h3 => by omega)]
      exact Ev.now _
    | succ d ih =>
      intro i hd h1 hi
      refine Ev.succ ?_
      by_cases hlt : i < l.length
      · simp only [impl_MonthRow_44__impl_AreMonthRows_1.l0, impl_AreMonthRows_1.f, if_pos (show (i : Int) < (l.length : Int) by omega), (show wrap64 ((i : Int) - 1) = ((i - 1 : Nat) : Int) by rw [w64 (by omega)]; omega), if_pos (show (0 : Int) ≤ ((i - 1 : Nat) : Int) by omega), if_pos (show ((i - 1 : Nat) : Int) < (l.length : Int) by omega), rd28, Option.bind_some, if_pos (show (0 : Int) ≤ (i : Int) by omega), w64 (x := (i : Int) + 1) (by omega)]
        by_cases hle : (nth l (i - 1) z28).f0 < (nth l i z28).f0
        · simp only [if_neg (show ¬ ((nth l (i - 1) z28).f0 ≥ (nth l i z28).f0) by omega)]
          have := ih (i + 1) (by omega) (by omega) (by omega)
          rw [show (decide (∀ j, i ≤ j → j < l.length → (nth l (j - 1) z28).f0 < (nth l j z28).f0)) = decide (∀ j, i + 1 ≤ j → j < l.length → (nth l (j - 1) z28).f0 < (nth l j z28).f0) from by
            rw [decide_eq_decide]
            exact ⟨fun h j h2 h3 => h j (by omega) h3, fun h j h2 h3 => by
              by_cases e : j = i
              · subst e; exact hle
              · exact h j (by omega) h3⟩]
          exact this
        · simp only [if_pos (show (nth l (i - 1) z28).f0 ≥ (nth l i z28).f0 by omega)]
          rw [decide_eq_false (fun h => hle (h i (by omega) hlt))]
          exact Ev.now _
      · simp only [impl_MonthRow_44__impl_AreMonthRows_1.l0, if_neg (show ¬ ((i : Int) < (l.length : Int)) by omega)]
        rw [decide_eq_true (fun j h2 h3 => by omega)]
        exact Ev.now _
  have h := main l.length 1 (by omega) (by omega) (by omega)
  rw [show ((List.range l.length).all fun i => decide (i = 0) || decide ((nth l (i - 1) z28).f0 < (nth l i z28).f0)) = decide (∀ j, 1 ≤ j → j < l.length → (nth l (j - 1) z28).f0 < (nth l j z28).f0) from by
    rw [Bool.eq_iff_iff, range_all, decide_eq_true_iff]
    constructor
    · intro h j h1 h2
      have := h j h2
      simp only [Bool.or_eq_true, decide_eq_true_iff] at this
      omega
    · intro h j h2
      by_cases h0 : j = 0
      · simp [h0]
      · simp [h j (by omega) h2]]
  exact h
theorem iGood (l : List S28) (hm : l.length ≤ 1048576) : Ev (fun k => impl_AreMonthRows.f k l) (goodM l) := by
  unfold impl_AreMonthRows.f impl_MonthRow_43__impl_IsMonthRow.f
  rw [all_total (p := okR) (fun x _ => iRow _ _ _ _ _ _)]
  unfold goodM
  by_cases hl : l.length ≤ 12
  · simp only [if_pos (show (l.length : Int) ≤ 12 by omega), Option.bind_some, decide_eq_true hl, Bool.true_and]
    by_cases ha : l.all okR = true
    · simp only [if_pos ha]
      have hb := iAsc l hm
      have e : ((List.range l.length).all fun i => okR (nth l i z28) && (decide (i = 0) || decide ((nth l (i - 1) z28).f0 < (nth l i z28).f0))) = ((List.range l.length).all fun i => decide (i = 0) || decide ((nth l (i - 1) z28).f0 < (nth l i z28).f0)) := by
        rw [Bool.eq_iff_iff, range_all, range_all]
        rw [all_iff_nth z28] at ha
        constructor
        · intro h i hi
          have := h i hi
          rwa [ha i hi, Bool.true_and] at this
        · intro h i hi
          rw [ha i hi, Bool.true_and]; exact h i hi
      rw [e]
      exact Ev.bind hb (Ev.now _)
    · simp only [if_neg ha]
      have e : ((List.range l.length).all fun i => okR (nth l i z28) && (decide (i = 0) || decide ((nth l (i - 1) z28).f0 < (nth l i z28).f0))) = false := by
        rw [Bool.eq_false_iff]
        intro h
        rw [range_all] at h
        apply ha
        rw [all_iff_nth z28]
        intro i hi
        have := h i hi
        rw [Bool.and_eq_true] at this
        exact this.1
      rw [e]
      exact Ev.now _
  · simp only [if_neg (show ¬ ((l.length : Int) ≤ 12) by omega), decide_eq_false hl, Bool.false_and]
    exact Ev.now _
theorem eqRows (l : List S28) (hm : l.length ≤ 1048576) : Ev (fun k => laws_eqMonthRowS.f k l l) true := by
  unfold laws_eqMonthRowS.f
  simp only [if_true]
  have h := scanE l.length (fun _ => true) true false (fun k i => laws_eqMonthRowS.l0 k l l i) ?hs ?hb ?he
  case hs =>
    intro i r hi _ hr
    refine Ev.succ ?_
    simp only [laws_eqMonthRowS.l0, laws_eqMonthRow.f, if_pos (show (i : Int) < (l.length : Int) by omega), if_pos (show (0 : Int) ≤ (i : Int) by omega), if_true, Option.bind_some, w64 (x := (i : Int) + 1) (by omega)]
    exact hr
  case hb => intro i _ h; cases h
  case he =>
    refine Ev.succ ?_
    simp only [laws_eqMonthRowS.l0, if_neg (show ¬ ((l.length : Int) < (l.length : Int)) by omega)]
    exact Ev.now _
  simpa using h
theorem szRows (l : List S26) (hm : l.length ≤ maxLen) : ∃ r, laws_szMonthRowS.f l 1048576 = some r ∧ (r < 0 ↔ 1048576 < l.length) := by
  unfold laws_szMonthRowS.f
  have := sz_small hm
  by_cases h : wrap64 (1048576 - (l.length : Int)) < 0
  · exact ⟨-1, by rw [if_pos h], by rw [← this]; exact ⟨fun _ => h, fun _ => by omega⟩⟩
  · exact ⟨_, by rw [if_neg h], this⟩
/-- The report's parts over the first rows. -/
def rowT (x : S28) : ByteArray := lineT x.f0 x.f1 x.f2 (x.f4 - x.f5) ++ ⟨#[10]⟩
def tT (xs : List S28) : Nat → ByteArray
  | 0 => ⟨#[]⟩
  | i + 1 => tT xs i ++ rowT (xs.getD i z28)
def cS (xs : List S28) : Nat → Int
  | 0 => 0
  | i + 1 => cS xs i + (xs.getD i z28).f1
def pS (xs : List S28) : Nat → Int
  | 0 => 0
  | i + 1 => pS xs i + ((xs.getD i z28).f4 - (xs.getD i z28).f5)
theorem good_at {l : List S28} (h : goodM l = true) : l.length ≤ 12 ∧ ∀ i, i < l.length → okM (nth l i z28).f0 (nth l i z28).f1 (nth l i z28).f2 (nth l i z28).f3 (nth l i z28).f4 (nth l i z28).f5 = true := by
  unfold goodM at h
  simp only [Bool.and_eq_true, decide_eq_true_iff, range_all] at h
  exact ⟨h.1, fun i hi => (h.2 i hi).1⟩
theorem parts_b {l : List S28} (h : goodM l = true) : ∀ i, i ≤ l.length → (tT l i).size ≤ 201 * i ∧ 0 ≤ cS l i ∧ cS l i ≤ 99 * i ∧ -100000000 * (i : Int) ≤ pS l i ∧ pS l i ≤ 100000000 * (i : Int)
  | 0, _ => ⟨by show (0 : Nat) ≤ _; omega, by simp [cS], by simp [cS], by simp [pS], by simp [pS]⟩
  | i + 1, hi => by
    obtain ⟨h1, h2, h3, h4, h5⟩ := parts_b h i (by omega)
    have hk := (good_at h).2 i (by omega)
    obtain ⟨hm, hc, hn, hii, hs⟩ := okM_at hk
    have hl := lineT_size (nth l i z28).f0 (nth l i z28).f1 (nth l i z28).f2 ((nth l i z28).f4 - (nth l i z28).f5) (by omega) (by omega) (by omega) (by omega)
    unfold nth at hm hc hn hii hs hl
    refine ⟨?_, ?_, ?_, ?_, ?_⟩
    · show (tT l i ++ rowT (l.getD i z28)).size ≤ _
      unfold rowT
      simp only [ByteArray.size_append', ByteArray.size_mk', List.size_toArray, List.length_cons, List.length_nil]
      omega
    · show 0 ≤ cS l i + _
      omega
    · show cS l i + _ ≤ _
      omega
    · show _ ≤ pS l i + _
      omega
    · show pS l i + _ ≤ _
      omega
def repT (xs : List S28) : ByteArray := (((tT xs xs.length ++ ⟨#[115, 117, 109, 58, 32]⟩) ++ dec (cS xs xs.length)) ++ ⟨#[32, 99, 97, 114, 112, 101, 116, 115, 44, 32]⟩) ++ cT (pS xs xs.length)
end Go.Proofs.YthmgiagecgkmiaaDoor.M

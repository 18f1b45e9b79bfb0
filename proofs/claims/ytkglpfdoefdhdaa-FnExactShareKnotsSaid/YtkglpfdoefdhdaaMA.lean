import Derived.Test.YtkglpfdoefdhdaaMI2
import Derived.Test.YtkglpfdoefdhdaaQx115
import Derived.Test.YtkglpfdoefdhdaaQx29
import Derived.Test.YtkglpfdoefdhdaaQx33
import Derived.Test.YtkglpfdoefdhdaaQx42
import Derived.Test.YtkglpfdoefdhdaaQx45
import Derived.Test.YtkglpfdoefdhdaaQx46
import Derived.Test.YtkglpfdoefdhdaaQx50
import Derived.Test.YtkglpfdoefdhdaaQx8888801
namespace Go.Proofs.Ytkglpfdoefdhdaa.M
open Go.RowKit Go.Proofs.Ytkglpfdoefdhdaa.Q Go.Proofs.YtkglpfdoefdhdaaW.PrintWords Go.Proofs.YtkglpfdoefdhdaaW.PrintLast Go.Proofs.YtkglpfdoefdhdaaW.Pl Classical
set_option linter.unusedSimpArgs false
set_option linter.unusedVariables false

theorem rd76 (l : List S76) (i : Nat) : rd_T76 l (i : Int) = nth l i z76 := by unfold rd_T76 nth; simp
theorem rd73 (l : List S73) (i : Nat) : rd_T73 l (i : Int) = nth l i z73 := by unfold rd_T73 nth; simp
def cvHole (x : S73) : S76 := ⟨x.f0, x.f1, x.f2, x.f3⟩
theorem toHoles (l : List S73) (hm : l.length ≤ 1048576) : Ev (fun k => laws_toHoleS.f k l) (l.map cvHole) := by
  refine ⟨l.length + 1, fun k hk => ?_⟩
  show laws_toHoleS.f k l = _
  unfold laws_toHoleS.f
  rw [if_pos (by omega), if_pos (by omega)]
  have h := fill_gen l cvHole (fun k acc i => laws_toHoleS.l0 k l acc i) ?hstep ?hend k hk (List.replicate l.length z76) (by simp)
  case hstep =>
    intro k acc i hi ha
    simp only [laws_toHoleS.l0]
    rw [if_pos (by omega), if_pos (by omega), rd73, nth_get hi]
    simp only [laws_toHole.f, Option.bind_some]
    rw [if_pos (by omega), w64 (x := (i : Int) + 1) (by omega)]
    rfl
  case hend =>
    intro k acc
    simp [laws_toHoleS.l0]
  simpa using h
theorem eqHoles (l : List S76) (hm : l.length ≤ 1048576) : Ev (fun k => laws_eqHoleS.f k l l) true := by
  unfold laws_eqHoleS.f
  simp only [if_true]
  have h := scanE l.length (fun _ => true) true false (fun k i => laws_eqHoleS.l0 k l l i) ?hs ?hb ?he
  case hs =>
    intro i r hi _ hr
    refine Ev.succ ?_
    simp only [laws_eqHoleS.l0, laws_eqHole.f, if_pos (show (i : Int) < (l.length : Int) by omega), if_pos (show (0 : Int) ≤ (i : Int) by omega), if_true, Option.bind_some, w64 (x := (i : Int) + 1) (by omega)]
    exact hr
  case hb => intro i _ h; cases h
  case he =>
    refine Ev.succ ?_
    simp only [laws_eqHoleS.l0, if_neg (show ¬ ((l.length : Int) < (l.length : Int)) by omega)]
    exact Ev.now _
  simpa using h
theorem markStepHole (l : List S76) (m i : Int) (h0 : 0 ≤ i) (h1 : i < (l.length : Int)) : ∃ b : List S76, b.length = l.length ∧ ∀ k, laws_markHoleS.l0 (k + 1) l m i = laws_markHoleS.l0 k b (wrap64 ((wrap64 ((wrap64 ((wrap64 (m + 1)) + 1)) + 1)) + 1)) (wrap64 (i + 1)) := by
  simp only [laws_markHoleS.l0, if_pos h1, if_pos h0]
  generalize (i.toNat) = j
  refine bindLen _ _ (fun b k => laws_markHoleS.l0 k b _ _) (by rw [List.length_set]) (fun b1 hb1 => ?_)
  refine bindLen _ _ (fun b k => laws_markHoleS.l0 k b _ _) (by rw [List.length_set]; exact hb1) (fun b2 hb2 => ?_)
  refine bindLen _ _ (fun b k => laws_markHoleS.l0 k b _ _) (by rw [List.length_set]; exact hb2) (fun b3 hb3 => ?_)
  exact ⟨_, by rw [List.length_set]; exact hb3, fun _ => rfl⟩
/-- A list of them is marked: the marks stay positive. -/
theorem markHoles (l : List S76) (hm : l.length ≤ 1048576) (m0 : Nat) (hm0 : m0 ≤ 1099511627776) : ∃ l', Ev (fun k => laws_markHoleS.f k l (m0 : Int)) (((4 * l.length + m0 : Nat) : Int), l') := by
  have main : ∀ d (i m : Nat) (a : List S76), m = 4 * i + m0 → a.length = l.length → l.length - i = d → i ≤ l.length → ∃ l', Ev (fun k => laws_markHoleS.l0 k a (m : Int) (i : Int)) (((4 * l.length + m0 : Nat) : Int), l') := by
    intro d
    induction d with
    | zero =>
      intro i m a hmi ha hd hi
      have hil : i = l.length := by omega
      refine ⟨a, Ev.succ ?_⟩
      simp only [laws_markHoleS.l0, if_neg (show ¬ ((i : Int) < (a.length : Int)) by omega)]
      rw [hmi, hil]
      exact Ev.now _
    | succ d ih =>
      intro i m a hmi ha hd hi
      have hb1 : m < 4611686018427380000 := by omega
      obtain ⟨b, hb, hs⟩ := markStepHole a (m : Int) (i : Int) (by omega) (by omega)
      rw [stepI (m) (by omega), stepI (m + 1) (by omega), stepI (m + 1 + 1) (by omega), stepI (m + 1 + 1 + 1) (by omega), stepI i (by omega)] at hs
      obtain ⟨l', h⟩ := ih (i + 1) (m + 1 + 1 + 1 + 1) b (by clear hs; omega) (by clear hs; omega) (by clear hs; omega) (by clear hs; omega)
      refine ⟨l', Ev.succ ?_⟩
      have : (fun k => laws_markHoleS.l0 (k + 1) a (m : Int) (i : Int)) = (fun k => laws_markHoleS.l0 k b ((m + 1 + 1 + 1 + 1 : Nat) : Int) ((i + 1 : Nat) : Int)) := funext hs
      rw [this]
      exact h
  exact main l.length 0 m0 l (by omega) rfl (by omega) (by omega)
theorem szW (a : Int) (n : Nat) (hn : n ≤ maxLen) (ha : 0 ≤ a ∧ a ≤ 1048576) : wrap64 (a - (n : Int)) = a - (n : Int) := w64 (by unfold maxLen at hn; omega)
theorem szHoles (l : List S73) (a : Int) (hn : l.length ≤ maxLen) (ha : 0 ≤ a ∧ a ≤ 1048576) : ∃ r, laws_szHoleS.f l a = some r ∧ (r < 0 ∨ (0 ≤ r ∧ r ≤ 1048576 ∧ l.length ≤ 1048576)) := by
  unfold laws_szHoleS.f
  rw [szW a _ hn ha]
  by_cases h : a - (l.length : Int) < 0
  · exact ⟨-1, by rw [if_pos h], .inl (by omega)⟩
  · exact ⟨_, by rw [if_neg h], .inr (by omega)⟩
theorem szChart (w h : Int) (l : List Int) (a : Int) (hn : l.length ≤ maxLen) (ha : 0 ≤ a ∧ a ≤ 1048576) : ∃ r, laws_szChart.f w h l a = some r ∧ (r < 0 ∨ (0 ≤ r ∧ r ≤ 1048576 ∧ l.length ≤ 1048576)) := by
  unfold laws_szChart.f laws_szIntS.f
  rw [szW a _ hn ha]
  by_cases h : a - (l.length : Int) < 0
  · exact ⟨-1, by rw [if_pos h]; rfl, .inl (by omega)⟩
  · exact ⟨a - (l.length : Int), by rw [if_neg h, Option.bind_some, if_neg h], .inr (by omega)⟩
theorem toChart (w h : Int) (l : List Int) (hl : l.length ≤ 1048576) : Ev (fun k => laws_toChart.f k w h l) (w, h, l) := by
  unfold laws_toChart.f
  exact Ev.bind (toInts l hl) (Ev.now _)
theorem eqChart (w h : Int) (l : List Int) (hl : l.length ≤ 1048576) : Ev (fun k => laws_eqChart.f k w h l w h l) true := by
  unfold laws_eqChart.f
  simp only [if_true]
  refine Ev.bind (eqInts l hl) ?_
  simp only [if_true]
  exact Ev.now _
theorem markChart (w h : Int) (l : List Int) (hl : l.length ≤ 1048576) (m : Nat) (hm : m ≤ 1099511627776) : ∃ p : Int × List Int, p.1 = ((m + l.length : Nat) : Int) ∧ Ev (fun k => laws_markChart.f k w h l (m : Int)) p := by
  obtain ⟨p, h1, h2, h3⟩ := markIntsFrom l hl m hm
  refine ⟨p, h1, ?_⟩
  unfold laws_markChart.f
  exact Ev.bind h3 (Ev.now _)
end Go.Proofs.Ytkglpfdoefdhdaa.M

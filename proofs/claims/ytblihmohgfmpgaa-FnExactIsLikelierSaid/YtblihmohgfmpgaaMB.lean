import Derived.Test.YtblihmohgfmpgaaMA
import Derived.Test.YtblihmohgfmpgaaQx100
import Derived.Test.YtblihmohgfmpgaaQx101
import Derived.Test.YtblihmohgfmpgaaQx32
import Derived.Test.YtblihmohgfmpgaaQx33
import Derived.Test.YtblihmohgfmpgaaQx70
import Derived.Test.YtblihmohgfmpgaaQx71
import Derived.Test.YtblihmohgfmpgaaQx72
import Derived.Test.YtblihmohgfmpgaaQx73
import Derived.Test.YtblihmohgfmpgaaQx74
import Derived.Test.YtblihmohgfmpgaaQx76
import Derived.Test.YtblihmohgfmpgaaQx8888801
namespace Go.Proofs.Ytblihmohgfmpgaa.M
open Go.RowKit Go.Proofs.Ytblihmohgfmpgaa.Q Go.Proofs.YtblihmohgfmpgaaW.PrintWords Go.Proofs.YtblihmohgfmpgaaW.PrintLast Go.Proofs.YtblihmohgfmpgaaW.Pl Classical
set_option linter.unusedSimpArgs false
set_option linter.unusedVariables false

/-- In how many of 100 carpets a mark is as on a piece. -/
def ch (s p : List Int) (j : Nat) : Int := if nth p j 0 = 1 then nth s j 0 else if nth p j 0 = 0 then 100 - nth s j 0 else 100
/-- Marks of a valid school and a valid piece. -/
structure Fit (s p : List Int) : Prop where
  ls : s.length = 8
  lp : p.length = 8
  bs : ∀ j, j < 8 → 0 ≤ nth s j 0 ∧ nth s j 0 ≤ 100
  bp : ∀ j, j < 8 → -1 ≤ nth p j 0 ∧ nth p j 0 ≤ 1
theorem ch_b {s p : List Int} (h : Fit s p) (j : Nat) (hj : j < 8) : 0 ≤ ch s p j ∧ ch s p j ≤ 100 := by
  have := h.bs j hj
  unfold ch; split
  · omega
  · split <;> omega
theorem iChance {s p : List Int} (h : Fit s p) (a b c d e : Int) (j : Nat) (hj : j < 8) : impl_chance.f a s b c p d e (j : Int) = some (ch s p j) := by
  have h1 := h.ls
  have h2 := h.lp
  have h3 := h.bs j hj
  unfold impl_chance.f ch
  simp only [rdI, if_pos (show (0 : Int) ≤ (j : Int) by omega), if_pos (show (j : Int) < (p.length : Int) by omega), if_pos (show (j : Int) < (s.length : Int) by omega), w64 (x := 100 - nth s j 0) (by omega)]
  by_cases e1 : nth p j 0 = 1
  · simp only [if_pos e1]
  · by_cases e0 : nth p j 0 = 0
    · simp only [if_neg e1, if_pos e0]
    · simp only [if_neg e1, if_neg e0]
theorem againstBoth {s p : List Int} (h : Fit s p) (a b c d e : Int) : ∃ q : List Int, q.length ≤ 8 ∧ (q = [] ↔ ∀ j, j < 8 → ch s p j ≠ 0) ∧ Ev (fun k => spec_l20Against.f k a s b c p d e) q ∧ Ev (fun k => impl_against.f k a s b c p d e) q := by
  unfold spec_l20Against.f impl_against.f
  have h1 := h.ls
  have h2 := h.lp
  have main : ∀ n (i : Nat) (x : List Int), 8 - i = n → i ≤ 8 → x.length ≤ i → ∃ q : List Int, q.length ≤ 8 ∧ (q = [] ↔ x = [] ∧ ∀ j, i ≤ j → j < 8 → ch s p j ≠ 0) ∧ Ev (fun k => spec_l20Against.l0 k x (i : Int) a s b c p d e) q ∧ Ev (fun k => impl_against.l0 k x (i : Int) a s b c p d e) q := by
    intro n
    induction n with
    | zero =>
      intro i x hn hi hx
      have hi8 : i = 8 := by omega
      subst hi8
      refine ⟨x, by omega, ⟨fun g => ⟨g, fun j h3 h4 => by omega⟩, fun g => g.1⟩, Ev.succ ?_, Ev.succ ?_⟩
      · simp only [spec_l20Against.l0, if_neg (show ¬ (((8 : Nat) : Int) < (p.length : Int)) by omega)]
        exact Ev.now _
      · simp only [impl_against.l0, if_neg (show ¬ (((8 : Nat) : Int) < 8) by omega)]
        exact Ev.now _
    | succ n ih =>
      intro i x hn hi hx
      have hi8 : i < 8 := by omega
      have hb := h.bs i hi8
      have hc := iChance h a b c d e i hi8
      by_cases e : ch s p i = 0
      · obtain ⟨q, hq, hq2, g1, g2⟩ := ih (i + 1) (x ++ [(i : Int)]) (by omega) (by omega) (by simp; omega)
        refine ⟨q, hq, ?_, Ev.succ ?_, Ev.succ ?_⟩
        · rw [hq2]
          constructor
          · intro ⟨g, _⟩; simp at g
          · intro ⟨_, g⟩; exact absurd e (g i (by omega) hi8)
        · unfold ch at e
          simp only [spec_l20Against.l0, rdI, if_pos (show (i : Int) < (p.length : Int) by omega), if_pos (show (0 : Int) ≤ (i : Int) by omega), if_pos (show (i : Int) < (s.length : Int) by omega), if_pos (show x.length < 17592186044416 by omega), stepI i (by omega)]
          by_cases e1 : nth p i 0 = 1
          · rw [if_pos e1] at e
            simp only [if_pos e1, if_pos e]
            exact g1
          · rw [if_neg e1] at e
            by_cases e0 : nth p i 0 = 0
            · rw [if_pos e0] at e
              simp only [if_neg e1, if_pos e0, if_pos (show nth s i 0 = 100 by omega)]
              exact g1
            · rw [if_neg e0] at e; omega
        · simp only [impl_against.l0, if_pos (show (i : Int) < 8 by omega), hc, Option.bind_some, if_pos e, if_pos (show x.length < 17592186044416 by omega), stepI i (by omega)]
          exact g2
      · obtain ⟨q, hq, hq2, g1, g2⟩ := ih (i + 1) x (by omega) (by omega) (by omega)
        refine ⟨q, hq, ?_, Ev.succ ?_, Ev.succ ?_⟩
        · rw [hq2]
          constructor
          · intro ⟨g, f⟩
            refine ⟨g, fun j h3 h4 => ?_⟩
            by_cases ej : j = i
            · subst ej; exact e
            · exact f j (by omega) h4
          · intro ⟨g, f⟩
            exact ⟨g, fun j h3 h4 => f j (by omega) h4⟩
        · unfold ch at e
          simp only [spec_l20Against.l0, rdI, if_pos (show (i : Int) < (p.length : Int) by omega), if_pos (show (0 : Int) ≤ (i : Int) by omega), if_pos (show (i : Int) < (s.length : Int) by omega), stepI i (by omega)]
          by_cases e1 : nth p i 0 = 1
          · rw [if_pos e1] at e
            simp only [if_pos e1, if_neg e, if_neg (show ¬ (nth p i 0 = 0) by omega)]
            exact g1
          · rw [if_neg e1] at e
            by_cases e0 : nth p i 0 = 0
            · rw [if_pos e0] at e
              simp only [if_neg e1, if_pos e0, if_neg (show ¬ (nth s i 0 = 100) by omega)]
              exact g1
            · simp only [if_neg e1, if_neg e0]
              exact g1
        · simp only [impl_against.l0, if_pos (show (i : Int) < 8 by omega), hc, Option.bind_some, if_neg e, stepI i (by omega)]
          exact g2
  obtain ⟨q, hq, hq2, g1, g2⟩ := main 8 0 [] rfl (by omega) (by simp)
  exact ⟨q, hq, by rw [hq2]; exact ⟨fun g j hj => g.2 j (by omega) hj, fun g => ⟨rfl, fun j _ hj => g j hj⟩⟩, g1, g2⟩
/-- A school is possible for a piece. -/
def can (s p : List Int) (f t a b : Int) : Bool := decide (f ≤ b ∧ a ≤ t) && (List.range 8).all fun j => ch s p j != 0
theorem canBoth {s p : List Int} (h : Fit s p) (x f t a b : Int) (hf : f ≤ t) (ha : a ≤ b) : Ev (fun k => spec_l20Can.f k x s f t p a b) (can s p f t a b) ∧ Ev (fun k => impl_isPossible.f k x s f t p a b) (can s p f t a b) := by
  obtain ⟨q, _, hq, g1, g2⟩ := againstBoth h x f t a b
  have hlen : ((q.length : Int) == 0) = (List.range 8).all fun j => ch s p j != 0 := by
    rw [Bool.eq_iff_iff, beq_iff_eq, range_all]
    constructor
    · intro e i hi
      have e' : q = [] := List.eq_nil_of_length_eq_zero (by omega)
      have := hq.1 e' i hi
      simpa using this
    · intro e
      have e' : q = [] := hq.2 (fun j hj => by simpa using e j hj)
      rw [e']; rfl
  have hA := mx_c f a (mn t b)
  have hB := mn_c t b f
  have hC := mn_c t b a
  unfold spec_l20Can.f impl_isPossible.f impl_shareYears.f can
  rw [← hlen]
  constructor
  · simp only [most, least, Option.bind_some]
    by_cases e : f ≤ b ∧ a ≤ t
    · simp only [if_pos (show mx f a ≤ mn t b by omega), decide_eq_true e, Bool.true_and]
      exact Ev.bind g1 (Ev.now _)
    · simp only [if_neg (show ¬ (mx f a ≤ mn t b) by omega), decide_eq_false e, Bool.false_and]
      exact Ev.now _
  · by_cases e1 : f ≤ b
    · by_cases e2 : a ≤ t
      · simp only [if_pos e1, decide_eq_true e2, decide_eq_true (show f ≤ b ∧ a ≤ t from ⟨e1, e2⟩), Option.bind_some, if_true, Bool.true_and]
        exact Ev.bind g2 (Ev.now _)
      · simp only [if_pos e1, decide_eq_false e2, decide_eq_false (show ¬ (f ≤ b ∧ a ≤ t) from fun g => e2 g.2), Option.bind_some, Bool.false_eq_true, if_false, Bool.false_and]
        exact Ev.now _
    · simp only [if_neg e1, decide_eq_false (show ¬ (f ≤ b ∧ a ≤ t) from fun g => e1 g.1), Option.bind_some, Bool.false_eq_true, if_false, Bool.false_and]
      exact Ev.now _
/-- The weight by the marks that can be told; what the others add; a bound. -/
def wS (s p : List Int) : Nat → Int
  | 0 => 1
  | i + 1 => wS s p i * (if nth p i 0 = 1 ∨ nth p i 0 = 0 then ch s p i else 1)
def wU (p : List Int) : Nat → Int
  | 0 => 1
  | i + 1 => wU p i * (if nth p i 0 = 1 ∨ nth p i 0 = 0 then 1 else 100)
def bnd : Nat → Int
  | 0 => 1
  | i + 1 => bnd i * 100
theorem bnd_le : ∀ i, i ≤ 8 → bnd i ≤ 10000000000000000
  | 0, _ => by decide
  | 1, _ => by decide
  | 2, _ => by decide
  | 3, _ => by decide
  | 4, _ => by decide
  | 5, _ => by decide
  | 6, _ => by decide
  | 7, _ => by decide
  | 8, _ => by decide
  | n + 9, h => by omega
theorem w_b {s p : List Int} (h : Fit s p) : ∀ i, i ≤ 8 → 0 ≤ wS s p i ∧ 1 ≤ wU p i ∧ wS s p i * wU p i ≤ bnd i
  | 0, _ => by simp [wS, wU, bnd]
  | i + 1, hi => by
    obtain ⟨h1, h2, h3⟩ := w_b h i (by omega)
    obtain ⟨c1, c2⟩ := ch_b h i (by omega)
    have h4 : 0 ≤ wS s p i * wU p i := Int.mul_nonneg h1 (by omega)
    by_cases e : nth p i 0 = 1 ∨ nth p i 0 = 0
    · simp only [wS, wU, bnd, if_pos e, Int.mul_one]
      refine ⟨Int.mul_nonneg h1 c1, h2, ?_⟩
      rw [Int.mul_right_comm]
      exact Int.mul_le_mul h3 c2 c1 (by omega)
    · simp only [wS, wU, bnd, if_neg e, Int.mul_one]
      refine ⟨h1, by omega, ?_⟩
      rw [← Int.mul_assoc]
      omega
theorem ch_u {s p : List Int} (i : Nat) (e : ¬ (nth p i 0 = 1 ∨ nth p i 0 = 0)) : ch s p i = 100 := by
  unfold ch
  rw [if_neg (fun g => e (.inl g)), if_neg (fun g => e (.inr g))]
theorem wS_le {s p : List Int} (h : Fit s p) (i : Nat) (hi : i ≤ 8) : 0 ≤ wS s p i ∧ wS s p i ≤ 10000000000000000 ∧ 0 ≤ wS s p i * wU p i ∧ wS s p i * wU p i ≤ 10000000000000000 := by
  obtain ⟨h1, h2, h3⟩ := w_b h i hi
  have := bnd_le i hi
  have h4 : wS s p i * 1 ≤ wS s p i * wU p i := Int.mul_le_mul_of_nonneg_left h2 h1
  rw [Int.mul_one] at h4
  omega
theorem sWeightLoop {s p : List Int} (h : Fit s p) (x f t a b : Int) : Ev (fun k => spec_l20Weight.l0 k 1 0 x s f t p a b) (wS s p 8) := by
  have h1 := h.ls
  have h2 := h.lp
  have main : ∀ n (i : Nat), 8 - i = n → i ≤ 8 → Ev (fun k => spec_l20Weight.l0 k (wS s p i) (i : Int) x s f t p a b) (wS s p 8) := by
    intro n
    induction n with
    | zero =>
      intro i hn hi
      have hi8 : i = 8 := by omega
      subst hi8
      refine Ev.succ ?_
      simp only [spec_l20Weight.l0, if_neg (show ¬ (((8 : Nat) : Int) < (p.length : Int)) by omega)]
      exact Ev.now _
    | succ n ih =>
      intro i hn hi
      have hi8 : i < 8 := by omega
      have hb := h.bs i hi8
      have hw := wS_le h (i + 1) (by omega)
      have g := ih (i + 1) (by omega) (by omega)
      refine Ev.succ ?_
      simp only [spec_l20Weight.l0, rdI, if_pos (show (i : Int) < (p.length : Int) by omega), if_pos (show (0 : Int) ≤ (i : Int) by omega), if_pos (show (i : Int) < (s.length : Int) by omega), stepI i (by omega)]
      by_cases e1 : nth p i 0 = 1
      · have e : wS s p (i + 1) = wS s p i * nth s i 0 := by
          simp only [wS]
          rw [if_pos (.inl e1)]
          unfold ch; rw [if_pos e1]
        rw [e] at g hw
        simp only [if_pos e1]
        rw [w64 (by omega)]
        exact g
      · by_cases e0 : nth p i 0 = 0
        · have e : wS s p (i + 1) = wS s p i * (100 - nth s i 0) := by
            simp only [wS]
            rw [if_pos (.inr e0)]
            unfold ch; rw [if_neg e1, if_pos e0]
          rw [e] at g hw
          simp only [if_neg e1, if_pos e0]
          rw [w64 (x := 100 - nth s i 0) (by omega), w64 (by omega)]
          exact g
        · have e : wS s p (i + 1) = wS s p i := by
            simp only [wS]
            rw [if_neg (by omega), Int.mul_one]
          rw [e] at g
          simp only [if_neg e1, if_neg e0]
          exact g
  exact main 8 0 rfl (by omega)
theorem iWeightLoop {s p : List Int} (h : Fit s p) (x f t a b : Int) : Ev (fun k => impl_weight.l0 k 1 0 x s f t p a b) (wS s p 8 * wU p 8) := by
  have main : ∀ n (i : Nat), 8 - i = n → i ≤ 8 → Ev (fun k => impl_weight.l0 k (wS s p i * wU p i) (i : Int) x s f t p a b) (wS s p 8 * wU p 8) := by
    intro n
    induction n with
    | zero =>
      intro i hn hi
      have hi8 : i = 8 := by omega
      subst hi8
      refine Ev.succ ?_
      simp only [impl_weight.l0, if_neg (show ¬ (((8 : Nat) : Int) < 8) by omega)]
      exact Ev.now _
    | succ n ih =>
      intro i hn hi
      have hi8 : i < 8 := by omega
      have hw := wS_le h (i + 1) (by omega)
      have g := ih (i + 1) (by omega) (by omega)
      have e : wS s p (i + 1) * wU p (i + 1) = wS s p i * wU p i * ch s p i := by
        simp only [wS, wU]
        by_cases e : nth p i 0 = 1 ∨ nth p i 0 = 0
        · rw [if_pos e, if_pos e, Int.mul_one, Int.mul_right_comm]
        · rw [if_neg e, if_neg e, ch_u i e, Int.mul_one, Int.mul_assoc]
      rw [e] at g hw
      refine Ev.succ ?_
      simp only [impl_weight.l0, if_pos (show (i : Int) < 8 by omega), iChance h x f t a b i hi8, Option.bind_some, stepI i (by omega)]
      rw [w64 (by omega)]
      exact g
  have := main 8 0 rfl (by omega)
  rwa [show wS s p 0 * wU p 0 = 1 from rfl] at this
/-- The weight of a school, and what the program takes for it. -/
def wt (s p : List Int) (f t a b : Int) : Int := if can s p f t a b = true then wS s p 8 else 0
theorem weightBoth {s p : List Int} (h : Fit s p) (x f t a b : Int) (hf : f ≤ t) (ha : a ≤ b) : Ev (fun k => spec_l20Weight.f k x s f t p a b) (wt s p f t a b) ∧ Ev (fun k => impl_weight.f k x s f t p a b) (wt s p f t a b * wU p 8) := by
  obtain ⟨c1, c2⟩ := canBoth h x f t a b hf ha
  unfold spec_l20Weight.f impl_weight.f wt
  constructor
  · refine Ev.bind c1 ?_
    by_cases e : can s p f t a b = true
    · simp only [e, if_true]; exact sWeightLoop h x f t a b
    · simp only [e, Bool.false_eq_true, if_false]; exact Ev.now _
  · refine Ev.bind c2 ?_
    by_cases e : can s p f t a b = true
    · simp only [e, if_true]; exact iWeightLoop h x f t a b
    · simp only [e, Bool.false_eq_true, if_false, Int.zero_mul]; exact Ev.now _
theorem wU_pos (p : List Int) : ∀ i, 1 ≤ wU p i
  | 0 => by simp [wU]
  | i + 1 => by
    have := wU_pos p i
    simp only [wU]
    split <;> omega
theorem fit_at {l : List S69} {m : List Int} {a b : Int} (h : both l m a b = true) (i : Nat) (hi : i < l.length) : Fit (nth l i z69).f1 m ∧ (nth l i z69).f2 ≤ (nth l i z69).f3 ∧ a ≤ b := by
  obtain ⟨_, hs, h1, h2, h3⟩ := both_at h
  obtain ⟨g1, g2, g3, _⟩ := hs i hi
  exact ⟨⟨g1, h1, g2, h2⟩, by omega, by omega⟩
theorem likelierBoth (l : List S69) (m : List Int) (a b x y : Int) (hm : l.length ≤ 1048576) (hg : ∀ i, i < l.length → (nth l i z69).f1.length ≤ 1048576) (hp : m.length ≤ 1048576) : ∃ q : Bool × Bool, Ev (fun k => spec_IsLikelier.f k l m a b x y) q ∧ Ev (fun k => impl_IsLikelier.f k l m a b x y) q := by
  unfold spec_IsLikelier.f impl_IsLikelier.f impl_findSchool.f
  simp only [Option.bind_some]
  have hX := find_b l x
  have hY := find_b l y
  have sX := sFind l x hm
  have sY := sFind l y hm
  rw [show idx (fun x_1 : S69 => decide (x_1.f0 = x)) l = find l x from rfl, show idx (fun x : S69 => decide (x.f0 = y)) l = find l y from rfl]
  generalize find l x = i at *
  generalize find l y = j at *
  by_cases h : both l m a b = true
  · by_cases hi : i < 0
    · refine ⟨(false, false), Ev.bind sX (Ev.bind sY (Ev.bind (sBoth l m a b hm hg hp) ?_)), Ev.bind (iBoth l m a b hm) ?_⟩
      · simp only [h, if_true, if_pos hi]
        refine Ev.succ ?_
        simp only [spec_IsLikelier.j0, if_true]
        exact Ev.now _
      · simp only [h, if_true, if_pos hi]
        refine Ev.succ ?_
        simp only [impl_IsLikelier.j0, if_true]
        exact Ev.now _
    · by_cases hj : j < 0
      · refine ⟨(false, false), Ev.bind sX (Ev.bind sY (Ev.bind (sBoth l m a b hm hg hp) ?_)), Ev.bind (iBoth l m a b hm) ?_⟩
        · simp only [h, if_true, if_neg hi, decide_eq_true hj]
          refine Ev.succ ?_
          simp only [spec_IsLikelier.j0, if_true]
          exact Ev.now _
        · simp only [h, if_true, if_neg hi, decide_eq_true hj]
          refine Ev.succ ?_
          simp only [impl_IsLikelier.j0, if_true]
          exact Ev.now _
      · obtain ⟨i, rfl⟩ : ∃ n : Nat, i = (n : Int) := ⟨i.toNat, by omega⟩
        obtain ⟨j, rfl⟩ : ∃ n : Nat, j = (n : Int) := ⟨j.toNat, by omega⟩
        obtain ⟨f1, f2, f3⟩ := fit_at h i (by omega)
        obtain ⟨e1, e2, e3⟩ := fit_at h j (by omega)
        obtain ⟨a1, a2⟩ := weightBoth f1 (nth l i z69).f0 _ _ a b f2 f3
        obtain ⟨b1, b2⟩ := weightBoth e1 (nth l j z69).f0 _ _ a b e2 e3
        have hU := wU_pos m 8
        generalize wt (nth l i z69).f1 m (nth l i z69).f2 (nth l i z69).f3 a b = W1 at a1 a2
        generalize wt (nth l j z69).f1 m (nth l j z69).f2 (nth l j z69).f3 a b = W2 at b1 b2
        generalize wU m 8 = U at a2 b2 hU
        have hcmp : decide (W1 * U > W2 * U) = decide (W1 > W2) := by
          rw [decide_eq_decide]
          constructor
          · intro g; exact Int.lt_of_mul_lt_mul_right g (by omega)
          · intro g; exact Int.mul_lt_mul_of_pos_right g (by omega)
        refine ⟨(decide (W1 > W2), true), Ev.bind sX (Ev.bind sY (Ev.bind (sBoth l m a b hm hg hp) ?_)), Ev.bind (iBoth l m a b hm) ?_⟩
        · simp only [h, if_true, if_neg hi, decide_eq_false hj]
          refine Ev.succ ?_
          simp only [spec_IsLikelier.j0, Bool.false_eq_true, if_false, rd69, if_pos (show (0 : Int) ≤ (i : Int) by omega), if_pos hX.2, if_pos (show (0 : Int) ≤ (j : Int) by omega), if_pos hY.2]
          exact Ev.bind a1 (Ev.bind b1 (Ev.now _))
        · simp only [h, if_true, if_neg hi, decide_eq_false hj]
          refine Ev.succ ?_
          simp only [impl_IsLikelier.j0, Bool.false_eq_true, if_false, rd69, if_pos (show (0 : Int) ≤ (i : Int) by omega), if_pos hX.2, if_pos (show (0 : Int) ≤ (j : Int) by omega), if_pos hY.2]
          rw [← hcmp]
          exact Ev.bind a2 (Ev.bind b2 (Ev.now _))
  · refine ⟨(false, false), Ev.bind sX (Ev.bind sY (Ev.bind (sBoth l m a b hm hg hp) ?_)), Ev.bind (iBoth l m a b hm) ?_⟩
    · simp only [h, Bool.false_eq_true, if_false]
      refine Ev.succ ?_
      simp only [spec_IsLikelier.j0, if_true]
      exact Ev.now _
    · simp only [h, Bool.false_eq_true, if_false]
      refine Ev.succ ?_
      simp only [impl_IsLikelier.j0, if_true]
      exact Ev.now _
end Go.Proofs.Ytblihmohgfmpgaa.M

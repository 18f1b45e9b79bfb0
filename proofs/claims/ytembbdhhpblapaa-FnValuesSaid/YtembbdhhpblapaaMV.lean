import Derived.Test.YtembbdhhpblapaaPl
import Derived.Test.YtembbdhhpblapaaMDr
import Derived.Test.YtembbdhhpblapaaQx16
import Derived.Test.YtembbdhhpblapaaQx17
import Derived.Test.YtembbdhhpblapaaQx18
import Derived.Test.YtembbdhhpblapaaQx19
import Derived.Test.YtembbdhhpblapaaQx20
import Derived.Test.YtembbdhhpblapaaQx21
import Derived.Test.YtembbdhhpblapaaQx22
import Derived.Test.YtembbdhhpblapaaQx23
import Derived.Test.YtembbdhhpblapaaQx24
import Derived.Test.YtembbdhhpblapaaQx34
import Derived.Test.YtembbdhhpblapaaQx35
import Derived.Test.YtembbdhhpblapaaQx36
import Derived.Test.YtembbdhhpblapaaQx50
import Derived.Test.YtembbdhhpblapaaQx52
import Derived.Test.YtembbdhhpblapaaQx53
import Derived.Test.YtembbdhhpblapaaQx56
import Derived.Test.YtembbdhhpblapaaQx57
import Derived.Test.YtembbdhhpblapaaQx69
import Derived.Test.YtembbdhhpblapaaQx70
import Derived.Test.YtembbdhhpblapaaQx8888801
namespace Go.Proofs.Ytembbdhhpblapaa.M
open Go.RowKit Go.Proofs.Ytembbdhhpblapaa.Q Go.Proofs.YtembbdhhpblapaaW.PrintWords Go.Proofs.YtembbdhhpblapaaW.PrintLast Go.Proofs.YtembbdhhpblapaaW.Pl Classical
set_option linter.unusedSimpArgs false
set_option linter.unusedVariables false

/-- A valid appraisal. -/
def okA (a b c d : Int) : Bool := decide (1 ≤ a ∧ a ≤ 4000) && (decide (100 ≤ b ∧ b ≤ 10000) && (decide (0 ≤ c ∧ c ≤ 400) && decide (1 ≤ d ∧ d ≤ 4)))
theorem l1In (a b c : Int) : spec_l1In.f a b c = some (decide (b ≤ a ∧ a ≤ c)) := by
  unfold spec_l1In.f
  by_cases h : b ≤ a <;> by_cases h2 : a ≤ c <;> simp [h, h2]
theorem iIn (a b c : Int) : impl_in.f a b c = some (decide (b ≤ a ∧ a ≤ c)) := by
  unfold impl_in.f
  by_cases h : b ≤ a <;> by_cases h2 : a ≤ c <;> simp [h, h2]
theorem l24One (a b c d : Int) (e : Bool) : spec_l24One.f a b c d e = some (okA a b c d) := by
  unfold spec_l24One.f okA
  simp only [l1In, Option.bind_some]
  repeat' split
  all_goals (simp_all <;> omega)
theorem iIsA (a b c d : Int) (e : Bool) : impl_IsAppraisal.f a b c d e = some (okA a b c d) := by
  unfold impl_IsAppraisal.f okA
  simp only [iIn, Option.bind_some]
  repeat' split
  all_goals (simp_all <;> omega)
theorem okA_iff {a b c d : Int} : okA a b c d = true ↔ (1 ≤ a ∧ a ≤ 4000) ∧ (100 ≤ b ∧ b ≤ 10000) ∧ (0 ≤ c ∧ c ≤ 400) ∧ (1 ≤ d ∧ d ≤ 4) := by
  unfold okA; simp
def bA (a b : Int) (e : Bool) : Int := if e = true then 6 * (a * b) else 2 * (a * b)
theorem bA_bd {a b c d : Int} (e : Bool) (h : okA a b c d = true) : 200 ≤ bA a b e ∧ bA a b e ≤ 240000000 := by
  obtain ⟨h1, h2, _, _⟩ := okA_iff.1 h
  have h3 : 1 * 100 ≤ a * b := Int.mul_le_mul h1.1 h2.1 (by omega) (by omega)
  have h4 : a * b ≤ 4000 * 10000 := Int.mul_le_mul h1.2 h2.2 (by omega) (by omega)
  unfold bA; split <;> omega
theorem sBase {a b c d : Int} (e : Bool) (h : okA a b c d = true) : spec_l24Base.f a b c d e = some (bA a b e) := by
  obtain ⟨h1, h2, _, _⟩ := okA_iff.1 h
  have h3 : 1 * 100 ≤ a * b := Int.mul_le_mul h1.1 h2.1 (by omega) (by omega)
  have h4 : a * b ≤ 4000 * 10000 := Int.mul_le_mul h1.2 h2.2 (by omega) (by omega)
  unfold spec_l24Base.f bA
  rw [w64 (x := a * b) (by omega), w64 (x := a * b * 2) (by omega), w64 (x := 3 * (a * b * 2)) (by omega)]
  split <;> (congr 1; omega)
theorem iBase {a b c d : Int} (e : Bool) (h : okA a b c d = true) : impl_Appraisal_base.f a b c d e = some (bA a b e) := by
  obtain ⟨h1, h2, _, _⟩ := okA_iff.1 h
  have h3 : 1 * 100 ≤ a * b := Int.mul_le_mul h1.1 h2.1 (by omega) (by omega)
  have h4 : a * b ≤ 4000 * 10000 := Int.mul_le_mul h1.2 h2.2 (by omega) (by omega)
  unfold impl_Appraisal_base.f bA
  rw [w64 (x := 6 * a) (by omega), w64 (x := 2 * a) (by omega), Int.mul_assoc, Int.mul_assoc, w64 (x := 6 * (a * b)) (by omega), w64 (x := 2 * (a * b)) (by omega)]
  split <;> rfl

theorem sBaseOf (a b c d : Int) (e : Bool) : spec_BaseOf.f a b c d e = some (if okA a b c d = true then (bA a b e, true) else (0, false)) := by
  unfold spec_BaseOf.f
  rw [l24One]
  simp only [Option.bind_some]
  by_cases h : okA a b c d = true
  · simp [h, sBase e h]
  · simp [h]
theorem iBaseOf (a b c d : Int) (e : Bool) : impl_BaseOf.f a b c d e = some (if okA a b c d = true then (bA a b e, true) else (0, false)) := by
  unfold impl_BaseOf.f
  rw [iIsA]
  simp only [Option.bind_some]
  by_cases h : okA a b c d = true
  · simp [h, iBase e h]
  · simp [h]

/-! ### fractions -/
/-- factors -/
def fac (g : Int) : Int := if g = 1 then 100 else if g = 2 then 80 else if g = 3 then 55 else 30
def bon (c : Int) : Int := if c ≥ 100 then 160 else if c ≥ 50 then 120 else 100
/-- The value of an appraisal with grade g. -/
def vA (a b c : Int) (e : Bool) (g : Int) : Int := bA a b e * bon c * fac g / 10000
theorem fac_bd (g : Int) : 30 ≤ fac g ∧ fac g ≤ 100 := by unfold fac; omega
theorem bon_bd (c : Int) : 100 ≤ bon c ∧ bon c ≤ 160 := by unfold bon; omega
theorem vA_bd {a b c d : Int} (e : Bool) (h : okA a b c d = true) (g : Int) : 0 ≤ vA a b c e g ∧ vA a b c e g ≤ 384000000 ∧ 0 ≤ bA a b e * bon c ∧ bA a b e * bon c ≤ 38400000000 ∧ 0 ≤ bA a b e * bon c * fac g ∧ bA a b e * bon c * fac g ≤ 3840000000000 := by
  have h1 := bA_bd e h
  have h2 := bon_bd c
  have h3 := fac_bd g
  have h4 := mul_b (a := bA a b e) (b := bon c) (A := 240000000) (B := 160) (by omega) (by omega) (by omega) (by omega)
  have h5 := mul_b (a := bA a b e * bon c) (b := fac g) (A := 38400000000) (B := 100) (by omega) (by omega) (by omega) (by omega)
  unfold vA
  omega
theorem td {x : Int} (h0 : 0 ≤ x) (h1 : x ≤ 9223372036854775807) : wrap64 (Int.tdiv x 10000) = x / 10000 := by
  rw [Int.tdiv_eq_ediv_of_nonneg h0, w64 (by omega)]
theorem fin {x : Int} (h : 0 ≤ x ∧ x ≤ 3840000000000) : some (wrap64 (Int.tdiv (wrap64 x) 10000)) = some (x / 10000) := by
  rw [w64 (x := x) (by omega), td (by omega) (by omega)]
theorem rd4 {g : Int} (h : 1 ≤ g ∧ g ≤ 4) : 0 ≤ wrap64 (g - 1) ∧ wrap64 (g - 1) < (([100, 80, 55, 30] : List Int).length : Int) ∧ rd ([100, 80, 55, 30] : List Int) (wrap64 (g - 1)) = fac g := by
  have : g = 1 ∨ g = 2 ∨ g = 3 ∨ g = 4 := by omega
  rcases this with rfl | rfl | rfl | rfl <;> decide +kernel
theorem sVal {a b c d : Int} (e : Bool) (h : okA a b c d = true) {g : Int} (hg : 1 ≤ g ∧ g ≤ 4) : spec_l24Value.f a b c d e g = some (vA a b c e g) := by
  obtain ⟨r1, r2, r3⟩ := rd4 hg
  have hv := vA_bd e h g
  unfold spec_l24Value.f
  rw [sBase e h]
  simp only [Option.bind_some]
  simp only [if_pos r1, if_pos r2, r3]
  unfold vA at *
  by_cases h1 : c ≥ 100
  · have hb : bon c = 160 := by unfold bon; rw [if_pos h1]
    rw [hb] at hv ⊢
    rw [if_pos h1, show (100 + 60 : Int) = 160 from rfl, w64 (x := bA a b e * 160) (by omega), w64 (x := bA a b e * 160 * fac g) (by omega), td (by omega) (by omega)]
  · rw [if_neg h1]
    by_cases h2 : c ≥ 50
    · have hb : bon c = 120 := by unfold bon; rw [if_neg h1, if_pos h2]
      rw [hb] at hv ⊢
      rw [if_pos h2, show (100 + 20 : Int) = 120 from rfl, w64 (x := bA a b e * 120) (by omega), w64 (x := bA a b e * 120 * fac g) (by omega), td (by omega) (by omega)]
    · have hb : bon c = 100 := by unfold bon; rw [if_neg h1, if_neg h2]
      rw [hb] at hv ⊢
      rw [if_neg h2, w64 (x := bA a b e * 100) (by omega), w64 (x := bA a b e * 100 * fac g) (by omega), td (by omega) (by omega)]
theorem iVal {a b c d : Int} (e : Bool) (h : okA a b c d = true) : impl_Appraisal_value.f a b c d e = some (vA a b c e d) := by
  have hd : 1 ≤ d ∧ d ≤ 4 := (okA_iff.1 h).2.2.2
  have hv := vA_bd e h d
  unfold impl_Appraisal_value.f
  rw [iBase e h]
  simp only [Option.bind_some]
  rw [w64 (x := d - 1) (by omega)]
  unfold vA at *
  have hdd : d = 1 ∨ d = 2 ∨ d = 3 ∨ d = 4 := by omega
  by_cases h1 : c ≥ 100
  · have hb : bon c = 160 := by unfold bon; rw [if_pos h1]
    rw [hb] at hv ⊢
    rw [if_pos h1, show (100 + 60 : Int) = 160 from rfl, w64 (x := bA a b e * 160) (by omega)]
    rcases hdd with rfl | rfl | rfl | rfl <;> simp only [fac] at hv ⊢ <;> simp only [Int.reduceSub, Int.reduceEq, if_true, if_false] at hv ⊢ <;> exact fin (by omega)
  · rw [if_neg h1]
    by_cases h2 : c ≥ 50
    · have hb : bon c = 120 := by unfold bon; rw [if_neg h1, if_pos h2]
      rw [hb] at hv ⊢
      rw [if_pos h2, show (100 + 20 : Int) = 120 from rfl, w64 (x := bA a b e * 120) (by omega)]
      rcases hdd with rfl | rfl | rfl | rfl <;> simp only [fac] at hv ⊢ <;> simp only [Int.reduceSub, Int.reduceEq, if_true, if_false] at hv ⊢ <;> exact fin (by omega)
    · have hb : bon c = 100 := by unfold bon; rw [if_neg h1, if_neg h2]
      rw [hb] at hv ⊢
      rw [if_neg h2, w64 (x := bA a b e * 100) (by omega)]
      rcases hdd with rfl | rfl | rfl | rfl <;> simp only [fac] at hv ⊢ <;> simp only [Int.reduceSub, Int.reduceEq, if_true, if_false] at hv ⊢ <;> exact fin (by omega)
theorem okA_g {a b c d : Int} (h : okA a b c d = true) {g : Int} (hg : 1 ≤ g ∧ g ≤ 4) : okA a b c g = true := by
  obtain ⟨h1, h2, h3, _⟩ := okA_iff.1 h
  exact okA_iff.2 ⟨h1, h2, h3, hg⟩
theorem sValueOf (a b c d : Int) (e : Bool) : spec_ValueOf.f a b c d e = some (if okA a b c d = true then (vA a b c e d, true) else (0, false)) := by
  unfold spec_ValueOf.f
  rw [l24One]
  simp only [Option.bind_some]
  by_cases h : okA a b c d = true
  · simp [h, sVal e h (okA_iff.1 h).2.2.2]
  · simp [h]
theorem iValueOf (a b c d : Int) (e : Bool) : impl_ValueOf.f a b c d e = some (if okA a b c d = true then (vA a b c e d, true) else (0, false)) := by
  unfold impl_ValueOf.f
  rw [iIsA]
  simp only [Option.bind_some]
  by_cases h : okA a b c d = true
  · simp [h, iVal e h]
  · simp [h]
/-- What is gained with grade g: its value, less the cost for each grade. -/
def gain (a b c d : Int) (e : Bool) (cost g : Int) : Int := vA a b c e g - cost * (d - g)
/-- The best grade from the ones at m and below, and one that is best so far. -/
def bestG (a b c d : Int) (e : Bool) (cost : Int) : Nat → Int → Int
  | 0, best => best
  | n + 1, best => bestG a b c d e cost n (if gain a b c d e cost (n + 1) > gain a b c d e cost best then (n + 1 : Int) else best)
theorem grade_run {a b c d : Int} (e : Bool) (h : okA a b c d = true) {cost : Int} (hc : 0 ≤ cost ∧ cost ≤ 100000000) (n : Nat) : ∀ best : Int, 1 ≤ best ∧ best ≤ d → (n : Int) < d → ∀ j,
    spec_AfterGrade.l0 (n + 1 + j) cost best n a b c d e = some (bestG a b c d e cost n best, true) ∧ impl_AfterGrade.l0 (n + 1 + j) cost best (gain a b c d e cost best) n a b c d e = some (bestG a b c d e cost n best, true) := by
  induction n with
  | zero =>
    intro best hb hd j
    rw [show 0 + 1 + j = j + 1 by omega]
    constructor
    · simp [spec_AfterGrade.l0, bestG]
    · simp [impl_AfterGrade.l0, bestG]
  | succ n ih =>
    intro best hb hd j
    have hd4 := (okA_iff.1 h).2.2.2
    rw [show n + 1 + 1 + j = (n + 1 + j) + 1 by omega]
    have hgain : ∀ g : Int, 1 ≤ g ∧ g ≤ d → wrap64 (cost * wrap64 (d - g)) = cost * (d - g) ∧ wrap64 (vA a b c e g - cost * (d - g)) = gain a b c d e cost g := by
      intro g hg
      have hv := vA_bd e h g
      have hm := mul_b (a := cost) (b := d - g) (A := 100000000) (B := 3) hc.1 hc.2 (by omega) (by omega)
      rw [w64 (x := d - g) (by omega), w64 (x := cost * (d - g)) (by omega), w64 (x := vA a b c e g - cost * (d - g)) (by omega)]
      exact ⟨rfl, rfl⟩
    have hn : ((n + 1 : Nat) : Int) = (n : Int) + 1 := by omega
    have g1 := hgain (n + 1) (by omega)
    have g2 := hgain best hb
    have hw : wrap64 ((n : Int) + 1 - 1) = n := by rw [show (n : Int) + 1 - 1 = n by omega]; exact w64 (by omega)
    rw [hn]
    simp only [spec_AfterGrade.l0, impl_AfterGrade.l0, bestG]
    rw [if_pos (show (n : Int) + 1 ≥ 1 by omega), if_pos (show (n : Int) + 1 ≥ 1 by omega), sVal e h (g := (n : Int) + 1) (by omega), sVal e h (g := best) (by omega), iVal e (okA_g h (g := (n : Int) + 1) (by omega))]
    simp only [Option.bind_some]
    rw [g1.1, g1.2, g2.1, g2.2, hw]
    by_cases hgt : gain a b c d e cost (n + 1) > gain a b c d e cost best
    · rw [if_pos hgt, if_pos hgt, if_pos hgt]
      exact ih (n + 1) (by omega) (by omega) j
    · rw [if_neg hgt, if_neg hgt, if_neg hgt]
      exact ih best hb (by omega) j
theorem after_run (a b c d : Int) (e : Bool) (cost : Int) : ∀ j,
    spec_AfterGrade.f (d.toNat + 2 + j) a b c d e cost = some (if okA a b c d = true ∧ (0 ≤ cost ∧ cost ≤ 100000000) then (bestG a b c d e cost (d - 1).toNat d, true) else (0, false)) ∧
    impl_AfterGrade.f (d.toNat + 2 + j) a b c d e cost = some (if okA a b c d = true ∧ (0 ≤ cost ∧ cost ≤ 100000000) then (bestG a b c d e cost (d - 1).toNat d, true) else (0, false)) := by
  intro j
  unfold spec_AfterGrade.f impl_AfterGrade.f spec_l24Cents.f
  simp only [l24One, iIsA, l1In, iIn, Option.bind_some]
  rw [show d.toNat + 2 + j = (d.toNat + 1 + j) + 1 by omega]
  by_cases h : okA a b c d = true
  · by_cases hc : 0 ≤ cost ∧ cost ≤ 100000000
    · have hd4 := (okA_iff.1 h).2.2.2
      rw [if_pos h, if_pos h, if_pos ⟨h, hc⟩]
      simp only [spec_AfterGrade.j0, impl_AfterGrade.j0, hc, and_self, decide_true, Bool.not_true, Bool.false_eq_true, if_false]
      rw [iVal e h]
      simp only [Option.bind_some]
      have hr := grade_run e h hc (d - 1).toNat d (by omega) (by omega) (j + 1)
      have e1 : wrap64 (d - 1) = ((d - 1).toNat : Int) := by rw [w64 (by omega)]; omega
      have e2 : gain a b c d e cost d = vA a b c e d := by unfold gain; rw [show d - d = 0 by omega, Int.mul_zero, Int.sub_zero]
      rw [e2] at hr
      rw [e1, show d.toNat + 1 + j = (d - 1).toNat + 1 + (j + 1) by omega]
      exact hr
    · rw [if_pos h, if_pos h, if_neg (by rintro ⟨_, h2⟩; exact hc h2)]
      simp only [spec_AfterGrade.j0, impl_AfterGrade.j0, hc, decide_false, Bool.not_false, if_true, and_self]
  · rw [if_neg h, if_neg h, if_neg (by rintro ⟨h2, _⟩; exact h h2)]
    simp only [spec_AfterGrade.j0, impl_AfterGrade.j0, if_true, and_self]
/-- Two appraisals are alike. -/
def alike (a b d : Int) (e : Bool) (a' b' d' : Int) (e' : Bool) : Bool :=
  decide ((a ≤ 2 * a' ∧ a' ≤ 2 * a) ∧ (b ≤ 2 * b' ∧ b' ≤ 2 * b) ∧ e = e' ∧ -1 ≤ d - d' ∧ d - d' ≤ 1)
theorem iNear (m n : Int) (hm : 0 ≤ m) (hn : 0 ≤ n) (hm2 : m ≤ 10000) (hn2 : n ≤ 10000) : impl_Appraisal_isAlike_1.f m n = some (decide (m ≤ 2 * n ∧ n ≤ 2 * m)) := by
  unfold impl_Appraisal_isAlike_1.f
  rw [w64 (x := 2 * n) (by omega), w64 (x := 2 * m) (by omega)]
  by_cases h : m ≤ 2 * n <;> by_cases h2 : n ≤ 2 * m <;> simp [h, h2]
theorem iAlike {a b c d a' b' c' d' : Int} (e e' : Bool) (h : okA a b c d = true) (h' : okA a' b' c' d' = true) : impl_Appraisal_isAlike.f a b c d e a' b' c' d' e' = some (alike a b d e a' b' d' e') := by
  obtain ⟨h1, h2, h3, h4⟩ := okA_iff.1 h
  obtain ⟨k1, k2, k3, k4⟩ := okA_iff.1 h'
  unfold impl_Appraisal_isAlike.f alike impl_abs.f
  rw [iNear a a' (by omega) (by omega) (by omega) (by omega), iNear b b' (by omega) (by omega) (by omega) (by omega), w64 (x := d - d') (by omega), w64 (x := -(d - d')) (by omega)]
  have hm : (mx (d - d') (-(d - d')) ≤ 1) ↔ (-1 ≤ d - d' ∧ d - d' ≤ 1) := by unfold mx; omega
  simp only [Option.bind_some, hm]
  by_cases he : e = e'
  · by_cases hd : -1 ≤ d - d' ∧ d - d' ≤ 1
    · by_cases ha : a ≤ 2 * a' ∧ a' ≤ 2 * a <;> by_cases hb : b ≤ 2 * b' ∧ b' ≤ 2 * b <;> simp [he, hd, ha, hb]
    · rw [if_pos (by simp [he]), if_neg hd]
      congr 1; symm
      rw [decide_eq_false_iff_not]
      rintro ⟨_, _, _, h⟩
      exact hd h
  · simp [he]
theorem sAlike {a b c d a' b' c' d' : Int} (e e' : Bool) (h : okA a b c d = true) (h' : okA a' b' c' d' = true) : spec_l24Alike.f a b c d e a' b' c' d' e' = some (alike a b d e a' b' d' e') := by
  obtain ⟨h1, h2, h3, h4⟩ := okA_iff.1 h
  obtain ⟨k1, k2, k3, k4⟩ := okA_iff.1 h'
  unfold spec_l24Alike.f alike
  simp only [l1In]
  rw [w64 (x := 2 * a') (by omega), w64 (x := 2 * a) (by omega), w64 (x := 2 * b') (by omega), w64 (x := 2 * b) (by omega), w64 (x := d - d') (by omega)]
  simp only [Option.bind_some]
  by_cases he : e = e' <;> by_cases hd : -1 ≤ d - d' ∧ d - d' ≤ 1 <;> by_cases ha : a ≤ 2 * a' <;> by_cases ha' : a' ≤ 2 * a <;> by_cases hb : b ≤ 2 * b' <;> by_cases hb' : b' ≤ 2 * b <;> simp [he, hd, ha, ha', hb, hb']

theorem sAlikeR (a b c d : Int) (e : Bool) (a' b' c' d' : Int) (e' : Bool) : spec_Alike.f a b c d e a' b' c' d' e' = some (if okA a b c d = true ∧ okA a' b' c' d' = true then (alike a b d e a' b' d' e', true) else (false, false)) := by
  unfold spec_Alike.f
  simp only [l24One, Option.bind_some]
  by_cases h : okA a b c d = true
  · by_cases h' : okA a' b' c' d' = true
    · simp [h, h', sAlike e e' h h']
    · simp [h, h']
  · simp [h]
theorem iAlikeR (a b c d : Int) (e : Bool) (a' b' c' d' : Int) (e' : Bool) : impl_Alike.f a b c d e a' b' c' d' e' = some (if okA a b c d = true ∧ okA a' b' c' d' = true then (alike a b d e a' b' d' e', true) else (false, false)) := by
  unfold impl_Alike.f
  simp only [iIsA, Option.bind_some]
  by_cases h : okA a b c d = true
  · by_cases h' : okA a' b' c' d' = true
    · simp [h, h', iAlike e e' h h']
    · simp [h, h']
  · simp [h]
theorem alike_symm (a b d : Int) (e : Bool) (a' b' d' : Int) (e' : Bool) : alike a b d e a' b' d' e' = alike a' b' d' e' a b d e := by
  unfold alike
  rw [decide_eq_decide]
  constructor
  · rintro ⟨h1, h2, h3, h4, h5⟩
    exact ⟨⟨h1.2, h1.1⟩, ⟨h2.2, h2.1⟩, h3.symm, by omega, by omega⟩
  · rintro ⟨h1, h2, h3, h4, h5⟩
    exact ⟨⟨h1.2, h1.1⟩, ⟨h2.2, h2.1⟩, h3.symm, by omega, by omega⟩
/-- A better grade has a greater value. -/
theorem vA_lt {a b c d : Int} (e : Bool) (h : okA a b c d = true) (g : Int) (hg : 1 ≤ g ∧ g ≤ 3) : vA a b c e (g + 1) < vA a b c e g := by
  obtain ⟨_, _, h1, h2, _, _⟩ := vA_bd e h g
  have h3 := bA_bd e h
  have h4 := bon_bd c
  have h5 : 200 * 100 ≤ bA a b e * bon c := Int.mul_le_mul h3.1 h4.1 (by omega) (by omega)
  unfold vA
  generalize bA a b e * bon c = X at h1 h2 h5
  have : g = 1 ∨ g = 2 ∨ g = 3 := by omega
  rcases this with rfl | rfl | rfl
  · rw [show fac (1 + 1) = 80 from rfl, show fac 1 = 100 from rfl]; omega
  · rw [show fac (2 + 1) = 55 from rfl, show fac 2 = 80 from rfl]; omega
  · rw [show fac (3 + 1) = 30 from rfl, show fac 3 = 55 from rfl]; omega
theorem bestG_ok (a b c d : Int) (e : Bool) (cost : Int) : ∀ (n : Nat) (best : Int), (bestG a b c d e cost n best = best ∨ (1 ≤ bestG a b c d e cost n best ∧ bestG a b c d e cost n best ≤ n)) ∧ gain a b c d e cost best ≤ gain a b c d e cost (bestG a b c d e cost n best)
  | 0, best => ⟨.inl rfl, by simp only [bestG]; omega⟩
  | n + 1, best => by
    simp only [bestG]
    by_cases h : gain a b c d e cost (n + 1) > gain a b c d e cost best
    · rw [if_pos h]
      obtain ⟨h1, h2⟩ := bestG_ok a b c d e cost n (n + 1)
      refine ⟨.inr ?_, by omega⟩
      rcases h1 with h1 | h1
      · rw [h1]; omega
      · omega
    · rw [if_neg h]
      obtain ⟨h1, h2⟩ := bestG_ok a b c d e cost n best
      refine ⟨?_, h2⟩
      rcases h1 with h1 | h1
      · exact .inl h1
      · exact .inr (by omega)
theorem bestG_free {a b c d : Int} (e : Bool) (h : okA a b c d = true) : ∀ n : Nat, n ≤ 3 → bestG a b c d e 0 n ((n : Int) + 1) = 1
  | 0, _ => by simp [bestG]
  | n + 1, hn => by
    have h1 := vA_lt e h ((n : Int) + 1) (by omega)
    have h2 : gain a b c d e 0 ((n : Int) + 1) > gain a b c d e 0 (((n + 1 : Nat) : Int) + 1) := by
      unfold gain
      rw [Int.zero_mul, Int.zero_mul, Int.sub_zero, Int.sub_zero, show ((n + 1 : Nat) : Int) + 1 = (n : Int) + 1 + 1 by omega]
      omega
    simp only [bestG]
    rw [if_pos h2]
    exact bestG_free e h n (by omega)
theorem appr_ok {l : List Int} (hl : CodeL l) (s t : Int) (n : Nat) (hs : 0 ≤ s ∧ s ≤ (n : Int)) (hn : n ≤ 1000000) :
    ∃ a b c d e s' t', spec_l1Cur_appraisal.f l s t = some (a, b, c, d, e, s', t') ∧ (0 ≤ s' ∧ s' ≤ ((n + 14 : Nat) : Int)) := by
  unfold spec_l1Cur_appraisal.f
  obtain ⟨x1, a1, t1, e1, h1, _⟩ := among_ok hl s t [1, 240, 300, 480, 4000] n hs (by omega) (by simp)
  obtain ⟨x2, a2, t2, e2, h2, _⟩ := among_ok hl a1 t1 [100, 1600, 3000, 10000] (n + 2) h1 (by omega) (by simp)
  obtain ⟨x3, a3, t3, e3, h3, _⟩ := among_ok hl a2 t2 [0, 49, 50, 99, 100, 400] (n + 2 + 2) h2 (by omega) (by simp)
  obtain ⟨x4, a4, t4, e4, h4, _⟩ := pick_ok hl a3 t3 4 (n + 2 + 2 + 2) h3 (by omega) (by omega)
  obtain ⟨x5, a5, t5, e5, h5⟩ := one_ok hl a4 t4 5 (n + 2 + 2 + 2 + 2) h4 (by omega) (by omega)
  obtain ⟨x6, a6, t6, e6, h6, _⟩ := pick_ok hl a5 t5 70 (n + 2 + 2 + 2 + 2 + 2) h5 (by omega) (by omega)
  simp only [e1, e2, e3, e4, e5, e6, Option.bind_some]
  obtain ⟨y1, b1, u1, f1, g1, _⟩ := among_ok hl a6 t6 [0, 4001] (n + 2 + 2 + 2 + 2 + 2 + 2) h6 (by omega) (by simp)
  obtain ⟨y2, b2, u2, f2, g2, _⟩ := among_ok hl a6 t6 [99, 10001] (n + 2 + 2 + 2 + 2 + 2 + 2) h6 (by omega) (by simp)
  obtain ⟨y3, b3, u3, f3, g3, _⟩ := among_ok hl a6 t6 [(-1), 401] (n + 2 + 2 + 2 + 2 + 2 + 2) h6 (by omega) (by simp)
  obtain ⟨y4, b4, u4, f4, g4, _⟩ := among_ok hl a6 t6 [0, 5] (n + 2 + 2 + 2 + 2 + 2 + 2) h6 (by omega) (by simp)
  simp only [f1, f2, f3, f4, Option.bind_some]
  by_cases c0 : x6 = 0
  · simp only [if_pos c0]; exact ⟨_, _, _, _, _, _, _, rfl, by omega⟩
  · by_cases c1 : x6 = 1
    · simp only [if_neg c0, if_pos c1]; exact ⟨_, _, _, _, _, _, _, rfl, by omega⟩
    · by_cases c2 : x6 = 2
      · simp only [if_neg c0, if_neg c1, if_pos c2]; exact ⟨_, _, _, _, _, _, _, rfl, by omega⟩
      · by_cases c3 : x6 = 3
        · simp only [if_neg c0, if_neg c1, if_neg c2, if_pos c3]; exact ⟨_, _, _, _, _, _, _, rfl, by omega⟩
        · simp only [if_neg c0, if_neg c1, if_neg c2, if_neg c3]; exact ⟨_, _, _, _, _, _, _, rfl, by omega⟩
theorem drawV {l : List Int} (hl : CodeL l) : ∃ a b c d e, spec_DrawValueOf.f l = some (a, b, c, d, e) := by
  obtain ⟨a, b, c, d, e, s', t', h, _⟩ := appr_ok hl 0 0 0 (by omega) (by omega)
  unfold spec_DrawValueOf.f spec_DrawIsAppraisal.f
  rw [h]
  exact ⟨_, _, _, _, _, rfl⟩
theorem drawA {l : List Int} (hl : CodeL l) : ∃ a b c d e a' b' c' d' e', spec_DrawAlike.f l = some (a, b, c, d, e, a', b', c', d', e') := by
  obtain ⟨a, b, c, d, e, s', t', h, h2⟩ := appr_ok hl 0 0 0 (by omega) (by omega)
  obtain ⟨a', b', c', d', e', s'', t'', g, _⟩ := appr_ok hl s' t' 14 h2 (by omega)
  unfold spec_DrawAlike.f
  rw [h]
  simp only [Option.bind_some, g]
  exact ⟨_, _, _, _, _, _, _, _, _, _, rfl⟩
theorem drawG {l : List Int} (hl : CodeL l) : ∃ a b c d e m, spec_DrawAfterGrade.f l = some (a, b, c, d, e, m) := by
  obtain ⟨a, b, c, d, e, s', t', h, h2⟩ := appr_ok hl 0 0 0 (by omega) (by omega)
  obtain ⟨x, a1, t1, e1, h1, hx0, hx1, _⟩ := pick_ok hl s' t' 24 14 h2 (by omega) (by omega)
  have hx := hx1 (by omega)
  unfold spec_DrawAfterGrade.f
  rw [h]
  simp only [Option.bind_some, e1]
  have hd : Int.tdiv x 11 = x / 11 := Int.tdiv_eq_ediv_of_nonneg hx0
  rw [hd, w64 (x := x / 11) (by omega), w64 (x := 6 + x / 11) (by omega)]
  simp only [if_pos (show 0 ≤ 6 + x / 11 by omega), if_pos (show 6 + x / 11 ≤ (([0, 1, 1000, 150000, 300000, 100000000, (-1), 100000001] : List Int).length : Int) by simp; omega)]
  obtain ⟨y, a2, t2, e2, _⟩ := among_ok hl a1 t1 (([0, 1, 1000, 150000, 300000, 100000000, (-1), 100000001] : List Int).take (6 + x / 11).toNat) 16 h1 (by omega) (by rw [List.length_take]; simp; omega)
  rw [e2]
  exact ⟨_, _, _, _, _, _, rfl⟩
theorem afterE (a b c d : Int) (e : Bool) (cost : Int) : Ev (fun k => impl_AfterGrade.f k a b c d e cost) (if okA a b c d = true ∧ (0 ≤ cost ∧ cost ≤ 100000000) then (bestG a b c d e cost (d - 1).toNat d, true) else (0, false)) ∧ Ev (fun k => spec_AfterGrade.f k a b c d e cost) (if okA a b c d = true ∧ (0 ≤ cost ∧ cost ≤ 100000000) then (bestG a b c d e cost (d - 1).toNat d, true) else (0, false)) := by
  constructor
  · refine ⟨d.toNat + 2, fun k hk => ?_⟩
    obtain ⟨j, rfl⟩ : ∃ j, k = d.toNat + 2 + j := ⟨k - (d.toNat + 2), by omega⟩
    exact (after_run a b c d e cost j).2
  · refine ⟨d.toNat + 2, fun k hk => ?_⟩
    obtain ⟨j, rfl⟩ : ∃ j, k = d.toNat + 2 + j := ⟨k - (d.toNat + 2), by omega⟩
    exact (after_run a b c d e cost j).1
end Go.Proofs.Ytembbdhhpblapaa.M

import Derived.Test.YtembbdhhpblapaaQOpn
import Derived.Test.YtembbdhhpblapaaQx15
import Derived.Test.YtembbdhhpblapaaQx16
import Derived.Test.YtembbdhhpblapaaQx20
import Derived.Test.YtembbdhhpblapaaQx25
import Derived.Test.YtembbdhhpblapaaQx27
import Derived.Test.YtembbdhhpblapaaQx50
import Derived.Test.YtembbdhhpblapaaQx59
import Derived.Test.YtembbdhhpblapaaQx61
import Derived.Test.YtembbdhhpblapaaQx8888801



namespace Go.Proofs.Ytembbdhhpblapaa.M
open Go.RowKit Go.Proofs.Ytembbdhhpblapaa.Q Go.Proofs.YtembbdhhpblapaaW.PrintWords Go.Proofs.YtembbdhhpblapaaW.PrintLast

theorem w64 {x : Int} (h : -9223372036854775808 ≤ x ∧ x ≤ 9223372036854775807) : wrap64 x = x := by unfold wrap64; omega
theorem mul_b {a b A B : Int} (h0 : 0 ≤ a) (h1 : a ≤ A) (k0 : 0 ≤ b) (k1 : b ≤ B) : 0 ≤ a * b ∧ a * b ≤ A * B :=
  ⟨Int.mul_nonneg h0 k0, Int.mul_le_mul h1 k1 k0 (by omega)⟩

/-- A valid appraisal. -/
def okA (a b c d : Int) : Bool := decide (1 ≤ a ∧ a ≤ 4000) && (decide (100 ≤ b ∧ b ≤ 10000) && (decide (0 ≤ c ∧ c ≤ 400) && decide (1 ≤ d ∧ d ≤ 4)))
theorem l1In (a b c : Int) : spec_l1In.f a b c = some (decide (b ≤ a ∧ a ≤ c)) := by
  unfold spec_l1In.f
  by_cases h : b ≤ a <;> by_cases h2 : a ≤ c <;> simp [h, h2]
theorem iIn (a b c : Int) : impl_in.f a b c = some (decide (b ≤ a ∧ a ≤ c)) := by
  unfold impl_in.f
  by_cases h : b ≤ a <;> by_cases h2 : a ≤ c <;> simp [h, h2]
theorem l24One (a b c d : Int) (e : Bool) : spec_l24One.f a b c d e = some (okA a b c d) := by
  unfold spec_l24One.f okA
  simp only [l1In, Option.bind_some]
  repeat' split
  all_goals (simp_all <;> omega)
theorem iIsA (a b c d : Int) (e : Bool) : impl_IsAppraisal.f a b c d e = some (okA a b c d) := by
  unfold impl_IsAppraisal.f okA
  simp only [iIn, Option.bind_some]
  repeat' split
  all_goals (simp_all <;> omega)
theorem okA_iff {a b c d : Int} : okA a b c d = true ↔ (1 ≤ a ∧ a ≤ 4000) ∧ (100 ≤ b ∧ b ≤ 10000) ∧ (0 ≤ c ∧ c ≤ 400) ∧ (1 ≤ d ∧ d ≤ 4) := by
  unfold okA; simp
def bA (a b : Int) (e : Bool) : Int := if e = true then 6 * (a * b) else 2 * (a * b)
theorem bA_bd {a b c d : Int} (e : Bool) (h : okA a b c d = true) : 200 ≤ bA a b e ∧ bA a b e ≤ 240000000 := by
  obtain ⟨h1, h2, _, _⟩ := okA_iff.1 h
  have h3 : 1 * 100 ≤ a * b := Int.mul_le_mul h1.1 h2.1 (by omega) (by omega)
  have h4 : a * b ≤ 4000 * 10000 := Int.mul_le_mul h1.2 h2.2 (by omega) (by omega)
  unfold bA; split <;> omega
theorem sBase {a b c d : Int} (e : Bool) (h : okA a b c d = true) : spec_l24Base.f a b c d e = some (bA a b e) := by
  obtain ⟨h1, h2, _, _⟩ := okA_iff.1 h
  have h3 : 1 * 100 ≤ a * b := Int.mul_le_mul h1.1 h2.1 (by omega) (by omega)
  have h4 : a * b ≤ 4000 * 10000 := Int.mul_le_mul h1.2 h2.2 (by omega) (by omega)
  unfold spec_l24Base.f bA
  rw [w64 (x := a * b) (by omega), w64 (x := a * b * 2) (by omega), w64 (x := 3 * (a * b * 2)) (by omega)]
  split <;> (congr 1; omega)
theorem iBase {a b c d : Int} (e : Bool) (h : okA a b c d = true) : impl_Appraisal_base.f a b c d e = some (bA a b e) := by
  obtain ⟨h1, h2, _, _⟩ := okA_iff.1 h
  have h3 : 1 * 100 ≤ a * b := Int.mul_le_mul h1.1 h2.1 (by omega) (by omega)
  have h4 : a * b ≤ 4000 * 10000 := Int.mul_le_mul h1.2 h2.2 (by omega) (by omega)
  unfold impl_Appraisal_base.f bA
  rw [w64 (x := 6 * a) (by omega), w64 (x := 2 * a) (by omega), Int.mul_assoc, Int.mul_assoc, w64 (x := 6 * (a * b)) (by omega), w64 (x := 2 * (a * b)) (by omega)]
  split <;> rfl

theorem toA (a b c d : Int) (e : Bool) : laws_toAppraisal.f a b c d e = some (a, b, c, d, e) := rfl
theorem iBaseOf (a b c d : Int) (e : Bool) : impl_BaseOf.f a b c d e = some (if okA a b c d = true then (bA a b e, true) else (0, false)) := by
  unfold impl_BaseOf.f
  rw [iIsA]
  simp only [Option.bind_some]
  by_cases h : okA a b c d = true
  · simp [h, iBase e h]
  · simp [h]

/-! ### fractions -/
/-- The greatest common divisor as both texts compute it. -/
theorem gcd_run (d : Nat) : ∀ (a b : Int), 0 ≤ a → 0 ≤ b → b.toNat < d → ∃ g, (∀ k, impl_gcd.l0 (d + k) a b = some g) ∧ (∀ x y k, spec_l2Reduce.l0 (d + k) x y a b = if g = 0 then none else some (wrap64 (Int.tdiv x g), wrap64 (Int.tdiv y g))) ∧ 0 ≤ g ∧ (0 < a ∨ 0 < b → 0 < g) ∧ g ≤ max a b := by
  induction d with
  | zero => intro a b _ _ h; omega
  | succ d ih =>
    intro a b ha hb hd
    by_cases hz : b = 0
    · subst hz
      refine ⟨a, fun k => ?_, fun x y k => ?_, ha, fun h => by omega, by omega⟩
      · rw [show d + 1 + k = (d + k) + 1 by omega]; simp [impl_gcd.l0]
      · rw [show d + 1 + k = (d + k) + 1 by omega]; simp [spec_l2Reduce.l0]
    · have hm0 : 0 ≤ Int.tmod a b := Int.tmod_nonneg _ ha
      have hm1 : Int.tmod a b < b := Int.tmod_lt_of_pos _ (by omega)
      obtain ⟨g, h1, h2, h3, h4, h5⟩ := ih b (Int.tmod a b) hb hm0 (by omega)
      refine ⟨g, fun k => ?_, fun x y k => ?_, h3, fun _ => h4 (.inl (by omega)), by omega⟩
      · rw [show d + 1 + k = (d + k) + 1 by omega]; simp only [impl_gcd.l0]; rw [if_neg hz, h1]
      · rw [show d + 1 + k = (d + k) + 1 by omega]; simp only [spec_l2Reduce.l0]; rw [if_neg hz, h2]
theorem frac_run (x y : Int) (h0 : 0 ≤ x) (h1 : x ≤ 9223372036854775807) (h2 : 0 < y) : ∃ n m, ∀ k, spec_l2Reduce.f (y.toNat + 1 + k) x y = some (n, m) ∧ impl_fraction.f (y.toNat + 1 + k) x y = some (n, m) := by
  obtain ⟨g, ha, hb, hc, hd, _⟩ := gcd_run (y.toNat + 1) x y h0 (by omega) (by omega)
  have hg := hd (.inr h2)
  refine ⟨wrap64 (Int.tdiv x g), wrap64 (Int.tdiv y g), fun k => ⟨?_, ?_⟩⟩
  · unfold spec_l2Reduce.f spec_l1Most.f
    rw [w64 (x := -x) (by omega)]
    by_cases h : x > -x
    · rw [if_pos h]; simp only [Option.bind_some]; rw [hb, if_neg (by omega)]
    · have : x = 0 := by omega
      subst this
      simp only [Int.neg_zero, gt_iff_lt, Int.lt_irrefl, if_false, Option.bind_some]; rw [hb, if_neg (by omega)]
  · unfold impl_fraction.f impl_abs.f
    rw [w64 (x := -x) (by omega)]
    have : mx x (-x) = x := by unfold mx; omega
    simp only [Option.bind_some, this]
    unfold impl_gcd.f
    rw [ha]
    simp only [Option.bind_some]
    rw [if_neg (by omega)]
def okS (y a b c d n : Int) : Bool := decide (1900 ≤ y ∧ y ≤ 2100) && (okA a b c d && decide (1 ≤ n ∧ n ≤ 100000000))
theorem sSale (y a b c d : Int) (e : Bool) (n : Int) : spec_l24Sale.f y a b c d e n = some (okS y a b c d n) := by
  unfold spec_l24Sale.f okS spec_l24Cents.f
  simp only [l1In, l24One, Option.bind_some]
  by_cases h1 : 1900 ≤ y ∧ y ≤ 2100
  · by_cases h2 : okA a b c d = true
    · by_cases h3 : 0 ≤ n ∧ n ≤ 100000000
      · have : (0 < n) ↔ (1 ≤ n) := by omega
        simp [h1, h2, h3, this]
      · have : ¬ (1 ≤ n ∧ n ≤ 100000000) := by omega
        simp [h1, h2, h3, this]
    · simp [h1, h2]
  · simp [h1]
theorem iSale (y a b c d : Int) (e : Bool) (n : Int) : impl_isSale.f y a b c d e n = some (okS y a b c d n) := by
  unfold impl_isSale.f okS
  simp only [iIn, iIsA, Option.bind_some]
  repeat' split
  all_goals (simp_all <;> omega)
theorem okS_iff {y a b c d n : Int} : okS y a b c d n = true ↔ (1900 ≤ y ∧ y ≤ 2100) ∧ okA a b c d = true ∧ 1 ≤ n ∧ n ≤ 100000000 := by
  unfold okS; simp
theorem ratio_run (y a b c d : Int) (e : Bool) (n : Int) : ∃ k r, spec_RatioOf.f k y a b c d e n = some r ∧ impl_RatioOf.f k y a b c d e n = some r := by
  unfold spec_RatioOf.f impl_RatioOf.f
  rw [sSale, iSale]
  simp only [Option.bind_some]
  by_cases h : okS y a b c d n = true
  · obtain ⟨_, ha, h1, h2⟩ := okS_iff.1 h
    have hb := bA_bd e ha
    obtain ⟨p, q, hk⟩ := frac_run n (bA a b e) (by omega) (by omega) (by omega)
    refine ⟨(bA a b e).toNat + 1 + 0, (p, q, true), ?_, ?_⟩
    · rw [if_pos h, sBase e ha]; simp only [Option.bind_some]; rw [(hk 0).1]; rfl
    · rw [if_pos h, iBase e ha]; simp only [Option.bind_some]; rw [(hk 0).2]; rfl
  · exact ⟨0, (0, 0, false), by rw [if_neg h], by rw [if_neg h]⟩
end Go.Proofs.Ytembbdhhpblapaa.M

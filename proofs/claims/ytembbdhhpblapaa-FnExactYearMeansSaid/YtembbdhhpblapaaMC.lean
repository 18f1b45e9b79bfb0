import Derived.Test.YtembbdhhpblapaaMA
import Derived.Test.YtembbdhhpblapaaPl
import Derived.Test.YtembbdhhpblapaaQx1000064
import Derived.Test.YtembbdhhpblapaaQx1000067
import Derived.Test.YtembbdhhpblapaaQx15
import Derived.Test.YtembbdhhpblapaaQx26
import Derived.Test.YtembbdhhpblapaaQx30
import Derived.Test.YtembbdhhpblapaaQx31
import Derived.Test.YtembbdhhpblapaaQx32
import Derived.Test.YtembbdhhpblapaaQx63
import Derived.Test.YtembbdhhpblapaaQx65
import Derived.Test.YtembbdhhpblapaaQx66
import Derived.Test.YtembbdhhpblapaaQx68
import Derived.Test.YtembbdhhpblapaaQx8888801
import Derived.Test.YtembbdhhpblapaaQx93
namespace Go.Proofs.Ytembbdhhpblapaa.M
open Go.RowKit Go.Proofs.Ytembbdhhpblapaa.Q Go.Proofs.YtembbdhhpblapaaW.PrintWords Go.Proofs.YtembbdhhpblapaaW.PrintLast Go.Proofs.YtembbdhhpblapaaW.Pl Classical

theorem rd40 (l : List S40) (i : Nat) : rd_T40 l (i : Int) = nth l i z40 := by unfold rd_T40 nth; simp
theorem rd36 (l : List S36) (i : Nat) : rd_T36 l (i : Int) = nth l i z36 := by unfold rd_T36 nth; simp
def cvS (x : S36) : S40 := ⟨x.f0, ⟨x.f1.f0, x.f1.f1, x.f1.f2, x.f1.f3, x.f1.f4⟩, x.f2⟩
theorem toSales (l : List S36) (hm : l.length ≤ 1048576) (k : Nat) (hk : l.length < k) : laws_toSaleS.f k l = some (l.map cvS) := by
  unfold laws_toSaleS.f
  rw [if_pos (by omega), if_pos (by omega)]
  have h := fill_gen l cvS (fun k acc i => laws_toSaleS.l0 k l acc i) ?hstep ?hend k hk (List.replicate l.length z40) (by simp)
  case hstep =>
    intro k acc i hi ha
    simp only [laws_toSaleS.l0]
    rw [if_pos (by omega), if_pos (by omega), rd36, nth_get hi]
    simp only [laws_toSale.f, laws_toAppraisal.f, Option.bind_some]
    rw [if_pos (by omega), w64 (x := (i : Int) + 1) (by omega)]
    rfl
  case hend =>
    intro k acc
    simp [laws_toSaleS.l0]
  simpa using h
def okSx (x : S40) : Bool := okS x.f0 x.f1.f0 x.f1.f1 x.f1.f2 x.f1.f3 x.f2
/-- Valid sales, in order. -/
def goodS (l : List S40) : Bool := decide (l.length ≤ 10) && (List.range l.length).all fun i => okSx (nth l i z40) && (decide (i = 0) || decide ((nth l (i - 1) z40).f0 ≤ (nth l i z40).f0))
theorem sGood (l : List S40) (hm : l.length ≤ 1048576) (k : Nat) (hk : l.length < k) : spec_l24Good.f k l = some (goodS l) := by
  unfold spec_l24Good.f
  have h := scan_gen l.length (fun i => okSx (nth l i z40) && (decide (i = 0) || decide ((nth l (i - 1) z40).f0 ≤ (nth l i z40).f0))) (decide (l.length ≤ 10)) false (fun k i => spec_l24Good.l0 k l i) ?hstep ?hend k hk
  case hstep =>
    intro k i hi
    simp only [spec_l24Good.l0]
    rw [if_pos (by omega), if_pos (by omega), rd40, sSale]
    simp only [Option.bind_some]
    show (if okSx (nth l i z40) = true then _ else _) = _
    by_cases ho : okSx (nth l i z40) = true
    · rw [if_pos ho, ho]
      by_cases h0 : i = 0
      · subst h0
        rw [if_neg (by omega)]
        simp only [Bool.true_and, decide_true, Bool.true_or, if_true]
        rw [w64 (by omega)]; rfl
      · rw [if_pos (by omega), w64 (x := (i : Int) - 1) (by omega), if_pos (by omega), if_pos (by omega), show (i : Int) - 1 = ((i - 1 : Nat) : Int) by omega, rd40, w64 (x := (i : Int) + 1) (by omega)]
        by_cases hle : (nth l (i - 1) z40).f0 ≤ (nth l i z40).f0
        · rw [if_neg (by omega), if_pos (by simp [h0, hle])]; rfl
        · rw [if_pos (by omega), if_neg (by simp [h0, hle])]
    · rw [if_neg ho, if_neg (by simp [ho])]
  case hend =>
    intro k
    simp only [spec_l24Good.l0]
    rw [if_neg (by omega)]
    congr 1
    by_cases h : l.length ≤ 10
    · rw [decide_eq_true h, decide_eq_true (by omega)]
    · rw [decide_eq_false h, decide_eq_false (by omega)]
  rw [show spec_l24Good.l0 k l 0 = _ from h]
  unfold goodS
  congr 1
  generalize (List.range l.length).all _ = b
  cases b <;> simp
theorem cmpI (a b : Int) : cmp_Compare_int.f a b = some (if a < b then -1 else if a > b then 1 else 0) := by
  unfold cmp_Compare_int.f cmp_isNaN_int.f
  simp only [Option.bind_some, bne_self_eq_false, Bool.false_eq_true, if_false]
  split
  · rfl
  · split <;> rfl
theorem iSorted (l : List S40) (hm : l.length ≤ 1048576) (k : Nat) (hk : l.length < k) : impl_Sale_64__impl_AreSales_1.f k l = some (decide (∀ j, 0 < j → j < l.length → (nth l (j - 1) z40).f0 ≤ (nth l j z40).f0)) := by
  unfold impl_Sale_64__impl_AreSales_1.f
  rw [w64 (by omega)]
  have h := down_gen l.length (fun j => decide ((nth l (j - 1) z40).f0 ≤ (nth l j z40).f0)) true false (fun k i => impl_Sale_64__impl_AreSales_1.l0 k l i) ?hstep ?hend k hk
  case hstep =>
    intro k i h0 hi
    simp only [impl_Sale_64__impl_AreSales_1.l0]
    rw [if_pos (by omega), if_pos (by omega), if_pos (by omega), w64 (x := (i : Int) - 1) (by omega), if_pos (by omega), if_pos (by omega), rd40, show (i : Int) - 1 = ((i - 1 : Nat) : Int) by omega, rd40]
    unfold impl_AreSales_1.f
    rw [cmpI]
    simp only [Option.bind_some]
    by_cases hle : (nth l (i - 1) z40).f0 ≤ (nth l i z40).f0
    · rw [if_neg (by omega : ¬ (nth l i z40).f0 < (nth l (i - 1) z40).f0), if_pos (decide_eq_true hle), if_neg (by split <;> omega)]
    · rw [if_pos (by omega : (nth l i z40).f0 < (nth l (i - 1) z40).f0), if_pos (by omega), if_neg (by simp [hle])]
  case hend =>
    intro k i h1 h2
    simp only [impl_Sale_64__impl_AreSales_1.l0]
    rw [if_neg (by omega)]
  rw [show impl_Sale_64__impl_AreSales_1.l0 k l _ = _ from h]
  congr 1
  by_cases hall : ∀ j, 0 < j → j < l.length → (nth l (j - 1) z40).f0 ≤ (nth l j z40).f0
  · rw [decide_eq_true hall, if_pos (fun j h1 h2 => decide_eq_true (hall j h1 h2))]
  · rw [decide_eq_false hall, if_neg (fun h => hall (fun j h1 h2 => of_decide_eq_true (h j h1 h2)))]
theorem iGood (l : List S40) (hm : l.length ≤ 1048576) (k : Nat) (hk : l.length < k) : impl_AreSales.f k l = some (goodS l) := by
  unfold impl_AreSales.f impl_Sale_67__impl_isSale.f
  rw [iSorted l hm k hk]
  simp only [Option.bind_some]
  rw [all_total (p := okSx) (fun x _ => iSale _ _ _ _ _ _ _)]
  simp only [Option.bind_some]
  unfold goodS
  by_cases hl : l.length ≤ 10
  · rw [if_pos (by omega), decide_eq_true hl, Bool.true_and]
    by_cases ha : l.all okSx = true
    · rw [if_pos ha]
      congr 1
      rw [Bool.eq_iff_iff, decide_eq_true_iff, range_all]
      rw [all_iff_nth z40] at ha
      constructor
      · intro h i hi
        rw [ha i hi]
        by_cases h0 : i = 0
        · simp [h0]
        · simp [h i (by omega) hi]
      · intro h j h0 hj
        have := h j hj
        simp only [Bool.and_eq_true, Bool.or_eq_true, decide_eq_true_iff] at this
        omega
    · rw [if_neg ha]
      congr 1
      symm
      rw [Bool.eq_false_iff]
      intro h
      rw [range_all] at h
      apply ha
      rw [all_iff_nth z40]
      intro i hi
      have := h i hi
      simp only [Bool.and_eq_true] at this
      exact this.1
  · rw [if_neg (by omega), decide_eq_false hl, Bool.false_and]
theorem eqSales (l : List S40) (hm : l.length ≤ 1048576) (k : Nat) (hk : l.length < k) : laws_eqSaleS.f k l l = some true := by
  unfold laws_eqSaleS.f
  rw [if_pos rfl]
  have h := scan_gen l.length (fun _ => true) true false (fun k i => laws_eqSaleS.l0 k l l i) ?hstep ?hend k hk
  case hstep =>
    intro k i hi
    simp only [laws_eqSaleS.l0]
    rw [if_pos (by omega), if_pos (by omega), if_pos (by omega), w64 (x := (i : Int) + 1) (by omega)]
    simp [laws_eqSale.f, laws_eqAppraisal.f]
  case hend =>
    intro k
    simp [laws_eqSaleS.l0]
  rw [show laws_eqSaleS.l0 k l l 0 = _ from h]
  simp
theorem szSales (l : List S36) (hm : l.length ≤ maxLen) : ∃ r, laws_szSaleS.f l 1048576 = some r ∧ (r < 0 ↔ 1048576 < l.length) := by
  unfold laws_szSaleS.f
  have := sz_small hm
  by_cases h : wrap64 (1048576 - (l.length : Int)) < 0
  · exact ⟨-1, by rw [if_pos h], by rw [← this]; exact ⟨fun _ => h, fun _ => by omega⟩⟩
  · exact ⟨_, by rw [if_neg h], this⟩
end Go.Proofs.Ytembbdhhpblapaa.M

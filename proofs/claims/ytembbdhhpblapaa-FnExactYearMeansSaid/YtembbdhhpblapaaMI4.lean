import Derived.Test.YtembbdhhpblapaaMI
import Derived.Test.YtembbdhhpblapaaQx39
import Derived.Test.YtembbdhhpblapaaQx8888801
/-! Marks on rows of rows: each row by itself, one after another. -/
namespace Go.Proofs.Ytembbdhhpblapaa.M
open Go.RowKit Go.Proofs.Ytembbdhhpblapaa.Q Go.Proofs.YtembbdhhpblapaaW.PrintWords Go.Proofs.YtembbdhhpblapaaW.PrintLast Go.Proofs.YtembbdhhpblapaaW.Pl Classical
set_option linter.unusedSimpArgs false
set_option linter.unusedVariables false
def marksF (m n : Nat) : List Int := (List.range n).map fun j => ((m + j : Nat) : Int)
theorem marksF_len (m n : Nat) : (marksF m n).length = n := by unfold marksF; simp
theorem marksF_nth (m n i : Nat) (h : i < n) : nth (marksF m n) i 0 = ((m + i : Nat) : Int) := by rw [nth_get (by rw [marksF_len]; exact h)]; unfold marksF; simp
theorem markF (l : List Int) (hm : l.length ≤ 1048576) (m : Nat) (hmb : m ≤ 4398046511104) : Ev (fun k => laws_markIntS.f k l (m : Int)) (((m + l.length : Nat) : Int), marksF m l.length) := by
  have main : ∀ d (i : Nat) (a : List Int), a.length = l.length → l.length - i = d → i ≤ l.length → (∀ j, j < i → nth a j 0 = ((m + j : Nat) : Int)) → Ev (fun k => laws_markIntS.l0 k a ((m + i : Nat) : Int) (i : Int)) (((m + l.length : Nat) : Int), marksF m l.length) := by
    intro d
    induction d with
    | zero =>
      intro i a ha hd hi hj
      have hil : i = l.length := by omega
      refine Ev.succ ?_
      simp only [laws_markIntS.l0, if_neg (show ¬ ((i : Int) < (a.length : Int)) by omega)]
      have e : a = marksF m l.length := by
        apply List.ext_getElem (by rw [ha, marksF_len])
        intro j h1 h2
        rw [marksF_len] at h2
        have := hj j (by omega)
        rw [nth_get h1] at this
        have h3 := marksF_nth m l.length j h2
        rw [nth_get (by rw [marksF_len]; exact h2)] at h3
        rw [this, h3]
      rw [e, hil]
      exact Ev.now _
    | succ d ih =>
      intro i a ha hd hi hj
      refine Ev.succ ?_
      simp only [laws_markIntS.l0, if_pos (show (i : Int) < (a.length : Int) by omega), if_pos (show (0 : Int) ≤ (i : Int) by omega), (show wrap64 ((i : Int) + 1) = ((i + 1 : Nat) : Int) by rw [w64 (by omega)]; omega), (show wrap64 (((m + i : Nat) : Int) + 1) = ((m + (i + 1) : Nat) : Int) by rw [w64 (by omega)]; omega), Int.toNat_natCast]
      refine ih (i + 1) _ (by simp [ha]) (by omega) (by omega) (fun j hj2 => ?_)
      rw [nth_get (by simp; omega)]
      by_cases e : j = i
      · subst e; simp
      · rw [List.getElem_set_ne (by omega)]
        have := hj j (by omega)
        rwa [nth_get (by omega)] at this
  have := main l.length 0 l rfl (by omega) (by omega) (fun j hj => by omega)
  exact this
theorem heldF (n m : Nat) (hm : n ≤ 1048576) (hmb : m ≤ 4398046511104) : Ev (fun k => laws_heldIntS.f k (marksF m n) (m : Int)) ((m + n : Nat) : Int) := by
  have main : ∀ d (i : Nat), n - i = d → i ≤ n → Ev (fun k => laws_heldIntS.l0 k (marksF m n) ((m + i : Nat) : Int) (i : Int)) ((m + n : Nat) : Int) := by
    have hl := marksF_len m n
    intro d
    induction d with
    | zero =>
      intro i hd hi
      have hil : i = n := by omega
      refine Ev.succ ?_
      simp only [laws_heldIntS.l0, if_neg (show ¬ ((i : Int) < ((marksF m n).length : Int)) by omega)]
      rw [hil]
      exact Ev.now _
    | succ d ih =>
      intro i hd hi
      refine Ev.succ ?_
      simp only [laws_heldIntS.l0, if_pos (show (i : Int) < ((marksF m n).length : Int) by omega), if_pos (show (0 : Int) ≤ (i : Int) by omega), rdI, marksF_nth m n i (by omega), if_true, (show wrap64 ((i : Int) + 1) = ((i + 1 : Nat) : Int) by rw [w64 (by omega)]; omega), (show wrap64 (((m + i : Nat) : Int) + 1) = ((m + (i + 1) : Nat) : Int) by rw [w64 (by omega)]; omega)]
      exact ih (i + 1) (by omega) (by omega)
  have := main n 0 (by omega) (by omega)
  exact this
/-- The next mark behind the first i rows; all rows marked. -/
def kS (xs : List (List Int)) (k0 : Nat) : Nat → Nat
  | 0 => k0
  | i + 1 => kS xs k0 i + (nth xs i []).length
def markSS (xs : List (List Int)) (k0 : Nat) : List (List Int) := (List.range xs.length).map fun i => marksF (kS xs k0 i) (nth xs i []).length
theorem kS_b (xs : List (List Int)) (k0 : Nat) (hm : ∀ i, i < xs.length → (nth xs i []).length ≤ 1048576) : ∀ i, i ≤ xs.length → k0 ≤ kS xs k0 i ∧ kS xs k0 i ≤ k0 + 1048576 * i
  | 0, _ => by simp [kS]
  | i + 1, h => by
    have := kS_b xs k0 hm i (by omega)
    have := hm i (by omega)
    simp only [kS]
    omega
theorem markSS_len (xs : List (List Int)) (k0 : Nat) : (markSS xs k0).length = xs.length := by unfold markSS; simp
theorem markSS_nth (xs : List (List Int)) (k0 i : Nat) (h : i < xs.length) : nth (markSS xs k0) i [] = marksF (kS xs k0 i) (nth xs i []).length := by
  rw [nth_get (by rw [markSS_len]; exact h)]
  unfold markSS
  simp
theorem rdL1 (l : List (List Int)) (i : Nat) : rd_L6 l (i : Int) = nth l i [] := by unfold rd_L6 nth; simp
theorem heldSS (xs : List (List Int)) (k0 : Nat) (hk : k0 ≤ 1048577) (hn : xs.length ≤ 1048576) (hm : ∀ i, i < xs.length → (nth xs i []).length ≤ 1048576) : Ev (fun k => laws_heldIntSS.f k (markSS xs k0) (k0 : Int)) ((kS xs k0 xs.length : Nat) : Int) := by
  unfold laws_heldIntSS.f
  have hl := markSS_len xs k0
  have main : ∀ d (i : Nat), xs.length - i = d → i ≤ xs.length → Ev (fun k => laws_heldIntSS.l0 k (markSS xs k0) ((kS xs k0 i : Nat) : Int) (i : Int)) ((kS xs k0 xs.length : Nat) : Int) := by
    intro d
    induction d with
    | zero =>
      intro i hd hi
      obtain rfl : i = xs.length := by omega
      refine Ev.succ ?_
      simp only [laws_heldIntSS.l0, if_neg (show ¬ ((xs.length : Int) < ((markSS xs k0).length : Int)) by omega)]
      exact Ev.now _
    | succ d ih =>
      intro i hd hi
      have hb := kS_b xs k0 hm i (by omega)
      refine Ev.succ ?_
      simp only [laws_heldIntSS.l0, rdL1, if_pos (show (i : Int) < ((markSS xs k0).length : Int) by omega), if_pos (show (0 : Int) ≤ (i : Int) by omega), markSS_nth xs k0 i (by omega)]
      refine Ev.bind (heldF (nth xs i []).length (kS xs k0 i) (hm i (by omega)) (by omega)) ?_
      simp only [if_neg (show ¬ (((kS xs k0 i + (nth xs i []).length : Nat) : Int) < 0) by omega), stepI i (by omega)]
      exact ih (i + 1) (by omega) (by omega)
  exact main xs.length 0 (by omega) (by omega)
theorem eqSS (xs : List (List Int)) (hn : xs.length ≤ 1048576) (hm : ∀ i, i < xs.length → (nth xs i []).length ≤ 1048576) : Ev (fun k => laws_eqIntSS.f k xs xs) true := by
  unfold laws_eqIntSS.f
  simp only [if_true]
  have main : ∀ d (i : Nat), xs.length - i = d → i ≤ xs.length → Ev (fun k => laws_eqIntSS.l0 k xs xs (i : Int)) true := by
    intro d
    induction d with
    | zero =>
      intro i hd hi
      obtain rfl : i = xs.length := by omega
      refine Ev.succ ?_
      simp only [laws_eqIntSS.l0, if_neg (show ¬ ((xs.length : Int) < (xs.length : Int)) by omega)]
      exact Ev.now _
    | succ d ih =>
      intro i hd hi
      refine Ev.succ ?_
      simp only [laws_eqIntSS.l0, rdL1, if_pos (show (i : Int) < (xs.length : Int) by omega), if_pos (show (0 : Int) ≤ (i : Int) by omega)]
      refine Ev.bind (eqInts _ (hm i (by omega))) ?_
      simp only [if_true, stepI i (by omega)]
      exact ih (i + 1) (by omega) (by omega)
  exact main xs.length 0 (by omega) (by omega)
end Go.Proofs.Ytembbdhhpblapaa.M

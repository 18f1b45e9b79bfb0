import Derived.Test.YtembbdhhpblapaaPl
import Derived.Test.YtembbdhhpblapaaQx8888801
/-! The marks on slices of numbers: equal, marked, held. -/
namespace Go.Proofs.Ytembbdhhpblapaa.M
open Go.RowKit Go.Proofs.Ytembbdhhpblapaa.Q Go.Proofs.YtembbdhhpblapaaW.PrintWords Go.Proofs.YtembbdhhpblapaaW.PrintLast Go.Proofs.YtembbdhhpblapaaW.Pl Classical
set_option linter.unusedSimpArgs false

theorem rdI (l : List Int) (i : Nat) : rd l (i : Int) = nth l i 0 := by unfold rd nth; simp
theorem eqInts (l : List Int) (hm : l.length ≤ 1048576) : Ev (fun k => laws_eqIntS.f k l l) true := by
  unfold laws_eqIntS.f
  simp only [if_true]
  have h := scanE l.length (fun _ => true) true false (fun k i => laws_eqIntS.l0 k l l i) ?hs ?hb ?he
  case hs =>
    intro i r hi _ hr
    refine Ev.succ ?_
    simp only [laws_eqIntS.l0, if_pos (show (i : Int) < (l.length : Int) by omega), if_pos (show (0 : Int) ≤ (i : Int) by omega), if_true, w64 (x := (i : Int) + 1) (by omega)]
    exact hr
  case hb => intro i _ h; cases h
  case he =>
    refine Ev.succ ?_
    simp only [laws_eqIntS.l0, if_neg (show ¬ ((l.length : Int) < (l.length : Int)) by omega)]
    exact Ev.now _
  simpa using h
/-- The marks from 1 on. -/
def marks (n : Nat) : List Int := (List.range n).map fun j => ((j + 1 : Nat) : Int)
theorem marks_len (n : Nat) : (marks n).length = n := by unfold marks; simp
theorem marks_nth (n i : Nat) (h : i < n) : nth (marks n) i 0 = ((i + 1 : Nat) : Int) := by rw [nth_get (by rw [marks_len]; exact h)]; unfold marks; simp
theorem markInts (l : List Int) (hm : l.length ≤ 1048576) : Ev (fun k => laws_markIntS.f k l 1) (((l.length + 1 : Nat) : Int), marks l.length) := by
  have main : ∀ d (i : Nat) (a : List Int), a.length = l.length → l.length - i = d → i ≤ l.length → (∀ j, j < i → nth a j 0 = ((j + 1 : Nat) : Int)) → Ev (fun k => laws_markIntS.l0 k a ((i + 1 : Nat) : Int) (i : Int)) (((l.length + 1 : Nat) : Int), marks l.length) := by
    intro d
    induction d with
    | zero =>
      intro i a ha hd hi hj
      have hil : i = l.length := by omega
      refine Ev.succ ?_
      simp only [laws_markIntS.l0, if_neg (show ¬ ((i : Int) < (a.length : Int)) by omega)]
      have e : a = marks l.length := by
        apply List.ext_getElem (by rw [ha, marks_len])
        intro j h1 h2
        rw [marks_len] at h2
        have := hj j (by omega)
        rw [nth_get h1] at this
        have h3 := marks_nth l.length j h2
        rw [nth_get (by rw [marks_len]; exact h2)] at h3
        rw [this, h3]
      rw [e, hil]
      exact Ev.now _
    | succ d ih =>
      intro i a ha hd hi hj
      refine Ev.succ ?_
      simp only [laws_markIntS.l0, if_pos (show (i : Int) < (a.length : Int) by omega), if_pos (show (0 : Int) ≤ (i : Int) by omega), (show wrap64 ((i : Int) + 1) = ((i + 1 : Nat) : Int) by rw [w64 (by omega)]; omega), (show wrap64 (((i + 1 : Nat) : Int) + 1) = ((i + 1 + 1 : Nat) : Int) by rw [w64 (by omega)]; omega), Int.toNat_natCast]
      refine ih (i + 1) _ (by simp [ha]) (by omega) (by omega) (fun j hj2 => ?_)
      rw [nth_get (by simp; omega)]
      by_cases e : j = i
      · subst e; simp
      · rw [List.getElem_set_ne (by omega)]
        have := hj j (by omega)
        rwa [nth_get (by omega)] at this
  exact main l.length 0 l rfl (by omega) (by omega) (fun j hj => by omega)
theorem heldInts (n : Nat) (hm : n ≤ 1048576) : Ev (fun k => laws_heldIntS.f k (marks n) 1) ((n + 1 : Nat) : Int) := by
  have main : ∀ d (i : Nat), n - i = d → i ≤ n → Ev (fun k => laws_heldIntS.l0 k (marks n) ((i + 1 : Nat) : Int) (i : Int)) ((n + 1 : Nat) : Int) := by
    have hl := marks_len n
    intro d
    induction d with
    | zero =>
      intro i hd hi
      have hil : i = n := by omega
      refine Ev.succ ?_
      simp only [laws_heldIntS.l0, if_neg (show ¬ ((i : Int) < ((marks n).length : Int)) by omega)]
      rw [hil]
      exact Ev.now _
    | succ d ih =>
      intro i hd hi
      refine Ev.succ ?_
      simp only [laws_heldIntS.l0, if_pos (show (i : Int) < ((marks n).length : Int) by omega), if_pos (show (0 : Int) ≤ (i : Int) by omega), rdI, marks_nth n i (by omega), if_true, (show wrap64 ((i : Int) + 1) = ((i + 1 : Nat) : Int) by rw [w64 (by omega)]; omega), (show wrap64 (((i + 1 : Nat) : Int) + 1) = ((i + 1 + 1 : Nat) : Int) by rw [w64 (by omega)]; omega)]
      exact ih (i + 1) (by omega) (by omega)
  exact main n 0 (by omega) (by omega)
end Go.Proofs.Ytembbdhhpblapaa.M

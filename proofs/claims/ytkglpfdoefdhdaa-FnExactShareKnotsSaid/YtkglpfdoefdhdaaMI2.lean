import Derived.Test.YtkglpfdoefdhdaaMI
import Derived.Test.YtkglpfdoefdhdaaQx108
import Derived.Test.YtkglpfdoefdhdaaQx8888801
/-! More on slices of numbers: copied, marked from any number on. -/
namespace Go.Proofs.Ytkglpfdoefdhdaa.M
open Go.RowKit Go.Proofs.Ytkglpfdoefdhdaa.Q Go.Proofs.YtkglpfdoefdhdaaW.PrintWords Go.Proofs.YtkglpfdoefdhdaaW.PrintLast Go.Proofs.YtkglpfdoefdhdaaW.Pl Classical
set_option linter.unusedSimpArgs false

theorem toInts (l : List Int) (hm : l.length ≤ 1048576) : Ev (fun k => laws_toIntS.f k l) l := by
  refine ⟨l.length + 1, fun k hk => ?_⟩
  show laws_toIntS.f k l = _
  unfold laws_toIntS.f
  rw [if_pos (by omega), if_pos (by omega)]
  have h := fill_gen l (fun x => x) (fun k acc i => laws_toIntS.l0 k l acc i) ?hstep ?hend k hk (List.replicate l.length 0) (by simp)
  case hstep =>
    intro k acc i hi ha
    simp only [laws_toIntS.l0]
    rw [if_pos (by omega), if_pos (by omega), if_pos (by omega), rdI, nth_get hi, w64 (x := (i : Int) + 1) (by omega)]
    rfl
  case hend =>
    intro k acc
    simp [laws_toIntS.l0]
  simpa using h
theorem markIntsFrom (l : List Int) (hm : l.length ≤ 1048576) (m : Nat) (hmb : m ≤ 1099511627776) : ∃ p : Int × List Int, p.1 = ((m + l.length : Nat) : Int) ∧ p.2.length = l.length ∧ Ev (fun k => laws_markIntS.f k l (m : Int)) p := by
  have main : ∀ d (i : Nat) (a : List Int), a.length = l.length → l.length - i = d → i ≤ l.length → ∃ p : Int × List Int, p.1 = ((m + l.length : Nat) : Int) ∧ p.2.length = l.length ∧ Ev (fun k => laws_markIntS.l0 k a ((m + i : Nat) : Int) (i : Int)) p := by
    intro d
    induction d with
    | zero =>
      intro i a ha hd hi
      have hil : i = l.length := by omega
      refine ⟨(((m + l.length : Nat) : Int), a), rfl, ha, Ev.succ ?_⟩
      simp only [laws_markIntS.l0, if_neg (show ¬ ((i : Int) < (a.length : Int)) by omega)]
      rw [hil]
      exact Ev.now _
    | succ d ih =>
      intro i a ha hd hi
      obtain ⟨p, h1, h2, h3⟩ := ih (i + 1) (a.set i ((m + i : Nat) : Int)) (by simp [ha]) (by omega) (by omega)
      refine ⟨p, h1, h2, Ev.succ ?_⟩
      simp only [laws_markIntS.l0, if_pos (show (i : Int) < (a.length : Int) by omega), if_pos (show (0 : Int) ≤ (i : Int) by omega), stepI i (by omega), stepI (m + i) (by omega), Int.toNat_natCast]
      exact h3
  exact main l.length 0 l rfl (by omega) (by omega)
end Go.Proofs.Ytkglpfdoefdhdaa.M

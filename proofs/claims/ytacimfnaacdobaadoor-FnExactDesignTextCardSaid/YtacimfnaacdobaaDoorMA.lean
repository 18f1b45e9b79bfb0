import Derived.Test.YtacimfnaacdobaaDoorPl
import Derived.Test.YtacimfnaacdobaaDoorQx1000033
import Derived.Test.YtacimfnaacdobaaDoorQx12
import Derived.Test.YtacimfnaacdobaaDoorQx16
import Derived.Test.YtacimfnaacdobaaDoorQx20
import Derived.Test.YtacimfnaacdobaaDoorQx21
import Derived.Test.YtacimfnaacdobaaDoorQx22
import Derived.Test.YtacimfnaacdobaaDoorQx23
import Derived.Test.YtacimfnaacdobaaDoorQx27
import Derived.Test.YtacimfnaacdobaaDoorQx32
import Derived.Test.YtacimfnaacdobaaDoorQx34
import Derived.Test.YtacimfnaacdobaaDoorQx7
import Derived.Test.YtacimfnaacdobaaDoorQx8888801
/-! A program of designs: both texts accept the same ones. -/
namespace Go.Proofs.YtacimfnaacdobaaDoor.M
open Go.RowKit Go.Proofs.YtacimfnaacdobaaDoor.Q Go.Proofs.YtacimfnaacdobaaDoorW.PrintWords Go.Proofs.YtacimfnaacdobaaDoorW.PrintLast Go.Proofs.YtacimfnaacdobaaDoorW.Pl Classical
set_option linter.unusedSimpArgs false
set_option linter.unusedVariables false

theorem rd37 (l : List S37) (i : Nat) : rd_T37 l (i : Int) = nth l i z37 := by unfold rd_T37 nth; simp
theorem rd46 (l : List S46) (i : Nat) : rd_T46 l (i : Int) = nth l i z46 := by unfold rd_T46 nth; simp
theorem szDesigns (l : List S46) (hm : l.length ≤ maxLen) : ∃ r, laws_szDesignS.f l 1048576 = some r ∧ (r < 0 ↔ 1048576 < l.length) := by
  unfold laws_szDesignS.f
  have := sz_small hm
  by_cases h : wrap64 (1048576 - (l.length : Int)) < 0
  · exact ⟨-1, by rw [if_pos h], by rw [← this]; exact ⟨fun _ => h, fun _ => by omega⟩⟩
  · exact ⟨_, by rw [if_neg h], this⟩
def cvDesign (x : S46) : S37 := ⟨x.f0, x.f1, x.f2, x.f3⟩
theorem toDesigns (l : List S46) (hm : l.length ≤ 1048576) : Ev (fun k => laws_toDesignS.f k l) (l.map cvDesign) := by
  refine ⟨l.length + 1, fun k hk => ?_⟩
  show laws_toDesignS.f k l = _
  unfold laws_toDesignS.f
  rw [if_pos (by omega), if_pos (by omega)]
  have h := fill_gen l cvDesign (fun k acc i => laws_toDesignS.l0 k l acc i) ?hstep ?hend k hk (List.replicate l.length z37) (by simp)
  case hstep =>
    intro k acc i hi ha
    simp only [laws_toDesignS.l0]
    rw [if_pos (by omega), if_pos (by omega), rd46, nth_get hi]
    simp only [laws_toDesign.f, Option.bind_some]
    rw [if_pos (by omega), w64 (x := (i : Int) + 1) (by omega)]
    rfl
  case hend =>
    intro k acc
    simp [laws_toDesignS.l0]
  simpa using h
theorem eqDesigns (l : List S37) (hm : l.length ≤ 1048576) : Ev (fun k => laws_eqDesignS.f k l l) true := by
  unfold laws_eqDesignS.f
  simp only [if_true]
  have h := scanE l.length (fun _ => true) true false (fun k i => laws_eqDesignS.l0 k l l i) ?hs ?hb ?he
  case hs =>
    intro i r hi _ hr
    refine Ev.succ ?_
    simp only [laws_eqDesignS.l0, laws_eqDesign.f, if_pos (show (i : Int) < (l.length : Int) by omega), if_pos (show (0 : Int) ≤ (i : Int) by omega), if_true, Option.bind_some, w64 (x := (i : Int) + 1) (by omega)]
    exact hr
  case hb => intro i _ h; cases h
  case he =>
    refine Ev.succ ?_
    simp only [laws_eqDesignS.l0, if_neg (show ¬ ((l.length : Int) < (l.length : Int)) by omega)]
    exact Ev.now _
  simpa using h
theorem l1In (a b c : Int) : spec_l1In.f a b c = some (decide (b ≤ a ∧ a ≤ c)) := by
  unfold spec_l1In.f
  by_cases h : b ≤ a <;> by_cases h2 : a ≤ c <;> simp [h, h2]
theorem iIn (a b c : Int) : impl_in.f a b c = some (decide (b ≤ a ∧ a ≤ c)) := by
  unfold impl_in.f
  by_cases h : b ≤ a <;> by_cases h2 : a ≤ c <;> simp [h, h2]
/-- A valid step. -/
def okD (k a b c : Int) : Bool := decide ((k = 1 ∧ (1 ≤ a ∧ a ≤ 8) ∧ (1 ≤ b ∧ b ≤ 8) ∧ (0 ≤ c ∧ c ≤ 5)) ∨ (k = 6 ∧ (0 ≤ a ∧ a ≤ 5) ∧ b = 0 ∧ c = 0) ∨ (k = 9 ∧ (1 ≤ a ∧ a ≤ 8) ∧ (1 ≤ b ∧ b ≤ 8) ∧ c = 0) ∨ ((k ≠ 1 ∧ k ≠ 6 ∧ k ≠ 9) ∧ (1 ≤ k ∧ k ≤ 9) ∧ a = 0 ∧ b = 0 ∧ c = 0))
theorem someBool {a b : Bool} (h : a = true ↔ b = true) : (some a : Option Bool) = some b := by rw [Bool.eq_iff_iff.2 h]
theorem sOne (k a b c : Int) : spec_l9One.f k a b c = some (okD k a b c) := by
  unfold spec_l9One.f spec_l2Side.f spec_l2Color.f okD
  simp only [l1In, Option.bind_some]
  repeat' split
  all_goals (refine someBool ?_; simp only [decide_eq_true_iff, beq_iff_eq, Bool.false_eq_true, false_iff] at *; omega)
theorem mk0 (k : Int) : impl_makeDesign.f k [] = some (k, 0, 0, 0) := by
  simp [impl_makeDesign.f, slices_Clone_int_int.f, rd]
theorem mk1 (k a : Int) : impl_makeDesign.f k [a] = some (k, a, 0, 0) := by
  simp [impl_makeDesign.f, slices_Clone_int_int.f, rd]
theorem mk2 (k a b : Int) : impl_makeDesign.f k [a, b] = some (k, a, b, 0) := by
  simp [impl_makeDesign.f, slices_Clone_int_int.f, rd]
theorem mk3 (k a b c : Int) : impl_makeDesign.f k [a, b, c] = some (k, a, b, c) := by
  simp [impl_makeDesign.f, slices_Clone_int_int.f, rd]
theorem iJ (n : Nat) (f : Bool) (k a b c : Int) : impl_Design_isValid.j0 (n + 1) f k a b c = some (!f && (if k = 1 then decide ((1 ≤ a ∧ a ≤ 8) ∧ (1 ≤ b ∧ b ≤ 8) ∧ (0 ≤ c ∧ c ≤ 5)) else if k = 6 then decide (0 ≤ a ∧ a ≤ 5) else if k = 9 then decide ((1 ≤ a ∧ a ≤ 8) ∧ (1 ≤ b ∧ b ≤ 8)) else true)) := by
  simp only [impl_Design_isValid.j0, impl_isSide.f, impl_isColor.f, iIn, Option.bind_some]
  cases f with
  | true => simp
  | false =>
    simp only [Bool.false_eq_true, if_false, Bool.not_false, Bool.true_and]
    by_cases h1 : k = 1
    · simp only [if_pos h1]
      repeat' split
      all_goals (refine someBool ?_; simp only [decide_eq_true_iff, Bool.false_eq_true, false_iff] at *; omega)
    by_cases h6 : k = 6
    · simp only [if_neg h1, if_pos h6]
    by_cases h9 : k = 9
    · simp only [if_neg h1, if_neg h6, if_pos h9]
      repeat' split
      all_goals (refine someBool ?_; simp only [decide_eq_true_iff, Bool.false_eq_true, false_iff] at *; omega)
    · simp only [if_neg h1, if_neg h6, if_neg h9]
theorem iOne (n : Nat) (k a b c : Int) : impl_Design_isValid.f (n + 1) k a b c = some (okD k a b c) := by
  unfold impl_Design_isValid.f okD
  simp only [iIn, Option.bind_some, iJ]
  by_cases hk : 1 ≤ k ∧ k ≤ 9
  · simp only [decide_eq_true hk, if_true]
    unfold impl_Design_numbers.f
    by_cases h1 : k = 1
    · simp only [if_pos h1, Option.bind_some, mk3, beq_self_eq_true, Bool.not_true, Bool.or_false, Bool.not_false, Bool.true_and]
      refine someBool ?_
      simp only [decide_eq_true_iff]
      omega
    by_cases h6 : k = 6
    · simp only [if_neg h1, if_pos h6, Option.bind_some, mk1, beq_self_eq_true, Bool.not_true, Bool.false_or]
      refine someBool ?_
      simp only [Bool.and_eq_true, Bool.not_eq_true', Bool.or_eq_false_iff, Bool.not_eq_false', beq_iff_eq, decide_eq_true_iff]
      omega
    by_cases h9 : k = 9
    · simp only [if_neg h1, if_neg h6, if_pos h9, Option.bind_some, mk2, beq_self_eq_true, Bool.not_true, Bool.false_or]
      refine someBool ?_
      simp only [Bool.and_eq_true, Bool.not_eq_true', Bool.not_eq_false', beq_iff_eq, decide_eq_true_iff]
      omega
    · simp only [if_neg h1, if_neg h6, if_neg h9, Option.bind_some, mk0, beq_self_eq_true, Bool.not_true, Bool.false_or, Bool.and_true]
      refine someBool ?_
      simp only [Bool.not_eq_true', Bool.or_eq_false_iff, Bool.not_eq_false', beq_iff_eq, decide_eq_true_iff]
      omega
  · simp only [decide_eq_false hk, Bool.false_eq_true, if_false, Bool.not_true, Bool.false_and]
    refine someBool ?_
    simp only [Bool.false_eq_true, decide_eq_true_iff, false_iff]
    omega
def okR (x : S37) : Bool := okD x.f0 x.f1 x.f2 x.f3
def goodD (l : List S37) : Bool := if l.all okR = true then decide (l.length ≤ 20) else false
theorem sGood (l : List S37) (hm : l.length ≤ 1048576) : Ev (fun k => spec_l9Good.f k l) (goodD l) := by
  unfold spec_l9Good.f
  have h := scanE l.length (fun i => okR (nth l i z37)) (decide (l.length ≤ 20)) false (fun k i => spec_l9Good.l0 k l i) ?hs ?hb ?he
  case hs =>
    intro i r hi ho hr
    refine Ev.succ ?_
    simp only [spec_l9Good.l0, rd37, sOne, Option.bind_some]
    simp only [if_pos (show (i : Int) < (l.length : Int) by omega), if_pos (show (0 : Int) ≤ (i : Int) by omega), show okD _ _ _ _ = true from ho, if_true, w64 (x := (i : Int) + 1) (by omega)]
    exact hr
  case hb =>
    intro i hi ho
    refine Ev.succ ?_
    simp only [spec_l9Good.l0, rd37, sOne, Option.bind_some]
    simp only [if_pos (show (i : Int) < (l.length : Int) by omega), if_pos (show (0 : Int) ≤ (i : Int) by omega), show okD _ _ _ _ = false from ho, Bool.false_eq_true, if_false]
    exact Ev.now _
  case he =>
    refine Ev.succ ?_
    simp only [spec_l9Good.l0, if_neg (show ¬ ((l.length : Int) < (l.length : Int)) by omega)]
    refine Ev.c ?_
    congr 1
    by_cases h : l.length ≤ 20
    · rw [decide_eq_true h, decide_eq_true (by omega)]
    · rw [decide_eq_false h, decide_eq_false (by omega)]
  have e : ((List.range l.length).all fun i => okR (nth l i z37)) = l.all okR := by
    rw [Bool.eq_iff_iff, range_all, all_iff_nth z37]
  rw [e] at h
  exact h
theorem iGood (l : List S37) (hm : l.length ≤ 1048576) : Ev (fun k => impl_IsProgram.f k l) (goodD l) := by
  refine Ev.succ ⟨0, fun k _ => ?_⟩
  show impl_IsProgram.f (k + 1) l = _
  unfold impl_IsProgram.f impl_Design_33__impl_Design_isValid.f
  rw [all_total (p := okR) (fun x _ => iOne k _ _ _ _)]
  unfold goodD
  simp only [Option.bind_some]
  by_cases hl : l.length ≤ 20
  · rw [if_pos (by omega), decide_eq_true hl]
    generalize l.all okR = b
    cases b <;> rfl
  · rw [if_neg (by omega), decide_eq_false hl]
    generalize l.all okR = b
    cases b <;> rfl
end Go.Proofs.YtacimfnaacdobaaDoor.M

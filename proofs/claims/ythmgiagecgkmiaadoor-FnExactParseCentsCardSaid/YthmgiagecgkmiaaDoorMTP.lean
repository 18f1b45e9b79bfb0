import Derived.Test.YthmgiagecgkmiaaDoorPl
import Derived.Lib.ItoaLen
import Derived.Laws.Concat
import Derived.Test.YthmgiagecgkmiaaDoorQx30
namespace Go.Proofs.YthmgiagecgkmiaaDoor.M
open Go Go.RowKit Go.Proofs.YthmgiagecgkmiaaDoor.Q Go.Proofs.YthmgiagecgkmiaaDoorW.PrintWords Go.Proofs.YthmgiagecgkmiaaDoorW.PrintLast Go.Proofs.YthmgiagecgkmiaaDoorW.Pl
set_option linter.unusedSimpArgs false
set_option linter.unusedVariables false
theorem Ev.ifp {α : Type} {c : Prop} [Decidable c] {f g : Nat → Option α} {r : α} (h : c) (k : Ev f r) : Ev (fun n => if c then f n else g n) r := by simpa only [if_pos h] using k
theorem Ev.ifn {α : Type} {c : Prop} [Decidable c] {f g : Nat → Option α} {r : α} (h : ¬ c) (k : Ev g r) : Ev (fun n => if c then f n else g n) r := by simpa only [if_neg h] using k
/-- A number's text. -/
def dec (n : Int) : ByteArray := ⟨(Lib.itoa n).toArray⟩
theorem dec_size (n : Int) (h0 : -9223372036854775808 ≤ n) (h1 : n ≤ 9223372036854775807) : (dec n).size ≤ 21 := by
  have := Lib.itoa_length_le n h0 h1
  show (Lib.itoa n).toArray.size ≤ 21
  simpa using this
theorem dec_sizeN (u : Nat) (h : u ≤ 9223372036854775807) : (dec (u : Int)).size ≤ 21 := dec_size _ (by omega) (by omega)
theorem dec_nat (u : Nat) : dec (u : Int) = ⟨(Lib.decDigits u).toArray⟩ := by
  unfold dec Lib.itoa
  rw [if_neg (by omega), Int.toNat_natCast]
theorem digit : ∀ u, u < 10 → (⟨#[48, 49, 50, 51, 52, 53, 54, 55, 56, 57]⟩ : ByteArray).extract u (u + 1) = ⟨#[UInt8.ofNat (48 + u)]⟩ := by decide +kernel
theorem numD (u : Nat) (h10 : u < 10) : Ev (fun k => spec_l1Num.f k (u : Int)) (dec (u : Int)) := by
  refine Ev.succ ?_
  simp only [spec_l1Num.f]
  refine Ev.ifn (by omega) (Ev.ifp (by omega) (Ev.ifp (by omega) ?_))
  simp only [stepI u (by omega)]
  refine Ev.ifp (by omega) (Ev.ifp (by omega) ?_)
  simp only [Int.toNat_natCast]
  rw [digit u h10, dec_nat, Lib.decDigits, dif_pos h10]
  exact Ev.now _
theorem numE : ∀ (n u : Nat), u ≤ n → u ≤ 4611686018427387903 → Ev (fun k => spec_l1Num.f k (u : Int)) (dec (u : Int)) := by
  intro n
  induction n with
  | zero =>
    intro u hu hb
    exact numD u (by omega)
  | succ n ih =>
    intro u hu hb
    by_cases h10 : u < 10
    · exact numD u h10
    · refine Ev.succ ?_
      simp only [spec_l1Num.f]
      have e1 : wrap64 (Int.tdiv (u : Int) 10) = ((u / 10 : Nat) : Int) := by
        have : Int.tdiv (u : Int) 10 = ((u / 10 : Nat) : Int) := rfl
        rw [this]; exact w64 (by omega)
      have e2 : Int.tmod (u : Int) 10 = ((u % 10 : Nat) : Int) := rfl
      refine Ev.ifn (by omega) (Ev.ifn (by omega) ?_)
      simp only [e1, e2]
      refine Ev.bind (ih (u / 10) (by omega) (by omega)) ?_
      have hs := dec_sizeN (u / 10) (by omega)
      refine Ev.ifp (by omega) ?_
      simp only [stepI (u % 10) (by omega)]
      refine Ev.ifp (by omega) (Ev.ifp (by omega) ?_)
      simp only [Int.toNat_natCast]
      rw [digit (u % 10) (by omega)]
      refine Ev.ifp (by simp only [ByteArray.size_mk', List.size_toArray, List.length_cons, List.length_nil]; omega) ?_
      rw [dec_nat, dec_nat, Lib.decDigits.eq_def u, dif_neg h10]
      have : (⟨(Lib.decDigits (u / 10)).toArray⟩ : ByteArray) ++ (⟨#[UInt8.ofNat (48 + u % 10)]⟩ : ByteArray) = ⟨(Lib.decDigits (u / 10) ++ [UInt8.ofNat (48 + u % 10)]).toArray⟩ := by
        rw [ByteArray.mk_append_mk]
      rw [this]
      exact Ev.now _
theorem num (u : Nat) (h : u ≤ 4611686018427387903) : Ev (fun k => spec_l1Num.f k (u : Int)) (dec (u : Int)) := numE u u (Nat.le_refl _) h
/-- The text of cents. -/
def cP (u : Nat) : ByteArray := ((dec ((u / 100 : Nat) : Int) ++ ⟨#[46]⟩) ++ dec ((u / 10 % 10 : Nat) : Int)) ++ dec ((u % 10 : Nat) : Int)
def cT (n : Int) : ByteArray := if n < 0 then ⟨#[45]⟩ ++ cP n.natAbs else cP n.natAbs
theorem cP_size (u : Nat) (h : u ≤ 9223372036854775807) : (cP u).size ≤ 64 := by
  have h1 := dec_sizeN (u / 100) (by omega)
  have h2 := dec_sizeN (u / 10 % 10) (by omega)
  have h3 := dec_sizeN (u % 10) (by omega)
  unfold cP
  simp only [ByteArray.size_append', ByteArray.size_mk', List.size_toArray, List.length_cons, List.length_nil]
  omega
theorem cT_size (n : Int) (h : -9223372036854775807 ≤ n ∧ n ≤ 9223372036854775807) : (cT n).size ≤ 65 := by
  have h1 := cP_size n.natAbs (by omega)
  unfold cT
  split
  · simp only [ByteArray.size_append', ByteArray.size_mk', List.size_toArray, List.length_cons, List.length_nil]
    omega
  · omega
end Go.Proofs.YthmgiagecgkmiaaDoor.M

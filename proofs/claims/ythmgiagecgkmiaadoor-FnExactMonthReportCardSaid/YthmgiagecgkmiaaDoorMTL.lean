import Derived.Test.YthmgiagecgkmiaaDoorMTP
import Derived.Test.YthmgiagecgkmiaaDoorQx23
import Derived.Test.YthmgiagecgkmiaaDoorQx25
import Derived.Test.YthmgiagecgkmiaaDoorQx30
import Derived.Test.YthmgiagecgkmiaaDoorQx8888801
namespace Go.Proofs.YthmgiagecgkmiaaDoor.M
open Go Go.RowKit Go.Proofs.YthmgiagecgkmiaaDoor.Q Go.Proofs.YthmgiagecgkmiaaDoorW.PrintWords Go.Proofs.YthmgiagecgkmiaaDoorW.PrintLast Go.Proofs.YthmgiagecgkmiaaDoorW.Pl
set_option linter.unusedSimpArgs false
set_option linter.unusedVariables false
theorem l1In (a b c : Int) : spec_l1In.f a b c = some (decide (b ≤ a ∧ a ≤ c)) := by
  unfold spec_l1In.f
  by_cases h : b ≤ a <;> by_cases h2 : a ≤ c <;> simp [h, h2]
theorem iIn (a b c : Int) : impl_in.f a b c = some (decide (b ≤ a ∧ a ≤ c)) := by
  unfold impl_in.f
  by_cases h : b ≤ a <;> by_cases h2 : a ≤ c <;> simp [h, h2]
/-- A valid row. -/
def okM (m c n h i s : Int) : Bool := decide ((1 ≤ m ∧ m ≤ 1200) ∧ (0 ≤ c ∧ c ≤ 99) ∧ (0 ≤ n ∧ n ≤ 9000000) ∧ (0 ≤ h ∧ h ≤ 9999) ∧ (n = 0 ∨ 0 < h) ∧ (0 ≤ i ∧ i ≤ 100000000) ∧ (0 ≤ s ∧ s ≤ 100000000))
theorem l26One (k : Nat) (m c n h i s : Int) : spec_l26One.f (k + 1) m c n h i s = some (okM m c n h i s) := by
  unfold spec_l26One.f okM
  simp only [l1In, Option.bind_some, spec_l26One.j0]
  repeat' split
  all_goals (simp_all <;> omega)
theorem l26E (m c n h i s : Int) : Ev (fun k => spec_l26One.f k m c n h i s) (okM m c n h i s) := Ev.succ ⟨0, fun k _ => l26One k m c n h i s⟩
theorem iRow (m c n h i s : Int) : impl_IsMonthRow.f m c n h i s = some (okM m c n h i s) := by
  unfold impl_IsMonthRow.f okM
  simp only [iIn, Option.bind_some]
  repeat' split
  all_goals (simp_all <;> omega)
theorem Ev.nowE {α : Type} {a r : α} (h : a = r) : Ev (fun _ => some a) r := h ▸ Ev.now a
theorem numI (n : Int) (h : 0 ≤ n ∧ n ≤ 4611686018427387903) : Ev (fun k => spec_l1Num.f k n) (dec n) := by
  obtain ⟨u, rfl⟩ : ∃ u : Nat, n = (u : Int) := ⟨n.toNat, by omega⟩
  exact num u (by omega)
/-- A month's line. -/
def carT (c : Int) : ByteArray := if c = 1 then ⟨#[32, 99, 97, 114, 112, 101, 116, 44, 32]⟩ else ⟨#[32, 99, 97, 114, 112, 101, 116, 115, 44, 32]⟩
def lineT (m c n p : Int) : ByteArray := ((((((⟨#[109, 111, 110, 116, 104, 32]⟩ ++ dec m) ++ ⟨#[58, 32]⟩) ++ dec c) ++ carT c) ++ dec n) ++ ⟨#[32, 107, 110, 111, 116, 115, 44, 32]⟩) ++ cT p
theorem car1 : (⟨#[32, 99, 97, 114, 112, 101, 116, 44, 32]⟩ : ByteArray) = ⟨#[32, 99, 97, 114, 112, 101, 116]⟩ ++ ⟨#[44, 32]⟩ := by decide +kernel
theorem car2 : (⟨#[32, 99, 97, 114, 112, 101, 116, 115, 44, 32]⟩ : ByteArray) = ⟨#[32, 99, 97, 114, 112, 101, 116]⟩ ++ (⟨#[115]⟩ ++ ⟨#[44, 32]⟩) := by decide +kernel
theorem carT_size (c : Int) : (carT c).size ≤ 10 := by unfold carT; split <;> decide
theorem lineT_size (m c n p : Int) (hm : 0 ≤ m ∧ m ≤ 100000000000) (hc : 0 ≤ c ∧ c ≤ 100000000000) (hn : 0 ≤ n ∧ n ≤ 100000000000) (hp : -100000000000 ≤ p ∧ p ≤ 100000000000) : (lineT m c n p).size ≤ 200 := by
  have h1 := dec_size m (by omega) (by omega)
  have h2 := dec_size c (by omega) (by omega)
  have h3 := dec_size n (by omega) (by omega)
  have h4 := cT_size p (by omega)
  have h5 := carT_size c
  unfold lineT
  simp only [ByteArray.size_append', ByteArray.size_mk', List.size_toArray, List.length_cons, List.length_nil]
  omega
theorem okM_at {m c n h i s : Int} (hk : okM m c n h i s = true) : (1 ≤ m ∧ m ≤ 1200) ∧ (0 ≤ c ∧ c ≤ 99) ∧ (0 ≤ n ∧ n ≤ 9000000) ∧ (0 ≤ i ∧ i ≤ 100000000) ∧ (0 ≤ s ∧ s ≤ 100000000) := by
  have := of_decide_eq_true hk
  exact ⟨this.1, this.2.1, this.2.2.1, this.2.2.2.2.2.1, this.2.2.2.2.2.2⟩
theorem line_one (m c n p : Int) (h : c = 1) : lineT m c n p = (((((((⟨#[109, 111, 110, 116, 104, 32]⟩ ++ dec m) ++ ⟨#[58, 32]⟩) ++ dec c) ++ ⟨#[32, 99, 97, 114, 112, 101, 116]⟩) ++ ⟨#[44, 32]⟩) ++ dec n) ++ ⟨#[32, 107, 110, 111, 116, 115, 44, 32]⟩) ++ cT p := by
  unfold lineT carT
  rw [if_pos h, car1]
  simp only [ByteArray.append_assoc]
theorem line_many (m c n p : Int) (h : ¬ c = 1) : lineT m c n p = ((((((((⟨#[109, 111, 110, 116, 104, 32]⟩ ++ dec m) ++ ⟨#[58, 32]⟩) ++ dec c) ++ ⟨#[32, 99, 97, 114, 112, 101, 116]⟩) ++ ⟨#[115]⟩) ++ ⟨#[44, 32]⟩) ++ dec n) ++ ⟨#[32, 107, 110, 111, 116, 115, 44, 32]⟩) ++ cT p := by
  unfold lineT carT
  rw [if_neg h, car2]
  simp only [ByteArray.append_assoc]
end Go.Proofs.YthmgiagecgkmiaaDoor.M

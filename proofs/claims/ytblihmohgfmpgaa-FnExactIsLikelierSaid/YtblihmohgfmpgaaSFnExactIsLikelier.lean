import Derived.Test.YtblihmohgfmpgaaQx7
import Derived.Test.YtblihmohgfmpgaaQOpn
namespace Go.Proofs.Ytblihmohgfmpgaa.Q
open Go.RowKit Go.Proofs.YtblihmohgfmpgaaW.PrintWords Go.Proofs.YtblihmohgfmpgaaW.PrintLast Go.Proofs.YtblihmohgfmpgaaW.PrintMore
attribute [local go_sem] max2_int min2_int max_two min_two max_three min_three max_four min_four   -- for this text's walks alone
set_option linter.unusedVariables false
set_option linter.unusedSimpArgs false

/-- THE ONE PURE STATEMENT of laws_FnExactIsLikelier. -/
def laws_FnExactIsLikelier.Pure : Prop := ∀ (l0 : List (S68)) (l1_0 : List Int) (a1_1 : Int) (a1_2 : Int) (a2 : Int) (a3 : Int), (l0.length ≤ maxLen ∧ ∀ x ∈ l0, g68 x) → g31 (⟨l1_0, a1_1, a1_2⟩ : S31) → (Lit.int .i64 a2).wf = true → (Lit.int .i64 a3).wf = true → ∃ k, laws_FnExactIsLikelier.f k l0 l1_0 a1_1 a1_2 a2 a3 = some true
theorem laws_FnExactIsLikelier.walk (P : laws_FnExactIsLikelier.Pure) (l0 : List (S68)) (l1_0 : List Int) (a1_1 : Int) (a1_2 : Int) (a2 : Int) (a3 : Int) (A0 : Option Addr) (c0 : Nat) (A1_0 : Option Addr) (c1_0 : Nat) (w : World) (hr0 : Kd.C k68 w A0 l0.length l0) (hc0 : l0.length ≤ c0) (hr1_0 : Kd.C (Kd.int .i64) w A1_0 l1_0.length l1_0) (hc1_0 : l1_0.length ≤ c1_0) (q0 : (l0.length ≤ maxLen ∧ ∀ x ∈ l0, g68 x)) (q1 : g31 (⟨l1_0, a1_1, a1_2⟩ : S31)) (q2 : (Lit.int .i64 a2).wf = true) (q3 : (Lit.int .i64 a3).wf = true) :
    Calls Try.prog 7 #[.slice A0 l0.length c0, .agg #[.slice A1_0 l1_0.length c1_0, .int .i64 a1_1, .int .i64 a1_2], .int .i64 a2, .int .i64 a3] w fun e w' => e = .returned (.bool true) ∧ Below w.heap.size w w' := by
  obtain ⟨k, h⟩ := P l0 l1_0 a1_1 a1_2 a2 a3 q0 q1 q2 q3
  refine (laws_FnExactIsLikelier.calls (k := k) (r := true) (w := w) (hr0 := hr0) (hc0 := hc0) (hr1_0 := hr1_0) (hc1_0 := hc1_0) (h := h)).mono ?_
  rintro e w' ⟨rfl, hd⟩
  exact ⟨rfl, hd⟩
end Go.Proofs.Ytblihmohgfmpgaa.Q

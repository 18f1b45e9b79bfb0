import Derived.Test.YtblihmohgfmpgaaQx3
import Derived.Test.YtblihmohgfmpgaaQOpn
namespace Go.Proofs.Ytblihmohgfmpgaa.Q
open Go.RowKit Go.Proofs.YtblihmohgfmpgaaW.PrintWords Go.Proofs.YtblihmohgfmpgaaW.PrintLast Go.Proofs.YtblihmohgfmpgaaW.PrintMore
attribute [local go_sem] max2_int min2_int max_two min_two max_three min_three max_four min_four   -- for this text's walks alone
set_option linter.unusedVariables false
set_option linter.unusedSimpArgs false

/-- THE ONE PURE STATEMENT of laws_FnExactAreSchools. -/
def laws_FnExactAreSchools.Pure : Prop := ∀ (l0 : List (S68)), (l0.length ≤ maxLen ∧ ∀ x ∈ l0, g68 x) → ∃ k, laws_FnExactAreSchools.f k l0 = some true
theorem laws_FnExactAreSchools.walk (P : laws_FnExactAreSchools.Pure) (l0 : List (S68)) (A0 : Option Addr) (c0 : Nat) (w : World) (hr0 : Kd.C k68 w A0 l0.length l0) (hc0 : l0.length ≤ c0) (q0 : (l0.length ≤ maxLen ∧ ∀ x ∈ l0, g68 x)) :
    Calls Try.prog 3 #[.slice A0 l0.length c0] w fun e w' => e = .returned (.bool true) ∧ Below w.heap.size w w' := by
  obtain ⟨k, h⟩ := P l0 q0
  refine (laws_FnExactAreSchools.calls (k := k) (r := true) (w := w) (hr0 := hr0) (hc0 := hc0) (h := h)).mono ?_
  rintro e w' ⟨rfl, hd⟩
  exact ⟨rfl, hd⟩
end Go.Proofs.Ytblihmohgfmpgaa.Q

import Derived.Test.YtacimfnaacdobaaQx4
import Derived.Test.YtacimfnaacdobaaQOpn
namespace Go.Proofs.Ytacimfnaacdobaa.Q
open Go.RowKit Go.Proofs.YtacimfnaacdobaaW.PrintWords Go.Proofs.YtacimfnaacdobaaW.PrintLast Go.Proofs.YtacimfnaacdobaaW.PrintMore
attribute [local go_sem] max2_int min2_int max_two min_two max_three min_three max_four min_four   -- for this text's walks alone
set_option linter.unusedVariables false
set_option linter.unusedSimpArgs false

/-- THE ONE PURE STATEMENT of laws_FnExactColorsUsed. -/
def laws_FnExactColorsUsed.Pure : Prop := ∀ (l0 : List (S38)), (l0.length ≤ maxLen ∧ ∀ x ∈ l0, g38 x) → ∃ k, laws_FnExactColorsUsed.f k l0 = some true
theorem laws_FnExactColorsUsed.walk (P : laws_FnExactColorsUsed.Pure) (l0 : List (S38)) (A0 : Option Addr) (c0 : Nat) (w : World) (hr0 : Kd.C k38 w A0 l0.length l0) (hc0 : l0.length ≤ c0) (q0 : (l0.length ≤ maxLen ∧ ∀ x ∈ l0, g38 x)) :
    Calls Try.prog 4 #[.slice A0 l0.length c0] w fun e w' => e = .returned (.bool true) ∧ Below w.heap.size w w' := by
  obtain ⟨k, h⟩ := P l0 q0
  refine (laws_FnExactColorsUsed.calls (k := k) (r := true) (w := w) (hr0 := hr0) (hc0 := hc0) (h := h)).mono ?_
  rintro e w' ⟨rfl, hd⟩
  exact ⟨rfl, hd⟩
end Go.Proofs.Ytacimfnaacdobaa.Q

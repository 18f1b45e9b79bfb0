import Derived.Test.YtcgpibbbkdhpeaaQx3
import Derived.Test.YtcgpibbbkdhpeaaQOpn
namespace Go.Proofs.Ytcgpibbbkdhpeaa.Q
open Go.RowKit Go.Proofs.YtcgpibbbkdhpeaaW.PrintWords Go.Proofs.YtcgpibbbkdhpeaaW.PrintLast Go.Proofs.YtcgpibbbkdhpeaaW.PrintMore
attribute [local go_sem] max2_int min2_int max_two min_two max_three min_three max_four min_four   -- for this text's walks alone
set_option linter.unusedVariables false
set_option linter.unusedSimpArgs false

/-- THE ONE PURE STATEMENT of laws_FnExactAreJobs. -/
def laws_FnExactAreJobs.Pure : Prop := ∀ (l0 : List (S57)), (l0.length ≤ maxLen ∧ ∀ x ∈ l0, g57 x) → ∃ k, laws_FnExactAreJobs.f k l0 = some true
theorem laws_FnExactAreJobs.walk (P : laws_FnExactAreJobs.Pure) (l0 : List (S57)) (A0 : Option Addr) (c0 : Nat) (w : World) (hr0 : Kd.C k57 w A0 l0.length l0) (hc0 : l0.length ≤ c0) (q0 : (l0.length ≤ maxLen ∧ ∀ x ∈ l0, g57 x)) :
    Calls Try.prog 3 #[.slice A0 l0.length c0] w fun e w' => e = .returned (.bool true) ∧ Below w.heap.size w w' := by
  obtain ⟨k, h⟩ := P l0 q0
  refine (laws_FnExactAreJobs.calls (k := k) (r := true) (w := w) (hr0 := hr0) (hc0 := hc0) (h := h)).mono ?_
  rintro e w' ⟨rfl, hd⟩
  exact ⟨rfl, hd⟩
end Go.Proofs.Ytcgpibbbkdhpeaa.Q

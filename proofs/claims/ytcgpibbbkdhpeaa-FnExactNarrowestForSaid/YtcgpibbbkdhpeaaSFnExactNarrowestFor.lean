import Derived.Test.YtcgpibbbkdhpeaaQx5
import Derived.Test.YtcgpibbbkdhpeaaQOpn
namespace Go.Proofs.Ytcgpibbbkdhpeaa.Q
open Go.RowKit Go.Proofs.YtcgpibbbkdhpeaaW.PrintWords Go.Proofs.YtcgpibbbkdhpeaaW.PrintLast Go.Proofs.YtcgpibbbkdhpeaaW.PrintMore
attribute [local go_sem] max2_int min2_int max_two min_two max_three min_three max_four min_four   -- for this text's walks alone
set_option linter.unusedVariables false
set_option linter.unusedSimpArgs false

/-- THE ONE PURE STATEMENT of laws_FnExactNarrowestFor. -/
def laws_FnExactNarrowestFor.Pure : Prop := ∀ (l0 : List (S57)) (l1 : List Int), (l0.length ≤ maxLen ∧ ∀ x ∈ l0, g57 x) → (l1.length ≤ maxLen ∧ ∀ x ∈ l1, (Lit.int .i64 x).wf = true) → ∃ k, laws_FnExactNarrowestFor.f k l0 l1 = some true
theorem laws_FnExactNarrowestFor.walk (P : laws_FnExactNarrowestFor.Pure) (l0 : List (S57)) (l1 : List Int) (A0 : Option Addr) (c0 : Nat) (A1 : Option Addr) (c1 : Nat) (w : World) (hr0 : Kd.C k57 w A0 l0.length l0) (hc0 : l0.length ≤ c0) (hr1 : Kd.C (Kd.int .i64) w A1 l1.length l1) (hc1 : l1.length ≤ c1) (q0 : (l0.length ≤ maxLen ∧ ∀ x ∈ l0, g57 x)) (q1 : (l1.length ≤ maxLen ∧ ∀ x ∈ l1, (Lit.int .i64 x).wf = true)) :
    Calls Try.prog 5 #[.slice A0 l0.length c0, .slice A1 l1.length c1] w fun e w' => e = .returned (.bool true) ∧ Below w.heap.size w w' := by
  obtain ⟨k, h⟩ := P l0 l1 q0 q1
  refine (laws_FnExactNarrowestFor.calls (k := k) (r := true) (w := w) (hr0 := hr0) (hc0 := hc0) (hr1 := hr1) (hc1 := hc1) (h := h)).mono ?_
  rintro e w' ⟨rfl, hd⟩
  exact ⟨rfl, hd⟩
end Go.Proofs.Ytcgpibbbkdhpeaa.Q

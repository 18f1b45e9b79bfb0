import Derived.Test.YtmhiaggpnkihcaaQx5
import Derived.Test.YtmhiaggpnkihcaaQOpn
namespace Go.Proofs.Ytmhiaggpnkihcaa.Q
open Go.RowKit Go.Proofs.YtmhiaggpnkihcaaW.PrintWords Go.Proofs.YtmhiaggpnkihcaaW.PrintLast Go.Proofs.YtmhiaggpnkihcaaW.PrintMore
attribute [local go_sem] max2_int min2_int max_two min_two max_three min_three max_four min_four   -- for this text's walks alone
set_option linter.unusedVariables false
set_option linter.unusedSimpArgs false

/-- THE ONE PURE STATEMENT of laws_FnExactRowsLeft. -/
def laws_FnExactRowsLeft.Pure : Prop := ∀ (a0_0 : Int) (a0_1 : Int) (l0_2 : List (S57)) (a0_3 : Int), g32 (⟨a0_0, a0_1, l0_2, a0_3⟩ : S32) → ∃ k, laws_FnExactRowsLeft.f k a0_0 a0_1 l0_2 a0_3 = some true
theorem laws_FnExactRowsLeft.walk (P : laws_FnExactRowsLeft.Pure) (a0_0 : Int) (a0_1 : Int) (l0_2 : List (S57)) (a0_3 : Int) (A0_2 : Option Addr) (c0_2 : Nat) (w : World) (hr0_2 : Kd.C k57 w A0_2 l0_2.length l0_2) (hc0_2 : l0_2.length ≤ c0_2) (q0 : g32 (⟨a0_0, a0_1, l0_2, a0_3⟩ : S32)) :
    Calls Try.prog 5 #[.agg #[.int .i64 a0_0, .int .i64 a0_1, .slice A0_2 l0_2.length c0_2, .int .i64 a0_3]] w fun e w' => e = .returned (.bool true) ∧ Below w.heap.size w w' := by
  obtain ⟨k, h⟩ := P a0_0 a0_1 l0_2 a0_3 q0
  refine (laws_FnExactRowsLeft.calls (k := k) (r := true) (w := w) (hr0_2 := hr0_2) (hc0_2 := hc0_2) (h := h)).mono ?_
  rintro e w' ⟨rfl, hd⟩
  exact ⟨rfl, hd⟩
end Go.Proofs.Ytmhiaggpnkihcaa.Q

import Derived.Test.YthmgiagecgkmiaaQx3
import Derived.Test.YthmgiagecgkmiaaQOpn
namespace Go.Proofs.Ythmgiagecgkmiaa.Q
open Go.RowKit Go.Proofs.YthmgiagecgkmiaaW.PrintWords Go.Proofs.YthmgiagecgkmiaaW.PrintLast Go.Proofs.YthmgiagecgkmiaaW.PrintMore
attribute [local go_sem] max2_int min2_int max_two min_two max_three min_three max_four min_four   -- for this text's walks alone
set_option linter.unusedVariables false
set_option linter.unusedSimpArgs false

/-- THE ONE PURE STATEMENT of laws_FnExactIsMonthRow. -/
def laws_FnExactIsMonthRow.Pure : Prop := ∀ (a0_0 : Int) (a0_1 : Int) (a0_2 : Int) (a0_3 : Int) (a0_4 : Int) (a0_5 : Int), g23 (⟨a0_0, a0_1, a0_2, a0_3, a0_4, a0_5⟩ : S23) → ∃ k, laws_FnExactIsMonthRow.f k a0_0 a0_1 a0_2 a0_3 a0_4 a0_5 = some true
theorem laws_FnExactIsMonthRow.walk (P : laws_FnExactIsMonthRow.Pure) (a0_0 : Int) (a0_1 : Int) (a0_2 : Int) (a0_3 : Int) (a0_4 : Int) (a0_5 : Int)  (w : World)  (q0 : g23 (⟨a0_0, a0_1, a0_2, a0_3, a0_4, a0_5⟩ : S23)) :
    Calls Try.prog 3 #[.agg #[.int .i64 a0_0, .int .i64 a0_1, .int .i64 a0_2, .int .i64 a0_3, .int .i64 a0_4, .int .i64 a0_5]] w fun e w' => e = .returned (.bool true) ∧ Below w.heap.size w w' := by
  obtain ⟨k, h⟩ := P a0_0 a0_1 a0_2 a0_3 a0_4 a0_5 q0
  refine (laws_FnExactIsMonthRow.calls (k := k) (r := true) (w := w) (h := h)).mono ?_
  rintro e w' ⟨rfl, hd⟩
  exact ⟨rfl, hd⟩
end Go.Proofs.Ythmgiagecgkmiaa.Q

import Derived.Test.YtembbdhhpblapaaQx5
import Derived.Test.YtembbdhhpblapaaQOpn
namespace Go.Proofs.Ytembbdhhpblapaa.Q
open Go.RowKit Go.Proofs.YtembbdhhpblapaaW.PrintWords Go.Proofs.YtembbdhhpblapaaW.PrintLast Go.Proofs.YtembbdhhpblapaaW.PrintMore
attribute [local go_sem] max2_int min2_int max_two min_two max_three min_three max_four min_four   -- for this text's walks alone
set_option linter.unusedVariables false
set_option linter.unusedSimpArgs false

/-- THE ONE PURE STATEMENT of laws_FnExactBaseOf. -/
def laws_FnExactBaseOf.Pure : Prop := ∀ (a0_0 : Int) (a0_1 : Int) (a0_2 : Int) (a0_3 : Int) (a0_4 : Bool), g23 (⟨a0_0, a0_1, a0_2, a0_3, a0_4⟩ : S23) → laws_FnExactBaseOf.f a0_0 a0_1 a0_2 a0_3 a0_4 = some true
theorem laws_FnExactBaseOf.walk (P : laws_FnExactBaseOf.Pure) (a0_0 : Int) (a0_1 : Int) (a0_2 : Int) (a0_3 : Int) (a0_4 : Bool)  (w : World)  (q0 : g23 (⟨a0_0, a0_1, a0_2, a0_3, a0_4⟩ : S23)) :
    Calls Try.prog 5 #[.agg #[.int .i64 a0_0, .int .i64 a0_1, .int .i64 a0_2, .int .i64 a0_3, .bool a0_4]] w fun e w' => e = .returned (.bool true) ∧ Below w.heap.size w w' := by
  have h := P a0_0 a0_1 a0_2 a0_3 a0_4 q0
  refine (laws_FnExactBaseOf.calls (r := true) (w := w) (h := h)).mono ?_
  rintro e w' ⟨rfl, hd⟩
  exact ⟨rfl, hd⟩
end Go.Proofs.Ytembbdhhpblapaa.Q

import Derived.Test.YthmgiagecgkmiaaDoorQx0
import Derived.Test.YthmgiagecgkmiaaDoorQOpn
namespace Go.Proofs.YthmgiagecgkmiaaDoor.Q
open Go.RowKit Go.Proofs.YthmgiagecgkmiaaDoorW.PrintWords Go.Proofs.YthmgiagecgkmiaaDoorW.PrintLast Go.Proofs.YthmgiagecgkmiaaDoorW.PrintMore
attribute [local go_sem] max2_int min2_int max_two min_two max_three min_three max_four min_four   -- for this text's walks alone
set_option linter.unusedVariables false
set_option linter.unusedSimpArgs false

/-- What the walk of laws_FnExactMonthLine is to show. -/
def laws_FnExactMonthLine.Goal : Prop := ∀ (a0_0 : Int) (a0_1 : Int) (a0_2 : Int) (a0_3 : Int) (a0_4 : Int) (a0_5 : Int)  (w : World)  (q0 : g26 (⟨a0_0, a0_1, a0_2, a0_3, a0_4, a0_5⟩ : S26)),
    Calls Tryd.prog 4 #[.agg #[.int .i64 a0_0, .int .i64 a0_1, .int .i64 a0_2, .int .i64 a0_3, .int .i64 a0_4, .int .i64 a0_5]] w fun e w' => e = .returned (.bool true) ∧ Below w.heap.size w w'
end Go.Proofs.YthmgiagecgkmiaaDoor.Q

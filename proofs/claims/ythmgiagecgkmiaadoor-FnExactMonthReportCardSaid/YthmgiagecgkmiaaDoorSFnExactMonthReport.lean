import Derived.Test.YthmgiagecgkmiaaDoorQx0
import Derived.Test.YthmgiagecgkmiaaDoorQOpn
namespace Go.Proofs.YthmgiagecgkmiaaDoor.Q
open Go.RowKit Go.Proofs.YthmgiagecgkmiaaDoorW.PrintWords Go.Proofs.YthmgiagecgkmiaaDoorW.PrintLast Go.Proofs.YthmgiagecgkmiaaDoorW.PrintMore
attribute [local go_sem] max2_int min2_int max_two min_two max_three min_three max_four min_four   -- for this text's walks alone
set_option linter.unusedVariables false
set_option linter.unusedSimpArgs false

/-- What the walk of laws_FnExactMonthReport is to show. -/
def laws_FnExactMonthReport.Goal : Prop := ∀ (l0 : List (S26)) (A0 : Option Addr) (c0 : Nat) (w : World) (hr0 : Kd.C k26 w A0 l0.length l0) (hc0 : l0.length ≤ c0) (q0 : (l0.length ≤ maxLen ∧ ∀ x ∈ l0, g26 x)),
    Calls Tryd.prog 5 #[.slice A0 l0.length c0] w fun e w' => e = .returned (.bool true) ∧ Below w.heap.size w w'
end Go.Proofs.YthmgiagecgkmiaaDoor.Q

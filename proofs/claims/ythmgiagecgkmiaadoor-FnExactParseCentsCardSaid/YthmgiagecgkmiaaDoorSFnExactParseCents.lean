import Derived.Test.YthmgiagecgkmiaaDoorQx0
import Derived.Test.YthmgiagecgkmiaaDoorQOpn
namespace Go.Proofs.YthmgiagecgkmiaaDoor.Q
open Go.RowKit Go.Proofs.YthmgiagecgkmiaaDoorW.PrintWords Go.Proofs.YthmgiagecgkmiaaDoorW.PrintLast Go.Proofs.YthmgiagecgkmiaaDoorW.PrintMore
attribute [local go_sem] max2_int min2_int max_two min_two max_three min_three max_four min_four   -- for this text's walks alone
set_option linter.unusedVariables false
set_option linter.unusedSimpArgs false

/-- What the walk of laws_FnExactParseCents is to show. -/
def laws_FnExactParseCents.Goal : Prop := ∀ (a0 : ByteArray)  (w : World)  (q0 : a0.size ≤ maxLen),
    Calls Tryd.prog 6 #[.string a0] w fun e w' => e = .returned (.bool true) ∧ Below w.heap.size w w'
end Go.Proofs.YthmgiagecgkmiaaDoor.Q

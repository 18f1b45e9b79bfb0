import Derived.Test.YtembbdhhpblapaaQx0
import Derived.Test.YtembbdhhpblapaaQOpn
namespace Go.Proofs.Ytembbdhhpblapaa.Q
open Go.RowKit Go.Proofs.YtembbdhhpblapaaW.PrintWords Go.Proofs.YtembbdhhpblapaaW.PrintLast Go.Proofs.YtembbdhhpblapaaW.PrintMore
attribute [local go_sem] max2_int min2_int max_two min_two max_three min_three max_four min_four   -- for this text's walks alone
set_option linter.unusedVariables false
set_option linter.unusedSimpArgs false

/-- What the walk of laws_FnExactYearMeans is to show. -/
def laws_FnExactYearMeans.Goal : Prop := ∀ (l0 : List (S36)) (A0 : Option Addr) (c0 : Nat) (w : World) (hr0 : Kd.C k36 w A0 l0.length l0) (hc0 : l0.length ≤ c0) (q0 : (l0.length ≤ maxLen ∧ ∀ x ∈ l0, g36 x)),
    Calls Try.prog 11 #[.slice A0 l0.length c0] w fun e w' => e = .returned (.bool true) ∧ Below w.heap.size w w'
end Go.Proofs.Ytembbdhhpblapaa.Q

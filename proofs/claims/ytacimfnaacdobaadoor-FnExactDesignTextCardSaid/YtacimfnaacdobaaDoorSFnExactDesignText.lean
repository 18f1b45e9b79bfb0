import Derived.Test.YtacimfnaacdobaaDoorQx0
import Derived.Test.YtacimfnaacdobaaDoorQOpn
namespace Go.Proofs.YtacimfnaacdobaaDoor.Q
open Go.RowKit Go.Proofs.YtacimfnaacdobaaDoorW.PrintWords Go.Proofs.YtacimfnaacdobaaDoorW.PrintLast Go.Proofs.YtacimfnaacdobaaDoorW.PrintMore
attribute [local go_sem] max2_int min2_int max_two min_two max_three min_three max_four min_four   -- for this text's walks alone
set_option linter.unusedVariables false
set_option linter.unusedSimpArgs false

/-- What the walk of laws_FnExactDesignText is to show. -/
def laws_FnExactDesignText.Goal : Prop := ∀ (l0 : List (S46)) (A0 : Option Addr) (c0 : Nat) (w : World) (hr0 : Kd.C k46 w A0 l0.length l0) (hc0 : l0.length ≤ c0) (q0 : (l0.length ≤ maxLen ∧ ∀ x ∈ l0, g46 x)),
    Calls Tryd.prog 4 #[.slice A0 l0.length c0] w fun e w' => e = .returned (.bool true) ∧ Below w.heap.size w w'
end Go.Proofs.YtacimfnaacdobaaDoor.Q

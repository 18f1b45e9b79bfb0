import Derived.Test.YtkglpfdoefdhdaaQx0
import Derived.Test.YtkglpfdoefdhdaaQOpn
namespace Go.Proofs.Ytkglpfdoefdhdaa.Q
open Go.RowKit Go.Proofs.YtkglpfdoefdhdaaW.PrintWords Go.Proofs.YtkglpfdoefdhdaaW.PrintLast Go.Proofs.YtkglpfdoefdhdaaW.PrintMore
attribute [local go_sem] max2_int min2_int max_two min_two max_three min_three max_four min_four   -- for this text's walks alone
set_option linter.unusedVariables false
set_option linter.unusedSimpArgs false

/-- What the walk of laws_FnExactShareKnots is to show. -/
def laws_FnExactShareKnots.Goal : Prop := ∀ (a0_0 : Int) (a0_1 : Int) (l0_2 : List Int) (l1 : List (S73)) (A0_2 : Option Addr) (c0_2 : Nat) (A1 : Option Addr) (c1 : Nat) (w : World) (hr0_2 : Kd.C (Kd.int .i64) w A0_2 l0_2.length l0_2) (hc0_2 : l0_2.length ≤ c0_2) (hr1 : Kd.C k73 w A1 l1.length l1) (hc1 : l1.length ≤ c1) (q0 : g46 (⟨a0_0, a0_1, l0_2⟩ : S46)) (q1 : (l1.length ≤ maxLen ∧ ∀ x ∈ l1, g73 x)),
    Calls Try.prog 6 #[.agg #[.int .i64 a0_0, .int .i64 a0_1, .slice A0_2 l0_2.length c0_2], .slice A1 l1.length c1] w fun e w' => e = .returned (.bool true) ∧ Below w.heap.size w w'
end Go.Proofs.Ytkglpfdoefdhdaa.Q

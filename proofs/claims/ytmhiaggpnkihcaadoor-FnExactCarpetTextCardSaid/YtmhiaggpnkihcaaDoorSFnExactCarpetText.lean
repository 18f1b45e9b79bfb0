import Derived.Test.YtmhiaggpnkihcaaDoorQx0
import Derived.Test.YtmhiaggpnkihcaaDoorQOpn
namespace Go.Proofs.YtmhiaggpnkihcaaDoor.Q
open Go.RowKit Go.Proofs.YtmhiaggpnkihcaaDoorW.PrintWords Go.Proofs.YtmhiaggpnkihcaaDoorW.PrintLast Go.Proofs.YtmhiaggpnkihcaaDoorW.PrintMore
attribute [local go_sem] max2_int min2_int max_two min_two max_three min_three max_four min_four   -- for this text's walks alone
set_option linter.unusedVariables false
set_option linter.unusedSimpArgs false

/-- What the walk of laws_FnExactCarpetText is to show. -/
def laws_FnExactCarpetText.Goal : Prop := ∀ (a0_0 : Int) (a0_1 : Int) (l0_2 : List (S48)) (a0_3 : Int) (a1 : Int) (A0_2 : Option Addr) (c0_2 : Nat) (w : World) (hr0_2 : Kd.C k48 w A0_2 l0_2.length l0_2) (hc0_2 : l0_2.length ≤ c0_2) (q0 : g24 (⟨a0_0, a0_1, l0_2, a0_3⟩ : S24)) (q1 : (Lit.int .i64 a1).wf = true),
    Calls Tryd.prog 3 #[.agg #[.int .i64 a0_0, .int .i64 a0_1, .slice A0_2 l0_2.length c0_2, .int .i64 a0_3], .int .i64 a1] w fun e w' => e = .returned (.bool true) ∧ Below w.heap.size w w'
end Go.Proofs.YtmhiaggpnkihcaaDoor.Q

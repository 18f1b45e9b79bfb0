/- The program's ShareKnots returns what the reference's returns, for all arguments: no condition. -/
import Derived.Test.YtkglpfdoefdhdaaSFnExactShareKnots
import Derived.Test.YtkglpfdoefdhdaaXSK
namespace Go.Proofs.Ytkglpfdoefdhdaa.Wk
open Go Go.RowKit Go.Proofs.Ytkglpfdoefdhdaa.Q Go.Proofs.Ytkglpfdoefdhdaa.WK Go.Proofs.YtkglpfdoefdhdaaW.PrintWords
theorem FnExactShareKnots : laws_FnExactShareKnots.Goal := fun wd ht cs l0 A0 c0 A1 c1 w hr0 hc0 hr1 hc1 q0 q1 => SK.full wd ht cs l0 A0 c0 A1 c1 w hr0 hc0 hr1 hc1 q0.2.2.1 q1.1
end Go.Proofs.Ytkglpfdoefdhdaa.Wk

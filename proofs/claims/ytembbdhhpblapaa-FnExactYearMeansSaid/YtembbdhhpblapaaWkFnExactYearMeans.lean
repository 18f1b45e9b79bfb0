/- The program's YearMeans returns what the reference's returns, for all arguments: no condition. -/
import Derived.Test.YtembbdhhpblapaaSFnExactYearMeans
import Derived.Test.YtembbdhhpblapaaXYM
namespace Go.Proofs.Ytembbdhhpblapaa.Wk
open Go Go.RowKit Go.Proofs.Ytembbdhhpblapaa.Q Go.Proofs.Ytembbdhhpblapaa.WK Go.Proofs.YtembbdhhpblapaaW.PrintWords
theorem FnExactYearMeans : laws_FnExactYearMeans.Goal := fun l0 A0 c0 w hr0 hc0 q0 => YM.full l0 A0 c0 w hr0 hc0 q0.1
end Go.Proofs.Ytembbdhhpblapaa.Wk

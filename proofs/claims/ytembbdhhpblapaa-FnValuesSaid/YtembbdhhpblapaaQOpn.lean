import Derived.Test.YtembbdhhpblapaaQx0
import Derived.Test.YtembbdhhpblapaaWOpen
import Derived.KernelRfl
namespace Go.Proofs.Ytembbdhhpblapaa.Q
open Go.RowKit Go.Proofs.YtembbdhhpblapaaW.PrintWords Go.Proofs.YtembbdhhpblapaaW.PrintLast Go.Proofs.YtembbdhhpblapaaW.PrintMore
attribute [local go_sem] max2_int min2_int max_two min_two max_three min_three max_four min_four   -- for this text's walks alone
set_option linter.unusedVariables false
set_option linter.unusedSimpArgs false

open Go.Proofs.YtembbdhhpblapaaW.Open
end Go.Proofs.Ytembbdhhpblapaa.Q

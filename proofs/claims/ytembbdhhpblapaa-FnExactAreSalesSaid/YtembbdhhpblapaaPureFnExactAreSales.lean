/- The program's AreSales returns what the reference's returns, for every list of sales: no condition. -/
import Derived.Test.YtembbdhhpblapaaSFnExactAreSales
import Derived.Test.YtembbdhhpblapaaMC
namespace Go.Proofs.Ytembbdhhpblapaa.Pure
open Go.RowKit Go.Proofs.Ytembbdhhpblapaa.Q Go.Proofs.Ytembbdhhpblapaa.M

theorem FnExactAreSales : laws_FnExactAreSales.Pure := by
  intro l ⟨hm, _⟩
  refine ⟨l.length + 1, ?_⟩
  unfold laws_FnExactAreSales.f spec_AreSales.f
  obtain ⟨r, hr, hs⟩ := szSales l hm
  rw [hr]
  simp only [Option.bind_some]
  by_cases h : 1048576 < l.length
  · rw [if_pos (hs.2 h)]
  · rw [if_neg (fun h2 => h (hs.1 h2)), toSales l (by omega) _ (by omega)]
    simp only [Option.bind_some]
    rw [sGood _ (by simp; omega) _ (by simp), iGood _ (by simp; omega) _ (by simp), eqSales _ (by simp; omega) _ (by simp)]
    simp
end Go.Proofs.Ytembbdhhpblapaa.Pure

/- The program's IsMonthRow returns what the reference's returns, for every row: no condition. -/
import Derived.Test.YthmgiagecgkmiaaSFnExactIsMonthRow
import Derived.Test.YthmgiagecgkmiaaMA
namespace Go.Proofs.Ythmgiagecgkmiaa.Pure
open Go.RowKit Go.Proofs.Ythmgiagecgkmiaa.Q Go.Proofs.Ythmgiagecgkmiaa.M

theorem FnExactIsMonthRow : laws_FnExactIsMonthRow.Pure := by
  intro m c n h i s _
  refine ⟨1, ?_⟩
  unfold laws_FnExactIsMonthRow.f spec_IsMonthRow.f laws_toMonthRow.f
  simp [l26One, iRow]
end Go.Proofs.Ythmgiagecgkmiaa.Pure

import Derived.Test.YthmgiagecgkmiaaDoorSFnExactMonthLine
import Derived.Test.YthmgiagecgkmiaaDoorMTM
namespace Go.Proofs.YthmgiagecgkmiaaDoor.Wk
open Go Go.RowKit Go.Proofs.YthmgiagecgkmiaaDoor.Q Go.Proofs.YthmgiagecgkmiaaDoor.M Go.Proofs.YthmgiagecgkmiaaDoorW.PrintWords Go.Proofs.YthmgiagecgkmiaaDoorW.Pl Go.Proofs.YthmgiagecgkmiaaDoor.WK.Txt
/-- For every row: the program's line is the reference's. -/
theorem FnExactMonthLine (m c n h i s : Int) (w : World) {G : Prop} (_ : G) (htab : Lib.TabIs Tryd.prog w tabName .u64 Lib.pow10Tab) : Calls Tryd.prog 4 #[.agg #[.int .i64 m, .int .i64 c, .int .i64 n, .int .i64 h, .int .i64 i, .int .i64 s]] w fun e w' => e = .returned (.bool true) ∧ Below w.heap.size w w' := by
  exact lawLine m c n h i s _ _ (fun w => sMonthLine_ m c n h i s w) (fun w ht => line_ m c n h i s w ht) w htab
end Go.Proofs.YthmgiagecgkmiaaDoor.Wk

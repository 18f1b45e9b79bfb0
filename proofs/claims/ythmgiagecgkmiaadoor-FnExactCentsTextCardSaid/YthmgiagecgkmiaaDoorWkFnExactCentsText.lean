import Derived.Test.YthmgiagecgkmiaaDoorSFnExactCentsText
import Derived.Test.YthmgiagecgkmiaaDoorMTX
namespace Go.Proofs.YthmgiagecgkmiaaDoor.Wk
open Go Go.RowKit Go.Proofs.YthmgiagecgkmiaaDoor.Q Go.Proofs.YthmgiagecgkmiaaDoor.M Go.Proofs.YthmgiagecgkmiaaDoorW.PrintWords Go.Proofs.YthmgiagecgkmiaaDoorW.Pl Go.Proofs.YthmgiagecgkmiaaDoor.WK.Txt
/-- For every number: the program's text of cents is the reference's. -/
theorem FnExactCentsText (n : Int) (w : World) (_ : (Lit.int .i64 n).wf = true) (htab : Lib.TabIs Tryd.prog w tabName .u64 Lib.pow10Tab) : Calls Tryd.prog 3 #[.int .i64 n] w fun e w' => e = .returned (.bool true) ∧ Below w.heap.size w w' := by
  by_cases h : -100000000 ≤ n ∧ n ≤ 100000000
  · exact lawCents n _ _ (fun w => sCentsT n h w) (fun w ht => CentsTextT n h w ht) w htab
  · exact lawCents n _ _ (fun w => sCentsF n h w) (fun w ht => CentsTextF n h w ht) w htab
end Go.Proofs.YthmgiagecgkmiaaDoor.Wk

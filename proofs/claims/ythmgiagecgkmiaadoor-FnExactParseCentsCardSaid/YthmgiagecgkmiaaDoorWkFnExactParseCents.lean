/- For every text: the program's cents are the reference's; no condition but what is laid. -/
import Derived.Test.YthmgiagecgkmiaaDoorSFnExactParseCents
import Derived.Test.YthmgiagecgkmiaaDoorMTC
import Derived.Test.YthmgiagecgkmiaaDoorMSX
namespace Go.Proofs.YthmgiagecgkmiaaDoor.Wk
open Go Go.RowKit Go.Proofs.YthmgiagecgkmiaaDoor.Q Go.Proofs.YthmgiagecgkmiaaDoor.M Go.Proofs.YthmgiagecgkmiaaDoorW.PrintWords Go.Proofs.YthmgiagecgkmiaaDoor.WK
theorem FnExactParseCents (s : ByteArray) (w : World) (_ : s.size ≤ maxLen) (hm : ∃ m, w.cell? ⟨0, 0, none⟩ = some (.int .i64 m)) (htab : Lib.TabIs Tryd.prog w Txt.tabName .u64 Lib.pow10Tab) : Calls Tryd.prog 6 #[.string s] w fun e w' => e = .returned (.bool true) ∧ Below w.heap.size w w' := by
  obtain ⟨m, hm⟩ := hm
  exact PCW.law6 s m w htab hm
end Go.Proofs.YthmgiagecgkmiaaDoor.Wk

-- Written by a program of this session (wip/tools/pp.sh); Lean checks it.
import Derived.Test.YthmgiagecgkmiaaDoorQx0
import Derived.Test.YthmgiagecgkmiaaDoorQx25
import Derived.Test.YthmgiagecgkmiaaDoorQx8888801
namespace Go.Proofs.YthmgiagecgkmiaaDoor.Q
open Go.RowKit Go.Proofs.YthmgiagecgkmiaaDoorW.PrintWords Go.Proofs.YthmgiagecgkmiaaDoorW.PrintLast Go.Proofs.YthmgiagecgkmiaaDoorW.PrintMore
attribute [local go_sem] max2_int min2_int max_two min_two max_three min_three max_four min_four   -- for this text's walks alone
set_option linter.unusedVariables false
set_option linter.unusedSimpArgs false

/-! ### impl_MonthRow_43__impl_IsMonthRow: function 1000043 -/
def impl_MonthRow_43__impl_IsMonthRow.f (l : List S28)  : Option Bool := (l.mapM (fun x : S28 => impl_IsMonthRow.f (x.f0) (x.f1) (x.f2) (x.f3) (x.f4) (x.f5))).map (fun bs => bs.all id)
theorem impl_MonthRow_43__impl_IsMonthRow.calls (A0 : Option Addr) (c0 : Nat) (l0 : List S28)  (r : Bool) (w : World) (hr0 : Kd.C k28 w A0 l0.length l0) (hc0 : l0.length ≤ c0)  (h : impl_MonthRow_43__impl_IsMonthRow.f l0  = some r) :
  Calls Tryd.prog 43 #[.slice A0 l0.length c0, .func (.func 25) #[] #[]] w fun e w' => e = .returned (.bool r) ∧ Below w.heap.size w w' := by
 obtain ⟨p, hp, rfl⟩ := all_pred h
 refine all_43 25 (enters_of Tryd.func25 (by kernel_rfl) rfl) p A0 c0 l0 w hr0 (fun x hx W cs hb hk => ?_)
 obtain rfl := k28_open hk
 exact (impl_IsMonthRow.calls (r := p x) (w := W) (h := hp x hx)).mono fun e w' hh => ⟨hh.1, hh.2⟩

end Go.Proofs.YthmgiagecgkmiaaDoor.Q

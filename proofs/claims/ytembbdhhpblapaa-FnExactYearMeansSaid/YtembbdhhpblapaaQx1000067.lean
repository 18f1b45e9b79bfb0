-- Written by a program of this session (wip/tools/pp.sh); Lean checks it.
import Derived.Test.YtembbdhhpblapaaQx0
import Derived.Test.YtembbdhhpblapaaQx61
import Derived.Test.YtembbdhhpblapaaQx8888801
namespace Go.Proofs.Ytembbdhhpblapaa.Q
open Go.RowKit Go.Proofs.YtembbdhhpblapaaW.PrintWords Go.Proofs.YtembbdhhpblapaaW.PrintLast Go.Proofs.YtembbdhhpblapaaW.PrintMore
attribute [local go_sem] max2_int min2_int max_two min_two max_three min_three max_four min_four   -- for this text's walks alone
set_option linter.unusedVariables false
set_option linter.unusedSimpArgs false

/-! ### impl_Sale_67__impl_isSale: function 1000067 -/
def impl_Sale_67__impl_isSale.f (l : List S40)  : Option Bool := (l.mapM (fun x : S40 => impl_isSale.f (x.f0) (x.f1.f0) (x.f1.f1) (x.f1.f2) (x.f1.f3) (x.f1.f4) (x.f2))).map (fun bs => bs.all id)
theorem impl_Sale_67__impl_isSale.calls (A0 : Option Addr) (c0 : Nat) (l0 : List S40)  (r : Bool) (w : World) (hr0 : Kd.C k40 w A0 l0.length l0) (hc0 : l0.length ≤ c0)  (h : impl_Sale_67__impl_isSale.f l0  = some r) :
  Calls Try.prog 67 #[.slice A0 l0.length c0, .func (.func 61) #[] #[]] w fun e w' => e = .returned (.bool r) ∧ Below w.heap.size w w' := by
 obtain ⟨p, hp, rfl⟩ := all_pred h
 refine all_67 61 (enters_of Try.func61 (by kernel_rfl) rfl) p A0 c0 l0 w hr0 (fun x hx W cs hb hk => ?_)
 obtain rfl := k40_open hk
 exact (impl_isSale.calls (r := p x) (w := W) (h := hp x hx)).mono fun e w' hh => ⟨hh.1, hh.2⟩

end Go.Proofs.Ytembbdhhpblapaa.Q

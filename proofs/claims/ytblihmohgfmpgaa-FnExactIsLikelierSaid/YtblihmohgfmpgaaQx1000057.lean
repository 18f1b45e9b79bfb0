-- Written by a program of this session (wip/tools/pp.sh); Lean checks it.
import Derived.Test.YtblihmohgfmpgaaQx0
import Derived.Test.YtblihmohgfmpgaaQx58
import Derived.Test.YtblihmohgfmpgaaQx8888801
namespace Go.Proofs.Ytblihmohgfmpgaa.Q
open Go.RowKit Go.Proofs.YtblihmohgfmpgaaW.PrintWords Go.Proofs.YtblihmohgfmpgaaW.PrintLast Go.Proofs.YtblihmohgfmpgaaW.PrintMore
attribute [local go_sem] max2_int min2_int max_two min_two max_three min_three max_four min_four   -- for this text's walks alone
set_option linter.unusedVariables false
set_option linter.unusedSimpArgs false

/-! ### impl_School_57__impl_School_isValid: function 1000057 -/
def impl_School_57__impl_School_isValid.f (l : List S69)  : Option Bool := (l.mapM (fun x : S69 => impl_School_isValid.f (x.f0) (x.f1) (x.f2) (x.f3))).map (fun bs => bs.all id)
theorem impl_School_57__impl_School_isValid.calls (A0 : Option Addr) (c0 : Nat) (l0 : List S69)  (r : Bool) (w : World) (hr0 : Kd.C k69 w A0 l0.length l0) (hc0 : l0.length ≤ c0)  (h : impl_School_57__impl_School_isValid.f l0  = some r) :
  Calls Try.prog 57 #[.slice A0 l0.length c0, .func (.func 58) #[] #[]] w fun e w' => e = .returned (.bool r) ∧ Below w.heap.size w w' := by
 obtain ⟨p, hp, rfl⟩ := all_pred h
 refine all_57 58 (enters_of Try.func58 (by kernel_rfl) rfl) p A0 c0 l0 w hr0 (fun x hx W cs hb hk => ?_)
 obtain ⟨A1_, c1_, rfl, hl1_, hg1_⟩ := k69_open hk
 exact (impl_School_isValid.calls (r := p x) (w := W) (hr0_1 := hg1_) (hc0_1 := hl1_) (h := hp x hx)).mono fun e w' hh => ⟨hh.1, hh.2⟩

end Go.Proofs.Ytblihmohgfmpgaa.Q

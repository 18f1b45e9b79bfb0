-- Written by a program of this session (wip/tools/pp.sh); Lean checks it.
import Derived.Test.YtacimfnaacdobaaDoorQx0
import Derived.Test.YtacimfnaacdobaaDoorQx34
import Derived.Test.YtacimfnaacdobaaDoorQx8888801
namespace Go.Proofs.YtacimfnaacdobaaDoor.Q
open Go.RowKit Go.Proofs.YtacimfnaacdobaaDoorW.PrintWords Go.Proofs.YtacimfnaacdobaaDoorW.PrintLast Go.Proofs.YtacimfnaacdobaaDoorW.PrintMore
attribute [local go_sem] max2_int min2_int max_two min_two max_three min_three max_four min_four   -- for this text's walks alone
set_option linter.unusedVariables false
set_option linter.unusedSimpArgs false

/-! ### impl_Design_33__impl_Design_isValid: function 1000033 -/
def impl_Design_33__impl_Design_isValid.f (k : Nat) (l : List S37)  : Option Bool := (l.mapM (fun x : S37 => impl_Design_isValid.f k (x.f0) (x.f1) (x.f2) (x.f3))).map (fun bs => bs.all id)
theorem impl_Design_33__impl_Design_isValid.mono : ∀ l  k, LeO (impl_Design_33__impl_Design_isValid.f k l ) (impl_Design_33__impl_Design_isValid.f (k + 1) l ) := by
 intro l  k
 exact all_mono (fun x => impl_Design_isValid.mono _ _ _ _  k) l
theorem impl_Design_33__impl_Design_isValid.calls (k : Nat) (A0 : Option Addr) (c0 : Nat) (l0 : List S37)  (r : Bool) (w : World) (hr0 : Kd.C k37 w A0 l0.length l0) (hc0 : l0.length ≤ c0)  (h : impl_Design_33__impl_Design_isValid.f k l0  = some r) :
  Calls Tryd.prog 33 #[.slice A0 l0.length c0, .func (.func 34) #[] #[]] w fun e w' => e = .returned (.bool r) ∧ Below w.heap.size w w' := by
 obtain ⟨p, hp, rfl⟩ := all_pred h
 refine all_33 34 (enters_of Tryd.func34 (by kernel_rfl) rfl) p A0 c0 l0 w hr0 (fun x hx W cs hb hk => ?_)
 obtain rfl := k37_open hk
 exact (impl_Design_isValid.calls (k := k) (r := p x) (w := W) (h := hp x hx)).mono fun e w' hh => ⟨hh.1, hh.2⟩

end Go.Proofs.YtacimfnaacdobaaDoor.Q

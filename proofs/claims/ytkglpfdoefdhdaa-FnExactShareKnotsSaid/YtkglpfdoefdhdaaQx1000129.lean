-- Written by a program of this session (wip/tools/pp.sh); Lean checks it.
import Derived.Test.YtkglpfdoefdhdaaQx0
import Derived.Test.YtkglpfdoefdhdaaQx130
import Derived.Test.YtkglpfdoefdhdaaQx8888801
namespace Go.Proofs.Ytkglpfdoefdhdaa.Q
open Go.RowKit Go.Proofs.YtkglpfdoefdhdaaW.PrintWords Go.Proofs.YtkglpfdoefdhdaaW.PrintLast Go.Proofs.YtkglpfdoefdhdaaW.PrintMore
attribute [local go_sem] max2_int min2_int max_two min_two max_three min_three max_four min_four   -- for this text's walks alone
set_option linter.unusedVariables false
set_option linter.unusedSimpArgs false

/-! ### impl_Hole_129__impl_Chart_isHole: function 1000129 -/
def impl_Hole_129__impl_Chart_isHole.f (l : List S76) (a1_0 : Int) (a1_1 : Int) (l1_2 : List Int) : Option Bool := (l.mapM (fun x : S76 => impl_Chart_isHole.f a1_0 a1_1 l1_2 (x.f0) (x.f1) (x.f2) (x.f3))).map (fun bs => bs.all id)
theorem impl_Hole_129__impl_Chart_isHole.calls (A0 : Option Addr) (c0 : Nat) (l0 : List S76) (a1_0 : Int) (a1_1 : Int) (A1_2 : Option Addr) (c1_2 : Nat) (l1_2 : List Int) (r : Bool) (w : World) (hr0 : Kd.C k76 w A0 l0.length l0) (hc0 : l0.length ≤ c0) (hr1_2 : Kd.C (Kd.int .i64) w A1_2 l1_2.length l1_2) (hc1_2 : l1_2.length ≤ c1_2) (h : impl_Hole_129__impl_Chart_isHole.f l0 a1_0 a1_1 l1_2 = some r) :
  Calls Try.prog 129 #[.slice A0 l0.length c0, .func (.func 130) #[.agg #[.int .i64 a1_0, .int .i64 a1_1, .slice A1_2 l1_2.length c1_2]] #[]] w fun e w' => e = .returned (.bool r) ∧ Below w.heap.size w w' := by
 obtain ⟨p, hp, rfl⟩ := all_pred h
 refine allb_129 130 (.agg #[.int .i64 a1_0, .int .i64 a1_1, .slice A1_2 l1_2.length c1_2]) (enters_of Try.func130 (by kernel_rfl) rfl) p A0 c0 l0 w hr0 (fun x hx W cs hb hk => ?_)
 obtain rfl := k76_open hk
 exact (impl_Chart_isHole.calls (r := p x) (w := W) (hr0_2 := Kd.C_below hr1_2 hb) (hc0_2 := hc1_2) (h := hp x hx)).mono fun e w' hh => ⟨hh.1, hh.2⟩

end Go.Proofs.Ytkglpfdoefdhdaa.Q

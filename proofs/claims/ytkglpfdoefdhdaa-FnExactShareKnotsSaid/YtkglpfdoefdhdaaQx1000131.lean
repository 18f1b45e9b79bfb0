-- Written by a program of this session (wip/tools/pp.sh); Lean checks it.
import Derived.Test.YtkglpfdoefdhdaaQx0
import Derived.Test.YtkglpfdoefdhdaaQx114
import Derived.Test.YtkglpfdoefdhdaaQx8888801
namespace Go.Proofs.Ytkglpfdoefdhdaa.Q
open Go.RowKit Go.Proofs.YtkglpfdoefdhdaaW.PrintWords Go.Proofs.YtkglpfdoefdhdaaW.PrintLast Go.Proofs.YtkglpfdoefdhdaaW.PrintMore
attribute [local go_sem] max2_int min2_int max_two min_two max_three min_three max_four min_four   -- for this text's walks alone
set_option linter.unusedVariables false
set_option linter.unusedSimpArgs false

/-! ### impl_Hole_131__impl_Hole_meets: function 1000131 -/
def impl_Hole_131__impl_Hole_meets.f (l : List S76) (a1_0 : Int) (a1_1 : Int) (a1_2 : Int) (a1_3 : Int) : Option Bool := (l.mapM (fun x : S76 => impl_Hole_meets.f a1_0 a1_1 a1_2 a1_3 (x.f0) (x.f1) (x.f2) (x.f3))).map (fun bs => bs.any id)
theorem impl_Hole_131__impl_Hole_meets.calls (A0 : Option Addr) (c0 : Nat) (l0 : List S76) (a1_0 : Int) (a1_1 : Int) (a1_2 : Int) (a1_3 : Int) (r : Bool) (w : World) (hr0 : Kd.C k76 w A0 l0.length l0) (hc0 : l0.length ≤ c0)  (h : impl_Hole_131__impl_Hole_meets.f l0 a1_0 a1_1 a1_2 a1_3 = some r) :
  Calls Try.prog 131 #[.slice A0 l0.length c0, .func (.func 114) #[.agg #[.int .i64 a1_0, .int .i64 a1_1, .int .i64 a1_2, .int .i64 a1_3]] #[]] w fun e w' => e = .returned (.bool r) ∧ Below w.heap.size w w' := by
 obtain ⟨p, hp, rfl⟩ := any_pred h
 refine conb_131 114 (.agg #[.int .i64 a1_0, .int .i64 a1_1, .int .i64 a1_2, .int .i64 a1_3]) #[] (enters_of Try.func114 (by kernel_rfl) rfl) p A0 c0 l0 w hr0 (fun x hx W cs hb hk => ?_)
 obtain rfl := k76_open hk
 exact (impl_Hole_meets.calls (r := p x) (w := W) (h := hp x hx)).mono fun e w' hh => ⟨hh.1, hh.2⟩

end Go.Proofs.Ytkglpfdoefdhdaa.Q

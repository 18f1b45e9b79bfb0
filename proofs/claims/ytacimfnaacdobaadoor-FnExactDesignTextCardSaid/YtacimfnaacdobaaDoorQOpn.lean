import Derived.Test.YtacimfnaacdobaaDoorQx0
import Derived.Test.YtacimfnaacdobaaDoorWOpen
import Derived.KernelRfl
namespace Go.Proofs.YtacimfnaacdobaaDoor.Q
open Go.RowKit Go.Proofs.YtacimfnaacdobaaDoorW.PrintWords Go.Proofs.YtacimfnaacdobaaDoorW.PrintLast Go.Proofs.YtacimfnaacdobaaDoorW.PrintMore
attribute [local go_sem] max2_int min2_int max_two min_two max_three min_three max_four min_four   -- for this text's walks alone
set_option linter.unusedVariables false
set_option linter.unusedSimpArgs false

open Go.Proofs.YtacimfnaacdobaaDoorW.Open
def g46 (x : S46) : Prop := (Lit.int .i64 x.f0).wf = true ∧ (Lit.int .i64 x.f1).wf = true ∧ (Lit.int .i64 x.f2).wf = true ∧ (Lit.int .i64 x.f3).wf = true
theorem opn46 : Opn Tryd.prog k46 46 g46 := by
  show Opn Tryd.prog (Kd.iso (Kd.pair (Kd.int .i64) (Kd.pair (Kd.int .i64) (Kd.pair (Kd.int .i64) (Kd.int .i64)))) (fun x : S46 => (x.f0, x.f1, x.f2, x.f3))) 46 (fun x : S46 => (andG (fun x => (Lit.int .i64 x).wf = true) (andG (fun x => (Lit.int .i64 x).wf = true) (andG (fun x => (Lit.int .i64 x).wf = true) (fun x => (Lit.int .i64 x).wf = true)))) ((fun x : S46 => (x.f0, x.f1, x.f2, x.f3)) x))
  refine Opn.iso (g := (andG (fun x => (Lit.int .i64 x).wf = true) (andG (fun x => (Lit.int .i64 x).wf = true) (andG (fun x => (Lit.int .i64 x).wf = true) (fun x => (Lit.int .i64 x).wf = true))))) (fun x : S46 => (x.f0, x.f1, x.f2, x.f3)) (fun a : Int × Int × Int × Int => (⟨a.1, a.2.1, a.2.2.1, a.2.2.2⟩ : S46)) (fun _ => rfl) ?_
  refine Opn.struct Tryd.underlying46 (n0 := 4) (by kernel_rfl) rfl ?_
  refine OpnF.cons (n0 := 1) rfl ?_ rfl ?_ ?_
  · kernel_rfl
  · exact (Opn.int Tryd.underlying3)
  refine OpnF.cons (n0 := 1) rfl ?_ rfl ?_ ?_
  · kernel_rfl
  · exact (Opn.int Tryd.underlying3)
  refine OpnF.cons (n0 := 1) rfl ?_ rfl ?_ ?_
  · kernel_rfl
  · exact (Opn.int Tryd.underlying3)
  refine OpnF.one (n0 := 1) rfl ?_ rfl ?_
  · kernel_rfl
  · exact (Opn.int Tryd.underlying3)
end Go.Proofs.YtacimfnaacdobaaDoor.Q

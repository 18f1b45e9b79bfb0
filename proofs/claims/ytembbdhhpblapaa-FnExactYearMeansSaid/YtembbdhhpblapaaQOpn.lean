import Derived.Test.YtembbdhhpblapaaQx0
import Derived.Test.YtembbdhhpblapaaWOpen
import Derived.KernelRfl
namespace Go.Proofs.Ytembbdhhpblapaa.Q
open Go.RowKit Go.Proofs.YtembbdhhpblapaaW.PrintWords Go.Proofs.YtembbdhhpblapaaW.PrintLast Go.Proofs.YtembbdhhpblapaaW.PrintMore
attribute [local go_sem] max2_int min2_int max_two min_two max_three min_three max_four min_four   -- for this text's walks alone
set_option linter.unusedVariables false
set_option linter.unusedSimpArgs false

open Go.Proofs.YtembbdhhpblapaaW.Open
def g23 (x : S23) : Prop := (Lit.int .i64 x.f0).wf = true ∧ (Lit.int .i64 x.f1).wf = true ∧ (Lit.int .i64 x.f2).wf = true ∧ (Lit.int .i64 x.f3).wf = true ∧ True
theorem opn23 : Opn Try.prog k23 23 g23 := by
  show Opn Try.prog (Kd.iso (Kd.pair (Kd.int .i64) (Kd.pair (Kd.int .i64) (Kd.pair (Kd.int .i64) (Kd.pair (Kd.int .i64) Kd.bool)))) (fun x : S23 => (x.f0, x.f1, x.f2, x.f3, x.f4))) 23 (fun x : S23 => (andG (fun x => (Lit.int .i64 x).wf = true) (andG (fun x => (Lit.int .i64 x).wf = true) (andG (fun x => (Lit.int .i64 x).wf = true) (andG (fun x => (Lit.int .i64 x).wf = true) (fun x => True))))) ((fun x : S23 => (x.f0, x.f1, x.f2, x.f3, x.f4)) x))
  refine Opn.iso (g := (andG (fun x => (Lit.int .i64 x).wf = true) (andG (fun x => (Lit.int .i64 x).wf = true) (andG (fun x => (Lit.int .i64 x).wf = true) (andG (fun x => (Lit.int .i64 x).wf = true) (fun x => True)))))) (fun x : S23 => (x.f0, x.f1, x.f2, x.f3, x.f4)) (fun a : Int × Int × Int × Int × Bool => (⟨a.1, a.2.1, a.2.2.1, a.2.2.2.1, a.2.2.2.2⟩ : S23)) (fun _ => rfl) ?_
  refine Opn.struct Try.underlying23 (n0 := 5) (by kernel_rfl) rfl ?_
  refine OpnF.cons (n0 := 1) rfl ?_ rfl ?_ ?_
  · kernel_rfl
  · exact (Opn.int Try.underlying3)
  refine OpnF.cons (n0 := 1) rfl ?_ rfl ?_ ?_
  · kernel_rfl
  · exact (Opn.int Try.underlying3)
  refine OpnF.cons (n0 := 1) rfl ?_ rfl ?_ ?_
  · kernel_rfl
  · exact (Opn.int Try.underlying3)
  refine OpnF.cons (n0 := 1) rfl ?_ rfl ?_ ?_
  · kernel_rfl
  · exact (Opn.int Try.underlying3)
  refine OpnF.one (n0 := 1) rfl ?_ rfl ?_
  · kernel_rfl
  · exact (Opn.bool Try.underlying4)
def g36 (x : S36) : Prop := (Lit.int .i64 x.f0).wf = true ∧ g23 x.f1 ∧ (Lit.int .i64 x.f2).wf = true
theorem opn36 : Opn Try.prog k36 36 g36 := by
  show Opn Try.prog (Kd.iso (Kd.pair (Kd.int .i64) (Kd.pair k23 (Kd.int .i64))) (fun x : S36 => (x.f0, x.f1, x.f2))) 36 (fun x : S36 => (andG (fun x => (Lit.int .i64 x).wf = true) (andG (fun x => g23 x) (fun x => (Lit.int .i64 x).wf = true))) ((fun x : S36 => (x.f0, x.f1, x.f2)) x))
  refine Opn.iso (g := (andG (fun x => (Lit.int .i64 x).wf = true) (andG (fun x => g23 x) (fun x => (Lit.int .i64 x).wf = true)))) (fun x : S36 => (x.f0, x.f1, x.f2)) (fun a : Int × S23 × Int => (⟨a.1, a.2.1, a.2.2⟩ : S36)) (fun _ => rfl) ?_
  refine Opn.struct Try.underlying36 (n0 := 7) (by kernel_rfl) rfl ?_
  refine OpnF.cons (n0 := 1) rfl ?_ rfl ?_ ?_
  · kernel_rfl
  · exact (Opn.int Try.underlying3)
  refine OpnF.cons (n0 := 5) rfl ?_ rfl ?_ ?_
  · kernel_rfl
  · exact opn23
  refine OpnF.one (n0 := 1) rfl ?_ rfl ?_
  · kernel_rfl
  · exact (Opn.int Try.underlying3)
end Go.Proofs.Ytembbdhhpblapaa.Q

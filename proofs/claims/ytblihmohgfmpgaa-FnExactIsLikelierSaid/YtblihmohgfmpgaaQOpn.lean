import Derived.Test.YtblihmohgfmpgaaQx0
import Derived.Test.YtblihmohgfmpgaaWOpen
import Derived.KernelRfl
namespace Go.Proofs.Ytblihmohgfmpgaa.Q
open Go.RowKit Go.Proofs.YtblihmohgfmpgaaW.PrintWords Go.Proofs.YtblihmohgfmpgaaW.PrintLast Go.Proofs.YtblihmohgfmpgaaW.PrintMore
attribute [local go_sem] max2_int min2_int max_two min_two max_three min_three max_four min_four   -- for this text's walks alone
set_option linter.unusedVariables false
set_option linter.unusedSimpArgs false

open Go.Proofs.YtblihmohgfmpgaaW.Open
def g68 (x : S68) : Prop := (Lit.int .i64 x.f0).wf = true ∧ (x.f1.length ≤ maxLen ∧ ∀ y ∈ x.f1, (Lit.int .i64 y).wf = true) ∧ (Lit.int .i64 x.f2).wf = true ∧ (Lit.int .i64 x.f3).wf = true
theorem opn68 : Opn Try.prog k68 68 g68 := by
  show Opn Try.prog (Kd.iso (Kd.pair (Kd.int .i64) (Kd.pair (Kd.slice 3 (Kd.int .i64)) (Kd.pair (Kd.int .i64) (Kd.int .i64)))) (fun x : S68 => (x.f0, x.f1, x.f2, x.f3))) 68 (fun x : S68 => (andG (fun x => (Lit.int .i64 x).wf = true) (andG (fun x => (x.length ≤ maxLen ∧ ∀ y ∈ x, (Lit.int .i64 y).wf = true)) (andG (fun x => (Lit.int .i64 x).wf = true) (fun x => (Lit.int .i64 x).wf = true)))) ((fun x : S68 => (x.f0, x.f1, x.f2, x.f3)) x))
  refine Opn.iso (g := (andG (fun x => (Lit.int .i64 x).wf = true) (andG (fun x => (x.length ≤ maxLen ∧ ∀ y ∈ x, (Lit.int .i64 y).wf = true)) (andG (fun x => (Lit.int .i64 x).wf = true) (fun x => (Lit.int .i64 x).wf = true))))) (fun x : S68 => (x.f0, x.f1, x.f2, x.f3)) (fun a : Int × (List Int) × Int × Int => (⟨a.1, a.2.1, a.2.2.1, a.2.2.2⟩ : S68)) (fun _ => rfl) ?_
  refine Opn.struct Try.underlying68 (n0 := 4) (by kernel_rfl) rfl ?_
  refine OpnF.cons (n0 := 1) rfl ?_ rfl ?_ ?_
  · kernel_rfl
  · exact (Opn.int Try.underlying3)
  refine OpnF.cons (n0 := 1) rfl ?_ rfl ?_ ?_
  · kernel_rfl
  · exact (Opn.slice Try.underlying29 (n0 := 1) (by kernel_rfl) rfl (Opn.int Try.underlying3))
  refine OpnF.cons (n0 := 1) rfl ?_ rfl ?_ ?_
  · kernel_rfl
  · exact (Opn.int Try.underlying3)
  refine OpnF.one (n0 := 1) rfl ?_ rfl ?_
  · kernel_rfl
  · exact (Opn.int Try.underlying3)
def g31 (x : S31) : Prop := (x.f0.length ≤ maxLen ∧ ∀ y ∈ x.f0, (Lit.int .i64 y).wf = true) ∧ (Lit.int .i64 x.f1).wf = true ∧ (Lit.int .i64 x.f2).wf = true
theorem opn31 : Opn Try.prog k31 31 g31 := by
  show Opn Try.prog (Kd.iso (Kd.pair (Kd.slice 3 (Kd.int .i64)) (Kd.pair (Kd.int .i64) (Kd.int .i64))) (fun x : S31 => (x.f0, x.f1, x.f2))) 31 (fun x : S31 => (andG (fun x => (x.length ≤ maxLen ∧ ∀ y ∈ x, (Lit.int .i64 y).wf = true)) (andG (fun x => (Lit.int .i64 x).wf = true) (fun x => (Lit.int .i64 x).wf = true))) ((fun x : S31 => (x.f0, x.f1, x.f2)) x))
  refine Opn.iso (g := (andG (fun x => (x.length ≤ maxLen ∧ ∀ y ∈ x, (Lit.int .i64 y).wf = true)) (andG (fun x => (Lit.int .i64 x).wf = true) (fun x => (Lit.int .i64 x).wf = true)))) (fun x : S31 => (x.f0, x.f1, x.f2)) (fun a : (List Int) × Int × Int => (⟨a.1, a.2.1, a.2.2⟩ : S31)) (fun _ => rfl) ?_
  refine Opn.struct Try.underlying31 (n0 := 3) (by kernel_rfl) rfl ?_
  refine OpnF.cons (n0 := 1) rfl ?_ rfl ?_ ?_
  · kernel_rfl
  · exact (Opn.slice Try.underlying29 (n0 := 1) (by kernel_rfl) rfl (Opn.int Try.underlying3))
  refine OpnF.cons (n0 := 1) rfl ?_ rfl ?_ ?_
  · kernel_rfl
  · exact (Opn.int Try.underlying3)
  refine OpnF.one (n0 := 1) rfl ?_ rfl ?_
  · kernel_rfl
  · exact (Opn.int Try.underlying3)
end Go.Proofs.Ytblihmohgfmpgaa.Q

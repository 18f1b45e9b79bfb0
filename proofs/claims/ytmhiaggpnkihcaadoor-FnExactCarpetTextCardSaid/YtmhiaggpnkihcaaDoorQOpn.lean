import Derived.Test.YtmhiaggpnkihcaaDoorQx0
import Derived.Test.YtmhiaggpnkihcaaDoorWOpen
import Derived.KernelRfl
namespace Go.Proofs.YtmhiaggpnkihcaaDoor.Q
open Go.RowKit Go.Proofs.YtmhiaggpnkihcaaDoorW.PrintWords Go.Proofs.YtmhiaggpnkihcaaDoorW.PrintLast Go.Proofs.YtmhiaggpnkihcaaDoorW.PrintMore
attribute [local go_sem] max2_int min2_int max_two min_two max_three min_three max_four min_four   -- for this text's walks alone
set_option linter.unusedVariables false
set_option linter.unusedSimpArgs false

open Go.Proofs.YtmhiaggpnkihcaaDoorW.Open
def g48 (x : S48) : Prop := (Lit.int .i64 x.f0).wf = true ∧ (Lit.int .i64 x.f1).wf = true ∧ (Lit.int .i64 x.f2).wf = true ∧ (Lit.int .i64 x.f3).wf = true ∧ (Lit.int .i64 x.f4).wf = true
theorem opn48 : Opn Tryd.prog k48 48 g48 := by
  show Opn Tryd.prog (Kd.iso (Kd.pair (Kd.int .i64) (Kd.pair (Kd.int .i64) (Kd.pair (Kd.int .i64) (Kd.pair (Kd.int .i64) (Kd.int .i64))))) (fun x : S48 => (x.f0, x.f1, x.f2, x.f3, x.f4))) 48 (fun x : S48 => (andG (fun x => (Lit.int .i64 x).wf = true) (andG (fun x => (Lit.int .i64 x).wf = true) (andG (fun x => (Lit.int .i64 x).wf = true) (andG (fun x => (Lit.int .i64 x).wf = true) (fun x => (Lit.int .i64 x).wf = true))))) ((fun x : S48 => (x.f0, x.f1, x.f2, x.f3, x.f4)) x))
  refine Opn.iso (g := (andG (fun x => (Lit.int .i64 x).wf = true) (andG (fun x => (Lit.int .i64 x).wf = true) (andG (fun x => (Lit.int .i64 x).wf = true) (andG (fun x => (Lit.int .i64 x).wf = true) (fun x => (Lit.int .i64 x).wf = true)))))) (fun x : S48 => (x.f0, x.f1, x.f2, x.f3, x.f4)) (fun a : Int × Int × Int × Int × Int => (⟨a.1, a.2.1, a.2.2.1, a.2.2.2.1, a.2.2.2.2⟩ : S48)) (fun _ => rfl) ?_
  refine Opn.struct Tryd.underlying48 (n0 := 5) (by kernel_rfl) rfl ?_
  refine OpnF.cons (n0 := 1) rfl ?_ rfl ?_ ?_
  · kernel_rfl
  · exact (Opn.int Tryd.underlying3)
  refine OpnF.cons (n0 := 1) rfl ?_ rfl ?_ ?_
  · kernel_rfl
  · exact (Opn.int Tryd.underlying3)
  refine OpnF.cons (n0 := 1) rfl ?_ rfl ?_ ?_
  · kernel_rfl
  · exact (Opn.int Tryd.underlying3)
  refine OpnF.cons (n0 := 1) rfl ?_ rfl ?_ ?_
  · kernel_rfl
  · exact (Opn.int Tryd.underlying3)
  refine OpnF.one (n0 := 1) rfl ?_ rfl ?_
  · kernel_rfl
  · exact (Opn.int Tryd.underlying3)
def g24 (x : S24) : Prop := (Lit.int .i64 x.f0).wf = true ∧ (Lit.int .i64 x.f1).wf = true ∧ (x.f2.length ≤ maxLen ∧ ∀ y ∈ x.f2, g48 y) ∧ (Lit.int .i64 x.f3).wf = true
theorem opn24 : Opn Tryd.prog k24 24 g24 := by
  show Opn Tryd.prog (Kd.iso (Kd.pair (Kd.int .i64) (Kd.pair (Kd.int .i64) (Kd.pair (Kd.slice 48 k48) (Kd.int .i64)))) (fun x : S24 => (x.f0, x.f1, x.f2, x.f3))) 24 (fun x : S24 => (andG (fun x => (Lit.int .i64 x).wf = true) (andG (fun x => (Lit.int .i64 x).wf = true) (andG (fun x => (x.length ≤ maxLen ∧ ∀ y ∈ x, g48 y)) (fun x => (Lit.int .i64 x).wf = true)))) ((fun x : S24 => (x.f0, x.f1, x.f2, x.f3)) x))
  refine Opn.iso (g := (andG (fun x => (Lit.int .i64 x).wf = true) (andG (fun x => (Lit.int .i64 x).wf = true) (andG (fun x => (x.length ≤ maxLen ∧ ∀ y ∈ x, g48 y)) (fun x => (Lit.int .i64 x).wf = true))))) (fun x : S24 => (x.f0, x.f1, x.f2, x.f3)) (fun a : Int × Int × (List (S48)) × Int => (⟨a.1, a.2.1, a.2.2.1, a.2.2.2⟩ : S24)) (fun _ => rfl) ?_
  refine Opn.struct Tryd.underlying24 (n0 := 4) (by kernel_rfl) rfl ?_
  refine OpnF.cons (n0 := 1) rfl ?_ rfl ?_ ?_
  · kernel_rfl
  · exact (Opn.int Tryd.underlying3)
  refine OpnF.cons (n0 := 1) rfl ?_ rfl ?_ ?_
  · kernel_rfl
  · exact (Opn.int Tryd.underlying3)
  refine OpnF.cons (n0 := 1) rfl ?_ rfl ?_ ?_
  · kernel_rfl
  · exact (Opn.slice Tryd.underlying22 (n0 := 5) (by kernel_rfl) rfl opn48)
  refine OpnF.one (n0 := 1) rfl ?_ rfl ?_
  · kernel_rfl
  · exact (Opn.int Tryd.underlying3)
end Go.Proofs.YtmhiaggpnkihcaaDoor.Q

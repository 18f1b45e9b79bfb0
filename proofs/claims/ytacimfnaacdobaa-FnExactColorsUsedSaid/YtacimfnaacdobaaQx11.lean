-- Written by a program of this session (wip/tools/pp.sh); Lean checks it.
import Derived.Test.YtacimfnaacdobaaXCU
import Derived.Test.YtacimfnaacdobaaQx0
import Derived.Test.YtacimfnaacdobaaQx8
namespace Go.Proofs.Ytacimfnaacdobaa.Q
open Go.RowKit Go.Proofs.YtacimfnaacdobaaW.PrintWords Go.Proofs.YtacimfnaacdobaaW.PrintLast Go.Proofs.YtacimfnaacdobaaW.PrintMore
attribute [local go_sem] max2_int min2_int max_two min_two max_three min_three max_four min_four   -- for this text's walks alone
set_option linter.unusedVariables false
set_option linter.unusedSimpArgs false

/-! ### impl_ColorsUsed: function 11 -/
def impl_ColorsUsed.f (k : Nat) (l0 : List (S36)) : Option (List Int × Bool) := (impl_IsProgram.f k l0).bind fun b => if b = true then (if l0.length ≤ 1048576 then some (Go.Lib.compact (Go.Proofs.YtacimfnaacdobaaW.SL.sortI (Go.Proofs.Ytacimfnaacdobaa.CU.Col.cols l0)), true) else none) else some ([], false)
theorem impl_ColorsUsed.mono : ∀ a0 k, LeO (impl_ColorsUsed.f k a0) (impl_ColorsUsed.f (k + 1) a0) := by
 intro a0 k
 unfold impl_ColorsUsed.f
 exact LeO.bind (impl_IsProgram.mono _ _) (fun _ => LeO.refl _)
theorem impl_ColorsUsed.calls (k : Nat) (A0 : Option Addr) (c0 : Nat) (l0 : List (S36)) (r1 : List Int) (r2 : Bool) (w : World) (hr0 : Kd.C k36 w A0 l0.length l0) (hc0 : l0.length ≤ c0) (h : impl_ColorsUsed.f k l0 = some (r1, r2)) :
  Calls Try.prog 11 #[.slice A0 l0.length c0] w fun e w' => ∃ v0_ : Value, e = .returned (.tuple #[v0_, .bool r2]) ∧ Kd.R (Kd.int .i64) 3 w' w.heap.size (fun _ => True) v0_ r1 ∧ Below w.heap.size w w' := by
 unfold impl_ColorsUsed.f at h
 obtain ⟨b, hb, h⟩ := Option.bind_eq_some_iff.1 h
 cases b with
 | true =>
  rw [if_pos rfl] at h
  split at h
  ·rename_i hl
   simp only [Option.some.injEq, Prod.mk.injEq] at h
   obtain ⟨rfl, rfl⟩ := h
   exact Go.Proofs.Ytacimfnaacdobaa.CU.Col.yes A0 c0 l0 w hr0 hl (fun W hW => impl_IsProgram.calls k A0 c0 l0 true W hW hc0 hb)
  ·cases h
 | false =>
  rw [if_neg (by simp)] at h
  simp only [Option.some.injEq, Prod.mk.injEq] at h
  obtain ⟨rfl, rfl⟩ := h
  exact Go.Proofs.Ytacimfnaacdobaa.CU.Col.no A0 c0 l0 w hr0 (fun W hW => impl_IsProgram.calls k A0 c0 l0 false W hW hc0 hb)


end Go.Proofs.Ytacimfnaacdobaa.Q

import Derived.Test.YtcgpibbbkdhpeaaMA
import Derived.Test.YtcgpibbbkdhpeaaSFnExactAreJobs
namespace Go.Proofs.Ytcgpibbbkdhpeaa.M
open Go.RowKit Go.Proofs.Ytcgpibbbkdhpeaa.Q Go.Proofs.YtcgpibbbkdhpeaaW.PrintWords Go.Proofs.YtcgpibbbkdhpeaaW.PrintLast Go.Proofs.YtcgpibbbkdhpeaaW.Pl Classical
set_option linter.unusedVariables false
theorem planBoth (l : List S51) (m p : List Int) (hl : l.length ≤ 1048576) (hm : m.length ≤ 1048576) (hp : p.length ≤ 1048576) : ∃ q : Bool × Bool, Ev (fun k => spec_IsLoomPlan.f k l m p) q ∧ Ev (fun k => impl_IsLoomPlan.f k l m p) q := ⟨planRes l m p, sIsPlan l m p hl hm, iIsPlan l m p hl hm⟩
theorem jobsBoth (l : List S51) (hl : l.length ≤ 1048576) : ∃ q : Bool, Ev (fun k => spec_AreJobs.f k l) q ∧ Ev (fun k => impl_AreJobs.f k l) q := by
  refine ⟨goodJ l, ?_, iJobs l hl⟩
  unfold spec_AreJobs.f
  exact Ev.bind (sJobs l hl) (Ev.now _)
end Go.Proofs.Ytcgpibbbkdhpeaa.M

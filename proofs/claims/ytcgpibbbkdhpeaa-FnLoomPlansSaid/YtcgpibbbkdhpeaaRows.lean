/-
  No cell of these rows narrows 'for every input' (looked for: loops, veiled, ifaces, maps, wideKeys, modest, calm, conditions, laid).
  DERIVED. THE GIVEN ROWS OF THIS SEAT. 11 by the template 'for every input the law returns true; each argument reads behind the call as it read before'; 0 by the template 'total and deterministic' (their statements: YtcgpibbbkdhpeaaTotals.lean).
  GIVEN WITH THE SEED: the statements are not yours to turn. If you find one false, say at which input.
  Laid BY PROGRAM, IN A SANDBOX (cutbox-rows.mjs): the forced cells as the released guide's own fill.sh prints them over the translation c2809bfd84d3e8b6… (all of the seat's roots in one cut). By AI agents, Wed Nov 11 2026. No macro, syntax, notation, axiom, sorry.
-/
import Derived.Test.YtcgpibbbkdhpeaaChecked
import GoSem.Claim
import GoSem.ClaimJoined
import GoSem.ClaimMapViews
import Derived.JoinedTies
import Derived.KernelRfl
namespace Go.Proofs.Ytcgpibbbkdhpeaa
/- THE CELL 'sum', in the pinned program and in every row, IS THE sha256 OF THE DUMP (.gsa) THAT YtcgpibbbkdhpeaaProg.lean LOADS. Nothing in Lean hashes anything: it is a label: what it is worth is what the hold of that sum in a sandbox is worth. -/
noncomputable def Try.pinned : Pinned := { name := "ytcgpibbbkdhpeaa", sum := "c2809bfd84d3e8b6e889703fed6681219ce2f79f2e4a392db5a3bc7afb87d76a", checked := Try.checked }
namespace Rows
def none {H : Type} : Left H := { results := [], args := [] }

/-- 'laws.FnExactAreJobs': WHATEVER THE INPUT: true; the input reads as it did. -/
def fnExactAreJobsSpec : ChangeSpec := { name := "fnExactAreJobs", fn := fun _ => fun
  | [d] => { results := [.lit (.bool true)], args := [d] }
  | _ => none }
def fnExactAreJobsRow : OpenClaim := { program := "ytcgpibbbkdhpeaa", sum := "c2809bfd84d3e8b6e889703fed6681219ce2f79f2e4a392db5a3bc7afb87d76a", func := "loop.example/g01023/laws.FnExactAreJobs", spec := "fnExactAreJobs", unfollowed := true, recurses := true, apart := false }
def FnExactAreJobsSaid : Prop := fnExactAreJobsRow.holds Try.pinned (OpenSpec.ofChange fnExactAreJobsSpec)

/-- ITS FALSE NEIGHBOUR: 'it returns false'. Refute it at one input. -/
def fnExactAreJobsWrong : ChangeSpec := { name := "fnExactAreJobs", fn := fun _ => fun
  | [d] => { results := [.lit (.bool false)], args := [d] }
  | _ => none }
def FnExactAreJobsWrongFalsely : Prop := fnExactAreJobsRow.holds Try.pinned (OpenSpec.ofChange fnExactAreJobsWrong)

/-- 'laws.FnExactIsLoomPlan': WHATEVER THE INPUT: true; the input reads as it did. -/
def fnExactIsLoomPlanSpec : ChangeSpec := { name := "fnExactIsLoomPlan", fn := fun _ => fun
  | [d1, d2, d3] => { results := [.lit (.bool true)], args := [d1, d2, d3] }
  | _ => none }
def fnExactIsLoomPlanRow : OpenClaim := { program := "ytcgpibbbkdhpeaa", sum := "c2809bfd84d3e8b6e889703fed6681219ce2f79f2e4a392db5a3bc7afb87d76a", func := "loop.example/g01023/laws.FnExactIsLoomPlan", spec := "fnExactIsLoomPlan", unfollowed := true, recurses := true, apart := false }
def FnExactIsLoomPlanSaid : Prop := fnExactIsLoomPlanRow.holds Try.pinned (OpenSpec.ofChange fnExactIsLoomPlanSpec)

/-- ITS FALSE NEIGHBOUR: 'it returns false'. Refute it at one input. -/
def fnExactIsLoomPlanWrong : ChangeSpec := { name := "fnExactIsLoomPlan", fn := fun _ => fun
  | [d1, d2, d3] => { results := [.lit (.bool false)], args := [d1, d2, d3] }
  | _ => none }
def FnExactIsLoomPlanWrongFalsely : Prop := fnExactIsLoomPlanRow.holds Try.pinned (OpenSpec.ofChange fnExactIsLoomPlanWrong)

/-- 'laws.FnExactNarrowestFor': WHATEVER THE INPUT: true; the input reads as it did. -/
def fnExactNarrowestForSpec : ChangeSpec := { name := "fnExactNarrowestFor", fn := fun _ => fun
  | [d1, d2] => { results := [.lit (.bool true)], args := [d1, d2] }
  | _ => none }
def fnExactNarrowestForRow : OpenClaim := { program := "ytcgpibbbkdhpeaa", sum := "c2809bfd84d3e8b6e889703fed6681219ce2f79f2e4a392db5a3bc7afb87d76a", func := "loop.example/g01023/laws.FnExactNarrowestFor", spec := "fnExactNarrowestFor", unfollowed := true, recurses := true, apart := false }
def FnExactNarrowestForSaid : Prop := fnExactNarrowestForRow.holds Try.pinned (OpenSpec.ofChange fnExactNarrowestForSpec)

/-- ITS FALSE NEIGHBOUR: 'it returns false'. Refute it at one input. -/
def fnExactNarrowestForWrong : ChangeSpec := { name := "fnExactNarrowestFor", fn := fun _ => fun
  | [d1, d2] => { results := [.lit (.bool false)], args := [d1, d2] }
  | _ => none }
def FnExactNarrowestForWrongFalsely : Prop := fnExactNarrowestForRow.holds Try.pinned (OpenSpec.ofChange fnExactNarrowestForWrong)

/-- 'laws.FnExactIdleDays': WHATEVER THE INPUT: true; the input reads as it did. -/
def fnExactIdleDaysSpec : ChangeSpec := { name := "fnExactIdleDays", fn := fun _ => fun
  | [d1, d2, d3, d4] => { results := [.lit (.bool true)], args := [d1, d2, d3, d4] }
  | _ => none }
def fnExactIdleDaysRow : OpenClaim := { program := "ytcgpibbbkdhpeaa", sum := "c2809bfd84d3e8b6e889703fed6681219ce2f79f2e4a392db5a3bc7afb87d76a", func := "loop.example/g01023/laws.FnExactIdleDays", spec := "fnExactIdleDays", unfollowed := true, recurses := true, apart := false }
def FnExactIdleDaysSaid : Prop := fnExactIdleDaysRow.holds Try.pinned (OpenSpec.ofChange fnExactIdleDaysSpec)

/-- ITS FALSE NEIGHBOUR: 'it returns false'. Refute it at one input. -/
def fnExactIdleDaysWrong : ChangeSpec := { name := "fnExactIdleDays", fn := fun _ => fun
  | [d1, d2, d3, d4] => { results := [.lit (.bool false)], args := [d1, d2, d3, d4] }
  | _ => none }
def FnExactIdleDaysWrongFalsely : Prop := fnExactIdleDaysRow.holds Try.pinned (OpenSpec.ofChange fnExactIdleDaysWrong)

/-- 'laws.FnExactLateDays': WHATEVER THE INPUT: true; the input reads as it did. -/
def fnExactLateDaysSpec : ChangeSpec := { name := "fnExactLateDays", fn := fun _ => fun
  | [d1, d2, d3] => { results := [.lit (.bool true)], args := [d1, d2, d3] }
  | _ => none }
def fnExactLateDaysRow : OpenClaim := { program := "ytcgpibbbkdhpeaa", sum := "c2809bfd84d3e8b6e889703fed6681219ce2f79f2e4a392db5a3bc7afb87d76a", func := "loop.example/g01023/laws.FnExactLateDays", spec := "fnExactLateDays", unfollowed := true, recurses := true, apart := false }
def FnExactLateDaysSaid : Prop := fnExactLateDaysRow.holds Try.pinned (OpenSpec.ofChange fnExactLateDaysSpec)

/-- ITS FALSE NEIGHBOUR: 'it returns false'. Refute it at one input. -/
def fnExactLateDaysWrong : ChangeSpec := { name := "fnExactLateDays", fn := fun _ => fun
  | [d1, d2, d3] => { results := [.lit (.bool false)], args := [d1, d2, d3] }
  | _ => none }
def FnExactLateDaysWrongFalsely : Prop := fnExactLateDaysRow.holds Try.pinned (OpenSpec.ofChange fnExactLateDaysWrong)

/-- 'laws.FnExactLastEnd': WHATEVER THE INPUT: true; the input reads as it did. -/
def fnExactLastEndSpec : ChangeSpec := { name := "fnExactLastEnd", fn := fun _ => fun
  | [d1, d2, d3] => { results := [.lit (.bool true)], args := [d1, d2, d3] }
  | _ => none }
def fnExactLastEndRow : OpenClaim := { program := "ytcgpibbbkdhpeaa", sum := "c2809bfd84d3e8b6e889703fed6681219ce2f79f2e4a392db5a3bc7afb87d76a", func := "loop.example/g01023/laws.FnExactLastEnd", spec := "fnExactLastEnd", unfollowed := true, recurses := true, apart := false }
def FnExactLastEndSaid : Prop := fnExactLastEndRow.holds Try.pinned (OpenSpec.ofChange fnExactLastEndSpec)

/-- ITS FALSE NEIGHBOUR: 'it returns false'. Refute it at one input. -/
def fnExactLastEndWrong : ChangeSpec := { name := "fnExactLastEnd", fn := fun _ => fun
  | [d1, d2, d3] => { results := [.lit (.bool false)], args := [d1, d2, d3] }
  | _ => none }
def FnExactLastEndWrongFalsely : Prop := fnExactLastEndRow.holds Try.pinned (OpenSpec.ofChange fnExactLastEndWrong)

/-- 'laws.FnExactEndsOf': WHATEVER THE INPUT: true; the input reads as it did. -/
def fnExactEndsOfSpec : ChangeSpec := { name := "fnExactEndsOf", fn := fun _ => fun
  | [d1, d2, d3] => { results := [.lit (.bool true)], args := [d1, d2, d3] }
  | _ => none }
def fnExactEndsOfRow : OpenClaim := { program := "ytcgpibbbkdhpeaa", sum := "c2809bfd84d3e8b6e889703fed6681219ce2f79f2e4a392db5a3bc7afb87d76a", func := "loop.example/g01023/laws.FnExactEndsOf", spec := "fnExactEndsOf", unfollowed := true, recurses := true, apart := false }
def FnExactEndsOfSaid : Prop := fnExactEndsOfRow.holds Try.pinned (OpenSpec.ofChange fnExactEndsOfSpec)

/-- ITS FALSE NEIGHBOUR: 'it returns false'. Refute it at one input. -/
def fnExactEndsOfWrong : ChangeSpec := { name := "fnExactEndsOf", fn := fun _ => fun
  | [d1, d2, d3] => { results := [.lit (.bool false)], args := [d1, d2, d3] }
  | _ => none }
def FnExactEndsOfWrongFalsely : Prop := fnExactEndsOfRow.holds Try.pinned (OpenSpec.ofChange fnExactEndsOfWrong)

/-- 'laws.FnExactFreeBefore': WHATEVER THE INPUT: true; the input reads as it did. -/
def fnExactFreeBeforeSpec : ChangeSpec := { name := "fnExactFreeBefore", fn := fun _ => fun
  | [d1, d2, d3, d4] => { results := [.lit (.bool true)], args := [d1, d2, d3, d4] }
  | _ => none }
def fnExactFreeBeforeRow : OpenClaim := { program := "ytcgpibbbkdhpeaa", sum := "c2809bfd84d3e8b6e889703fed6681219ce2f79f2e4a392db5a3bc7afb87d76a", func := "loop.example/g01023/laws.FnExactFreeBefore", spec := "fnExactFreeBefore", unfollowed := true, recurses := true, apart := false }
def FnExactFreeBeforeSaid : Prop := fnExactFreeBeforeRow.holds Try.pinned (OpenSpec.ofChange fnExactFreeBeforeSpec)

/-- ITS FALSE NEIGHBOUR: 'it returns false'. Refute it at one input. -/
def fnExactFreeBeforeWrong : ChangeSpec := { name := "fnExactFreeBefore", fn := fun _ => fun
  | [d1, d2, d3, d4] => { results := [.lit (.bool false)], args := [d1, d2, d3, d4] }
  | _ => none }
def FnExactFreeBeforeWrongFalsely : Prop := fnExactFreeBeforeRow.holds Try.pinned (OpenSpec.ofChange fnExactFreeBeforeWrong)

/-- 'laws.FnLoomDays': WHATEVER THE INPUT: true; the input reads as it did. -/
def fnLoomDaysSpec : ChangeSpec := { name := "fnLoomDays", fn := fun _ => fun
  | [d] => { results := [.lit (.bool true)], args := [d] }
  | _ => none }
def fnLoomDaysRow : OpenClaim := { program := "ytcgpibbbkdhpeaa", sum := "c2809bfd84d3e8b6e889703fed6681219ce2f79f2e4a392db5a3bc7afb87d76a", func := "loop.example/g01023/laws.FnLoomDays", spec := "fnLoomDays", unfollowed := true, recurses := true, apart := false }
def FnLoomDaysSaid : Prop := fnLoomDaysRow.holds Try.pinned (OpenSpec.ofChange fnLoomDaysSpec)

/-- ITS FALSE NEIGHBOUR: 'it returns false'. Refute it at one input. -/
def fnLoomDaysWrong : ChangeSpec := { name := "fnLoomDays", fn := fun _ => fun
  | [d] => { results := [.lit (.bool false)], args := [d] }
  | _ => none }
def FnLoomDaysWrongFalsely : Prop := fnLoomDaysRow.holds Try.pinned (OpenSpec.ofChange fnLoomDaysWrong)

/-- 'laws.FnExactBestLoomPlan': WHATEVER THE INPUT: true; the input reads as it did. -/
def fnExactBestLoomPlanSpec : ChangeSpec := { name := "fnExactBestLoomPlan", fn := fun _ => fun
  | [d1, d2] => { results := [.lit (.bool true)], args := [d1, d2] }
  | _ => none }
def fnExactBestLoomPlanRow : OpenClaim := { program := "ytcgpibbbkdhpeaa", sum := "c2809bfd84d3e8b6e889703fed6681219ce2f79f2e4a392db5a3bc7afb87d76a", func := "loop.example/g01023/laws.FnExactBestLoomPlan", spec := "fnExactBestLoomPlan", unfollowed := true, recurses := true, apart := false }
def FnExactBestLoomPlanSaid : Prop := fnExactBestLoomPlanRow.holds Try.pinned (OpenSpec.ofChange fnExactBestLoomPlanSpec)

/-- ITS FALSE NEIGHBOUR: 'it returns false'. Refute it at one input. -/
def fnExactBestLoomPlanWrong : ChangeSpec := { name := "fnExactBestLoomPlan", fn := fun _ => fun
  | [d1, d2] => { results := [.lit (.bool false)], args := [d1, d2] }
  | _ => none }
def FnExactBestLoomPlanWrongFalsely : Prop := fnExactBestLoomPlanRow.holds Try.pinned (OpenSpec.ofChange fnExactBestLoomPlanWrong)

/-- 'laws.FnLoomPlans': WHATEVER THE INPUT: true; the input reads as it did. -/
def fnLoomPlansSpec : ChangeSpec := { name := "fnLoomPlans", fn := fun _ => fun
  | [d] => { results := [.lit (.bool true)], args := [d] }
  | _ => none }
def fnLoomPlansRow : OpenClaim := { program := "ytcgpibbbkdhpeaa", sum := "c2809bfd84d3e8b6e889703fed6681219ce2f79f2e4a392db5a3bc7afb87d76a", func := "loop.example/g01023/laws.FnLoomPlans", spec := "fnLoomPlans", unfollowed := true, recurses := true, apart := false }
def FnLoomPlansSaid : Prop := fnLoomPlansRow.holds Try.pinned (OpenSpec.ofChange fnLoomPlansSpec)

/-- ITS FALSE NEIGHBOUR: 'it returns false'. Refute it at one input. -/
def fnLoomPlansWrong : ChangeSpec := { name := "fnLoomPlans", fn := fun _ => fun
  | [d] => { results := [.lit (.bool false)], args := [d] }
  | _ => none }
def FnLoomPlansWrongFalsely : Prop := fnLoomPlansRow.holds Try.pinned (OpenSpec.ofChange fnLoomPlansWrong)

/- THE SECOND FORM. 'bulk': how many values and letters a reading holds, each counted each time it is reached (what is shared counts as often as it is met; a slice's spare places count too). A statement '..UptoSaid' is the law's where the arguments, and the package variables that the reading takes, are together of bulk at most 1048576: NARROWER than '..Said'. Prove '..Said' where nothing that the law and all that it calls make is longer than what came in: it says more and counts as full. Else prove '..UptoSaid'. A law counts once. -/
mutual
def uptoBulk {H : Type} : DataW H → Nat
  | .lit (.string bytes) => bytes.length + 1
  | .lit _ => 1
  | .nil => 1
  | .ptr d => uptoBulk d + 1
  | .slice elems spare => uptoBulkAll elems + uptoBulkAll spare + 1
  | .agg parts => uptoBulkAll parts + 1
  | .iface _ d => uptoBulk d + 1
  | .map entries => uptoBulkEntries entries + 1
  | .held _ => 1
def uptoBulkAll {H : Type} : List (DataW H) → Nat
  | [] => 0
  | d :: r => uptoBulk d + uptoBulkAll r
def uptoBulkEntries {H : Type} : List (Lit × DataW H) → Nat
  | [] => 0
  | x :: r => uptoBulkEntry x + uptoBulkEntries r
def uptoBulkEntry {H : Type} : Lit × DataW H → Nat
  | (.string bytes, d) => bytes.length + uptoBulk d + 1
  | (_, d) => uptoBulk d + 1
 end
def uptoSmall : (H : Type) → List (DataW H) → Bool := fun _ ds => decide (uptoBulkAll ds ≤ 1048576)
def OpenSpec.upto (s : _root_.Go.ChangeSpec) : _root_.Go.OpenSpec := { _root_.Go.OpenSpec.ofChange s with cond := some uptoSmall }

/-- 'laws.FnExactAreJobs', WHERE WHAT IT READS IS OF BULK AT MOST 1048576: true; the input reads as it did. -/
def fnExactAreJobsUptoRow : OpenClaim := { program := "ytcgpibbbkdhpeaa", sum := "c2809bfd84d3e8b6e889703fed6681219ce2f79f2e4a392db5a3bc7afb87d76a", func := "loop.example/g01023/laws.FnExactAreJobs", spec := "fnExactAreJobs", unfollowed := true, recurses := true, apart := false, narrowed := true }
def FnExactAreJobsUptoSaid : Prop := fnExactAreJobsUptoRow.holds Try.pinned (OpenSpec.upto fnExactAreJobsSpec)

/-- 'laws.FnExactIsLoomPlan', WHERE WHAT IT READS IS OF BULK AT MOST 1048576: true; the input reads as it did. -/
def fnExactIsLoomPlanUptoRow : OpenClaim := { program := "ytcgpibbbkdhpeaa", sum := "c2809bfd84d3e8b6e889703fed6681219ce2f79f2e4a392db5a3bc7afb87d76a", func := "loop.example/g01023/laws.FnExactIsLoomPlan", spec := "fnExactIsLoomPlan", unfollowed := true, recurses := true, apart := false, narrowed := true }
def FnExactIsLoomPlanUptoSaid : Prop := fnExactIsLoomPlanUptoRow.holds Try.pinned (OpenSpec.upto fnExactIsLoomPlanSpec)

/-- 'laws.FnExactNarrowestFor', WHERE WHAT IT READS IS OF BULK AT MOST 1048576: true; the input reads as it did. -/
def fnExactNarrowestForUptoRow : OpenClaim := { program := "ytcgpibbbkdhpeaa", sum := "c2809bfd84d3e8b6e889703fed6681219ce2f79f2e4a392db5a3bc7afb87d76a", func := "loop.example/g01023/laws.FnExactNarrowestFor", spec := "fnExactNarrowestFor", unfollowed := true, recurses := true, apart := false, narrowed := true }
def FnExactNarrowestForUptoSaid : Prop := fnExactNarrowestForUptoRow.holds Try.pinned (OpenSpec.upto fnExactNarrowestForSpec)

/-- 'laws.FnExactIdleDays', WHERE WHAT IT READS IS OF BULK AT MOST 1048576: true; the input reads as it did. -/
def fnExactIdleDaysUptoRow : OpenClaim := { program := "ytcgpibbbkdhpeaa", sum := "c2809bfd84d3e8b6e889703fed6681219ce2f79f2e4a392db5a3bc7afb87d76a", func := "loop.example/g01023/laws.FnExactIdleDays", spec := "fnExactIdleDays", unfollowed := true, recurses := true, apart := false, narrowed := true }
def FnExactIdleDaysUptoSaid : Prop := fnExactIdleDaysUptoRow.holds Try.pinned (OpenSpec.upto fnExactIdleDaysSpec)

/-- 'laws.FnExactLateDays', WHERE WHAT IT READS IS OF BULK AT MOST 1048576: true; the input reads as it did. -/
def fnExactLateDaysUptoRow : OpenClaim := { program := "ytcgpibbbkdhpeaa", sum := "c2809bfd84d3e8b6e889703fed6681219ce2f79f2e4a392db5a3bc7afb87d76a", func := "loop.example/g01023/laws.FnExactLateDays", spec := "fnExactLateDays", unfollowed := true, recurses := true, apart := false, narrowed := true }
def FnExactLateDaysUptoSaid : Prop := fnExactLateDaysUptoRow.holds Try.pinned (OpenSpec.upto fnExactLateDaysSpec)

/-- 'laws.FnExactLastEnd', WHERE WHAT IT READS IS OF BULK AT MOST 1048576: true; the input reads as it did. -/
def fnExactLastEndUptoRow : OpenClaim := { program := "ytcgpibbbkdhpeaa", sum := "c2809bfd84d3e8b6e889703fed6681219ce2f79f2e4a392db5a3bc7afb87d76a", func := "loop.example/g01023/laws.FnExactLastEnd", spec := "fnExactLastEnd", unfollowed := true, recurses := true, apart := false, narrowed := true }
def FnExactLastEndUptoSaid : Prop := fnExactLastEndUptoRow.holds Try.pinned (OpenSpec.upto fnExactLastEndSpec)

/-- 'laws.FnExactEndsOf', WHERE WHAT IT READS IS OF BULK AT MOST 1048576: true; the input reads as it did. -/
def fnExactEndsOfUptoRow : OpenClaim := { program := "ytcgpibbbkdhpeaa", sum := "c2809bfd84d3e8b6e889703fed6681219ce2f79f2e4a392db5a3bc7afb87d76a", func := "loop.example/g01023/laws.FnExactEndsOf", spec := "fnExactEndsOf", unfollowed := true, recurses := true, apart := false, narrowed := true }
def FnExactEndsOfUptoSaid : Prop := fnExactEndsOfUptoRow.holds Try.pinned (OpenSpec.upto fnExactEndsOfSpec)

/-- 'laws.FnExactFreeBefore', WHERE WHAT IT READS IS OF BULK AT MOST 1048576: true; the input reads as it did. -/
def fnExactFreeBeforeUptoRow : OpenClaim := { program := "ytcgpibbbkdhpeaa", sum := "c2809bfd84d3e8b6e889703fed6681219ce2f79f2e4a392db5a3bc7afb87d76a", func := "loop.example/g01023/laws.FnExactFreeBefore", spec := "fnExactFreeBefore", unfollowed := true, recurses := true, apart := false, narrowed := true }
def FnExactFreeBeforeUptoSaid : Prop := fnExactFreeBeforeUptoRow.holds Try.pinned (OpenSpec.upto fnExactFreeBeforeSpec)

/-- 'laws.FnLoomDays', WHERE WHAT IT READS IS OF BULK AT MOST 1048576: true; the input reads as it did. -/
def fnLoomDaysUptoRow : OpenClaim := { program := "ytcgpibbbkdhpeaa", sum := "c2809bfd84d3e8b6e889703fed6681219ce2f79f2e4a392db5a3bc7afb87d76a", func := "loop.example/g01023/laws.FnLoomDays", spec := "fnLoomDays", unfollowed := true, recurses := true, apart := false, narrowed := true }
def FnLoomDaysUptoSaid : Prop := fnLoomDaysUptoRow.holds Try.pinned (OpenSpec.upto fnLoomDaysSpec)

/-- 'laws.FnExactBestLoomPlan', WHERE WHAT IT READS IS OF BULK AT MOST 1048576: true; the input reads as it did. -/
def fnExactBestLoomPlanUptoRow : OpenClaim := { program := "ytcgpibbbkdhpeaa", sum := "c2809bfd84d3e8b6e889703fed6681219ce2f79f2e4a392db5a3bc7afb87d76a", func := "loop.example/g01023/laws.FnExactBestLoomPlan", spec := "fnExactBestLoomPlan", unfollowed := true, recurses := true, apart := false, narrowed := true }
def FnExactBestLoomPlanUptoSaid : Prop := fnExactBestLoomPlanUptoRow.holds Try.pinned (OpenSpec.upto fnExactBestLoomPlanSpec)

/-- 'laws.FnLoomPlans', WHERE WHAT IT READS IS OF BULK AT MOST 1048576: true; the input reads as it did. -/
def fnLoomPlansUptoRow : OpenClaim := { program := "ytcgpibbbkdhpeaa", sum := "c2809bfd84d3e8b6e889703fed6681219ce2f79f2e4a392db5a3bc7afb87d76a", func := "loop.example/g01023/laws.FnLoomPlans", spec := "fnLoomPlans", unfollowed := true, recurses := true, apart := false, narrowed := true }
def FnLoomPlansUptoSaid : Prop := fnLoomPlansUptoRow.holds Try.pinned (OpenSpec.upto fnLoomPlansSpec)

end Rows
end Go.Proofs.Ytcgpibbbkdhpeaa

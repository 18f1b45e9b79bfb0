/-
  No cell of these rows narrows 'for every input' (looked for: loops, veiled, ifaces, maps, wideKeys, modest, calm, conditions, laid).
  DERIVED. THE GIVEN ROWS OF THIS SEAT. 7 by the template 'for every input the law returns true; each argument reads behind the call as it read before'; 0 by the template 'total and deterministic' (their statements: YthmgiagecgkmiaaTotals.lean).
  GIVEN WITH THE SEED: the statements are not yours to turn. If you find one false, say at which input.
  Laid BY PROGRAM, IN A SANDBOX (cutbox-rows.mjs): the forced cells as the released guide's own fill.sh prints them over the translation 326795fc076aba19… (all of the seat's roots in one cut). By AI agents, Wed Nov 11 2026. No macro, syntax, notation, axiom, sorry.
-/
import Derived.Test.YthmgiagecgkmiaaChecked
import GoSem.Claim
import GoSem.ClaimJoined
import GoSem.ClaimMapViews
import Derived.JoinedTies
import Derived.KernelRfl
namespace Go.Proofs.Ythmgiagecgkmiaa
/- THE CELL 'sum', in the pinned program and in every row, IS THE sha256 OF THE DUMP (.gsa) THAT YthmgiagecgkmiaaProg.lean LOADS. Nothing in Lean hashes anything: it is a label: what it is worth is what the hold of that sum in a sandbox is worth. -/
noncomputable def Try.pinned : Pinned := { name := "ythmgiagecgkmiaa", sum := "326795fc076aba196bc9a7c512f890314853b5944fe41eef5701423aba03de79", checked := Try.checked }
namespace Rows
def none {H : Type} : Left H := { results := [], args := [] }

/-- 'laws.FnExactIsMonthRow': WHATEVER THE INPUT: true; the input reads as it did. -/
def fnExactIsMonthRowSpec : ChangeSpec := { name := "fnExactIsMonthRow", fn := fun _ => fun
  | [d] => { results := [.lit (.bool true)], args := [d] }
  | _ => none }
def fnExactIsMonthRowRow : OpenClaim := { program := "ythmgiagecgkmiaa", sum := "326795fc076aba196bc9a7c512f890314853b5944fe41eef5701423aba03de79", func := "loop.example/g01023/laws.FnExactIsMonthRow", spec := "fnExactIsMonthRow", apart := false }
def FnExactIsMonthRowSaid : Prop := fnExactIsMonthRowRow.holds Try.pinned (OpenSpec.ofChange fnExactIsMonthRowSpec)

/-- ITS FALSE NEIGHBOUR: 'it returns false'. Refute it at one input. -/
def fnExactIsMonthRowWrong : ChangeSpec := { name := "fnExactIsMonthRow", fn := fun _ => fun
  | [d] => { results := [.lit (.bool false)], args := [d] }
  | _ => none }
def FnExactIsMonthRowWrongFalsely : Prop := fnExactIsMonthRowRow.holds Try.pinned (OpenSpec.ofChange fnExactIsMonthRowWrong)

/-- 'laws.FnExactAreMonthRows': WHATEVER THE INPUT: true; the input reads as it did. -/
def fnExactAreMonthRowsSpec : ChangeSpec := { name := "fnExactAreMonthRows", fn := fun _ => fun
  | [d] => { results := [.lit (.bool true)], args := [d] }
  | _ => none }
def fnExactAreMonthRowsRow : OpenClaim := { program := "ythmgiagecgkmiaa", sum := "326795fc076aba196bc9a7c512f890314853b5944fe41eef5701423aba03de79", func := "loop.example/g01023/laws.FnExactAreMonthRows", spec := "fnExactAreMonthRows", unfollowed := true, recurses := true, apart := false }
def FnExactAreMonthRowsSaid : Prop := fnExactAreMonthRowsRow.holds Try.pinned (OpenSpec.ofChange fnExactAreMonthRowsSpec)

/-- ITS FALSE NEIGHBOUR: 'it returns false'. Refute it at one input. -/
def fnExactAreMonthRowsWrong : ChangeSpec := { name := "fnExactAreMonthRows", fn := fun _ => fun
  | [d] => { results := [.lit (.bool false)], args := [d] }
  | _ => none }
def FnExactAreMonthRowsWrongFalsely : Prop := fnExactAreMonthRowsRow.holds Try.pinned (OpenSpec.ofChange fnExactAreMonthRowsWrong)

/-- 'laws.FnExactLossRun': WHATEVER THE INPUT: true; the input reads as it did. -/
def fnExactLossRunSpec : ChangeSpec := { name := "fnExactLossRun", fn := fun _ => fun
  | [d] => { results := [.lit (.bool true)], args := [d] }
  | _ => none }
def fnExactLossRunRow : OpenClaim := { program := "ythmgiagecgkmiaa", sum := "326795fc076aba196bc9a7c512f890314853b5944fe41eef5701423aba03de79", func := "loop.example/g01023/laws.FnExactLossRun", spec := "fnExactLossRun", unfollowed := true, recurses := true, apart := false }
def FnExactLossRunSaid : Prop := fnExactLossRunRow.holds Try.pinned (OpenSpec.ofChange fnExactLossRunSpec)

/-- ITS FALSE NEIGHBOUR: 'it returns false'. Refute it at one input. -/
def fnExactLossRunWrong : ChangeSpec := { name := "fnExactLossRun", fn := fun _ => fun
  | [d] => { results := [.lit (.bool false)], args := [d] }
  | _ => none }
def FnExactLossRunWrongFalsely : Prop := fnExactLossRunRow.holds Try.pinned (OpenSpec.ofChange fnExactLossRunWrong)

/-- 'laws.FnExactKnotsAnHour': WHATEVER THE INPUT: true; the input reads as it did. -/
def fnExactKnotsAnHourSpec : ChangeSpec := { name := "fnExactKnotsAnHour", fn := fun _ => fun
  | [d] => { results := [.lit (.bool true)], args := [d] }
  | _ => none }
def fnExactKnotsAnHourRow : OpenClaim := { program := "ythmgiagecgkmiaa", sum := "326795fc076aba196bc9a7c512f890314853b5944fe41eef5701423aba03de79", func := "loop.example/g01023/laws.FnExactKnotsAnHour", spec := "fnExactKnotsAnHour", unfollowed := true, recurses := true, apart := false }
def FnExactKnotsAnHourSaid : Prop := fnExactKnotsAnHourRow.holds Try.pinned (OpenSpec.ofChange fnExactKnotsAnHourSpec)

/-- ITS FALSE NEIGHBOUR: 'it returns false'. Refute it at one input. -/
def fnExactKnotsAnHourWrong : ChangeSpec := { name := "fnExactKnotsAnHour", fn := fun _ => fun
  | [d] => { results := [.lit (.bool false)], args := [d] }
  | _ => none }
def FnExactKnotsAnHourWrongFalsely : Prop := fnExactKnotsAnHourRow.holds Try.pinned (OpenSpec.ofChange fnExactKnotsAnHourWrong)

/-- 'laws.FnExactRunningSum': WHATEVER THE INPUT: true; the input reads as it did. -/
def fnExactRunningSumSpec : ChangeSpec := { name := "fnExactRunningSum", fn := fun _ => fun
  | [d1, d2] => { results := [.lit (.bool true)], args := [d1, d2] }
  | _ => none }
def fnExactRunningSumRow : OpenClaim := { program := "ythmgiagecgkmiaa", sum := "326795fc076aba196bc9a7c512f890314853b5944fe41eef5701423aba03de79", func := "loop.example/g01023/laws.FnExactRunningSum", spec := "fnExactRunningSum", unfollowed := true, recurses := true, apart := false }
def FnExactRunningSumSaid : Prop := fnExactRunningSumRow.holds Try.pinned (OpenSpec.ofChange fnExactRunningSumSpec)

/-- ITS FALSE NEIGHBOUR: 'it returns false'. Refute it at one input. -/
def fnExactRunningSumWrong : ChangeSpec := { name := "fnExactRunningSum", fn := fun _ => fun
  | [d1, d2] => { results := [.lit (.bool false)], args := [d1, d2] }
  | _ => none }
def FnExactRunningSumWrongFalsely : Prop := fnExactRunningSumRow.holds Try.pinned (OpenSpec.ofChange fnExactRunningSumWrong)

/-- 'laws.FnExactBestMonths': WHATEVER THE INPUT: true; the input reads as it did. -/
def fnExactBestMonthsSpec : ChangeSpec := { name := "fnExactBestMonths", fn := fun _ => fun
  | [d] => { results := [.lit (.bool true)], args := [d] }
  | _ => none }
def fnExactBestMonthsRow : OpenClaim := { program := "ythmgiagecgkmiaa", sum := "326795fc076aba196bc9a7c512f890314853b5944fe41eef5701423aba03de79", func := "loop.example/g01023/laws.FnExactBestMonths", spec := "fnExactBestMonths", unfollowed := true, recurses := true, apart := false }
def FnExactBestMonthsSaid : Prop := fnExactBestMonthsRow.holds Try.pinned (OpenSpec.ofChange fnExactBestMonthsSpec)

/-- ITS FALSE NEIGHBOUR: 'it returns false'. Refute it at one input. -/
def fnExactBestMonthsWrong : ChangeSpec := { name := "fnExactBestMonths", fn := fun _ => fun
  | [d] => { results := [.lit (.bool false)], args := [d] }
  | _ => none }
def FnExactBestMonthsWrongFalsely : Prop := fnExactBestMonthsRow.holds Try.pinned (OpenSpec.ofChange fnExactBestMonthsWrong)

/-- 'laws.FnProfits': WHATEVER THE INPUT: true; the input reads as it did. -/
def fnProfitsSpec : ChangeSpec := { name := "fnProfits", fn := fun _ => fun
  | [d] => { results := [.lit (.bool true)], args := [d] }
  | _ => none }
def fnProfitsRow : OpenClaim := { program := "ythmgiagecgkmiaa", sum := "326795fc076aba196bc9a7c512f890314853b5944fe41eef5701423aba03de79", func := "loop.example/g01023/laws.FnProfits", spec := "fnProfits", unfollowed := true, recurses := true, apart := false }
def FnProfitsSaid : Prop := fnProfitsRow.holds Try.pinned (OpenSpec.ofChange fnProfitsSpec)

/-- ITS FALSE NEIGHBOUR: 'it returns false'. Refute it at one input. -/
def fnProfitsWrong : ChangeSpec := { name := "fnProfits", fn := fun _ => fun
  | [d] => { results := [.lit (.bool false)], args := [d] }
  | _ => none }
def FnProfitsWrongFalsely : Prop := fnProfitsRow.holds Try.pinned (OpenSpec.ofChange fnProfitsWrong)

/- THE SECOND FORM. 'bulk': how many values and letters a reading holds, each counted each time it is reached (what is shared counts as often as it is met; a slice's spare places count too). A statement '..UptoSaid' is the law's where the arguments, and the package variables that the reading takes, are together of bulk at most 1048576: NARROWER than '..Said'. Prove '..Said' where nothing that the law and all that it calls make is longer than what came in: it says more and counts as full. Else prove '..UptoSaid'. A law counts once. -/
mutual
def uptoBulk {H : Type} : DataW H → Nat
  | .lit (.string bytes) => bytes.length + 1
  | .lit _ => 1
  | .nil => 1
  | .ptr d => uptoBulk d + 1
  | .slice elems spare => uptoBulkAll elems + uptoBulkAll spare + 1
  | .agg parts => uptoBulkAll parts + 1
  | .iface _ d => uptoBulk d + 1
  | .map entries => uptoBulkEntries entries + 1
  | .held _ => 1
def uptoBulkAll {H : Type} : List (DataW H) → Nat
  | [] => 0
  | d :: r => uptoBulk d + uptoBulkAll r
def uptoBulkEntries {H : Type} : List (Lit × DataW H) → Nat
  | [] => 0
  | x :: r => uptoBulkEntry x + uptoBulkEntries r
def uptoBulkEntry {H : Type} : Lit × DataW H → Nat
  | (.string bytes, d) => bytes.length + uptoBulk d + 1
  | (_, d) => uptoBulk d + 1
 end
def uptoSmall : (H : Type) → List (DataW H) → Bool := fun _ ds => decide (uptoBulkAll ds ≤ 1048576)
def OpenSpec.upto (s : _root_.Go.ChangeSpec) : _root_.Go.OpenSpec := { _root_.Go.OpenSpec.ofChange s with cond := some uptoSmall }

/-- 'laws.FnExactIsMonthRow', WHERE WHAT IT READS IS OF BULK AT MOST 1048576: true; the input reads as it did. -/
def fnExactIsMonthRowUptoRow : OpenClaim := { program := "ythmgiagecgkmiaa", sum := "326795fc076aba196bc9a7c512f890314853b5944fe41eef5701423aba03de79", func := "loop.example/g01023/laws.FnExactIsMonthRow", spec := "fnExactIsMonthRow", apart := false, narrowed := true }
def FnExactIsMonthRowUptoSaid : Prop := fnExactIsMonthRowUptoRow.holds Try.pinned (OpenSpec.upto fnExactIsMonthRowSpec)

/-- 'laws.FnExactAreMonthRows', WHERE WHAT IT READS IS OF BULK AT MOST 1048576: true; the input reads as it did. -/
def fnExactAreMonthRowsUptoRow : OpenClaim := { program := "ythmgiagecgkmiaa", sum := "326795fc076aba196bc9a7c512f890314853b5944fe41eef5701423aba03de79", func := "loop.example/g01023/laws.FnExactAreMonthRows", spec := "fnExactAreMonthRows", unfollowed := true, recurses := true, apart := false, narrowed := true }
def FnExactAreMonthRowsUptoSaid : Prop := fnExactAreMonthRowsUptoRow.holds Try.pinned (OpenSpec.upto fnExactAreMonthRowsSpec)

/-- 'laws.FnExactLossRun', WHERE WHAT IT READS IS OF BULK AT MOST 1048576: true; the input reads as it did. -/
def fnExactLossRunUptoRow : OpenClaim := { program := "ythmgiagecgkmiaa", sum := "326795fc076aba196bc9a7c512f890314853b5944fe41eef5701423aba03de79", func := "loop.example/g01023/laws.FnExactLossRun", spec := "fnExactLossRun", unfollowed := true, recurses := true, apart := false, narrowed := true }
def FnExactLossRunUptoSaid : Prop := fnExactLossRunUptoRow.holds Try.pinned (OpenSpec.upto fnExactLossRunSpec)

/-- 'laws.FnExactKnotsAnHour', WHERE WHAT IT READS IS OF BULK AT MOST 1048576: true; the input reads as it did. -/
def fnExactKnotsAnHourUptoRow : OpenClaim := { program := "ythmgiagecgkmiaa", sum := "326795fc076aba196bc9a7c512f890314853b5944fe41eef5701423aba03de79", func := "loop.example/g01023/laws.FnExactKnotsAnHour", spec := "fnExactKnotsAnHour", unfollowed := true, recurses := true, apart := false, narrowed := true }
def FnExactKnotsAnHourUptoSaid : Prop := fnExactKnotsAnHourUptoRow.holds Try.pinned (OpenSpec.upto fnExactKnotsAnHourSpec)

/-- 'laws.FnExactRunningSum', WHERE WHAT IT READS IS OF BULK AT MOST 1048576: true; the input reads as it did. -/
def fnExactRunningSumUptoRow : OpenClaim := { program := "ythmgiagecgkmiaa", sum := "326795fc076aba196bc9a7c512f890314853b5944fe41eef5701423aba03de79", func := "loop.example/g01023/laws.FnExactRunningSum", spec := "fnExactRunningSum", unfollowed := true, recurses := true, apart := false, narrowed := true }
def FnExactRunningSumUptoSaid : Prop := fnExactRunningSumUptoRow.holds Try.pinned (OpenSpec.upto fnExactRunningSumSpec)

/-- 'laws.FnExactBestMonths', WHERE WHAT IT READS IS OF BULK AT MOST 1048576: true; the input reads as it did. -/
def fnExactBestMonthsUptoRow : OpenClaim := { program := "ythmgiagecgkmiaa", sum := "326795fc076aba196bc9a7c512f890314853b5944fe41eef5701423aba03de79", func := "loop.example/g01023/laws.FnExactBestMonths", spec := "fnExactBestMonths", unfollowed := true, recurses := true, apart := false, narrowed := true }
def FnExactBestMonthsUptoSaid : Prop := fnExactBestMonthsUptoRow.holds Try.pinned (OpenSpec.upto fnExactBestMonthsSpec)

/-- 'laws.FnProfits', WHERE WHAT IT READS IS OF BULK AT MOST 1048576: true; the input reads as it did. -/
def fnProfitsUptoRow : OpenClaim := { program := "ythmgiagecgkmiaa", sum := "326795fc076aba196bc9a7c512f890314853b5944fe41eef5701423aba03de79", func := "loop.example/g01023/laws.FnProfits", spec := "fnProfits", unfollowed := true, recurses := true, apart := false, narrowed := true }
def FnProfitsUptoSaid : Prop := fnProfitsUptoRow.holds Try.pinned (OpenSpec.upto fnProfitsSpec)

end Rows
end Go.Proofs.Ythmgiagecgkmiaa

/-
  No cell of these rows narrows 'for every input' (looked for: loops, veiled, ifaces, maps, wideKeys, modest, calm, conditions, laid).
  DERIVED. THE GIVEN ROWS OF THIS SEAT. 12 by the template 'for every input the law returns true; each argument reads behind the call as it read before'; 0 by the template 'total and deterministic' (their statements: YtggbhmagpabbdaaTotals.lean).
  GIVEN WITH THE SEED: the statements are not yours to turn. If you find one false, say at which input.
  Laid BY PROGRAM, IN A SANDBOX (cutbox-rows.mjs): the forced cells as the released guide's own fill.sh prints them over the translation 17e5605a6fb3cd26… (all of the seat's roots in one cut). By AI agents, Wed Nov 11 2026. No macro, syntax, notation, axiom, sorry.
-/
import Derived.Test.YtggbhmagpabbdaaChecked
import GoSem.Claim
import GoSem.ClaimJoined
import GoSem.ClaimMapViews
import Derived.JoinedTies
import Derived.KernelRfl
namespace Go.Proofs.Ytggbhmagpabbdaa
/- THE CELL 'sum', in the pinned program and in every row, IS THE sha256 OF THE DUMP (.gsa) THAT YtggbhmagpabbdaaProg.lean LOADS. Nothing in Lean hashes anything: it is a label: what it is worth is what the hold of that sum in a sandbox is worth. -/
noncomputable def Try.pinned : Pinned := { name := "ytggbhmagpabbdaa", sum := "17e5605a6fb3cd264023e1a371287980286b4b1dcbf9b61f3b6f829d95dd7b8f", checked := Try.checked }
namespace Rows
def none {H : Type} : Left H := { results := [], args := [] }

/-- 'laws.FnExactIsAppraisal': WHATEVER THE INPUT: true; the input reads as it did. -/
def fnExactIsAppraisalSpec : ChangeSpec := { name := "fnExactIsAppraisal", fn := fun _ => fun
  | [d] => { results := [.lit (.bool true)], args := [d] }
  | _ => none }
def fnExactIsAppraisalRow : OpenClaim := { program := "ytggbhmagpabbdaa", sum := "17e5605a6fb3cd264023e1a371287980286b4b1dcbf9b61f3b6f829d95dd7b8f", func := "loop.example/g01023/laws.FnExactIsAppraisal", spec := "fnExactIsAppraisal", apart := false }
def FnExactIsAppraisalSaid : Prop := fnExactIsAppraisalRow.holds Try.pinned (OpenSpec.ofChange fnExactIsAppraisalSpec)

/-- ITS FALSE NEIGHBOUR: 'it returns false'. Refute it at one input. -/
def fnExactIsAppraisalWrong : ChangeSpec := { name := "fnExactIsAppraisal", fn := fun _ => fun
  | [d] => { results := [.lit (.bool false)], args := [d] }
  | _ => none }
def FnExactIsAppraisalWrongFalsely : Prop := fnExactIsAppraisalRow.holds Try.pinned (OpenSpec.ofChange fnExactIsAppraisalWrong)

/-- 'laws.FnExactIsMonthRow': WHATEVER THE INPUT: true; the input reads as it did. -/
def fnExactIsMonthRowSpec : ChangeSpec := { name := "fnExactIsMonthRow", fn := fun _ => fun
  | [d] => { results := [.lit (.bool true)], args := [d] }
  | _ => none }
def fnExactIsMonthRowRow : OpenClaim := { program := "ytggbhmagpabbdaa", sum := "17e5605a6fb3cd264023e1a371287980286b4b1dcbf9b61f3b6f829d95dd7b8f", func := "loop.example/g01023/laws.FnExactIsMonthRow", spec := "fnExactIsMonthRow", apart := false }
def FnExactIsMonthRowSaid : Prop := fnExactIsMonthRowRow.holds Try.pinned (OpenSpec.ofChange fnExactIsMonthRowSpec)

/-- ITS FALSE NEIGHBOUR: 'it returns false'. Refute it at one input. -/
def fnExactIsMonthRowWrong : ChangeSpec := { name := "fnExactIsMonthRow", fn := fun _ => fun
  | [d] => { results := [.lit (.bool false)], args := [d] }
  | _ => none }
def FnExactIsMonthRowWrongFalsely : Prop := fnExactIsMonthRowRow.holds Try.pinned (OpenSpec.ofChange fnExactIsMonthRowWrong)

/-- 'laws.FnExactAlike': WHATEVER THE INPUT: true; the input reads as it did. -/
def fnExactAlikeSpec : ChangeSpec := { name := "fnExactAlike", fn := fun _ => fun
  | [d1, d2] => { results := [.lit (.bool true)], args := [d1, d2] }
  | _ => none }
def fnExactAlikeRow : OpenClaim := { program := "ytggbhmagpabbdaa", sum := "17e5605a6fb3cd264023e1a371287980286b4b1dcbf9b61f3b6f829d95dd7b8f", func := "loop.example/g01023/laws.FnExactAlike", spec := "fnExactAlike", unfollowed := true, recurses := true, apart := false }
def FnExactAlikeSaid : Prop := fnExactAlikeRow.holds Try.pinned (OpenSpec.ofChange fnExactAlikeSpec)

/-- ITS FALSE NEIGHBOUR: 'it returns false'. Refute it at one input. -/
def fnExactAlikeWrong : ChangeSpec := { name := "fnExactAlike", fn := fun _ => fun
  | [d1, d2] => { results := [.lit (.bool false)], args := [d1, d2] }
  | _ => none }
def FnExactAlikeWrongFalsely : Prop := fnExactAlikeRow.holds Try.pinned (OpenSpec.ofChange fnExactAlikeWrong)

/-- 'laws.FnExactBaseOf': WHATEVER THE INPUT: true; the input reads as it did. -/
def fnExactBaseOfSpec : ChangeSpec := { name := "fnExactBaseOf", fn := fun _ => fun
  | [d] => { results := [.lit (.bool true)], args := [d] }
  | _ => none }
def fnExactBaseOfRow : OpenClaim := { program := "ytggbhmagpabbdaa", sum := "17e5605a6fb3cd264023e1a371287980286b4b1dcbf9b61f3b6f829d95dd7b8f", func := "loop.example/g01023/laws.FnExactBaseOf", spec := "fnExactBaseOf", apart := false }
def FnExactBaseOfSaid : Prop := fnExactBaseOfRow.holds Try.pinned (OpenSpec.ofChange fnExactBaseOfSpec)

/-- ITS FALSE NEIGHBOUR: 'it returns false'. Refute it at one input. -/
def fnExactBaseOfWrong : ChangeSpec := { name := "fnExactBaseOf", fn := fun _ => fun
  | [d] => { results := [.lit (.bool false)], args := [d] }
  | _ => none }
def FnExactBaseOfWrongFalsely : Prop := fnExactBaseOfRow.holds Try.pinned (OpenSpec.ofChange fnExactBaseOfWrong)

/-- 'laws.FnExactValueOf': WHATEVER THE INPUT: true; the input reads as it did. -/
def fnExactValueOfSpec : ChangeSpec := { name := "fnExactValueOf", fn := fun _ => fun
  | [d] => { results := [.lit (.bool true)], args := [d] }
  | _ => none }
def fnExactValueOfRow : OpenClaim := { program := "ytggbhmagpabbdaa", sum := "17e5605a6fb3cd264023e1a371287980286b4b1dcbf9b61f3b6f829d95dd7b8f", func := "loop.example/g01023/laws.FnExactValueOf", spec := "fnExactValueOf", apart := false }
def FnExactValueOfSaid : Prop := fnExactValueOfRow.holds Try.pinned (OpenSpec.ofChange fnExactValueOfSpec)

/-- ITS FALSE NEIGHBOUR: 'it returns false'. Refute it at one input. -/
def fnExactValueOfWrong : ChangeSpec := { name := "fnExactValueOf", fn := fun _ => fun
  | [d] => { results := [.lit (.bool false)], args := [d] }
  | _ => none }
def FnExactValueOfWrongFalsely : Prop := fnExactValueOfRow.holds Try.pinned (OpenSpec.ofChange fnExactValueOfWrong)

/-- 'laws.FnExactAfterGrade': WHATEVER THE INPUT: true; the input reads as it did. -/
def fnExactAfterGradeSpec : ChangeSpec := { name := "fnExactAfterGrade", fn := fun _ => fun
  | [d1, d2] => { results := [.lit (.bool true)], args := [d1, d2] }
  | _ => none }
def fnExactAfterGradeRow : OpenClaim := { program := "ytggbhmagpabbdaa", sum := "17e5605a6fb3cd264023e1a371287980286b4b1dcbf9b61f3b6f829d95dd7b8f", func := "loop.example/g01023/laws.FnExactAfterGrade", spec := "fnExactAfterGrade", apart := false }
def FnExactAfterGradeSaid : Prop := fnExactAfterGradeRow.holds Try.pinned (OpenSpec.ofChange fnExactAfterGradeSpec)

/-- ITS FALSE NEIGHBOUR: 'it returns false'. Refute it at one input. -/
def fnExactAfterGradeWrong : ChangeSpec := { name := "fnExactAfterGrade", fn := fun _ => fun
  | [d1, d2] => { results := [.lit (.bool false)], args := [d1, d2] }
  | _ => none }
def FnExactAfterGradeWrongFalsely : Prop := fnExactAfterGradeRow.holds Try.pinned (OpenSpec.ofChange fnExactAfterGradeWrong)

/-- 'laws.FnExactRatioOf': WHATEVER THE INPUT: true; the input reads as it did. -/
def fnExactRatioOfSpec : ChangeSpec := { name := "fnExactRatioOf", fn := fun _ => fun
  | [d] => { results := [.lit (.bool true)], args := [d] }
  | _ => none }
def fnExactRatioOfRow : OpenClaim := { program := "ytggbhmagpabbdaa", sum := "17e5605a6fb3cd264023e1a371287980286b4b1dcbf9b61f3b6f829d95dd7b8f", func := "loop.example/g01023/laws.FnExactRatioOf", spec := "fnExactRatioOf", apart := false }
def FnExactRatioOfSaid : Prop := fnExactRatioOfRow.holds Try.pinned (OpenSpec.ofChange fnExactRatioOfSpec)

/-- ITS FALSE NEIGHBOUR: 'it returns false'. Refute it at one input. -/
def fnExactRatioOfWrong : ChangeSpec := { name := "fnExactRatioOf", fn := fun _ => fun
  | [d] => { results := [.lit (.bool false)], args := [d] }
  | _ => none }
def FnExactRatioOfWrongFalsely : Prop := fnExactRatioOfRow.holds Try.pinned (OpenSpec.ofChange fnExactRatioOfWrong)

/-- 'laws.FnMending': WHATEVER THE INPUT: true; the input reads as it did. -/
def fnMendingSpec : ChangeSpec := { name := "fnMending", fn := fun _ => fun
  | [d] => { results := [.lit (.bool true)], args := [d] }
  | _ => none }
def fnMendingRow : OpenClaim := { program := "ytggbhmagpabbdaa", sum := "17e5605a6fb3cd264023e1a371287980286b4b1dcbf9b61f3b6f829d95dd7b8f", func := "loop.example/g01023/laws.FnMending", spec := "fnMending", unfollowed := true, recurses := true, apart := false }
def FnMendingSaid : Prop := fnMendingRow.holds Try.pinned (OpenSpec.ofChange fnMendingSpec)

/-- ITS FALSE NEIGHBOUR: 'it returns false'. Refute it at one input. -/
def fnMendingWrong : ChangeSpec := { name := "fnMending", fn := fun _ => fun
  | [d] => { results := [.lit (.bool false)], args := [d] }
  | _ => none }
def FnMendingWrongFalsely : Prop := fnMendingRow.holds Try.pinned (OpenSpec.ofChange fnMendingWrong)

/-- 'laws.FnExactAreJobs': WHATEVER THE INPUT: true; the input reads as it did. -/
def fnExactAreJobsSpec : ChangeSpec := { name := "fnExactAreJobs", fn := fun _ => fun
  | [d] => { results := [.lit (.bool true)], args := [d] }
  | _ => none }
def fnExactAreJobsRow : OpenClaim := { program := "ytggbhmagpabbdaa", sum := "17e5605a6fb3cd264023e1a371287980286b4b1dcbf9b61f3b6f829d95dd7b8f", func := "loop.example/g01023/laws.FnExactAreJobs", spec := "fnExactAreJobs", unfollowed := true, recurses := true, apart := false }
def FnExactAreJobsSaid : Prop := fnExactAreJobsRow.holds Try.pinned (OpenSpec.ofChange fnExactAreJobsSpec)

/-- ITS FALSE NEIGHBOUR: 'it returns false'. Refute it at one input. -/
def fnExactAreJobsWrong : ChangeSpec := { name := "fnExactAreJobs", fn := fun _ => fun
  | [d] => { results := [.lit (.bool false)], args := [d] }
  | _ => none }
def FnExactAreJobsWrongFalsely : Prop := fnExactAreJobsRow.holds Try.pinned (OpenSpec.ofChange fnExactAreJobsWrong)

/-- 'laws.FnExactAreMonthRows': WHATEVER THE INPUT: true; the input reads as it did. -/
def fnExactAreMonthRowsSpec : ChangeSpec := { name := "fnExactAreMonthRows", fn := fun _ => fun
  | [d] => { results := [.lit (.bool true)], args := [d] }
  | _ => none }
def fnExactAreMonthRowsRow : OpenClaim := { program := "ytggbhmagpabbdaa", sum := "17e5605a6fb3cd264023e1a371287980286b4b1dcbf9b61f3b6f829d95dd7b8f", func := "loop.example/g01023/laws.FnExactAreMonthRows", spec := "fnExactAreMonthRows", unfollowed := true, recurses := true, apart := false }
def FnExactAreMonthRowsSaid : Prop := fnExactAreMonthRowsRow.holds Try.pinned (OpenSpec.ofChange fnExactAreMonthRowsSpec)

/-- ITS FALSE NEIGHBOUR: 'it returns false'. Refute it at one input. -/
def fnExactAreMonthRowsWrong : ChangeSpec := { name := "fnExactAreMonthRows", fn := fun _ => fun
  | [d] => { results := [.lit (.bool false)], args := [d] }
  | _ => none }
def FnExactAreMonthRowsWrongFalsely : Prop := fnExactAreMonthRowsRow.holds Try.pinned (OpenSpec.ofChange fnExactAreMonthRowsWrong)

/-- 'laws.FnExactNewShop': WHATEVER THE INPUT: true; the input reads as it did. -/
def fnExactNewShopSpec : ChangeSpec := { name := "fnExactNewShop", fn := fun _ => fun
  | [d] => { results := [.lit (.bool true)], args := [d] }
  | _ => none }
def fnExactNewShopRow : OpenClaim := { program := "ytggbhmagpabbdaa", sum := "17e5605a6fb3cd264023e1a371287980286b4b1dcbf9b61f3b6f829d95dd7b8f", func := "loop.example/g01023/laws.FnExactNewShop", spec := "fnExactNewShop", apart := false }
def FnExactNewShopSaid : Prop := fnExactNewShopRow.holds Try.pinned (OpenSpec.ofChange fnExactNewShopSpec)

/-- ITS FALSE NEIGHBOUR: 'it returns false'. Refute it at one input. -/
def fnExactNewShopWrong : ChangeSpec := { name := "fnExactNewShop", fn := fun _ => fun
  | [d] => { results := [.lit (.bool false)], args := [d] }
  | _ => none }
def FnExactNewShopWrongFalsely : Prop := fnExactNewShopRow.holds Try.pinned (OpenSpec.ofChange fnExactNewShopWrong)

/-- 'laws.FnExactIsProgram': WHATEVER THE INPUT: true; the input reads as it did. -/
def fnExactIsProgramSpec : ChangeSpec := { name := "fnExactIsProgram", fn := fun _ => fun
  | [d] => { results := [.lit (.bool true)], args := [d] }
  | _ => none }
def fnExactIsProgramRow : OpenClaim := { program := "ytggbhmagpabbdaa", sum := "17e5605a6fb3cd264023e1a371287980286b4b1dcbf9b61f3b6f829d95dd7b8f", func := "loop.example/g01023/laws.FnExactIsProgram", spec := "fnExactIsProgram", unfollowed := true, recurses := true, apart := false }
def FnExactIsProgramSaid : Prop := fnExactIsProgramRow.holds Try.pinned (OpenSpec.ofChange fnExactIsProgramSpec)

/-- ITS FALSE NEIGHBOUR: 'it returns false'. Refute it at one input. -/
def fnExactIsProgramWrong : ChangeSpec := { name := "fnExactIsProgram", fn := fun _ => fun
  | [d] => { results := [.lit (.bool false)], args := [d] }
  | _ => none }
def FnExactIsProgramWrongFalsely : Prop := fnExactIsProgramRow.holds Try.pinned (OpenSpec.ofChange fnExactIsProgramWrong)

/- THE SECOND FORM. 'bulk': how many values and letters a reading holds, each counted each time it is reached (what is shared counts as often as it is met; a slice's spare places count too). A statement '..UptoSaid' is the law's where the arguments, and the package variables that the reading takes, are together of bulk at most 1048576: NARROWER than '..Said'. Prove '..Said' where nothing that the law and all that it calls make is longer than what came in: it says more and counts as full. Else prove '..UptoSaid'. A law counts once. -/
mutual
def uptoBulk {H : Type} : DataW H → Nat
  | .lit (.string bytes) => bytes.length + 1
  | .lit _ => 1
  | .nil => 1
  | .ptr d => uptoBulk d + 1
  | .slice elems spare => uptoBulkAll elems + uptoBulkAll spare + 1
  | .agg parts => uptoBulkAll parts + 1
  | .iface _ d => uptoBulk d + 1
  | .map entries => uptoBulkEntries entries + 1
  | .held _ => 1
def uptoBulkAll {H : Type} : List (DataW H) → Nat
  | [] => 0
  | d :: r => uptoBulk d + uptoBulkAll r
def uptoBulkEntries {H : Type} : List (Lit × DataW H) → Nat
  | [] => 0
  | x :: r => uptoBulkEntry x + uptoBulkEntries r
def uptoBulkEntry {H : Type} : Lit × DataW H → Nat
  | (.string bytes, d) => bytes.length + uptoBulk d + 1
  | (_, d) => uptoBulk d + 1
 end
def uptoSmall : (H : Type) → List (DataW H) → Bool := fun _ ds => decide (uptoBulkAll ds ≤ 1048576)
def OpenSpec.upto (s : _root_.Go.ChangeSpec) : _root_.Go.OpenSpec := { _root_.Go.OpenSpec.ofChange s with cond := some uptoSmall }

/-- 'laws.FnExactIsAppraisal', WHERE WHAT IT READS IS OF BULK AT MOST 1048576: true; the input reads as it did. -/
def fnExactIsAppraisalUptoRow : OpenClaim := { program := "ytggbhmagpabbdaa", sum := "17e5605a6fb3cd264023e1a371287980286b4b1dcbf9b61f3b6f829d95dd7b8f", func := "loop.example/g01023/laws.FnExactIsAppraisal", spec := "fnExactIsAppraisal", apart := false, narrowed := true }
def FnExactIsAppraisalUptoSaid : Prop := fnExactIsAppraisalUptoRow.holds Try.pinned (OpenSpec.upto fnExactIsAppraisalSpec)

/-- 'laws.FnExactIsMonthRow', WHERE WHAT IT READS IS OF BULK AT MOST 1048576: true; the input reads as it did. -/
def fnExactIsMonthRowUptoRow : OpenClaim := { program := "ytggbhmagpabbdaa", sum := "17e5605a6fb3cd264023e1a371287980286b4b1dcbf9b61f3b6f829d95dd7b8f", func := "loop.example/g01023/laws.FnExactIsMonthRow", spec := "fnExactIsMonthRow", apart := false, narrowed := true }
def FnExactIsMonthRowUptoSaid : Prop := fnExactIsMonthRowUptoRow.holds Try.pinned (OpenSpec.upto fnExactIsMonthRowSpec)

/-- 'laws.FnExactAlike', WHERE WHAT IT READS IS OF BULK AT MOST 1048576: true; the input reads as it did. -/
def fnExactAlikeUptoRow : OpenClaim := { program := "ytggbhmagpabbdaa", sum := "17e5605a6fb3cd264023e1a371287980286b4b1dcbf9b61f3b6f829d95dd7b8f", func := "loop.example/g01023/laws.FnExactAlike", spec := "fnExactAlike", unfollowed := true, recurses := true, apart := false, narrowed := true }
def FnExactAlikeUptoSaid : Prop := fnExactAlikeUptoRow.holds Try.pinned (OpenSpec.upto fnExactAlikeSpec)

/-- 'laws.FnExactBaseOf', WHERE WHAT IT READS IS OF BULK AT MOST 1048576: true; the input reads as it did. -/
def fnExactBaseOfUptoRow : OpenClaim := { program := "ytggbhmagpabbdaa", sum := "17e5605a6fb3cd264023e1a371287980286b4b1dcbf9b61f3b6f829d95dd7b8f", func := "loop.example/g01023/laws.FnExactBaseOf", spec := "fnExactBaseOf", apart := false, narrowed := true }
def FnExactBaseOfUptoSaid : Prop := fnExactBaseOfUptoRow.holds Try.pinned (OpenSpec.upto fnExactBaseOfSpec)

/-- 'laws.FnExactValueOf', WHERE WHAT IT READS IS OF BULK AT MOST 1048576: true; the input reads as it did. -/
def fnExactValueOfUptoRow : OpenClaim := { program := "ytggbhmagpabbdaa", sum := "17e5605a6fb3cd264023e1a371287980286b4b1dcbf9b61f3b6f829d95dd7b8f", func := "loop.example/g01023/laws.FnExactValueOf", spec := "fnExactValueOf", apart := false, narrowed := true }
def FnExactValueOfUptoSaid : Prop := fnExactValueOfUptoRow.holds Try.pinned (OpenSpec.upto fnExactValueOfSpec)

/-- 'laws.FnExactAfterGrade', WHERE WHAT IT READS IS OF BULK AT MOST 1048576: true; the input reads as it did. -/
def fnExactAfterGradeUptoRow : OpenClaim := { program := "ytggbhmagpabbdaa", sum := "17e5605a6fb3cd264023e1a371287980286b4b1dcbf9b61f3b6f829d95dd7b8f", func := "loop.example/g01023/laws.FnExactAfterGrade", spec := "fnExactAfterGrade", apart := false, narrowed := true }
def FnExactAfterGradeUptoSaid : Prop := fnExactAfterGradeUptoRow.holds Try.pinned (OpenSpec.upto fnExactAfterGradeSpec)

/-- 'laws.FnExactRatioOf', WHERE WHAT IT READS IS OF BULK AT MOST 1048576: true; the input reads as it did. -/
def fnExactRatioOfUptoRow : OpenClaim := { program := "ytggbhmagpabbdaa", sum := "17e5605a6fb3cd264023e1a371287980286b4b1dcbf9b61f3b6f829d95dd7b8f", func := "loop.example/g01023/laws.FnExactRatioOf", spec := "fnExactRatioOf", apart := false, narrowed := true }
def FnExactRatioOfUptoSaid : Prop := fnExactRatioOfUptoRow.holds Try.pinned (OpenSpec.upto fnExactRatioOfSpec)

/-- 'laws.FnMending', WHERE WHAT IT READS IS OF BULK AT MOST 1048576: true; the input reads as it did. -/
def fnMendingUptoRow : OpenClaim := { program := "ytggbhmagpabbdaa", sum := "17e5605a6fb3cd264023e1a371287980286b4b1dcbf9b61f3b6f829d95dd7b8f", func := "loop.example/g01023/laws.FnMending", spec := "fnMending", unfollowed := true, recurses := true, apart := false, narrowed := true }
def FnMendingUptoSaid : Prop := fnMendingUptoRow.holds Try.pinned (OpenSpec.upto fnMendingSpec)

/-- 'laws.FnExactAreJobs', WHERE WHAT IT READS IS OF BULK AT MOST 1048576: true; the input reads as it did. -/
def fnExactAreJobsUptoRow : OpenClaim := { program := "ytggbhmagpabbdaa", sum := "17e5605a6fb3cd264023e1a371287980286b4b1dcbf9b61f3b6f829d95dd7b8f", func := "loop.example/g01023/laws.FnExactAreJobs", spec := "fnExactAreJobs", unfollowed := true, recurses := true, apart := false, narrowed := true }
def FnExactAreJobsUptoSaid : Prop := fnExactAreJobsUptoRow.holds Try.pinned (OpenSpec.upto fnExactAreJobsSpec)

/-- 'laws.FnExactAreMonthRows', WHERE WHAT IT READS IS OF BULK AT MOST 1048576: true; the input reads as it did. -/
def fnExactAreMonthRowsUptoRow : OpenClaim := { program := "ytggbhmagpabbdaa", sum := "17e5605a6fb3cd264023e1a371287980286b4b1dcbf9b61f3b6f829d95dd7b8f", func := "loop.example/g01023/laws.FnExactAreMonthRows", spec := "fnExactAreMonthRows", unfollowed := true, recurses := true, apart := false, narrowed := true }
def FnExactAreMonthRowsUptoSaid : Prop := fnExactAreMonthRowsUptoRow.holds Try.pinned (OpenSpec.upto fnExactAreMonthRowsSpec)

/-- 'laws.FnExactNewShop', WHERE WHAT IT READS IS OF BULK AT MOST 1048576: true; the input reads as it did. -/
def fnExactNewShopUptoRow : OpenClaim := { program := "ytggbhmagpabbdaa", sum := "17e5605a6fb3cd264023e1a371287980286b4b1dcbf9b61f3b6f829d95dd7b8f", func := "loop.example/g01023/laws.FnExactNewShop", spec := "fnExactNewShop", apart := false, narrowed := true }
def FnExactNewShopUptoSaid : Prop := fnExactNewShopUptoRow.holds Try.pinned (OpenSpec.upto fnExactNewShopSpec)

/-- 'laws.FnExactIsProgram', WHERE WHAT IT READS IS OF BULK AT MOST 1048576: true; the input reads as it did. -/
def fnExactIsProgramUptoRow : OpenClaim := { program := "ytggbhmagpabbdaa", sum := "17e5605a6fb3cd264023e1a371287980286b4b1dcbf9b61f3b6f829d95dd7b8f", func := "loop.example/g01023/laws.FnExactIsProgram", spec := "fnExactIsProgram", unfollowed := true, recurses := true, apart := false, narrowed := true }
def FnExactIsProgramUptoSaid : Prop := fnExactIsProgramUptoRow.holds Try.pinned (OpenSpec.upto fnExactIsProgramSpec)

end Rows
end Go.Proofs.Ytggbhmagpabbdaa

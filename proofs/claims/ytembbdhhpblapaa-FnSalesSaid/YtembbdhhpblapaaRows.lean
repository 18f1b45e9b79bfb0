/-
  No cell of these rows narrows 'for every input' (looked for: loops, veiled, ifaces, maps, wideKeys, modest, calm, conditions, laid).
  DERIVED. THE GIVEN ROWS OF THIS SEAT. 11 by the template 'for every input the law returns true; each argument reads behind the call as it read before'; 0 by the template 'total and deterministic' (their statements: YtembbdhhpblapaaTotals.lean).
  GIVEN WITH THE SEED: the statements are not yours to turn. If you find one false, say at which input.
  Laid BY PROGRAM, IN A SANDBOX (cutbox-rows.mjs): the forced cells as the released guide's own fill.sh prints them over the translation b14d1982ea4496ba… (all of the seat's roots in one cut). By AI agents, Wed Nov 11 2026. No macro, syntax, notation, axiom, sorry.
-/
import Derived.Test.YtembbdhhpblapaaChecked
import GoSem.Claim
import GoSem.ClaimJoined
import GoSem.ClaimMapViews
import Derived.JoinedTies
import Derived.KernelRfl
namespace Go.Proofs.Ytembbdhhpblapaa
/- THE CELL 'sum', in the pinned program and in every row, IS THE sha256 OF THE DUMP (.gsa) THAT YtembbdhhpblapaaProg.lean LOADS. Nothing in Lean hashes anything: it is a label: what it is worth is what the hold of that sum in a sandbox is worth. -/
noncomputable def Try.pinned : Pinned := { name := "ytembbdhhpblapaa", sum := "b14d1982ea4496ba6a4e3e8cffd6419dfbf85589570f033c7c5dc745e4ed4df0", checked := Try.checked }
namespace Rows
def none {H : Type} : Left H := { results := [], args := [] }

/-- 'laws.FnExactIsAppraisal': WHATEVER THE INPUT: true; the input reads as it did. -/
def fnExactIsAppraisalSpec : ChangeSpec := { name := "fnExactIsAppraisal", fn := fun _ => fun
  | [d] => { results := [.lit (.bool true)], args := [d] }
  | _ => none }
def fnExactIsAppraisalRow : OpenClaim := { program := "ytembbdhhpblapaa", sum := "b14d1982ea4496ba6a4e3e8cffd6419dfbf85589570f033c7c5dc745e4ed4df0", func := "loop.example/g01023/laws.FnExactIsAppraisal", spec := "fnExactIsAppraisal", apart := false }
def FnExactIsAppraisalSaid : Prop := fnExactIsAppraisalRow.holds Try.pinned (OpenSpec.ofChange fnExactIsAppraisalSpec)

/-- ITS FALSE NEIGHBOUR: 'it returns false'. Refute it at one input. -/
def fnExactIsAppraisalWrong : ChangeSpec := { name := "fnExactIsAppraisal", fn := fun _ => fun
  | [d] => { results := [.lit (.bool false)], args := [d] }
  | _ => none }
def FnExactIsAppraisalWrongFalsely : Prop := fnExactIsAppraisalRow.holds Try.pinned (OpenSpec.ofChange fnExactIsAppraisalWrong)

/-- 'laws.FnExactAlike': WHATEVER THE INPUT: true; the input reads as it did. -/
def fnExactAlikeSpec : ChangeSpec := { name := "fnExactAlike", fn := fun _ => fun
  | [d1, d2] => { results := [.lit (.bool true)], args := [d1, d2] }
  | _ => none }
def fnExactAlikeRow : OpenClaim := { program := "ytembbdhhpblapaa", sum := "b14d1982ea4496ba6a4e3e8cffd6419dfbf85589570f033c7c5dc745e4ed4df0", func := "loop.example/g01023/laws.FnExactAlike", spec := "fnExactAlike", unfollowed := true, recurses := true, apart := false }
def FnExactAlikeSaid : Prop := fnExactAlikeRow.holds Try.pinned (OpenSpec.ofChange fnExactAlikeSpec)

/-- ITS FALSE NEIGHBOUR: 'it returns false'. Refute it at one input. -/
def fnExactAlikeWrong : ChangeSpec := { name := "fnExactAlike", fn := fun _ => fun
  | [d1, d2] => { results := [.lit (.bool false)], args := [d1, d2] }
  | _ => none }
def FnExactAlikeWrongFalsely : Prop := fnExactAlikeRow.holds Try.pinned (OpenSpec.ofChange fnExactAlikeWrong)

/-- 'laws.FnExactBaseOf': WHATEVER THE INPUT: true; the input reads as it did. -/
def fnExactBaseOfSpec : ChangeSpec := { name := "fnExactBaseOf", fn := fun _ => fun
  | [d] => { results := [.lit (.bool true)], args := [d] }
  | _ => none }
def fnExactBaseOfRow : OpenClaim := { program := "ytembbdhhpblapaa", sum := "b14d1982ea4496ba6a4e3e8cffd6419dfbf85589570f033c7c5dc745e4ed4df0", func := "loop.example/g01023/laws.FnExactBaseOf", spec := "fnExactBaseOf", apart := false }
def FnExactBaseOfSaid : Prop := fnExactBaseOfRow.holds Try.pinned (OpenSpec.ofChange fnExactBaseOfSpec)

/-- ITS FALSE NEIGHBOUR: 'it returns false'. Refute it at one input. -/
def fnExactBaseOfWrong : ChangeSpec := { name := "fnExactBaseOf", fn := fun _ => fun
  | [d] => { results := [.lit (.bool false)], args := [d] }
  | _ => none }
def FnExactBaseOfWrongFalsely : Prop := fnExactBaseOfRow.holds Try.pinned (OpenSpec.ofChange fnExactBaseOfWrong)

/-- 'laws.FnExactValueOf': WHATEVER THE INPUT: true; the input reads as it did. -/
def fnExactValueOfSpec : ChangeSpec := { name := "fnExactValueOf", fn := fun _ => fun
  | [d] => { results := [.lit (.bool true)], args := [d] }
  | _ => none }
def fnExactValueOfRow : OpenClaim := { program := "ytembbdhhpblapaa", sum := "b14d1982ea4496ba6a4e3e8cffd6419dfbf85589570f033c7c5dc745e4ed4df0", func := "loop.example/g01023/laws.FnExactValueOf", spec := "fnExactValueOf", apart := false }
def FnExactValueOfSaid : Prop := fnExactValueOfRow.holds Try.pinned (OpenSpec.ofChange fnExactValueOfSpec)

/-- ITS FALSE NEIGHBOUR: 'it returns false'. Refute it at one input. -/
def fnExactValueOfWrong : ChangeSpec := { name := "fnExactValueOf", fn := fun _ => fun
  | [d] => { results := [.lit (.bool false)], args := [d] }
  | _ => none }
def FnExactValueOfWrongFalsely : Prop := fnExactValueOfRow.holds Try.pinned (OpenSpec.ofChange fnExactValueOfWrong)

/-- 'laws.FnExactAfterGrade': WHATEVER THE INPUT: true; the input reads as it did. -/
def fnExactAfterGradeSpec : ChangeSpec := { name := "fnExactAfterGrade", fn := fun _ => fun
  | [d1, d2] => { results := [.lit (.bool true)], args := [d1, d2] }
  | _ => none }
def fnExactAfterGradeRow : OpenClaim := { program := "ytembbdhhpblapaa", sum := "b14d1982ea4496ba6a4e3e8cffd6419dfbf85589570f033c7c5dc745e4ed4df0", func := "loop.example/g01023/laws.FnExactAfterGrade", spec := "fnExactAfterGrade", apart := false }
def FnExactAfterGradeSaid : Prop := fnExactAfterGradeRow.holds Try.pinned (OpenSpec.ofChange fnExactAfterGradeSpec)

/-- ITS FALSE NEIGHBOUR: 'it returns false'. Refute it at one input. -/
def fnExactAfterGradeWrong : ChangeSpec := { name := "fnExactAfterGrade", fn := fun _ => fun
  | [d1, d2] => { results := [.lit (.bool false)], args := [d1, d2] }
  | _ => none }
def FnExactAfterGradeWrongFalsely : Prop := fnExactAfterGradeRow.holds Try.pinned (OpenSpec.ofChange fnExactAfterGradeWrong)

/-- 'laws.FnExactRatioOf': WHATEVER THE INPUT: true; the input reads as it did. -/
def fnExactRatioOfSpec : ChangeSpec := { name := "fnExactRatioOf", fn := fun _ => fun
  | [d] => { results := [.lit (.bool true)], args := [d] }
  | _ => none }
def fnExactRatioOfRow : OpenClaim := { program := "ytembbdhhpblapaa", sum := "b14d1982ea4496ba6a4e3e8cffd6419dfbf85589570f033c7c5dc745e4ed4df0", func := "loop.example/g01023/laws.FnExactRatioOf", spec := "fnExactRatioOf", apart := false }
def FnExactRatioOfSaid : Prop := fnExactRatioOfRow.holds Try.pinned (OpenSpec.ofChange fnExactRatioOfSpec)

/-- ITS FALSE NEIGHBOUR: 'it returns false'. Refute it at one input. -/
def fnExactRatioOfWrong : ChangeSpec := { name := "fnExactRatioOf", fn := fun _ => fun
  | [d] => { results := [.lit (.bool false)], args := [d] }
  | _ => none }
def FnExactRatioOfWrongFalsely : Prop := fnExactRatioOfRow.holds Try.pinned (OpenSpec.ofChange fnExactRatioOfWrong)

/-- 'laws.FnExactAreSales': WHATEVER THE INPUT: true; the input reads as it did. -/
def fnExactAreSalesSpec : ChangeSpec := { name := "fnExactAreSales", fn := fun _ => fun
  | [d] => { results := [.lit (.bool true)], args := [d] }
  | _ => none }
def fnExactAreSalesRow : OpenClaim := { program := "ytembbdhhpblapaa", sum := "b14d1982ea4496ba6a4e3e8cffd6419dfbf85589570f033c7c5dc745e4ed4df0", func := "loop.example/g01023/laws.FnExactAreSales", spec := "fnExactAreSales", unfollowed := true, recurses := true, apart := false }
def FnExactAreSalesSaid : Prop := fnExactAreSalesRow.holds Try.pinned (OpenSpec.ofChange fnExactAreSalesSpec)

/-- ITS FALSE NEIGHBOUR: 'it returns false'. Refute it at one input. -/
def fnExactAreSalesWrong : ChangeSpec := { name := "fnExactAreSales", fn := fun _ => fun
  | [d] => { results := [.lit (.bool false)], args := [d] }
  | _ => none }
def FnExactAreSalesWrongFalsely : Prop := fnExactAreSalesRow.holds Try.pinned (OpenSpec.ofChange fnExactAreSalesWrong)

/-- 'laws.FnValues': WHATEVER THE INPUT: true; the input reads as it did. -/
def fnValuesSpec : ChangeSpec := { name := "fnValues", fn := fun _ => fun
  | [d] => { results := [.lit (.bool true)], args := [d] }
  | _ => none }
def fnValuesRow : OpenClaim := { program := "ytembbdhhpblapaa", sum := "b14d1982ea4496ba6a4e3e8cffd6419dfbf85589570f033c7c5dc745e4ed4df0", func := "loop.example/g01023/laws.FnValues", spec := "fnValues", unfollowed := true, recurses := true, apart := false }
def FnValuesSaid : Prop := fnValuesRow.holds Try.pinned (OpenSpec.ofChange fnValuesSpec)

/-- ITS FALSE NEIGHBOUR: 'it returns false'. Refute it at one input. -/
def fnValuesWrong : ChangeSpec := { name := "fnValues", fn := fun _ => fun
  | [d] => { results := [.lit (.bool false)], args := [d] }
  | _ => none }
def FnValuesWrongFalsely : Prop := fnValuesRow.holds Try.pinned (OpenSpec.ofChange fnValuesWrong)

/-- 'laws.FnExactYearMeans': WHATEVER THE INPUT: true; the input reads as it did. -/
def fnExactYearMeansSpec : ChangeSpec := { name := "fnExactYearMeans", fn := fun _ => fun
  | [d] => { results := [.lit (.bool true)], args := [d] }
  | _ => none }
def fnExactYearMeansRow : OpenClaim := { program := "ytembbdhhpblapaa", sum := "b14d1982ea4496ba6a4e3e8cffd6419dfbf85589570f033c7c5dc745e4ed4df0", func := "loop.example/g01023/laws.FnExactYearMeans", spec := "fnExactYearMeans", unfollowed := true, recurses := true, apart := false }
def FnExactYearMeansSaid : Prop := fnExactYearMeansRow.holds Try.pinned (OpenSpec.ofChange fnExactYearMeansSpec)

/-- ITS FALSE NEIGHBOUR: 'it returns false'. Refute it at one input. -/
def fnExactYearMeansWrong : ChangeSpec := { name := "fnExactYearMeans", fn := fun _ => fun
  | [d] => { results := [.lit (.bool false)], args := [d] }
  | _ => none }
def FnExactYearMeansWrongFalsely : Prop := fnExactYearMeansRow.holds Try.pinned (OpenSpec.ofChange fnExactYearMeansWrong)

/-- 'laws.FnExactEstimateBy': WHATEVER THE INPUT: true; the input reads as it did. -/
def fnExactEstimateBySpec : ChangeSpec := { name := "fnExactEstimateBy", fn := fun _ => fun
  | [d1, d2] => { results := [.lit (.bool true)], args := [d1, d2] }
  | _ => none }
def fnExactEstimateByRow : OpenClaim := { program := "ytembbdhhpblapaa", sum := "b14d1982ea4496ba6a4e3e8cffd6419dfbf85589570f033c7c5dc745e4ed4df0", func := "loop.example/g01023/laws.FnExactEstimateBy", spec := "fnExactEstimateBy", unfollowed := true, recurses := true, apart := false }
def FnExactEstimateBySaid : Prop := fnExactEstimateByRow.holds Try.pinned (OpenSpec.ofChange fnExactEstimateBySpec)

/-- ITS FALSE NEIGHBOUR: 'it returns false'. Refute it at one input. -/
def fnExactEstimateByWrong : ChangeSpec := { name := "fnExactEstimateBy", fn := fun _ => fun
  | [d1, d2] => { results := [.lit (.bool false)], args := [d1, d2] }
  | _ => none }
def FnExactEstimateByWrongFalsely : Prop := fnExactEstimateByRow.holds Try.pinned (OpenSpec.ofChange fnExactEstimateByWrong)

/-- 'laws.FnSales': WHATEVER THE INPUT: true; the input reads as it did. -/
def fnSalesSpec : ChangeSpec := { name := "fnSales", fn := fun _ => fun
  | [d] => { results := [.lit (.bool true)], args := [d] }
  | _ => none }
def fnSalesRow : OpenClaim := { program := "ytembbdhhpblapaa", sum := "b14d1982ea4496ba6a4e3e8cffd6419dfbf85589570f033c7c5dc745e4ed4df0", func := "loop.example/g01023/laws.FnSales", spec := "fnSales", unfollowed := true, recurses := true, apart := false }
def FnSalesSaid : Prop := fnSalesRow.holds Try.pinned (OpenSpec.ofChange fnSalesSpec)

/-- ITS FALSE NEIGHBOUR: 'it returns false'. Refute it at one input. -/
def fnSalesWrong : ChangeSpec := { name := "fnSales", fn := fun _ => fun
  | [d] => { results := [.lit (.bool false)], args := [d] }
  | _ => none }
def FnSalesWrongFalsely : Prop := fnSalesRow.holds Try.pinned (OpenSpec.ofChange fnSalesWrong)

/- THE SECOND FORM. 'bulk': how many values and letters a reading holds, each counted each time it is reached (what is shared counts as often as it is met; a slice's spare places count too). A statement '..UptoSaid' is the law's where the arguments, and the package variables that the reading takes, are together of bulk at most 1048576: NARROWER than '..Said'. Prove '..Said' where nothing that the law and all that it calls make is longer than what came in: it says more and counts as full. Else prove '..UptoSaid'. A law counts once. -/
mutual
def uptoBulk {H : Type} : DataW H → Nat
  | .lit (.string bytes) => bytes.length + 1
  | .lit _ => 1
  | .nil => 1
  | .ptr d => uptoBulk d + 1
  | .slice elems spare => uptoBulkAll elems + uptoBulkAll spare + 1
  | .agg parts => uptoBulkAll parts + 1
  | .iface _ d => uptoBulk d + 1
  | .map entries => uptoBulkEntries entries + 1
  | .held _ => 1
def uptoBulkAll {H : Type} : List (DataW H) → Nat
  | [] => 0
  | d :: r => uptoBulk d + uptoBulkAll r
def uptoBulkEntries {H : Type} : List (Lit × DataW H) → Nat
  | [] => 0
  | x :: r => uptoBulkEntry x + uptoBulkEntries r
def uptoBulkEntry {H : Type} : Lit × DataW H → Nat
  | (.string bytes, d) => bytes.length + uptoBulk d + 1
  | (_, d) => uptoBulk d + 1
 end
def uptoSmall : (H : Type) → List (DataW H) → Bool := fun _ ds => decide (uptoBulkAll ds ≤ 1048576)
def OpenSpec.upto (s : _root_.Go.ChangeSpec) : _root_.Go.OpenSpec := { _root_.Go.OpenSpec.ofChange s with cond := some uptoSmall }

/-- 'laws.FnExactIsAppraisal', WHERE WHAT IT READS IS OF BULK AT MOST 1048576: true; the input reads as it did. -/
def fnExactIsAppraisalUptoRow : OpenClaim := { program := "ytembbdhhpblapaa", sum := "b14d1982ea4496ba6a4e3e8cffd6419dfbf85589570f033c7c5dc745e4ed4df0", func := "loop.example/g01023/laws.FnExactIsAppraisal", spec := "fnExactIsAppraisal", apart := false, narrowed := true }
def FnExactIsAppraisalUptoSaid : Prop := fnExactIsAppraisalUptoRow.holds Try.pinned (OpenSpec.upto fnExactIsAppraisalSpec)

/-- 'laws.FnExactAlike', WHERE WHAT IT READS IS OF BULK AT MOST 1048576: true; the input reads as it did. -/
def fnExactAlikeUptoRow : OpenClaim := { program := "ytembbdhhpblapaa", sum := "b14d1982ea4496ba6a4e3e8cffd6419dfbf85589570f033c7c5dc745e4ed4df0", func := "loop.example/g01023/laws.FnExactAlike", spec := "fnExactAlike", unfollowed := true, recurses := true, apart := false, narrowed := true }
def FnExactAlikeUptoSaid : Prop := fnExactAlikeUptoRow.holds Try.pinned (OpenSpec.upto fnExactAlikeSpec)

/-- 'laws.FnExactBaseOf', WHERE WHAT IT READS IS OF BULK AT MOST 1048576: true; the input reads as it did. -/
def fnExactBaseOfUptoRow : OpenClaim := { program := "ytembbdhhpblapaa", sum := "b14d1982ea4496ba6a4e3e8cffd6419dfbf85589570f033c7c5dc745e4ed4df0", func := "loop.example/g01023/laws.FnExactBaseOf", spec := "fnExactBaseOf", apart := false, narrowed := true }
def FnExactBaseOfUptoSaid : Prop := fnExactBaseOfUptoRow.holds Try.pinned (OpenSpec.upto fnExactBaseOfSpec)

/-- 'laws.FnExactValueOf', WHERE WHAT IT READS IS OF BULK AT MOST 1048576: true; the input reads as it did. -/
def fnExactValueOfUptoRow : OpenClaim := { program := "ytembbdhhpblapaa", sum := "b14d1982ea4496ba6a4e3e8cffd6419dfbf85589570f033c7c5dc745e4ed4df0", func := "loop.example/g01023/laws.FnExactValueOf", spec := "fnExactValueOf", apart := false, narrowed := true }
def FnExactValueOfUptoSaid : Prop := fnExactValueOfUptoRow.holds Try.pinned (OpenSpec.upto fnExactValueOfSpec)

/-- 'laws.FnExactAfterGrade', WHERE WHAT IT READS IS OF BULK AT MOST 1048576: true; the input reads as it did. -/
def fnExactAfterGradeUptoRow : OpenClaim := { program := "ytembbdhhpblapaa", sum := "b14d1982ea4496ba6a4e3e8cffd6419dfbf85589570f033c7c5dc745e4ed4df0", func := "loop.example/g01023/laws.FnExactAfterGrade", spec := "fnExactAfterGrade", apart := false, narrowed := true }
def FnExactAfterGradeUptoSaid : Prop := fnExactAfterGradeUptoRow.holds Try.pinned (OpenSpec.upto fnExactAfterGradeSpec)

/-- 'laws.FnExactRatioOf', WHERE WHAT IT READS IS OF BULK AT MOST 1048576: true; the input reads as it did. -/
def fnExactRatioOfUptoRow : OpenClaim := { program := "ytembbdhhpblapaa", sum := "b14d1982ea4496ba6a4e3e8cffd6419dfbf85589570f033c7c5dc745e4ed4df0", func := "loop.example/g01023/laws.FnExactRatioOf", spec := "fnExactRatioOf", apart := false, narrowed := true }
def FnExactRatioOfUptoSaid : Prop := fnExactRatioOfUptoRow.holds Try.pinned (OpenSpec.upto fnExactRatioOfSpec)

/-- 'laws.FnExactAreSales', WHERE WHAT IT READS IS OF BULK AT MOST 1048576: true; the input reads as it did. -/
def fnExactAreSalesUptoRow : OpenClaim := { program := "ytembbdhhpblapaa", sum := "b14d1982ea4496ba6a4e3e8cffd6419dfbf85589570f033c7c5dc745e4ed4df0", func := "loop.example/g01023/laws.FnExactAreSales", spec := "fnExactAreSales", unfollowed := true, recurses := true, apart := false, narrowed := true }
def FnExactAreSalesUptoSaid : Prop := fnExactAreSalesUptoRow.holds Try.pinned (OpenSpec.upto fnExactAreSalesSpec)

/-- 'laws.FnValues', WHERE WHAT IT READS IS OF BULK AT MOST 1048576: true; the input reads as it did. -/
def fnValuesUptoRow : OpenClaim := { program := "ytembbdhhpblapaa", sum := "b14d1982ea4496ba6a4e3e8cffd6419dfbf85589570f033c7c5dc745e4ed4df0", func := "loop.example/g01023/laws.FnValues", spec := "fnValues", unfollowed := true, recurses := true, apart := false, narrowed := true }
def FnValuesUptoSaid : Prop := fnValuesUptoRow.holds Try.pinned (OpenSpec.upto fnValuesSpec)

/-- 'laws.FnExactYearMeans', WHERE WHAT IT READS IS OF BULK AT MOST 1048576: true; the input reads as it did. -/
def fnExactYearMeansUptoRow : OpenClaim := { program := "ytembbdhhpblapaa", sum := "b14d1982ea4496ba6a4e3e8cffd6419dfbf85589570f033c7c5dc745e4ed4df0", func := "loop.example/g01023/laws.FnExactYearMeans", spec := "fnExactYearMeans", unfollowed := true, recurses := true, apart := false, narrowed := true }
def FnExactYearMeansUptoSaid : Prop := fnExactYearMeansUptoRow.holds Try.pinned (OpenSpec.upto fnExactYearMeansSpec)

/-- 'laws.FnExactEstimateBy', WHERE WHAT IT READS IS OF BULK AT MOST 1048576: true; the input reads as it did. -/
def fnExactEstimateByUptoRow : OpenClaim := { program := "ytembbdhhpblapaa", sum := "b14d1982ea4496ba6a4e3e8cffd6419dfbf85589570f033c7c5dc745e4ed4df0", func := "loop.example/g01023/laws.FnExactEstimateBy", spec := "fnExactEstimateBy", unfollowed := true, recurses := true, apart := false, narrowed := true }
def FnExactEstimateByUptoSaid : Prop := fnExactEstimateByUptoRow.holds Try.pinned (OpenSpec.upto fnExactEstimateBySpec)

/-- 'laws.FnSales', WHERE WHAT IT READS IS OF BULK AT MOST 1048576: true; the input reads as it did. -/
def fnSalesUptoRow : OpenClaim := { program := "ytembbdhhpblapaa", sum := "b14d1982ea4496ba6a4e3e8cffd6419dfbf85589570f033c7c5dc745e4ed4df0", func := "loop.example/g01023/laws.FnSales", spec := "fnSales", unfollowed := true, recurses := true, apart := false, narrowed := true }
def FnSalesUptoSaid : Prop := fnSalesUptoRow.holds Try.pinned (OpenSpec.upto fnSalesSpec)

end Rows
end Go.Proofs.Ytembbdhhpblapaa

/-
  No cell of these rows narrows 'for every input' (looked for: loops, veiled, ifaces, maps, wideKeys, modest, calm, conditions, laid).
  DERIVED. THE GIVEN ROWS OF THIS SEAT. 9 by the template 'for every input the law returns true; each argument reads behind the call as it read before'; 0 by the template 'total and deterministic' (their statements: YtkglpfdoefdhdaaTotals.lean).
  GIVEN WITH THE SEED: the statements are not yours to turn. If you find one false, say at which input.
  Laid BY PROGRAM, IN A SANDBOX (cutbox-rows.mjs): the forced cells as the released guide's own fill.sh prints them over the translation e92f44053672d91b… (all of the seat's roots in one cut). By AI agents, Wed Nov 11 2026. No macro, syntax, notation, axiom, sorry.
-/
import Derived.Test.YtkglpfdoefdhdaaChecked
import GoSem.Claim
import GoSem.ClaimJoined
import GoSem.ClaimMapViews
import Derived.JoinedTies
import Derived.KernelRfl
namespace Go.Proofs.Ytkglpfdoefdhdaa
/- THE CELL 'sum', in the pinned program and in every row, IS THE sha256 OF THE DUMP (.gsa) THAT YtkglpfdoefdhdaaProg.lean LOADS. Nothing in Lean hashes anything: it is a label: what it is worth is what the hold of that sum in a sandbox is worth. -/
noncomputable def Try.pinned : Pinned := { name := "ytkglpfdoefdhdaa", sum := "e92f44053672d91b8fc59f8352e93a8c6f7c0eb74182042e2beedb95beeb061a", checked := Try.checked }
namespace Rows
def none {H : Type} : Left H := { results := [], args := [] }

/-- 'laws.FnFlaws': WHATEVER THE INPUT: true; the input reads as it did. -/
def fnFlawsSpec : ChangeSpec := { name := "fnFlaws", fn := fun _ => fun
  | [d] => { results := [.lit (.bool true)], args := [d] }
  | _ => none }
def fnFlawsRow : OpenClaim := { program := "ytkglpfdoefdhdaa", sum := "e92f44053672d91b8fc59f8352e93a8c6f7c0eb74182042e2beedb95beeb061a", func := "loop.example/g01023/laws.FnFlaws", spec := "fnFlaws", inPlace := ["slices.overlaps[loop.example/g01023/impl.Flaw]"], unfollowed := true, recurses := true, apart := false }
def FnFlawsSaid : Prop := fnFlawsRow.holds Try.pinned (OpenSpec.ofChange fnFlawsSpec)

/-- ITS FALSE NEIGHBOUR: 'it returns false'. Refute it at one input. -/
def fnFlawsWrong : ChangeSpec := { name := "fnFlaws", fn := fun _ => fun
  | [d] => { results := [.lit (.bool false)], args := [d] }
  | _ => none }
def FnFlawsWrongFalsely : Prop := fnFlawsRow.holds Try.pinned (OpenSpec.ofChange fnFlawsWrong)

/-- 'laws.FnExactNoteFlaw': WHATEVER THE INPUT: true; the input reads as it did. -/
def fnExactNoteFlawSpec : ChangeSpec := { name := "fnExactNoteFlaw", fn := fun _ => fun
  | [d1, d2, d3] => { results := [.lit (.bool true)], args := [d1, d2, d3] }
  | _ => none }
def fnExactNoteFlawRow : OpenClaim := { program := "ytkglpfdoefdhdaa", sum := "e92f44053672d91b8fc59f8352e93a8c6f7c0eb74182042e2beedb95beeb061a", func := "loop.example/g01023/laws.FnExactNoteFlaw", spec := "fnExactNoteFlaw", inPlace := ["slices.overlaps[loop.example/g01023/impl.Flaw]"], unfollowed := true, recurses := true, apart := false }
def FnExactNoteFlawSaid : Prop := fnExactNoteFlawRow.holds Try.pinned (OpenSpec.ofChange fnExactNoteFlawSpec)

/-- ITS FALSE NEIGHBOUR: 'it returns false'. Refute it at one input. -/
def fnExactNoteFlawWrong : ChangeSpec := { name := "fnExactNoteFlaw", fn := fun _ => fun
  | [d1, d2, d3] => { results := [.lit (.bool false)], args := [d1, d2, d3] }
  | _ => none }
def FnExactNoteFlawWrongFalsely : Prop := fnExactNoteFlawRow.holds Try.pinned (OpenSpec.ofChange fnExactNoteFlawWrong)

/-- 'laws.FnExactFewestRepairs': WHATEVER THE INPUT: true; the input reads as it did. -/
def fnExactFewestRepairsSpec : ChangeSpec := { name := "fnExactFewestRepairs", fn := fun _ => fun
  | [d1, d2, d3] => { results := [.lit (.bool true)], args := [d1, d2, d3] }
  | _ => none }
def fnExactFewestRepairsRow : OpenClaim := { program := "ytkglpfdoefdhdaa", sum := "e92f44053672d91b8fc59f8352e93a8c6f7c0eb74182042e2beedb95beeb061a", func := "loop.example/g01023/laws.FnExactFewestRepairs", spec := "fnExactFewestRepairs", unfollowed := true, recurses := true, apart := false }
def FnExactFewestRepairsSaid : Prop := fnExactFewestRepairsRow.holds Try.pinned (OpenSpec.ofChange fnExactFewestRepairsSpec)

/-- ITS FALSE NEIGHBOUR: 'it returns false'. Refute it at one input. -/
def fnExactFewestRepairsWrong : ChangeSpec := { name := "fnExactFewestRepairs", fn := fun _ => fun
  | [d1, d2, d3] => { results := [.lit (.bool false)], args := [d1, d2, d3] }
  | _ => none }
def FnExactFewestRepairsWrongFalsely : Prop := fnExactFewestRepairsRow.holds Try.pinned (OpenSpec.ofChange fnExactFewestRepairsWrong)

/-- 'laws.FnExactShareKnots': WHATEVER THE INPUT: true; the input reads as it did. -/
def fnExactShareKnotsSpec : ChangeSpec := { name := "fnExactShareKnots", fn := fun _ => fun
  | [d1, d2] => { results := [.lit (.bool true)], args := [d1, d2] }
  | _ => none }
def fnExactShareKnotsRow : OpenClaim := { program := "ytkglpfdoefdhdaa", sum := "e92f44053672d91b8fc59f8352e93a8c6f7c0eb74182042e2beedb95beeb061a", func := "loop.example/g01023/laws.FnExactShareKnots", spec := "fnExactShareKnots", unfollowed := true, recurses := true, apart := false }
def FnExactShareKnotsSaid : Prop := fnExactShareKnotsRow.holds Try.pinned (OpenSpec.ofChange fnExactShareKnotsSpec)

/-- ITS FALSE NEIGHBOUR: 'it returns false'. Refute it at one input. -/
def fnExactShareKnotsWrong : ChangeSpec := { name := "fnExactShareKnots", fn := fun _ => fun
  | [d1, d2] => { results := [.lit (.bool false)], args := [d1, d2] }
  | _ => none }
def FnExactShareKnotsWrongFalsely : Prop := fnExactShareKnotsRow.holds Try.pinned (OpenSpec.ofChange fnExactShareKnotsWrong)

/-- 'laws.FnExactAddHole': WHATEVER THE INPUT: true; the input reads as it did. -/
def fnExactAddHoleSpec : ChangeSpec := { name := "fnExactAddHole", fn := fun _ => fun
  | [d1, d2, d3] => { results := [.lit (.bool true)], args := [d1, d2, d3] }
  | _ => none }
def fnExactAddHoleRow : OpenClaim := { program := "ytkglpfdoefdhdaa", sum := "e92f44053672d91b8fc59f8352e93a8c6f7c0eb74182042e2beedb95beeb061a", func := "loop.example/g01023/laws.FnExactAddHole", spec := "fnExactAddHole", inPlace := ["slices.overlaps[loop.example/g01023/impl.Hole]"], unfollowed := true, recurses := true, apart := false }
def FnExactAddHoleSaid : Prop := fnExactAddHoleRow.holds Try.pinned (OpenSpec.ofChange fnExactAddHoleSpec)

/-- ITS FALSE NEIGHBOUR: 'it returns false'. Refute it at one input. -/
def fnExactAddHoleWrong : ChangeSpec := { name := "fnExactAddHole", fn := fun _ => fun
  | [d1, d2, d3] => { results := [.lit (.bool false)], args := [d1, d2, d3] }
  | _ => none }
def FnExactAddHoleWrongFalsely : Prop := fnExactAddHoleRow.holds Try.pinned (OpenSpec.ofChange fnExactAddHoleWrong)

/-- 'laws.FnExactMendOrder': WHATEVER THE INPUT: true; the input reads as it did. -/
def fnExactMendOrderSpec : ChangeSpec := { name := "fnExactMendOrder", fn := fun _ => fun
  | [d1, d2] => { results := [.lit (.bool true)], args := [d1, d2] }
  | _ => none }
def fnExactMendOrderRow : OpenClaim := { program := "ytkglpfdoefdhdaa", sum := "e92f44053672d91b8fc59f8352e93a8c6f7c0eb74182042e2beedb95beeb061a", func := "loop.example/g01023/laws.FnExactMendOrder", spec := "fnExactMendOrder", unfollowed := true, recurses := true, apart := false }
def FnExactMendOrderSaid : Prop := fnExactMendOrderRow.holds Try.pinned (OpenSpec.ofChange fnExactMendOrderSpec)

/-- ITS FALSE NEIGHBOUR: 'it returns false'. Refute it at one input. -/
def fnExactMendOrderWrong : ChangeSpec := { name := "fnExactMendOrder", fn := fun _ => fun
  | [d1, d2] => { results := [.lit (.bool false)], args := [d1, d2] }
  | _ => none }
def FnExactMendOrderWrongFalsely : Prop := fnExactMendOrderRow.holds Try.pinned (OpenSpec.ofChange fnExactMendOrderWrong)

/-- 'laws.FnExactFirstMended': WHATEVER THE INPUT: true; the input reads as it did. -/
def fnExactFirstMendedSpec : ChangeSpec := { name := "fnExactFirstMended", fn := fun _ => fun
  | [d1, d2, d3] => { results := [.lit (.bool true)], args := [d1, d2, d3] }
  | _ => none }
def fnExactFirstMendedRow : OpenClaim := { program := "ytkglpfdoefdhdaa", sum := "e92f44053672d91b8fc59f8352e93a8c6f7c0eb74182042e2beedb95beeb061a", func := "loop.example/g01023/laws.FnExactFirstMended", spec := "fnExactFirstMended", unfollowed := true, recurses := true, apart := false }
def FnExactFirstMendedSaid : Prop := fnExactFirstMendedRow.holds Try.pinned (OpenSpec.ofChange fnExactFirstMendedSpec)

/-- ITS FALSE NEIGHBOUR: 'it returns false'. Refute it at one input. -/
def fnExactFirstMendedWrong : ChangeSpec := { name := "fnExactFirstMended", fn := fun _ => fun
  | [d1, d2, d3] => { results := [.lit (.bool false)], args := [d1, d2, d3] }
  | _ => none }
def FnExactFirstMendedWrongFalsely : Prop := fnExactFirstMendedRow.holds Try.pinned (OpenSpec.ofChange fnExactFirstMendedWrong)

/-- 'laws.FnHoles': WHATEVER THE INPUT: true; the input reads as it did. -/
def fnHolesSpec : ChangeSpec := { name := "fnHoles", fn := fun _ => fun
  | [d] => { results := [.lit (.bool true)], args := [d] }
  | _ => none }
def fnHolesRow : OpenClaim := { program := "ytkglpfdoefdhdaa", sum := "e92f44053672d91b8fc59f8352e93a8c6f7c0eb74182042e2beedb95beeb061a", func := "loop.example/g01023/laws.FnHoles", spec := "fnHoles", inPlace := ["slices.overlaps[loop.example/g01023/impl.Hole]"], unfollowed := true, recurses := true, apart := false }
def FnHolesSaid : Prop := fnHolesRow.holds Try.pinned (OpenSpec.ofChange fnHolesSpec)

/-- ITS FALSE NEIGHBOUR: 'it returns false'. Refute it at one input. -/
def fnHolesWrong : ChangeSpec := { name := "fnHoles", fn := fun _ => fun
  | [d] => { results := [.lit (.bool false)], args := [d] }
  | _ => none }
def FnHolesWrongFalsely : Prop := fnHolesRow.holds Try.pinned (OpenSpec.ofChange fnHolesWrong)

/-- 'laws.FnMending': WHATEVER THE INPUT: true; the input reads as it did. -/
def fnMendingSpec : ChangeSpec := { name := "fnMending", fn := fun _ => fun
  | [d] => { results := [.lit (.bool true)], args := [d] }
  | _ => none }
def fnMendingRow : OpenClaim := { program := "ytkglpfdoefdhdaa", sum := "e92f44053672d91b8fc59f8352e93a8c6f7c0eb74182042e2beedb95beeb061a", func := "loop.example/g01023/laws.FnMending", spec := "fnMending", unfollowed := true, recurses := true, apart := false }
def FnMendingSaid : Prop := fnMendingRow.holds Try.pinned (OpenSpec.ofChange fnMendingSpec)

/-- ITS FALSE NEIGHBOUR: 'it returns false'. Refute it at one input. -/
def fnMendingWrong : ChangeSpec := { name := "fnMending", fn := fun _ => fun
  | [d] => { results := [.lit (.bool false)], args := [d] }
  | _ => none }
def FnMendingWrongFalsely : Prop := fnMendingRow.holds Try.pinned (OpenSpec.ofChange fnMendingWrong)

/- THE SECOND FORM. 'bulk': how many values and letters a reading holds, each counted each time it is reached (what is shared counts as often as it is met; a slice's spare places count too). A statement '..UptoSaid' is the law's where the arguments, and the package variables that the reading takes, are together of bulk at most 1048576: NARROWER than '..Said'. Prove '..Said' where nothing that the law and all that it calls make is longer than what came in: it says more and counts as full. Else prove '..UptoSaid'. A law counts once. -/
mutual
def uptoBulk {H : Type} : DataW H → Nat
  | .lit (.string bytes) => bytes.length + 1
  | .lit _ => 1
  | .nil => 1
  | .ptr d => uptoBulk d + 1
  | .slice elems spare => uptoBulkAll elems + uptoBulkAll spare + 1
  | .agg parts => uptoBulkAll parts + 1
  | .iface _ d => uptoBulk d + 1
  | .map entries => uptoBulkEntries entries + 1
  | .held _ => 1
def uptoBulkAll {H : Type} : List (DataW H) → Nat
  | [] => 0
  | d :: r => uptoBulk d + uptoBulkAll r
def uptoBulkEntries {H : Type} : List (Lit × DataW H) → Nat
  | [] => 0
  | x :: r => uptoBulkEntry x + uptoBulkEntries r
def uptoBulkEntry {H : Type} : Lit × DataW H → Nat
  | (.string bytes, d) => bytes.length + uptoBulk d + 1
  | (_, d) => uptoBulk d + 1
 end
def uptoSmall : (H : Type) → List (DataW H) → Bool := fun _ ds => decide (uptoBulkAll ds ≤ 1048576)
def OpenSpec.upto (s : _root_.Go.ChangeSpec) : _root_.Go.OpenSpec := { _root_.Go.OpenSpec.ofChange s with cond := some uptoSmall }

/-- 'laws.FnFlaws', WHERE WHAT IT READS IS OF BULK AT MOST 1048576: true; the input reads as it did. -/
def fnFlawsUptoRow : OpenClaim := { program := "ytkglpfdoefdhdaa", sum := "e92f44053672d91b8fc59f8352e93a8c6f7c0eb74182042e2beedb95beeb061a", func := "loop.example/g01023/laws.FnFlaws", spec := "fnFlaws", inPlace := ["slices.overlaps[loop.example/g01023/impl.Flaw]"], unfollowed := true, recurses := true, apart := false, narrowed := true }
def FnFlawsUptoSaid : Prop := fnFlawsUptoRow.holds Try.pinned (OpenSpec.upto fnFlawsSpec)

/-- 'laws.FnExactNoteFlaw', WHERE WHAT IT READS IS OF BULK AT MOST 1048576: true; the input reads as it did. -/
def fnExactNoteFlawUptoRow : OpenClaim := { program := "ytkglpfdoefdhdaa", sum := "e92f44053672d91b8fc59f8352e93a8c6f7c0eb74182042e2beedb95beeb061a", func := "loop.example/g01023/laws.FnExactNoteFlaw", spec := "fnExactNoteFlaw", inPlace := ["slices.overlaps[loop.example/g01023/impl.Flaw]"], unfollowed := true, recurses := true, apart := false, narrowed := true }
def FnExactNoteFlawUptoSaid : Prop := fnExactNoteFlawUptoRow.holds Try.pinned (OpenSpec.upto fnExactNoteFlawSpec)

/-- 'laws.FnExactFewestRepairs', WHERE WHAT IT READS IS OF BULK AT MOST 1048576: true; the input reads as it did. -/
def fnExactFewestRepairsUptoRow : OpenClaim := { program := "ytkglpfdoefdhdaa", sum := "e92f44053672d91b8fc59f8352e93a8c6f7c0eb74182042e2beedb95beeb061a", func := "loop.example/g01023/laws.FnExactFewestRepairs", spec := "fnExactFewestRepairs", unfollowed := true, recurses := true, apart := false, narrowed := true }
def FnExactFewestRepairsUptoSaid : Prop := fnExactFewestRepairsUptoRow.holds Try.pinned (OpenSpec.upto fnExactFewestRepairsSpec)

/-- 'laws.FnExactShareKnots', WHERE WHAT IT READS IS OF BULK AT MOST 1048576: true; the input reads as it did. -/
def fnExactShareKnotsUptoRow : OpenClaim := { program := "ytkglpfdoefdhdaa", sum := "e92f44053672d91b8fc59f8352e93a8c6f7c0eb74182042e2beedb95beeb061a", func := "loop.example/g01023/laws.FnExactShareKnots", spec := "fnExactShareKnots", unfollowed := true, recurses := true, apart := false, narrowed := true }
def FnExactShareKnotsUptoSaid : Prop := fnExactShareKnotsUptoRow.holds Try.pinned (OpenSpec.upto fnExactShareKnotsSpec)

/-- 'laws.FnExactAddHole', WHERE WHAT IT READS IS OF BULK AT MOST 1048576: true; the input reads as it did. -/
def fnExactAddHoleUptoRow : OpenClaim := { program := "ytkglpfdoefdhdaa", sum := "e92f44053672d91b8fc59f8352e93a8c6f7c0eb74182042e2beedb95beeb061a", func := "loop.example/g01023/laws.FnExactAddHole", spec := "fnExactAddHole", inPlace := ["slices.overlaps[loop.example/g01023/impl.Hole]"], unfollowed := true, recurses := true, apart := false, narrowed := true }
def FnExactAddHoleUptoSaid : Prop := fnExactAddHoleUptoRow.holds Try.pinned (OpenSpec.upto fnExactAddHoleSpec)

/-- 'laws.FnExactMendOrder', WHERE WHAT IT READS IS OF BULK AT MOST 1048576: true; the input reads as it did. -/
def fnExactMendOrderUptoRow : OpenClaim := { program := "ytkglpfdoefdhdaa", sum := "e92f44053672d91b8fc59f8352e93a8c6f7c0eb74182042e2beedb95beeb061a", func := "loop.example/g01023/laws.FnExactMendOrder", spec := "fnExactMendOrder", unfollowed := true, recurses := true, apart := false, narrowed := true }
def FnExactMendOrderUptoSaid : Prop := fnExactMendOrderUptoRow.holds Try.pinned (OpenSpec.upto fnExactMendOrderSpec)

/-- 'laws.FnExactFirstMended', WHERE WHAT IT READS IS OF BULK AT MOST 1048576: true; the input reads as it did. -/
def fnExactFirstMendedUptoRow : OpenClaim := { program := "ytkglpfdoefdhdaa", sum := "e92f44053672d91b8fc59f8352e93a8c6f7c0eb74182042e2beedb95beeb061a", func := "loop.example/g01023/laws.FnExactFirstMended", spec := "fnExactFirstMended", unfollowed := true, recurses := true, apart := false, narrowed := true }
def FnExactFirstMendedUptoSaid : Prop := fnExactFirstMendedUptoRow.holds Try.pinned (OpenSpec.upto fnExactFirstMendedSpec)

/-- 'laws.FnHoles', WHERE WHAT IT READS IS OF BULK AT MOST 1048576: true; the input reads as it did. -/
def fnHolesUptoRow : OpenClaim := { program := "ytkglpfdoefdhdaa", sum := "e92f44053672d91b8fc59f8352e93a8c6f7c0eb74182042e2beedb95beeb061a", func := "loop.example/g01023/laws.FnHoles", spec := "fnHoles", inPlace := ["slices.overlaps[loop.example/g01023/impl.Hole]"], unfollowed := true, recurses := true, apart := false, narrowed := true }
def FnHolesUptoSaid : Prop := fnHolesUptoRow.holds Try.pinned (OpenSpec.upto fnHolesSpec)

/-- 'laws.FnMending', WHERE WHAT IT READS IS OF BULK AT MOST 1048576: true; the input reads as it did. -/
def fnMendingUptoRow : OpenClaim := { program := "ytkglpfdoefdhdaa", sum := "e92f44053672d91b8fc59f8352e93a8c6f7c0eb74182042e2beedb95beeb061a", func := "loop.example/g01023/laws.FnMending", spec := "fnMending", unfollowed := true, recurses := true, apart := false, narrowed := true }
def FnMendingUptoSaid : Prop := fnMendingUptoRow.holds Try.pinned (OpenSpec.upto fnMendingSpec)

end Rows
end Go.Proofs.Ytkglpfdoefdhdaa

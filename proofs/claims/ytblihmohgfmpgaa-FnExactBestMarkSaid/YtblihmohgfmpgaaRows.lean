/-
  No cell of these rows narrows 'for every input' (looked for: loops, veiled, ifaces, maps, wideKeys, modest, calm, conditions, laid).
  DERIVED. THE GIVEN ROWS OF THIS SEAT. 10 by the template 'for every input the law returns true; each argument reads behind the call as it read before'; 0 by the template 'total and deterministic' (their statements: YtblihmohgfmpgaaTotals.lean).
  GIVEN WITH THE SEED: the statements are not yours to turn. If you find one false, say at which input.
  Laid BY PROGRAM, IN A SANDBOX (cutbox-rows.mjs): the forced cells as the released guide's own fill.sh prints them over the translation 39bcefc846b08747… (all of the seat's roots in one cut). By AI agents, Wed Nov 11 2026. No macro, syntax, notation, axiom, sorry.
-/
import Derived.Test.YtblihmohgfmpgaaChecked
import GoSem.Claim
import GoSem.ClaimJoined
import GoSem.ClaimMapViews
import Derived.JoinedTies
import Derived.KernelRfl
namespace Go.Proofs.Ytblihmohgfmpgaa
/- THE CELL 'sum', in the pinned program and in every row, IS THE sha256 OF THE DUMP (.gsa) THAT YtblihmohgfmpgaaProg.lean LOADS. Nothing in Lean hashes anything: it is a label: what it is worth is what the hold of that sum in a sandbox is worth. -/
noncomputable def Try.pinned : Pinned := { name := "ytblihmohgfmpgaa", sum := "39bcefc846b08747f6afa4b28ee7ec211b41fb4dbe93e6c073ace3be13c6ed2b", checked := Try.checked }
namespace Rows
def none {H : Type} : Left H := { results := [], args := [] }

/-- 'laws.FnExactAreSchools': WHATEVER THE INPUT: true; the input reads as it did. -/
def fnExactAreSchoolsSpec : ChangeSpec := { name := "fnExactAreSchools", fn := fun _ => fun
  | [d] => { results := [.lit (.bool true)], args := [d] }
  | _ => none }
def fnExactAreSchoolsRow : OpenClaim := { program := "ytblihmohgfmpgaa", sum := "39bcefc846b08747f6afa4b28ee7ec211b41fb4dbe93e6c073ace3be13c6ed2b", func := "loop.example/g01023/laws.FnExactAreSchools", spec := "fnExactAreSchools", unfollowed := true, recurses := true, apart := false }
def FnExactAreSchoolsSaid : Prop := fnExactAreSchoolsRow.holds Try.pinned (OpenSpec.ofChange fnExactAreSchoolsSpec)

/-- ITS FALSE NEIGHBOUR: 'it returns false'. Refute it at one input. -/
def fnExactAreSchoolsWrong : ChangeSpec := { name := "fnExactAreSchools", fn := fun _ => fun
  | [d] => { results := [.lit (.bool false)], args := [d] }
  | _ => none }
def FnExactAreSchoolsWrongFalsely : Prop := fnExactAreSchoolsRow.holds Try.pinned (OpenSpec.ofChange fnExactAreSchoolsWrong)

/-- 'laws.FnExactYearsOf': WHATEVER THE INPUT: true; the input reads as it did. -/
def fnExactYearsOfSpec : ChangeSpec := { name := "fnExactYearsOf", fn := fun _ => fun
  | [d1, d2, d3] => { results := [.lit (.bool true)], args := [d1, d2, d3] }
  | _ => none }
def fnExactYearsOfRow : OpenClaim := { program := "ytblihmohgfmpgaa", sum := "39bcefc846b08747f6afa4b28ee7ec211b41fb4dbe93e6c073ace3be13c6ed2b", func := "loop.example/g01023/laws.FnExactYearsOf", spec := "fnExactYearsOf", unfollowed := true, recurses := true, apart := false }
def FnExactYearsOfSaid : Prop := fnExactYearsOfRow.holds Try.pinned (OpenSpec.ofChange fnExactYearsOfSpec)

/-- ITS FALSE NEIGHBOUR: 'it returns false'. Refute it at one input. -/
def fnExactYearsOfWrong : ChangeSpec := { name := "fnExactYearsOf", fn := fun _ => fun
  | [d1, d2, d3] => { results := [.lit (.bool false)], args := [d1, d2, d3] }
  | _ => none }
def FnExactYearsOfWrongFalsely : Prop := fnExactYearsOfRow.holds Try.pinned (OpenSpec.ofChange fnExactYearsOfWrong)

/-- 'laws.FnExactReasonsFor': WHATEVER THE INPUT: true; the input reads as it did. -/
def fnExactReasonsForSpec : ChangeSpec := { name := "fnExactReasonsFor", fn := fun _ => fun
  | [d1, d2, d3] => { results := [.lit (.bool true)], args := [d1, d2, d3] }
  | _ => none }
def fnExactReasonsForRow : OpenClaim := { program := "ytblihmohgfmpgaa", sum := "39bcefc846b08747f6afa4b28ee7ec211b41fb4dbe93e6c073ace3be13c6ed2b", func := "loop.example/g01023/laws.FnExactReasonsFor", spec := "fnExactReasonsFor", unfollowed := true, recurses := true, apart := false }
def FnExactReasonsForSaid : Prop := fnExactReasonsForRow.holds Try.pinned (OpenSpec.ofChange fnExactReasonsForSpec)

/-- ITS FALSE NEIGHBOUR: 'it returns false'. Refute it at one input. -/
def fnExactReasonsForWrong : ChangeSpec := { name := "fnExactReasonsFor", fn := fun _ => fun
  | [d1, d2, d3] => { results := [.lit (.bool false)], args := [d1, d2, d3] }
  | _ => none }
def FnExactReasonsForWrongFalsely : Prop := fnExactReasonsForRow.holds Try.pinned (OpenSpec.ofChange fnExactReasonsForWrong)

/-- 'laws.FnExactReasonsAgainst': WHATEVER THE INPUT: true; the input reads as it did. -/
def fnExactReasonsAgainstSpec : ChangeSpec := { name := "fnExactReasonsAgainst", fn := fun _ => fun
  | [d1, d2, d3] => { results := [.lit (.bool true)], args := [d1, d2, d3] }
  | _ => none }
def fnExactReasonsAgainstRow : OpenClaim := { program := "ytblihmohgfmpgaa", sum := "39bcefc846b08747f6afa4b28ee7ec211b41fb4dbe93e6c073ace3be13c6ed2b", func := "loop.example/g01023/laws.FnExactReasonsAgainst", spec := "fnExactReasonsAgainst", unfollowed := true, recurses := true, apart := false }
def FnExactReasonsAgainstSaid : Prop := fnExactReasonsAgainstRow.holds Try.pinned (OpenSpec.ofChange fnExactReasonsAgainstSpec)

/-- ITS FALSE NEIGHBOUR: 'it returns false'. Refute it at one input. -/
def fnExactReasonsAgainstWrong : ChangeSpec := { name := "fnExactReasonsAgainst", fn := fun _ => fun
  | [d1, d2, d3] => { results := [.lit (.bool false)], args := [d1, d2, d3] }
  | _ => none }
def FnExactReasonsAgainstWrongFalsely : Prop := fnExactReasonsAgainstRow.holds Try.pinned (OpenSpec.ofChange fnExactReasonsAgainstWrong)

/-- 'laws.FnExactIsLikelier': WHATEVER THE INPUT: true; the input reads as it did. -/
def fnExactIsLikelierSpec : ChangeSpec := { name := "fnExactIsLikelier", fn := fun _ => fun
  | [d1, d2, d3, d4] => { results := [.lit (.bool true)], args := [d1, d2, d3, d4] }
  | _ => none }
def fnExactIsLikelierRow : OpenClaim := { program := "ytblihmohgfmpgaa", sum := "39bcefc846b08747f6afa4b28ee7ec211b41fb4dbe93e6c073ace3be13c6ed2b", func := "loop.example/g01023/laws.FnExactIsLikelier", spec := "fnExactIsLikelier", unfollowed := true, recurses := true, apart := false }
def FnExactIsLikelierSaid : Prop := fnExactIsLikelierRow.holds Try.pinned (OpenSpec.ofChange fnExactIsLikelierSpec)

/-- ITS FALSE NEIGHBOUR: 'it returns false'. Refute it at one input. -/
def fnExactIsLikelierWrong : ChangeSpec := { name := "fnExactIsLikelier", fn := fun _ => fun
  | [d1, d2, d3, d4] => { results := [.lit (.bool false)], args := [d1, d2, d3, d4] }
  | _ => none }
def FnExactIsLikelierWrongFalsely : Prop := fnExactIsLikelierRow.holds Try.pinned (OpenSpec.ofChange fnExactIsLikelierWrong)

/-- 'laws.FnExactLikelySchool': WHATEVER THE INPUT: true; the input reads as it did. -/
def fnExactLikelySchoolSpec : ChangeSpec := { name := "fnExactLikelySchool", fn := fun _ => fun
  | [d1, d2] => { results := [.lit (.bool true)], args := [d1, d2] }
  | _ => none }
def fnExactLikelySchoolRow : OpenClaim := { program := "ytblihmohgfmpgaa", sum := "39bcefc846b08747f6afa4b28ee7ec211b41fb4dbe93e6c073ace3be13c6ed2b", func := "loop.example/g01023/laws.FnExactLikelySchool", spec := "fnExactLikelySchool", unfollowed := true, recurses := true, apart := false }
def FnExactLikelySchoolSaid : Prop := fnExactLikelySchoolRow.holds Try.pinned (OpenSpec.ofChange fnExactLikelySchoolSpec)

/-- ITS FALSE NEIGHBOUR: 'it returns false'. Refute it at one input. -/
def fnExactLikelySchoolWrong : ChangeSpec := { name := "fnExactLikelySchool", fn := fun _ => fun
  | [d1, d2] => { results := [.lit (.bool false)], args := [d1, d2] }
  | _ => none }
def FnExactLikelySchoolWrongFalsely : Prop := fnExactLikelySchoolRow.holds Try.pinned (OpenSpec.ofChange fnExactLikelySchoolWrong)

/-- 'laws.FnExactPossibleSchools': WHATEVER THE INPUT: true; the input reads as it did. -/
def fnExactPossibleSchoolsSpec : ChangeSpec := { name := "fnExactPossibleSchools", fn := fun _ => fun
  | [d1, d2] => { results := [.lit (.bool true)], args := [d1, d2] }
  | _ => none }
def fnExactPossibleSchoolsRow : OpenClaim := { program := "ytblihmohgfmpgaa", sum := "39bcefc846b08747f6afa4b28ee7ec211b41fb4dbe93e6c073ace3be13c6ed2b", func := "loop.example/g01023/laws.FnExactPossibleSchools", spec := "fnExactPossibleSchools", unfollowed := true, recurses := true, apart := false }
def FnExactPossibleSchoolsSaid : Prop := fnExactPossibleSchoolsRow.holds Try.pinned (OpenSpec.ofChange fnExactPossibleSchoolsSpec)

/-- ITS FALSE NEIGHBOUR: 'it returns false'. Refute it at one input. -/
def fnExactPossibleSchoolsWrong : ChangeSpec := { name := "fnExactPossibleSchools", fn := fun _ => fun
  | [d1, d2] => { results := [.lit (.bool false)], args := [d1, d2] }
  | _ => none }
def FnExactPossibleSchoolsWrongFalsely : Prop := fnExactPossibleSchoolsRow.holds Try.pinned (OpenSpec.ofChange fnExactPossibleSchoolsWrong)

/-- 'laws.FnExactBestMark': WHATEVER THE INPUT: true; the input reads as it did. -/
def fnExactBestMarkSpec : ChangeSpec := { name := "fnExactBestMark", fn := fun _ => fun
  | [d1, d2] => { results := [.lit (.bool true)], args := [d1, d2] }
  | _ => none }
def fnExactBestMarkRow : OpenClaim := { program := "ytblihmohgfmpgaa", sum := "39bcefc846b08747f6afa4b28ee7ec211b41fb4dbe93e6c073ace3be13c6ed2b", func := "loop.example/g01023/laws.FnExactBestMark", spec := "fnExactBestMark", unfollowed := true, recurses := true, apart := false }
def FnExactBestMarkSaid : Prop := fnExactBestMarkRow.holds Try.pinned (OpenSpec.ofChange fnExactBestMarkSpec)

/-- ITS FALSE NEIGHBOUR: 'it returns false'. Refute it at one input. -/
def fnExactBestMarkWrong : ChangeSpec := { name := "fnExactBestMark", fn := fun _ => fun
  | [d1, d2] => { results := [.lit (.bool false)], args := [d1, d2] }
  | _ => none }
def FnExactBestMarkWrongFalsely : Prop := fnExactBestMarkRow.holds Try.pinned (OpenSpec.ofChange fnExactBestMarkWrong)

/-- 'laws.FnReasons': WHATEVER THE INPUT: true; the input reads as it did. -/
def fnReasonsSpec : ChangeSpec := { name := "fnReasons", fn := fun _ => fun
  | [d] => { results := [.lit (.bool true)], args := [d] }
  | _ => none }
def fnReasonsRow : OpenClaim := { program := "ytblihmohgfmpgaa", sum := "39bcefc846b08747f6afa4b28ee7ec211b41fb4dbe93e6c073ace3be13c6ed2b", func := "loop.example/g01023/laws.FnReasons", spec := "fnReasons", unfollowed := true, recurses := true, apart := false }
def FnReasonsSaid : Prop := fnReasonsRow.holds Try.pinned (OpenSpec.ofChange fnReasonsSpec)

/-- ITS FALSE NEIGHBOUR: 'it returns false'. Refute it at one input. -/
def fnReasonsWrong : ChangeSpec := { name := "fnReasons", fn := fun _ => fun
  | [d] => { results := [.lit (.bool false)], args := [d] }
  | _ => none }
def FnReasonsWrongFalsely : Prop := fnReasonsRow.holds Try.pinned (OpenSpec.ofChange fnReasonsWrong)

/-- 'laws.FnSchools': WHATEVER THE INPUT: true; the input reads as it did. -/
def fnSchoolsSpec : ChangeSpec := { name := "fnSchools", fn := fun _ => fun
  | [d] => { results := [.lit (.bool true)], args := [d] }
  | _ => none }
def fnSchoolsRow : OpenClaim := { program := "ytblihmohgfmpgaa", sum := "39bcefc846b08747f6afa4b28ee7ec211b41fb4dbe93e6c073ace3be13c6ed2b", func := "loop.example/g01023/laws.FnSchools", spec := "fnSchools", unfollowed := true, recurses := true, apart := false }
def FnSchoolsSaid : Prop := fnSchoolsRow.holds Try.pinned (OpenSpec.ofChange fnSchoolsSpec)

/-- ITS FALSE NEIGHBOUR: 'it returns false'. Refute it at one input. -/
def fnSchoolsWrong : ChangeSpec := { name := "fnSchools", fn := fun _ => fun
  | [d] => { results := [.lit (.bool false)], args := [d] }
  | _ => none }
def FnSchoolsWrongFalsely : Prop := fnSchoolsRow.holds Try.pinned (OpenSpec.ofChange fnSchoolsWrong)

/- THE SECOND FORM. 'bulk': how many values and letters a reading holds, each counted each time it is reached (what is shared counts as often as it is met; a slice's spare places count too). A statement '..UptoSaid' is the law's where the arguments, and the package variables that the reading takes, are together of bulk at most 1048576: NARROWER than '..Said'. Prove '..Said' where nothing that the law and all that it calls make is longer than what came in: it says more and counts as full. Else prove '..UptoSaid'. A law counts once. -/
mutual
def uptoBulk {H : Type} : DataW H → Nat
  | .lit (.string bytes) => bytes.length + 1
  | .lit _ => 1
  | .nil => 1
  | .ptr d => uptoBulk d + 1
  | .slice elems spare => uptoBulkAll elems + uptoBulkAll spare + 1
  | .agg parts => uptoBulkAll parts + 1
  | .iface _ d => uptoBulk d + 1
  | .map entries => uptoBulkEntries entries + 1
  | .held _ => 1
def uptoBulkAll {H : Type} : List (DataW H) → Nat
  | [] => 0
  | d :: r => uptoBulk d + uptoBulkAll r
def uptoBulkEntries {H : Type} : List (Lit × DataW H) → Nat
  | [] => 0
  | x :: r => uptoBulkEntry x + uptoBulkEntries r
def uptoBulkEntry {H : Type} : Lit × DataW H → Nat
  | (.string bytes, d) => bytes.length + uptoBulk d + 1
  | (_, d) => uptoBulk d + 1
 end
def uptoSmall : (H : Type) → List (DataW H) → Bool := fun _ ds => decide (uptoBulkAll ds ≤ 1048576)
def OpenSpec.upto (s : _root_.Go.ChangeSpec) : _root_.Go.OpenSpec := { _root_.Go.OpenSpec.ofChange s with cond := some uptoSmall }

/-- 'laws.FnExactAreSchools', WHERE WHAT IT READS IS OF BULK AT MOST 1048576: true; the input reads as it did. -/
def fnExactAreSchoolsUptoRow : OpenClaim := { program := "ytblihmohgfmpgaa", sum := "39bcefc846b08747f6afa4b28ee7ec211b41fb4dbe93e6c073ace3be13c6ed2b", func := "loop.example/g01023/laws.FnExactAreSchools", spec := "fnExactAreSchools", unfollowed := true, recurses := true, apart := false, narrowed := true }
def FnExactAreSchoolsUptoSaid : Prop := fnExactAreSchoolsUptoRow.holds Try.pinned (OpenSpec.upto fnExactAreSchoolsSpec)

/-- 'laws.FnExactYearsOf', WHERE WHAT IT READS IS OF BULK AT MOST 1048576: true; the input reads as it did. -/
def fnExactYearsOfUptoRow : OpenClaim := { program := "ytblihmohgfmpgaa", sum := "39bcefc846b08747f6afa4b28ee7ec211b41fb4dbe93e6c073ace3be13c6ed2b", func := "loop.example/g01023/laws.FnExactYearsOf", spec := "fnExactYearsOf", unfollowed := true, recurses := true, apart := false, narrowed := true }
def FnExactYearsOfUptoSaid : Prop := fnExactYearsOfUptoRow.holds Try.pinned (OpenSpec.upto fnExactYearsOfSpec)

/-- 'laws.FnExactReasonsFor', WHERE WHAT IT READS IS OF BULK AT MOST 1048576: true; the input reads as it did. -/
def fnExactReasonsForUptoRow : OpenClaim := { program := "ytblihmohgfmpgaa", sum := "39bcefc846b08747f6afa4b28ee7ec211b41fb4dbe93e6c073ace3be13c6ed2b", func := "loop.example/g01023/laws.FnExactReasonsFor", spec := "fnExactReasonsFor", unfollowed := true, recurses := true, apart := false, narrowed := true }
def FnExactReasonsForUptoSaid : Prop := fnExactReasonsForUptoRow.holds Try.pinned (OpenSpec.upto fnExactReasonsForSpec)

/-- 'laws.FnExactReasonsAgainst', WHERE WHAT IT READS IS OF BULK AT MOST 1048576: true; the input reads as it did. -/
def fnExactReasonsAgainstUptoRow : OpenClaim := { program := "ytblihmohgfmpgaa", sum := "39bcefc846b08747f6afa4b28ee7ec211b41fb4dbe93e6c073ace3be13c6ed2b", func := "loop.example/g01023/laws.FnExactReasonsAgainst", spec := "fnExactReasonsAgainst", unfollowed := true, recurses := true, apart := false, narrowed := true }
def FnExactReasonsAgainstUptoSaid : Prop := fnExactReasonsAgainstUptoRow.holds Try.pinned (OpenSpec.upto fnExactReasonsAgainstSpec)

/-- 'laws.FnExactIsLikelier', WHERE WHAT IT READS IS OF BULK AT MOST 1048576: true; the input reads as it did. -/
def fnExactIsLikelierUptoRow : OpenClaim := { program := "ytblihmohgfmpgaa", sum := "39bcefc846b08747f6afa4b28ee7ec211b41fb4dbe93e6c073ace3be13c6ed2b", func := "loop.example/g01023/laws.FnExactIsLikelier", spec := "fnExactIsLikelier", unfollowed := true, recurses := true, apart := false, narrowed := true }
def FnExactIsLikelierUptoSaid : Prop := fnExactIsLikelierUptoRow.holds Try.pinned (OpenSpec.upto fnExactIsLikelierSpec)

/-- 'laws.FnExactLikelySchool', WHERE WHAT IT READS IS OF BULK AT MOST 1048576: true; the input reads as it did. -/
def fnExactLikelySchoolUptoRow : OpenClaim := { program := "ytblihmohgfmpgaa", sum := "39bcefc846b08747f6afa4b28ee7ec211b41fb4dbe93e6c073ace3be13c6ed2b", func := "loop.example/g01023/laws.FnExactLikelySchool", spec := "fnExactLikelySchool", unfollowed := true, recurses := true, apart := false, narrowed := true }
def FnExactLikelySchoolUptoSaid : Prop := fnExactLikelySchoolUptoRow.holds Try.pinned (OpenSpec.upto fnExactLikelySchoolSpec)

/-- 'laws.FnExactPossibleSchools', WHERE WHAT IT READS IS OF BULK AT MOST 1048576: true; the input reads as it did. -/
def fnExactPossibleSchoolsUptoRow : OpenClaim := { program := "ytblihmohgfmpgaa", sum := "39bcefc846b08747f6afa4b28ee7ec211b41fb4dbe93e6c073ace3be13c6ed2b", func := "loop.example/g01023/laws.FnExactPossibleSchools", spec := "fnExactPossibleSchools", unfollowed := true, recurses := true, apart := false, narrowed := true }
def FnExactPossibleSchoolsUptoSaid : Prop := fnExactPossibleSchoolsUptoRow.holds Try.pinned (OpenSpec.upto fnExactPossibleSchoolsSpec)

/-- 'laws.FnExactBestMark', WHERE WHAT IT READS IS OF BULK AT MOST 1048576: true; the input reads as it did. -/
def fnExactBestMarkUptoRow : OpenClaim := { program := "ytblihmohgfmpgaa", sum := "39bcefc846b08747f6afa4b28ee7ec211b41fb4dbe93e6c073ace3be13c6ed2b", func := "loop.example/g01023/laws.FnExactBestMark", spec := "fnExactBestMark", unfollowed := true, recurses := true, apart := false, narrowed := true }
def FnExactBestMarkUptoSaid : Prop := fnExactBestMarkUptoRow.holds Try.pinned (OpenSpec.upto fnExactBestMarkSpec)

/-- 'laws.FnReasons', WHERE WHAT IT READS IS OF BULK AT MOST 1048576: true; the input reads as it did. -/
def fnReasonsUptoRow : OpenClaim := { program := "ytblihmohgfmpgaa", sum := "39bcefc846b08747f6afa4b28ee7ec211b41fb4dbe93e6c073ace3be13c6ed2b", func := "loop.example/g01023/laws.FnReasons", spec := "fnReasons", unfollowed := true, recurses := true, apart := false, narrowed := true }
def FnReasonsUptoSaid : Prop := fnReasonsUptoRow.holds Try.pinned (OpenSpec.upto fnReasonsSpec)

/-- 'laws.FnSchools', WHERE WHAT IT READS IS OF BULK AT MOST 1048576: true; the input reads as it did. -/
def fnSchoolsUptoRow : OpenClaim := { program := "ytblihmohgfmpgaa", sum := "39bcefc846b08747f6afa4b28ee7ec211b41fb4dbe93e6c073ace3be13c6ed2b", func := "loop.example/g01023/laws.FnSchools", spec := "fnSchools", unfollowed := true, recurses := true, apart := false, narrowed := true }
def FnSchoolsUptoSaid : Prop := fnSchoolsUptoRow.holds Try.pinned (OpenSpec.upto fnSchoolsSpec)

end Rows
end Go.Proofs.Ytblihmohgfmpgaa

/-
  No cell of these rows narrows 'for every input' (looked for: loops, veiled, ifaces, maps, wideKeys, modest, calm, conditions, laid).
  DERIVED. THE GIVEN ROWS OF THIS SEAT. 6 by the template 'for every input the law returns true; each argument reads behind the call as it read before'; 0 by the template 'total and deterministic' (their statements: YtmhiaggpnkihcaaTotals.lean).
  GIVEN WITH THE SEED: the statements are not yours to turn. If you find one false, say at which input.
  Laid BY PROGRAM, IN A SANDBOX (cutbox-rows.mjs): the forced cells as the released guide's own fill.sh prints them over the translation e316df40123cbb7c… (all of the seat's roots in one cut). By AI agents, Wed Nov 11 2026. No macro, syntax, notation, axiom, sorry.
-/
import Derived.Test.YtmhiaggpnkihcaaChecked
import GoSem.Claim
import GoSem.ClaimJoined
import GoSem.ClaimMapViews
import Derived.JoinedTies
import Derived.KernelRfl
namespace Go.Proofs.Ytmhiaggpnkihcaa
/- THE CELL 'sum', in the pinned program and in every row, IS THE sha256 OF THE DUMP (.gsa) THAT YtmhiaggpnkihcaaProg.lean LOADS. Nothing in Lean hashes anything: it is a label: what it is worth is what the hold of that sum in a sandbox is worth. -/
noncomputable def Try.pinned : Pinned := { name := "ytmhiaggpnkihcaa", sum := "e316df40123cbb7cafd058d862849c9cf2306b0372d6f7eec320f04787fbf337", checked := Try.checked }
namespace Rows
def none {H : Type} : Left H := { results := [], args := [] }

/-- 'laws.FnExactNewShop': WHATEVER THE INPUT: true; the input reads as it did. -/
def fnExactNewShopSpec : ChangeSpec := { name := "fnExactNewShop", fn := fun _ => fun
  | [d] => { results := [.lit (.bool true)], args := [d] }
  | _ => none }
def fnExactNewShopRow : OpenClaim := { program := "ytmhiaggpnkihcaa", sum := "e316df40123cbb7cafd058d862849c9cf2306b0372d6f7eec320f04787fbf337", func := "loop.example/g01023/laws.FnExactNewShop", spec := "fnExactNewShop", apart := false }
def FnExactNewShopSaid : Prop := fnExactNewShopRow.holds Try.pinned (OpenSpec.ofChange fnExactNewShopSpec)

/-- ITS FALSE NEIGHBOUR: 'it returns false'. Refute it at one input. -/
def fnExactNewShopWrong : ChangeSpec := { name := "fnExactNewShop", fn := fun _ => fun
  | [d] => { results := [.lit (.bool false)], args := [d] }
  | _ => none }
def FnExactNewShopWrongFalsely : Prop := fnExactNewShopRow.holds Try.pinned (OpenSpec.ofChange fnExactNewShopWrong)

/-- 'laws.FnExactIsShop': WHATEVER THE INPUT: true; the input reads as it did. -/
def fnExactIsShopSpec : ChangeSpec := { name := "fnExactIsShop", fn := fun _ => fun
  | [d] => { results := [.lit (.bool true)], args := [d] }
  | _ => none }
def fnExactIsShopRow : OpenClaim := { program := "ytmhiaggpnkihcaa", sum := "e316df40123cbb7cafd058d862849c9cf2306b0372d6f7eec320f04787fbf337", func := "loop.example/g01023/laws.FnExactIsShop", spec := "fnExactIsShop", unfollowed := true, recurses := true, apart := false }
def FnExactIsShopSaid : Prop := fnExactIsShopRow.holds Try.pinned (OpenSpec.ofChange fnExactIsShopSpec)

/-- ITS FALSE NEIGHBOUR: 'it returns false'. Refute it at one input. -/
def fnExactIsShopWrong : ChangeSpec := { name := "fnExactIsShop", fn := fun _ => fun
  | [d] => { results := [.lit (.bool false)], args := [d] }
  | _ => none }
def FnExactIsShopWrongFalsely : Prop := fnExactIsShopRow.holds Try.pinned (OpenSpec.ofChange fnExactIsShopWrong)

/-- 'laws.FnExactRowsLeft': WHATEVER THE INPUT: true; the input reads as it did. -/
def fnExactRowsLeftSpec : ChangeSpec := { name := "fnExactRowsLeft", fn := fun _ => fun
  | [d] => { results := [.lit (.bool true)], args := [d] }
  | _ => none }
def fnExactRowsLeftRow : OpenClaim := { program := "ytmhiaggpnkihcaa", sum := "e316df40123cbb7cafd058d862849c9cf2306b0372d6f7eec320f04787fbf337", func := "loop.example/g01023/laws.FnExactRowsLeft", spec := "fnExactRowsLeft", unfollowed := true, recurses := true, apart := false }
def FnExactRowsLeftSaid : Prop := fnExactRowsLeftRow.holds Try.pinned (OpenSpec.ofChange fnExactRowsLeftSpec)

/-- ITS FALSE NEIGHBOUR: 'it returns false'. Refute it at one input. -/
def fnExactRowsLeftWrong : ChangeSpec := { name := "fnExactRowsLeft", fn := fun _ => fun
  | [d] => { results := [.lit (.bool false)], args := [d] }
  | _ => none }
def FnExactRowsLeftWrongFalsely : Prop := fnExactRowsLeftRow.holds Try.pinned (OpenSpec.ofChange fnExactRowsLeftWrong)

/-- 'laws.FnExactDaysToSell': WHATEVER THE INPUT: true; the input reads as it did. -/
def fnExactDaysToSellSpec : ChangeSpec := { name := "fnExactDaysToSell", fn := fun _ => fun
  | [d] => { results := [.lit (.bool true)], args := [d] }
  | _ => none }
def fnExactDaysToSellRow : OpenClaim := { program := "ytmhiaggpnkihcaa", sum := "e316df40123cbb7cafd058d862849c9cf2306b0372d6f7eec320f04787fbf337", func := "loop.example/g01023/laws.FnExactDaysToSell", spec := "fnExactDaysToSell", unfollowed := true, recurses := true, apart := false }
def FnExactDaysToSellSaid : Prop := fnExactDaysToSellRow.holds Try.pinned (OpenSpec.ofChange fnExactDaysToSellSpec)

/-- ITS FALSE NEIGHBOUR: 'it returns false'. Refute it at one input. -/
def fnExactDaysToSellWrong : ChangeSpec := { name := "fnExactDaysToSell", fn := fun _ => fun
  | [d] => { results := [.lit (.bool false)], args := [d] }
  | _ => none }
def FnExactDaysToSellWrongFalsely : Prop := fnExactDaysToSellRow.holds Try.pinned (OpenSpec.ofChange fnExactDaysToSellWrong)

/-- 'laws.FnExactCarpetStates': WHATEVER THE INPUT: true; the input reads as it did. -/
def fnExactCarpetStatesSpec : ChangeSpec := { name := "fnExactCarpetStates", fn := fun _ => fun
  | [d] => { results := [.lit (.bool true)], args := [d] }
  | _ => none }
def fnExactCarpetStatesRow : OpenClaim := { program := "ytmhiaggpnkihcaa", sum := "e316df40123cbb7cafd058d862849c9cf2306b0372d6f7eec320f04787fbf337", func := "loop.example/g01023/laws.FnExactCarpetStates", spec := "fnExactCarpetStates", unfollowed := true, recurses := true, apart := false }
def FnExactCarpetStatesSaid : Prop := fnExactCarpetStatesRow.holds Try.pinned (OpenSpec.ofChange fnExactCarpetStatesSpec)

/-- ITS FALSE NEIGHBOUR: 'it returns false'. Refute it at one input. -/
def fnExactCarpetStatesWrong : ChangeSpec := { name := "fnExactCarpetStates", fn := fun _ => fun
  | [d] => { results := [.lit (.bool false)], args := [d] }
  | _ => none }
def FnExactCarpetStatesWrongFalsely : Prop := fnExactCarpetStatesRow.holds Try.pinned (OpenSpec.ofChange fnExactCarpetStatesWrong)

/-- 'laws.FnExactFreeLooms': WHATEVER THE INPUT: true; the input reads as it did. -/
def fnExactFreeLoomsSpec : ChangeSpec := { name := "fnExactFreeLooms", fn := fun _ => fun
  | [d] => { results := [.lit (.bool true)], args := [d] }
  | _ => none }
def fnExactFreeLoomsRow : OpenClaim := { program := "ytmhiaggpnkihcaa", sum := "e316df40123cbb7cafd058d862849c9cf2306b0372d6f7eec320f04787fbf337", func := "loop.example/g01023/laws.FnExactFreeLooms", spec := "fnExactFreeLooms", unfollowed := true, recurses := true, apart := false }
def FnExactFreeLoomsSaid : Prop := fnExactFreeLoomsRow.holds Try.pinned (OpenSpec.ofChange fnExactFreeLoomsSpec)

/-- ITS FALSE NEIGHBOUR: 'it returns false'. Refute it at one input. -/
def fnExactFreeLoomsWrong : ChangeSpec := { name := "fnExactFreeLooms", fn := fun _ => fun
  | [d] => { results := [.lit (.bool false)], args := [d] }
  | _ => none }
def FnExactFreeLoomsWrongFalsely : Prop := fnExactFreeLoomsRow.holds Try.pinned (OpenSpec.ofChange fnExactFreeLoomsWrong)

/- THE SECOND FORM. 'bulk': how many values and letters a reading holds, each counted each time it is reached (what is shared counts as often as it is met; a slice's spare places count too). A statement '..UptoSaid' is the law's where the arguments, and the package variables that the reading takes, are together of bulk at most 1048576: NARROWER than '..Said'. Prove '..Said' where nothing that the law and all that it calls make is longer than what came in: it says more and counts as full. Else prove '..UptoSaid'. A law counts once. -/
mutual
def uptoBulk {H : Type} : DataW H → Nat
  | .lit (.string bytes) => bytes.length + 1
  | .lit _ => 1
  | .nil => 1
  | .ptr d => uptoBulk d + 1
  | .slice elems spare => uptoBulkAll elems + uptoBulkAll spare + 1
  | .agg parts => uptoBulkAll parts + 1
  | .iface _ d => uptoBulk d + 1
  | .map entries => uptoBulkEntries entries + 1
  | .held _ => 1
def uptoBulkAll {H : Type} : List (DataW H) → Nat
  | [] => 0
  | d :: r => uptoBulk d + uptoBulkAll r
def uptoBulkEntries {H : Type} : List (Lit × DataW H) → Nat
  | [] => 0
  | x :: r => uptoBulkEntry x + uptoBulkEntries r
def uptoBulkEntry {H : Type} : Lit × DataW H → Nat
  | (.string bytes, d) => bytes.length + uptoBulk d + 1
  | (_, d) => uptoBulk d + 1
 end
def uptoSmall : (H : Type) → List (DataW H) → Bool := fun _ ds => decide (uptoBulkAll ds ≤ 1048576)
def OpenSpec.upto (s : _root_.Go.ChangeSpec) : _root_.Go.OpenSpec := { _root_.Go.OpenSpec.ofChange s with cond := some uptoSmall }

/-- 'laws.FnExactNewShop', WHERE WHAT IT READS IS OF BULK AT MOST 1048576: true; the input reads as it did. -/
def fnExactNewShopUptoRow : OpenClaim := { program := "ytmhiaggpnkihcaa", sum := "e316df40123cbb7cafd058d862849c9cf2306b0372d6f7eec320f04787fbf337", func := "loop.example/g01023/laws.FnExactNewShop", spec := "fnExactNewShop", apart := false, narrowed := true }
def FnExactNewShopUptoSaid : Prop := fnExactNewShopUptoRow.holds Try.pinned (OpenSpec.upto fnExactNewShopSpec)

/-- 'laws.FnExactIsShop', WHERE WHAT IT READS IS OF BULK AT MOST 1048576: true; the input reads as it did. -/
def fnExactIsShopUptoRow : OpenClaim := { program := "ytmhiaggpnkihcaa", sum := "e316df40123cbb7cafd058d862849c9cf2306b0372d6f7eec320f04787fbf337", func := "loop.example/g01023/laws.FnExactIsShop", spec := "fnExactIsShop", unfollowed := true, recurses := true, apart := false, narrowed := true }
def FnExactIsShopUptoSaid : Prop := fnExactIsShopUptoRow.holds Try.pinned (OpenSpec.upto fnExactIsShopSpec)

/-- 'laws.FnExactRowsLeft', WHERE WHAT IT READS IS OF BULK AT MOST 1048576: true; the input reads as it did. -/
def fnExactRowsLeftUptoRow : OpenClaim := { program := "ytmhiaggpnkihcaa", sum := "e316df40123cbb7cafd058d862849c9cf2306b0372d6f7eec320f04787fbf337", func := "loop.example/g01023/laws.FnExactRowsLeft", spec := "fnExactRowsLeft", unfollowed := true, recurses := true, apart := false, narrowed := true }
def FnExactRowsLeftUptoSaid : Prop := fnExactRowsLeftUptoRow.holds Try.pinned (OpenSpec.upto fnExactRowsLeftSpec)

/-- 'laws.FnExactDaysToSell', WHERE WHAT IT READS IS OF BULK AT MOST 1048576: true; the input reads as it did. -/
def fnExactDaysToSellUptoRow : OpenClaim := { program := "ytmhiaggpnkihcaa", sum := "e316df40123cbb7cafd058d862849c9cf2306b0372d6f7eec320f04787fbf337", func := "loop.example/g01023/laws.FnExactDaysToSell", spec := "fnExactDaysToSell", unfollowed := true, recurses := true, apart := false, narrowed := true }
def FnExactDaysToSellUptoSaid : Prop := fnExactDaysToSellUptoRow.holds Try.pinned (OpenSpec.upto fnExactDaysToSellSpec)

/-- 'laws.FnExactCarpetStates', WHERE WHAT IT READS IS OF BULK AT MOST 1048576: true; the input reads as it did. -/
def fnExactCarpetStatesUptoRow : OpenClaim := { program := "ytmhiaggpnkihcaa", sum := "e316df40123cbb7cafd058d862849c9cf2306b0372d6f7eec320f04787fbf337", func := "loop.example/g01023/laws.FnExactCarpetStates", spec := "fnExactCarpetStates", unfollowed := true, recurses := true, apart := false, narrowed := true }
def FnExactCarpetStatesUptoSaid : Prop := fnExactCarpetStatesUptoRow.holds Try.pinned (OpenSpec.upto fnExactCarpetStatesSpec)

/-- 'laws.FnExactFreeLooms', WHERE WHAT IT READS IS OF BULK AT MOST 1048576: true; the input reads as it did. -/
def fnExactFreeLoomsUptoRow : OpenClaim := { program := "ytmhiaggpnkihcaa", sum := "e316df40123cbb7cafd058d862849c9cf2306b0372d6f7eec320f04787fbf337", func := "loop.example/g01023/laws.FnExactFreeLooms", spec := "fnExactFreeLooms", unfollowed := true, recurses := true, apart := false, narrowed := true }
def FnExactFreeLoomsUptoSaid : Prop := fnExactFreeLoomsUptoRow.holds Try.pinned (OpenSpec.upto fnExactFreeLoomsSpec)

end Rows
end Go.Proofs.Ytmhiaggpnkihcaa

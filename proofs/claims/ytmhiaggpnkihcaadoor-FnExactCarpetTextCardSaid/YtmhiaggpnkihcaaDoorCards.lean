/-
  DERIVED. GIVEN WITH THE SEED: THE CARDS: each row of YtmhiaggpnkihcaaDoorRows.lean that lists a variable, with what it lists TIED to the program's text (the seventh form; the later family's looks); each row that meets fmt, with fmt's text TOLD by the authors' own Lean function (tested against real Go, not proved from fmt's source: count such statements apart). THE CARD IS WHAT COUNTS. Prove the row's statement (the work); the ties are given (YtmhiaggpnkihcaaDoorTie.lean); close each card by the builder's one call (the guide's Derived/Test/ToyasCard.lean, 'card_holds'). Laid BY PROGRAM, IN A SANDBOX (cutbox-door.mjs). By AI agents, Wed Nov 11 2026. No macro, syntax, notation, axiom, sorry.
-/
import Derived.Test.YtmhiaggpnkihcaaDoorRows
import GoSem.ClaimSeven
namespace Go.Proofs.YtmhiaggpnkihcaaDoor
namespace Rows

/-- THE TIED CARD OF 'laws.FnExactCarpetText'. -/
def fnExactCarpetTextCard : Claim7 := { stood := { row := fnExactCarpetTextRow, standIns := [], harness := (true, "0e4075b950f2f58e7bda506866e4056533c88e9caf98724d24d83ad4b91e82b1"), looks := false }, kinds := [], alts := [], laidByText := true, laidKinds := [.data, .data, .data], laidTests := true, laidLooks := .later }
def FnExactCarpetTextCardSaid : Prop := Claim7.holds Tryd.pinned (.plain (OpenSpec.ofChange fnExactCarpetTextSpec)) fnExactCarpetTextCard

/-- THE SECOND FORM's CARD OF 'laws.FnExactCarpetText'. -/
def fnExactCarpetTextUptoCard : Claim7 := { stood := { row := fnExactCarpetTextUptoRow, standIns := [], harness := (true, "0e4075b950f2f58e7bda506866e4056533c88e9caf98724d24d83ad4b91e82b1"), looks := false }, kinds := [], alts := [], laidByText := true, laidKinds := [.data, .data, .data], laidTests := true, laidLooks := .later }
def FnExactCarpetTextUptoCardSaid : Prop := Claim7.holds Tryd.pinned (.plain (OpenSpec.upto fnExactCarpetTextSpec)) fnExactCarpetTextUptoCard
end Rows
end Go.Proofs.YtmhiaggpnkihcaaDoor

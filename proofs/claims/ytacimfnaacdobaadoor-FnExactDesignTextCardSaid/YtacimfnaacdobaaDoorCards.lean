/-
  DERIVED. GIVEN WITH THE SEED: THE CARDS: each row of YtacimfnaacdobaaDoorRows.lean that lists a variable, with what it lists TIED to the program's text (the seventh form; the later family's looks); each row that meets fmt, with fmt's text TOLD by the authors' own Lean function (tested against real Go, not proved from fmt's source: count such statements apart). THE CARD IS WHAT COUNTS. Prove the row's statement (the work); the ties are given (YtacimfnaacdobaaDoorTie.lean); close each card by the builder's one call (the guide's Derived/Test/ToyasCard.lean, 'card_holds'). Laid BY PROGRAM, IN A SANDBOX (cutbox-door.mjs). By AI agents, Wed Nov 11 2026. No macro, syntax, notation, axiom, sorry.
-/
import Derived.Test.YtacimfnaacdobaaDoorRows
import GoSem.ClaimSeven
namespace Go.Proofs.YtacimfnaacdobaaDoor
namespace Rows

/-- THE TIED CARD OF 'laws.FnExactParseDesign'. -/
def fnExactParseDesignCard : Claim7 := { stood := { row := fnExactParseDesignRow, standIns := [], harness := (true, "d2899abea05172086f245c2903c4af894368a39e80da6f44254483154c1b8cde"), looks := true }, kinds := [], alts := [], laidByText := true, laidKinds := [.data, .data, .data, .data, .sentinel, .sentinel, .pinned], laidTests := true, laidLooks := .later }
def FnExactParseDesignCardSaid : Prop := Claim7.holds Tryd.pinned (.plain (OpenSpec.ofChange fnExactParseDesignSpec)) fnExactParseDesignCard

/-- THE TIED CARD OF 'laws.FnExactDesignText'. -/
def fnExactDesignTextCard : Claim7 := { stood := { row := fnExactDesignTextRow, standIns := [], harness := (true, "d2899abea05172086f245c2903c4af894368a39e80da6f44254483154c1b8cde"), looks := true }, kinds := [], alts := [], laidByText := true, laidKinds := [.data, .data, .data], laidTests := true, laidLooks := .later }
def FnExactDesignTextCardSaid : Prop := Claim7.holds Tryd.pinned (.plain (OpenSpec.ofChange fnExactDesignTextSpec)) fnExactDesignTextCard

/-- THE SECOND FORM's CARD OF 'laws.FnExactParseDesign'. -/
def fnExactParseDesignUptoCard : Claim7 := { stood := { row := fnExactParseDesignUptoRow, standIns := [], harness := (true, "d2899abea05172086f245c2903c4af894368a39e80da6f44254483154c1b8cde"), looks := true }, kinds := [], alts := [], laidByText := true, laidKinds := [.data, .data, .data, .data, .sentinel, .sentinel, .pinned], laidTests := true, laidLooks := .later }
def FnExactParseDesignUptoCardSaid : Prop := Claim7.holds Tryd.pinned (.plain (OpenSpec.upto fnExactParseDesignSpec)) fnExactParseDesignUptoCard

/-- THE SECOND FORM's CARD OF 'laws.FnExactDesignText'. -/
def fnExactDesignTextUptoCard : Claim7 := { stood := { row := fnExactDesignTextUptoRow, standIns := [], harness := (true, "d2899abea05172086f245c2903c4af894368a39e80da6f44254483154c1b8cde"), looks := true }, kinds := [], alts := [], laidByText := true, laidKinds := [.data, .data, .data], laidTests := true, laidLooks := .later }
def FnExactDesignTextUptoCardSaid : Prop := Claim7.holds Tryd.pinned (.plain (OpenSpec.upto fnExactDesignTextSpec)) fnExactDesignTextUptoCard
end Rows
end Go.Proofs.YtacimfnaacdobaaDoor

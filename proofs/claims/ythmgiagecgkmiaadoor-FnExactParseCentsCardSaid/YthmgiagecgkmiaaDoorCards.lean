/-
  DERIVED. GIVEN WITH THE SEED: THE CARDS: each row of YthmgiagecgkmiaaDoorRows.lean that lists a variable, with what it lists TIED to the program's text (the seventh form; the later family's looks); each row that meets fmt, with fmt's text TOLD by the authors' own Lean function (tested against real Go, not proved from fmt's source: count such statements apart). THE CARD IS WHAT COUNTS. Prove the row's statement (the work); the ties are given (YthmgiagecgkmiaaDoorTie.lean); close each card by the builder's one call (the guide's Derived/Test/ToyasCard.lean, 'card_holds'). Laid BY PROGRAM, IN A SANDBOX (cutbox-door.mjs). By AI agents, Wed Nov 11 2026. No macro, syntax, notation, axiom, sorry.
-/
import Derived.Test.YthmgiagecgkmiaaDoorRows
import GoSem.ClaimSeven
namespace Go.Proofs.YthmgiagecgkmiaaDoor
namespace Rows

/-- THE TIED CARD OF 'laws.FnExactCentsText'. -/
def fnExactCentsTextCard : Claim7 := { stood := { row := fnExactCentsTextRow, standIns := [], harness := (true, "508d2132cc91c9c355d2d32b8963c2833378254de86a90ab8b1731b9f0728d14"), looks := false }, kinds := [], alts := [], laidByText := true, laidKinds := [.data, .data, .data], laidTests := true, laidLooks := .later }
def FnExactCentsTextCardSaid : Prop := Claim7.holds Tryd.pinned (.plain (OpenSpec.ofChange fnExactCentsTextSpec)) fnExactCentsTextCard

/-- THE TIED CARD OF 'laws.FnExactMonthLine'. -/
def fnExactMonthLineCard : Claim7 := { stood := { row := fnExactMonthLineRow, standIns := [], harness := (true, "508d2132cc91c9c355d2d32b8963c2833378254de86a90ab8b1731b9f0728d14"), looks := false }, kinds := [], alts := [], laidByText := true, laidKinds := [.data, .data, .data], laidTests := true, laidLooks := .later }
def FnExactMonthLineCardSaid : Prop := Claim7.holds Tryd.pinned (.plain (OpenSpec.ofChange fnExactMonthLineSpec)) fnExactMonthLineCard

/-- THE TIED CARD OF 'laws.FnExactMonthReport'. -/
def fnExactMonthReportCard : Claim7 := { stood := { row := fnExactMonthReportRow, standIns := [], harness := (true, "508d2132cc91c9c355d2d32b8963c2833378254de86a90ab8b1731b9f0728d14"), looks := false }, kinds := [], alts := [], laidByText := true, laidKinds := [.data, .data, .data], laidTests := true, laidLooks := .later }
def FnExactMonthReportCardSaid : Prop := Claim7.holds Tryd.pinned (.plain (OpenSpec.ofChange fnExactMonthReportSpec)) fnExactMonthReportCard

/-- THE TIED CARD OF 'laws.FnExactParseCents'. -/
def fnExactParseCentsCard : Claim7 := { stood := { row := fnExactParseCentsRow, standIns := [], harness := (true, "508d2132cc91c9c355d2d32b8963c2833378254de86a90ab8b1731b9f0728d14"), looks := false }, kinds := [], alts := [], laidByText := true, laidKinds := [.data, .data, .data, .data, .pinned], laidTests := true, laidLooks := .later }
def FnExactParseCentsCardSaid : Prop := Claim7.holds Tryd.pinned (.plain (OpenSpec.ofChange fnExactParseCentsSpec)) fnExactParseCentsCard

/-- THE SECOND FORM's CARD OF 'laws.FnExactCentsText'. -/
def fnExactCentsTextUptoCard : Claim7 := { stood := { row := fnExactCentsTextUptoRow, standIns := [], harness := (true, "508d2132cc91c9c355d2d32b8963c2833378254de86a90ab8b1731b9f0728d14"), looks := false }, kinds := [], alts := [], laidByText := true, laidKinds := [.data, .data, .data], laidTests := true, laidLooks := .later }
def FnExactCentsTextUptoCardSaid : Prop := Claim7.holds Tryd.pinned (.plain (OpenSpec.upto fnExactCentsTextSpec)) fnExactCentsTextUptoCard

/-- THE SECOND FORM's CARD OF 'laws.FnExactMonthLine'. -/
def fnExactMonthLineUptoCard : Claim7 := { stood := { row := fnExactMonthLineUptoRow, standIns := [], harness := (true, "508d2132cc91c9c355d2d32b8963c2833378254de86a90ab8b1731b9f0728d14"), looks := false }, kinds := [], alts := [], laidByText := true, laidKinds := [.data, .data, .data], laidTests := true, laidLooks := .later }
def FnExactMonthLineUptoCardSaid : Prop := Claim7.holds Tryd.pinned (.plain (OpenSpec.upto fnExactMonthLineSpec)) fnExactMonthLineUptoCard

/-- THE SECOND FORM's CARD OF 'laws.FnExactMonthReport'. -/
def fnExactMonthReportUptoCard : Claim7 := { stood := { row := fnExactMonthReportUptoRow, standIns := [], harness := (true, "508d2132cc91c9c355d2d32b8963c2833378254de86a90ab8b1731b9f0728d14"), looks := false }, kinds := [], alts := [], laidByText := true, laidKinds := [.data, .data, .data], laidTests := true, laidLooks := .later }
def FnExactMonthReportUptoCardSaid : Prop := Claim7.holds Tryd.pinned (.plain (OpenSpec.upto fnExactMonthReportSpec)) fnExactMonthReportUptoCard

/-- THE SECOND FORM's CARD OF 'laws.FnExactParseCents'. -/
def fnExactParseCentsUptoCard : Claim7 := { stood := { row := fnExactParseCentsUptoRow, standIns := [], harness := (true, "508d2132cc91c9c355d2d32b8963c2833378254de86a90ab8b1731b9f0728d14"), looks := false }, kinds := [], alts := [], laidByText := true, laidKinds := [.data, .data, .data, .data, .pinned], laidTests := true, laidLooks := .later }
def FnExactParseCentsUptoCardSaid : Prop := Claim7.holds Tryd.pinned (.plain (OpenSpec.upto fnExactParseCentsSpec)) fnExactParseCentsUptoCard
end Rows
end Go.Proofs.YthmgiagecgkmiaaDoor

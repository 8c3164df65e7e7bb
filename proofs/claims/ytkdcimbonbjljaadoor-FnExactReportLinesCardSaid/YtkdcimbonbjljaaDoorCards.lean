/-
  DERIVED. GIVEN WITH THE SEED: THE CARDS: each row of YtkdcimbonbjljaaDoorRows.lean that lists a variable, with what it lists TIED to the program's text (the seventh form; the later family's looks); each row that meets fmt, with fmt's text TOLD by the authors' own Lean function (tested against real Go, not proved from fmt's source: count such statements apart). THE CARD IS WHAT COUNTS. Prove the row's statement (the work); the ties are given (YtkdcimbonbjljaaDoorTie.lean); close each card by the builder's one call (the guide's Derived/Test/ToyasCard.lean, 'card_holds'). Laid BY PROGRAM, IN A SANDBOX (cutbox-door.mjs). By AI agents, Wed Nov 11 2026. No macro, syntax, notation, axiom, sorry.
-/
import Derived.Test.YtkdcimbonbjljaaDoorRows
import GoSem.ClaimSeven
namespace Go.Proofs.YtkdcimbonbjljaaDoor
namespace Rows

/-- THE TIED CARD OF 'laws.FnExactStmtText'. -/
def fnExactStmtTextCard : Claim7 := { stood := { row := fnExactStmtTextRow, standIns := [], harness := (true, "d4150273cee66984e195ff78d2dce7516af2c44ffd546570926b35e2bb7944e5"), looks := false }, kinds := [], alts := [], laidByText := true, laidKinds := [.data, .data, .data], laidTests := true, laidLooks := .later }
def FnExactStmtTextCardSaid : Prop := Claim7.holds Tryd.pinned (.plain (OpenSpec.ofChange fnExactStmtTextSpec)) fnExactStmtTextCard

/-- THE TIED CARD OF 'laws.FnExactReportLines'. -/
def fnExactReportLinesCard : Claim7 := { stood := { row := fnExactReportLinesRow, standIns := [], harness := (true, "d4150273cee66984e195ff78d2dce7516af2c44ffd546570926b35e2bb7944e5"), looks := false }, kinds := [], alts := [], laidByText := true, laidKinds := [.data, .data, .data], laidTests := true, laidLooks := .later }
def FnExactReportLinesCardSaid : Prop := Claim7.holds Tryd.pinned (.plain (OpenSpec.ofChange fnExactReportLinesSpec)) fnExactReportLinesCard

/-- THE SECOND FORM's CARD OF 'laws.FnExactStmtText'. -/
def fnExactStmtTextUptoCard : Claim7 := { stood := { row := fnExactStmtTextUptoRow, standIns := [], harness := (true, "d4150273cee66984e195ff78d2dce7516af2c44ffd546570926b35e2bb7944e5"), looks := false }, kinds := [], alts := [], laidByText := true, laidKinds := [.data, .data, .data], laidTests := true, laidLooks := .later }
def FnExactStmtTextUptoCardSaid : Prop := Claim7.holds Tryd.pinned (.plain (OpenSpec.upto fnExactStmtTextSpec)) fnExactStmtTextUptoCard

/-- THE SECOND FORM's CARD OF 'laws.FnExactReportLines'. -/
def fnExactReportLinesUptoCard : Claim7 := { stood := { row := fnExactReportLinesUptoRow, standIns := [], harness := (true, "d4150273cee66984e195ff78d2dce7516af2c44ffd546570926b35e2bb7944e5"), looks := false }, kinds := [], alts := [], laidByText := true, laidKinds := [.data, .data, .data], laidTests := true, laidLooks := .later }
def FnExactReportLinesUptoCardSaid : Prop := Claim7.holds Tryd.pinned (.plain (OpenSpec.upto fnExactReportLinesSpec)) fnExactReportLinesUptoCard
end Rows
end Go.Proofs.YtkdcimbonbjljaaDoor

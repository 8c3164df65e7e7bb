/-
  DERIVED. GIVEN WITH THE SEED: THE CARDS: each row of YthgjocpbmnpjjaaDoorRows.lean that lists a variable, with what it lists TIED to the program's text (the seventh form; the later family's looks); each row that meets fmt, with fmt's text TOLD by the authors' own Lean function (tested against real Go, not proved from fmt's source: count such statements apart). THE CARD IS WHAT COUNTS. Prove the row's statement (the work); the ties are given (YthgjocpbmnpjjaaDoorTie.lean); close each card by the builder's one call (the guide's Derived/Test/ToyasCard.lean, 'card_holds'). Laid BY PROGRAM, IN A SANDBOX (cutbox-door.mjs). By AI agents, Wed Nov 11 2026. No macro, syntax, notation, axiom, sorry.
-/
import Derived.Test.YthgjocpbmnpjjaaDoorRows
import GoSem.ClaimSeven
namespace Go.Proofs.YthgjocpbmnpjjaaDoor
namespace Rows

/-- THE TIED CARD OF 'laws.FnExactOperandText'. -/
def fnExactOperandTextCard : Claim7 := { stood := { row := fnExactOperandTextRow, standIns := [], harness := (true, "5a3032ab7945ee3c1cf908ae8d09eed8e8b2ed1e264b13ef931f6345718018af"), looks := true }, kinds := [], alts := [], laidByText := true, laidKinds := [.data, .data, .data], laidTests := true, laidLooks := .later }
def FnExactOperandTextCardSaid : Prop := Claim7.holds Tryd.pinned (.plain (OpenSpec.ofChange fnExactOperandTextSpec)) fnExactOperandTextCard

/-- THE TIED CARD OF 'laws.FnExactBoxLines'. -/
def fnExactBoxLinesCard : Claim7 := { stood := { row := fnExactBoxLinesRow, standIns := [], harness := (true, "5a3032ab7945ee3c1cf908ae8d09eed8e8b2ed1e264b13ef931f6345718018af"), looks := true }, kinds := [], alts := [], laidByText := true, laidKinds := [.data, .data, .data], laidTests := true, laidLooks := .later }
def FnExactBoxLinesCardSaid : Prop := Claim7.holds Tryd.pinned (.plain (OpenSpec.ofChange fnExactBoxLinesSpec)) fnExactBoxLinesCard

/-- THE TIED CARD OF 'laws.FnExactDemoProgram'. -/
def fnExactDemoProgramCard : Claim7 := { stood := { row := fnExactDemoProgramRow, standIns := [], harness := (true, "5a3032ab7945ee3c1cf908ae8d09eed8e8b2ed1e264b13ef931f6345718018af"), looks := true }, kinds := [], alts := [], laidByText := true, laidKinds := [.data, .data, .data, .data, .sentinel, .sentinel, .pinned], laidTests := true, laidLooks := .later }
def FnExactDemoProgramCardSaid : Prop := Claim7.holds Tryd.pinned (.plain (OpenSpec.ofChange fnExactDemoProgramSpec)) fnExactDemoProgramCard

/-- THE TIED CARD OF 'laws.FnExactReadStmt'. -/
def fnExactReadStmtCard : Claim7 := { stood := { row := fnExactReadStmtRow, standIns := [], harness := (true, "5a3032ab7945ee3c1cf908ae8d09eed8e8b2ed1e264b13ef931f6345718018af"), looks := true }, kinds := [], alts := [], laidByText := true, laidKinds := [.data, .data, .data, .data, .sentinel, .sentinel, .pinned], laidTests := true, laidLooks := .later }
def FnExactReadStmtCardSaid : Prop := Claim7.holds Tryd.pinned (.plain (OpenSpec.ofChange fnExactReadStmtSpec)) fnExactReadStmtCard

/-- THE TIED CARD OF 'laws.FnStmts'. -/
def fnStmtsCard : Claim7 := { stood := { row := fnStmtsRow, standIns := [], harness := (true, "5a3032ab7945ee3c1cf908ae8d09eed8e8b2ed1e264b13ef931f6345718018af"), looks := true }, kinds := [], alts := [], laidByText := true, laidKinds := [.data, .data, .data, .data, .sentinel, .sentinel, .pinned], laidTests := true, laidLooks := .later }
def FnStmtsCardSaid : Prop := Claim7.holds Tryd.pinned (.plain (OpenSpec.ofChange fnStmtsSpec)) fnStmtsCard

/-- THE SECOND FORM's CARD OF 'laws.FnExactOperandText'. -/
def fnExactOperandTextUptoCard : Claim7 := { stood := { row := fnExactOperandTextUptoRow, standIns := [], harness := (true, "5a3032ab7945ee3c1cf908ae8d09eed8e8b2ed1e264b13ef931f6345718018af"), looks := true }, kinds := [], alts := [], laidByText := true, laidKinds := [.data, .data, .data], laidTests := true, laidLooks := .later }
def FnExactOperandTextUptoCardSaid : Prop := Claim7.holds Tryd.pinned (.plain (OpenSpec.upto fnExactOperandTextSpec)) fnExactOperandTextUptoCard

/-- THE SECOND FORM's CARD OF 'laws.FnExactBoxLines'. -/
def fnExactBoxLinesUptoCard : Claim7 := { stood := { row := fnExactBoxLinesUptoRow, standIns := [], harness := (true, "5a3032ab7945ee3c1cf908ae8d09eed8e8b2ed1e264b13ef931f6345718018af"), looks := true }, kinds := [], alts := [], laidByText := true, laidKinds := [.data, .data, .data], laidTests := true, laidLooks := .later }
def FnExactBoxLinesUptoCardSaid : Prop := Claim7.holds Tryd.pinned (.plain (OpenSpec.upto fnExactBoxLinesSpec)) fnExactBoxLinesUptoCard

/-- THE SECOND FORM's CARD OF 'laws.FnExactDemoProgram'. -/
def fnExactDemoProgramUptoCard : Claim7 := { stood := { row := fnExactDemoProgramUptoRow, standIns := [], harness := (true, "5a3032ab7945ee3c1cf908ae8d09eed8e8b2ed1e264b13ef931f6345718018af"), looks := true }, kinds := [], alts := [], laidByText := true, laidKinds := [.data, .data, .data, .data, .sentinel, .sentinel, .pinned], laidTests := true, laidLooks := .later }
def FnExactDemoProgramUptoCardSaid : Prop := Claim7.holds Tryd.pinned (.plain (OpenSpec.upto fnExactDemoProgramSpec)) fnExactDemoProgramUptoCard

/-- THE SECOND FORM's CARD OF 'laws.FnExactReadStmt'. -/
def fnExactReadStmtUptoCard : Claim7 := { stood := { row := fnExactReadStmtUptoRow, standIns := [], harness := (true, "5a3032ab7945ee3c1cf908ae8d09eed8e8b2ed1e264b13ef931f6345718018af"), looks := true }, kinds := [], alts := [], laidByText := true, laidKinds := [.data, .data, .data, .data, .sentinel, .sentinel, .pinned], laidTests := true, laidLooks := .later }
def FnExactReadStmtUptoCardSaid : Prop := Claim7.holds Tryd.pinned (.plain (OpenSpec.upto fnExactReadStmtSpec)) fnExactReadStmtUptoCard

/-- THE SECOND FORM's CARD OF 'laws.FnStmts'. -/
def fnStmtsUptoCard : Claim7 := { stood := { row := fnStmtsUptoRow, standIns := [], harness := (true, "5a3032ab7945ee3c1cf908ae8d09eed8e8b2ed1e264b13ef931f6345718018af"), looks := true }, kinds := [], alts := [], laidByText := true, laidKinds := [.data, .data, .data, .data, .sentinel, .sentinel, .pinned], laidTests := true, laidLooks := .later }
def FnStmtsUptoCardSaid : Prop := Claim7.holds Tryd.pinned (.plain (OpenSpec.upto fnStmtsSpec)) fnStmtsUptoCard
end Rows
end Go.Proofs.YthgjocpbmnpjjaaDoor

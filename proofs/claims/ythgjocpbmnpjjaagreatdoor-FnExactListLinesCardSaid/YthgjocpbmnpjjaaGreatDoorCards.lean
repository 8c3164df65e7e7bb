/-
  DERIVED. GIVEN WITH THE SEED: THE CARDS: each row of YthgjocpbmnpjjaaGreatDoorRows.lean that lists a variable, with what it lists TIED to the program's text (the seventh form; the later family's looks); each row that meets fmt, with fmt's text TOLD by the authors' own Lean function (tested against real Go, not proved from fmt's source: count such statements apart). THE CARD IS WHAT COUNTS. Prove the row's statement (the work); the ties are given (YthgjocpbmnpjjaaGreatDoorTie.lean); close each card by the builder's one call (the guide's Derived/Test/ToyasCard.lean, 'card_holds'). Laid BY PROGRAM, IN A SANDBOX (cutbox-door.mjs). By AI agents, Wed Nov 11 2026. No macro, syntax, notation, axiom, sorry.
-/
import Derived.Test.YthgjocpbmnpjjaaGreatDoorRows
import GoSem.ClaimSeven
namespace Go.Proofs.YthgjocpbmnpjjaaGreatDoor
namespace Rows

/-- THE TIED CARD OF 'laws.FnExactInstrText'. -/
def fnExactInstrTextCard : Claim7 := { stood := { row := fnExactInstrTextRow, standIns := [], harness := (true, "51be3310fe472d0d38888d005c10e766cea07fdcb354409fba8b029585a4be83"), looks := false }, kinds := [], alts := [], laidByText := true, laidKinds := [.data, .data, .data], laidTests := true, laidLooks := .later }
def FnExactInstrTextCardSaid : Prop := Claim7.holds Tryz.pinned (.plain (OpenSpec.ofChange fnExactInstrTextSpec)) fnExactInstrTextCard

/-- THE TIED CARD OF 'laws.FnExactListLines'. -/
def fnExactListLinesCard : Claim7 := { stood := { row := fnExactListLinesRow, standIns := [], harness := (true, "51be3310fe472d0d38888d005c10e766cea07fdcb354409fba8b029585a4be83"), looks := false }, kinds := [], alts := [], laidByText := true, laidKinds := [.data, .data, .data], laidTests := true, laidLooks := .later }
def FnExactListLinesCardSaid : Prop := Claim7.holds Tryz.pinned (.plain (OpenSpec.ofChange fnExactListLinesSpec)) fnExactListLinesCard

/-- THE SECOND FORM's CARD OF 'laws.FnExactInstrText'. -/
def fnExactInstrTextUptoCard : Claim7 := { stood := { row := fnExactInstrTextUptoRow, standIns := [], harness := (true, "51be3310fe472d0d38888d005c10e766cea07fdcb354409fba8b029585a4be83"), looks := false }, kinds := [], alts := [], laidByText := true, laidKinds := [.data, .data, .data], laidTests := true, laidLooks := .later }
def FnExactInstrTextUptoCardSaid : Prop := Claim7.holds Tryz.pinned (.plain (OpenSpec.upto fnExactInstrTextSpec)) fnExactInstrTextUptoCard

/-- THE SECOND FORM's CARD OF 'laws.FnExactListLines'. -/
def fnExactListLinesUptoCard : Claim7 := { stood := { row := fnExactListLinesUptoRow, standIns := [], harness := (true, "51be3310fe472d0d38888d005c10e766cea07fdcb354409fba8b029585a4be83"), looks := false }, kinds := [], alts := [], laidByText := true, laidKinds := [.data, .data, .data], laidTests := true, laidLooks := .later }
def FnExactListLinesUptoCardSaid : Prop := Claim7.holds Tryz.pinned (.plain (OpenSpec.upto fnExactListLinesSpec)) fnExactListLinesUptoCard
end Rows
end Go.Proofs.YthgjocpbmnpjjaaGreatDoor

/-
  DERIVED. GIVEN WITH THE SEED: THE CARDS: each row of YtnmfmeehmieifaaGreatDoorRows.lean that lists a variable, with what it lists TIED to the program's text (the seventh form; the later family's looks); each row that meets fmt, with fmt's text TOLD by the authors' own Lean function (tested against real Go, not proved from fmt's source: count such statements apart). THE CARD IS WHAT COUNTS. Prove the row's statement (the work); the ties are given (YtnmfmeehmieifaaGreatDoorTie.lean); close each card by the builder's one call (the guide's Derived/Test/ToyasCard.lean, 'card_holds'). Laid BY PROGRAM, IN A SANDBOX (cutbox-door.mjs). By AI agents, Wed Nov 11 2026. No macro, syntax, notation, axiom, sorry.
-/
import Derived.Test.YtnmfmeehmieifaaGreatDoorRows
import GoSem.ClaimSeven
namespace Go.Proofs.YtnmfmeehmieifaaGreatDoor
namespace Rows

/-- THE TIED CARD OF 'laws.FnExactStmtsRun'. -/
def fnExactStmtsRunCard : Claim7 := { stood := { row := fnExactStmtsRunRow, standIns := [], harness := (true, "2c88a20b7af8686071592e7f9324e4341b924566ea0c08009cd127e915ce4aad"), looks := true }, kinds := [], alts := [], laidByText := true, laidKinds := [.sentinel], laidTests := true, laidLooks := .later }
def FnExactStmtsRunCardSaid : Prop := Claim7.holds Tryz.pinned (.plain (OpenSpec.ofChange fnExactStmtsRunSpec)) fnExactStmtsRunCard

/-- THE TIED CARD OF 'laws.FnExactChartText'. -/
def fnExactChartTextCard : Claim7 := { stood := { row := fnExactChartTextRow, standIns := [], harness := (true, "2c88a20b7af8686071592e7f9324e4341b924566ea0c08009cd127e915ce4aad"), looks := true }, kinds := [], alts := [], laidByText := true, laidKinds := [.data, .data, .data], laidTests := true, laidLooks := .later }
def FnExactChartTextCardSaid : Prop := Claim7.holds Tryz.pinned (.plain (OpenSpec.ofChange fnExactChartTextSpec)) fnExactChartTextCard

/-- THE SECOND FORM's CARD OF 'laws.FnExactStmtsRun'. -/
def fnExactStmtsRunUptoCard : Claim7 := { stood := { row := fnExactStmtsRunUptoRow, standIns := [], harness := (true, "2c88a20b7af8686071592e7f9324e4341b924566ea0c08009cd127e915ce4aad"), looks := true }, kinds := [], alts := [], laidByText := true, laidKinds := [.sentinel], laidTests := true, laidLooks := .later }
def FnExactStmtsRunUptoCardSaid : Prop := Claim7.holds Tryz.pinned (.plain (OpenSpec.upto fnExactStmtsRunSpec)) fnExactStmtsRunUptoCard

/-- THE SECOND FORM's CARD OF 'laws.FnExactChartText'. -/
def fnExactChartTextUptoCard : Claim7 := { stood := { row := fnExactChartTextUptoRow, standIns := [], harness := (true, "2c88a20b7af8686071592e7f9324e4341b924566ea0c08009cd127e915ce4aad"), looks := true }, kinds := [], alts := [], laidByText := true, laidKinds := [.data, .data, .data], laidTests := true, laidLooks := .later }
def FnExactChartTextUptoCardSaid : Prop := Claim7.holds Tryz.pinned (.plain (OpenSpec.upto fnExactChartTextSpec)) fnExactChartTextUptoCard
end Rows
end Go.Proofs.YtnmfmeehmieifaaGreatDoor

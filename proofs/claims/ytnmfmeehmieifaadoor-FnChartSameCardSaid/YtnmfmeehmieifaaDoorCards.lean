/-
  DERIVED. GIVEN WITH THE SEED: THE CARDS: each row of YtnmfmeehmieifaaDoorRows.lean that lists a variable, with what it lists TIED to the program's text (the seventh form; the later family's looks); each row that meets fmt, with fmt's text TOLD by the authors' own Lean function (tested against real Go, not proved from fmt's source: count such statements apart). THE CARD IS WHAT COUNTS. Prove the row's statement (the work); the ties are given (YtnmfmeehmieifaaDoorTie.lean); close each card by the builder's one call (the guide's Derived/Test/ToyasCard.lean, 'card_holds'). Laid BY PROGRAM, IN A SANDBOX (cutbox-door.mjs). By AI agents, Wed Nov 11 2026. No macro, syntax, notation, axiom, sorry.
-/
import Derived.Test.YtnmfmeehmieifaaDoorRows
import GoSem.ClaimSeven
namespace Go.Proofs.YtnmfmeehmieifaaDoor
namespace Rows

/-- THE TIED CARD OF 'laws.FnChartSame'. -/
def fnChartSameCard : Claim7 := { stood := { row := fnChartSameRow, standIns := [], harness := (true, "38c6ec136f38d9a7f2161f3447e21529dc42a67ed693447e476715a72322dcda"), looks := false }, kinds := [], alts := [], laidByText := true, laidKinds := [.data, .data, .data], laidTests := true, laidLooks := .later }
def FnChartSameCardSaid : Prop := Claim7.holds Tryd.pinned (.plain (OpenSpec.ofChange fnChartSameSpec)) fnChartSameCard

/-- THE SECOND FORM's CARD OF 'laws.FnChartSame'. -/
def fnChartSameUptoCard : Claim7 := { stood := { row := fnChartSameUptoRow, standIns := [], harness := (true, "38c6ec136f38d9a7f2161f3447e21529dc42a67ed693447e476715a72322dcda"), looks := false }, kinds := [], alts := [], laidByText := true, laidKinds := [.data, .data, .data], laidTests := true, laidLooks := .later }
def FnChartSameUptoCardSaid : Prop := Claim7.holds Tryd.pinned (.plain (OpenSpec.upto fnChartSameSpec)) fnChartSameUptoCard
end Rows
end Go.Proofs.YtnmfmeehmieifaaDoor

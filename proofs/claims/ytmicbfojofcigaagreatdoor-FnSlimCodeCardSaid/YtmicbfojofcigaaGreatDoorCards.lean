/-
  DERIVED. GIVEN WITH THE SEED: THE CARDS: each row of YtmicbfojofcigaaGreatDoorRows.lean that lists a variable, with what it lists TIED to the program's text (the seventh form; the later family's looks); each row that meets fmt, with fmt's text TOLD by the authors' own Lean function (tested against real Go, not proved from fmt's source: count such statements apart). THE CARD IS WHAT COUNTS. Prove the row's statement (the work); the ties are given (YtmicbfojofcigaaGreatDoorTie.lean); close each card by the builder's one call (the guide's Derived/Test/ToyasCard.lean, 'card_holds'). Laid BY PROGRAM, IN A SANDBOX (cutbox-door.mjs). By AI agents, Wed Nov 11 2026. No macro, syntax, notation, axiom, sorry.
-/
import Derived.Test.YtmicbfojofcigaaGreatDoorRows
import GoSem.ClaimSeven
namespace Go.Proofs.YtmicbfojofcigaaGreatDoor
namespace Rows

/-- THE TIED CARD OF 'laws.FnSlimWrites'. -/
def fnSlimWritesCard : Claim7 := { stood := { row := fnSlimWritesRow, standIns := [], harness := (true, "163ba3968a21385348175ea5ae3357d98486feee1fac6d5f12d17bc8097e6927"), looks := true }, kinds := [], alts := [], laidByText := true, laidKinds := [.sentinel], laidTests := true, laidLooks := .later }
def FnSlimWritesCardSaid : Prop := Claim7.holds Tryz.pinned (.plain (OpenSpec.ofChange fnSlimWritesSpec)) fnSlimWritesCard

/-- THE TIED CARD OF 'laws.FnSlimMore'. -/
def fnSlimMoreCard : Claim7 := { stood := { row := fnSlimMoreRow, standIns := [], harness := (true, "163ba3968a21385348175ea5ae3357d98486feee1fac6d5f12d17bc8097e6927"), looks := true }, kinds := [], alts := [], laidByText := true, laidKinds := [.sentinel], laidTests := true, laidLooks := .later }
def FnSlimMoreCardSaid : Prop := Claim7.holds Tryz.pinned (.plain (OpenSpec.ofChange fnSlimMoreSpec)) fnSlimMoreCard

/-- THE TIED CARD OF 'laws.FnCode'. -/
def fnCodeCard : Claim7 := { stood := { row := fnCodeRow, standIns := [], harness := (true, "163ba3968a21385348175ea5ae3357d98486feee1fac6d5f12d17bc8097e6927"), looks := true }, kinds := [], alts := [], laidByText := true, laidKinds := [.sentinel], laidTests := true, laidLooks := .later }
def FnCodeCardSaid : Prop := Claim7.holds Tryz.pinned (.plain (OpenSpec.ofChange fnCodeSpec)) fnCodeCard

/-- THE TIED CARD OF 'laws.FnSlimStmts'. -/
def fnSlimStmtsCard : Claim7 := { stood := { row := fnSlimStmtsRow, standIns := [], harness := (true, "163ba3968a21385348175ea5ae3357d98486feee1fac6d5f12d17bc8097e6927"), looks := true }, kinds := [], alts := [], laidByText := true, laidKinds := [.sentinel], laidTests := true, laidLooks := .later }
def FnSlimStmtsCardSaid : Prop := Claim7.holds Tryz.pinned (.plain (OpenSpec.ofChange fnSlimStmtsSpec)) fnSlimStmtsCard

/-- THE TIED CARD OF 'laws.FnCodeNone'. -/
def fnCodeNoneCard : Claim7 := { stood := { row := fnCodeNoneRow, standIns := [], harness := (true, "163ba3968a21385348175ea5ae3357d98486feee1fac6d5f12d17bc8097e6927"), looks := true }, kinds := [], alts := [], laidByText := true, laidKinds := [.sentinel], laidTests := true, laidLooks := .later }
def FnCodeNoneCardSaid : Prop := Claim7.holds Tryz.pinned (.plain (OpenSpec.ofChange fnCodeNoneSpec)) fnCodeNoneCard

/-- THE TIED CARD OF 'laws.FnSlimCode'. -/
def fnSlimCodeCard : Claim7 := { stood := { row := fnSlimCodeRow, standIns := [], harness := (true, "163ba3968a21385348175ea5ae3357d98486feee1fac6d5f12d17bc8097e6927"), looks := true }, kinds := [], alts := [], laidByText := true, laidKinds := [.sentinel], laidTests := true, laidLooks := .later }
def FnSlimCodeCardSaid : Prop := Claim7.holds Tryz.pinned (.plain (OpenSpec.ofChange fnSlimCodeSpec)) fnSlimCodeCard

/-- THE SECOND FORM's CARD OF 'laws.FnSlimWrites'. -/
def fnSlimWritesUptoCard : Claim7 := { stood := { row := fnSlimWritesUptoRow, standIns := [], harness := (true, "163ba3968a21385348175ea5ae3357d98486feee1fac6d5f12d17bc8097e6927"), looks := true }, kinds := [], alts := [], laidByText := true, laidKinds := [.sentinel], laidTests := true, laidLooks := .later }
def FnSlimWritesUptoCardSaid : Prop := Claim7.holds Tryz.pinned (.plain (OpenSpec.upto fnSlimWritesSpec)) fnSlimWritesUptoCard

/-- THE SECOND FORM's CARD OF 'laws.FnSlimMore'. -/
def fnSlimMoreUptoCard : Claim7 := { stood := { row := fnSlimMoreUptoRow, standIns := [], harness := (true, "163ba3968a21385348175ea5ae3357d98486feee1fac6d5f12d17bc8097e6927"), looks := true }, kinds := [], alts := [], laidByText := true, laidKinds := [.sentinel], laidTests := true, laidLooks := .later }
def FnSlimMoreUptoCardSaid : Prop := Claim7.holds Tryz.pinned (.plain (OpenSpec.upto fnSlimMoreSpec)) fnSlimMoreUptoCard

/-- THE SECOND FORM's CARD OF 'laws.FnCode'. -/
def fnCodeUptoCard : Claim7 := { stood := { row := fnCodeUptoRow, standIns := [], harness := (true, "163ba3968a21385348175ea5ae3357d98486feee1fac6d5f12d17bc8097e6927"), looks := true }, kinds := [], alts := [], laidByText := true, laidKinds := [.sentinel], laidTests := true, laidLooks := .later }
def FnCodeUptoCardSaid : Prop := Claim7.holds Tryz.pinned (.plain (OpenSpec.upto fnCodeSpec)) fnCodeUptoCard

/-- THE SECOND FORM's CARD OF 'laws.FnSlimStmts'. -/
def fnSlimStmtsUptoCard : Claim7 := { stood := { row := fnSlimStmtsUptoRow, standIns := [], harness := (true, "163ba3968a21385348175ea5ae3357d98486feee1fac6d5f12d17bc8097e6927"), looks := true }, kinds := [], alts := [], laidByText := true, laidKinds := [.sentinel], laidTests := true, laidLooks := .later }
def FnSlimStmtsUptoCardSaid : Prop := Claim7.holds Tryz.pinned (.plain (OpenSpec.upto fnSlimStmtsSpec)) fnSlimStmtsUptoCard

/-- THE SECOND FORM's CARD OF 'laws.FnCodeNone'. -/
def fnCodeNoneUptoCard : Claim7 := { stood := { row := fnCodeNoneUptoRow, standIns := [], harness := (true, "163ba3968a21385348175ea5ae3357d98486feee1fac6d5f12d17bc8097e6927"), looks := true }, kinds := [], alts := [], laidByText := true, laidKinds := [.sentinel], laidTests := true, laidLooks := .later }
def FnCodeNoneUptoCardSaid : Prop := Claim7.holds Tryz.pinned (.plain (OpenSpec.upto fnCodeNoneSpec)) fnCodeNoneUptoCard

/-- THE SECOND FORM's CARD OF 'laws.FnSlimCode'. -/
def fnSlimCodeUptoCard : Claim7 := { stood := { row := fnSlimCodeUptoRow, standIns := [], harness := (true, "163ba3968a21385348175ea5ae3357d98486feee1fac6d5f12d17bc8097e6927"), looks := true }, kinds := [], alts := [], laidByText := true, laidKinds := [.sentinel], laidTests := true, laidLooks := .later }
def FnSlimCodeUptoCardSaid : Prop := Claim7.holds Tryz.pinned (.plain (OpenSpec.upto fnSlimCodeSpec)) fnSlimCodeUptoCard
end Rows
end Go.Proofs.YtmicbfojofcigaaGreatDoor

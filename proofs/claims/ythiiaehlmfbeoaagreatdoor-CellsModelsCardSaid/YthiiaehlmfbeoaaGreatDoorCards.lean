/-
  DERIVED. GIVEN WITH THE SEED: THE CARDS: each row of YthiiaehlmfbeoaaGreatDoorRows.lean that lists a variable, with what it lists TIED to the program's text (the seventh form; the later family's looks); each row that meets fmt, with fmt's text TOLD by the authors' own Lean function (tested against real Go, not proved from fmt's source: count such statements apart). THE CARD IS WHAT COUNTS. Prove the row's statement (the work); the ties are given (YthiiaehlmfbeoaaGreatDoorTie.lean); close each card by the builder's one call (the guide's Derived/Test/ToyasCard.lean, 'card_holds'). Laid BY PROGRAM, IN A SANDBOX (cutbox-door.mjs). By AI agents, Wed Nov 11 2026. No macro, syntax, notation, axiom, sorry.
-/
import Derived.Test.YthiiaehlmfbeoaaGreatDoorRows
import GoSem.ClaimSeven
namespace Go.Proofs.YthiiaehlmfbeoaaGreatDoor
namespace Rows

/-- THE TIED CARD OF 'repriselaw26.CellsModels'. -/
def cellsModelsCard : Claim7 := { stood := { row := cellsModelsRow, standIns := [], harness := (true, "e9962111e4a2cd2f2b211f21164bfb422ae112a9921c83805859907c558ccd40"), looks := true }, kinds := [], alts := [], laidByText := true, laidKinds := [.data, .data, .data, .sentinel, .sentinel, .listed, .data, .data, .widerDeep], laidTests := true, laidLooks := .later }
def CellsModelsCardSaid : Prop := Claim7.holds Tryz.pinned (.plain (OpenSpec.ofChange cellsModelsSpec)) cellsModelsCard

/-- THE TIED CARD OF 'repriselaw26.CellsFresh'. -/
def cellsFreshCard : Claim7 := { stood := { row := cellsFreshRow, standIns := [], harness := (true, "e9962111e4a2cd2f2b211f21164bfb422ae112a9921c83805859907c558ccd40"), looks := true }, kinds := [], alts := [], laidByText := true, laidKinds := [.data, .data, .data, .sentinel, .sentinel, .listed, .data, .data, .widerDeep], laidTests := true, laidLooks := .later }
def CellsFreshCardSaid : Prop := Claim7.holds Tryz.pinned (.plain (OpenSpec.ofChange cellsFreshSpec)) cellsFreshCard

/-- THE TIED CARD OF 'repriselaw26.CellsNeeded'. -/
def cellsNeededCard : Claim7 := { stood := { row := cellsNeededRow, standIns := [], harness := (true, "e9962111e4a2cd2f2b211f21164bfb422ae112a9921c83805859907c558ccd40"), looks := true }, kinds := [], alts := [], laidByText := true, laidKinds := [.data, .data, .data, .sentinel, .sentinel, .listed, .data, .data, .widerDeep], laidTests := true, laidLooks := .later }
def CellsNeededCardSaid : Prop := Claim7.holds Tryz.pinned (.plain (OpenSpec.ofChange cellsNeededSpec)) cellsNeededCard

/-- THE TIED CARD OF 'repriselaw26.CellsApart'. -/
def cellsApartCard : Claim7 := { stood := { row := cellsApartRow, standIns := [], harness := (true, "e9962111e4a2cd2f2b211f21164bfb422ae112a9921c83805859907c558ccd40"), looks := true }, kinds := [], alts := [], laidByText := true, laidKinds := [.data, .data, .data, .sentinel, .sentinel, .listed, .data, .data, .widerDeep], laidTests := true, laidLooks := .later }
def CellsApartCardSaid : Prop := Claim7.holds Tryz.pinned (.plain (OpenSpec.ofChange cellsApartSpec)) cellsApartCard

/-- THE TIED CARD OF 'repriselaw26.CellsSame'. -/
def cellsSameCard : Claim7 := { stood := { row := cellsSameRow, standIns := [], harness := (true, "e9962111e4a2cd2f2b211f21164bfb422ae112a9921c83805859907c558ccd40"), looks := true }, kinds := [], alts := [], laidByText := true, laidKinds := [.data, .data, .data, .sentinel, .sentinel, .listed, .data, .data, .widerDeep], laidTests := true, laidLooks := .later }
def CellsSameCardSaid : Prop := Claim7.holds Tryz.pinned (.plain (OpenSpec.ofChange cellsSameSpec)) cellsSameCard

/-- THE SECOND FORM's CARD OF 'repriselaw26.CellsModels'. -/
def cellsModelsUptoCard : Claim7 := { stood := { row := cellsModelsUptoRow, standIns := [], harness := (true, "e9962111e4a2cd2f2b211f21164bfb422ae112a9921c83805859907c558ccd40"), looks := true }, kinds := [], alts := [], laidByText := true, laidKinds := [.data, .data, .data, .sentinel, .sentinel, .listed, .data, .data, .widerDeep], laidTests := true, laidLooks := .later }
def CellsModelsUptoCardSaid : Prop := Claim7.holds Tryz.pinned (.plain (OpenSpec.upto cellsModelsSpec)) cellsModelsUptoCard

/-- THE SECOND FORM's CARD OF 'repriselaw26.CellsFresh'. -/
def cellsFreshUptoCard : Claim7 := { stood := { row := cellsFreshUptoRow, standIns := [], harness := (true, "e9962111e4a2cd2f2b211f21164bfb422ae112a9921c83805859907c558ccd40"), looks := true }, kinds := [], alts := [], laidByText := true, laidKinds := [.data, .data, .data, .sentinel, .sentinel, .listed, .data, .data, .widerDeep], laidTests := true, laidLooks := .later }
def CellsFreshUptoCardSaid : Prop := Claim7.holds Tryz.pinned (.plain (OpenSpec.upto cellsFreshSpec)) cellsFreshUptoCard

/-- THE SECOND FORM's CARD OF 'repriselaw26.CellsNeeded'. -/
def cellsNeededUptoCard : Claim7 := { stood := { row := cellsNeededUptoRow, standIns := [], harness := (true, "e9962111e4a2cd2f2b211f21164bfb422ae112a9921c83805859907c558ccd40"), looks := true }, kinds := [], alts := [], laidByText := true, laidKinds := [.data, .data, .data, .sentinel, .sentinel, .listed, .data, .data, .widerDeep], laidTests := true, laidLooks := .later }
def CellsNeededUptoCardSaid : Prop := Claim7.holds Tryz.pinned (.plain (OpenSpec.upto cellsNeededSpec)) cellsNeededUptoCard

/-- THE SECOND FORM's CARD OF 'repriselaw26.CellsApart'. -/
def cellsApartUptoCard : Claim7 := { stood := { row := cellsApartUptoRow, standIns := [], harness := (true, "e9962111e4a2cd2f2b211f21164bfb422ae112a9921c83805859907c558ccd40"), looks := true }, kinds := [], alts := [], laidByText := true, laidKinds := [.data, .data, .data, .sentinel, .sentinel, .listed, .data, .data, .widerDeep], laidTests := true, laidLooks := .later }
def CellsApartUptoCardSaid : Prop := Claim7.holds Tryz.pinned (.plain (OpenSpec.upto cellsApartSpec)) cellsApartUptoCard

/-- THE SECOND FORM's CARD OF 'repriselaw26.CellsSame'. -/
def cellsSameUptoCard : Claim7 := { stood := { row := cellsSameUptoRow, standIns := [], harness := (true, "e9962111e4a2cd2f2b211f21164bfb422ae112a9921c83805859907c558ccd40"), looks := true }, kinds := [], alts := [], laidByText := true, laidKinds := [.data, .data, .data, .sentinel, .sentinel, .listed, .data, .data, .widerDeep], laidTests := true, laidLooks := .later }
def CellsSameUptoCardSaid : Prop := Claim7.holds Tryz.pinned (.plain (OpenSpec.upto cellsSameSpec)) cellsSameUptoCard
end Rows
end Go.Proofs.YthiiaehlmfbeoaaGreatDoor

/-
  DERIVED. GIVEN WITH THE SEED: THE CARDS: each row of YteikbgknibikmaaGreatDoorRows.lean that lists a variable, with what it lists TIED to the program's text (the seventh form; the later family's looks); each row that meets fmt, with fmt's text TOLD by the authors' own Lean function (tested against real Go, not proved from fmt's source: count such statements apart). THE CARD IS WHAT COUNTS. Prove the row's statement (the work); the ties are given (YteikbgknibikmaaGreatDoorTie.lean); close each card by the builder's one call (the guide's Derived/Test/ToyasCard.lean, 'card_holds'). Laid BY PROGRAM, IN A SANDBOX (cutbox-door.mjs). By AI agents, Wed Nov 11 2026. No macro, syntax, notation, axiom, sorry.
-/
import Derived.Test.YteikbgknibikmaaGreatDoorRows
import GoSem.ClaimSeven
namespace Go.Proofs.YteikbgknibikmaaGreatDoor
namespace Rows

/-- THE TIED CARD OF 'repriselaw22.StdlibState'. -/
def stdlibStateCard : Claim7 := { stood := { row := stdlibStateRow, standIns := [], harness := (true, "dbc75c5743bf478b7c590097c8c0dbe12e8137d1650cb9d89c5fbbed9cc74487"), looks := true }, kinds := [], alts := [], laidByText := true, laidKinds := [.data, .data, .data, .sentinel, .sentinel, .listed, .data, .data, .widerDeep], laidTests := true, laidLooks := .later }
def StdlibStateCardSaid : Prop := Claim7.holds Tryz.pinned (.plain (OpenSpec.ofChange stdlibStateSpec)) stdlibStateCard

/-- THE TIED CARD OF 'repriselaw22.StdlibReader'. -/
def stdlibReaderCard : Claim7 := { stood := { row := stdlibReaderRow, standIns := [], harness := (true, "dbc75c5743bf478b7c590097c8c0dbe12e8137d1650cb9d89c5fbbed9cc74487"), looks := true }, kinds := [], alts := [], laidByText := true, laidKinds := [.data, .data, .data, .sentinel, .sentinel, .listed, .data, .data, .widerDeep], laidTests := true, laidLooks := .later }
def StdlibReaderCardSaid : Prop := Claim7.holds Tryz.pinned (.plain (OpenSpec.ofChange stdlibReaderSpec)) stdlibReaderCard

/-- THE TIED CARD OF 'repriselaw22.StdlibEach'. -/
def stdlibEachCard : Claim7 := { stood := { row := stdlibEachRow, standIns := [], harness := (true, "dbc75c5743bf478b7c590097c8c0dbe12e8137d1650cb9d89c5fbbed9cc74487"), looks := true }, kinds := [], alts := [], laidByText := true, laidKinds := [.data, .data, .data, .sentinel, .sentinel, .listed, .data, .data, .widerDeep], laidTests := true, laidLooks := .later }
def StdlibEachCardSaid : Prop := Claim7.holds Tryz.pinned (.plain (OpenSpec.ofChange stdlibEachSpec)) stdlibEachCard

/-- THE TIED CARD OF 'repriselaw22.StdlibThrows'. -/
def stdlibThrowsCard : Claim7 := { stood := { row := stdlibThrowsRow, standIns := [], harness := (true, "dbc75c5743bf478b7c590097c8c0dbe12e8137d1650cb9d89c5fbbed9cc74487"), looks := true }, kinds := [], alts := [], laidByText := true, laidKinds := [.data, .data, .data, .sentinel, .sentinel, .listed, .data, .data, .widerDeep], laidTests := true, laidLooks := .later }
def StdlibThrowsCardSaid : Prop := Claim7.holds Tryz.pinned (.plain (OpenSpec.ofChange stdlibThrowsSpec)) stdlibThrowsCard

/-- THE SECOND FORM's CARD OF 'repriselaw22.StdlibState'. -/
def stdlibStateUptoCard : Claim7 := { stood := { row := stdlibStateUptoRow, standIns := [], harness := (true, "dbc75c5743bf478b7c590097c8c0dbe12e8137d1650cb9d89c5fbbed9cc74487"), looks := true }, kinds := [], alts := [], laidByText := true, laidKinds := [.data, .data, .data, .sentinel, .sentinel, .listed, .data, .data, .widerDeep], laidTests := true, laidLooks := .later }
def StdlibStateUptoCardSaid : Prop := Claim7.holds Tryz.pinned (.plain (OpenSpec.upto stdlibStateSpec)) stdlibStateUptoCard

/-- THE SECOND FORM's CARD OF 'repriselaw22.StdlibReader'. -/
def stdlibReaderUptoCard : Claim7 := { stood := { row := stdlibReaderUptoRow, standIns := [], harness := (true, "dbc75c5743bf478b7c590097c8c0dbe12e8137d1650cb9d89c5fbbed9cc74487"), looks := true }, kinds := [], alts := [], laidByText := true, laidKinds := [.data, .data, .data, .sentinel, .sentinel, .listed, .data, .data, .widerDeep], laidTests := true, laidLooks := .later }
def StdlibReaderUptoCardSaid : Prop := Claim7.holds Tryz.pinned (.plain (OpenSpec.upto stdlibReaderSpec)) stdlibReaderUptoCard

/-- THE SECOND FORM's CARD OF 'repriselaw22.StdlibEach'. -/
def stdlibEachUptoCard : Claim7 := { stood := { row := stdlibEachUptoRow, standIns := [], harness := (true, "dbc75c5743bf478b7c590097c8c0dbe12e8137d1650cb9d89c5fbbed9cc74487"), looks := true }, kinds := [], alts := [], laidByText := true, laidKinds := [.data, .data, .data, .sentinel, .sentinel, .listed, .data, .data, .widerDeep], laidTests := true, laidLooks := .later }
def StdlibEachUptoCardSaid : Prop := Claim7.holds Tryz.pinned (.plain (OpenSpec.upto stdlibEachSpec)) stdlibEachUptoCard

/-- THE SECOND FORM's CARD OF 'repriselaw22.StdlibThrows'. -/
def stdlibThrowsUptoCard : Claim7 := { stood := { row := stdlibThrowsUptoRow, standIns := [], harness := (true, "dbc75c5743bf478b7c590097c8c0dbe12e8137d1650cb9d89c5fbbed9cc74487"), looks := true }, kinds := [], alts := [], laidByText := true, laidKinds := [.data, .data, .data, .sentinel, .sentinel, .listed, .data, .data, .widerDeep], laidTests := true, laidLooks := .later }
def StdlibThrowsUptoCardSaid : Prop := Claim7.holds Tryz.pinned (.plain (OpenSpec.upto stdlibThrowsSpec)) stdlibThrowsUptoCard
end Rows
end Go.Proofs.YteikbgknibikmaaGreatDoor

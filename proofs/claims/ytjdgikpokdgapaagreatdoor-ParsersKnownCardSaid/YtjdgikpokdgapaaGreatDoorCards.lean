/-
  DERIVED. GIVEN WITH THE SEED: THE CARDS: each row of YtjdgikpokdgapaaGreatDoorRows.lean that lists a variable, with what it lists TIED to the program's text (the seventh form; the later family's looks); each row that meets fmt, with fmt's text TOLD by the authors' own Lean function (tested against real Go, not proved from fmt's source: count such statements apart). THE CARD IS WHAT COUNTS. Prove the row's statement (the work); the ties are given (YtjdgikpokdgapaaGreatDoorTie.lean); close each card by the builder's one call (the guide's Derived/Test/ToyasCard.lean, 'card_holds'). Laid BY PROGRAM, IN A SANDBOX (cutbox-door.mjs). By AI agents, Wed Nov 11 2026. No macro, syntax, notation, axiom, sorry.
-/
import Derived.Test.YtjdgikpokdgapaaGreatDoorRows
import GoSem.ClaimSeven
namespace Go.Proofs.YtjdgikpokdgapaaGreatDoor
namespace Rows

/-- THE TIED CARD OF 'repriselaw27.ParsersParses'. -/
def parsersParsesCard : Claim7 := { stood := { row := parsersParsesRow, standIns := [], harness := (true, "1212af9984c04cc60327f911de240329cc36ace1c7489267265120c3c55c88ee"), looks := true }, kinds := [], alts := [], laidByText := true, laidKinds := [.data, .data, .data, .sentinel, .sentinel, .listed, .data, .data, .widerDeep], laidTests := true, laidLooks := .later }
def ParsersParsesCardSaid : Prop := Claim7.holds Tryz.pinned (.plain (OpenSpec.ofChange parsersParsesSpec)) parsersParsesCard

/-- THE TIED CARD OF 'repriselaw27.ParsersNumbers'. -/
def parsersNumbersCard : Claim7 := { stood := { row := parsersNumbersRow, standIns := [], harness := (true, "1212af9984c04cc60327f911de240329cc36ace1c7489267265120c3c55c88ee"), looks := true }, kinds := [], alts := [], laidByText := true, laidKinds := [.data, .data, .data, .sentinel, .sentinel, .listed, .data, .data, .widerDeep], laidTests := true, laidLooks := .later }
def ParsersNumbersCardSaid : Prop := Claim7.holds Tryz.pinned (.plain (OpenSpec.ofChange parsersNumbersSpec)) parsersNumbersCard

/-- THE TIED CARD OF 'repriselaw27.ParsersKnown'. -/
def parsersKnownCard : Claim7 := { stood := { row := parsersKnownRow, standIns := [], harness := (true, "1212af9984c04cc60327f911de240329cc36ace1c7489267265120c3c55c88ee"), looks := true }, kinds := [], alts := [], laidByText := true, laidKinds := [.data, .data, .data, .sentinel, .sentinel, .listed, .data, .data, .widerDeep], laidTests := true, laidLooks := .later }
def ParsersKnownCardSaid : Prop := Claim7.holds Tryz.pinned (.plain (OpenSpec.ofChange parsersKnownSpec)) parsersKnownCard

/-- THE SECOND FORM's CARD OF 'repriselaw27.ParsersParses'. -/
def parsersParsesUptoCard : Claim7 := { stood := { row := parsersParsesUptoRow, standIns := [], harness := (true, "1212af9984c04cc60327f911de240329cc36ace1c7489267265120c3c55c88ee"), looks := true }, kinds := [], alts := [], laidByText := true, laidKinds := [.data, .data, .data, .sentinel, .sentinel, .listed, .data, .data, .widerDeep], laidTests := true, laidLooks := .later }
def ParsersParsesUptoCardSaid : Prop := Claim7.holds Tryz.pinned (.plain (OpenSpec.upto parsersParsesSpec)) parsersParsesUptoCard

/-- THE SECOND FORM's CARD OF 'repriselaw27.ParsersNumbers'. -/
def parsersNumbersUptoCard : Claim7 := { stood := { row := parsersNumbersUptoRow, standIns := [], harness := (true, "1212af9984c04cc60327f911de240329cc36ace1c7489267265120c3c55c88ee"), looks := true }, kinds := [], alts := [], laidByText := true, laidKinds := [.data, .data, .data, .sentinel, .sentinel, .listed, .data, .data, .widerDeep], laidTests := true, laidLooks := .later }
def ParsersNumbersUptoCardSaid : Prop := Claim7.holds Tryz.pinned (.plain (OpenSpec.upto parsersNumbersSpec)) parsersNumbersUptoCard

/-- THE SECOND FORM's CARD OF 'repriselaw27.ParsersKnown'. -/
def parsersKnownUptoCard : Claim7 := { stood := { row := parsersKnownUptoRow, standIns := [], harness := (true, "1212af9984c04cc60327f911de240329cc36ace1c7489267265120c3c55c88ee"), looks := true }, kinds := [], alts := [], laidByText := true, laidKinds := [.data, .data, .data, .sentinel, .sentinel, .listed, .data, .data, .widerDeep], laidTests := true, laidLooks := .later }
def ParsersKnownUptoCardSaid : Prop := Claim7.holds Tryz.pinned (.plain (OpenSpec.upto parsersKnownSpec)) parsersKnownUptoCard
end Rows
end Go.Proofs.YtjdgikpokdgapaaGreatDoor

/-
  The run of the initialisers, and the tie of the row of ParsersKnown.
-/
import Derived.Test.YtjdgikpokdgapaaGreatDoorKTa
set_option linter.all false
namespace Go.Proofs.YtjdgikpokdgapaaGreatDoor
open Go
set_option maxRecDepth 100000 in
theorem tie7 : ∀ (os : Os) (tape : Tape), (leavesF Tryz.prog 116 8 257 laidT os tape).1 750 = some (laidT.filter fun x => x.2.handleName?.isNone, (funcsListed laidT).map (·.2.funcsOut)) := fun _ _ => by kernel_rfl
theorem seatT : Tryz.prog.laidByTextLater laidT [.data, .data, .data, .sentinel, .sentinel, .listed, .data, .data, .widerDeep] true :=
  Program.laidByTextLater_by_one 116 8 257 tie1 tie2 tie3 tie4 (by rw [nm750]; rfl) (named_at id750 tie6) (fun os tape => (leaves_at id750).trans (tie7 os tape))
set_option maxRecDepth 100000 in
theorem noOwn : Tryz.pinned.checked.prog.headLifts.contains "ownunsafe" = false := by kernel_rfl
theorem rowTie : Rows.parsersKnownRow.laidByTextAt .later Tryz.pinned [.data, .data, .data, .sentinel, .sentinel, .listed, .data, .data, .widerDeep] true :=
  OpenClaim.laidByTextAt_later rfl rfl seatT noOwn
end Go.Proofs.YtjdgikpokdgapaaGreatDoor

/-
  The run of the initialisers, and the tie of the row of StdlibThrows.
-/
import Derived.Test.YteikbgknibikmaaGreatDoorKTa
set_option linter.all false
set_option maxRecDepth 100000
namespace Go.Proofs.YteikbgknibikmaaGreatDoor
open Go
theorem tie7 : ∀ (os : Os) (tape : Tape), (QgD Tryz.prog 116 8 257 laidT os tape).1 792 = some (laidT.filter fun x => x.2.handleName?.isNone, (funcsListed laidT).map (·.2.funcsOut)) := fun _ _ => by kernel_rfl
theorem seatT : Tryz.prog.laidByTextLater laidT [.data, .data, .data, .sentinel, .sentinel, .listed, .data, .data, .widerDeep] true :=
  Program.laidByTextLater_by_one 116 8 257 tie1 tie2 tie3 tie4 (by rw [nmV]; rfl) (Qhq idV tie6) (fun os tape => (Qf6 idV).trans (tie7 os tape))
theorem noOwn : Tryz.pinned.checked.prog.headLifts.contains "ownunsafe" = false := by kernel_rfl
theorem QhW : Rows.stdlibThrowsRow.laidByTextAt .later Tryz.pinned [.data, .data, .data, .sentinel, .sentinel, .listed, .data, .data, .widerDeep] true :=
  OpenClaim.laidByTextAt_later rfl rfl seatT noOwn
end Go.Proofs.YteikbgknibikmaaGreatDoor

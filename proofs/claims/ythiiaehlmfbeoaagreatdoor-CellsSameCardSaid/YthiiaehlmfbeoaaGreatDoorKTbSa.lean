/-
  The run of the initialisers, and the tie of the row of CellsSame.
-/
import Derived.Test.YthiiaehlmfbeoaaGreatDoorKTa
set_option linter.all false
set_option maxRecDepth 100000
namespace Go.Proofs.YthiiaehlmfbeoaaGreatDoor
open Go
theorem tie7 : ∀ (os : Os) (tape : Tape), (QoY Tryz.prog 116 8 257 laidT os tape).1 807 = some (laidT.filter fun x => x.2.handleName?.isNone, (funcsListed laidT).map (·.2.funcsOut)) := fun _ _ => by kernel_rfl
theorem seatT : Tryz.prog.laidByTextLater laidT [.data, .data, .data, .sentinel, .sentinel, .listed, .data, .data, .widerDeep] true :=
  Program.laidByTextLater_by_one 116 8 257 tie1 tie2 tie3 tie4 (by rw [nmV]; rfl) (QoZ idV tie6) (fun os tape => (QoX idV).trans (tie7 os tape))
theorem noOwn : Tryz.pinned.checked.prog.headLifts.contains "ownunsafe" = false := by kernel_rfl
theorem Qo1 : Rows.cellsSameRow.laidByTextAt .later Tryz.pinned [.data, .data, .data, .sentinel, .sentinel, .listed, .data, .data, .widerDeep] true :=
  OpenClaim.laidByTextAt_later rfl rfl seatT noOwn
end Go.Proofs.YthiiaehlmfbeoaaGreatDoor

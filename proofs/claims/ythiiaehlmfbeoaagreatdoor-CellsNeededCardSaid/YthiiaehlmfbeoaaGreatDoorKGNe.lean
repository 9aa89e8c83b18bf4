/-
  No function of the program starts a goroutine; the number of CellsNeeded.
-/
import GoSem.ClaimGoes
import Derived.Test.YthiiaehlmfbeoaaGreatDoorKTa
set_option linter.all false
set_option maxRecDepth 100000
namespace Go.Proofs.YthiiaehlmfbeoaaGreatDoor
open Go
theorem QoT {P : Program} {f : FuncId} (h : P.funcs.toList.any Func.goes = false) : P.goes f = false := by
  have h0 : P.funcs.any Func.goes = false := by rw [← Array.any_toList]; exact h
  have h1 : ∀ g : FuncId, (P.funcs[g]?).any Func.goes = false := fun g => by
    cases e : P.funcs[g]? with
    | none => rfl
    | some fn =>
      have hm : fn ∈ P.funcs.toList := Array.mem_toList_iff.2 (Array.mem_of_getElem? e)
      have := List.any_eq_false.1 h fn hm
      simpa using this
  unfold Program.goes
  rw [h0, Bool.and_false, Bool.or_false]
  exact List.any_eq_false.2 fun g _ => by rw [h1 g]; exact Bool.false_ne_true
theorem QoN {c : OpenClaim} {P : Program} (h : P.funcs.toList.any Func.goes = false) (hs : c.start = .entering) : false = c.goesBy P := by
  unfold OpenClaim.goesBy Program.goesAt Program.goesFrom
  rw [hs]
  cases P.funcNamed c.func with
  | none => rfl
  | some f =>
    show false = (P.goes f || false)
    rw [QoT h]
    rfl
theorem QoW : Tryz.prog.funcs.toList.any Func.goes = false := by kernel_rfl
theorem stays : false = Rows.cellsNeededRow.goesBy Tryz.pinned.checked.prog := QoN QoW rfl
theorem nmF : Tryz.prog.funcNamed "reprise/repriselaw26.CellsNeeded" = some 5 := QoR (by kernel_rfl)
end Go.Proofs.YthiiaehlmfbeoaaGreatDoor

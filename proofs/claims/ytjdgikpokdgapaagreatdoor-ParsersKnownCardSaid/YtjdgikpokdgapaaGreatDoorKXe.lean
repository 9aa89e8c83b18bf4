/-
  Closed facts of the row of ParsersKnown: 12.
-/
import Derived.Test.YtjdgikpokdgapaaGreatDoorRows
import Derived.JoinedOf
import Derived.KernelRfl
set_option linter.all false
namespace Go.Proofs.YtjdgikpokdgapaaGreatDoor
open Go
theorem fact12 : (fun (P : Program) (f : FuncId) (fn : Func) (s : ChangeSpec) (c : OpenClaim) => ((c.recurses == P.recurses f) : Bool)) Tryz.prog 5 Tryz.f5 Rows.parsersKnownSpec Rows.parsersKnownRow = true := by kernel_rfl
end Go.Proofs.YtjdgikpokdgapaaGreatDoor

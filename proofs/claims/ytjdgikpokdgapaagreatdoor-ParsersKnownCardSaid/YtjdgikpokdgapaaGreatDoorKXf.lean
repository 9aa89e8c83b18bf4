/-
  Closed facts of the row of ParsersKnown: 13.
-/
import Derived.Test.YtjdgikpokdgapaaGreatDoorRows
import Derived.JoinedOf
import Derived.KernelRfl
set_option linter.all false
namespace Go.Proofs.YtjdgikpokdgapaaGreatDoor
open Go
theorem fact13 : (fun (P : Program) (f : FuncId) (fn : Func) (s : ChangeSpec) (c : OpenClaim) => ((c.named == P.varsNamed f) : Bool)) Tryz.prog 5 Tryz.f5 Rows.parsersKnownSpec Rows.parsersKnownRow = true := by kernel_rfl
end Go.Proofs.YtjdgikpokdgapaaGreatDoor

/- A part of a proof. -/
import Derived.Test.YthiiaehlmfbeoaaGreatDoorKaItoEC26
set_option linter.all false
set_option maxHeartbeats 4000000
namespace Go.Ab.L26
open Go Go.Ab Go.Proofs
noncomputable section
theorem run1:∀z,Er M4 58 x1 v1 s1 o1 z=z:=by
 intro z;kernel_rfl
end
end Go.Ab.L26

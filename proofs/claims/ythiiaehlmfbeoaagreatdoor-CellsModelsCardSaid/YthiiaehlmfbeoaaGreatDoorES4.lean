/- A part of a proof. -/
import Derived.Test.YthiiaehlmfbeoaaGreatDoorKaItoEC26
set_option linter.all false
set_option maxHeartbeats 4000000
namespace Go.Ab.L26
open Go Go.Ab Go.Proofs
noncomputable section
theorem run5:∀z,Er M7 115 x5 v5 s5 o5 z=z:=by
 intro z;kernel_rfl
end
end Go.Ab.L26

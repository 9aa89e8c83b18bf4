/- A part of a proof. -/
import Derived.Test.YthiiaehlmfbeoaaGreatDoorKaItoEC26
set_option linter.all false
set_option maxHeartbeats 4000000
namespace Go.Ab.L26
open Go Go.Ab Go.Proofs
noncomputable section
theorem run39:∀z,Er M8 88 x2 v39 s39 o39 z=z:=by
 intro z;kernel_rfl
end
end Go.Ab.L26

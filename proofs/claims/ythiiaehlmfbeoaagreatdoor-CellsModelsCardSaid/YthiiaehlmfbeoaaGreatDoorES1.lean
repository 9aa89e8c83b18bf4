/- A part of a proof. -/
import Derived.Test.YthiiaehlmfbeoaaGreatDoorKaItoEC26
set_option linter.all false
set_option maxHeartbeats 4000000
namespace Go.Ab.L26
open Go Go.Ab Go.Proofs
noncomputable section
theorem run0:∀z,Ez M2 93 x0 z=z:=by intro z;kernel_rfl
theorem run2:∀z,Ez M2 93 x2 z=z:=by intro z;kernel_rfl
theorem run3:∀z,Ez M2 93 x3 z=z:=by intro z;kernel_rfl
end
end Go.Ab.L26

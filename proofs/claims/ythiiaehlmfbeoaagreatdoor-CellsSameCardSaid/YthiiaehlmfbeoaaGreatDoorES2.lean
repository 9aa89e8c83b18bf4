/-
  A part of a proof: ES2.
-/
import Derived.Test.YthiiaehlmfbeoaaGreatDoorKaItoEC26
set_option linter.all false
namespace Go.Ab.L26
open Go Go.Ab Go.Proofs
noncomputable section
set_option maxHeartbeats 4000000 in
theorem run1:∀ z:Bool,Qaf Tryz.prog (fun I FS=>Qan (FE I FS) 58 x1 .normal [] 0 .nil (loopK (FE I FS) M4 (fun ks=>iteF (endOk (FE I FS) 58 v1 s1 o1 ks) z false) 5000000))=z:=by
 intro z;kernel_rfl
end
end Go.Ab.L26

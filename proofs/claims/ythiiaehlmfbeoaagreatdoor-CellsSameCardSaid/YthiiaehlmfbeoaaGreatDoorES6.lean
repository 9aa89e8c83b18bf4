/-
  A part of a proof: ES6.
-/
import Derived.Test.YthiiaehlmfbeoaaGreatDoorKaItoEC26
set_option linter.all false
namespace Go.Ab.L26
open Go Go.Ab Go.Proofs
noncomputable section
set_option maxHeartbeats 4000000 in
theorem run40:∀ z:Bool,Qaf Tryz.prog (fun I FS=>Qan (FE I FS) 99 x40 .normal [] 0 .nil (loopK (FE I FS) M9 (fun ks=>iteF (endOk (FE I FS) 99 (.int .i64 0) [] [] ks) z false) 5000000))=z:=by
 intro z;kernel_rfl
end
end Go.Ab.L26

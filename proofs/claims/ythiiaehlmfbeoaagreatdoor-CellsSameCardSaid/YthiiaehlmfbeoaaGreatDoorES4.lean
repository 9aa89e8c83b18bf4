/-
  A part of a proof: ES4.
-/
import Derived.Test.YthiiaehlmfbeoaaGreatDoorKaItoEC26
set_option linter.all false
namespace Go.Ab.L26
open Go Go.Ab Go.Proofs
noncomputable section
set_option maxHeartbeats 4000000 in
theorem run5:∀ z:Bool,Qaf Tryz.prog (fun I FS=>Qan (FE I FS) 115 x5 .normal [] 0 .nil (loopK (FE I FS) M7 (fun ks=>iteF (endOk (FE I FS) 115 v5 s5 o5 ks) z false) 5000000))=z:=by
 intro z;kernel_rfl
end
end Go.Ab.L26

/-
  A part of a proof: ES5.
-/
import Derived.Test.YthiiaehlmfbeoaaGreatDoorKaItoEC26
set_option linter.all false
namespace Go.Ab.L26
open Go Go.Ab Go.Proofs
noncomputable section
set_option maxHeartbeats 4000000 in
theorem run39:∀ z:Bool,Qaf Tryz.prog (fun I FS=>Qan (FE I FS) 88 x2 .normal [] 0 .nil (loopK (FE I FS) M8 (fun ks=>iteF (endOk (FE I FS) 88 v39 s39 o39 ks) z false) 5000000))=z:=by
 intro z;kernel_rfl
end
end Go.Ab.L26

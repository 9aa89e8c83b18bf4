/- A part of a proof. -/
import Derived.Test.YthiiaehlmfbeoaaGreatDoorKaItoEC26
set_option linter.all false
set_option maxHeartbeats 4000000
namespace Go.Ab.L26
open Go Go.Ab Go.Proofs
noncomputable section
theorem Qox:∀z:Bool,Qaf Tryz.prog (fun I FS=>Qan (FE I FS) 16 [] .normal [] 0 .nil (loopK (FE I FS) M11 (fun ks=>iteF (endOk (FE I FS) 16 (.bool true) [] [] ks) z false) 5000000))=z:=by
 intro z;kernel_rfl
end
end Go.Ab.L26

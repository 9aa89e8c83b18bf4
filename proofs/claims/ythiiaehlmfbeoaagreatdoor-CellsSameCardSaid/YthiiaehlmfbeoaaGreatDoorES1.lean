/-
  A part of a proof: ES1.
-/
import Derived.Test.YthiiaehlmfbeoaaGreatDoorKaItoEC26
set_option linter.all false
namespace Go.Ab.L26
open Go Go.Ab Go.Proofs
noncomputable section
set_option maxHeartbeats 4000000 in
theorem run0:∀ z:Bool,Qaf Tryz.prog (fun I FS=>Qan (FE I FS) 93 x0 .normal [] 0 .nil (loopK (FE I FS) M2 (fun ks=>iteF (endOk (FE I FS) 93 (.int .i64 0) [] [] ks) z false) 5000000))=z:=by
 intro z;kernel_rfl
set_option maxHeartbeats 4000000 in
theorem run2:∀ z:Bool,Qaf Tryz.prog (fun I FS=>Qan (FE I FS) 93 x2 .normal [] 0 .nil (loopK (FE I FS) M2 (fun ks=>iteF (endOk (FE I FS) 93 (.int .i64 0) [] [] ks) z false) 5000000))=z:=by
 intro z;kernel_rfl
set_option maxHeartbeats 4000000 in
theorem run3:∀ z:Bool,Qaf Tryz.prog (fun I FS=>Qan (FE I FS) 93 x3 .normal [] 0 .nil (loopK (FE I FS) M2 (fun ks=>iteF (endOk (FE I FS) 93 (.int .i64 0) [] [] ks) z false) 5000000))=z:=by
 intro z;kernel_rfl
end
end Go.Ab.L26

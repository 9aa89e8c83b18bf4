/-
  A part of a proof: KS1.
-/
import Derived.Test.YteikbgknibikmaaGreatDoorKaJtoKE3
set_option linter.all false
namespace Go.Ab.L22
open Go Go.Ab Go.Proofs
noncomputable section
set_option maxHeartbeats 4000000 in
theorem chk_run0 : ∀ z : Bool,QaG Tryz.prog (fun I FS=>Qbx (FE I FS) 71 x0 .normal [] 0 .nil (loopK (FE I FS) M2 (fun ks=>iteF (endOk (FE I FS) 71 (.int .i64 0) [] [] ks) z false) 5000000)) = z:=by
 intro z; kernel_rfl
set_option maxHeartbeats 4000000 in
theorem chk_run2 : ∀ z : Bool,QaG Tryz.prog (fun I FS=>Qbx (FE I FS) 71 x2 .normal [] 0 .nil (loopK (FE I FS) M2 (fun ks=>iteF (endOk (FE I FS) 71 (.int .i64 0) [] [] ks) z false) 5000000)) = z:=by
 intro z; kernel_rfl
set_option maxHeartbeats 4000000 in
theorem chk_run3 : ∀ z : Bool,QaG Tryz.prog (fun I FS=>Qbx (FE I FS) 71 x3 .normal [] 0 .nil (loopK (FE I FS) M2 (fun ks=>iteF (endOk (FE I FS) 71 (.int .i64 0) [] [] ks) z false) 5000000)) = z:=by
 intro z; kernel_rfl
set_option maxHeartbeats 4000000 in
theorem chk_run4 : ∀ z : Bool,QaG Tryz.prog (fun I FS=>Qbx (FE I FS) 71 x4 .normal [] 0 .nil (loopK (FE I FS) M2 (fun ks=>iteF (endOk (FE I FS) 71 (.int .i64 0) [] [] ks) z false) 5000000)) = z:=by
 intro z; kernel_rfl
end
end Go.Ab.L22

/-
  A part of a proof: ES3.
-/
import Derived.Test.YthiiaehlmfbeoaaGreatDoorKaItoEC26
set_option linter.all false
namespace Go.Ab.L26
open Go Go.Ab Go.Proofs
noncomputable section
set_option maxHeartbeats 4000000 in
theorem run4:∀ z:Bool,Qaf Tryz.prog (fun I FS=>Qan (FE I FS) 383 x4 .normal [] 0 .nil (loopK (FE I FS) M3 (fun ks=>iteF (endOk (FE I FS) 383 (.int .i64 0) [] [] ks) z false) 5000000))=z:=by
 intro z;kernel_rfl
set_option maxHeartbeats 4000000 in
theorem run6:∀ z:Bool,Qaf Tryz.prog (fun I FS=>Qan (FE I FS) 383 x6 .normal [] 0 .nil (loopK (FE I FS) M3 (fun ks=>iteF (endOk (FE I FS) 383 (.int .i64 0) [] [] ks) z false) 5000000))=z:=by
 intro z;kernel_rfl
set_option maxHeartbeats 4000000 in
theorem run7:∀ z:Bool,Qaf Tryz.prog (fun I FS=>Qan (FE I FS) 383 x7 .normal [] 0 .nil (loopK (FE I FS) M3 (fun ks=>iteF (endOk (FE I FS) 383 (.int .i64 0) [] [] ks) z false) 5000000))=z:=by
 intro z;kernel_rfl
set_option maxHeartbeats 4000000 in
theorem run8:∀ z:Bool,Qaf Tryz.prog (fun I FS=>Qan (FE I FS) 383 x8 .normal [] 0 .nil (loopK (FE I FS) M3 (fun ks=>iteF (endOk (FE I FS) 383 (.int .i64 0) [] [] ks) z false) 5000000))=z:=by
 intro z;kernel_rfl
set_option maxHeartbeats 4000000 in
theorem run9:∀ z:Bool,Qaf Tryz.prog (fun I FS=>Qan (FE I FS) 383 x9 .normal [] 0 .nil (loopK (FE I FS) M3 (fun ks=>iteF (endOk (FE I FS) 383 (.int .i64 0) [] [] ks) z false) 5000000))=z:=by
 intro z;kernel_rfl
set_option maxHeartbeats 4000000 in
theorem run10:∀ z:Bool,Qaf Tryz.prog (fun I FS=>Qan (FE I FS) 383 x10 .normal [] 0 .nil (loopK (FE I FS) M3 (fun ks=>iteF (endOk (FE I FS) 383 (.int .i64 0) [] [] ks) z false) 5000000))=z:=by
 intro z;kernel_rfl
set_option maxHeartbeats 4000000 in
theorem run11:∀ z:Bool,Qaf Tryz.prog (fun I FS=>Qan (FE I FS) 383 x11 .normal [] 0 .nil (loopK (FE I FS) M3 (fun ks=>iteF (endOk (FE I FS) 383 (.int .i64 0) [] [] ks) z false) 5000000))=z:=by
 intro z;kernel_rfl
set_option maxHeartbeats 4000000 in
theorem run12:∀ z:Bool,Qaf Tryz.prog (fun I FS=>Qan (FE I FS) 383 x12 .normal [] 0 .nil (loopK (FE I FS) M3 (fun ks=>iteF (endOk (FE I FS) 383 (.int .i64 0) [] [] ks) z false) 5000000))=z:=by
 intro z;kernel_rfl
set_option maxHeartbeats 4000000 in
theorem run13:∀ z:Bool,Qaf Tryz.prog (fun I FS=>Qan (FE I FS) 383 x13 .normal [] 0 .nil (loopK (FE I FS) M3 (fun ks=>iteF (endOk (FE I FS) 383 (.int .i64 0) [] [] ks) z false) 5000000))=z:=by
 intro z;kernel_rfl
set_option maxHeartbeats 4000000 in
theorem run14:∀ z:Bool,Qaf Tryz.prog (fun I FS=>Qan (FE I FS) 383 x14 .normal [] 0 .nil (loopK (FE I FS) M3 (fun ks=>iteF (endOk (FE I FS) 383 (.int .i64 0) [] [] ks) z false) 5000000))=z:=by
 intro z;kernel_rfl
set_option maxHeartbeats 4000000 in
theorem run15:∀ z:Bool,Qaf Tryz.prog (fun I FS=>Qan (FE I FS) 383 x15 .normal [] 0 .nil (loopK (FE I FS) M3 (fun ks=>iteF (endOk (FE I FS) 383 (.int .i64 0) [] [] ks) z false) 5000000))=z:=by
 intro z;kernel_rfl
set_option maxHeartbeats 4000000 in
theorem run16:∀ z:Bool,Qaf Tryz.prog (fun I FS=>Qan (FE I FS) 383 x16 .normal [] 0 .nil (loopK (FE I FS) M3 (fun ks=>iteF (endOk (FE I FS) 383 (.int .i64 0) [] [] ks) z false) 5000000))=z:=by
 intro z;kernel_rfl
set_option maxHeartbeats 4000000 in
theorem run17:∀ z:Bool,Qaf Tryz.prog (fun I FS=>Qan (FE I FS) 383 x17 .normal [] 0 .nil (loopK (FE I FS) M3 (fun ks=>iteF (endOk (FE I FS) 383 (.int .i64 0) [] [] ks) z false) 5000000))=z:=by
 intro z;kernel_rfl
set_option maxHeartbeats 4000000 in
theorem run18:∀ z:Bool,Qaf Tryz.prog (fun I FS=>Qan (FE I FS) 383 x18 .normal [] 0 .nil (loopK (FE I FS) M3 (fun ks=>iteF (endOk (FE I FS) 383 (.int .i64 0) [] [] ks) z false) 5000000))=z:=by
 intro z;kernel_rfl
set_option maxHeartbeats 4000000 in
theorem run19:∀ z:Bool,Qaf Tryz.prog (fun I FS=>Qan (FE I FS) 383 x19 .normal [] 0 .nil (loopK (FE I FS) M3 (fun ks=>iteF (endOk (FE I FS) 383 (.int .i64 0) [] [] ks) z false) 5000000))=z:=by
 intro z;kernel_rfl
set_option maxHeartbeats 4000000 in
theorem run20:∀ z:Bool,Qaf Tryz.prog (fun I FS=>Qan (FE I FS) 383 x20 .normal [] 0 .nil (loopK (FE I FS) M3 (fun ks=>iteF (endOk (FE I FS) 383 (.int .i64 0) [] [] ks) z false) 5000000))=z:=by
 intro z;kernel_rfl
set_option maxHeartbeats 4000000 in
theorem run21:∀ z:Bool,Qaf Tryz.prog (fun I FS=>Qan (FE I FS) 383 x21 .normal [] 0 .nil (loopK (FE I FS) M3 (fun ks=>iteF (endOk (FE I FS) 383 (.int .i64 0) [] [] ks) z false) 5000000))=z:=by
 intro z;kernel_rfl
set_option maxHeartbeats 4000000 in
theorem run22:∀ z:Bool,Qaf Tryz.prog (fun I FS=>Qan (FE I FS) 383 x22 .normal [] 0 .nil (loopK (FE I FS) M3 (fun ks=>iteF (endOk (FE I FS) 383 (.int .i64 0) [] [] ks) z false) 5000000))=z:=by
 intro z;kernel_rfl
set_option maxHeartbeats 4000000 in
theorem run23:∀ z:Bool,Qaf Tryz.prog (fun I FS=>Qan (FE I FS) 383 x23 .normal [] 0 .nil (loopK (FE I FS) M3 (fun ks=>iteF (endOk (FE I FS) 383 (.int .i64 0) [] [] ks) z false) 5000000))=z:=by
 intro z;kernel_rfl
set_option maxHeartbeats 4000000 in
theorem run24:∀ z:Bool,Qaf Tryz.prog (fun I FS=>Qan (FE I FS) 383 x24 .normal [] 0 .nil (loopK (FE I FS) M3 (fun ks=>iteF (endOk (FE I FS) 383 (.int .i64 0) [] [] ks) z false) 5000000))=z:=by
 intro z;kernel_rfl
set_option maxHeartbeats 4000000 in
theorem run25:∀ z:Bool,Qaf Tryz.prog (fun I FS=>Qan (FE I FS) 383 x25 .normal [] 0 .nil (loopK (FE I FS) M3 (fun ks=>iteF (endOk (FE I FS) 383 (.int .i64 0) [] [] ks) z false) 5000000))=z:=by
 intro z;kernel_rfl
set_option maxHeartbeats 4000000 in
theorem run26:∀ z:Bool,Qaf Tryz.prog (fun I FS=>Qan (FE I FS) 383 x26 .normal [] 0 .nil (loopK (FE I FS) M3 (fun ks=>iteF (endOk (FE I FS) 383 (.int .i64 0) [] [] ks) z false) 5000000))=z:=by
 intro z;kernel_rfl
set_option maxHeartbeats 4000000 in
theorem run27:∀ z:Bool,Qaf Tryz.prog (fun I FS=>Qan (FE I FS) 383 x27 .normal [] 0 .nil (loopK (FE I FS) M3 (fun ks=>iteF (endOk (FE I FS) 383 (.int .i64 0) [] [] ks) z false) 5000000))=z:=by
 intro z;kernel_rfl
set_option maxHeartbeats 4000000 in
theorem run28:∀ z:Bool,Qaf Tryz.prog (fun I FS=>Qan (FE I FS) 383 x28 .normal [] 0 .nil (loopK (FE I FS) M3 (fun ks=>iteF (endOk (FE I FS) 383 (.int .i64 0) [] [] ks) z false) 5000000))=z:=by
 intro z;kernel_rfl
set_option maxHeartbeats 4000000 in
theorem run29:∀ z:Bool,Qaf Tryz.prog (fun I FS=>Qan (FE I FS) 383 x29 .normal [] 0 .nil (loopK (FE I FS) M3 (fun ks=>iteF (endOk (FE I FS) 383 (.int .i64 0) [] [] ks) z false) 5000000))=z:=by
 intro z;kernel_rfl
set_option maxHeartbeats 4000000 in
theorem run30:∀ z:Bool,Qaf Tryz.prog (fun I FS=>Qan (FE I FS) 383 x30 .normal [] 0 .nil (loopK (FE I FS) M3 (fun ks=>iteF (endOk (FE I FS) 383 (.int .i64 0) [] [] ks) z false) 5000000))=z:=by
 intro z;kernel_rfl
set_option maxHeartbeats 4000000 in
theorem run31:∀ z:Bool,Qaf Tryz.prog (fun I FS=>Qan (FE I FS) 383 x31 .normal [] 0 .nil (loopK (FE I FS) M3 (fun ks=>iteF (endOk (FE I FS) 383 (.int .i64 0) [] [] ks) z false) 5000000))=z:=by
 intro z;kernel_rfl
set_option maxHeartbeats 4000000 in
theorem run32:∀ z:Bool,Qaf Tryz.prog (fun I FS=>Qan (FE I FS) 383 x32 .normal [] 0 .nil (loopK (FE I FS) M3 (fun ks=>iteF (endOk (FE I FS) 383 (.int .i64 0) [] [] ks) z false) 5000000))=z:=by
 intro z;kernel_rfl
set_option maxHeartbeats 4000000 in
theorem run33:∀ z:Bool,Qaf Tryz.prog (fun I FS=>Qan (FE I FS) 383 x33 .normal [] 0 .nil (loopK (FE I FS) M3 (fun ks=>iteF (endOk (FE I FS) 383 (.int .i64 0) [] [] ks) z false) 5000000))=z:=by
 intro z;kernel_rfl
set_option maxHeartbeats 4000000 in
theorem run34:∀ z:Bool,Qaf Tryz.prog (fun I FS=>Qan (FE I FS) 383 x34 .normal [] 0 .nil (loopK (FE I FS) M3 (fun ks=>iteF (endOk (FE I FS) 383 (.int .i64 0) [] [] ks) z false) 5000000))=z:=by
 intro z;kernel_rfl
set_option maxHeartbeats 4000000 in
theorem run35:∀ z:Bool,Qaf Tryz.prog (fun I FS=>Qan (FE I FS) 383 x35 .normal [] 0 .nil (loopK (FE I FS) M3 (fun ks=>iteF (endOk (FE I FS) 383 (.int .i64 0) [] [] ks) z false) 5000000))=z:=by
 intro z;kernel_rfl
set_option maxHeartbeats 4000000 in
theorem run36:∀ z:Bool,Qaf Tryz.prog (fun I FS=>Qan (FE I FS) 383 x36 .normal [] 0 .nil (loopK (FE I FS) M3 (fun ks=>iteF (endOk (FE I FS) 383 (.int .i64 0) [] [] ks) z false) 5000000))=z:=by
 intro z;kernel_rfl
set_option maxHeartbeats 4000000 in
theorem run37:∀ z:Bool,Qaf Tryz.prog (fun I FS=>Qan (FE I FS) 383 x37 .normal [] 0 .nil (loopK (FE I FS) M3 (fun ks=>iteF (endOk (FE I FS) 383 (.int .i64 0) [] [] ks) z false) 5000000))=z:=by
 intro z;kernel_rfl
set_option maxHeartbeats 4000000 in
theorem run38:∀ z:Bool,Qaf Tryz.prog (fun I FS=>Qan (FE I FS) 383 x38 .normal [] 0 .nil (loopK (FE I FS) M3 (fun ks=>iteF (endOk (FE I FS) 383 (.int .i64 0) [] [] ks) z false) 5000000))=z:=by
 intro z;kernel_rfl
end
end Go.Ab.L26

/-
  A part of a proof: KR1.
-/
import Derived.Test.YtjdgikpokdgapaaGreatDoorKDd
set_option linter.all false
namespace Go.Ab
open Go Go.Proofs
noncomputable section
set_option maxHeartbeats 4000000 in
theorem chk_run0 : ∀ z : Bool, withTabs Tryz.prog (fun I FS => enterK (FA I FS) 110 x0 .normal [] 0 .nil (loopK (FA I FS) M2 (fun ks => iteF (endOk (FA I FS) 110 (.int .i64 0) [] [] ks) z false) 5000000)) = z := by
  intro z; kernel_rfl
set_option maxHeartbeats 4000000 in
theorem chk_run2 : ∀ z : Bool, withTabs Tryz.prog (fun I FS => enterK (FA I FS) 110 x2 .normal [] 0 .nil (loopK (FA I FS) M2 (fun ks => iteF (endOk (FA I FS) 110 (.int .i64 0) [] [] ks) z false) 5000000)) = z := by
  intro z; kernel_rfl
set_option maxHeartbeats 4000000 in
theorem chk_run3 : ∀ z : Bool, withTabs Tryz.prog (fun I FS => enterK (FA I FS) 110 x3 .normal [] 0 .nil (loopK (FA I FS) M2 (fun ks => iteF (endOk (FA I FS) 110 (.int .i64 0) [] [] ks) z false) 5000000)) = z := by
  intro z; kernel_rfl
set_option maxHeartbeats 4000000 in
theorem chk_run5 : ∀ z : Bool, withTabs Tryz.prog (fun I FS => enterK (FA I FS) 110 x5 .normal [] 0 .nil (loopK (FA I FS) M2 (fun ks => iteF (endOk (FA I FS) 110 (.int .i64 0) [] [] ks) z false) 5000000)) = z := by
  intro z; kernel_rfl
end
end Go.Ab

/-
  A part of a proof: KR4.
-/
import Derived.Test.YtjdgikpokdgapaaGreatDoorKDd
set_option linter.all false
namespace Go.Ab
open Go Go.Proofs
noncomputable section
set_option maxHeartbeats 4000000 in
theorem compile_run : ∀ z : Bool, withTabs Tryz.prog (fun I FS => enterK (FB I FS) 47 x2 .normal [] 0 .nil (loopK (FB I FS) M6 (fun ks => iteF (endOk (FB I FS) 47 v4 s4 o4 ks) z false) 5000000)) = z := by
  intro z; kernel_rfl
end
end Go.Ab

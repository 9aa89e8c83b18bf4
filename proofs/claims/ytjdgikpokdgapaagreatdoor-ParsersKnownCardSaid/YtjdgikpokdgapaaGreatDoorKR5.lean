/-
  A part of a proof: KR5.
-/
import Derived.Test.YtjdgikpokdgapaaGreatDoorKDd
set_option linter.all false
namespace Go.Ab
open Go Go.Proofs
noncomputable section
set_option maxHeartbeats 4000000 in
theorem known_run : ∀ z : Bool, withTabs Tryz.prog (fun I FS => enterK (FB I FS) 5 [] .normal [] 0 .nil (loopK (FB I FS) M7 (fun ks => iteF (endOk (FB I FS) 5 (.bool true) [] [] ks) z false) 5000000)) = z := by
  intro z; kernel_rfl
end
end Go.Ab

/-
  A part of a proof: KR2.
-/
import Derived.Test.YtjdgikpokdgapaaGreatDoorKDd
set_option linter.all false
namespace Go.Ab
open Go Go.Proofs
noncomputable section
set_option maxHeartbeats 4000000 in
theorem parse_run : ∀ z : Bool, withTabs Tryz.prog (fun I FS => enterK (FA I FS) 55 x1 .normal [] 0 .nil (loopK (FA I FS) M3 (fun ks => iteF (endOk (FA I FS) 55 v1 s1 o1 ks) z false) 5000000)) = z := by
  intro z; kernel_rfl
end
end Go.Ab

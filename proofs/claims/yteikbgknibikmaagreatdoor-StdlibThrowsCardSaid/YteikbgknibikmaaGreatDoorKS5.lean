/-
  A part of a proof: KS5.
-/
import Derived.Test.YteikbgknibikmaaGreatDoorKaJtoKE3
set_option linter.all false
namespace Go.Ab.L22
open Go Go.Ab Go.Proofs
noncomputable section
set_option maxHeartbeats 4000000 in
theorem ref_run : ∀ z : Bool,QaG Tryz.prog (fun I FS=>Qbx (FE I FS) 37 x6 .normal [] 0 .nil (loopK (FE I FS) M8 (fun ks=>iteF (endOk (FE I FS) 37 v6 s6 o6 ks) z false) 5000000)) = z:=by
 intro z; kernel_rfl
end
end Go.Ab.L22

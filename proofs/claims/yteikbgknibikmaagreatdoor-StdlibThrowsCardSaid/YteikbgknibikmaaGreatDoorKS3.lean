/-
  A part of a proof: KS3.
-/
import Derived.Test.YteikbgknibikmaaGreatDoorKaJtoKE3
set_option linter.all false
namespace Go.Ab.L22
open Go Go.Ab Go.Proofs
noncomputable section
set_option maxHeartbeats 4000000 in
theorem QnV : ∀ z : Bool,QaG Tryz.prog (fun I FS=>Qbx (FE I FS) 66 x4 .normal [] 0 .nil (loopK (FE I FS) M6 (fun ks=>iteF (endOk (FE I FS) 66 v5 s5 o5 ks) z false) 5000000)) = z:=by
 intro z; kernel_rfl
end
end Go.Ab.L22

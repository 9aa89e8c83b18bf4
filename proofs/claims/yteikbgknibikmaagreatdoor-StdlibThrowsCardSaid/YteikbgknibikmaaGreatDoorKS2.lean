/-
  A part of a proof: KS2.
-/
import Derived.Test.YteikbgknibikmaaGreatDoorKaJtoKE3
set_option linter.all false
namespace Go.Ab.L22
open Go Go.Ab Go.Proofs
noncomputable section
set_option maxHeartbeats 4000000 in
theorem QqA : ∀ z : Bool,QaG Tryz.prog (fun I FS=>Qbx (FE I FS) 31 x1 .normal [] 0 .nil (loopK (FE I FS) M3 (fun ks=>iteF (endOk (FE I FS) 31 v1 s1 o1 ks) z false) 5000000)) = z:=by
 intro z; kernel_rfl
end
end Go.Ab.L22

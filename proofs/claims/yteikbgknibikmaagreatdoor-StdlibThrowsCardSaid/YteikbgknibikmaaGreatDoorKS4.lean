/-
  A part of a proof: KS4.
-/
import Derived.Test.YteikbgknibikmaaGreatDoorKaJtoKE3
set_option linter.all false
namespace Go.Ab.L22
open Go Go.Ab Go.Proofs
noncomputable section
set_option maxHeartbeats 4000000 in
theorem QrF : ∀ z : Bool,QaG Tryz.prog (fun I FS=>Qbx (FE I FS) 12 [] .normal [] 0 .nil (loopK (FE I FS) M9 (fun ks=>iteF (endOk (FE I FS) 12 (.bool true) [] [] ks) z false) 5000000)) = z:=by
 intro z; kernel_rfl
end
end Go.Ab.L22

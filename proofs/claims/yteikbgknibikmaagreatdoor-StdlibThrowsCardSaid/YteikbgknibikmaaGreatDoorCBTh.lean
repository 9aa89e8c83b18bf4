/-
  A part of a proof: CBTh.
-/
import Derived.Test.YteikbgknibikmaaGreatDoorKLu22toCA22
import Derived.Test.YteikbgknibikmaaGreatDoorWP22toWOc22
import Derived.Test.YteikbgknibikmaaGreatDoorWDlTh
import Derived.Test.YteikbgknibikmaaGreatDoorKaFtoKaN
set_option linter.all false
namespace Go.Ab.L22
open Go Go.Ab Go.Proofs
noncomputable section
/-- The functions that the laws reach, but for Awake. -/
noncomputable def LS22 : List Nat:=[6,7,8,9,10,11,14,16,23,25,26,27,28,29,43,44,45,46,47,48,49,50,51,52,53,54,55,56,57,59,60,62,86,87,88,89,91,92,147]
theorem chk22 : QaG Tryz.prog (Qc6 Tryz.prog G22 LS22) = true:=by kernel_rfl
noncomputable def F22 : FuncId → Option AFun:=FU Tryz.prog G22 (maskN LS22) Tryz.prog.info? fun f=>Tryz.prog.funcs[f]?
theorem Qje : FunOk Tryz.prog G22 F22:=QeW (Qeh chk22)
noncomputable def fns22 : List (Option AFun):=[some QcB,some Qhc,some Qd7,some Qey,some Qez,some Qd6,some QcA,some Qd8,some QeY,some QeX,some fn_caught,some QfD,some QfG,some fn_list,some Qd4,some fn_wrong,some fn_work,some QiL,some QfE,some Qd2,some QiK,some QfF,some Qd3,some QiN,some QfC,some QiM,some fn_each,some QbR,some Qd5,some Qkt,some fn60,some fn62,some fn_large1,some QcP,some Qdq,some QfB,some fn_all1,some (fn92 (liesT Tryz.prog 104)),some Qd1]
theorem tab22 : ∀ p : List (Option AFun) → Bool,QaG Tryz.prog (fun I FS=>p (LS22.map (FU Tryz.prog G22 (maskN LS22) I FS))) = p fns22:=by
 intro p
 kernel_rfl
open Classical in
theorem QhK : LS22.map F22 = fns22:=by
 have h:=tab22 fun l=>decide (l = fns22)
 rw [QaR] at h
 have e : decide (fns22 = fns22) = true:=by simp
 rw [e] at h
 exact of_decide_eq_true h
theorem at22 (k : Nat) {f : FuncId} {fn : Option AFun} (h1 : LS22[k]? = some f) (h2 : fns22[k]? = some fn) : F22 f = fn:=by
 have h:=congrArg (fun l=>l[k]?) QhK
 simp only [List.getElem?_map,h1,h2,Option.map_some] at h
 exact Option.some.inj h
end
end Go.Ab.L22

/-
  Closed facts of the row of CellsSame: 14, 15, 16, 17, 18, 19, 20, 21, 22, 23, 24, 25, 26, 27, 28, 29, 30, 31, 32.
-/
import Derived.Test.YthiiaehlmfbeoaaGreatDoorRows
import Derived.JoinedOf
import Derived.KernelRfl
set_option linter.all false
set_option maxRecDepth 100000
namespace Go.Proofs.YthiiaehlmfbeoaaGreatDoor
open Go
theorem Qpl : (fun (P : Program) (f : FuncId) (fn : Func) (s : ChangeSpec) (c : OpenClaim) => ((c.maps == (fn.params.toList ++ s.plain.varTypes P).any (P.mapsRec ·)) : Bool)) Tryz.prog 7 Tryz.f7 Rows.cellsSameSpec Rows.cellsSameRow = true := by kernel_rfl
theorem Qpk : (fun (P : Program) (f : FuncId) (fn : Func) (s : ChangeSpec) (c : OpenClaim) => ((c.ifaces == (fn.params.toList ++ s.plain.varTypes P).any (P.ifacesRec ·)) : Bool)) Tryz.prog 7 Tryz.f7 Rows.cellsSameSpec Rows.cellsSameRow = true := by kernel_rfl
theorem Qpj : (fun (P : Program) (f : FuncId) (fn : Func) (s : ChangeSpec) (c : OpenClaim) => ((c.mapsOut == P.mapsAmong fn.resultTypes.toList) : Bool)) Tryz.prog 7 Tryz.f7 Rows.cellsSameSpec Rows.cellsSameRow = true := by kernel_rfl
theorem Qpi : (fun (P : Program) (f : FuncId) (fn : Func) (s : ChangeSpec) (c : OpenClaim) => ((c.loops == (fn.params.toList ++ s.plain.varTypes P).any (P.loopsFrom ·)) : Bool)) Tryz.prog 7 Tryz.f7 Rows.cellsSameSpec Rows.cellsSameRow = true := by kernel_rfl
theorem Qph : (fun (P : Program) (f : FuncId) (fn : Func) (s : ChangeSpec) (c : OpenClaim) => ((c.wideKeys == (fn.params.toList ++ s.plain.varTypes P ++ fn.resultTypes.toList).any (P.wideKeysFrom ·)) : Bool)) Tryz.prog 7 Tryz.f7 Rows.cellsSameSpec Rows.cellsSameRow = true := by kernel_rfl
theorem Qpg : (fun (P : Program) (f : FuncId) (fn : Func) (s : ChangeSpec) (c : OpenClaim) => (s.vars.all (P.varReadable ·) : Bool)) Tryz.prog 7 Tryz.f7 Rows.cellsSameSpec Rows.cellsSameRow = true := by kernel_rfl
theorem Qpf : (fun (P : Program) (f : FuncId) (fn : Func) (s : ChangeSpec) (c : OpenClaim) => (fn.resultTypes.all (fun t => P.readableRec t && decide (t < P.types.size)) : Bool)) Tryz.prog 7 Tryz.f7 Rows.cellsSameSpec Rows.cellsSameRow = true := by kernel_rfl
theorem Qpe : (fun (P : Program) (f : FuncId) (fn : Func) (s : ChangeSpec) (c : OpenClaim) => ((c.ifacesOut == fn.resultTypes.toList.any (P.ifacesRec ·)) : Bool)) Tryz.prog 7 Tryz.f7 Rows.cellsSameSpec Rows.cellsSameRow = true := by kernel_rfl
theorem Qpd : (fun (P : Program) (f : FuncId) (fn : Func) (s : ChangeSpec) (c : OpenClaim) => ((c.loopsOut == fn.resultTypes.toList.any (P.loopsFrom ·)) : Bool)) Tryz.prog 7 Tryz.f7 Rows.cellsSameSpec Rows.cellsSameRow = true := by kernel_rfl
theorem Qpc : (fun (P : Program) (f : FuncId) (fn : Func) (s : ChangeSpec) (c : OpenClaim) => ((c.plainKeys == P.plainKeys) : Bool)) Tryz.prog 7 Tryz.f7 Rows.cellsSameSpec Rows.cellsSameRow = true := by kernel_rfl
theorem Qpb : (fun (P : Program) (f : FuncId) (fn : Func) (s : ChangeSpec) (c : OpenClaim) => (c.shortTexts.isNone : Bool)) Tryz.prog 7 Tryz.f7 Rows.cellsSameSpec Rows.cellsSameRow = true := by kernel_rfl
theorem Qpa : (fun (P : Program) (f : FuncId) (fn : Func) (s : ChangeSpec) (c : OpenClaim) => (P.stopsHeard : Bool)) Tryz.prog 7 Tryz.f7 Rows.cellsSameSpec Rows.cellsSameRow = true := by kernel_rfl
theorem Qo9 : (fun (P : Program) (f : FuncId) (fn : Func) (s : ChangeSpec) (c : OpenClaim) => (P.mayEnter : Bool)) Tryz.prog 7 Tryz.f7 Rows.cellsSameSpec Rows.cellsSameRow = true := by kernel_rfl
theorem Qo8 : (fun (P : Program) (f : FuncId) (fn : Func) (s : ChangeSpec) (c : OpenClaim) => ((c.lifted == P.liftsFinal) : Bool)) Tryz.prog 7 Tryz.f7 Rows.cellsSameSpec Rows.cellsSameRow = true := by kernel_rfl
theorem Qo7 : (fun (P : Program) (f : FuncId) (fn : Func) (s : ChangeSpec) (c : OpenClaim) => ((P.make == some c.make) : Bool)) Tryz.prog 7 Tryz.f7 Rows.cellsSameSpec Rows.cellsSameRow = true := by kernel_rfl
theorem Qo6 : (fun (P : Program) (f : FuncId) (fn : Func) (s : ChangeSpec) (c : OpenClaim) => ((c.kinds == (if c.domain.isEmpty then [] else fn.params.toList.map fun t => match P.underlying t with | some (.int k) => some k | _ => none)) : Bool)) Tryz.prog 7 Tryz.f7 Rows.cellsSameSpec Rows.cellsSameRow = true := by kernel_rfl
theorem Qo5 : (fun (P : Program) (f : FuncId) (fn : Func) (s : ChangeSpec) (c : OpenClaim) => ((c.pinned == c.pinnedBy) : Bool)) Tryz.prog 7 Tryz.f7 Rows.cellsSameSpec Rows.cellsSameRow = true := by kernel_rfl
theorem Qo4 : (fun (P : Program) (f : FuncId) (fn : Func) (s : ChangeSpec) (c : OpenClaim) => ((c.veiled == (fn.params.toList ++ s.plain.varTypes P ++ fn.resultTypes.toList).any (P.veiledRec ·)) : Bool)) Tryz.prog 7 Tryz.f7 Rows.cellsSameSpec Rows.cellsSameRow = true := by kernel_rfl
theorem Qo3 : (fun (P : Program) (f : FuncId) (fn : Func) (s : ChangeSpec) (c : OpenClaim) => (c.veiledFits P fn.params.toList (fn.params.toList ++ s.plain.varTypes P ++ fn.resultTypes.toList) : Bool)) Tryz.prog 7 Tryz.f7 Rows.cellsSameSpec Rows.cellsSameRow = true := by kernel_rfl
end Go.Proofs.YthiiaehlmfbeoaaGreatDoor

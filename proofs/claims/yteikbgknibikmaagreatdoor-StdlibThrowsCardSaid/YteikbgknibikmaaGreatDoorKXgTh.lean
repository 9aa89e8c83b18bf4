/-
  Closed facts of the row of StdlibThrows: 14, 15, 16, 17, 18, 19, 20, 21, 22, 23, 24, 25, 26, 27, 28, 29, 30, 31, 32.
-/
import Derived.Test.YteikbgknibikmaaGreatDoorRows
import Derived.JoinedOf
import Derived.KernelRfl
set_option linter.all false
set_option maxRecDepth 100000
namespace Go.Proofs.YteikbgknibikmaaGreatDoor
open Go
theorem Qi9 : (fun (P : Program) (f : FuncId) (fn : Func) (s : ChangeSpec) (c : OpenClaim) => ((c.maps == (fn.params.toList ++ s.plain.varTypes P).any (P.mapsRec ·)) : Bool)) Tryz.prog 6 Tryz.f6 Rows.stdlibThrowsSpec Rows.stdlibThrowsRow = true := by kernel_rfl
theorem Qi8 : (fun (P : Program) (f : FuncId) (fn : Func) (s : ChangeSpec) (c : OpenClaim) => ((c.ifaces == (fn.params.toList ++ s.plain.varTypes P).any (P.ifacesRec ·)) : Bool)) Tryz.prog 6 Tryz.f6 Rows.stdlibThrowsSpec Rows.stdlibThrowsRow = true := by kernel_rfl
theorem Qi7 : (fun (P : Program) (f : FuncId) (fn : Func) (s : ChangeSpec) (c : OpenClaim) => ((c.mapsOut == P.mapsAmong fn.resultTypes.toList) : Bool)) Tryz.prog 6 Tryz.f6 Rows.stdlibThrowsSpec Rows.stdlibThrowsRow = true := by kernel_rfl
theorem Qi6 : (fun (P : Program) (f : FuncId) (fn : Func) (s : ChangeSpec) (c : OpenClaim) => ((c.loops == (fn.params.toList ++ s.plain.varTypes P).any (P.loopsFrom ·)) : Bool)) Tryz.prog 6 Tryz.f6 Rows.stdlibThrowsSpec Rows.stdlibThrowsRow = true := by kernel_rfl
theorem Qi5 : (fun (P : Program) (f : FuncId) (fn : Func) (s : ChangeSpec) (c : OpenClaim) => ((c.wideKeys == (fn.params.toList ++ s.plain.varTypes P ++ fn.resultTypes.toList).any (P.wideKeysFrom ·)) : Bool)) Tryz.prog 6 Tryz.f6 Rows.stdlibThrowsSpec Rows.stdlibThrowsRow = true := by kernel_rfl
theorem Qi4 : (fun (P : Program) (f : FuncId) (fn : Func) (s : ChangeSpec) (c : OpenClaim) => (s.vars.all (P.varReadable ·) : Bool)) Tryz.prog 6 Tryz.f6 Rows.stdlibThrowsSpec Rows.stdlibThrowsRow = true := by kernel_rfl
theorem Qi3 : (fun (P : Program) (f : FuncId) (fn : Func) (s : ChangeSpec) (c : OpenClaim) => (fn.resultTypes.all (fun t => P.readableRec t && decide (t < P.types.size)) : Bool)) Tryz.prog 6 Tryz.f6 Rows.stdlibThrowsSpec Rows.stdlibThrowsRow = true := by kernel_rfl
theorem Qi2 : (fun (P : Program) (f : FuncId) (fn : Func) (s : ChangeSpec) (c : OpenClaim) => ((c.ifacesOut == fn.resultTypes.toList.any (P.ifacesRec ·)) : Bool)) Tryz.prog 6 Tryz.f6 Rows.stdlibThrowsSpec Rows.stdlibThrowsRow = true := by kernel_rfl
theorem Qi1 : (fun (P : Program) (f : FuncId) (fn : Func) (s : ChangeSpec) (c : OpenClaim) => ((c.loopsOut == fn.resultTypes.toList.any (P.loopsFrom ·)) : Bool)) Tryz.prog 6 Tryz.f6 Rows.stdlibThrowsSpec Rows.stdlibThrowsRow = true := by kernel_rfl
theorem Qi0 : (fun (P : Program) (f : FuncId) (fn : Func) (s : ChangeSpec) (c : OpenClaim) => ((c.plainKeys == P.plainKeys) : Bool)) Tryz.prog 6 Tryz.f6 Rows.stdlibThrowsSpec Rows.stdlibThrowsRow = true := by kernel_rfl
theorem QiZ : (fun (P : Program) (f : FuncId) (fn : Func) (s : ChangeSpec) (c : OpenClaim) => (c.shortTexts.isNone : Bool)) Tryz.prog 6 Tryz.f6 Rows.stdlibThrowsSpec Rows.stdlibThrowsRow = true := by kernel_rfl
theorem QiY : (fun (P : Program) (f : FuncId) (fn : Func) (s : ChangeSpec) (c : OpenClaim) => (P.stopsHeard : Bool)) Tryz.prog 6 Tryz.f6 Rows.stdlibThrowsSpec Rows.stdlibThrowsRow = true := by kernel_rfl
theorem QiX : (fun (P : Program) (f : FuncId) (fn : Func) (s : ChangeSpec) (c : OpenClaim) => (P.mayEnter : Bool)) Tryz.prog 6 Tryz.f6 Rows.stdlibThrowsSpec Rows.stdlibThrowsRow = true := by kernel_rfl
theorem QiW : (fun (P : Program) (f : FuncId) (fn : Func) (s : ChangeSpec) (c : OpenClaim) => ((c.lifted == P.liftsFinal) : Bool)) Tryz.prog 6 Tryz.f6 Rows.stdlibThrowsSpec Rows.stdlibThrowsRow = true := by kernel_rfl
theorem QiV : (fun (P : Program) (f : FuncId) (fn : Func) (s : ChangeSpec) (c : OpenClaim) => ((P.make == some c.make) : Bool)) Tryz.prog 6 Tryz.f6 Rows.stdlibThrowsSpec Rows.stdlibThrowsRow = true := by kernel_rfl
theorem QiU : (fun (P : Program) (f : FuncId) (fn : Func) (s : ChangeSpec) (c : OpenClaim) => ((c.kinds == (if c.domain.isEmpty then [] else fn.params.toList.map fun t => match P.underlying t with | some (.int k) => some k | _ => none)) : Bool)) Tryz.prog 6 Tryz.f6 Rows.stdlibThrowsSpec Rows.stdlibThrowsRow = true := by kernel_rfl
theorem QiT : (fun (P : Program) (f : FuncId) (fn : Func) (s : ChangeSpec) (c : OpenClaim) => ((c.pinned == c.pinnedBy) : Bool)) Tryz.prog 6 Tryz.f6 Rows.stdlibThrowsSpec Rows.stdlibThrowsRow = true := by kernel_rfl
theorem QiS : (fun (P : Program) (f : FuncId) (fn : Func) (s : ChangeSpec) (c : OpenClaim) => ((c.veiled == (fn.params.toList ++ s.plain.varTypes P ++ fn.resultTypes.toList).any (P.veiledRec ·)) : Bool)) Tryz.prog 6 Tryz.f6 Rows.stdlibThrowsSpec Rows.stdlibThrowsRow = true := by kernel_rfl
theorem QiR : (fun (P : Program) (f : FuncId) (fn : Func) (s : ChangeSpec) (c : OpenClaim) => (c.veiledFits P fn.params.toList (fn.params.toList ++ s.plain.varTypes P ++ fn.resultTypes.toList) : Bool)) Tryz.prog 6 Tryz.f6 Rows.stdlibThrowsSpec Rows.stdlibThrowsRow = true := by kernel_rfl
end Go.Proofs.YteikbgknibikmaaGreatDoor

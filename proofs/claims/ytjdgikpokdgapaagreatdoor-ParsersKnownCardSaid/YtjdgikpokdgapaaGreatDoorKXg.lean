/-
  Closed facts of the row of ParsersKnown: 14, 15, 16, 17, 18, 19, 20, 21, 22, 23, 24, 25, 26, 27, 28, 29, 30, 31, 32.
-/
import Derived.Test.YtjdgikpokdgapaaGreatDoorRows
import Derived.JoinedOf
import Derived.KernelRfl
set_option linter.all false
namespace Go.Proofs.YtjdgikpokdgapaaGreatDoor
open Go
set_option maxRecDepth 100000 in
theorem fact14 : (fun (P : Program) (f : FuncId) (fn : Func) (s : ChangeSpec) (c : OpenClaim) => ((c.maps == (fn.params.toList ++ s.plain.varTypes P).any (P.mapsRec ·)) : Bool)) Tryz.prog 5 Tryz.f5 Rows.parsersKnownSpec Rows.parsersKnownRow = true := by kernel_rfl
set_option maxRecDepth 100000 in
theorem fact15 : (fun (P : Program) (f : FuncId) (fn : Func) (s : ChangeSpec) (c : OpenClaim) => ((c.ifaces == (fn.params.toList ++ s.plain.varTypes P).any (P.ifacesRec ·)) : Bool)) Tryz.prog 5 Tryz.f5 Rows.parsersKnownSpec Rows.parsersKnownRow = true := by kernel_rfl
set_option maxRecDepth 100000 in
theorem fact16 : (fun (P : Program) (f : FuncId) (fn : Func) (s : ChangeSpec) (c : OpenClaim) => ((c.mapsOut == P.mapsAmong fn.resultTypes.toList) : Bool)) Tryz.prog 5 Tryz.f5 Rows.parsersKnownSpec Rows.parsersKnownRow = true := by kernel_rfl
set_option maxRecDepth 100000 in
theorem fact17 : (fun (P : Program) (f : FuncId) (fn : Func) (s : ChangeSpec) (c : OpenClaim) => ((c.loops == (fn.params.toList ++ s.plain.varTypes P).any (P.loopsFrom ·)) : Bool)) Tryz.prog 5 Tryz.f5 Rows.parsersKnownSpec Rows.parsersKnownRow = true := by kernel_rfl
set_option maxRecDepth 100000 in
theorem fact18 : (fun (P : Program) (f : FuncId) (fn : Func) (s : ChangeSpec) (c : OpenClaim) => ((c.wideKeys == (fn.params.toList ++ s.plain.varTypes P ++ fn.resultTypes.toList).any (P.wideKeysFrom ·)) : Bool)) Tryz.prog 5 Tryz.f5 Rows.parsersKnownSpec Rows.parsersKnownRow = true := by kernel_rfl
set_option maxRecDepth 100000 in
theorem fact19 : (fun (P : Program) (f : FuncId) (fn : Func) (s : ChangeSpec) (c : OpenClaim) => (s.vars.all (P.varReadable ·) : Bool)) Tryz.prog 5 Tryz.f5 Rows.parsersKnownSpec Rows.parsersKnownRow = true := by kernel_rfl
set_option maxRecDepth 100000 in
theorem fact20 : (fun (P : Program) (f : FuncId) (fn : Func) (s : ChangeSpec) (c : OpenClaim) => (fn.resultTypes.all (fun t => P.readableRec t && decide (t < P.types.size)) : Bool)) Tryz.prog 5 Tryz.f5 Rows.parsersKnownSpec Rows.parsersKnownRow = true := by kernel_rfl
set_option maxRecDepth 100000 in
theorem fact21 : (fun (P : Program) (f : FuncId) (fn : Func) (s : ChangeSpec) (c : OpenClaim) => ((c.ifacesOut == fn.resultTypes.toList.any (P.ifacesRec ·)) : Bool)) Tryz.prog 5 Tryz.f5 Rows.parsersKnownSpec Rows.parsersKnownRow = true := by kernel_rfl
set_option maxRecDepth 100000 in
theorem fact22 : (fun (P : Program) (f : FuncId) (fn : Func) (s : ChangeSpec) (c : OpenClaim) => ((c.loopsOut == fn.resultTypes.toList.any (P.loopsFrom ·)) : Bool)) Tryz.prog 5 Tryz.f5 Rows.parsersKnownSpec Rows.parsersKnownRow = true := by kernel_rfl
set_option maxRecDepth 100000 in
theorem fact23 : (fun (P : Program) (f : FuncId) (fn : Func) (s : ChangeSpec) (c : OpenClaim) => ((c.plainKeys == P.plainKeys) : Bool)) Tryz.prog 5 Tryz.f5 Rows.parsersKnownSpec Rows.parsersKnownRow = true := by kernel_rfl
set_option maxRecDepth 100000 in
theorem fact24 : (fun (P : Program) (f : FuncId) (fn : Func) (s : ChangeSpec) (c : OpenClaim) => (c.shortTexts.isNone : Bool)) Tryz.prog 5 Tryz.f5 Rows.parsersKnownSpec Rows.parsersKnownRow = true := by kernel_rfl
set_option maxRecDepth 100000 in
theorem fact25 : (fun (P : Program) (f : FuncId) (fn : Func) (s : ChangeSpec) (c : OpenClaim) => (P.stopsHeard : Bool)) Tryz.prog 5 Tryz.f5 Rows.parsersKnownSpec Rows.parsersKnownRow = true := by kernel_rfl
set_option maxRecDepth 100000 in
theorem fact26 : (fun (P : Program) (f : FuncId) (fn : Func) (s : ChangeSpec) (c : OpenClaim) => (P.mayEnter : Bool)) Tryz.prog 5 Tryz.f5 Rows.parsersKnownSpec Rows.parsersKnownRow = true := by kernel_rfl
set_option maxRecDepth 100000 in
theorem fact27 : (fun (P : Program) (f : FuncId) (fn : Func) (s : ChangeSpec) (c : OpenClaim) => ((c.lifted == P.liftsFinal) : Bool)) Tryz.prog 5 Tryz.f5 Rows.parsersKnownSpec Rows.parsersKnownRow = true := by kernel_rfl
set_option maxRecDepth 100000 in
theorem fact28 : (fun (P : Program) (f : FuncId) (fn : Func) (s : ChangeSpec) (c : OpenClaim) => ((P.make == some c.make) : Bool)) Tryz.prog 5 Tryz.f5 Rows.parsersKnownSpec Rows.parsersKnownRow = true := by kernel_rfl
set_option maxRecDepth 100000 in
theorem fact29 : (fun (P : Program) (f : FuncId) (fn : Func) (s : ChangeSpec) (c : OpenClaim) => ((c.kinds == (if c.domain.isEmpty then [] else fn.params.toList.map fun t => match P.underlying t with | some (.int k) => some k | _ => none)) : Bool)) Tryz.prog 5 Tryz.f5 Rows.parsersKnownSpec Rows.parsersKnownRow = true := by kernel_rfl
set_option maxRecDepth 100000 in
theorem fact30 : (fun (P : Program) (f : FuncId) (fn : Func) (s : ChangeSpec) (c : OpenClaim) => ((c.pinned == c.pinnedBy) : Bool)) Tryz.prog 5 Tryz.f5 Rows.parsersKnownSpec Rows.parsersKnownRow = true := by kernel_rfl
set_option maxRecDepth 100000 in
theorem fact31 : (fun (P : Program) (f : FuncId) (fn : Func) (s : ChangeSpec) (c : OpenClaim) => ((c.veiled == (fn.params.toList ++ s.plain.varTypes P ++ fn.resultTypes.toList).any (P.veiledRec ·)) : Bool)) Tryz.prog 5 Tryz.f5 Rows.parsersKnownSpec Rows.parsersKnownRow = true := by kernel_rfl
set_option maxRecDepth 100000 in
theorem fact32 : (fun (P : Program) (f : FuncId) (fn : Func) (s : ChangeSpec) (c : OpenClaim) => (c.veiledFits P fn.params.toList (fn.params.toList ++ s.plain.varTypes P ++ fn.resultTypes.toList) : Bool)) Tryz.prog 5 Tryz.f5 Rows.parsersKnownSpec Rows.parsersKnownRow = true := by kernel_rfl
end Go.Proofs.YtjdgikpokdgapaaGreatDoor

/-
  The layouts of the types, part by part.
-/
import Derived.Test.YthiiaehlmfbeoaaGreatDoorRows
import Derived.Test.YthiiaehlmfbeoaaGreatDoorKXaMotoKFa
set_option linter.all false
set_option maxRecDepth 100000
namespace Go.Proofs.YthiiaehlmfbeoaaGreatDoor
open Go Go.Ab
noncomputable section
theorem r0:(List.range' 0 108).all (rowFine Tryz.prog)=true:=by kernel_rfl
theorem r1:(List.range' 108 108).all (rowFine Tryz.prog)=true:=by kernel_rfl
theorem r2:(List.range' 216 108).all (rowFine Tryz.prog)=true:=by kernel_rfl
theorem r3:(List.range' 324 108).all (rowFine Tryz.prog)=true:=by kernel_rfl
theorem r4:(List.range' 432 108).all (rowFine Tryz.prog)=true:=by kernel_rfl
theorem r5:(List.range' 540 108).all (rowFine Tryz.prog)=true:=by kernel_rfl
theorem r6:(List.range' 648 108).all (rowFine Tryz.prog)=true:=by kernel_rfl
theorem r7:(List.range' 756 108).all (rowFine Tryz.prog)=true:=by kernel_rfl
theorem r8:(List.range' 864 17).all (rowFine Tryz.prog)=true:=by kernel_rfl
theorem rspl:List.range 881=List.range' 0 108++(List.range' 108 108++(List.range' 216 108++(List.range' 324 108++(List.range' 432 108++(List.range' 540 108++(List.range' 648 108++(List.range' 756 108++(List.range' 864 17)))))))):=by kernel_rfl
theorem rAll:(List.range 881).all (rowFine Tryz.prog)=true:=by
  rw[rspl];simp only[List.all_append,r0,r1,r2,r3,r4,r5,r6,r7,r8,Bool.and_true]
theorem tszF:Tryz.prog.types.size=881:=by kernel_rfl
end
end Go.Proofs.YthiiaehlmfbeoaaGreatDoor

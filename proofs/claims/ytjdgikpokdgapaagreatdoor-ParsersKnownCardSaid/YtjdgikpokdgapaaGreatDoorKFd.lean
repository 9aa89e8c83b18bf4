/-
  The layouts of the types, part by part.
-/
import Derived.Test.YtjdgikpokdgapaaGreatDoorRows
import Derived.Test.YtjdgikpokdgapaaGreatDoorKFa
set_option linter.all false
namespace Go.Proofs.YtjdgikpokdgapaaGreatDoor
open Go Go.Ab
noncomputable section
set_option maxRecDepth 100000 in
theorem r0 : (List.range' 0 108).all (rowFine Tryz.prog) = true := by kernel_rfl
set_option maxRecDepth 100000 in
theorem r1 : (List.range' 108 108).all (rowFine Tryz.prog) = true := by kernel_rfl
set_option maxRecDepth 100000 in
theorem r2 : (List.range' 216 108).all (rowFine Tryz.prog) = true := by kernel_rfl
set_option maxRecDepth 100000 in
theorem r3 : (List.range' 324 108).all (rowFine Tryz.prog) = true := by kernel_rfl
set_option maxRecDepth 100000 in
theorem r4 : (List.range' 432 108).all (rowFine Tryz.prog) = true := by kernel_rfl
set_option maxRecDepth 100000 in
theorem r5 : (List.range' 540 108).all (rowFine Tryz.prog) = true := by kernel_rfl
set_option maxRecDepth 100000 in
theorem r6 : (List.range' 648 108).all (rowFine Tryz.prog) = true := by kernel_rfl
set_option maxRecDepth 100000 in
theorem r7 : (List.range' 756 101).all (rowFine Tryz.prog) = true := by kernel_rfl
set_option maxRecDepth 100000 in
theorem rspl : List.range 857 = List.range' 0 108 ++ (List.range' 108 108 ++ (List.range' 216 108 ++ (List.range' 324 108 ++ (List.range' 432 108 ++ (List.range' 540 108 ++ (List.range' 648 108 ++ (List.range' 756 101))))))) := by kernel_rfl
theorem rAll : (List.range 857).all (rowFine Tryz.prog) = true := by
  rw [rspl]
  simp only [List.all_append, r0, r1, r2, r3, r4, r5, r6, r7, Bool.and_true]
theorem tszF : Tryz.prog.types.size = 857 := by kernel_rfl
end
end Go.Proofs.YtjdgikpokdgapaaGreatDoor

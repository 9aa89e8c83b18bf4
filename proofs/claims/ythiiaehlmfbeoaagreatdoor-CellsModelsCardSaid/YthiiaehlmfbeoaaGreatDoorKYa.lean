/-
  The number of the type errors.errorString (a pointer to it): looked for in parts, so that no part is large.
-/
import Derived.Test.YthiiaehlmfbeoaaGreatDoorRows
import Derived.KernelRfl
set_option linter.all false
set_option maxRecDepth 100000
namespace Go.Proofs.YthiiaehlmfbeoaaGreatDoor
open Go
theorem tsz:Tryz.prog.types.size=881:=by kernel_rfl
theorem fnd0 : (List.range' 0 100).find? (fun u => Tryz.prog.typeName? 3 u == some "*errors.errorString") = none := by kernel_rfl
theorem fnd1 : (List.range' 100 100).find? (fun u => Tryz.prog.typeName? 3 u == some "*errors.errorString") = none := by kernel_rfl
theorem fnd2 : (List.range' 200 100).find? (fun u => Tryz.prog.typeName? 3 u == some "*errors.errorString") = none := by kernel_rfl
theorem fnd3 : (List.range' 300 100).find? (fun u => Tryz.prog.typeName? 3 u == some "*errors.errorString") = none := by kernel_rfl
theorem fnd4 : (List.range' 400 100).find? (fun u => Tryz.prog.typeName? 3 u == some "*errors.errorString") = none := by kernel_rfl
theorem fnd5 : (List.range' 500 100).find? (fun u => Tryz.prog.typeName? 3 u == some "*errors.errorString") = none := by kernel_rfl
theorem fnd6 : (List.range' 600 100).find? (fun u => Tryz.prog.typeName? 3 u == some "*errors.errorString") = none := by kernel_rfl
theorem fnd7 : (List.range' 700 100).find? (fun u => Tryz.prog.typeName? 3 u == some "*errors.errorString") = none := by kernel_rfl
theorem fnd8 : (List.range' 800 81).find? (fun u => Tryz.prog.typeName? 3 u == some "*errors.errorString") = some 829 := by kernel_rfl
theorem rsplit:List.range 881=List.range' 0 100++(List.range' 100 100++(List.range' 200 100++(List.range' 300 100++(List.range' 400 100++(List.range' 500 100++(List.range' 600 100++(List.range' 700 100++(List.range' 800 81)))))))):=by kernel_rfl
theorem fnd : (List.range Tryz.prog.types.size).find? (fun u => Tryz.prog.typeName? 3 u == some "*errors.errorString") = some 829 := by
  rw[tsz,rsplit];simp only[List.find?_append,fnd0,fnd1,fnd2,fnd3,fnd4,fnd5,fnd6,fnd7,fnd8,Option.none_or,Option.some_or]
end Go.Proofs.YthiiaehlmfbeoaaGreatDoor

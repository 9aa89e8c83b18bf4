/-
  The world with the listed variables laid, and the closed facts of it.
-/
import Derived.Lay
import Derived.Test.YtjdgikpokdgapaaGreatDoorKYb
set_option linter.all false
namespace Go.Proofs.YtjdgikpokdgapaaGreatDoor
open Go
theorem layVars_of {P : Program} {w : World} {l : List (String × DataW Unit)} {y : List (Nat × List Value) × List Obj} (h : Lay.layList P w.heap.size l = some y) : w.layVars P l = { w with heap := ⟨Lay.setRows w.heap.toList y.1 ++ y.2⟩ } := by
  unfold World.layVars
  rw [h]
theorem layFits_of {P : Program} {w : World} {l : List (String × DataW Unit)} {B : List Nat} {y : List (Nat × List Value) × List Obj} (h : Lay.layList P w.heap.size l = some y)
    (k : (decide (y.1.map (·.1)).Nodup && (y.1.all fun r => Lay.isRow w.heap.toList[r.1]? && !B.contains r.1) && B.all (· < w.heap.size)) = true) : w.layFits P l B = true := by
  unfold World.layFits
  rw [h]
  exact k
theorem layIfaces_of {P : Program} {w w' : World} {l : List (String × DataW Unit)} {y : List (Nat × List Value) × List Obj} (h : Lay.layList P w.heap.size l = some y)
    (k : ((y.1.all fun r => r.2.all (Lay.okV P w')) && y.2.all (Lay.okO P w')) = true) : w.layIfaces P l w' = true := by
  unfold World.layIfaces
  rw [h]
  exact k
theorem hsize (os : Os) : (World.holding Tryz.prog os ⟨#[], #[], []⟩).heap.size = 16 := by kernel_rfl
theorem laidH (os : Os) : Lay.layList Tryz.prog (World.holding Tryz.prog os ⟨#[], #[], []⟩).heap.size Rows.parsersKnownRow.laid = some z0 :=
  (congrArg (fun n => Lay.layList Tryz.prog n Rows.parsersKnownRow.laid) (hsize os)).trans laidL
noncomputable def w2 (os : Os) : World := { World.holding Tryz.prog os ⟨#[], #[], []⟩ with heap := ⟨Lay.setRows (World.holding Tryz.prog os ⟨#[], #[], []⟩).heap.toList z0.1 ++ z0.2⟩ }
theorem laidAll_eq (os : Os) : World.laidAll Tryz.prog os Rows.parsersKnownRow.laid = w2 os := layVars_of (laidH os)
set_option maxRecDepth 100000 in
theorem fits (os : Os) : (World.holding Tryz.prog os ⟨#[], #[], []⟩).layFits Tryz.prog Rows.parsersKnownRow.laid [] = true := layFits_of (laidH os) (by kernel_rfl)
set_option maxRecDepth 100000 in
theorem ifcs2 (os : Os) : (World.holding Tryz.prog os ⟨#[], #[], []⟩).layIfaces Tryz.prog Rows.parsersKnownRow.laid (w2 os) = true := layIfaces_of (laidH os) (by kernel_rfl)
theorem ifcs (os : Os) : (World.holding Tryz.prog os ⟨#[], #[], []⟩).layIfaces Tryz.prog Rows.parsersKnownRow.laid (World.laidAll Tryz.prog os Rows.parsersKnownRow.laid) = true := (laidAll_eq os) ▸ ifcs2 os
set_option maxRecDepth 100000 in
theorem zipd2 (os : Os) : World.variablesZipB Tryz.checked.prog ((w2 os).forCall (fun _ _ => 0) { blocks := #[], args := #[] }) = true := by kernel_rfl
theorem zipd (os : Os) : World.variablesZipB Tryz.checked.prog ((World.laidAll Tryz.prog os Rows.parsersKnownRow.laid).forCall (fun _ _ => 0) { blocks := #[], args := #[] }) = true := (laidAll_eq os) ▸ zipd2 os
set_option maxRecDepth 100000 in
theorem rest2 (os : Os) : List.take ((begin Tryz.checked.prog (fun _ _ => 0) default).world.heap.size - Tryz.checked.prog.globals.size) (List.drop Tryz.checked.prog.globals.size ((w2 os).forCall (fun _ _ => 0) { blocks := #[], args := #[] }).heap.toList) = List.drop Tryz.checked.prog.globals.size (begin Tryz.checked.prog (fun _ _ => 0) default).world.heap.toList := by kernel_rfl
theorem rest (os : Os) : List.take ((begin Tryz.checked.prog (fun _ _ => 0) default).world.heap.size - Tryz.checked.prog.globals.size) (List.drop Tryz.checked.prog.globals.size ((World.laidAll Tryz.prog os Rows.parsersKnownRow.laid).forCall (fun _ _ => 0) { blocks := #[], args := #[] }).heap.toList) = List.drop Tryz.checked.prog.globals.size (begin Tryz.checked.prog (fun _ _ => 0) default).world.heap.toList := (laidAll_eq os) ▸ rest2 os
end Go.Proofs.YtjdgikpokdgapaaGreatDoor

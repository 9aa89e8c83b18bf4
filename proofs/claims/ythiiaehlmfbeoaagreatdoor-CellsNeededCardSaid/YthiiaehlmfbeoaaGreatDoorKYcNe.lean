/-
  The world with the listed variables laid, and the closed facts of it.
-/
import Derived.Lay
import Derived.Test.YthiiaehlmfbeoaaGreatDoorKYbNe
set_option linter.all false
set_option maxRecDepth 100000
namespace Go.Proofs.YthiiaehlmfbeoaaGreatDoor
open Go
def args0 : Array Value := #[.agg #[.slice none 0 0, .slice none 0 0], .int .u8 0]
theorem QoO {P : Program} {w : World} {l : List (String × DataW Unit)} {y : List (Nat × List Value) × List Obj} (h : Lay.layList P w.heap.size l = some y) : w.layVars P l = { w with heap := ⟨Lay.setRows w.heap.toList y.1 ++ y.2⟩ } := by
  unfold World.layVars
  rw [h]
theorem QoP {P : Program} {w : World} {l : List (String × DataW Unit)} {B : List Nat} {y : List (Nat × List Value) × List Obj} (h : Lay.layList P w.heap.size l = some y)
    (k : (decide (y.1.map (·.1)).Nodup && (y.1.all fun r => Lay.isRow w.heap.toList[r.1]? && !B.contains r.1) && B.all (· < w.heap.size)) = true) : w.layFits P l B = true := by
  unfold World.layFits
  rw [h]
  exact k
theorem QoM {P : Program} {w w' : World} {l : List (String × DataW Unit)} {y : List (Nat × List Value) × List Obj} (h : Lay.layList P w.heap.size l = some y)
    (k : ((y.1.all fun r => r.2.all (Lay.okV P w')) && y.2.all (Lay.okO P w')) = true) : w.layIfaces P l w' = true := by
  unfold World.layIfaces
  rw [h]
  exact k
noncomputable abbrev hd (os : Os) : World := World.holding Tryz.prog os ⟨#[], #[], []⟩
noncomputable abbrev LD : List (String × DataW Unit) := Rows.cellsNeededRow.laid
theorem hsize (os : Os) : (hd os).heap.size = 16 := by kernel_rfl
theorem laidH (os : Os) : Lay.layList Tryz.prog (hd os).heap.size LD = some z0 :=
  (congrArg (fun n => Lay.layList Tryz.prog n LD) (hsize os)).trans laidL
noncomputable def w2 (os : Os) : World := { hd os with heap := ⟨Lay.setRows (hd os).heap.toList z0.1 ++ z0.2⟩ }
theorem QoL (os : Os) : World.laidAll Tryz.prog os LD = w2 os := QoO (laidH os)
theorem fits (os : Os) : (hd os).layFits Tryz.prog LD [] = true := QoP (laidH os) (by kernel_rfl)
theorem ifcs2 (os : Os) : (hd os).layIfaces Tryz.prog LD (w2 os) = true := QoM (laidH os) (by kernel_rfl)
theorem ifcs (os : Os) : (hd os).layIfaces Tryz.prog LD (World.laidAll Tryz.prog os LD) = true := (QoL os) ▸ ifcs2 os
theorem zipd2 (os : Os) : World.variablesZipB Tryz.checked.prog ((w2 os).forCall (fun _ _ => 0) { blocks := #[], args := args0 }) = true := by kernel_rfl
theorem zipd (os : Os) : World.variablesZipB Tryz.checked.prog ((World.laidAll Tryz.prog os LD).forCall (fun _ _ => 0) { blocks := #[], args := args0 }) = true := (QoL os) ▸ zipd2 os
theorem rest2 (os : Os) : List.take ((begin Tryz.checked.prog (fun _ _ => 0) default).world.heap.size - Tryz.checked.prog.globals.size) (List.drop Tryz.checked.prog.globals.size ((w2 os).forCall (fun _ _ => 0) { blocks := #[], args := args0 }).heap.toList) = List.drop Tryz.checked.prog.globals.size (begin Tryz.checked.prog (fun _ _ => 0) default).world.heap.toList := by kernel_rfl
theorem rest (os : Os) : List.take ((begin Tryz.checked.prog (fun _ _ => 0) default).world.heap.size - Tryz.checked.prog.globals.size) (List.drop Tryz.checked.prog.globals.size ((World.laidAll Tryz.prog os LD).forCall (fun _ _ => 0) { blocks := #[], args := args0 }).heap.toList) = List.drop Tryz.checked.prog.globals.size (begin Tryz.checked.prog (fun _ _ => 0) default).world.heap.toList := (QoL os) ▸ rest2 os
end Go.Proofs.YthiiaehlmfbeoaaGreatDoor

/-
  The table says what the functions of the program are, part by part.
-/
import Derived.Test.YtjdgikpokdgapaaGreatDoorRows
import Derived.Test.YtjdgikpokdgapaaGreatDoorKFb
set_option linter.all false
namespace Go.Proofs.YtjdgikpokdgapaaGreatDoor
open Go Go.Ab
noncomputable section
set_option maxRecDepth 100000 in
theorem c0 : ((Tryz.prog.funcs.toList.drop 0).take 94).map (infoOf Tryz.prog) = (List.range' 0 94).map mAll := by kernel_rfl
set_option maxRecDepth 100000 in
theorem c1 : ((Tryz.prog.funcs.toList.drop 94).take 94).map (infoOf Tryz.prog) = (List.range' 94 94).map mAll := by kernel_rfl
set_option maxRecDepth 100000 in
theorem c2 : ((Tryz.prog.funcs.toList.drop 188).take 94).map (infoOf Tryz.prog) = (List.range' 188 94).map mAll := by kernel_rfl
set_option maxRecDepth 100000 in
theorem c3 : ((Tryz.prog.funcs.toList.drop 282).take 94).map (infoOf Tryz.prog) = (List.range' 282 94).map mAll := by kernel_rfl
set_option maxRecDepth 100000 in
theorem c4 : ((Tryz.prog.funcs.toList.drop 376).take 94).map (infoOf Tryz.prog) = (List.range' 376 94).map mAll := by kernel_rfl
set_option maxRecDepth 100000 in
theorem c5 : ((Tryz.prog.funcs.toList.drop 470).take 94).map (infoOf Tryz.prog) = (List.range' 470 94).map mAll := by kernel_rfl
set_option maxRecDepth 100000 in
theorem c6 : ((Tryz.prog.funcs.toList.drop 564).take 94).map (infoOf Tryz.prog) = (List.range' 564 94).map mAll := by kernel_rfl
set_option maxRecDepth 100000 in
theorem c7 : ((Tryz.prog.funcs.toList.drop 658).take 93).map (infoOf Tryz.prog) = (List.range' 658 93).map mAll := by kernel_rfl
set_option maxRecDepth 100000 in
theorem p0 : ((Tryz.prog.funcs.toList.drop 0).take 94).all (fun f => f.params.all fun t => decide (t < Tryz.prog.types.size)) = true := by kernel_rfl
set_option maxRecDepth 100000 in
theorem p1 : ((Tryz.prog.funcs.toList.drop 94).take 94).all (fun f => f.params.all fun t => decide (t < Tryz.prog.types.size)) = true := by kernel_rfl
set_option maxRecDepth 100000 in
theorem p2 : ((Tryz.prog.funcs.toList.drop 188).take 94).all (fun f => f.params.all fun t => decide (t < Tryz.prog.types.size)) = true := by kernel_rfl
set_option maxRecDepth 100000 in
theorem p3 : ((Tryz.prog.funcs.toList.drop 282).take 94).all (fun f => f.params.all fun t => decide (t < Tryz.prog.types.size)) = true := by kernel_rfl
set_option maxRecDepth 100000 in
theorem p4 : ((Tryz.prog.funcs.toList.drop 376).take 94).all (fun f => f.params.all fun t => decide (t < Tryz.prog.types.size)) = true := by kernel_rfl
set_option maxRecDepth 100000 in
theorem p5 : ((Tryz.prog.funcs.toList.drop 470).take 94).all (fun f => f.params.all fun t => decide (t < Tryz.prog.types.size)) = true := by kernel_rfl
set_option maxRecDepth 100000 in
theorem p6 : ((Tryz.prog.funcs.toList.drop 564).take 94).all (fun f => f.params.all fun t => decide (t < Tryz.prog.types.size)) = true := by kernel_rfl
set_option maxRecDepth 100000 in
theorem p7 : ((Tryz.prog.funcs.toList.drop 658).take 93).all (fun f => f.params.all fun t => decide (t < Tryz.prog.types.size)) = true := by kernel_rfl
set_option maxRecDepth 100000 in
theorem cEnd : (Tryz.prog.funcs.toList.drop 751).map (infoOf Tryz.prog) = (List.range' 751 0).map mAll := by kernel_rfl
set_option maxRecDepth 100000 in
theorem pEnd : (Tryz.prog.funcs.toList.drop 751).all (fun f => f.params.all fun t => decide (t < Tryz.prog.types.size)) = true := by kernel_rfl
theorem infoAll : Tryz.prog.funcs.toList.map (infoOf Tryz.prog) = (List.range' 0 751).map mAll := (chunk (c := 94) rfl c0 (chunk (c := 188) rfl c1 (chunk (c := 282) rfl c2 (chunk (c := 376) rfl c3 (chunk (c := 470) rfl c4 (chunk (c := 564) rfl c5 (chunk (c := 658) rfl c6 (chunk (c := 751) rfl c7 cEnd))))))))
theorem parAll : (Tryz.prog.funcs.toList.all fun f => f.params.all fun t => decide (t < Tryz.prog.types.size)) = true := (chunkA (c := 94) rfl p0 (chunkA (c := 188) rfl p1 (chunkA (c := 282) rfl p2 (chunkA (c := 376) rfl p3 (chunkA (c := 470) rfl p4 (chunkA (c := 564) rfl p5 (chunkA (c := 658) rfl p6 (chunkA (c := 751) rfl p7 pEnd))))))))
end
end Go.Proofs.YtjdgikpokdgapaaGreatDoor

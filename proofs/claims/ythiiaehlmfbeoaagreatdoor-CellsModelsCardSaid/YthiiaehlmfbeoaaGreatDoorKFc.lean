/-
  The table says what the functions of the program are, part by part.
-/
import Derived.Test.YthiiaehlmfbeoaaGreatDoorRows
import Derived.Test.YthiiaehlmfbeoaaGreatDoorKFb
set_option linter.all false
set_option maxRecDepth 100000
namespace Go.Proofs.YthiiaehlmfbeoaaGreatDoor
open Go Go.Ab
noncomputable section
theorem c0:((Tryz.prog.funcs.toList.drop 0).take 100).map (QoV Tryz.prog)=(List.range' 0 100).map mAll:=by kernel_rfl
theorem c1:((Tryz.prog.funcs.toList.drop 100).take 100).map (QoV Tryz.prog)=(List.range' 100 100).map mAll:=by kernel_rfl
theorem c2:((Tryz.prog.funcs.toList.drop 200).take 100).map (QoV Tryz.prog)=(List.range' 200 100).map mAll:=by kernel_rfl
theorem c3:((Tryz.prog.funcs.toList.drop 300).take 100).map (QoV Tryz.prog)=(List.range' 300 100).map mAll:=by kernel_rfl
theorem c4:((Tryz.prog.funcs.toList.drop 400).take 100).map (QoV Tryz.prog)=(List.range' 400 100).map mAll:=by kernel_rfl
theorem c5:((Tryz.prog.funcs.toList.drop 500).take 100).map (QoV Tryz.prog)=(List.range' 500 100).map mAll:=by kernel_rfl
theorem c6:((Tryz.prog.funcs.toList.drop 600).take 100).map (QoV Tryz.prog)=(List.range' 600 100).map mAll:=by kernel_rfl
theorem c7:((Tryz.prog.funcs.toList.drop 700).take 100).map (QoV Tryz.prog)=(List.range' 700 100).map mAll:=by kernel_rfl
theorem c8:((Tryz.prog.funcs.toList.drop 800).take 8).map (QoV Tryz.prog)=(List.range' 800 8).map mAll:=by kernel_rfl
theorem p0:((Tryz.prog.funcs.toList.drop 0).take 100).all (fun f=>f.params.all fun t=>decide (t<Tryz.prog.types.size))=true:=by kernel_rfl
theorem p1:((Tryz.prog.funcs.toList.drop 100).take 100).all (fun f=>f.params.all fun t=>decide (t<Tryz.prog.types.size))=true:=by kernel_rfl
theorem p2:((Tryz.prog.funcs.toList.drop 200).take 100).all (fun f=>f.params.all fun t=>decide (t<Tryz.prog.types.size))=true:=by kernel_rfl
theorem p3:((Tryz.prog.funcs.toList.drop 300).take 100).all (fun f=>f.params.all fun t=>decide (t<Tryz.prog.types.size))=true:=by kernel_rfl
theorem p4:((Tryz.prog.funcs.toList.drop 400).take 100).all (fun f=>f.params.all fun t=>decide (t<Tryz.prog.types.size))=true:=by kernel_rfl
theorem p5:((Tryz.prog.funcs.toList.drop 500).take 100).all (fun f=>f.params.all fun t=>decide (t<Tryz.prog.types.size))=true:=by kernel_rfl
theorem p6:((Tryz.prog.funcs.toList.drop 600).take 100).all (fun f=>f.params.all fun t=>decide (t<Tryz.prog.types.size))=true:=by kernel_rfl
theorem p7:((Tryz.prog.funcs.toList.drop 700).take 100).all (fun f=>f.params.all fun t=>decide (t<Tryz.prog.types.size))=true:=by kernel_rfl
theorem p8:((Tryz.prog.funcs.toList.drop 800).take 8).all (fun f=>f.params.all fun t=>decide (t<Tryz.prog.types.size))=true:=by kernel_rfl
theorem cEnd:(Tryz.prog.funcs.toList.drop 808).map (QoV Tryz.prog)=(List.range' 808 0).map mAll:=by kernel_rfl
theorem pEnd:(Tryz.prog.funcs.toList.drop 808).all (fun f=>f.params.all fun t=>decide (t<Tryz.prog.types.size))=true:=by kernel_rfl
theorem QoS:Tryz.prog.funcs.toList.map (QoV Tryz.prog)=(List.range' 0 808).map mAll:=(chunk (c:=100) rfl c0 (chunk (c:=200) rfl c1 (chunk (c:=300) rfl c2 (chunk (c:=400) rfl c3 (chunk (c:=500) rfl c4 (chunk (c:=600) rfl c5 (chunk (c:=700) rfl c6 (chunk (c:=800) rfl c7 (chunk (c:=808) rfl c8 cEnd)))))))))
theorem Qps:(Tryz.prog.funcs.toList.all fun f=>f.params.all fun t=>decide (t<Tryz.prog.types.size))=true:=(Qpy (c:=100) rfl p0 (Qpy (c:=200) rfl p1 (Qpy (c:=300) rfl p2 (Qpy (c:=400) rfl p3 (Qpy (c:=500) rfl p4 (Qpy (c:=600) rfl p5 (Qpy (c:=700) rfl p6 (Qpy (c:=800) rfl p7 (Qpy (c:=808) rfl p8 pEnd)))))))))
end
end Go.Proofs.YthiiaehlmfbeoaaGreatDoor

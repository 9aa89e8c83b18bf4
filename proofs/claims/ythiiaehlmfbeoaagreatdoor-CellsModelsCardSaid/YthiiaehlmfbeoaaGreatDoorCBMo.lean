/- A part of a proof. -/
import Derived.Test.YthiiaehlmfbeoaaGreatDoorKaGtoKJ0
import Derived.Test.YthiiaehlmfbeoaaGreatDoorWArgtoXR26
import Derived.Test.YthiiaehlmfbeoaaGreatDoorXDlMotoXDm
import Derived.Test.YthiiaehlmfbeoaaGreatDoorKaFtoKaN
set_option linter.all false
noncomputable section
namespace Go.Ab.L26
open Go Go.Ab Go.Proofs
noncomputable section
def LS26:List Nat:=[3,8,9,10,11,12,13,14,15,17,18,19,20,21,22,23,24,33,34,35,36,37,38,39,40,41,42,43,44,45,46,47,48,49,50,51,52,76,77,78,79,80,81,82,83,84,101,102,103,104,105,106,157]
theorem chk26:Qaf Tryz.prog (Qce Tryz.prog G26 LS26)=true:=by kernel_rfl
def F26:FuncId→Option AFun:=FU Tryz.prog G26 (maskN LS26) Tryz.prog.info? fun f=>Tryz.prog.funcs[f]?
theorem Qg0:FunOk Tryz.prog G26 F26:=QdH (Qdb chk26)
def fns26:List (Option AFun):=[some fn3,some fn8,some fn9,some fn10,some fn11,some fn12,some fn13,some fn14,some fn15,some fn17,some fn18,some fn19,some fn20,some fn21,some fn22,some fn23,some fn24,some fn33,some fn34,some fn35,some fn36,some fn37,some fn38,some fn39,some fn40,some fn41,some fn42,some fn43,some fn44,some fn45,some fn46,some fn47,some fn48,some fn49,some fn50,some fn51,some fn52,some fn76,some fn77,some fn78,some fn79,some fn80,some fn81,some fn82,some fn83,some fn84,some fn101,some fn102,some fn103,some fn104,some fn105,some fn106,some fn157]
theorem tab26:∀p:List (Option AFun)→Bool,Qaf Tryz.prog (fun I FS=>p (LS26.map (FU Tryz.prog G26 (maskN LS26) I FS)))=p fns26:=by
 intro p;kernel_rfl
open Classical in
theorem QfX:LS26.map F26=fns26:=by
 have h:=tab26 fun l=>decide (l=fns26)
 rw[Qae]at h;have e:decide (fns26=fns26)=true:=by simp
 rw[e]at h;exact of_decide_eq_true h
theorem at26(k:Nat){f:FuncId}{fn:Option AFun}(h1:LS26[k]? = some f)(h2:fns26[k]? = some fn):F26 f=fn:=by
 have h:=congrArg (fun l=>l[k]?) QfX;simp only[List.getElem?_map,h1,h2,Option.map_some]at h;exact Option.some.inj h
end
end Go.Ab.L26

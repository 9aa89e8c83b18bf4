/- A part of a proof. -/
import Derived.Test.YthiiaehlmfbeoaaGreatDoorKaGtoKJ0
import Derived.Test.YthiiaehlmfbeoaaGreatDoorKaFtoKaN
set_option linter.all false
namespace Go.Ab.L26
open Go Go.Ab Go.Proofs
noncomputable section
open AV in
def QnW:List AV:=[.int .i64 0,.int .i64 0,.int .i64 0,.int .i64 0,.int .i64 0,.int .i64 0,.int .i64 0,.int .i64 0,.int .i64 0,.int .i64 1,.int .i64 1,.int .i64 0,.int .i64 0,.int .i64 0,.int .i64 0,.int .i64 0,.int .i64 0,.int .i64 0,.int .i64 0,.int .i64 0,.int .i64 0,.int .i64 0,.int .i64 0,.int .i64 0,.int .i64 0,.int .i64 0,.int .i64 0,.int .i64 0,.int .i64 0,.int .i64 0,.int .i64 0,.int .i64 0,.int .i64 1,.int .i64 0,.int .i64 0,.int .i64 0,.int .i64 0,.int .i64 0,.int .i64 0,.int .i64 0,.int .i64 0,.int .i64 0,.int .i64 0,.int .i64 0,.int .i64 0,.int .i64 0,.int .i64 0,.int .i64 0,.int .i64 4,.int .i64 4,.int .i64 4,.int .i64 4,.int .i64 4,.int .i64 4,.int .i64 4,.int .i64 4,.int .i64 4,.int .i64 4,.int .i64 0,.int .i64 0,.int .i64 0,.int .i64 0,.int .i64 0,.int .i64 0,.int .i64 0,.int .i64 3,.int .i64 3,.int .i64 3,.int .i64 3,.int .i64 3,.int .i64 3,.int .i64 3,.int .i64 3,.int .i64 3,.int .i64 3,.int .i64 3,.int .i64 3,.int .i64 3,.int .i64 3,.int .i64 3,.int .i64 3,.int .i64 3,.int .i64 3,.int .i64 3,.int .i64 3,.int .i64 3,.int .i64 3,.int .i64 3,.int .i64 3,.int .i64 3,.int .i64 3,.int .i64 0,.int .i64 0,.int .i64 0,.int .i64 0,.int .i64 2,.int .i64 0,.int .i64 2,.int .i64 2,.int .i64 2,.int .i64 2,.int .i64 2,.int .i64 2,.int .i64 2,.int .i64 2,.int .i64 2,.int .i64 2,.int .i64 2,.int .i64 2,.int .i64 2,.int .i64 2,.int .i64 2,.int .i64 2,.int .i64 2,.int .i64 2,.int .i64 2,.int .i64 2,.int .i64 2,.int .i64 2,.int .i64 2,.int .i64 2,.int .i64 2,.int .i64 2,.int .i64 0,.int .i64 0,.int .i64 0,.int .i64 0,.int .i64 0]
open AV in
def kwEs:List (AV×AV×Nat):=[(.str 3 7239014,.int .i64 1,0),(.str 3 7628140,.int .i64 1,1),(.str 3 6514034,.int .i64 1,2),(.str 2 28265,.int .i64 1,3),(.str 2 26217,.int .i64 1,4),(.str 4 1852139636,.int .i64 1,5),(.str 4 1702063205,.int .i64 1,6),(.str 5 448345170285,.int .i64 1,7),(.str 2 28516,.int .i64 1,8),(.str 6 111516215828840,.int .i64 1,9),(.str 7 33618033694042227,.int .i64 1,10),(.str 5 431198396782,.int .i64 1,11),(.str 4 1802723693,.int .i64 1,12),(.str 5 444234036085,.int .i64 1,13),(.str 5 435728378979,.int .i64 1,14),(.str 6 111520796337522,.int .i64 1,15),(.str 4 1886351972,.int .i64 1,16),(.str 6 121437875889522,.int .i64 1,17),(.str 4 1702195828,.int .i64 1,18),(.str 5 435728179558,.int .i64 1,19),(.str 4 1635017060,.int .i64 1,20),(.str 6 127970251794021,.int .i64 1,21),(.str 4 1701015151,.int .i64 1,22),(.str 3 6710628,.int .i64 1,23),(.str 4 1852399981,.int .i64 1,24)]
def M0:KMemo:=QnU 696 (QnV 665 km0)
theorem tf696:Tryz.prog.funcs[696]? = some Tryz.f696:=by kernel_rfl
theorem tf665:Tryz.prog.funcs[665]? = some Tryz.f665:=by kernel_rfl
theorem m0_ok:Qao (fun _=>True) Tryz.prog G26 (absM M0):=
 Qhp (Qhq QmH tf665 (by kernel_rfl) (by kernel_rfl) (by kernel_rfl) (by kernel_rfl)) tf696 (by kernel_rfl) (by kernel_rfl) (by kernel_rfl) (by kernel_rfl)
def LSm:List Nat:=[464,477,578]
theorem chkS:Qaf Tryz.prog (Qce Tryz.prog G26 LSm)=true:=by kernel_rfl
def FS0(I:Tab)(FS:FuncId→Option Func):FuncId→Option AFun:=FU Tryz.prog G26 (maskN LSm) I FS
theorem fS_ok:FunOk Tryz.prog G26 (FS0 Tryz.prog.info? fun f=>Tryz.prog.funcs[f]?):=QdH (Qdb chkS)
theorem kind_run:Qaf Tryz.prog (fun I FS=>tabOk (FS0 I FS) M0 464 200 QnW 0)=true:=by kernel_rfl
def M1:KMemo:=kmTab 464 QnW M0
theorem m1_ok:Qao (fun _=>True) Tryz.prog G26 (absM M1):=QjE fS_ok Qbg m0_ok m0_ok (by kernel_rfl) (by have:=kind_run;rw[Qae]at this;exact this)
theorem kw_run:Qaf Tryz.prog (fun I FS=>Qan (FS0 I FS) 477 [] .normal [] 0 .nil (loopK (FS0 I FS) M1 (endOk (FS0 I FS) 477 (.map 0) [0] [.map kwEs 25]) 20000))=true:=by kernel_rfl
def M2:KMemo:=kmAdd 477 [] (fun n=>(.map n,[KO.map kwEs 25])) M1
theorem m2_ok:Qao (fun _=>True) Tryz.prog G26 (absM M2):=by
 refine QjF m1_ok fun B w0 g h w vs H hG hvs hK=>?_
 have hr:=kw_run;rw[Qae]at hr;exact Qfu fS_ok m1_ok Qbg (sel:=[0]) (os:=[.map kwEs 25]) (c:=fun n=>(.map n,[.map kwEs 25])) hr (fun i h1=>by simp at h1) (by simp) (fun n=>by kernel_rfl) H hG hvs hK
end
end Go.Ab.L26

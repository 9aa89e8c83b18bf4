/-
  A part of a proof: WDlEa.
-/
import Derived.Test.YteikbgknibikmaaGreatDoorWAtoWO22
set_option linter.all false
namespace Go.Ab.L22
open Go Go.Ab AV AO AC AOp AOpd AAct
/-- reprise/repriselaw22.StdlibEach -/
def b5 : AC :=
  .seq (.region [⟨some 2,.op (.box 55 (.tmp 0)),none⟩,⟨some 4,.op (.mov (.const (.bool false))),none⟩])
  (.seq (.region [⟨some 9,.op (.mov (.tmp 1)),none⟩,⟨some 10,.op (.convInt .i64 (.tmp 9)),none⟩,⟨some 11,.op (.bin .rem 9 (.tmp 10) (.const (.int .i64 5))),none⟩,⟨some 5,.op (.mov (.tmp 11)),none⟩])
  (.seq (.region [⟨some 12,.op (.mov (.tmp 5)),none⟩,⟨some 13,.op (.fieldAddr 3 (.tmp 2)),none⟩,⟨some 14,.op (.loadN 3 (.tmp 13)),none⟩,⟨some 15,.op (.buildSlice 1 [.int .i64 0,.int .i64 0,.nilslice] [(0,3,(.tmp 14))]),none⟩,⟨some 16,.op (.build [.int .i64 0,.int .i64 0,.nilslice] [(0,1,(.const (.int .i64 12))),(1,1,(.tmp 12)),(2,1,(.tmp 15))]),none⟩,⟨some 6,.op (.alloc 51 [.int .i64 0,.int .i64 0,.nilslice]),none⟩,⟨none,.op (.store 3 (.tmp 6) (.tmp 16)),none⟩])
  (.seq (.region [⟨some 17,.call (.const (.func 7 [] [])) [(.const (.int .i64 0))],none⟩,⟨some 7,.op (.alloc 51 [.int .i64 0,.int .i64 0,.nilslice]),none⟩,⟨none,.op (.store 3 (.tmp 7) (.tmp 17)),none⟩])
  (.seq (.seq (.region [⟨some 8,.op (.mov (.const (.int .i64 1))),none⟩])
  (.block 0 (.loop (.seq (.seq (.region [⟨some 18,.op (.mov (.tmp 8)),none⟩,⟨some 19,.op (.mov (.tmp 5)),none⟩,⟨some 20,.op (.bin .leq 9 (.tmp 18) (.tmp 19)),none⟩])
    (.cond (.tmp 20)
     (.skip)
     (.exit 0)))
    (.seq (.block 1 (.draw [⟨[⟨some 23,.op (.loadN 3 (.tmp 7)),none⟩,⟨some 24,.op (.mov (.tmp 8)),none⟩,⟨some 26,.op (.fieldAddr 3 (.tmp 2)),none⟩,⟨some 27,.op (.loadN 3 (.tmp 26)),none⟩],some ⟨some 25,.call (.const (.func 7 [] [])) [(.tmp 24)],none⟩,[⟨some 23,.op (.loadN 3 (.tmp 7)),none⟩,⟨some 27,.op (.loadN 3 (.tmp 26)),none⟩],[23,26,27]⟩,⟨[⟨some 28,.op (.buildSlice 2 [.int .i64 0,.int .i64 0,.nilslice,.int .i64 0,.int .i64 0,.nilslice] [(0,3,(.tmp 25)),(3,3,(.tmp 27))]),none⟩],some ⟨some 29,.call (.const (.func 9 [] [])) [(.const (.int .i64 8)),(.tmp 28)],none⟩,[⟨some 23,.op (.loadN 3 (.tmp 7)),none⟩],[23]⟩,⟨[⟨some 30,.op (.buildSlice 2 [.int .i64 0,.int .i64 0,.nilslice,.int .i64 0,.int .i64 0,.nilslice] [(0,3,(.tmp 23)),(3,3,(.tmp 29))]),none⟩],some ⟨some 31,.call (.const (.func 9 [] [])) [(.const (.int .i64 9)),(.tmp 30)],none⟩,[],[]⟩,⟨[],some ⟨none,.op (.store 3 (.tmp 7) (.tmp 31)),none⟩,[],[]⟩,⟨[],none,[],[]⟩] []))
    (.region [⟨some 21,.op (.mov (.tmp 8)),none⟩,⟨some 22,.op (.bin .add 9 (.tmp 21) (.const (.int .i64 1))),none⟩,⟨some 8,.op (.mov (.tmp 22)),none⟩]))))))
  (.seq (.region [⟨some 32,.op (.loadN 6 (.tmp 2)),none⟩,⟨some 33,.op (.loadN 3 (.tmp 6)),none⟩,⟨some 34,.op (.loadN 3 (.tmp 7)),none⟩,⟨some 35,.call (.const (.func 11 [] [])) [(.tmp 32),(.tmp 33),(.tmp 34)],none⟩,⟨some 36,.op (.mov (.tmp 35)),none⟩,⟨some 37,.call (.const (.func 12 [] [])) [],some (36,true)⟩,⟨some 38,.op (.pick (.tmp 36) (.tmp 37) (.const (.bool false))),none⟩,⟨some 4,.op (.mov (.tmp 38)),none⟩])
  (.ret))))))
def fn5 : AFun:=⟨39,[.tmp 4],b5⟩
abbrev i_Each : FuncId:=5
abbrev QnO : AFun:=fn5
end Go.Ab.L22

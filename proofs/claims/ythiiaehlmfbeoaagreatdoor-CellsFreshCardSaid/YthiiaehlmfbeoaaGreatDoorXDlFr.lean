/-
  A part of a proof: XDlFr.
-/
import Derived.Test.YthiiaehlmfbeoaaGreatDoorWArgtoXR26
set_option linter.all false
namespace Go.Ab.L26
namespace B
end B
open B
open Go Go.Ab AV AO AC AOp AOpd AAct
/-- reprise/repriselaw26.CellsFresh -/
def b4:AC :=
  .seq (.region [o 1 (.box 51 (t 0)),o 2 (.mov (.const (.bool false)))])
  (.seq (.region [o 10 (.loadN 2 (t 1)),k 11 8 [(t 10)],m 9 11,o 12 (.extract (t 9) 0),o 13 (.extract (t 9) 1),m 3 12,m 4 13])
  (.seq (.region [o 15 (.loadN 2 (t 1)),k 16 14 [(t 15)],m 14 16,o 17 (.extract (t 14) 0),o 18 (.extract (t 14) 1),m 5 17,m 6 18])
  (.seq (.seq (.region [m 19 4,o 20 (.bin .neq 9 (t 19) (i 0)),m 21 20,z 22 21 (.mov (t 3)),z 23 21 (.len 1 (t 22)),z 24 21 (.fieldAddr 1 (t 1)),z 25 21 (.load1 (t 24)),z 26 21 (.len 1 (t 25)),z 27 21 (.bin .neq 9 (t 23) (t 26)),o 28 (.pick (t 21) (.const (.bool true)) (t 27))])
  (.cond (t 28)
   (.seq (.region [m 29 4,o 30 (.bin .neq 9 (t 29) (i 0)),m 31 30,y 32 31 (.mov (t 6)),y 33 31 (.mov (t 4)),y 34 31 (.bin .eql 9 (t 32) (t 33)),o 35 (.pick (t 31) (t 34) (.const (.bool false))),m 36 35,y 37 36 (.mov (t 3)),y 38 36 (.len 1 (t 37)),y 39 36 (.mov (t 5)),y 40 36 (.len 1 (t 39)),y 41 36 (.bin .add 9 (t 38) (t 40)),y 42 36 (.bin .eql 9 (t 41) (i 0)),o 43 (.pick (t 36) (t 42) (.const (.bool false))),m 44 43,⟨some 45,.call (.const (.func 16 [] [])) [],some (44,true)⟩,o 46 (.pick (t 44) (t 45) (.const (.bool false))),m 2 46])
   (.ret))
   (.skip)))
  (.seq (.region [o 7 (.mov (.const (.nilslice)))])
  (.seq (.seq (.region [o 8 (.mov (i 0))])
  (.block 0 (.loop (.seq (.seq (.region [m 47 8,m 48 3,o 49 (.len 1 (t 48)),o 50 (.bin .lss 9 (t 47) (t 49))])
    (.cond (t 50)
     (.skip)
     (.exit 0)))
    (.seq (.block 1 (.seq (.region [f 53 1 1,l 54 53,m 55 8,x 56 5 54 55,f 57 0 56,l 58 57,o 59 (.un .not (t 58))])
     (.cond (t 59)
      (.region [m 60 7,m 61 3,m 62 8,x 63 2 61 62,f 64 1 63,l 65 64,o 66 (.buildSlice 1 [.int .i64 0] [(0,1,(t 65))]),o 67 (.append 1 8 6 (t 60) (t 66)),m 7 67])
      (.skip))))
    (.region [m 51 8,o 52 (.bin .add 9 (t 51) (i 1)),m 8 52]))))))
  (.seq (.region [m 68 6,o 69 (.bin .eql 9 (t 68) (i 0)),m 70 69,y 71 70 (.mov (t 7)),y 72 70 (.mov (t 5)),⟨some 73,.call (.const (.func 13 [] [])) [(t 71),(t 72)],some (70,true)⟩,o 74 (.pick (t 70) (t 73) (.const (.bool false))),m 75 74,⟨some 76,.call (.const (.func 16 [] [])) [],some (75,true)⟩,o 77 (.pick (t 75) (t 76) (.const (.bool false))),m 2 77])
  (.ret)))))))
def fn4:AFun:=⟨78,[.tmp 2],b4⟩
end Go.Ab.L26

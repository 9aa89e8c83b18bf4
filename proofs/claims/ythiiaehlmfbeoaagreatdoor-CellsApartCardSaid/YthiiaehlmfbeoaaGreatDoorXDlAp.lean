/-
  A part of a proof: XDlAp.
-/
import Derived.Test.YthiiaehlmfbeoaaGreatDoorWArgtoXR26
set_option linter.all false
namespace Go.Ab.L26
namespace B
end B
open B
open Go Go.Ab AV AO AC AOp AOpd AAct
/-- reprise/repriselaw26.CellsApart -/
def b6:AC :=
  .seq (.region [o 3 (.box 99 (t 1)),o 4 (.mov (.const (.bool false)))])
  (.seq (.region [m 12 0,o 13 (.build [.nilslice,.nilslice] [(0,1,(t 12))]),o 5 (.alloc 51 [.nilslice,.nilslice]),n (.store 2 (t 5) (t 13))])
  (.seq (.seq (.region [o 14 (.loadN 2 (t 5)),k 15 17 [(t 14)],o 16 (.bin .neq 9 (t 15) (i 0)),m 17 16,z 18 17 (.loadN 2 (t 5)),⟨some 19,.call (.const (.func 18 [] [])) [(t 18)],some (17,false)⟩,z 20 17 (.bin .neq 9 (t 19) (i 0)),o 21 (.pick (t 17) (.const (.bool true)) (t 20))])
  (.cond (t 21)
   (.seq (.region [o 22 (.loadN 2 (t 5)),k 23 17 [(t 22)],o 24 (.bin .neq 9 (t 23) (i 0)),m 25 24,⟨some 26,.call (.const (.func 16 [] [])) [],some (25,true)⟩,o 27 (.pick (t 25) (t 26) (.const (.bool false))),m 4 27])
   (.ret))
   (.skip)))
  (.seq (.draw [⟨[f 28 0 3,l 29 28,o 30 (.convInt .i64 (t 29)),m 31 0,o 32 (.len 1 (t 31)),o 33 (.bin .rem 9 (t 30) (t 32)),f 34 1 3,l 35 34,o 36 (.convInt .i64 (t 35)),m 37 0,o 38 (.len 1 (t 37)),o 39 (.bin .rem 9 (t 36) (t 38)),m 6 33,m 7 39],none,[],[]⟩] [])
  (.seq (.draw [⟨[m 40 6,m 42 7,f 43 2 3,o 44 (.loadN 3 (t 43)),m 46 6],some (k 41 19 [(t 40)]),[o 44 (.loadN 3 (t 43))],[42,43,44,46]⟩,⟨[],some (k 45 21 [(t 42),(t 44)]),[],[46]⟩,⟨[],some (k 47 19 [(t 46)]),[],[]⟩,⟨[o 48 (.buildSlice 3 [.bool false,.int .i64 0,.int .i64 0,.int .i64 0,.nilslice,.bool false,.int .i64 0,.int .i64 0,.int .i64 0,.nilslice,.bool false,.int .i64 0,.int .i64 0,.int .i64 0,.nilslice] [(0,5,(t 41)),(5,5,(t 45)),(10,5,(t 47))]),f 49 1 5],some (n (.store 1 (t 49) (t 48))),[],[]⟩,⟨[],none,[],[]⟩] [])
  (.seq (.region [o 51 (.loadN 2 (t 5)),k 52 8 [(t 51)],m 50 52,o 53 (.extract (t 50) 0),o 54 (.extract (t 50) 1),m 8 53,m 9 54])
  (.seq (.seq (.region [m 55 9,o 56 (.bin .neq 9 (t 55) (i 0))])
  (.cond (t 56)
   (.seq (.region [o 57 (.loadN 2 (t 5)),k 58 18 [(t 57)],o 59 (.bin .neq 9 (t 58) (i 0)),m 60 59,y 61 60 (.mov (t 8)),y 62 60 (.len 1 (t 61)),y 63 60 (.bin .eql 9 (t 62) (i 0)),o 64 (.pick (t 60) (t 63) (.const (.bool false))),m 65 64,⟨some 66,.call (.const (.func 16 [] [])) [],some (65,true)⟩,o 67 (.pick (t 65) (t 66) (.const (.bool false))),m 4 67])
   (.ret))
   (.skip)))
  (.seq (.seq (.region [m 68 8,o 69 (.len 1 (t 68)),o 70 (.bin .neq 9 (t 69) (i 3))])
  (.cond (t 70)
   (.seq (.region [o 4 (.mov (.const (.bool false)))])
   (.ret))
   (.skip)))
  (.seq (.region [o 10 (.mov (.const (.bool false)))])
  (.seq (.seq (.region [o 11 (.mov (i 0))])
  (.block 0 (.loop (.seq (.seq (.region [m 71 11,m 72 8,o 73 (.indexAddr 2 (t 72) (i 0)),f 74 0 73,l 75 74,o 76 (.len 1 (t 75)),o 77 (.bin .lss 9 (t 71) (t 76))])
    (.cond (t 77)
     (.skip)
     (.exit 0)))
    (.seq (.block 1 (.region [m 80 10,m 81 80,z 82 81 (.mov (t 8)),z 83 81 (.indexAddr 2 (t 82) (i 0)),z 84 81 (.fieldAddr 0 (t 83)),z 85 81 (.load1 (t 84)),z 86 81 (.mov (t 11)),z 87 81 (.indexAddr 1 (t 85) (t 86)),z 88 81 (.load1 (t 87)),z 89 81 (.mov (t 7)),z 90 81 (.bin .eql 9 (t 88) (t 89)),o 91 (.pick (t 81) (.const (.bool true)) (t 90)),m 10 91]))
    (.region [m 78 11,o 79 (.bin .add 9 (t 78) (i 1)),m 11 79]))))))
  (.seq (.seq (.region [m 92 10,o 93 (.un .not (t 92))])
  (.cond (t 93)
   (.seq (.draw [⟨[m 94 8,o 95 (.indexAddr 2 (t 94) (i 2)),f 96 0 95,l 97 96,o 98 (.len 1 (t 97)),o 99 (.bin .eql 9 (t 98) (i 0)),m 100 99,y 101 100 (.mov (t 8)),y 102 100 (.indexAddr 2 (t 101) (i 2)),y 103 100 (.fieldAddr 1 (t 102)),y 104 100 (.load1 (t 103)),y 105 100 (.mov (t 8)),y 106 100 (.indexAddr 2 (t 105) (i 0)),y 107 100 (.fieldAddr 1 (t 106)),y 108 100 (.load1 (t 107)),y 109 100 (.bin .eql 9 (t 104) (t 108)),o 110 (.pick (t 100) (t 109) (.const (.bool false))),m 111 110],some ⟨some 112,.call (.const (.func 16 [] [])) [],some (111,true)⟩,[],[]⟩,⟨[o 113 (.pick (t 111) (t 112) (.const (.bool false))),m 4 113],none,[],[]⟩] [])
   (.ret))
   (.skip)))
  (.seq (.region [m 114 8,o 115 (.indexAddr 2 (t 114) (i 2)),f 116 0 115,l 117 116,o 118 (.len 1 (t 117)),o 119 (.bin .gtr 9 (t 118) (i 0)),m 120 119,y 121 120 (.mov (t 8)),y 122 120 (.indexAddr 2 (t 121) (i 2)),y 123 120 (.fieldAddr 0 (t 122)),y 124 120 (.load1 (t 123)),y 125 120 (.indexAddr 1 (t 124) (i 0)),y 126 120 (.load1 (t 125)),y 127 120 (.mov (t 6)),y 128 120 (.bin .eql 9 (t 126) (t 127)),o 129 (.pick (t 120) (t 128) (.const (.bool false))),m 130 129,⟨some 131,.call (.const (.func 16 [] [])) [],some (130,true)⟩,o 132 (.pick (t 130) (t 131) (.const (.bool false))),m 4 132])
  (.ret))))))))))))
def fn6:AFun:=⟨133,[.tmp 4],b6⟩
end Go.Ab.L26

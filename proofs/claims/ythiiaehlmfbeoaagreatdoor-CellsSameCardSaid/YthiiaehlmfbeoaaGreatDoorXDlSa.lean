/-
  A part of a proof: XDlSa.
-/
import Derived.Test.YthiiaehlmfbeoaaGreatDoorWArgtoXR26
set_option linter.all false
namespace Go.Ab.L26
namespace B
end B
open B
open Go Go.Ab AV AO AC AOp AOpd AAct
/-- reprise/repriselaw26.CellsSame -/
def b7:AC :=
  .seq (.region [o 2 (.box 51 (t 0)),o 3 (.box 105 (t 1)),o 4 (.mov (.const (.bool false)))])
  (.seq (.region [o 17 (.loadN 2 (t 2)),k 18 14 [(t 17)],m 16 18,o 19 (.extract (t 16) 0),o 20 (.extract (t 16) 1),m 5 19,m 6 20])
  (.seq (.seq (.region [m 21 6,o 22 (.bin .neq 9 (t 21) (i 0)),m 23 22,z 24 23 (.loadN 2 (t 2)),⟨some 25,.call (.const (.func 18 [] [])) [(t 24)],some (23,false)⟩,z 26 23 (.bin .neq 9 (t 25) (i 0)),o 27 (.pick (t 23) (.const (.bool true)) (t 26))])
  (.cond (t 27)
   (.seq (.region [m 28 6,o 29 (.bin .neq 9 (t 28) (i 0)),m 30 29,⟨some 31,.call (.const (.func 16 [] [])) [],some (30,true)⟩,o 32 (.pick (t 30) (t 31) (.const (.bool false))),m 4 32])
   (.ret))
   (.skip)))
  (.seq (.seq (.region [f 33 1 2,l 34 33,o 35 (.len 1 (t 34)),o 36 (.bin .eql 9 (t 35) (i 10))])
  (.cond (t 36)
   (.seq (.region [k 37 16 [],m 4 37])
   (.ret))
   (.skip)))
  (.seq (.draw [⟨[o 38 (.indexArr 2 1 (t 3) (i 0)),l 39 38,o 40 (.convInt .i64 (t 39)),f 41 1 2,l 42 41,o 43 (.len 1 (t 42)),o 44 (.bin .add 9 (t 43) (i 1)),o 45 (.bin .rem 9 (t 40) (t 44)),o 46 (.indexArr 2 1 (t 3) (i 1)),l 47 46,o 48 (.convInt .i64 (t 47)),f 49 0 2,l 50 49,o 51 (.len 1 (t 50)),o 52 (.bin .rem 9 (t 48) (t 51)),m 7 45,m 8 52],none,[],[]⟩] [])
  (.seq (.region [f 53 0 2,l 54 53,m 55 8,x 56 3 54 55,o 57 (.loadN 3 (t 56)),o 9 (.alloc 79 [.int .i64 0,.int .i64 0,.nilslice]),n (.store 3 (t 9) (t 57))])
  (.seq (.seq (.region [o 10 (.mov (i 0))])
  (.block 0 (.loop (.seq (.seq (.region [m 58 10,m 59 7,o 60 (.bin .lss 9 (t 58) (t 59))])
    (.cond (t 60)
     (.skip)
     (.exit 0)))
    (.seq (.block 1 (.seq (.region [f 63 1 2,l 64 63,m 65 10,x 66 5 64 65,f 67 0 66,l 68 67,m 69 68,y 70 69 (.fieldAddr 1 (t 2)),y 71 69 (.load1 (t 70)),y 72 69 (.mov (t 10)),y 73 69 (.indexAddr 5 (t 71) (t 72)),y 74 69 (.fieldAddr 1 (t 73)),y 75 69 (.load1 (t 74)),y 76 69 (.mov (t 8)),y 77 69 (.bin .eql 9 (t 75) (t 76)),o 78 (.pick (t 69) (t 77) (.const (.bool false)))])
     (.cond (t 78)
      (.region [f 79 1 2,l 80 79,m 81 10,x 82 5 80 81,f 83 2 82,o 84 (.loadN 3 (t 83)),n (.store 3 (t 9) (t 84))])
      (.skip))))
    (.region [m 61 10,o 62 (.bin .add 9 (t 61) (i 1)),m 10 62]))))))
  (.seq (.region [o 85 (.loadN 2 (t 2)),o 11 (.alloc 51 [.nilslice,.nilslice]),n (.store 2 (t 11) (t 85))])
  (.seq (.draw [⟨[o 86 (.buildSlice 0 [] []),f 87 1 2,l 88 87,m 89 7,o 90 (.slice 5 (t 88) none (some (t 89)) none),m 92 8,o 93 (.loadN 3 (t 9))],some (o 91 (.append 5 56 82 (t 86) (t 90))),[o 93 (.loadN 3 (t 9))],[92,93]⟩,⟨[],some (k 94 21 [(t 92),(t 93)]),[],[]⟩,⟨[o 95 (.buildSlice 1 [.bool false,.int .i64 0,.int .i64 0,.int .i64 0,.nilslice] [(0,5,(t 94))])],some (o 96 (.append 5 56 82 (t 91) (t 95))),[],[]⟩,⟨[f 97 1 11],some (n (.store 1 (t 97) (t 96))),[],[]⟩,⟨[],none,[],[]⟩] [])
  (.seq (.draw [⟨[f 98 1 11,l 99 98,f 100 1 2,l 101 100,m 102 7,o 103 (.slice 5 (t 101) (some (t 102)) none none)],some (o 104 (.append 5 56 82 (t 99) (t 103))),[],[]⟩,⟨[f 105 1 11],some (n (.store 1 (t 105) (t 104))),[],[]⟩,⟨[],none,[],[]⟩] [])
  (.seq (.region [o 107 (.loadN 2 (t 11)),k 108 8 [(t 107)],m 106 108,o 109 (.extract (t 106) 0),o 110 (.extract (t 106) 1),m 12 109,m 13 110])
  (.seq (.seq (.region [m 111 13,o 112 (.bin .neq 9 (t 111) (i 0)),m 113 112,z 114 113 (.mov (t 12)),z 115 113 (.len 1 (t 114)),z 116 113 (.fieldAddr 1 (t 11)),z 117 113 (.load1 (t 116)),z 118 113 (.len 1 (t 117)),z 119 113 (.bin .neq 9 (t 115) (t 118)),o 120 (.pick (t 113) (.const (.bool true)) (t 119))])
  (.cond (t 120)
   (.seq (.region [o 4 (.mov (.const (.bool false)))])
   (.ret))
   (.skip)))
  (.seq (.region [o 14 (.mov (.const (.nilslice)))])
  (.seq (.seq (.region [o 15 (.mov (i 0))])
  (.block 2 (.loop (.seq (.seq (.region [m 121 15,m 122 12,o 123 (.len 1 (t 122)),o 124 (.bin .lss 9 (t 121) (t 123))])
    (.cond (t 124)
     (.skip)
     (.exit 2)))
    (.seq (.block 3 (.seq (.region [f 127 1 11,l 128 127,m 129 15,x 130 5 128 129,f 131 0 130,l 132 131,o 133 (.un .not (t 132))])
     (.cond (t 133)
      (.region [m 134 14,m 135 12,m 136 15,x 137 2 135 136,f 138 1 137,l 139 138,o 140 (.buildSlice 1 [.int .i64 0] [(0,1,(t 139))]),o 141 (.append 1 8 6 (t 134) (t 140)),m 14 141])
      (.skip))))
    (.region [m 125 15,o 126 (.bin .add 9 (t 125) (i 1)),m 15 126]))))))
  (.seq (.region [m 142 14,m 143 5,k 144 13 [(t 142),(t 143)],m 145 144,⟨some 146,.call (.const (.func 16 [] [])) [],some (145,true)⟩,o 147 (.pick (t 145) (t 146) (.const (.bool false))),m 4 147])
  (.ret)))))))))))))))
def fn7:AFun:=⟨148,[.tmp 4],b7⟩
end Go.Ab.L26

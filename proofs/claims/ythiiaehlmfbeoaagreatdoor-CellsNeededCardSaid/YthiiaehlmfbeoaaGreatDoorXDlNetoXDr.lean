/-
  A part of a proof: XDlNe XDr.
-/
import Derived.Test.YthiiaehlmfbeoaaGreatDoorWArgtoXR26
set_option linter.all false
namespace Go.Ab.L26
namespace B
end B
open B
open Go Go.Ab AV AO AC AOp AOpd AAct
/-- reprise/repriselaw26.CellsNeeded -/
def b5:AC :=
  .seq (.region [o 2 (.box 51 (t 0)),o 4 (.mov (.const (.bool false)))])
  (.seq (.seq (.region [o 12 (.loadN 2 (t 2)),k 13 17 [(t 12)],o 14 (.bin .neq 9 (t 13) (i 0)),m 15 14,z 16 15 (.loadN 2 (t 2)),⟨some 17,.call (.const (.func 18 [] [])) [(t 16)],some (15,false)⟩,z 18 15 (.bin .neq 9 (t 17) (i 0)),o 19 (.pick (t 15) (.const (.bool true)) (t 18))])
  (.cond (t 19)
   (.seq (.region [o 20 (.loadN 2 (t 2)),k 21 17 [(t 20)],o 22 (.bin .neq 9 (t 21) (i 0)),m 23 22,⟨some 24,.call (.const (.func 16 [] [])) [],some (23,true)⟩,o 25 (.pick (t 23) (t 24) (.const (.bool false))),m 4 25])
   (.ret))
   (.skip)))
  (.seq (.region [o 26 (.buildSlice 0 [] []),f 27 1 2,l 28 27,o 29 (.append 5 56 82 (t 26) (t 28)),f 30 1 2,n (.store 1 (t 30) (t 29))])
  (.seq (.seq (.region [f 31 1 2,l 32 31,o 33 (.len 1 (t 32)),o 34 (.bin .add 9 (t 33) (i 2)),o 35 (.bin .leq 9 (t 34) (i 10))])
  (.cond (t 35)
   (.seq (.region [m 36 1,o 37 (.convInt .i64 (t 36)),f 38 0 2,l 39 38,o 40 (.len 1 (t 39)),o 41 (.bin .rem 9 (t 37) (t 40)),m 5 41])
   (.draw [⟨[f 42 1 2,l 43 42,m 44 5,m 46 5],some (k 45 19 [(t 44)]),[l 43 42],[42,43,46]⟩,⟨[],some (k 47 19 [(t 46)]),[l 43 42],[42,43]⟩,⟨[o 48 (.buildSlice 2 [.bool false,.int .i64 0,.int .i64 0,.int .i64 0,.nilslice,.bool false,.int .i64 0,.int .i64 0,.int .i64 0,.nilslice] [(0,5,(t 45)),(5,5,(t 47))])],some (o 49 (.append 5 56 82 (t 43) (t 48))),[],[]⟩,⟨[f 50 1 2],some (n (.store 1 (t 50) (t 49))),[],[]⟩,⟨[],none,[],[]⟩] []))
   (.skip)))
  (.seq (.region [o 52 (.loadN 2 (t 2)),k 53 8 [(t 52)],m 51 53,o 54 (.extract (t 51) 0),o 55 (.extract (t 51) 1),m 6 54,m 7 55])
  (.seq (.seq (.region [m 56 7,o 57 (.bin .neq 9 (t 56) (i 0)),m 58 57,z 59 58 (.mov (t 6)),z 60 58 (.len 1 (t 59)),z 61 58 (.fieldAddr 1 (t 2)),z 62 58 (.load1 (t 61)),z 63 58 (.len 1 (t 62)),z 64 58 (.bin .neq 9 (t 60) (t 63)),o 65 (.pick (t 58) (.const (.bool true)) (t 64))])
  (.cond (t 65)
   (.seq (.region [o 4 (.mov (.const (.bool false)))])
   (.ret))
   (.skip)))
  (.seq (.seq (.region [o 8 (.mov (i 0))])
  (.block 0 (.loop (.seq (.seq (.region [m 66 8,m 67 6,o 68 (.len 1 (t 67)),o 69 (.bin .lss 9 (t 66) (t 68))])
    (.cond (t 69)
     (.skip)
     (.exit 0)))
    (.seq (.block 1 (.seq (.seq (.region [o 9 (.mov (i 0))])
     (.block 2 (.loop (.seq (.seq (.region [m 72 9,m 73 6,m 74 8,x 75 2 73 74,f 76 0 75,l 77 76,o 78 (.len 1 (t 77)),o 79 (.bin .lss 9 (t 72) (t 78))])
       (.cond (t 79)
        (.skip)
        (.exit 2)))
       (.seq (.block 3 (.seq (.region [m 82 6,m 83 8,x 84 2 82 83,f 85 0 84,l 86 85,m 87 9,x 88 1 86 87,l 89 88,m 10 89])
        (.seq (.seq (.region [f 90 1 2,l 91 90,m 92 8,x 93 5 91 92,f 94 0 93,l 95 94,m 96 95,z 97 96 (.mov (t 10)),z 98 96 (.fieldAddr 1 (t 2)),z 99 96 (.load1 (t 98)),z 100 96 (.mov (t 8)),z 101 96 (.indexAddr 5 (t 99) (t 100)),z 102 96 (.fieldAddr 1 (t 101)),z 103 96 (.load1 (t 102)),⟨some 104,.call (.const (.func 20 [] [])) [(t 97),(i 0),(t 103)],some (96,false)⟩,z 105 96 (.un .not (t 104)),o 106 (.pick (t 96) (.const (.bool true)) (t 105))])
        (.cond (t 106)
         (.seq (.region [o 4 (.mov (.const (.bool false)))])
         (.ret))
         (.skip)))
        (.seq (.region [o 11 (.mov (i 0))])
        (.block 4 (.loop (.seq (.seq (.region [m 107 11,m 108 9,o 109 (.bin .lss 9 (t 107) (t 108))])
          (.cond (t 109)
           (.skip)
           (.exit 4)))
          (.seq (.block 5 (.seq (.region [m 112 6,m 113 8,x 114 2 112 113,f 115 0 114,l 116 115,m 117 11,x 118 1 116 117,l 119 118,m 120 10,o 121 (.bin .eql 9 (t 119) (t 120))])
           (.cond (t 121)
            (.seq (.region [o 4 (.mov (.const (.bool false)))])
            (.ret))
            (.skip))))
          (.region [m 110 11,o 111 (.bin .add 9 (t 110) (i 1)),m 11 111])))))))))
       (.region [m 80 9,o 81 (.bin .add 9 (t 80) (i 1)),m 9 81]))))))
     (.seq (.draw [⟨[m 122 8,o 123 (.bin .gtr 9 (t 122) (i 0)),m 124 123,y 125 124 (.fieldAddr 1 (t 2)),y 126 124 (.load1 (t 125)),y 127 124 (.mov (t 8)),y 128 124 (.indexAddr 5 (t 126) (t 127)),y 129 124 (.fieldAddr 0 (t 128)),y 130 124 (.load1 (t 129)),y 131 124 (.un .not (t 130)),o 132 (.pick (t 124) (t 131) (.const (.bool false))),m 133 132,y 134 133 (.fieldAddr 1 (t 2)),y 135 133 (.load1 (t 134)),y 136 133 (.mov (t 8)),y 137 133 (.bin .sub 9 (t 136) (i 1)),y 138 133 (.indexAddr 5 (t 135) (t 137)),y 139 133 (.fieldAddr 0 (t 138)),y 140 133 (.load1 (t 139)),y 141 133 (.un .not (t 140)),o 142 (.pick (t 133) (t 141) (.const (.bool false))),m 143 142,y 144 143 (.fieldAddr 1 (t 2)),y 145 143 (.load1 (t 144)),y 146 143 (.mov (t 8)),y 147 143 (.indexAddr 5 (t 145) (t 146)),y 148 143 (.fieldAddr 1 (t 147)),y 149 143 (.load1 (t 148)),y 150 143 (.fieldAddr 1 (t 2)),y 151 143 (.load1 (t 150)),y 152 143 (.mov (t 8)),y 153 143 (.bin .sub 9 (t 152) (i 1)),y 154 143 (.indexAddr 5 (t 151) (t 153)),y 155 143 (.fieldAddr 1 (t 154)),y 156 143 (.load1 (t 155)),y 157 143 (.bin .eql 9 (t 149) (t 156)),o 158 (.pick (t 143) (t 157) (.const (.bool false))),m 159 158,y 160 159 (.mov (t 6)),y 161 159 (.mov (t 8)),y 162 159 (.indexAddr 2 (t 160) (t 161)),y 163 159 (.fieldAddr 0 (t 162)),y 164 159 (.load1 (t 163)),y 165 159 (.len 1 (t 164)),y 166 159 (.bin .gtr 9 (t 165) (i 0)),y 167 159 (.mov (t 166)),z 168 167 (.mov (t 6)),z 169 167 (.mov (t 8)),z 170 167 (.indexAddr 2 (t 168) (t 169)),z 171 167 (.fieldAddr 1 (t 170)),z 172 167 (.load1 (t 171)),z 173 167 (.mov (t 6)),z 174 167 (.mov (t 8)),z 175 167 (.bin .sub 9 (t 174) (i 1)),z 176 167 (.indexAddr 2 (t 173) (t 175)),z 177 167 (.fieldAddr 1 (t 176)),z 178 167 (.load1 (t 177)),z 179 167 (.bin .neq 9 (t 172) (t 178)),y 180 159 (.pick (t 167) (.const (.bool true)) (t 179)),o 181 (.pick (t 159) (t 180) (.const (.bool false)))],none,[],[]⟩] [])
     (.cond (t 181)
      (.seq (.region [o 4 (.mov (.const (.bool false)))])
      (.ret))
      (.skip)))))
    (.region [m 70 8,o 71 (.bin .add 9 (t 70) (i 1)),m 8 71]))))))
  (.seq (.region [k 182 16 [],m 4 182])
  (.ret))))))))
def fn5:AFun:=⟨183,[.tmp 4],b5⟩
end Go.Ab.L26
namespace Go.Ab.L26
namespace B
end B
open B
open Go Go.Ab AV AO AC AOp AOpd AAct
/-- reprise/repriseref26.Check -/
def b18:AC :=
  .seq (.region [o 1 (.box 51 (t 0)),o 2 (.mov (i 0))])
  (.seq (.seq (.region [f 7 0 1,l 8 7,o 9 (.len 1 (t 8)),o 10 (.bin .gtr 9 (t 9) (i 6)),m 11 10,z 12 11 (.fieldAddr 1 (t 1)),z 13 11 (.load1 (t 12)),z 14 11 (.len 1 (t 13)),z 15 11 (.bin .gtr 9 (t 14) (i 10)),o 16 (.pick (t 11) (.const (.bool true)) (t 15))])
  (.cond (t 16)
   (.seq (.region [o 2 (.mov (i 3))])
   (.ret))
   (.skip)))
  (.seq (.seq (.region [f 17 0 1,l 18 17,o 19 (.len 1 (t 18)),o 20 (.bin .eql 9 (t 19) (i 0))])
  (.cond (t 20)
   (.seq (.region [o 2 (.mov (i 6))])
   (.ret))
   (.skip)))
  (.seq (.seq (.region [o 3 (.mov (i 0))])
  (.block 0 (.loop (.seq (.seq (.region [m 21 3,f 22 0 1,l 23 22,o 24 (.len 1 (t 23)),o 25 (.bin .lss 9 (t 21) (t 24))])
    (.cond (t 25)
     (.skip)
     (.exit 0)))
    (.seq (.block 1 (.seq (.region [f 28 0 1,l 29 28,m 30 3,x 31 3 29 30,o 32 (.loadN 3 (t 31)),m 33 3,k 34 39 [(t 32),(t 33)],m 4 34])
     (.seq (.region [m 35 4,o 36 (.bin .neq 9 (t 35) (i 0))])
     (.cond (t 36)
      (.seq (.region [m 37 4,m 2 37])
      (.ret))
      (.skip)))))
    (.region [m 26 3,o 27 (.bin .add 9 (t 26) (i 1)),m 3 27]))))))
  (.seq (.seq (.region [o 5 (.mov (i 0))])
  (.block 2 (.loop (.seq (.seq (.region [m 38 5,f 39 1 1,l 40 39,o 41 (.len 1 (t 40)),o 42 (.bin .lss 9 (t 38) (t 41))])
    (.cond (t 42)
     (.skip)
     (.exit 2)))
    (.seq (.block 3 (.seq (.draw [⟨[f 45 1 1,l 46 45,m 47 5,x 48 5 46 47,o 49 (.loadN 5 (t 48)),f 50 0 1,l 51 50,o 52 (.len 1 (t 51))],some (k 53 40 [(t 49),(t 52)]),[],[]⟩,⟨[m 6 53],none,[],[]⟩] [])
     (.seq (.region [m 54 6,o 55 (.bin .neq 9 (t 54) (i 0))])
     (.cond (t 55)
      (.seq (.region [m 56 6,m 2 56])
      (.ret))
      (.skip)))))
    (.region [m 43 5,o 44 (.bin .add 9 (t 43) (i 1)),m 5 44]))))))
  (.seq (.region [o 2 (.mov (i 0))])
  (.ret))))))
def fn18:AFun:=⟨57,[.tmp 2],b18⟩

def b19:AC :=
 .seq (.region [o 2 (.alloc 83 [.bool false,.int .i64 0,.int .i64 0,.int .i64 0,.nilslice])])
 (.seq (.region [m 3 0,o 4 (.build [.bool false,.int .i64 0,.int .i64 0,.int .i64 0,.nilslice] [(1,1,(t 3))]),n (.store 5 (t 2) (t 4))])
 (.ret))
def fn19:AFun:=⟨5,[.cell 2 true 5],b19⟩

def b20:AC :=
 .seq (.region [o 6 (.mov (.const (.bool false)))])
 (.seq (.region [m 7 1,m 8 0,o 9 (.bin .leq 9 (t 7) (t 8)),m 10 9,y 11 10 (.mov (t 0)),y 12 10 (.mov (t 2)),y 13 10 (.bin .leq 9 (t 11) (t 12)),o 14 (.pick (t 10) (t 13) (.const (.bool false))),m 6 14])
 (.ret))
def fn20:AFun:=⟨15,[.tmp 6],b20⟩

def b21:AC :=
 .seq (.region [o 3 (.box 79 (t 1)),o 4 (.alloc 83 [.bool false,.int .i64 0,.int .i64 0,.int .i64 0,.nilslice])])
 (.seq (.region [m 5 0,o 6 (.loadN 3 (t 3)),o 7 (.build [.bool false,.int .i64 0,.int .i64 0,.int .i64 0,.nilslice] [(0,1,(.const (.bool true))),(1,1,(t 5)),(2,3,(t 6))]),n (.store 5 (t 4) (t 7))])
 (.ret))
def fn21:AFun:=⟨8,[.cell 4 true 5],b21⟩

def b39:AC :=
  .seq (.region [o 2 (.box 79 (t 0)),o 4 (.mov (i 0))])
  (.seq (.seq (.region [o 5 (.loadN 3 (t 2)),k 6 78 [(t 5),(i 12)],o 7 (.bin .lss 9 (t 6) (i 0))])
  (.cond (t 7)
   (.seq (.region [o 4 (.mov (i 3))])
   (.ret))
   (.skip)))
  (.seq (.region [o 8 (.loadN 3 (t 2)),m 9 1,k 10 79 [(t 8),(t 9)],m 4 10])
  (.ret)))
def fn39:AFun:=⟨11,[.tmp 4],b39⟩

def b40:AC :=
  .seq (.region [o 2 (.box 83 (t 0)),o 4 (.mov (i 0))])
  (.seq (.seq (.region [f 5 1 2,l 6 5,m 7 1,o 8 (.bin .sub 9 (t 7) (i 1)),k 9 20 [(t 6),(i 0),(t 8)],o 10 (.un .not (t 9))])
  (.cond (t 10)
   (.seq (.region [o 4 (.mov (i 6))])
   (.ret))
   (.skip)))
  (.seq (.seq (.region [f 11 0 2,l 12 11])
  (.cond (t 12)
   (.seq (.region [f 13 2 2,o 14 (.loadN 3 (t 13)),f 15 1 2,l 16 15,k 17 39 [(t 14),(t 16)],m 4 17])
   (.ret))
   (.skip)))
  (.seq (.seq (.region [f 18 2 2,f 19 0 18,l 20 19,o 21 (.bin .neq 9 (t 20) (i 0)),m 22 21,z 23 22 (.fieldAddr 2 (t 2)),z 24 22 (.fieldAddr 1 (t 23)),z 25 22 (.load1 (t 24)),z 26 22 (.bin .neq 9 (t 25) (i 0)),o 27 (.pick (t 22) (.const (.bool true)) (t 26)),m 28 27,z 29 28 (.fieldAddr 2 (t 2)),z 30 28 (.fieldAddr 2 (t 29)),z 31 28 (.load1 (t 30)),z 32 28 (.len 1 (t 31)),z 33 28 (.bin .gtr 9 (t 32) (i 0)),o 34 (.pick (t 28) (.const (.bool true)) (t 33))])
  (.cond (t 34)
   (.seq (.region [o 4 (.mov (i 1))])
   (.ret))
   (.skip)))
  (.seq (.region [o 4 (.mov (i 0))])
  (.ret)))))
def fn40:AFun:=⟨35,[.tmp 4],b40⟩

def b78:AC :=
  .seq (.region [o 2 (.box 79 (t 0)),o 4 (.mov (i 0))])
  (.seq (.region [m 6 1,o 7 (.bin .sub 9 (t 6) (i 1)),m 1 7])
  (.seq (.seq (.region [o 5 (.mov (i 0))])
  (.block 0 (.loop (.seq (.seq (.region [m 8 5,f 9 2 2,l 10 9,o 11 (.len 1 (t 10)),o 12 (.bin .lss 9 (t 8) (t 11)),m 13 12,y 14 13 (.mov (t 1)),y 15 13 (.bin .geq 9 (t 14) (i 0)),o 16 (.pick (t 13) (t 15) (.const (.bool false)))])
    (.cond (t 16)
     (.skip)
     (.exit 0)))
    (.seq (.block 1 (.region [f 19 2 2,l 20 19,m 21 5,x 22 3 20 21,o 23 (.loadN 3 (t 22)),m 24 1,k 25 78 [(t 23),(t 24)],m 1 25]))
    (.region [m 17 5,o 18 (.bin .add 9 (t 17) (i 1)),m 5 18]))))))
  (.seq (.region [m 26 1,m 4 26])
  (.ret))))
def fn78:AFun:=⟨27,[.tmp 4],b78⟩

def b79:AC :=
  .seq (.region [o 2 (.box 79 (t 0)),o 4 (.mov (i 0))])
  (.seq (.seq (.region [f 7 0 2,l 8 7,k 9 20 [(t 8),(i 0),(i 4)],o 10 (.un .not (t 9))])
  (.cond (t 10)
   (.seq (.region [o 4 (.mov (i 1))])
   (.ret))
   (.skip)))
  (.seq (.seq (.region [f 11 0 2,l 12 11,o 13 (.bin .eql 9 (t 12) (i 0)),m 14 13,y 15 14 (.fieldAddr 1 (t 2)),y 16 14 (.load1 (t 15)),⟨some 17,.call (.const (.func 20 [] [])) [(t 16),(.const (.int .i64 (-99))),(i 99)],some (14,true)⟩,y 18 14 (.un .not (t 17)),o 19 (.pick (t 14) (t 18) (.const (.bool false))),m 20 19,z 21 20 (.fieldAddr 0 (t 2)),z 22 20 (.load1 (t 21)),z 23 20 (.bin .eql 9 (t 22) (i 1)),z 24 20 (.mov (t 23)),y 25 24 (.fieldAddr 1 (t 2)),y 26 24 (.load1 (t 25)),y 27 24 (.bin .lss 9 (t 26) (i 0)),z 28 20 (.pick (t 24) (t 27) (.const (.bool false))),o 29 (.pick (t 20) (.const (.bool true)) (t 28)),m 30 29,z 31 30 (.fieldAddr 0 (t 2)),z 32 30 (.load1 (t 31)),z 33 30 (.bin .neq 9 (t 32) (i 0)),z 34 30 (.mov (t 33)),y 35 34 (.fieldAddr 0 (t 2)),y 36 34 (.load1 (t 35)),y 37 34 (.bin .neq 9 (t 36) (i 1)),z 38 30 (.pick (t 34) (t 37) (.const (.bool false))),z 39 30 (.mov (t 38)),y 40 39 (.fieldAddr 1 (t 2)),y 41 39 (.load1 (t 40)),y 42 39 (.bin .neq 9 (t 41) (i 0)),z 43 30 (.pick (t 39) (t 42) (.const (.bool false))),o 44 (.pick (t 30) (.const (.bool true)) (t 43))])
  (.cond (t 44)
   (.seq (.region [o 4 (.mov (i 1))])
   (.ret))
   (.skip)))
  (.seq (.seq (.draw [⟨[f 45 2 2,l 46 45,o 47 (.len 1 (t 46)),f 48 0 2,l 49 48],some (k 50 104 [(t 49)]),[l 46 45],[45,46,47]⟩,⟨[o 51 (.bin .neq 9 (t 47) (t 50))],none,[],[]⟩] [])
  (.cond (t 51)
   (.seq (.region [o 4 (.mov (i 7))])
   (.ret))
   (.skip)))
  (.seq (.seq (.region [f 52 0 2,l 53 52,o 54 (.bin .eql 9 (t 53) (i 1)),m 55 54,y 56 55 (.fieldAddr 1 (t 2)),y 57 55 (.load1 (t 56)),y 58 55 (.mov (t 1)),y 59 55 (.bin .geq 9 (t 57) (t 58)),o 60 (.pick (t 55) (t 59) (.const (.bool false)))])
  (.cond (t 60)
   (.seq (.region [o 4 (.mov (i 6))])
   (.ret))
   (.skip)))
  (.seq (.seq (.region [o 5 (.mov (i 0))])
  (.block 0 (.loop (.seq (.seq (.region [m 61 5,f 62 2 2,l 63 62,o 64 (.len 1 (t 63)),o 65 (.bin .lss 9 (t 61) (t 64))])
    (.cond (t 65)
     (.skip)
     (.exit 0)))
    (.seq (.block 1 (.seq (.region [f 68 2 2,l 69 68,m 70 5,x 71 3 69 70,o 72 (.loadN 3 (t 71)),m 73 1,k 74 79 [(t 72),(t 73)],m 6 74])
     (.seq (.region [m 75 6,o 76 (.bin .neq 9 (t 75) (i 0))])
     (.cond (t 76)
      (.seq (.region [m 77 6,m 4 77])
      (.ret))
      (.skip)))))
    (.region [m 66 5,o 67 (.bin .add 9 (t 66) (i 1)),m 5 67]))))))
  (.seq (.region [o 4 (.mov (i 0))])
  (.ret)))))))
def fn79:AFun:=⟨78,[.tmp 4],b79⟩

def b104:AC :=
  .seq (.region [o 2 (.mov (i 0))])
  (.seq (.seq (.region [m 3 0])
  (.block 0 (.seq (.seq (.region [o 5 (.bin .eql 9 (t 3) (i 0)),m 4 5])
   (.cond (t 4)
    (.skip)
    (.region [o 6 (.bin .eql 9 (t 3) (i 1)),m 4 6])))
   (.cond (t 4)
    (.seq (.region [o 2 (.mov (i 0))])
    (.ret))
    (.seq (.region [o 8 (.bin .eql 9 (t 3) (i 4)),m 7 8])
    (.cond (t 7)
     (.seq (.region [o 2 (.mov (i 3))])
     (.ret))
     (.skip)))))))
  (.seq (.region [o 2 (.mov (i 2))])
  (.ret)))
def fn104:AFun:=⟨9,[.tmp 2],b104⟩
end Go.Ab.L26

/-
  A part of a proof: XDr XN YG0 XFr ZA26 ZB26 ZC26 YH0.
-/
import Derived.Test.YthiiaehlmfbeoaaGreatDoorWArgtoXR26
import Derived.Test.YthiiaehlmfbeoaaGreatDoorWAtoXC
import Derived.Test.YthiiaehlmfbeoaaGreatDoorXZ26toYD0
import Derived.Test.YthiiaehlmfbeoaaGreatDoorXS26toYE26
set_option linter.all false
namespace Go.Ab.L26
namespace B
end B
open B
open Go Go.Ab AV AO AC AOp AOpd AAct
/-- reprise/repriseref26.Check -/
def b18:AC :=
  .seq (.region [o 1 (.box 51 (t 0)),o 2 (.mov (i 0))])
  (.seq (.seq (.region [f 7 0 1,l 8 7,o 9 (.len 1 (t 8)),o 10 (.bin .gtr 9 (t 9) (i 6)),m 11 10,z 12 11 (.fieldAddr 1 (t 1)),z 13 11 (.load1 (t 12)),z 14 11 (.len 1 (t 13)),z 15 11 (.bin .gtr 9 (t 14) (i 10)),o 16 (.pick (t 11) (.const (.bool true)) (t 15))])
  (.cond (t 16)
   (.seq (.region [o 2 (.mov (i 3))])
   (.ret))
   (.skip)))
  (.seq (.seq (.region [f 17 0 1,l 18 17,o 19 (.len 1 (t 18)),o 20 (.bin .eql 9 (t 19) (i 0))])
  (.cond (t 20)
   (.seq (.region [o 2 (.mov (i 6))])
   (.ret))
   (.skip)))
  (.seq (.seq (.region [o 3 (.mov (i 0))])
  (.block 0 (.loop (.seq (.seq (.region [m 21 3,f 22 0 1,l 23 22,o 24 (.len 1 (t 23)),o 25 (.bin .lss 9 (t 21) (t 24))])
    (.cond (t 25)
     (.skip)
     (.exit 0)))
    (.seq (.block 1 (.seq (.region [f 28 0 1,l 29 28,m 30 3,x 31 3 29 30,o 32 (.loadN 3 (t 31)),m 33 3,k 34 39 [(t 32),(t 33)],m 4 34])
     (.seq (.region [m 35 4,o 36 (.bin .neq 9 (t 35) (i 0))])
     (.cond (t 36)
      (.seq (.region [m 37 4,m 2 37])
      (.ret))
      (.skip)))))
    (.region [m 26 3,o 27 (.bin .add 9 (t 26) (i 1)),m 3 27]))))))
  (.seq (.seq (.region [o 5 (.mov (i 0))])
  (.block 2 (.loop (.seq (.seq (.region [m 38 5,f 39 1 1,l 40 39,o 41 (.len 1 (t 40)),o 42 (.bin .lss 9 (t 38) (t 41))])
    (.cond (t 42)
     (.skip)
     (.exit 2)))
    (.seq (.block 3 (.seq (.draw [⟨[f 45 1 1,l 46 45,m 47 5,x 48 5 46 47,o 49 (.loadN 5 (t 48)),f 50 0 1,l 51 50,o 52 (.len 1 (t 51))],some (k 53 40 [(t 49),(t 52)]),[],[]⟩,⟨[m 6 53],none,[],[]⟩] [])
     (.seq (.region [m 54 6,o 55 (.bin .neq 9 (t 54) (i 0))])
     (.cond (t 55)
      (.seq (.region [m 56 6,m 2 56])
      (.ret))
      (.skip)))))
    (.region [m 43 5,o 44 (.bin .add 9 (t 43) (i 1)),m 5 44]))))))
  (.seq (.region [o 2 (.mov (i 0))])
  (.ret))))))
def fn18:AFun:=⟨57,[.tmp 2],b18⟩

def b19:AC :=
 .seq (.region [o 2 (.alloc 83 [.bool false,.int .i64 0,.int .i64 0,.int .i64 0,.nilslice])])
 (.seq (.region [m 3 0,o 4 (.build [.bool false,.int .i64 0,.int .i64 0,.int .i64 0,.nilslice] [(1,1,(t 3))]),n (.store 5 (t 2) (t 4))])
 (.ret))
def fn19:AFun:=⟨5,[.cell 2 true 5],b19⟩

def b20:AC :=
 .seq (.region [o 6 (.mov (.const (.bool false)))])
 (.seq (.region [m 7 1,m 8 0,o 9 (.bin .leq 9 (t 7) (t 8)),m 10 9,y 11 10 (.mov (t 0)),y 12 10 (.mov (t 2)),y 13 10 (.bin .leq 9 (t 11) (t 12)),o 14 (.pick (t 10) (t 13) (.const (.bool false))),m 6 14])
 (.ret))
def fn20:AFun:=⟨15,[.tmp 6],b20⟩

def b21:AC :=
 .seq (.region [o 3 (.box 79 (t 1)),o 4 (.alloc 83 [.bool false,.int .i64 0,.int .i64 0,.int .i64 0,.nilslice])])
 (.seq (.region [m 5 0,o 6 (.loadN 3 (t 3)),o 7 (.build [.bool false,.int .i64 0,.int .i64 0,.int .i64 0,.nilslice] [(0,1,(.const (.bool true))),(1,1,(t 5)),(2,3,(t 6))]),n (.store 5 (t 4) (t 7))])
 (.ret))
def fn21:AFun:=⟨8,[.cell 4 true 5],b21⟩

def b39:AC :=
  .seq (.region [o 2 (.box 79 (t 0)),o 4 (.mov (i 0))])
  (.seq (.seq (.region [o 5 (.loadN 3 (t 2)),k 6 78 [(t 5),(i 12)],o 7 (.bin .lss 9 (t 6) (i 0))])
  (.cond (t 7)
   (.seq (.region [o 4 (.mov (i 3))])
   (.ret))
   (.skip)))
  (.seq (.region [o 8 (.loadN 3 (t 2)),m 9 1,k 10 79 [(t 8),(t 9)],m 4 10])
  (.ret)))
def fn39:AFun:=⟨11,[.tmp 4],b39⟩

def b40:AC :=
  .seq (.region [o 2 (.box 83 (t 0)),o 4 (.mov (i 0))])
  (.seq (.seq (.region [f 5 1 2,l 6 5,m 7 1,o 8 (.bin .sub 9 (t 7) (i 1)),k 9 20 [(t 6),(i 0),(t 8)],o 10 (.un .not (t 9))])
  (.cond (t 10)
   (.seq (.region [o 4 (.mov (i 6))])
   (.ret))
   (.skip)))
  (.seq (.seq (.region [f 11 0 2,l 12 11])
  (.cond (t 12)
   (.seq (.region [f 13 2 2,o 14 (.loadN 3 (t 13)),f 15 1 2,l 16 15,k 17 39 [(t 14),(t 16)],m 4 17])
   (.ret))
   (.skip)))
  (.seq (.seq (.region [f 18 2 2,f 19 0 18,l 20 19,o 21 (.bin .neq 9 (t 20) (i 0)),m 22 21,z 23 22 (.fieldAddr 2 (t 2)),z 24 22 (.fieldAddr 1 (t 23)),z 25 22 (.load1 (t 24)),z 26 22 (.bin .neq 9 (t 25) (i 0)),o 27 (.pick (t 22) (.const (.bool true)) (t 26)),m 28 27,z 29 28 (.fieldAddr 2 (t 2)),z 30 28 (.fieldAddr 2 (t 29)),z 31 28 (.load1 (t 30)),z 32 28 (.len 1 (t 31)),z 33 28 (.bin .gtr 9 (t 32) (i 0)),o 34 (.pick (t 28) (.const (.bool true)) (t 33))])
  (.cond (t 34)
   (.seq (.region [o 4 (.mov (i 1))])
   (.ret))
   (.skip)))
  (.seq (.region [o 4 (.mov (i 0))])
  (.ret)))))
def fn40:AFun:=⟨35,[.tmp 4],b40⟩

def b78:AC :=
  .seq (.region [o 2 (.box 79 (t 0)),o 4 (.mov (i 0))])
  (.seq (.region [m 6 1,o 7 (.bin .sub 9 (t 6) (i 1)),m 1 7])
  (.seq (.seq (.region [o 5 (.mov (i 0))])
  (.block 0 (.loop (.seq (.seq (.region [m 8 5,f 9 2 2,l 10 9,o 11 (.len 1 (t 10)),o 12 (.bin .lss 9 (t 8) (t 11)),m 13 12,y 14 13 (.mov (t 1)),y 15 13 (.bin .geq 9 (t 14) (i 0)),o 16 (.pick (t 13) (t 15) (.const (.bool false)))])
    (.cond (t 16)
     (.skip)
     (.exit 0)))
    (.seq (.block 1 (.region [f 19 2 2,l 20 19,m 21 5,x 22 3 20 21,o 23 (.loadN 3 (t 22)),m 24 1,k 25 78 [(t 23),(t 24)],m 1 25]))
    (.region [m 17 5,o 18 (.bin .add 9 (t 17) (i 1)),m 5 18]))))))
  (.seq (.region [m 26 1,m 4 26])
  (.ret))))
def fn78:AFun:=⟨27,[.tmp 4],b78⟩

def b79:AC :=
  .seq (.region [o 2 (.box 79 (t 0)),o 4 (.mov (i 0))])
  (.seq (.seq (.region [f 7 0 2,l 8 7,k 9 20 [(t 8),(i 0),(i 4)],o 10 (.un .not (t 9))])
  (.cond (t 10)
   (.seq (.region [o 4 (.mov (i 1))])
   (.ret))
   (.skip)))
  (.seq (.seq (.region [f 11 0 2,l 12 11,o 13 (.bin .eql 9 (t 12) (i 0)),m 14 13,y 15 14 (.fieldAddr 1 (t 2)),y 16 14 (.load1 (t 15)),⟨some 17,.call (.const (.func 20 [] [])) [(t 16),(.const (.int .i64 (-99))),(i 99)],some (14,true)⟩,y 18 14 (.un .not (t 17)),o 19 (.pick (t 14) (t 18) (.const (.bool false))),m 20 19,z 21 20 (.fieldAddr 0 (t 2)),z 22 20 (.load1 (t 21)),z 23 20 (.bin .eql 9 (t 22) (i 1)),z 24 20 (.mov (t 23)),y 25 24 (.fieldAddr 1 (t 2)),y 26 24 (.load1 (t 25)),y 27 24 (.bin .lss 9 (t 26) (i 0)),z 28 20 (.pick (t 24) (t 27) (.const (.bool false))),o 29 (.pick (t 20) (.const (.bool true)) (t 28)),m 30 29,z 31 30 (.fieldAddr 0 (t 2)),z 32 30 (.load1 (t 31)),z 33 30 (.bin .neq 9 (t 32) (i 0)),z 34 30 (.mov (t 33)),y 35 34 (.fieldAddr 0 (t 2)),y 36 34 (.load1 (t 35)),y 37 34 (.bin .neq 9 (t 36) (i 1)),z 38 30 (.pick (t 34) (t 37) (.const (.bool false))),z 39 30 (.mov (t 38)),y 40 39 (.fieldAddr 1 (t 2)),y 41 39 (.load1 (t 40)),y 42 39 (.bin .neq 9 (t 41) (i 0)),z 43 30 (.pick (t 39) (t 42) (.const (.bool false))),o 44 (.pick (t 30) (.const (.bool true)) (t 43))])
  (.cond (t 44)
   (.seq (.region [o 4 (.mov (i 1))])
   (.ret))
   (.skip)))
  (.seq (.seq (.draw [⟨[f 45 2 2,l 46 45,o 47 (.len 1 (t 46)),f 48 0 2,l 49 48],some (k 50 104 [(t 49)]),[l 46 45],[45,46,47]⟩,⟨[o 51 (.bin .neq 9 (t 47) (t 50))],none,[],[]⟩] [])
  (.cond (t 51)
   (.seq (.region [o 4 (.mov (i 7))])
   (.ret))
   (.skip)))
  (.seq (.seq (.region [f 52 0 2,l 53 52,o 54 (.bin .eql 9 (t 53) (i 1)),m 55 54,y 56 55 (.fieldAddr 1 (t 2)),y 57 55 (.load1 (t 56)),y 58 55 (.mov (t 1)),y 59 55 (.bin .geq 9 (t 57) (t 58)),o 60 (.pick (t 55) (t 59) (.const (.bool false)))])
  (.cond (t 60)
   (.seq (.region [o 4 (.mov (i 6))])
   (.ret))
   (.skip)))
  (.seq (.seq (.region [o 5 (.mov (i 0))])
  (.block 0 (.loop (.seq (.seq (.region [m 61 5,f 62 2 2,l 63 62,o 64 (.len 1 (t 63)),o 65 (.bin .lss 9 (t 61) (t 64))])
    (.cond (t 65)
     (.skip)
     (.exit 0)))
    (.seq (.block 1 (.seq (.region [f 68 2 2,l 69 68,m 70 5,x 71 3 69 70,o 72 (.loadN 3 (t 71)),m 73 1,k 74 79 [(t 72),(t 73)],m 6 74])
     (.seq (.region [m 75 6,o 76 (.bin .neq 9 (t 75) (i 0))])
     (.cond (t 76)
      (.seq (.region [m 77 6,m 4 77])
      (.ret))
      (.skip)))))
    (.region [m 66 5,o 67 (.bin .add 9 (t 66) (i 1)),m 5 67]))))))
  (.seq (.region [o 4 (.mov (i 0))])
  (.ret)))))))
def fn79:AFun:=⟨78,[.tmp 4],b79⟩

def b104:AC :=
  .seq (.region [o 2 (.mov (i 0))])
  (.seq (.seq (.region [m 3 0])
  (.block 0 (.seq (.seq (.region [o 5 (.bin .eql 9 (t 3) (i 0)),m 4 5])
   (.cond (t 4)
    (.skip)
    (.region [o 6 (.bin .eql 9 (t 3) (i 1)),m 4 6])))
   (.cond (t 4)
    (.seq (.region [o 2 (.mov (i 0))])
    (.ret))
    (.seq (.region [o 8 (.bin .eql 9 (t 3) (i 4)),m 7 8])
    (.cond (t 7)
     (.seq (.region [o 2 (.mov (i 3))])
     (.ret))
     (.skip)))))))
  (.seq (.region [o 2 (.mov (i 2))])
  (.ret)))
def fn104:AFun:=⟨9,[.tmp 2],b104⟩
end Go.Ab.L26
/-
 Loops by the slots that they write; lists that grow by several rows.
-/
namespace Go.Ab
open Go

def fv:List Bool→Nat→List AV→(Nat→AV)→List AV
 | true::m,i,_::l,f=>f i::fv m (i+1) l f
 | false::m,i,a::l,f=>a::fv m (i+1) l f
 | [],_,l,_=>l
 | _::_,_,[],_=>[]
abbrev τ:Bool:=true
abbrev φ:Bool:=false
theorem Qld:∀ (m:List Bool) (i:Nat) (l:List AV) (f:Nat→AV),(∀ j,j<l.length→f (i+j)=l.getD j .undef)→fv m i l f=l
 | [],_,l,_,_=>by cases l <;> rfl
 | true::m,i,[],f,_=>rfl
 | false::m,i,[],f,_=>rfl
 | true::m,i,a::l,f,h=>by
  have h0:f i=a:=h 0 (by simp)
  show f i::fv m (i+1) l f=_
  rw [h0,Qld m (i+1) l f fun j hj=>by
   have:=h (j+1) (by simpa using hj)
   rw [show i+1+j=i+(j+1) by omega]
   simpa using this]
 | false::m,i,a::l,f,h=>by
  show a::fv m (i+1) l f=_
  rw [Qld m (i+1) l f fun j hj=>by
   have:=h (j+1) (by simpa using hj)
   rw [show i+1+j=i+(j+1) by omega]
   simpa using this]
def at' (t:List AV) (i:Nat):AV:=t.getD i .undef
theorem fv_at {m:List Bool} {t:List AV}:fv m 0 t (at' t)=t:=Qld m 0 t _ fun j _=>by rw [Nat.zero_add];rfl
section
variable {F:FuncId→Option AFun} {M:Memo} {x:Ctx} {G:AS→Prop} {t:List AV} {k:List AItem} {h:AH}

theorem Qfi {b:AC} (W:List Bool) (Inv:Nat→(Nat→AV)→AH→Prop) (m:Nat) (h0:Inv m (at' t) h)
  (step:∀ m f h,Inv m f h→(∀ m' t' h',m'<m→Inv m' (at' t') h'→fv W 0 t (at' t')=t'→Reach F M (x.at t' (.inLoop b::k) h') G)→Reach F M (x.at (fv W 0 t f) (.code b::.inLoop b::k) h) G):Reach F M (x.at t (.code (.loop b)::k) h) G:=by
 refine Qbv (fun m t' h'=>∃ f,Inv m f h'∧t'=fv W 0 t f) m ⟨at' t,h0,fv_at.symm⟩ ?_
 rintro m t' h' ⟨f,hi,rfl⟩ ih
 refine step m f h' hi fun m' t2 h2 hm hi2 e=>?_
 exact ih m' t2 h2 hm ⟨at' t2,hi2,e.symm⟩

theorem R_joinF {a b:AC} (W:List Bool) (J:(Nat→AV)→AH→Prop) (hj:∀ f h',J f h'→Reach F M (x.at (fv W 0 t f) (.code b::k) h') G) (ha:(∀ t' h',J (at' t') h'→fv W 0 t (at' t')=t'→Reach F M (x.at t' (.code b::k) h') G)→Reach F M (x.at t (.code a::.code b::k) h) G) :
  Reach F M (x.at t (.code (.seq a b)::k) h) G :=
 .step rfl (ha fun t' h' hJ e=>e ▸ hj (at' t') h' hJ)
end

structure GE (lo:Nat) (h:AH) (tg es:Nat) (v:AV) (rows:List (List AV)):Prop where
 val:GL lo h tg es v rows ∨ (rows=[]∧∃ b sp,v=.slice b 0 0 0∧h.get b=some (.cells [] sp 0 [])∧lo≤b∧b<h.next)
 row:∀ r ∈ rows,r.length=es
theorem GL.ge {lo tg es:Nat} {h:AH} {v:AV} {rows:List (List AV)} (g:GL lo h tg es v rows):GE lo h tg es v rows:=⟨.inl g,g.row⟩
theorem GE.sl {lo tg es N:Nat} {h:AH} {v:AV} {rows:List (List AV)} (g:GE lo h tg es v rows) (hN:h.next≤N):Sl N h es v rows:=by
 rcases g.val with g | ⟨rfl,b,sp,rfl,h1,h2,h3⟩
 ·exact g.sl hN
 ·exact Sl.ofCells (.inr ⟨0,rfl⟩) (Nat.lt_of_lt_of_le h3 hN) h1 rfl (by simp) (by simp) (fun r hr=>by cases hr)
theorem GE.one {lo tg es:Nat} {h:AH} {v:AV} {rows:List (List AV)} (g:GE lo h tg es v rows):v.one=true∧v.known=true∧v.cells=[v]:=by
 rcases g.val with g | ⟨rfl,b,sp,rfl,_⟩
 ·rcases g.val with ⟨rfl,_⟩ | ⟨b,_,_,rfl,_⟩ <;> exact ⟨rfl,rfl,rfl⟩
 ·exact ⟨rfl,rfl,rfl⟩
theorem GE.up {lo tg es:Nat} {h h':AH} {v:AV} {rows:List (List AV)} (g:GE lo h tg es v rows) (u:Up h h'):GE lo h' tg es v rows:=by
 refine ⟨?_,g.row⟩
 rcases g.val with g | ⟨rfl,b,sp,rfl,h1,h2,h3⟩
 ·exact .inl (g.up u)
 ·exact .inr ⟨rfl,b,sp,rfl,by rw [u.keep b h3];exact h1,h2,Nat.lt_of_lt_of_le h3 u.next⟩

def inB (v:AV) (c:Nat):Prop:=∃ n e,v=.slop c 0 n e ∨ v=.slice c 0 n e
theorem GE.keep {lo tg es:Nat} {h h':AH} {v:AV} {rows:List (List AV)} (g:GE lo h tg es v rows) (hn:h.next≤h'.next) (hk:∀ c,inB v c→h'.get c=h.get c):GE lo h' tg es v rows:=by
 refine ⟨?_,g.row⟩
 rcases g.val with g | ⟨rfl,b,sp,rfl,h1,h2,h3⟩
 ·rcases g.val with ⟨rfl,rfl⟩ | ⟨b,pre,anc,rfl,h1,h2,h3⟩
  ·exact .inl GL.nil
  ·exact .inl ⟨.inr ⟨b,pre,anc,rfl,by rw [hk b ⟨_,_,.inl rfl⟩];exact h1,h2,Nat.lt_of_lt_of_le h3 hn⟩,g.row⟩
 ·exact .inr ⟨rfl,b,sp,rfl,by rw [hk b ⟨_,_,.inr rfl⟩];exact h1,h2,Nat.lt_of_lt_of_le h3 hn⟩
theorem GE.inB {lo tg es:Nat} {h:AH} {v:AV} {rows:List (List AV)} (g:GE lo h tg es v rows) {c:Nat} (hc:inB v c):lo≤c∧c<h.next:=by
 obtain ⟨n,e,hc⟩:=hc
 rcases g.val with g | ⟨rfl,b,sp,rfl,h1,h2,h3⟩
 ·rcases g.val with ⟨rfl,rfl⟩ | ⟨b,pre,anc,rfl,h1,h2,h3⟩
  ·rcases hc with e | e <;> cases e
  ·rcases hc with e | e <;> cases e
   exact ⟨h2,h3⟩
 ·rcases hc with e | e <;> cases e
  exact ⟨h2,h3⟩

structure AppR (lo:Nat) (h:AH) (tg es:Nat) (v:AV) (rows:List (List AV)) (v':AV) (h':AH):Prop where
 ge:GE lo h' tg es v' rows
 next:h.next≤h'.next
 low:∀ c,c<h.next→c<lo→h'.get c=h.get c
 wf:∀ b,h'.next≤b→h'.get b=none
 keep:∀ c,c<h.next→¬ inB v c→h'.get c=h.get c
theorem AppR.up {lo tg es:Nat} {h0 h h':AH} {v v':AV} {rows:List (List AV)} (a:AppR lo h tg es v rows v' h') (u:Up h0 h) (hl:h0.next≤lo):Up h0 h' :=
 ⟨Nat.le_trans u.next a.next,fun b hb=>(a.low b (Nat.lt_of_lt_of_le hb u.next) (by omega)).trans (u.keep b hb),a.wf⟩

theorem Qff {lo tg es bytes:Nat} {h:AH} {v:AV} {rows:List (List AV)} (g:GE lo h tg es v rows) (hw:∀ b,h.next≤b→h.get b=none) (hlo:lo≤h.next) {x:AV} {rs:List (List AV)} (hl:lenA x=some rs.length) (hx:Qar h es rs.length x=some rs.flatten)
  (hrs:∀ r ∈ rs,r.length=es∧r.all AV.one=true) (hes:es ≠ 0) (hb0:bytes ≠ 0) (hb1:bytes<1000000) (hn:rows.length * bytes<1000000000000) (hm:rs.length * bytes<1000000000000) :
  ∃ v' h',appF h es bytes tg v x=some (v',h')∧AppR lo h tg es v (rows++rs) v' h':=by
 have hfl:=Qa9 fun r hr=>(hrs r hr).1
 have hall:rs.flatten.all AV.one=true:=by
  rw [List.all_eq_true]
  intro x hx'
  obtain ⟨r,h1,h2⟩:=List.mem_flatten.1 hx'
  exact List.all_eq_true.1 (hrs r h1).2 x h2
 have hrows:∀ r' ∈ rows++rs,r'.length=es:=fun r' hr'=>by
  rcases List.mem_append.1 hr' with h1 | h1
  ·exact g.row r' h1
  ·exact (hrs r' h1).1
 simp only [appF,hl,hx]
 unfold QbU
 rw [if_pos ⟨hfl,hes,hb0,hb1,hm,hall⟩]
 by_cases c0:rs.length=0
 ·have hz:rs=[]:=List.length_eq_zero_iff.1 c0
  subst hz
  rw [if_pos c0]
  refine ⟨v,h,?_,⟨by simpa using g,Nat.le_refl _,fun _ _ _=>rfl,hw,fun _ _ _=>rfl⟩⟩
  rcases g.val with g | ⟨rfl,b,sp,rfl,h1,h2,h3⟩
  ·rcases g.val with ⟨rfl,rfl⟩ | ⟨b,pre,anc,rfl,h1,h2,h3⟩ <;> rfl
  ·rfl
 rw [if_neg c0]
 rcases g.val with g | ⟨rfl,b,sp,rfl,h1,h2,h3⟩
 ·rcases g.val with ⟨rfl,rfl⟩ | ⟨b,pre,anc,rfl,h1,h2,h3⟩
  ·refine ⟨_,_,rfl,⟨⟨.inl ⟨.inr ⟨h.next,0,[],by simp,by simpa using Qam h _,hlo,Nat.lt_succ_self _⟩,hrows⟩,hrows⟩,Nat.le_succ _,fun c hc _=>Qad h _ hc,fun c hc=>?_,fun c hc _=>Qad h _ hc⟩⟩
   have hc':h.next+1≤c:=hc
   show (if c=h.next then _ else h.get c)=none
   rw [if_neg (by omega)]
   exact hw c (by omega)
  ·have hlr:=Qa9 g.row
   refine ⟨.slop h.next 0 (rows.length+rs.length) es,(h.put b (.old rows.flatten)).alloc (.cells (rows.flatten++rs.flatten) (some tg) (rows.length * es) (b::anc)),?_,⟨⟨.inl ⟨.inr ⟨h.next,rows.length * es,b::anc,by simp,?_,hlo,Nat.lt_succ_self _⟩,hrows⟩,hrows⟩,Nat.le_succ _,fun c hc hl=>?_,fun c hc=>?_,fun c hc hn=>?_⟩⟩
   ·have hpos:0<rs.length * es:=Nat.mul_pos (by omega) (by omega)
    simp only [h1]
    rw [if_pos ⟨hn,by omega,trivial,trivial⟩,if_neg (by omega),if_pos (by omega),List.drop_zero]
   ·rw [show h.next=(h.put b (.old rows.flatten)).next from rfl,Qam]
    simp
   ·rw [Qad _ _ (by exact hc),Qab _ _ (by omega)]
   ·have hc':h.next+1≤c:=hc
    show (if c=h.next then _ else (h.put b (.old rows.flatten)).get c)=none
    rw [if_neg (by omega),Qab _ _ (by omega)]
    exact hw c (by omega)
   ·rw [Qad _ _ (by exact hc),Qab _ _ (fun e=>hn ⟨_,_,.inl (by rw [e])⟩)]
 ·refine ⟨.slop h.next 0 (0+rs.length) es,h.alloc (.cells ([]++rs.flatten) (some tg) 0 []),?_,⟨⟨.inl ⟨.inr ⟨h.next,0,[],by simp,by simpa using Qam h _,hlo,Nat.lt_succ_self _⟩,hrows⟩,hrows⟩,Nat.le_succ _,fun c hc _=>Qad h _ hc,fun c hc=>?_,fun c hc _=>Qad h _ hc⟩⟩
  ·show (if 0 * bytes<1000000000000 then _ else none)=_
   rw [if_pos (by omega),if_neg (by omega)]
   simp only [AH.read,AH.cellsAt,h1]
   rw [if_pos (by simp)]
   simp
  ·have hc':h.next+1≤c:=hc
   show (if c=h.next then _ else h.get c)=none
   rw [if_neg (by omega)]
   exact hw c (by omega)
theorem bs0 {h:AH}:bsF h 0 [] []=some (.slice h.next 0 0 0,h.alloc (.cells [] none 0 [])):=id rfl
theorem GE.start {h:AH} {tg es:Nat}:GE h.next (h.alloc (.cells [] none 0 [])) tg es (.slice h.next 0 0 0) []:=⟨.inr ⟨rfl,h.next,none,rfl,Qam h _,Nat.le_refl _,Nat.lt_succ_self _⟩,fun r hr=>by cases hr⟩
theorem Sl.lenA {N es:Nat} {h:AH} {v:AV} {rows:List (List AV)} (s:Sl N h es v rows):lenA v=some rows.length:=by
 have:=s.len
 cases v <;> first | exact this | (simp [lenS] at this)
end Go.Ab
/-! Chapter 26, plain: what the laws CellsNeeded, CellsApart and CellsSame say. -/
namespace Go.Ab.L26
open Go Go.Ab
theorem Inv.start {nc:Nat} {forms:Nat→CT} {V:Nat→Int}:Inv nc forms V s0:=⟨(fun _ h=>by cases h),(fun _ h=>by cases h),(fun _ h=>by cases h),(fun _ h=>by cases h)⟩

def showA (n:Int):Act:=⟨false,n,.mk 0 0 []⟩
def setA (n:Int) (t:CT):Act:=⟨true,n,t⟩
theorem Qha {cs:List CT} {as:List Act} (h:Qak cs as=0):cellsE cs=0∧actsE cs.length as=0:=by
 unfold Qak at h
 split at h
 ·cases h
 split at h
 ·cases h
 split at h
 ·exact ⟨‹_›,h⟩
 ·contradiction
theorem Qkh {cs:List CT} {as bs:List Act} (h:Qak cs as=0) (hl:bs.length≤10) (hb:∀ b ∈ bs,b ∈ as ∨ actD cs.length b=0):Qak cs bs=0:=by
 unfold Qak at h ⊢
 split at h
 ·cases h
 rename_i h1
 rw [if_neg (by omega)]
 split at h
 ·cases h
 rename_i h2
 rw [if_neg h2]
 split at h
 ·rename_i h3
  rw [if_pos h3]
  have all:∀ l:List Int,(∀ x ∈ l,x=0)→Qbt l=0:=fun l=>by
   induction l with
   | nil=>intro _;rfl
   | cons x l ih =>
    intro hx
    unfold Qbt
    rw [if_pos (hx x (by simp))]
    exact ih fun y hy=>hx y (by simp [hy])
  refine all _ fun x hx=>?_
  obtain ⟨i,hi,rfl⟩:=List.mem_map.1 hx
  have hi':=List.mem_range.1 hi
  have e:bs.getD i default=bs[i]:=by simp [List.getD,List.getElem?_eq_getElem hi']
  rw [e]
  rcases hb _ (List.getElem_mem hi') with hm | hm
  ·obtain ⟨j,hj,ej⟩:=List.getElem_of_mem hm
   rw [← ej]
   have:=Qfc h _ (List.mem_map.2 ⟨j,List.mem_range.2 hj,rfl⟩)
   simpa [List.getD,List.getElem?_eq_getElem hj] using this
  ·exact hm
 ·contradiction
theorem showA_ok {nc:Nat} {n:Int} (h0:0≤n) (h1:n<nc):actD nc (showA n)=0:=by
 have c:¬ (n<0 ∨ (nc:Int)≤n):=by omega
 simp [actD,showA,c,zeroD]
end Go.Ab.L26
namespace Go.Ab.L26
open Go Go.Ab
section
variable {F:FuncId→Option AFun} {M:Memo}
theorem Ql0 (hF:F 20=some fn20) (n a b:Int) (h:AH):Ctr F M 20 [.int .i64 n,.int .i64 a,.int .i64 b] h (fun v h'=>v=.bool (decide (a≤n∧n≤b))∧h'=h) (fun _ _=>False):=by
 refine Ctr.intro hF fun caller cs G hk _=>W_ok 300 _ _ _ ?_
 simp only [fn20,b20,Nat.reduceAdd,Nat.reduceSub,wS]
 by_cases c1:a≤n <;> simp only [c1,decide_true,decide_false,wS,Nat.reduceAdd] <;>
  exact Qag ⟨rfl,rfl,rfl,rfl⟩ hF rfl (hk _ _ ⟨by simp [c1],rfl⟩)
theorem Qdi (hF:F 104=some fn104) (k:Int) (h:AH):Ctr F M 104 [.int .i64 k] h (fun v h'=>v=.int .i64 (if k=0 ∨ k=1 then 0 else if k=4 then 3 else 2)∧h'=h) (fun _ _=>False):=by
 refine Ctr.intro hF fun caller cs G hk _=>W_ok 300 _ _ _ ?_
 simp only [fn104,b104,Nat.reduceAdd,Nat.reduceSub,wS]
 by_cases c1:k=0
 ·simp only [c1,decide_true,wS,Nat.reduceAdd]
  exact Qag ⟨rfl,rfl,rfl,rfl⟩ hF rfl (hk _ _ ⟨by simp [c1],rfl⟩)
 simp only [c1,decide_false,wS,Nat.reduceAdd]
 by_cases c2:k=1
 ·simp only [c2,decide_true,wS,Nat.reduceAdd]
  exact Qag ⟨rfl,rfl,rfl,rfl⟩ hF rfl (hk _ _ ⟨by simp [c2],rfl⟩)
 simp only [c2,decide_false,wS,Nat.reduceAdd]
 by_cases c3:k=4 <;> simp only [c3,decide_true,decide_false,wS,Nat.reduceAdd] <;>
  exact Qag ⟨rfl,rfl,rfl,rfl⟩ hF rfl (hk _ _ ⟨by simp [c1,c2,c3],rfl⟩)
end
end Go.Ab.L26
/-! Chapter 26: the reference's Check. -/
namespace Go.Ab.L26
open Go Go.Ab
theorem wrapI {n:Int} (h : -1000≤n∧n≤1000):IntKind.i64.wrap n=n:=by
 simp only [IntKind.wrap,IntKind.signed,IntKind.bits]
 simp
 omega
structure FnR (F:FuncId→Option AFun) (M:Memo):Prop where
 f18:F 18=some fn18
 f39:F 39=some fn39
 f40:F 40=some fn40
 f78:F 78=some fn78
 f79:F 79=some fn79
 f20:F 20=some fn20
 f104:F 104=some fn104
 m:∀ f ∈ [18,39,40,78,79,20,104],∀ xs,M f xs=none
section
variable {F:FuncId→Option AFun} {M:Memo}
def leftD (T:CT) (m:Nat):Int:=if sizeC T≤m then (m:Int) - sizeC T else -1
theorem QlV (H:FnR F M):∀ (z:Nat) (T:CT),sizeC T≤z→Short T→∀ (m:Nat),m≤12→∀ {N:Nat} {h:AH} {row:List AV},Up h h→N≤h.next→Rep N h T row →
  Ctr F M 78 [.agg row,.int .i64 (m:Int)] h (fun v h'=>v=.int .i64 (leftD T m)∧Up h h') (fun _ _=>False)
 | 0,.mk k n l,hz,_,_,_,_,_,_,_,_,_=>by simp [sizeC] at hz
 | z+1,.mk k n l,hz,hsh,m,hm,N,h,row,u,hN,hr=>by
  refine Ctr.intro H.f78 fun caller cs G hk _=>W_ok 300 _ _ _ ?_
  obtain ⟨lv,rows,rfl,hsl,hl,hrr⟩:=hr.inv
  simp only [fn78,b78,Nat.reduceAdd,Nat.reduceSub,wS,wC]
  refine wBoxA (Wk.start u) fun b1 h1 w1=>?_
  have g1:=w1.get 0 rfl
  have e1:IntKind.i64.wrap ((m:Int) - 1)=(m:Int) - 1:=wrapI (by omega)
  simp only [wS,wC,Nat.reduceAdd,e1]
  have L1:=w1.up.low hN
  have hlt1:=lt_of_get w1.up.wf g1
  refine Qbv (fun mm t h5=>∃ (i:Nat) (e:Int) (x8 x9 x10 x11 x12 x13 x14 x15 x16 x19 x20 x21 x22 x23 x24 x25 x17 x18:AV),mm=l.length - i∧i≤l.length∧Up h1 h5 ∧ -1≤e∧e≤12∧(sizeC (.mk k n l)≤m ↔ 0≤e∧(sizes (l.drop i):Int)≤e)∧(sizeC (.mk k n l)≤m→e - sizes (l.drop i)=(m:Int) - sizeC (.mk k n l)) ∧
   t=[.agg [.int .i64 k,.int .i64 n,lv],.int .i64 e,.ptr b1 0,.undef,.int .i64 0,.int .i64 (i:Nat),.int .i64 (m:Int),.int .i64 ((m:Int) - 1),x8,x9,x10,x11,x12,x13,x14,x15,x16,x17,x18,x19,x20,x21,x22,x23,x24,x25,.undef]) (l.length - 0) ?_ ?_
  ·refine ⟨0,(m:Int) - 1,_,_,_,_,_,_,_,_,_,_,_,_,_,_,_,_,_,_,rfl,Nat.zero_le _,.refl w1.up.wf,by omega,by omega,?_,fun hs=>?_,rfl⟩
   ·simp only [List.drop_zero,sizeC];omega
   ·simp only [List.drop_zero,sizeC] at hs ⊢;omega
  ·rintro mm t h5 ⟨i,e,x8,x9,x10,x11,x12,x13,x14,x15,x16,x19,x20,x21,x22,x23,x24,x25,x17,x18,rfl,hi,u5,he1,he2,hiff,heq,rfl⟩ ih5
   refine W_ok 300 _ _ _ ?_
   have g5:=(u5.keep b1 hlt1).trans g1
   have lp:loadA h5 1 (.ptr b1 2)=some [lv]:=by rw [ldP g5];rfl
   have ll:=hsl.len
   by_cases ci:i<l.length
   ·have hd:decide ((i:Int)<(rows.length:Int))=true:=decide_eq_true (by omega)
    by_cases ce:0≤e
    ·have hd2:decide (0≤e)=true:=decide_eq_true ce
     obtain ⟨p,p1,p2,p3⟩:=hsl.row i (by omega)
     have L5:Low N h h5:=(w1.up.trans u5).low hN
     have p4:=(QaH L5 p2 3).trans p3
     simp only [wS,wC,Nat.reduceAdd,faP,Nat.zero_add,lp,ll,hd,hd2,p1,p4]
     obtain ⟨e',rfl⟩:∃ e':Nat,e=(e':Int):=⟨e.toNat,by omega⟩
     simp only [sizeC] at hz
     have hsz:sizeC l[i]≤sizes l:=by
      have q1:=Qdc (l.take i) (l.drop i)
      rw [List.take_append_drop,QdC ci] at q1
      omega
     refine cCall 300 (H.m 78 (by simp) _) (QlV H z l[i] (by omega) (Shorts.at hsh.2 i ci) e' (by omega) (.refl u5.wf) (Nat.le_trans hN (w1.up.trans u5).next) ((hrr i ci (by omega)).low L5)) fun v h6 hp=>?_
     obtain ⟨rfl,u6⟩:=hp
     have hw:IntKind.i64.wrap ((i:Int)+1)=((i+1:Nat):Int):=QaW (by have:=hsh.1;omega)
     simp only [wS,wC,Nat.reduceAdd,hw]
     refine ih5 _ _ _ (by omega) ⟨i+1,leftD l[i] e',_,_,_,_,_,_,_,_,_,_,_,_,_,_,_,_,_,_,rfl,ci,u5.trans u6,?_,?_,?_,?_,rfl⟩
     all_goals rw [QdC ci] at hiff heq
     ·unfold leftD;split <;> omega
     ·unfold leftD;split <;> omega
     ·rw [hiff];unfold leftD;split <;> omega
     ·intro hs;have:=heq hs;have:=hiff.1 hs;unfold leftD;split <;> omega
    ·have hd2:decide (0≤e)=false:=decide_eq_false ce
     simp only [wS,wC,Nat.reduceAdd,faP,Nat.zero_add,lp,ll,hd,hd2]
     have hn:¬ sizeC (.mk k n l)≤m:=fun hs=>ce (hiff.1 hs).1
     have ee:e=leftD (.mk k n l) m:=by unfold leftD;rw [if_neg hn];omega
     exact Qag ⟨rfl,rfl,rfl,rfl⟩ H.f78 rfl (hk _ _ ⟨by rw [ee];rfl,w1.up.trans u5⟩)
   ·have hd:decide ((i:Int)<(rows.length:Int))=false:=decide_eq_false (by omega)
    have hz':l.drop i=[]:=List.drop_eq_nil_of_le (by omega)
    rw [hz'] at hiff heq
    simp only [sizes] at hiff heq
    simp only [wS,wC,Nat.reduceAdd,faP,Nat.zero_add,lp,ll,hd]
    have ee:e=leftD (.mk k n l) m:=by
     unfold leftD
     split
     ·rename_i hs;have:=heq hs;omega
     ·rename_i hs
      have:¬ (0≤e):=fun he=>hs (hiff.2 ⟨he,by simpa using he⟩)
      omega
    exact Qag ⟨rfl,rfl,rfl,rfl⟩ H.f78 rfl (hk _ _ ⟨by rw [ee];rfl,w1.up.trans u5⟩)
def Qov:AC:=(.seq (.seq (.region [⟨some 61,.op (.mov (.tmp 5)),none⟩,⟨some 62,.op (.fieldAddr 2 (.tmp 2)),none⟩,⟨some 63,.op (.load1 (.tmp 62)),none⟩,⟨some 64,.op (.len 1 (.tmp 63)),none⟩,⟨some 65,.op (.bin .lss 9 (.tmp 61) (.tmp 64)),none⟩])
    (.cond (.tmp 65)
     (.skip)
     (.exit 0)))
    (.seq (.block 1 (.seq (.region [⟨some 68,.op (.fieldAddr 2 (.tmp 2)),none⟩,⟨some 69,.op (.load1 (.tmp 68)),none⟩,⟨some 70,.op (.mov (.tmp 5)),none⟩,⟨some 71,.op (.indexAddr 3 (.tmp 69) (.tmp 70)),none⟩,⟨some 72,.op (.loadN 3 (.tmp 71)),none⟩,⟨some 73,.op (.mov (.tmp 1)),none⟩,⟨some 74,.call (.const (.func 79 [] [])) [(.tmp 72),(.tmp 73)],none⟩,⟨some 6,.op (.mov (.tmp 74)),none⟩])
     (.seq (.region [⟨some 75,.op (.mov (.tmp 6)),none⟩,⟨some 76,.op (.bin .neq 9 (.tmp 75) (.const (.int .i64 0))),none⟩])
     (.cond (.tmp 76)
      (.seq (.region [⟨some 77,.op (.mov (.tmp 6)),none⟩,⟨some 4,.op (.mov (.tmp 77)),none⟩])
      (.ret))
      (.skip)))))
    (.region [⟨some 66,.op (.mov (.tmp 5)),none⟩,⟨some 67,.op (.bin .add 9 (.tmp 66) (.const (.int .i64 1))),none⟩,⟨some 5,.op (.mov (.tmp 67)),none⟩])))
def tail79:AC:=(.seq (.region [⟨some 4,.op (.mov (.const (.int .i64 0))),none⟩])
 (.ret))

theorem QcJ (H:FnR F M) {k n:Int} {l:List CT} {cell:Int} {N:Nat} {h h1:AH} {lv:AV} {rows:List (List AV)} {b1:Nat} {caller:AF} {cs:List AF} {G:AS→Prop}
  (ih:∀ i (hi:i<l.length),∀ {N:Nat} {h:AH} {row:List AV},Up h h→N≤h.next→Rep N h l[i] row→Ctr F M 79 [.agg row,.int .i64 cell] h (fun v h'=>v=.int .i64 (Qa3 cell l[i])∧Up h h') (fun _ _=>False))
  (u1:Up h h1) (hN:N≤h.next) (hsl:Sl N h 3 lv rows) (hl:l.length=rows.length) (hrr:∀ i (q1:i<l.length) (q2:i<rows.length),Rep N h l[i] rows[i]) (hlt:l.length<4611686018427387904)
  (g1:h1.get b1=some (.cells [.int .i64 k,.int .i64 n,lv] (some 79) 0 [])) (hk:∀ h',Up h h'→∃ fr',caller.finish h' (.int .i64 (Qbc cell l))=some fr'∧Reach F M ⟨fr',cs,h'⟩ G) {x0 x6 x7 x8 x9 x10 x11 x12 x13 x14 x15 x16 x17 x18 x19 x20 x21 x22 x23 x24 x25 x26 x27 x28 x29 x30 x31 x32 x33 x34 x35 x36 x37 x38 x39 x40 x41 x42 x43 x44 x45 x46 x47 x48 x49 x50 x51 x52 x53 x54 x55 x56 x57 x58 x59 x60 y61 y62 y63 y64 y65 y66 y67 y68 y69 y70 y71 y72 y73 y74 y75 y76 y77:AV} :
  Reach F M ((⟨79,[],.normal,none,caller::cs⟩:Ctx).at [x0,.int .i64 cell,.ptr b1 0,.undef,.int .i64 0,.int .i64 0,x6,x7,x8,x9,x10,x11,x12,x13,x14,x15,x16,x17,x18,x19,x20,x21,x22,x23,x24,x25,x26,x27,x28,x29,x30,x31,x32,x33,x34,x35,x36,x37,x38,x39,x40,x41,x42,x43,x44,x45,x46,x47,x48,x49,x50,x51,x52,x53,x54,x55,x56,x57,x58,x59,x60,y61,y62,y63,y64,y65,y66,y67,y68,y69,y70,y71,y72,y73,y74,y75,y76,y77] [.code (.loop Qov),.inBlock 0,.code tail79] h1) G:=by
 have hb1:=lt_of_get u1.wf g1
 refine Qbv (fun mm t h5=>∃ (i:Nat) (x6 y61 y62 y63 y64 y65 y66 y67 y68 y69 y70 y71 y72 y73 y74 y75 y76 y77:AV),mm=l.length - i∧i≤l.length∧Up h1 h5∧Qbc cell l=Qbc cell (l.drop i) ∧
   t=[x0,.int .i64 cell,.ptr b1 0,.undef,.int .i64 0,.int .i64 (i:Nat),x6,x7,x8,x9,x10,x11,x12,x13,x14,x15,x16,x17,x18,x19,x20,x21,x22,x23,x24,x25,x26,x27,x28,x29,x30,x31,x32,x33,x34,x35,x36,x37,x38,x39,x40,x41,x42,x43,x44,x45,x46,x47,x48,x49,x50,x51,x52,x53,x54,x55,x56,x57,x58,x59,x60,y61,y62,y63,y64,y65,y66,y67,y68,y69,y70,y71,y72,y73,y74,y75,y76,y77]) (l.length - 0) ?_ ?_
 ·exact ⟨0,_,_,_,_,_,_,_,_,_,_,_,_,_,_,_,_,_,_,rfl,Nat.zero_le _,.refl u1.wf,rfl,rfl⟩
 ·rintro mm t h5 ⟨i,x6,y61,y62,y63,y64,y65,y66,y67,y68,y69,y70,y71,y72,y73,y74,y75,y76,y77,rfl,hi,u5,hnl,rfl⟩ ih5
  refine W_ok 300 _ _ _ ?_
  have g5:=(u5.keep b1 hb1).trans g1
  have lp:loadA h5 1 (.ptr b1 2)=some [lv]:=by rw [ldP g5];rfl
  have ll:=hsl.len
  by_cases ci:i<l.length
  ·have hd:decide ((i:Int)<(rows.length:Int))=true:=decide_eq_true (by omega)
   obtain ⟨p,p1,p2,p3⟩:=hsl.row i (by omega)
   have L5:Low N h h5:=(u1.trans u5).low hN
   have p4:=(QaH L5 p2 3).trans p3
   simp only [Qov,wS,wC,Nat.reduceAdd,faP,Nat.zero_add,lp,ll,hd,p1,p4]
   refine cCall 300 (H.m 79 (by simp) _) (ih i ci (.refl u5.wf) (Nat.le_trans hN (u1.trans u5).next) ((hrr i ci (by omega)).low L5)) fun v h6 hp=>?_
   obtain ⟨rfl,u6⟩:=hp
   have hw:IntKind.i64.wrap ((i:Int)+1)=((i+1:Nat):Int):=QaW (by omega)
   rw [List.drop_eq_getElem_cons ci,Qbc] at hnl
   by_cases ce:Qa3 cell l[i]=0
   ·have hd2:decide (Qa3 cell l[i] ≠ 0)=false:=decide_eq_false (fun e=>e ce)
    rw [if_neg (fun e=>e ce)] at hnl
    simp only [wS,wC,Nat.reduceAdd,hd2,hw]
    exact ih5 _ _ _ (by omega) ⟨i+1,_,_,_,_,_,_,_,_,_,_,_,_,_,_,_,_,_,_,rfl,ci,u5.trans u6,hnl,rfl⟩
   ·have hd2:decide (Qa3 cell l[i] ≠ 0)=true:=decide_eq_true ce
    rw [if_pos ce] at hnl
    rw [hnl] at hk
    simp only [wS,wC,Nat.reduceAdd,hd2]
    exact Qag ⟨rfl,rfl,rfl,rfl⟩ H.f79 rfl (hk _ ((u1.trans u5).trans u6))
  ·have hd:decide ((i:Int)<(rows.length:Int))=false:=decide_eq_false (by omega)
   rw [List.drop_eq_nil_of_le (by omega),Qbc] at hnl
   rw [hnl] at hk
   simp only [Qov,tail79,wS,wC,Nat.reduceAdd,faP,Nat.zero_add,lp,ll,hd]
   exact Qag ⟨rfl,rfl,rfl,rfl⟩ H.f79 rfl (hk _ (u1.trans u5))
theorem Qjz (H:FnR F M) (cell:Int):∀ (z:Nat) (T:CT),sizeC T≤z→Short T→∀ {N:Nat} {h:AH} {row:List AV},Up h h→N≤h.next→Rep N h T row →
  Ctr F M 79 [.agg row,.int .i64 cell] h (fun v h'=>v=.int .i64 (Qa3 cell T)∧Up h h') (fun _ _=>False)
 | 0,.mk k n l,hz,_,_,_,_,_,_,_=>by simp [sizeC] at hz
 | z+1,.mk k n l,hz,hsh,N,h,row,u,hN,hr=>by
  refine Ctr.intro H.f79 fun caller cs G hk _=>W_ok 300 _ _ _ ?_
  obtain ⟨lv,rows,rfl,hsl,hl,hrr⟩:=hr.inv
  simp only [fn79,b79,Nat.reduceAdd,Nat.reduceSub,wS,wC]
  refine wBoxA (Wk.start u) fun b1 h1 w1=>?_
  have g1:=w1.get 0 rfl
  have l0:loadA h1 1 (.ptr b1 0)=some [.int .i64 k]:=by rw [ldP g1];rfl
  have l1:loadA h1 1 (.ptr b1 1)=some [.int .i64 n]:=by rw [ldP g1];rfl
  have l2:loadA h1 1 (.ptr b1 2)=some [lv]:=by rw [ldP g1];rfl
  have ll:=hsl.len
  simp only [wS,wC,Nat.reduceAdd,faP,Nat.zero_add,l0]
  refine cCall 300 (H.m 20 (by simp) _) (Ql0 H.f20 k 0 4 h1) fun v h2 hp=>?_
  obtain ⟨rfl,rfl⟩:=hp
  have ihz:∀ i (hi:i<l.length),∀ {N:Nat} {h:AH} {row:List AV},Up h h→N≤h.next→Rep N h l[i] row→Ctr F M 79 [.agg row,.int .i64 cell] h (fun v h'=>v=.int .i64 (Qa3 cell l[i])∧Up h h') (fun _ _=>False):=by
   intro i hi N h row
   have q1:=Qdc (l.take i) (l.drop i)
   rw [List.take_append_drop,QdC hi] at q1
   simp only [sizeC] at hz
   exact Qjz H cell z l[i] (by omega) (Shorts.at hsh.2 i hi)
  have hend1:∀ e,nodeD k n l.length cell=e→e ≠ 0→Qa3 cell (.mk k n l)=e:=fun e h1 h2=>by simp only [Qa3];rw [h1,if_pos h2]
  have hend0:nodeD k n l.length cell=0→Qa3 cell (.mk k n l)=Qbc cell l:=fun h1=>by simp only [Qa3];rw [h1,if_neg (fun e=>e rfl)]
  have hk':∀ e,Qa3 cell (.mk k n l)=e→∀ h',Up h h'→∃ fr',caller.finish h' (.int .i64 e)=some fr'∧Reach F M ⟨fr',cs,h'⟩ G:=fun e he h' hu=>hk _ _ ⟨by rw [he],hu⟩
  by_cases cr:0≤k∧k≤4
  ·simp only [wS,wC,Nat.reduceAdd,decide_eq_true cr,Bool.not_true,faP,Nat.zero_add,l0]
   have hk5:k=0 ∨ k=1 ∨ k=2 ∨ k=3 ∨ k=4:=by omega
   rcases hk5 with rfl | rfl | rfl | rfl | rfl
   ·simp only [wS,wC,Nat.reduceAdd,Int.reduceEq,decide_true,faP,Nat.zero_add,l1]
    refine cCall 300 (H.m 20 (by simp) _) (Ql0 H.f20 n (-99) 99 h2) fun v h3 hp=>?_
    obtain ⟨rfl,rfl⟩:=hp
    by_cases cn : -99≤n∧n≤99
    ·have hnd:¬ (n < -99 ∨ 99<n):=by omega
     simp only [wS,wC,Nat.reduceAdd,decide_eq_true cn,Bool.not_true,Int.reduceEq,Int.reduceNe,decide_true,decide_false,faP,Nat.zero_add,l0,l1,l2,ll,AOp.makes]
     refine cMain 300 (H.m 104 (by simp) _) (Qdi H.f104 0 h3) fun v h4 hp=>?_
     obtain ⟨rfl,rfl⟩:=hp
     refine ⟨?_,?_⟩
     ·simp only [List.all_cons,List.all_nil,Bool.and_true]
      exact Qbk rfl rfl rfl rfl (v':=lv) (h2:=h4) (by simp only [wS,l2]) rfl
     have pv:(if (0:Int)=0 ∨ (0:Int)=1 then (0:Int) else if (0:Int)=4 then 3 else 2)=0:=rfl
     by_cases cl:l.length=0
     ·have hd3:decide ((rows.length:Int) ≠ 0)=false:=decide_eq_false (fun e=>e (by omega))
      simp only [wS,wC,Nat.reduceAdd,AOp.makes,true_or,or_true,or_self,false_or,if_true,if_false,Int.reduceEq,hd3,Int.reduceEq,decide_true,decide_false,faP,Nat.zero_add,l0,l1]
      exact QcJ H ihz w1.up hN hsl hl hrr hsh.1 g1 (hk' _ (hend0 (by unfold nodeD;rw [if_pos rfl,if_neg hnd,if_neg (by omega)])))
     ·have hd3:decide ((rows.length:Int) ≠ 0)=true:=decide_eq_true (by omega)
      simp only [wS,wC,Nat.reduceAdd,AOp.makes,true_or,or_true,or_self,false_or,if_true,if_false,Int.reduceEq,hd3]
      exact Qag ⟨rfl,rfl,rfl,rfl⟩ H.f79 rfl (hk' 7 (hend1 7 (by unfold nodeD;rw [if_pos rfl,if_neg hnd,if_pos (by omega)]) (by decide)) _ w1.up)
    ·have hnd:n < -99 ∨ 99<n:=by omega
     simp only [wS,wC,Nat.reduceAdd,decide_eq_false cn,Bool.not_false]
     exact Qag ⟨rfl,rfl,rfl,rfl⟩ H.f79 rfl (hk' 1 (hend1 1 (by unfold nodeD;rw [if_pos rfl,if_pos hnd]) (by decide)) _ w1.up)
   ·by_cases cn:n<0
    ·simp only [wS,wC,Nat.reduceAdd,Int.reduceEq,decide_true,decide_false,decide_eq_true cn,faP,Nat.zero_add,l0,l1]
     exact Qag ⟨rfl,rfl,rfl,rfl⟩ H.f79 rfl (hk' 1 (hend1 1 (by unfold nodeD;rw [if_neg (by decide),if_pos rfl,if_pos cn]) (by decide)) _ w1.up)
    ·have hq0:decide ((1:Int) ≠ 0)=true:=rfl
     have hq1:decide ((1:Int) ≠ 1)=false:=rfl
     simp only [wS,wC,Nat.reduceAdd,Int.reduceEq,decide_true,decide_false,decide_eq_false cn,hq0,hq1,faP,Nat.zero_add,l0,l1,l2,ll,AOp.makes]
     refine cMain 300 (H.m 104 (by simp) _) (Qdi H.f104 1 h2) fun v h4 hp=>?_
     obtain ⟨rfl,rfl⟩:=hp
     refine ⟨?_,?_⟩
     ·simp only [List.all_cons,List.all_nil,Bool.and_true]
      exact Qbk rfl rfl rfl rfl (v':=lv) (h2:=h4) (by simp only [wS,l2]) rfl
     by_cases cl:l.length=0
     ·have hd3:decide ((rows.length:Int) ≠ 0)=false:=decide_eq_false (fun e=>e (by omega))
      by_cases cc:cell≤n
      ·have hcc:decide (cell≤n)=true:=decide_eq_true cc
       simp only [wS,wC,Nat.reduceAdd,AOp.makes,true_or,or_true,or_self,false_or,if_true,if_false,Int.reduceEq,hd3,decide_true,decide_false,faP,Nat.zero_add,l0,l1,hcc]
       exact Qag ⟨rfl,rfl,rfl,rfl⟩ H.f79 rfl (hk' 6 (hend1 6 (by unfold nodeD;rw [if_neg (by decide),if_pos rfl,if_neg cn,if_neg (by omega),if_pos cc]) (by decide)) _ w1.up)
      ·have hcc:decide (cell≤n)=false:=decide_eq_false cc
       simp only [wS,wC,Nat.reduceAdd,AOp.makes,true_or,or_true,or_self,false_or,if_true,if_false,Int.reduceEq,hd3,decide_true,decide_false,faP,Nat.zero_add,l0,l1,hcc]
       exact QcJ H ihz w1.up hN hsl hl hrr hsh.1 g1 (hk' _ (hend0 (by unfold nodeD;rw [if_neg (by decide),if_pos rfl,if_neg cn,if_neg (by omega),if_neg cc])))
     ·have hd3:decide ((rows.length:Int) ≠ 0)=true:=decide_eq_true (by omega)
      simp only [wS,wC,Nat.reduceAdd,AOp.makes,true_or,or_true,or_self,false_or,if_true,if_false,Int.reduceEq,hd3]
      exact Qag ⟨rfl,rfl,rfl,rfl⟩ H.f79 rfl (hk' 7 (hend1 7 (by unfold nodeD;rw [if_neg (by decide),if_pos rfl,if_neg cn,if_pos (by omega)]) (by decide)) _ w1.up)
   ·have hq0:decide ((2:Int) ≠ 0)=true:=rfl
    have hq1:decide ((2:Int) ≠ 1)=true:=rfl
    by_cases cn:n=0
    ·have hn0:decide (n ≠ 0)=false:=decide_eq_false (fun e=>e cn)
     simp only [wS,wC,Nat.reduceAdd,Int.reduceEq,decide_true,decide_false,hn0,hq0,hq1,faP,Nat.zero_add,l0,l1,l2,ll,AOp.makes]
     refine cMain 300 (H.m 104 (by simp) _) (Qdi H.f104 2 h2) fun v h4 hp=>?_
     obtain ⟨rfl,rfl⟩:=hp
     refine ⟨?_,?_⟩
     ·simp only [List.all_cons,List.all_nil,Bool.and_true]
      exact Qbk rfl rfl rfl rfl (v':=lv) (h2:=h4) (by simp only [wS,l2]) rfl
     by_cases cl:l.length=2
     ·have hd3:decide ((rows.length:Int) ≠ 2)=false:=decide_eq_false (fun e=>e (by omega))
      simp only [wS,wC,Nat.reduceAdd,AOp.makes,true_or,or_true,or_self,false_or,if_true,if_false,Int.reduceEq,hd3,decide_true,decide_false,faP,Nat.zero_add,l0,l1]
      exact QcJ H ihz w1.up hN hsl hl hrr hsh.1 g1 (hk' _ (hend0 (by unfold nodeD;rw [if_neg (by decide),if_neg (by decide),if_neg (by decide),if_pos (by decide),if_neg (fun e=>e cn),if_neg (by omega)])))
     ·have hd3:decide ((rows.length:Int) ≠ 2)=true:=decide_eq_true (by omega)
      simp only [wS,wC,Nat.reduceAdd,AOp.makes,true_or,or_true,or_self,false_or,if_true,if_false,Int.reduceEq,hd3]
      exact Qag ⟨rfl,rfl,rfl,rfl⟩ H.f79 rfl (hk' 7 (hend1 7 (by unfold nodeD;rw [if_neg (by decide),if_neg (by decide),if_neg (by decide),if_pos (by decide),if_neg (fun e=>e cn),if_pos (by omega)]) (by decide)) _ w1.up)
    ·have hn0:decide (n ≠ 0)=true:=decide_eq_true cn
     simp only [wS,wC,Nat.reduceAdd,Int.reduceEq,decide_true,decide_false,hn0,hq0,hq1,faP,Nat.zero_add,l0,l1]
     exact Qag ⟨rfl,rfl,rfl,rfl⟩ H.f79 rfl (hk' 1 (hend1 1 (by unfold nodeD;rw [if_neg (by decide),if_neg (by decide),if_neg (by decide),if_pos (by decide),if_pos cn]) (by decide)) _ w1.up)
   ·have hq0:decide ((3:Int) ≠ 0)=true:=rfl
    have hq1:decide ((3:Int) ≠ 1)=true:=rfl
    by_cases cn:n=0
    ·have hn0:decide (n ≠ 0)=false:=decide_eq_false (fun e=>e cn)
     simp only [wS,wC,Nat.reduceAdd,Int.reduceEq,decide_true,decide_false,hn0,hq0,hq1,faP,Nat.zero_add,l0,l1,l2,ll,AOp.makes]
     refine cMain 300 (H.m 104 (by simp) _) (Qdi H.f104 3 h2) fun v h4 hp=>?_
     obtain ⟨rfl,rfl⟩:=hp
     refine ⟨?_,?_⟩
     ·simp only [List.all_cons,List.all_nil,Bool.and_true]
      exact Qbk rfl rfl rfl rfl (v':=lv) (h2:=h4) (by simp only [wS,l2]) rfl
     by_cases cl:l.length=2
     ·have hd3:decide ((rows.length:Int) ≠ 2)=false:=decide_eq_false (fun e=>e (by omega))
      simp only [wS,wC,Nat.reduceAdd,AOp.makes,true_or,or_true,or_self,false_or,if_true,if_false,Int.reduceEq,hd3,decide_true,decide_false,faP,Nat.zero_add,l0,l1]
      exact QcJ H ihz w1.up hN hsl hl hrr hsh.1 g1 (hk' _ (hend0 (by unfold nodeD;rw [if_neg (by decide),if_neg (by decide),if_neg (by decide),if_pos (by decide),if_neg (fun e=>e cn),if_neg (by omega)])))
     ·have hd3:decide ((rows.length:Int) ≠ 2)=true:=decide_eq_true (by omega)
      simp only [wS,wC,Nat.reduceAdd,AOp.makes,true_or,or_true,or_self,false_or,if_true,if_false,Int.reduceEq,hd3]
      exact Qag ⟨rfl,rfl,rfl,rfl⟩ H.f79 rfl (hk' 7 (hend1 7 (by unfold nodeD;rw [if_neg (by decide),if_neg (by decide),if_neg (by decide),if_pos (by decide),if_neg (fun e=>e cn),if_pos (by omega)]) (by decide)) _ w1.up)
    ·have hn0:decide (n ≠ 0)=true:=decide_eq_true cn
     simp only [wS,wC,Nat.reduceAdd,Int.reduceEq,decide_true,decide_false,hn0,hq0,hq1,faP,Nat.zero_add,l0,l1]
     exact Qag ⟨rfl,rfl,rfl,rfl⟩ H.f79 rfl (hk' 1 (hend1 1 (by unfold nodeD;rw [if_neg (by decide),if_neg (by decide),if_neg (by decide),if_pos (by decide),if_pos cn]) (by decide)) _ w1.up)
   ·have hq0:decide ((4:Int) ≠ 0)=true:=rfl
    have hq1:decide ((4:Int) ≠ 1)=true:=rfl
    by_cases cn:n=0
    ·have hn0:decide (n ≠ 0)=false:=decide_eq_false (fun e=>e cn)
     simp only [wS,wC,Nat.reduceAdd,Int.reduceEq,decide_true,decide_false,hn0,hq0,hq1,faP,Nat.zero_add,l0,l1,l2,ll,AOp.makes]
     refine cMain 300 (H.m 104 (by simp) _) (Qdi H.f104 4 h2) fun v h4 hp=>?_
     obtain ⟨rfl,rfl⟩:=hp
     refine ⟨?_,?_⟩
     ·simp only [List.all_cons,List.all_nil,Bool.and_true]
      exact Qbk rfl rfl rfl rfl (v':=lv) (h2:=h4) (by simp only [wS,l2]) rfl
     by_cases cl:l.length=3
     ·have hd3:decide ((rows.length:Int) ≠ 3)=false:=decide_eq_false (fun e=>e (by omega))
      simp only [wS,wC,Nat.reduceAdd,AOp.makes,true_or,or_true,or_self,false_or,if_true,if_false,Int.reduceEq,hd3,decide_true,decide_false,faP,Nat.zero_add,l0,l1]
      exact QcJ H ihz w1.up hN hsl hl hrr hsh.1 g1 (hk' _ (hend0 (by unfold nodeD;rw [if_neg (by decide),if_neg (by decide),if_pos rfl,if_neg (fun e=>e cn),if_neg (by omega)])))
     ·have hd3:decide ((rows.length:Int) ≠ 3)=true:=decide_eq_true (by omega)
      simp only [wS,wC,Nat.reduceAdd,AOp.makes,true_or,or_true,or_self,false_or,if_true,if_false,Int.reduceEq,hd3]
      exact Qag ⟨rfl,rfl,rfl,rfl⟩ H.f79 rfl (hk' 7 (hend1 7 (by unfold nodeD;rw [if_neg (by decide),if_neg (by decide),if_pos rfl,if_neg (fun e=>e cn),if_pos (by omega)]) (by decide)) _ w1.up)
    ·have hn0:decide (n ≠ 0)=true:=decide_eq_true cn
     simp only [wS,wC,Nat.reduceAdd,Int.reduceEq,decide_true,decide_false,hn0,hq0,hq1,faP,Nat.zero_add,l0,l1]
     exact Qag ⟨rfl,rfl,rfl,rfl⟩ H.f79 rfl (hk' 1 (hend1 1 (by unfold nodeD;rw [if_neg (by decide),if_neg (by decide),if_pos rfl,if_pos cn]) (by decide)) _ w1.up)
  ·simp only [wS,wC,Nat.reduceAdd,decide_eq_false cr,Bool.not_false]
   exact Qag ⟨rfl,rfl,rfl,rfl⟩ H.f79 rfl (hk' 1 (hend1 1 (by unfold nodeD;rw [if_neg (by omega),if_neg (by omega),if_neg (by omega),if_neg (by omega)]) (by decide)) _ w1.up)
end
end Go.Ab.L26
/-! Chapter 26: the reference's Check, second part. -/
namespace Go.Ab.L26
open Go Go.Ab
section
variable {F:FuncId→Option AFun} {M:Memo}
theorem Qjq (H:FnR F M) {T:CT} (hsT:Short T) {cell:Int} {N:Nat} {h:AH} {row:List AV} (u:Up h h) (hN:N≤h.next) (hr:Rep N h T row) :
  Ctr F M 39 [.agg row,.int .i64 cell] h (fun v h'=>v=.int .i64 (Qat T cell)∧Up h h') (fun _ _=>False):=by
 refine Ctr.intro H.f39 fun caller cs G hk _=>W_ok 300 _ _ _ ?_
 obtain ⟨x,y,z,rfl,ho⟩:=rep3 hr
 simp only [fn39,b39,Nat.reduceAdd,Nat.reduceSub,wS,wC]
 refine wBoxA (Wk.start u) fun b1 h1 w1=>?_
 have g1:=w1.get 0 rfl
 have l1:loadA h1 3 (.ptr b1 0)=some [x,y,z]:=by rw [ldP g1];rfl
 simp only [wS,wC,Nat.reduceAdd,l1]
 have N1:=Nat.le_trans hN w1.up.next
 have L1:=w1.up.low hN
 refine cCall 300 (H.m 78 (by simp) _) (QlV H _ T (Nat.le_refl _) hsT 12 (Nat.le_refl _) w1.self N1 (hr.low L1)) fun v h2 hp=>?_
 obtain ⟨rfl,u2⟩:=hp
 have g2:=(u2.keep b1 (lt_of_get w1.up.wf g1)).trans g1
 have l2:loadA h2 3 (.ptr b1 0)=some [x,y,z]:=by rw [ldP g2];rfl
 by_cases c:sizeC T≤12
 ·have e:Qat T cell=Qa3 cell T:=if_pos c
  have hd:decide (leftD T 12<0)=false:=decide_eq_false (by unfold leftD;rw [if_pos c];omega)
  simp only [wS,wC,Nat.reduceAdd,hd,l2]
  have u12:=w1.up.trans u2
  refine cCall 300 (H.m 79 (by simp) _) (Qjz H cell _ T (Nat.le_refl _) hsT (.refl u2.wf) (Nat.le_trans hN u12.next) (hr.low (u12.low hN))) fun v h3 hp=>?_
  obtain ⟨rfl,u3⟩:=hp
  simp only [wS,wC,Nat.reduceAdd]
  exact Qag ⟨rfl,rfl,rfl,rfl⟩ H.f39 rfl (hk _ _ ⟨by rw [e];rfl,u12.trans u3⟩)
 ·have e:Qat T cell=3:=if_neg c
  have hd:decide (leftD T 12<0)=true:=decide_eq_true (by unfold leftD;rw [if_neg c];omega)
  simp only [wS,wC,Nat.reduceAdd,hd]
  exact Qag ⟨rfl,rfl,rfl,rfl⟩ H.f39 rfl (hk _ _ ⟨by rw [e];rfl,w1.up.trans u2⟩)
theorem ract_ctr (H:FnR F M) {a:Act} (hsT:Short a.term) {nc:Nat} (hnc:nc<100) {N:Nat} {h:AH} {row:List AV} (u:Up h h) (hN:N≤h.next) (hr:RepA N h a row) :
  Ctr F M 40 [.agg row,.int .i64 (nc:Int)] h (fun v h'=>v=.int .i64 (actD nc a)∧Up h h') (fun _ _=>False):=by
 refine Ctr.intro H.f40 fun caller cs G hk _=>W_ok 300 _ _ _ ?_
 obtain ⟨x,y,z,rfl,ho,hT⟩:=repA5 hr
 obtain ⟨k,n,l,lv,eT,e3,hlv,hone⟩:=hT.row3
 injection e3 with ex e3
 injection e3 with ey e3
 injection e3 with ez _
 subst ex ey ez
 simp only [fn40,b40,Nat.reduceAdd,Nat.reduceSub,wS,wC]
 refine wBoxA (Wk.start u) fun b1 h1 w1=>?_
 have g1:=w1.get 0 rfl
 have p0:loadA h1 1 (.ptr b1 0)=some [.bool a.set]:=by rw [ldP g1];rfl
 have p1:loadA h1 1 (.ptr b1 1)=some [.int .i64 a.cell]:=by rw [ldP g1];rfl
 have p2:loadA h1 1 (.ptr b1 2)=some [.int .i64 k]:=by rw [ldP g1];rfl
 have p3:loadA h1 1 (.ptr b1 3)=some [.int .i64 n]:=by rw [ldP g1];rfl
 have p4:loadA h1 1 (.ptr b1 4)=some [z]:=by rw [ldP g1];rfl
 have p23:loadA h1 3 (.ptr b1 2)=some [.int .i64 k,.int .i64 n,z]:=by rw [ldP g1];rfl
 have ew:IntKind.i64.wrap ((nc:Int) - 1)=(nc:Int) - 1:=wrapI (by omega)
 have N1:=Nat.le_trans hN w1.up.next
 have L1:=w1.up.low hN
 simp only [wS,wC,Nat.reduceAdd,faP,p1,ew]
 refine cCall 300 (H.m 20 (by simp) _) (Ql0 H.f20 a.cell 0 ((nc:Int) - 1) h1) fun v h2 hp=>?_
 obtain ⟨rfl,rfl⟩:=hp
 by_cases c1:0≤a.cell∧a.cell≤(nc:Int) - 1
 ·have e1:¬ (a.cell<0 ∨ (nc:Int)≤a.cell):=by omega
  simp only [wS,wC,Nat.reduceAdd,decide_eq_true c1,Bool.not_true,faP,Nat.zero_add,p0]
  cases es:a.set with
  | true =>
   have e:actD nc a=Qat a.term a.cell:=by unfold actD;rw [if_neg e1,if_pos es]
   simp only [wS,wC,Nat.reduceAdd,faP,Nat.zero_add,p23,p1]
   refine cCall 300 (H.m 39 (by simp) _) (Qjq H hsT w1.self N1 (hT.low L1)) fun v h3 hp=>?_
   obtain ⟨rfl,u3⟩:=hp
   simp only [wS,wC,Nat.reduceAdd]
   exact Qag ⟨rfl,rfl,rfl,rfl⟩ H.f40 rfl (hk _ _ ⟨by rw [e];rfl,w1.up.trans u3⟩)
  | false =>
   have e:actD nc a=if zeroD a.term then 0 else 1:=by unfold actD;rw [if_neg e1,es];rfl
   rw [eT] at e
   simp only [wS,wC,Nat.reduceAdd,faP,Nat.zero_add,p2]
   by_cases ck:k=0
   ·have d1:decide (k ≠ 0)=false:=decide_eq_false (fun e=>e ck)
    simp only [wS,wC,Nat.reduceAdd,faP,Nat.zero_add,d1,p3]
    by_cases cn:n=0
    ·have d2:decide (n ≠ 0)=false:=decide_eq_false (fun e=>e cn)
     simp only [wS,wC,Nat.reduceAdd,faP,Nat.zero_add,d2,p4,hlv]
     by_cases cl:l.length=0
     ·have d3:decide ((0:Int)<(l.length:Int))=false:=decide_eq_false (by omega)
      simp only [wS,wC,Nat.reduceAdd,d3]
      exact Qag ⟨rfl,rfl,rfl,rfl⟩ H.f40 rfl (hk _ _ ⟨by rw [e];simp [zeroD,ck,cn,cl],w1.up⟩)
     ·have d3:decide ((0:Int)<(l.length:Int))=true:=decide_eq_true (by omega)
      simp only [wS,wC,Nat.reduceAdd,d3]
      exact Qag ⟨rfl,rfl,rfl,rfl⟩ H.f40 rfl (hk _ _ ⟨by rw [e];simp [zeroD,cl],w1.up⟩)
    ·have d2:decide (n ≠ 0)=true:=decide_eq_true cn
     simp only [wS,wC,Nat.reduceAdd,d2]
     exact Qag ⟨rfl,rfl,rfl,rfl⟩ H.f40 rfl (hk _ _ ⟨by rw [e];simp [zeroD,cn],w1.up⟩)
   ·have d1:decide (k ≠ 0)=true:=decide_eq_true ck
    simp only [wS,wC,Nat.reduceAdd,d1]
    exact Qag ⟨rfl,rfl,rfl,rfl⟩ H.f40 rfl (hk _ _ ⟨by rw [e];simp [zeroD,ck],w1.up⟩)
 ·have e1:a.cell<0 ∨ (nc:Int)≤a.cell:=by omega
  have e:actD nc a=6:=by unfold actD;rw [if_pos e1]
  simp only [wS,wC,Nat.reduceAdd,decide_eq_false c1,Bool.not_false]
  exact Qag ⟨rfl,rfl,rfl,rfl⟩ H.f40 rfl (hk _ _ ⟨by rw [e];rfl,w1.up⟩)
end
end Go.Ab.L26
/-! Chapter 26: the reference's Check. -/
namespace Go.Ab.L26
open Go Go.Ab
def fromE (f:Nat→Int) (n i:Nat):Int:=Qbt ((List.range' i (n - i)).map f)
theorem fromE_0 {f:Nat→Int} {n:Nat}:fromE f n 0=Qbt ((List.range n).map f):=by rw [List.range_eq_range'];rfl
theorem Qoc {f:Nat→Int} {n i:Nat} (h:i<n):fromE f n i=if f i=0 then fromE f n (i+1) else f i:=by
 unfold fromE
 obtain ⟨m,hm⟩:∃ m,n - i=m+1:=⟨n - i - 1,by omega⟩
 rw [hm,List.range'_succ,show n - (i+1)=m by omega]
 rfl
theorem Qod {f:Nat→Int} {n i:Nat} (h:n≤i):fromE f n i=0:=by
 unfold fromE
 rw [show n - i=0 by omega]
 rfl
section
variable {F:FuncId→Option AFun} {M:Memo}
theorem QdE (H:FnR F M) {cells:List CT} {acts:List Act} {N:Nat} {h:AH} {cv av:AV} {crows arows:List (List AV)} (u:Up h h) (hN:N≤h.next) (hc:RepCs N h cells cv crows) (ha:RepAs N h acts av arows) :
  Ctr F M 18 [.agg [cv,av]] h (fun v h'=>v=.int .i64 (Qak cells acts)∧Up h h') (fun _ _=>False):=by
 refine Ctr.intro H.f18 fun caller cs G hk _=>W_ok 300 _ _ _ ?_
 simp only [fn18,b18,Nat.reduceAdd,Nat.reduceSub,wS,wC]
 refine wBoxA (Wk.start u) fun b1 h1 w1=>?_
 have g1:=w1.get 0 rfl
 have lc:lenS cv=some cells.length:=by rw [hc.len];exact hc.sl.len
 have la:lenS av=some acts.length:=by rw [ha.len];exact ha.sl.len
 have e6:decide ((6:Int)<(cells.length:Int))=decide (6<cells.length):=by apply decide_eq_decide.2;omega
 have e10:decide ((10:Int)<(acts.length:Int))=decide (10<acts.length):=by apply decide_eq_decide.2;omega
 have e0:decide ((cells.length:Int)=0)=decide (cells.length=0):=by simp
 have hb1:=lt_of_get w1.up.wf g1
 simp only [wS,wC,Nat.reduceAdd,ldP g1,rdC,Nat.reduceLeDiff,if_true,lc,e6]
 by_cases c1:6<cells.length
 ·simp only [wS,wC,Nat.reduceAdd,c1,decide_true]
  exact Qag ⟨rfl,rfl,rfl,rfl⟩ H.f18 rfl (hk _ _ ⟨by simp [Qak,c1],w1.up⟩)
 simp only [wS,wC,Nat.reduceAdd,c1,decide_false,ldP g1,rdC,Nat.reduceLeDiff,if_true,la,e10]
 by_cases c2:10<acts.length
 ·simp only [wS,wC,Nat.reduceAdd,c2,decide_true]
  exact Qag ⟨rfl,rfl,rfl,rfl⟩ H.f18 rfl (hk _ _ ⟨by simp [Qak,c2],w1.up⟩)
 simp only [wS,wC,Nat.reduceAdd,c2,decide_false,ldP g1,rdC,Nat.reduceLeDiff,if_true,lc,e0]
 rcases Classical.propComplete (cells.length=0) with c3 | c3
 ·simp only [wS,wC,Nat.reduceAdd,c3,decide_true]
  exact Qag ⟨rfl,rfl,rfl,rfl⟩ H.f18 rfl (hk _ _ ⟨by simp [Qak,c1,c2,c3],w1.up⟩)
 simp only [wS,wC,Nat.reduceAdd,c3,decide_false,ldP g1,rdC,Nat.reduceLeDiff,if_true]
 have hn0:cells.length ≠ 0:=fun e=>by rw [e] at c3;simp at c3
 have hcE:cellsE cells=fromE (fun i=>Qat (cells.getD i default) i) cells.length 0:=fromE_0.symm
 have haE:actsE cells.length acts=fromE (fun i=>actD cells.length (acts.getD i default)) acts.length 0:=fromE_0.symm
 refine Qbv (fun mm t h5=>∃ (i:Nat) (x4 x7 x8 x9 x10 x11 x12 x13 x14 x15 x16 x17 x18 x19 x20 x21 x22 x23 x24 x25 x26 x27 x28 x29 x30 x31 x32 x33 x34 x35 x36 x37:AV),mm=cells.length - i∧i≤cells.length∧Up h1 h5∧cellsE cells=fromE (fun i=>Qat (cells.getD i default) i) cells.length i ∧
   t=[.agg [cv,av],.ptr b1 0,.int .i64 0,.int .i64 (i:Nat),x4,.undef,.undef,x7,x8,x9,x10,x11,x12,x13,x14,x15,x16,x17,x18,x19,x20,x21,x22,x23,x24,x25,x26,x27,x28,x29,x30,x31,x32,x33,x34,x35,x36,x37,.undef,.undef,.undef,.undef,.undef,.undef,.undef,.undef,.undef,.undef,.undef,.undef,.undef,.undef,.undef,.undef,.undef,.undef,.undef]) (cells.length - 0) ?_ ?_
 ·exact ⟨0,_,_,_,_,_,_,_,_,_,_,_,_,_,_,_,_,_,_,_,_,_,_,_,_,_,_,_,_,_,_,_,_,rfl,Nat.zero_le _,.refl w1.up.wf,hcE,rfl⟩
 ·rintro mm t h5 ⟨i,x4,x7,x8,x9,x10,x11,x12,x13,x14,x15,x16,x17,x18,x19,x20,x21,x22,x23,x24,x25,x26,x27,x28,x29,x30,x31,x32,x33,x34,x35,x36,x37,rfl,hi,u5,hE,rfl⟩ ih5
  refine W_ok 300 _ _ _ ?_
  have g5:=(u5.keep b1 hb1).trans g1
  have p0:loadA h5 1 (.ptr b1 0)=some [cv]:=by rw [ldP g5];rfl
  have L5:=(w1.up.trans u5).low hN
  have N5:=Nat.le_trans hN (w1.up.trans u5).next
  by_cases ci:i<cells.length
  ·have hd:decide ((i:Int)<(cells.length:Int))=true:=decide_eq_true (by omega)
   have hc5:=hc.low L5
   have cir:i<crows.length:=by rw [← hc.len];exact ci
   obtain ⟨p,p1,p2,p3⟩:=hc5.sl.row i cir
   have eg:cells.getD i default=cells[i]:=by simp [List.getD,List.getElem?_eq_getElem ci]
   have hw:IntKind.i64.wrap ((i:Int)+1)=((i+1:Nat):Int):=QaW (by omega)
   rw [Qoc ci,eg] at hE
   simp only [wS,wC,Nat.reduceAdd,faP,Nat.zero_add,p0,lc,hd,p1,p3]
   refine cCall 300 (H.m 39 (by simp) _) (Qjq H (hc.short _ (List.getElem_mem ci)) (.refl u5.wf) N5 (hc5.rep i ci cir)) fun v h6 hp=>?_
   obtain ⟨rfl,u6⟩:=hp
   by_cases ce:Qat cells[i] i=0
   ·have hd2:decide (Qat cells[i] i ≠ 0)=false:=decide_eq_false (fun e=>e ce)
    rw [if_pos ce] at hE
    simp only [wS,wC,Nat.reduceAdd,hd2,hw]
    exact ih5 _ _ _ (by omega) ⟨i+1,_,_,_,_,_,_,_,_,_,_,_,_,_,_,_,_,_,_,_,_,_,_,_,_,_,_,_,_,_,_,_,_,rfl,ci,u5.trans u6,hE,rfl⟩
   ·have hd2:decide (Qat cells[i] i ≠ 0)=true:=decide_eq_true ce
    rw [if_neg ce] at hE
    have e:Qak cells acts=Qat cells[i] i:=by unfold Qak;rw [if_neg (by omega),if_neg hn0,hE,if_neg ce]
    simp only [wS,wC,Nat.reduceAdd,hd2]
    exact Qag ⟨rfl,rfl,rfl,rfl⟩ H.f18 rfl (hk _ _ ⟨by rw [e];rfl,(w1.up.trans u5).trans u6⟩)
  ·have hd:decide ((i:Int)<(cells.length:Int))=false:=decide_eq_false (by omega)
   rw [Qod (by omega)] at hE
   have e:Qak cells acts=actsE cells.length acts:=by unfold Qak;rw [if_neg (by omega),if_neg hn0,if_pos hE]
   rw [e] at hk
   simp only [wS,wC,Nat.reduceAdd,faP,Nat.zero_add,p0,lc,hd]
   refine Qbv (fun mm t h7=>∃ (j:Nat) (x6 y38 y39 y40 y41 y42 y43 y44 y45 y46 y47 y48 y49 y50 y51 y52 y53 y54 y55 y56:AV),mm=acts.length - j∧j≤acts.length∧Up h1 h7∧actsE cells.length acts=fromE (fun i=>actD cells.length (acts.getD i default)) acts.length j ∧
     t=[.agg [cv,av],.ptr b1 0,.int .i64 0,.int .i64 (i:Nat),x4,.int .i64 (j:Nat),x6,x7,x8,x9,x10,x11,x12,x13,x14,x15,x16,x17,x18,x19,x20,.int .i64 (i:Nat),.ptr b1 0,cv,.int .i64 (cells.length:Nat),.bool false,x26,x27,x28,x29,x30,x31,x32,x33,x34,x35,x36,x37,y38,y39,y40,y41,y42,y43,y44,y45,y46,y47,y48,y49,y50,y51,y52,y53,y54,y55,y56]) (acts.length - 0) ?_ ?_
   ·exact ⟨0,_,_,_,_,_,_,_,_,_,_,_,_,_,_,_,_,_,_,_,_,rfl,Nat.zero_le _,u5,haE,rfl⟩
   ·rintro mm t h7 ⟨j,x6,y38,y39,y40,y41,y42,y43,y44,y45,y46,y47,y48,y49,y50,y51,y52,y53,y54,y55,y56,rfl,hj,u7,hE7,rfl⟩ ih7
    refine W_ok 300 _ _ _ ?_
    have g7:=(u7.keep b1 hb1).trans g1
    have r0:loadA h7 1 (.ptr b1 0)=some [cv]:=by rw [ldP g7];rfl
    have r1:loadA h7 1 (.ptr b1 1)=some [av]:=by rw [ldP g7];rfl
    have L7:=(w1.up.trans u7).low hN
    have N7:=Nat.le_trans hN (w1.up.trans u7).next
    by_cases cj:j<acts.length
    ·have hd3:decide ((j:Int)<(acts.length:Int))=true:=decide_eq_true (by omega)
     have ha7:=ha.low L7
     have cjr:j<arows.length:=by rw [← ha.len];exact cj
     obtain ⟨p,p1,p2,p3⟩:=ha7.sl.row j cjr
     have eg:acts.getD j default=acts[j]:=by simp [List.getD,List.getElem?_eq_getElem cj]
     have hw:IntKind.i64.wrap ((j:Int)+1)=((j+1:Nat):Int):=QaW (by omega)
     rw [Qoc cj,eg] at hE7
     simp only [wS,wC,Nat.reduceAdd,faP,Nat.zero_add,r0,r1,lc,la,hd3,p1,p3,AOp.makes]
     refine cMain 300 (H.m 40 (by simp) _) (ract_ctr (nc:=cells.length) H (ha.short _ (List.getElem_mem cj)) (by omega) (.refl u7.wf) N7 (ha7.rep j cj cjr)) fun v h8 hp=>⟨rfl,?_⟩
     obtain ⟨rfl,u8⟩:=hp
     by_cases ce:actD cells.length acts[j]=0
     ·have hd2:decide (actD cells.length acts[j] ≠ 0)=false:=decide_eq_false (fun e=>e ce)
      rw [if_pos ce] at hE7
      simp only [wS,wC,Nat.reduceAdd,AOp.makes,hd2,hw]
      exact ih7 _ _ _ (by omega) ⟨j+1,_,_,_,_,_,_,_,_,_,_,_,_,_,_,_,_,_,_,_,_,rfl,cj,u7.trans u8,hE7,rfl⟩
     ·have hd2:decide (actD cells.length acts[j] ≠ 0)=true:=decide_eq_true ce
      rw [if_neg ce] at hE7
      rw [hE7] at hk
      simp only [wS,wC,Nat.reduceAdd,AOp.makes,hd2]
      exact Qag ⟨rfl,rfl,rfl,rfl⟩ H.f18 rfl (hk _ _ ⟨rfl,(w1.up.trans u7).trans u8⟩)
    ·have hd3:decide ((j:Int)<(acts.length:Int))=false:=decide_eq_false (by omega)
     rw [Qod (by omega)] at hE7
     rw [hE7] at hk
     simp only [wS,wC,Nat.reduceAdd,faP,Nat.zero_add,r1,la,hd3]
     exact Qag ⟨rfl,rfl,rfl,rfl⟩ H.f18 rfl (hk _ _ ⟨rfl,w1.up.trans u7⟩)
end
end Go.Ab.L26
/-! Chapter 26: the law CellsNeeded. -/
namespace Go.Ab.L26
open Go Go.Ab
theorem _root_.Go.Ab.Sl.val {N es:Nat} {h:AH} {v:AV} {rows:List (List AV)} (s:Sl N h es v rows):v.known=true∧v.cells=[v]∧v.one=true:=by
 have:=s.len
 cases v <;> first | exact ⟨rfl,rfl,rfl⟩ | (simp [lenS] at this)
section
variable {F:FuncId→Option AFun} {M:Memo}
theorem Qf5:Short (.mk 0 0 []):=by simp [Short,Shorts]
theorem QfJ (hF:F 19=some fn19) (n:Int) {h:AH} (u:Up h h):Ctr F M 19 [.int .i64 n] h (fun v h'=>v=.agg [.bool false,.int .i64 n,.int .i64 0,.int .i64 0,.nilslice]∧Up h h') (fun _ _=>False):=by
 refine Ctr.intro hF fun caller cs G hk _=>W_ok 300 _ _ _ ?_
 simp only [fn19,b19,Nat.reduceAdd,Nat.reduceSub,wS,wC]
 refine Qfj (Wk.start u) fun b1 h1 w1=>?_
 have hb:bldF h1 [.bool false,.int .i64 0,.int .i64 0,.int .i64 0,.nilslice] [(1,1,.int .i64 n)]=some (.agg [.bool false,.int .i64 n,.int .i64 0,.int .i64 0,.nilslice],h1):=rfl
 simp only [wS,wC,Nat.reduceAdd,List.map_cons,List.map_nil,hb]
 refine wSt w1 0 rfl rfl fun h2 w2=>?_
 simp only [wS,wC,Nat.reduceAdd]
 exact Qag ⟨rfl,rfl,rfl,rfl⟩ hF (resC (by rw [show ([_,_,_,_,_]:List AV).getD 2 .undef=.ptr b1 0 from rfl,ldP (w2.get 0 rfl)];rfl)) (hk _ _ ⟨rfl,w2.up⟩)
theorem Qnp (hF:F 21=some fn21) (n:Int) {T:CT} {row:List AV} {N:Nat} {h:AH} (u:Up h h) (hr:Rep N h T row):Ctr F M 21 [.int .i64 n,.agg row] h (fun v h'=>v=.agg (.bool true::.int .i64 n::row)∧Up h h') (fun _ _=>False):=by
 refine Ctr.intro hF fun caller cs G hk _=>W_ok 300 _ _ _ ?_
 obtain ⟨x,y,z,rfl,ho⟩:=rep3 hr
 simp only [fn21,b21,Nat.reduceAdd,Nat.reduceSub,wS,wC]
 refine wBoxA (Wk.start u) fun b1 h1 w1=>?_
 simp only [wS,wC,Nat.reduceAdd]
 refine Qfj w1 fun b2 h2 w2=>?_
 have l2:loadA h2 3 (.ptr b1 0)=some [x,y,z]:=by rw [ldP (w2.get 1 rfl)];rfl
 have hb:bldF h2 [.bool false,.int .i64 0,.int .i64 0,.int .i64 0,.nilslice] [(0,1,.bool true),(1,1,.int .i64 n),(2,3,.agg [x,y,z])]=some (.agg [.bool true,.int .i64 n,x,y,z],h2):=rfl
 simp only [wS,wC,Nat.reduceAdd,l2,List.map_cons,List.map_nil,hb]
 refine wSt w2 0 rfl rfl (fun h3 w3=>?_) (ho:=show ([AV.bool true,.int .i64 n,x,y,z]:List AV).all AV.one=true from ho)
 simp only [wS,wC,Nat.reduceAdd]
 exact Qag ⟨rfl,rfl,rfl,rfl⟩ hF (resC (by rw [show ([_,_,_,_,_,_,_,_]:List AV).getD 4 .undef=.ptr b2 0 from rfl,ldP (w3.get 0 rfl)];rfl)) (hk _ _ ⟨rfl,w3.up⟩)
theorem Qga {nc:Nat}:∀ (as:List Act) (forms:Nat→CT) (s:St),OkF nc forms→(∀ a ∈ as,OkA nc a)→∀ i (h1:i<(runS nc forms s as).length),(runS nc forms s as)[i].1.length<1000000000
 | [],_,_,_,_,i,h1=>by simp [runS] at h1
 | a::as,forms,s,H,ha,0,_=>by
  show (actS nc forms s a).2.2.1.length<1000000000
  unfold actS
  split
  ·simp
  ·have:=QbZ H.sz 6 a.cell.toNat { s with comp:=[] }
   have e:0+B 6<1000000000:=by decide
   exact Nat.lt_of_le_of_lt this e
 | a::as,forms,s,H,ha,i+1,h1=>Qga as _ _ (H.act (ha a (by simp))) (fun b hb=>ha b (by simp [hb])) i (by simpa [runS] using h1)
theorem Qgr {cs:List CT} {as:List Act} (h:Qak cs as=0):∃ D,QaC cs as=(D,0)∧D.length=as.length∧∀ i (h1:i<D.length),D[i].1.length<1000000000:=by
 have e:QaC cs as=(runS cs.length (Qaq cs) s0 as,0):=if_pos h
 obtain ⟨z1,z2,z3,okF,okA⟩:=QbP h
 exact ⟨_,e,QeS _ _ _,fun i h1=>Qga _ _ _ okF okA i h1⟩

theorem RepAs.at {N:Nat} {h:AH} {l:List Act} {v:AV} {rows:List (List AV)} (H:RepAs N h l v rows) (i:Nat) (hi:i<l.length) :
  ∃ p,Qbs 5 v (.int .i64 (i:Int))=some p∧faF 0 h p=some (padd p 0,h)∧loadA h 1 (padd p 0)=some [.bool l[i].set]∧faF 1 h p=some (padd p 1,h)∧loadA h 1 (padd p 1)=some [.int .i64 l[i].cell]∧faF 2 h p=some (padd p 2,h) ∧
   ∃ x y z,loadA h 3 (padd p 2)=some [x,y,z]∧Rep N h l[i].term [x,y,z]∧[x,y,z].all AV.one=true:=by
 have hr:i<rows.length:=by have:=H.len;omega
 obtain ⟨p,p1,p2,p3⟩:=H.sl.row i hr
 obtain ⟨x,y,z,e,o,hT⟩:=repA5 (H.rep i hi hr)
 rw [e] at p3 o
 exact ⟨p,p1,QbB p3 (by omega),Qb8 p3 (by omega),QbB p3 (by omega),Qb8 p3 (by omega),QbB p3 (by omega),x,y,z,Qb8 p3 (by omega),hT,o⟩
theorem RepD.at {N:Nat} {h:AH} {l:List Told} {v:AV} (H:RepD N h l v) (i:Nat) (hi:i<l.length) :
  ∃ p w,Qbs 2 v (.int .i64 (i:Int))=some p∧faF 0 h p=some (padd p 0,h)∧loadA h 1 (padd p 0)=some [w]∧faF 1 h p=some (padd p 1,h)∧loadA h 1 (padd p 1)=some [.int .i64 l[i].2]∧lenS w=some l[i].1.length ∧
   ∀ q (hq:q<l[i].1.length),∃ r,Qbs 1 w (.int .i64 (q:Int))=some r∧loadA h 1 r=some [.int .i64 l[i].1[q]]:=by
 obtain ⟨rows,s,e,r⟩:=H.ex
 obtain ⟨p,p1,p2,p3⟩:=s.row i (by omega)
 obtain ⟨w,e1,e2⟩:=r i (by omega) hi
 rw [e1] at p3
 refine ⟨p,w,p1,QbB p3 (by omega),Qb8 p3 (by omega),QbB p3 (by omega),Qb8 p3 (by omega),by rw [e2.len];simp [ints],fun q hq=>?_⟩
 obtain ⟨r,r1,_,r3⟩:=e2.row q (by simpa [ints] using hq)
 exact ⟨r,r1,by simpa [ints] using r3⟩
theorem RepD.len {N:Nat} {h:AH} {l:List Told} {v:AV} (H:RepD N h l v):lenS v=some l.length:=by
 obtain ⟨rows,s,e,r⟩:=H.ex
 rw [s.len,e]
theorem RepAs.lenS {N:Nat} {h:AH} {l:List Act} {v:AV} {rows:List (List AV)} (H:RepAs N h l v rows):lenS v=some l.length:=by rw [H.sl.len,H.len]
theorem wrap_dn {i:Nat} (h0:0<i) (h:i<4611686018427387904):IntKind.i64.wrap ((i:Int) - 1)=((i - 1:Nat):Int):=by
 rw [QcR (by omega) (by omega)]
 omega

structure FnL (F:FuncId→Option AFun) (M:Memo):Prop where
 E:FnE F M
 R:FnR F M
 f19:F 19=some fn19
 f21:F 21=some fn21
 m:∀ f ∈ [19,21],∀ as,M f as=none
 A:∃ c,M 16 []=some c∧∀ h,c h=some (.bool true,h)
end
end Go.Ab.L26

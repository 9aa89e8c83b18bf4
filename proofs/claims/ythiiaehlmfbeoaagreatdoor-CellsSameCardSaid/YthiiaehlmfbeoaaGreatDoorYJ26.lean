/-
  A part of a proof: YJ26.
-/
import Derived.Test.YthiiaehlmfbeoaaGreatDoorXDlSa
import Derived.Test.YthiiaehlmfbeoaaGreatDoorXDrtoYH0
import Derived.Test.YthiiaehlmfbeoaaGreatDoorXZw26toYA26
import Derived.Test.YthiiaehlmfbeoaaGreatDoorYGs26
set_option linter.all false
/-! Chapter 26: the law CellsSame. -/
namespace Go.Ab
open Go

theorem Sl.arg {es:Nat} {h:AH} {v:AV} {rows:List (List AV)} (s:Sl 0 h es v rows):(v=.nilslice∧rows=[]) ∨ (v=.empty∧rows=[]) ∨ (v=.vec rows∧∀ r ∈ rows,r.length=es):=by
 have hl:=s.len
 have z:∀ l:List (List AV),(0:Nat)=l.length→l=[]:=fun l e=>List.length_eq_zero_iff.1 e.symm
 cases v with
 | nilslice=>exact .inl ⟨rfl,z _ (Option.some.inj hl)⟩
 | empty=>exact .inr (.inl ⟨rfl,z _ (Option.some.inj hl)⟩)
 | slice b o n c=>exact absurd (s.blk b o n c (.inl rfl)) (Nat.not_lt_zero _)
 | slop b o n c=>exact absurd (s.blk b o n c (.inr rfl)) (Nat.not_lt_zero _)
 | vec l =>
  right;right
  have hl:l.length=rows.length:=Option.some.inj hl
  have key:∀ i (h1:i<l.length) (h2:i<rows.length),l[i]=rows[i]∧l[i].length=es:=fun i h1 h2=>by
   obtain ⟨p,p1,p2,p3⟩:=s.row i h2
   have e:Qbs es (.vec l) (.int .i64 (i:Int))=if l[i].length=es then some (.iptr l[i]) else none:=by
    simp [Qbs,asNat,List.getElem?_eq_getElem h1]
   rw [e] at p1
   split at p1
   ·rename_i hle
    cases p1
    simp only [loadA] at p3
    rw [if_pos (by omega)] at p3
    have:=Option.some.inj p3
    rw [← hle,List.take_length] at this
    exact ⟨this,hle⟩
   ·cases p1
  have:l=rows:=List.ext_getElem hl fun i h1 h2=>(key i h1 h2).1
  subst this
  exact ⟨rfl,fun r hr=>by
   obtain ⟨i,hi,rfl⟩:=List.getElem_of_mem hr
   exact (key i hi hi).2⟩
 | _=>simp [lenS] at hl
theorem Sl.take {es n:Nat} {h:AH} {v:AV} {rows:List (List AV)} (s:Sl 0 h es v rows) (hn:n≤rows.length):∃ v',QbL es none (some (.int .i64 (n:Int))) none v=some v'∧∀ N h',Sl N h' es v' (rows.take n):=by
 have ha:asNat (.int .i64 (n:Int))=some n:=by simp [asNat]
 rcases s.arg with ⟨rfl,rfl⟩ | ⟨rfl,rfl⟩ | ⟨rfl,hr⟩
 ·have:n=0:=by simpa using hn
  subst this
  exact ⟨.nilslice,rfl,fun _ _=>Sl.nil⟩
 ·have:n=0:=by simpa using hn
  subst this
  exact ⟨.empty,rfl,fun _ _=>Sl.empty⟩
 ·refine ⟨.vec (rows.take n),?_,fun N h'=>Sl.vec fun r h=>hr r (List.mem_of_mem_take h)⟩
  have hall:rows.all (fun e=>e.length == es)=true:=List.all_eq_true.2 fun r h=>by simp [hr r h]
  simp only [QbL,Qaz,ha,hall]
  rw [if_pos ⟨Nat.zero_le _,hn,trivial⟩]
  simp
theorem Sl.drop {es n:Nat} {h:AH} {v:AV} {rows:List (List AV)} (s:Sl 0 h es v rows) (hn:n≤rows.length):∃ v',QbL es (some (.int .i64 (n:Int))) none none v=some v'∧∀ N h',Sl N h' es v' (rows.drop n):=by
 have ha:asNat (.int .i64 (n:Int))=some n:=by simp [asNat]
 rcases s.arg with ⟨rfl,rfl⟩ | ⟨rfl,rfl⟩ | ⟨rfl,hr⟩
 ·have:n=0:=by simpa using hn
  subst this
  exact ⟨.nilslice,rfl,fun _ _=>Sl.nil⟩
 ·have:n=0:=by simpa using hn
  subst this
  exact ⟨.empty,rfl,fun _ _=>Sl.empty⟩
 ·refine ⟨.vec (rows.drop n),?_,fun N h'=>Sl.vec fun r h=>hr r (List.mem_of_mem_drop h)⟩
  have hall:rows.all (fun e=>e.length == es)=true:=List.all_eq_true.2 fun r h=>by simp [hr r h]
  simp only [QbL,Qaz,ha,hall]
  rw [if_pos ⟨hn,Nat.le_refl _,trivial⟩]
  rw [List.take_of_length_le (by simp)]
namespace L26
theorem slF_of {h:AH} {n:Nat} {lo hi mx:Option AV} {v v':AV} (e:QbL n lo hi mx v=some v'):slF h n lo hi mx v=some (v',h):=by
 simp only [slF,e]
 rfl
theorem QmT {α β:Type} {g:α→β→α} {a:α} {l:List β} {i:Nat} (hi:i<l.length):(l.take (i+1)).foldl g a=g ((l.take i).foldl g a) l[i]:=by
 have et:l.take (i+1)=l.take i++[l[i]]:=by rw [List.take_succ,List.getElem?_eq_getElem hi];rfl
 rw [et,List.foldl_append]
 rfl
theorem Qn3 {α β:Type} {P:α→β→Prop} {l1 l2:List α} {r1 r2:List β} (e:l1.length=r1.length) (h1:∀ i (a:i<l1.length) (b:i<r1.length),P l1[i] r1[i]) (h2:∀ i (a:i<l2.length) (b:i<r2.length),P l2[i] r2[i]) :
  ∀ i (a:i<(l1++l2).length) (b:i<(r1++r2).length),P (l1++l2)[i] (r1++r2)[i]:=fun i a b=>by
 by_cases c:i<l1.length
 ·rw [List.getElem_append_left c,List.getElem_append_left (by omega)]
  exact h1 i c (by omega)
 ·have a':i<l1.length+l2.length:=by simpa using a
  have b':i<r1.length+r2.length:=by simpa using b
  rw [List.getElem_append_right (by omega),List.getElem_append_right (by omega)]
  have:i - r1.length=i - l1.length:=by omega
  simp only [this]
  exact h2 _ (by omega) (by omega)
section
variable {F:FuncId→Option AFun} {M:Memo}
set_option maxRecDepth 100000 in
set_option maxHeartbeats 4000000 in
theorem law7_top (H:FnL F M) (hF:F 7=some fn7) {cells:List CT} {acts:List Act} {h:AH} {cv av:AV} {crows arows:List (List AV)} (u:Up h h) (hc:RepCs 0 h cells cv crows) (ha:RepAs 0 h acts av arows) {k1 k2:Nat} (hk1:k1<256) (hk2:k2<256) :
  Top F M 7 [.agg [cv,av],.agg [.int .u8 (k1:Int),.int .u8 (k2:Int)]] h (.bool true):=by
 obtain ⟨cA,hA1,hA2⟩:=H.A
 have hN:=Nat.zero_le h.next
 refine Top.intro hF (W_ok 300 _ _ _ ?_)
 simp only [fn7,b7,Nat.reduceAdd,Nat.reduceSub,wS,wC]
 refine wBoxA (Wk.start u) fun b2 h1 w1=>?_
 simp only [wS,wC,Nat.reduceAdd]
 refine wBoxA w1 fun b3 h2 w2=>?_
 have g2:=w2.get 1 rfl
 have g3:=w2.get 0 rfl
 have hb2:=w2.lt 1 rfl
 have hb3:=w2.lt 0 rfl
 have u2:=w2.up
 clear w1 w2
 have L2:=u2.low hN
 have l2:loadA h2 2 (.ptr b2 0)=some [cv,av]:=by rw [ldP g2];rfl
 simp only [wS,wC,Nat.reduceAdd,l2]
 refine cCall 300 (H.E.m 14 (by simp) _) (Qf8 H.E (.refl u2.wf) (Nat.zero_le _) (hc.low L2) (ha.low L2)) fun v h4 hp=>?_
 obtain ⟨w,rfl,hw,u4⟩:=hp
 have g24:=(u4.keep b2 hb2).trans g2
 have g34:=(u4.keep b3 hb3).trans g3
 have u04:=u2.trans u4
 have L4:=u04.low hN
 have l4:loadA h4 2 (.ptr b2 0)=some [cv,av]:=by rw [ldP g24];rfl
 have d00:decide ((0:Int) ≠ 0)=false:=rfl
 by_cases c0:Qak cells acts=0
 ·have e2:(QaJ cells acts).2=0:=by unfold QaJ;rw [if_pos c0]
  have d0:decide (Qak cells acts ≠ 0)=false:=decide_eq_false (fun e=>e c0)
  simp only [wS,wC,Nat.reduceAdd,extT,List.getElem?_cons_zero,List.getElem?_cons_succ,Option.map_some,e2,d00,l4]
  refine cCall 300 (H.R.m 18 (by simp) _) (QdE H.R (.refl u4.wf) (Nat.zero_le _) (hc.low L4) (ha.low L4)) fun v h5 hp=>?_
  obtain ⟨rfl,u5⟩:=hp
  have g25:=(u5.keep b2 (lt_of_get u4.wf g24)).trans g24
  have g35:=(u5.keep b3 (lt_of_get u4.wf g34)).trans g34
  have u05:=u04.trans u5
  have L5:=u05.low hN
  have hz:=QbP c0
  have l51:loadA h5 1 (.ptr b2 1)=some [av]:=by rw [ldP g25];rfl
  have l50:loadA h5 1 (.ptr b2 0)=some [cv]:=by rw [ldP g25];rfl
  have lav:=ha.lenS
  have lcv:lenS cv=some cells.length:=by rw [hc.len];exact hc.sl.len
  simp only [wS,wC,Nat.reduceAdd,d0,faP,Nat.zero_add,l51,lav]
  by_cases c10:acts.length=10
  ·have d10:decide ((acts.length:Int)=10)=true:=decide_eq_true (by omega)
   simp only [wS,wC,Nat.reduceAdd,d10]
   refine cMemo 300 hA1 (hA2 _) ?_
   simp only [wS,wC,Nat.reduceAdd]
   exact R_top (x:=⟨7,[],.normal,none,[]⟩) ⟨rfl,rfl,rfl,rfl⟩ hF rfl
  have d10:decide ((acts.length:Int)=10)=false:=decide_eq_false (by omega)
  have l30:loadA h5 1 (.ptr b3 0)=some [.int .u8 (k1:Int)]:=by rw [ldP g35];rfl
  have l31:loadA h5 1 (.ptr b3 1)=some [.int .u8 (k2:Int)]:=by rw [ldP g35];rfl
  have i0:iarF h5 2 1 (.ptr b3 0) (.int .i64 0)=some (.ptr b3 0,h5):=rfl
  have i1:iarF h5 2 1 (.ptr b3 0) (.int .i64 1)=some (.ptr b3 1,h5):=rfl
  have hw1:IntKind.i64.wrap (k1:Int)=k1:=QcR (by omega) (by omega)
  have hw2:IntKind.i64.wrap (k2:Int)=k2:=QcR (by omega) (by omega)
  have hup:IntKind.i64.wrap ((acts.length:Int)+1)=((acts.length+1:Nat):Int):=QaW (by omega)
  have hcn:(cells.length:Int) ≠ 0:=by have:=hz.1;omega
  have han:((acts.length+1:Nat):Int) ≠ 0:=by omega
  obtain ⟨k,hk,hk'⟩:∃ n:Nat,(k1:Int).tmod ((acts.length+1:Nat):Int)=(n:Int)∧n≤acts.length:=⟨k1 % (acts.length+1),by rw [Int.ofNat_tmod],by have:=Nat.mod_lt k1 (show 0<acts.length+1 by omega);omega⟩
  obtain ⟨n,hn,hn'⟩:∃ n:Nat,(k2:Int).tmod (cells.length:Int)=(n:Int)∧n<cells.length:=⟨k2 % cells.length,by rw [Int.ofNat_tmod],Nat.mod_lt _ (by have:=hz.1;omega)⟩
  obtain ⟨p,p1,p2,p3⟩:=(hc.low L5).sl.row n (by rw [← hc.len];exact hn')
  have hTn:=(hc.low L5).rep n hn' (by rw [← hc.len];exact hn')
  obtain ⟨x,y,z,er,ho⟩:=rep3 hTn
  rw [er] at p3 hTn ho
  simp only [wS,wC,Nat.reduceAdd,AOp.makes,d10,eCv,cvI,i0,i1,l30,l31,hw1,hw2,hup,faP,Nat.zero_add,l51,l50,lav,lcv,bRem hcn,bRem han,hk,hn,p1,p3,alE]
  have u6:=u05.alloc (.cells [.int .i64 0,.int .i64 0,.nilslice] (some 79) 0 [])
  have g6:=Qam h5 (.cells [.int .i64 0,.int .i64 0,.nilslice] (some 79) 0 [])
  have u56:=(Up.refl u5.wf).alloc (.cells [.int .i64 0,.int .i64 0,.nilslice] (some 79) 0 [])
  generalize h5.alloc (.cells [.int .i64 0,.int .i64 0,.nilslice] (some 79) 0 [])=h6 at u6 g6 u56 ⊢
  have st:=stE (v:=.agg [x,y,z]) (vs:=[x,y,z]) (m:=3) (o:=0) g6 (by simp) rfl rfl rfl ho
  have u57:=u56.put (Nat.le_refl _) (lt_of_get u6.wf g6) (.cells (splice [.int .i64 0,.int .i64 0,.nilslice] 0 [x,y,z]) (some 79) 0 [])
  have g7:=get_put h6 h5.next (.cells (splice [.int .i64 0,.int .i64 0,.nilslice] 0 [x,y,z]) (some 79) 0 [])
  have hs7:splice [.int .i64 0,.int .i64 0,.nilslice] 0 [x,y,z]=[x,y,z]:=rfl
  simp only [wS,wC,Nat.reduceAdd,AOp.makes,st]
  rw [hs7] at u57 g7 ⊢
  generalize h6.put h5.next (.cells [x,y,z] (some 79) 0 [])=h7 at u57 g7 ⊢
  have hb25:=lt_of_get u5.wf g25
  refine Qfi [φ,φ,φ,φ,φ,φ,φ,φ,φ,φ,τ,φ,φ,φ,φ,φ,φ,φ,φ,φ,φ,φ,φ,φ,φ,φ,φ,φ,φ,φ,φ,φ,φ,φ,φ,φ,φ,φ,φ,φ,φ,φ,φ,φ,φ,φ,φ,φ,φ,φ,φ,φ,φ,φ,φ,φ,φ,φ,τ,τ,τ,τ,τ,τ,τ,τ,τ,τ,τ,τ,τ,τ,τ,τ,τ,τ,τ,τ,τ,τ,τ,τ,τ,τ,τ] (fun mm f h'=>∃ (i:Nat) (x y z:AV),mm=k - i∧i≤k∧Up h5 h'∧h'.get h5.next=some (.cells [x,y,z] (some 79) 0 [])∧Rep 0 h' ((acts.take i).foldl (curT n) (Qaq cells n)) [x,y,z]∧[x,y,z].all AV.one=true∧f 10=.int .i64 (i:Int)) (k - 0) ⟨0,x,y,z,rfl,Nat.zero_le _,u57,g7,?_,ho,rfl⟩ ?_
  ·have e:Qaq cells n=cells[n]:=by simp [Qaq,List.getD,List.getElem?_eq_getElem hn']
   show Rep 0 h7 (Qaq cells n) [x,y,z]
   rw [e]
   exact hTn.low (u57.low (Nat.zero_le _))
  rintro mm f h' ⟨i,x,y,z,rfl,hi,u7,g7,hT,ho,f10⟩ ih
  dsimp only [fv,Nat.reduceAdd]
  refine W_ok 300 _ _ _ ?_
  have g27:=(u7.keep b2 hb25).trans g25
  have u07:=u05.trans u7
  by_cases ci:i<k
  ·have hd:decide ((i:Int)<(k:Int))=true:=decide_eq_true (by omega)
   have l7:loadA h' 1 (.ptr b2 1)=some [av]:=by rw [ldP g27];rfl
   obtain ⟨q,q1,q2,q3,q4,q5,q6,x',y',z',q7,q8,q9⟩:=(ha.low (u07.low hN)).at i (by omega)
   have hup2:IntKind.i64.wrap ((i:Int)+1)=((i+1:Nat):Int):=QaW (by omega)
   have ft:=QmT (g:=curT n) (a:=Qaq cells n) (l:=acts) (i:=i) (by omega)
   cases es:acts[i].set with
   | false =>
    simp only [wS,wC,Nat.reduceAdd,f10,hd,faP,Nat.zero_add,l7,q1,q2,q3,es,hup2]
    refine ih _ _ _ (by omega) ⟨i+1,x,y,z,rfl,ci,u7,g7,?_,ho,rfl⟩ rfl
    rw [ft,curT,es]
    exact hT
   | true =>
    by_cases ec:acts[i].cell=(n:Int)
    ·have d5:decide (acts[i].cell=(n:Int))=true:=decide_eq_true ec
     have st:=stE (v:=.agg [x',y',z']) (vs:=[x',y',z']) (m:=3) (o:=0) g7 (by simp) rfl rfl rfl q9
     simp only [wS,wC,Nat.reduceAdd,f10,hd,faP,Nat.zero_add,l7,q1,q2,q3,q4,q5,q6,q7,es,d5,hup2,st]
     refine ih _ _ _ (by omega) ⟨i+1,x',y',z',rfl,ci,u7.put (Nat.le_refl _) (lt_of_get u7.wf g7) _,get_put _ _ _,?_,q9,rfl⟩ rfl
     rw [ft,curT,if_pos ⟨es,ec⟩]
     exact q8.low fun b hb=>absurd hb (Nat.not_lt_zero _)
    ·have d5:decide (acts[i].cell=(n:Int))=false:=decide_eq_false ec
     simp only [wS,wC,Nat.reduceAdd,f10,hd,faP,Nat.zero_add,l7,q1,q2,q3,q4,q5,es,d5,hup2]
     refine ih _ _ _ (by omega) ⟨i+1,x,y,z,rfl,ci,u7,g7,?_,ho,rfl⟩ rfl
     rw [ft,curT,if_neg (fun e=>ec e.2)]
     exact hT
  have hd:decide ((i:Int)<(k:Int))=false:=decide_eq_false (by omega)
  have hik:i=k:=by omega
  subst hik
  have l7:loadA h' 2 (.ptr b2 0)=some [cv,av]:=by rw [ldP g27];rfl
  simp only [wS,wC,Nat.reduceAdd,f10,hd,l7,alE]
  have hb9:=lt_of_get u7.wf g7
  have u8:=u7.alloc (.cells [.nilslice,.nilslice] (some 51) 0 [])
  have g8:=Qam h' (.cells [.nilslice,.nilslice] (some 51) 0 [])
  have g78:=(Qad h' (.cells [.nilslice,.nilslice] (some 51) 0 []) hb9).trans g7
  have hn8:(h'.alloc (.cells [.nilslice,.nilslice] (some 51) 0 [])).next=h'.next+1:=rfl
  generalize h'.alloc (.cells [.nilslice,.nilslice] (some 51) 0 [])=h8 at u8 g8 g78 hn8 ⊢
  have hcv:=hc.sl.val
  have hav:=ha.sl.val
  have st:=stE (v:=.agg [cv,av]) (vs:=[cv,av]) (m:=2) (o:=0) g8 (by simp) rfl rfl rfl (by rw [List.all_cons,hcv.2.2,List.all_cons,hav.2.2];rfl)
  have u9:=u8.put (Nat.le_trans u7.next (Nat.le_refl _)) (lt_of_get u8.wf g8) (.cells (splice [.nilslice,.nilslice] 0 [cv,av]) (some 51) 0 [])
  have g9:=get_put h8 h'.next (.cells (splice [.nilslice,.nilslice] 0 [cv,av]) (some 51) 0 [])
  have g79:=(Qab h8 (.cells (splice [.nilslice,.nilslice] 0 [cv,av]) (some 51) 0 []) (x:=h5.next) (Nat.ne_of_lt hb9)).trans g78
  have hs9:splice [.nilslice,.nilslice] 0 [cv,av]=[cv,av]:=rfl
  have hn9:(h8.put h'.next (.cells (splice [.nilslice,.nilslice] 0 [cv,av]) (some 51) 0 [])).next=h'.next+1:=hn8
  rw [hs9] at u9 g9 g79 hn9
  rw [st,hs9]
  generalize h8.put h'.next (.cells [cv,av] (some 51) 0 [])=h9 at u9 g9 g79 hn9 ⊢
  have hkr:i≤arows.length:=by have:=ha.len;omega
  have hlr:=ha.len
  obtain ⟨vt,s1,s2⟩:=(ha.low (u07.low hN)).sl.take hkr
  obtain ⟨vd,s3,s4⟩:=(ha.low (u07.low hN)).sl.drop hkr
  have u59:=u9
  have g29:=(u9.keep b2 hb25).trans g25
  have l91:loadA h9 1 (.ptr b2 1)=some [av]:=by rw [ldP g29];rfl
  have l93:loadA h9 3 (.ptr h5.next 0)=some [x,y,z]:=by rw [ldP g79];rfl
  have u10:=u9.alloc (.cells [] none 0 [])
  have ge10:GE h9.next (h9.alloc (.cells [] none 0 [])) 82 5 (.slice h9.next 0 0 0) []:=GE.start
  have hb9':=lt_of_get u9.wf g79
  have hb11:=lt_of_get u9.wf g9
  have g710:=(Qad h9 (.cells [] none 0 []) hb9').trans g79
  have g910:=(Qad h9 (.cells [] none 0 []) hb11).trans g9
  have g210:=(Qad h9 (.cells [] none 0 []) (Nat.lt_of_lt_of_le hb25 u9.next)).trans g29
  have n10:h9.next≤(h9.alloc (.cells [] none 0 [])).next:=Nat.le_succ _
  simp only [wS,wC,Nat.reduceAdd,AOp.makes,List.map_nil,bs0]
  rw [wPDm rfl]
  generalize h9.alloc (.cells [] none 0 [])=h10 at u10 ge10 g710 g910 g210 n10 ⊢
  have l101:loadA h10 1 (.ptr b2 1)=some [av]:=by rw [ldP g210];rfl
  have l103:loadA h10 3 (.ptr h5.next 0)=some [x,y,z]:=by rw [ldP g710];rfl
  have row5:∀ r ∈ arows,r.length=5∧r.all AV.one=true:=ha.rows
  have a10:=hz.2.2.1
  obtain ⟨v91,h11,e11,A11⟩:=Qff (bytes:=56) ge10 u10.wf n10 (x:=vt) (rs:=arows.take i) (s2 0 h10).lenA (s2 0 h10).els (fun r hr=>row5 r (List.mem_of_mem_take hr)) (by decide) (by decide) (by decide) (by simp) (by simp;omega)
  rw [List.nil_append] at A11
  have g711:=(A11.low h5.next (Nat.lt_of_lt_of_le hb9' n10) hb9').trans g710
  have g911:=(A11.low h'.next (Nat.lt_of_lt_of_le hb11 n10) hb11).trans g910
  have g211:=(A11.low b2 (Nat.lt_of_lt_of_le hb25 u10.next) (Nat.lt_of_lt_of_le hb25 u9.next)).trans g210
  have u11:Up h5 h11:=A11.up u10 u9.next
  simp only [wS,wC,Nat.reduceAdd,AOp.makes,faP,Nat.zero_add,l101,l103,eSl,Option.map_some,Option.map_none,slF_of s1,e11]
  refine ⟨by simp only [List.all_cons,List.all_nil,Bool.and_true];exact Qbk rfl rfl rfl rfl (Qnc (r:=[x,y,z]) rfl g711 (by simp) rfl) rfl,?_⟩
  simp only [wS,wC,Nat.reduceAdd,AOp.makes]
  have hT11:=hT.low (h':=h11) fun b hb=>absurd hb (Nat.not_lt_zero _)
  refine cMain 300 (H.m 21 (by simp) _) (Qnp H.f21 n (.refl u11.wf) hT11) fun v h12 hp=>?_
  obtain ⟨rfl,u12⟩:=hp
  refine ⟨rfl,?_⟩
  have hbs:∀ h:AH,bsF h 1 [.bool false,.int .i64 0,.int .i64 0,.int .i64 0,.nilslice] [(0,5,.agg [.bool true,.int .i64 n,x,y,z])]=some (.slice h.next 0 1 1,h.alloc (.cells [.bool true,.int .i64 n,x,y,z] none 0 [])):=fun h=>rfl
  have ho5:([.bool true,.int .i64 n,x,y,z]:List AV).all AV.one=true:=ho
  have ge12:=A11.ge.up u12
  have u512:=u11.trans u12
  have g912:=(u12.keep h'.next (lt_of_get u11.wf g911)).trans g911
  have g212:=(u12.keep b2 (lt_of_get u11.wf g211)).trans g211
  have g13:=Qam h12 (.cells [.bool true,.int .i64 n,x,y,z] none 0 [])
  have u13:=u512.alloc (.cells [.bool true,.int .i64 n,x,y,z] none 0 [])
  have ge13:=ge12.up ((Up.refl u12.wf).alloc (.cells [.bool true,.int .i64 n,x,y,z] none 0 []))
  have g913:=(Qad h12 (.cells [.bool true,.int .i64 n,x,y,z] none 0 []) (lt_of_get u12.wf g912)).trans g912
  have g213:=(Qad h12 (.cells [.bool true,.int .i64 n,x,y,z] none 0 []) (lt_of_get u12.wf g212)).trans g212
  have n13:h9.next≤(h12.alloc (.cells [.bool true,.int .i64 n,x,y,z] none 0 [])).next:=Nat.le_trans (Nat.le_trans (Nat.le_trans n10 A11.next) u12.next) (Nat.le_succ _)
  simp only [wS,wC,Nat.reduceAdd,AOp.makes,List.map_cons,List.map_nil,hbs]
  rw [wPDm rfl]
  generalize h12.alloc (.cells [.bool true,.int .i64 n,x,y,z] none 0 [])=h13 at g13 u13 ge13 g913 g213 n13 ⊢
  have hx13:Qar h13 5 1 (.slice h12.next 0 1 1)=some [.bool true,.int .i64 n,x,y,z]:=by
   simp only [Qar,AH.read,AH.cellsAt,g13]
   rfl
  obtain ⟨v96,h14,e14,A14⟩:=Qff (bytes:=56) ge13 u13.wf n13 (x:=.slice h12.next 0 1 1) (rs:=[[.bool true,.int .i64 n,x,y,z]]) rfl hx13 (fun r hr=>by rw [List.mem_singleton.1 hr];exact ⟨rfl,ho5⟩) (by decide) (by decide) (by decide) (by simp;omega) (by simp)
  have g914:=(A14.low h'.next (lt_of_get u13.wf g913) hb11).trans g913
  have g214:=(A14.low b2 (lt_of_get u13.wf g213) (Nat.lt_of_lt_of_le hb25 u9.next)).trans g213
  have u14:Up h5 h14:=A14.up u13 u9.next
  have st:=stE (v:=v96) (m:=1) (o:=1) g914 (by simp) A14.ge.one.2.1 A14.ge.one.2.2 rfl (by simp [A14.ge.one.1])
  simp only [wS,wC,Nat.reduceAdd,AOp.makes,e14,faP,Nat.zero_add,st]
  have hs14:splice [cv,av] 1 [v96]=[cv,v96]:=rfl
  have hn5:h5.next≤h'.next:=u7.next
  have u15:=u14.put hn5 (lt_of_get u14.wf g914) (.cells (splice [cv,av] 1 [v96]) (some 51) 0 [])
  have g915:=get_put h14 h'.next (.cells (splice [cv,av] 1 [v96]) (some 51) 0 [])
  have ge15:=A14.ge.keep (h':=h14.put h'.next (.cells (splice [cv,av] 1 [v96]) (some 51) 0 [])) (Nat.le_refl _) fun c hc=>Qab _ _ (by have:=(A14.ge.inB hc).1;omega)
  have g215:=(Qab h14 (.cells (splice [cv,av] 1 [v96]) (some 51) 0 []) (x:=b2) (Nat.ne_of_lt (Nat.lt_of_lt_of_le hb25 hn5))).trans g214
  have n15:h9.next≤(h14.put h'.next (.cells (splice [cv,av] 1 [v96]) (some 51) 0 [])).next:=Nat.le_trans n13 A14.next
  rw [hs14] at u15 g915 ge15 g215 n15 ⊢
  generalize h14.put h'.next (.cells [cv,v96] (some 51) 0 [])=h15 at u15 g915 ge15 g215 n15 ⊢
  have l15:loadA h15 1 (.ptr h'.next 1)=some [v96]:=by rw [ldP g915];rfl
  have l152:loadA h15 1 (.ptr b2 1)=some [av]:=by rw [ldP g215];rfl
  obtain ⟨v04,h16,e16,A16⟩:=Qff (bytes:=56) ge15 u15.wf n15 (x:=vd) (rs:=arows.drop i) (s4 0 h15).lenA (s4 0 h15).els (fun r hr=>row5 r (List.mem_of_mem_drop hr)) (by decide) (by decide) (by decide) (by simp;omega) (by simp;omega)
  have g916:=(A16.low h'.next (lt_of_get u15.wf g915) hb11).trans g915
  have u16:Up h5 h16:=A16.up u15 u9.next
  have st:=stE (v:=v04) (m:=1) (o:=1) g916 (by simp) A16.ge.one.2.1 A16.ge.one.2.2 rfl (by simp [A16.ge.one.1])
  simp only [wS,wC,Nat.reduceAdd,AOp.makes,faP,Nat.zero_add,l15,l152,eSl,Option.map_some,Option.map_none,slF_of s3,e16,st]
  have hs16:splice [cv,v96] 1 [v04]=[cv,v04]:=rfl
  have u17:=u16.put hn5 (lt_of_get u16.wf g916) (.cells (splice [cv,v96] 1 [v04]) (some 51) 0 [])
  have g917:=get_put h16 h'.next (.cells (splice [cv,v96] 1 [v04]) (some 51) 0 [])
  have ge17:=A16.ge.keep (h':=h16.put h'.next (.cells (splice [cv,v96] 1 [v04]) (some 51) 0 [])) (Nat.le_refl _) fun c hc=>Qab _ _ (by have:=(A16.ge.inB hc).1;omega)
  rw [hs16] at u17 g917 ge17 ⊢
  generalize h16.put h'.next (.cells [cv,v04] (some 51) 0 [])=h17 at u17 g917 ge17 ⊢
  obtain ⟨c17,sh17⟩:=same (k:=i) c0 hn' (by omega) rfl
  have hbig:10<4611686018427387904:=by decide
  have low0:∀ {h1 h2:AH},Low 0 h1 h2:=fun b hb=>absurd hb (Nat.not_lt_zero _)
  have hacts:RepAs h17.next h17 (acts.take i++[setA n ((acts.take i).foldl (curT n) (Qaq cells n))]++acts.drop i) v04 (arows.take i++[[.bool true,.int .i64 n,x,y,z]]++arows.drop i):=by
   have hT17:=(hT.low (h':=h17) low0).mono (Nat.zero_le h17.next)
   refine ⟨ge17.sl (Nat.le_refl _),by simp [hlr],?_,fun t ht=>?_,?_⟩
   ·refine Qn3 (by simp [hlr]) (Qn3 (by simp [hlr]) (fun j a b=>?_) fun j a b=>?_) fun j a b=>?_
    ·simp only [List.getElem_take]
     exact ((ha.rep j (by simp at a;omega) (by simp at b;omega)).low low0).mono (Nat.zero_le _)
    ·have:j=0:=by simpa using a
     subst this
     exact ⟨_,rfl,hT17⟩
    ·simp only [List.getElem_drop]
     exact ((ha.rep (i+j) (by simp at a;omega) (by simp at b;omega)).low low0).mono (Nat.zero_le _)
   ·rw [List.append_assoc] at ht
    rcases List.mem_append.1 ht with h1 | h1
    ·exact ha.short t (List.mem_of_mem_take h1)
    rcases List.mem_append.1 h1 with h1 | h1
    ·rw [List.mem_singleton.1 h1]
     have base:∀ (l:List Act),(∀ a ∈ l,Short a.term)→∀ t0,Short t0→Short (l.foldl (curT n) t0):=fun l=>by
      induction l with
      | nil=>exact fun _ t0 h0=>h0
      | cons a l ih =>
       intro hl t0 h0
       rw [List.foldl_cons]
       refine ih (fun b hb=>hl b (by simp [hb])) _ ?_
       unfold curT
       split
       ·exact hl a (by simp)
       ·exact h0
     refine base _ (fun a ha'=>ha.short a (List.mem_of_mem_take ha')) _ ?_
     have e:Qaq cells n=cells[n]:=by simp [Qaq,List.getD,List.getElem?_eq_getElem hn']
     rw [e]
     exact hc.short _ (List.getElem_mem hn')
    ·exact ha.short t (List.mem_of_mem_drop h1)
   ·simp;omega
  have alen:(acts.take i++[setA n ((acts.take i).foldl (curT n) (Qaq cells n))]++acts.drop i).length=acts.length+1:=by simp;omega
  generalize acts.take i++[setA n ((acts.take i).foldl (curT n) (Qaq cells n))]++acts.drop i=acts' at c17 sh17 hacts alen
  generalize arows.take i++[[.bool true,.int .i64 n,x,y,z]]++arows.drop i=rows' at hacts
  have l17:loadA h17 2 (.ptr h'.next 0)=some [cv,v04]:=by rw [ldP g917];rfl
  have hcells:=(hc.low (h':=h17) low0).mono (Nat.zero_le h17.next)
  simp only [wS,wC,Nat.reduceAdd,l17]
  refine cCall 300 (H.E.m 8 (by simp) _) (Qex H.E (.refl u17.wf) (Nat.le_refl _) hcells hacts) fun v h18 hp=>?_
  obtain ⟨w2,rfl,hw2,u18⟩:=hp
  obtain ⟨D,eD,elen,shrt⟩:=Qgr c17
  simp only [eD] at hw2 sh17 ⊢
  have g918:=(u18.keep h'.next (lt_of_get u17.wf g917)).trans g917
  have l18:loadA h18 1 (.ptr h'.next 1)=some [v04]:=by rw [ldP g918];rfl
  have ha18:=hacts.low (u18.low (Nat.le_refl _))
  have d3:decide ((D.length:Int) ≠ (acts'.length:Int))=false:=decide_eq_false (fun e=>e (by omega))
  simp only [wS,wC,Nat.reduceAdd,extT,List.getElem?_cons_zero,List.getElem?_cons_succ,Option.map_some,d00,hw2.len,faP,Nat.zero_add,l18,ha18.lenS,d3]
  refine Qfi [φ,φ,φ,φ,φ,φ,φ,φ,φ,φ,φ,φ,φ,φ,τ,τ,φ,φ,φ,φ,φ,φ,φ,φ,φ,φ,φ,φ,φ,φ,φ,φ,φ,φ,φ,φ,φ,φ,φ,φ,φ,φ,φ,φ,φ,φ,φ,φ,φ,φ,φ,φ,φ,φ,φ,φ,φ,φ,φ,φ,φ,φ,φ,φ,φ,φ,φ,φ,φ,φ,φ,φ,φ,φ,φ,φ,φ,φ,φ,φ,φ,φ,φ,φ,φ,φ,φ,φ,φ,φ,φ,φ,φ,φ,φ,φ,φ,φ,φ,φ,φ,φ,φ,φ,φ,φ,φ,φ,φ,φ,φ,φ,φ,φ,φ,φ,φ,φ,φ,φ,φ,τ,τ,τ,τ,τ,τ,τ,τ,τ,τ,τ,τ,τ,τ,τ,τ,τ,τ,τ,τ,τ] (fun mm f h'=>∃ (j:Nat) (gv:AV) (g:List Int),mm=D.length - j∧j≤D.length∧Up h18 h'∧GE h18.next h' 6 1 gv (ints g)∧g.length≤j∧g++shown (acts'.drop j) (D.drop j)=(QaJ cells acts).1∧f 15=.int .i64 (j:Int)∧f 14=gv) (D.length - 0) ⟨0,.nilslice,[],rfl,Nat.zero_le _,.refl u18.wf,GL.nil.ge,Nat.zero_le _,sh17,rfl,rfl⟩ ?_
  rintro mm f2 h19 ⟨j,gv,g,rfl,hj,u19,ge19,hgj,hsum,f15,f14⟩ ih2
  dsimp only [fv,Nat.reduceAdd]
  refine W_ok 300 _ _ _ ?_
  have hb18:=lt_of_get u18.wf g918
  have g919:=(u19.keep h'.next hb18).trans g918
  by_cases cj:j<D.length
  ·have hd2:decide ((j:Int)<(D.length:Int))=true:=decide_eq_true (by omega)
   have cja:j<acts'.length:=by omega
   have l19:loadA h19 1 (.ptr h'.next 1)=some [v04]:=by rw [ldP g919];rfl
   obtain ⟨q,q1,q2,q3,_⟩:=(ha18.low (u19.low u18.next)).at j cja
   have hup2:IntKind.i64.wrap ((j:Int)+1)=((j+1:Nat):Int):=QaW (by omega)
   rw [QhL _ _ _ cja cj] at hsum
   cases es:acts'[j].set with
   | true =>
    rw [es] at hsum
    simp only [if_true,List.nil_append] at hsum
    simp only [wS,wC,Nat.reduceAdd,f14,f15,hw2.len,hd2,faP,Nat.zero_add,l19,q1,q2,q3,es,Bool.not_true,hup2]
    exact ih2 _ _ _ (by omega) ⟨j+1,gv,g,rfl,cj,u19,ge19,by omega,hsum,rfl,rfl⟩ rfl
   | false =>
    rw [es] at hsum
    simp only [Bool.false_eq_true,if_false] at hsum
    obtain ⟨p,w0,r1,r2,r3,r4,r5,_⟩:=(hw2.low (u19.low (Nat.le_refl _))).at j cj
    simp only [wS,wC,Nat.reduceAdd,f14,f15,hw2.len,hd2,faP,Nat.zero_add,l19,q1,q2,q3,es,Bool.not_false,r1,r4,r5,List.map_cons,List.map_nil,bs1]
    have u20:=u19.alloc (.cells [.int .i64 D[j].2] none 0 [])
    have g20:=Qam h19 (.cells [.int .i64 D[j].2] none 0 [])
    have ge20:=ge19.up ((Up.refl u19.wf).alloc (.cells [.int .i64 D[j].2] none 0 []))
    generalize h19.alloc (.cells [.int .i64 D[j].2] none 0 [])=h20 at u20 g20 ge20 ⊢
    have hx20:Qar h20 1 1 (.slice h19.next 0 1 1)=some [.int .i64 D[j].2]:=by
     simp only [Qar,AH.read,AH.cellsAt,g20]
     rfl
    obtain ⟨gv',h21,e21,A21⟩:=Qff (bytes:=8) ge20 u20.wf u20.next (x:=.slice h19.next 0 1 1) (rs:=[[.int .i64 D[j].2]]) rfl hx20 (fun r hr=>by rw [List.mem_singleton.1 hr];exact ⟨rfl,rfl⟩) (by decide) (by decide) (by decide) (by simp [ints];omega) (by simp)
    simp only [wS,wC,Nat.reduceAdd,e21,hup2]
    exact ih2 _ _ _ (by omega) ⟨j+1,gv',g++[D[j].2],rfl,cj,A21.up u20 (Nat.le_refl _),by simpa [ints] using A21.ge,by simp;omega,by rw [List.append_assoc];exact hsum,rfl,rfl⟩ rfl
  ·have hd2:decide ((j:Int)<(D.length:Int))=false:=decide_eq_false (by omega)
   have hz2:acts'.drop j=[]:=List.drop_eq_nil_of_le (by omega)
   rw [hz2] at hsum
   have hg:g=(QaJ cells acts).1:=by simpa [shown] using hsum
   simp only [wS,wC,Nat.reduceAdd,f14,f15,hw2.len,hd2]
   have u419:Up h4 h19:=((u5.trans u17).trans u18).trans u19
   have sg:=ge19.sl (Nat.le_refl _)
   have s2':=(hw.low (u419.low (Nat.le_refl _))).mono u419.next
   refine cCall 300 (H.E.m 13 (by simp) _) (Qfm H.E.f13 sg s2' (by omega)) fun v h22 hp=>?_
   obtain ⟨rfl,_⟩:=hp
   simp only [wS,wC,Nat.reduceAdd,hg,decide_true]
   refine cMemo 300 hA1 (hA2 _) ?_
   simp only [wS,wC,Nat.reduceAdd]
   exact R_top (x:=⟨7,[],.normal,none,[]⟩) ⟨rfl,rfl,rfl,rfl⟩ hF rfl
 ·have e2:QaJ cells acts=([],Qak cells acts):=if_neg c0
  have d1:decide (Qak cells acts ≠ 0)=true:=decide_eq_true c0
  simp only [wS,wC,Nat.reduceAdd,extT,List.getElem?_cons_zero,List.getElem?_cons_succ,Option.map_some,e2,d1,l4]
  refine cMemo 300 hA1 (hA2 _) ?_
  simp only [wS,wC,Nat.reduceAdd]
  exact R_top (x:=⟨7,[],.normal,none,[]⟩) ⟨rfl,rfl,rfl,rfl⟩ hF rfl
end
end L26
end Go.Ab

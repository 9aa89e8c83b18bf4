/-
  A part of a proof: XZw26 YA26.
-/
import Derived.Test.YthiiaehlmfbeoaaGreatDoorXZ26toYD0
import Derived.Test.YthiiaehlmfbeoaaGreatDoorXS26toYE26
set_option linter.all false
/-! Chapter 26: the walk of Scratch. -/
namespace Go.Ab.L26
open Go Go.Ab
theorem MC.setKA {s:St} {fv cv yv:AV} {L:List AV} (m:MC s fv cv yv L) (on:On):MC { s with known:=on } fv cv yv (splice L 7 (onC on)):=by
 have hl:=m.len
 have ho:(onC on).length=6:=rfl
 have hg:=fun j=>Qbz (l:=L) (xs:=onC on) (o:=7) (by omega) j
 rw [ho] at hg
 refine ⟨by rw [Qb0 (by omega)];exact hl,?_,fun j hj=>?_,fun j hj=>?_,fun j q hj hq=>?_,?_,?_⟩
 ·rw [hg,if_pos (by omega)];exact m.f
 ·rw [hg,if_pos (by omega)];exact m.v j hj
 ·rw [hg,if_neg (by omega),if_pos (by omega),show 7+j - 7=j by omega,QkO on hj]
 ·rw [hg,if_neg (by omega),if_neg (by omega)];exact m.st j q hj hq
 ·rw [hg,if_neg (by omega),if_neg (by omega)];exact m.c
 ·rw [hg,if_neg (by omega),if_neg (by omega)];exact m.y

structure AccI (c:Cx) (h3 h:AH) (ov:AV) (l:List Int):Prop where
 gl:GL c.N h 6 1 ov (ints l)
 own:OwnV c h ov
 new:∀ b,Blk ov b→h3.next≤b
theorem AccI.fr {c:Cx} {h3 h h':AH} {ov:AV} {l:List Int} {S:Nat→Prop} (A:AccI c h3 h ov l) (f:Fr S c h h') (hs:∀ b,S b→b=c.bf):AccI c h3 h' ov l:=by
 have h1:∀ v,OwnV c h v→∀ b,Blk v b→¬ S b:=fun v hv b hb e=>by
  obtain ⟨o,w⟩:=hv b hb
  exact w.f (hs b e)
 exact ⟨GL.fr A.gl A.own f (h1 _ A.own),A.own.keep f (h1 _ A.own),A.new⟩
theorem AccI.app {c:Cx} {forms:Nat→CT} {s:St} {h3 h:AH} {ov:AV} {l:List Int} (A:AccI c h3 h ov l) (m:Mst c forms s h) (h3h:h3.next≤h.next) {d:Int} {b':Nat} {sp:Option Nat} (hg:h.get b'=some (.cells [.int .i64 d] sp 0 [])) (hn:l.length<1000) :
  ∃ ov' h',appF h 1 8 6 ov (.slice b' 0 1 1)=some (ov',h')∧AccI c h3 h' ov' (l++[d])∧Mst c forms s h'∧Fr (Blk ov) c h h':=by
 have hil:(ints l).length=l.length:=by simp [ints]
 obtain ⟨ov',h',e1,e2,e3,m',f',hnew⟩:=appOwn m A.gl A.own hg rfl rfl (es:=1) (bytes:=8) (by decide) (by decide) (by decide) (by omega)
 exact ⟨ov',h',e1,⟨by simpa [ints] using e2,e3,fun b hb=>Nat.le_trans h3h (hnew b hb)⟩,m',f'⟩
section
variable {F:FuncId→Option AFun} {M:Memo}
theorem Qf8 (H:FnE F M) {cells:List CT} {acts:List Act} {N:Nat} {h:AH} {cv av:AV} {crows arows:List (List AV)} (u:Up h h) (hN:N≤h.next) (hc:RepCs N h cells cv crows) (ha:RepAs N h acts av arows) :
  Ctr F M 14 [.agg [cv,av]] h (fun v h'=>∃ w,v=.tuple [w,.int .i64 (QaJ cells acts).2]∧Sl h'.next h' 1 w (ints (QaJ cells acts).1)∧Up h h') (fun _ _=>False):=by
 refine Ctr.intro H.f14 fun caller cs G hk _=>W_ok 300 _ _ _ ?_
 simp only [fn14,b14,Nat.reduceAdd,Nat.reduceSub,wS,wC]
 refine wBoxA (Wk.start u) fun b1 h1 w1=>?_
 have g1:=w1.get 0 rfl
 have L1:=w1.up.low hN
 have l1:loadA h1 2 (.ptr b1 0)=some [cv,av]:=by rw [ldP g1];rfl
 simp only [wS,wC,Nat.reduceAdd,l1]
 refine cCall 300 (H.m 17 (by simp) _) (QcO H.B w1.self (Nat.le_trans hN w1.up.next) (hc.low L1) (ha.low L1)) fun v h2 hp=>?_
 obtain ⟨rfl,u2⟩:=hp
 simp only [wS,wC,Nat.reduceAdd]
 by_cases c0:Qak cells acts=0
 ·have hd:decide (Qak cells acts ≠ 0)=false:=decide_eq_false (fun e=>e c0)
  obtain ⟨z1,z2,z3,okF,okA⟩:=QbP c0
  have g2:=(u2.keep b1 (lt_of_get w1.up.wf g1)).trans g1
  have L2:=(w1.up.trans u2).low hN
  have N2:N≤h2.next:=Nat.le_trans hN (w1.up.trans u2).next
  have l20:loadA h2 1 (.ptr b1 0)=some [cv]:=by rw [ldP g2];rfl
  have hc2:=(hc.low L2).mono N2
  have ha2:=(ha.low L2).mono N2
  simp only [wS,wC,Nat.reduceAdd,hd,faP,Nat.zero_add,l20]
  refine cCall 300 (H.m 22 (by simp) _) (Qkn (forms:=Qaq cells) H.f22 H.f41 (H.m 41 (by simp)) (.refl u2.wf) (Nat.le_refl _) hc2.sl hc2.rows (by rw [← hc2.len];exact z1) (by rw [← hc2.len];exact z2) fun i hi=>?_) fun v h3 hp=>?_
  ·have:=hc2.rep i (by rw [hc2.len];exact hi) hi
   have e:Qaq cells i=cells[i]'(by rw [hc2.len];exact hi):=by
    unfold Qaq
    rw [List.getD_eq_getElem?_getD,List.getElem?_eq_getElem (by rw [hc2.len];exact hi),Option.getD_some]
   rw [e]
   exact this
  obtain ⟨c,rfl,cN,cnc,m3,u3,o1,o2,o3⟩:=hp
  have u13:=(w1.up.trans u2).trans u3
  have g3:=(u3.keep b1 (by have:=lt_of_get w1.up.wf g1;have:=u2.next;omega)).trans g2
  have l31:loadA h3 1 (.ptr b1 1)=some [av]:=by rw [ldP g3];rfl
  have lav:=ha2.sl.len
  simp only [wS,wC,Nat.reduceAdd,faP,Nat.zero_add,l31,lav]
  have cN':c.N=h2.next:=cN
  have cnc':c.nc=cells.length:=by rw [cnc,hc2.len]
  refine Qbv (fun mm t h5=>∃ (i:Nat) (forms:Nat→CT) (s:St) (ov:AV) (l:List Int) (x8 x9 x22 x23 x24 x25 x26 x27 x28 x29 x30 x31 x32 x33 x34 x35 x36 x37 x38 x39 x40 x41 x42:AV),mm=arows.length - i∧i≤arows.length∧Mst c forms s h5∧OkF cells.length forms∧Fr (· = c.bf) c h3 h5∧AccI c h3 h5 ov l∧l.length≤i ∧
   l++scrS cells.length forms s (acts.drop i)=scrS cells.length (Qaq cells) s0 acts ∧
   t=[.agg [cv,av],.ptr b1 0,.nilslice,.int .i64 0,.int .i64 (Qak cells acts),.ptr c.bm 0,ov,.undef,x8,x9,.agg [cv,av],.int .i64 (Qak cells acts),.int .i64 (Qak cells acts),.bool false,.undef,.ptr b1 0,cv,.ptr c.bm 0,.ptr b1 1,av,.int .i64 (arows.length:Nat),.int .i64 (i:Nat),x22,x23,x24,x25,x26,x27,x28,x29,x30,x31,x32,x33,x34,x35,x36,x37,x38,x39,x40,x41,x42]) (arows.length - 0) ?_ ?_
  ·exact ⟨0,Qaq cells,s0,.nilslice,[],_,_,_,_,_,_,_,_,_,_,_,_,_,_,_,_,_,_,_,_,_,_,_,rfl,Nat.zero_le _,m3,okF,.refl,⟨GL.nil,(fun b ⟨n,e,hb⟩=>by rcases hb with hb | hb <;> cases hb),(fun b ⟨n,e,hb⟩=>by rcases hb with hb | hb <;> cases hb)⟩,Nat.zero_le _,rfl,rfl⟩
  ·rintro mm t h5 ⟨i,forms,s,ov,l,x8,x9,x22,x23,x24,x25,x26,x27,x28,x29,x30,x31,x32,x33,x34,x35,x36,x37,x38,x39,x40,x41,x42,rfl,hi,m5,ok5,f5,A5,hli,hrun,rfl⟩ ih5
   refine W_ok 300 _ _ _ ?_
   have L5:Low h2.next h3 h5:=by rw [← cN'];exact m3.low f5 fun b e=>e ▸ m3.lf
   have L05:Low h2.next h2 h5:=fun b hb=>(L5 b hb).trans (u3.keep b hb)
   by_cases ci:i<arows.length
   ·have hd:decide ((i:Int)<(arows.length:Int))=true:=decide_eq_true (by omega)
    have cia:i<acts.length:=by rw [ha2.len];exact ci
    obtain ⟨p,q1,q2,q3⟩:=ha2.sl.row i ci
    have q4:=(QaH L05 q2 5).trans q3
    have hra:=(ha2.rep i cia ci).low L05
    obtain ⟨x,y,z,er,hone,hT⟩:=repA5 hra
    have hok:=okA acts[i] (List.getElem_mem cia)
    rw [er] at q4 hra hone
    rw [← cN'] at hra
    simp only [wS,wC,Nat.reduceAdd,hd,q1,q4,alE]
    have m6:=m5.alloc (.cells [.bool false,.int .i64 0,.int .i64 0,.int .i64 0,.nilslice] (some 83) 0 [])
    have f6:=Fr.alloc (S:=(· = c.bf)) m5 (.cells [.bool false,.int .i64 0,.int .i64 0,.int .i64 0,.nilslice] (some 83) 0 [])
    have w6:=Own.new m5 (.cells [.bool false,.int .i64 0,.int .i64 0,.int .i64 0,.nilslice] (some 83) 0 [])
    generalize h5.alloc (.cells [.bool false,.int .i64 0,.int .i64 0,.int .i64 0,.nilslice] (some 83) 0 [])=h6 at m6 f6 w6 ⊢
    have st:=stE (v:=.agg [.bool acts[i].set,.int .i64 acts[i].cell,x,y,z]) (vs:=[.bool acts[i].set,.int .i64 acts[i].cell,x,y,z]) (m:=5) (o:=0) w6.get (by simp) rfl rfl rfl hone
    simp only [wS,wC,Nat.reduceAdd,st]
    have m7:=m6.putOwn w6 (.cells (splice [.bool false,.int .i64 0,.int .i64 0,.int .i64 0,.nilslice] 0 [.bool acts[i].set,.int .i64 acts[i].cell,x,y,z]) (some 83) 0 [])
    have f7:=f6.putOwn w6 (Nat.le_refl _) (.cells (splice [.bool false,.int .i64 0,.int .i64 0,.int .i64 0,.nilslice] 0 [.bool acts[i].set,.int .i64 acts[i].cell,x,y,z]) (some 83) 0 [])
    have w7:=w6.set (.cells (splice [.bool false,.int .i64 0,.int .i64 0,.int .i64 0,.nilslice] 0 [.bool acts[i].set,.int .i64 acts[i].cell,x,y,z]) (some 83) 0 [])
    generalize h6.put h5.next (.cells (splice [.bool false,.int .i64 0,.int .i64 0,.int .i64 0,.nilslice] 0 [.bool acts[i].set,.int .i64 acts[i].cell,x,y,z]) (some 83) 0 [])=h7 at m7 f7 w7 ⊢
    obtain ⟨L7,sp7,cv7,gm7,mc7,gl7,hc7⟩:=m7.obj
    have hl7:=mc7.len
    have st7:=stE (v:=.agg [.bool false,.bool false,.bool false,.bool false,.bool false,.bool false]) (vs:=onC noneK) (m:=6) (o:=7) gm7 (by omega)
    have m7':=m7.putObj gm7 (mc7.setKA noneK) gl7 hc7
    have f7':=f7.trans (Fr.putObj gm7 (L':=splice L7 7 (onC noneK)) fun b hb=>.inl (by rw [(mc7.setKA noneK).c] at hb;rw [mc7.c];exact hb))
    have w7':=w7.putM gm7 (L':=splice L7 7 (onC noneK)) (by rw [(mc7.setKA noneK).c,mc7.c])
    simp only [wS,wC,Nat.reduceAdd,List.map_nil,ncP,faP,Nat.zero_add,st7]
    generalize h7.put c.bm (.cells (splice L7 7 (onC noneK)) sp7 0 [])=h8 at m7' f7' w7' ⊢
    have l8:loadA h8 5 (.ptr h5.next 0)=some [.bool acts[i].set,.int .i64 acts[i].cell,x,y,z]:=by rw [ldP w7'.get];rfl
    simp only [wS,wC,Nat.reduceAdd,l8]
    have hra8:RepA c.N h8 acts[i] [.bool acts[i].set,.int .i64 acts[i].cell,x,y,z]:=hra.low (m5.low f7' fun b e=>e ▸ m5.lf)
    refine cCall 300 (H.m 23 (by simp) _) (QoC H.C H.D H.f23 H.f49 (H.m 49 (by simp)) ok5.sz (by rw [cnc'];exact ok5.rt) m7' hra8 hok.lo (by rw [cnc'];exact hok.hi)) fun v h9 hp=>?_
    obtain ⟨⟨w,rfl,hw,hnew⟩,m9,f9⟩:=hp
    rw [cnc'] at hw m9
    have f59:=f7'.trans f9
    have w9:=w7'.frS f9 w7'.f
    simp only [wS,wC,Nat.reduceAdd,alE]
    have m10:=m9.alloc (.cells [.nilslice,.int .i64 0] (some 87) 0 [])
    have f10:=f59.trans (Fr.alloc (S:=(· = c.bf)) m9 (.cells [.nilslice,.int .i64 0] (some 87) 0 []))
    have w10:=w9.alloc m9 (.cells [.nilslice,.int .i64 0] (some 87) 0 [])
    have r10:=Own.new m9 (.cells [.nilslice,.int .i64 0] (some 87) 0 [])
    have nn:h5.next<h9.next:=w9.lt
    generalize h9.alloc (.cells [.nilslice,.int .i64 0] (some 87) 0 [])=h10 at m10 f10 w10 r10 ⊢
    have st10:=fun n=>stE (v:=.agg [w,.int .i64 n]) (vs:=[w,.int .i64 n]) (m:=2) (o:=0) r10.get (by simp) rfl rfl rfl (hw.bs (h':=h9)).2
    simp only [wS,wC,Nat.reduceAdd,st10]
    have m11:=m10.putOwn r10 (.cells (splice [.nilslice,.int .i64 0] 0 [w,.int .i64 (actS c.nc forms { s with known:=noneK } acts[i]).2.2.2]) (some 87) 0 [])
    have f11:=f10.putOwn r10 (by omega) (.cells (splice [.nilslice,.int .i64 0] 0 [w,.int .i64 (actS c.nc forms { s with known:=noneK } acts[i]).2.2.2]) (some 87) 0 [])
    have w11:=w10.put (by omega) r10.m (.cells (splice [.nilslice,.int .i64 0] 0 [w,.int .i64 (actS c.nc forms { s with known:=noneK } acts[i]).2.2.2]) (some 87) 0 [])
    have r11:=r10.set (.cells (splice [.nilslice,.int .i64 0] 0 [w,.int .i64 (actS c.nc forms { s with known:=noneK } acts[i]).2.2.2]) (some 87) 0 [])
    generalize h10.put h9.next (.cells (splice [.nilslice,.int .i64 0] 0 [w,.int .i64 (actS c.nc forms { s with known:=noneK } acts[i]).2.2.2]) (some 87) 0 [])=h11 at m11 f11 w11 r11 ⊢
    rw [cnc'] at r11
    have l11:loadA h11 1 (.ptr h5.next 0)=some [.bool acts[i].set]:=by rw [ldP w11.get];rfl
    have k11:loadA h11 1 (.ptr h9.next 1)=some [.int .i64 (actS cells.length forms { s with known:=noneK } acts[i]).2.2.2]:=by rw [ldP r11.get];rfl
    have A11:=A5.fr f11 fun b e=>e
    have f311:=f5.trans f11
    have hup:IntKind.i64.wrap ((i:Int)+1)=((i+1:Nat):Int):=QaW (by have:=ha2.len;omega)
    rw [List.drop_eq_getElem_cons cia] at hrun
    simp only [scrS] at hrun
    simp only [wS,wC,Nat.reduceAdd,faP,Nat.zero_add,l11]
    cases es:acts[i].set with
    | true =>
     rw [es] at hrun
     simp only [if_true,List.nil_append] at hrun
     simp only [wS,wC,Nat.reduceAdd,Bool.not_true,hup]
     exact ih5 _ _ _ (by omega) ⟨i+1,_,_,ov,l,_,_,_,_,_,_,_,_,_,_,_,_,_,_,_,_,_,_,_,_,_,_,_,rfl,ci,m11,ok5.act hok,f311,A11,by omega,hrun,rfl⟩
    | false =>
     rw [es] at hrun
     simp only [Bool.false_eq_true,if_false] at hrun
     simp only [wS,wC,Nat.reduceAdd,Bool.not_false,faP,Nat.zero_add,k11,List.map_cons,List.map_nil,bs1]
     have m12:=m11.alloc (.cells [.int .i64 (actS cells.length forms { s with known:=noneK } acts[i]).2.2.2] none 0 [])
     have f12:=f11.trans (Fr.alloc m11 (.cells [.int .i64 (actS cells.length forms { s with known:=noneK } acts[i]).2.2.2] none 0 []))
     have g12:=Qam h11 (.cells [.int .i64 (actS cells.length forms { s with known:=noneK } acts[i]).2.2.2] none 0 [])
     generalize h11.alloc (.cells [.int .i64 (actS cells.length forms { s with known:=noneK } acts[i]).2.2.2] none 0 [])=h12 at m12 f12 g12 ⊢
     have A12:=A5.fr f12 fun b e=>e
     have f312:=f5.trans f12
     obtain ⟨ov',h13,e1,A13,m13,f13⟩:=A12.app m12 f312.next g12 (by have:=ha2.len;omega)
     simp only [wS,wC,Nat.reduceAdd,e1,hup]
     exact ih5 _ _ _ (by omega) ⟨i+1,_,_,ov',_,_,_,_,_,_,_,_,_,_,_,_,_,_,_,_,_,_,_,_,_,_,_,_,rfl,ci,m13,ok5.act hok,f312.two f13 (fun b hb=>.inr (A12.new b hb)),A13,by simp;omega,by rw [List.append_assoc];exact hrun,rfl⟩
   ·have hd:decide ((i:Int)<(arows.length:Int))=false:=decide_eq_false (by omega)
    have hz:acts.drop i=[]:=by simp;have:=ha2.len;omega
    rw [hz] at hrun
    simp only [scrS,List.append_nil] at hrun
    have e:QaJ cells acts=(l,0):=by unfold QaJ;rw [if_pos c0,hrun]
    simp only [wS,wC,Nat.reduceAdd,hd]
    have u5:Up h h5:=⟨Nat.le_trans u13.next f5.next,fun b hb=>by
     have a1:=w1.up.next
     have a2:=u2.next
     have a3:=u3.next
     rw [f5.keep b (by omega) (by omega) (show ¬ b=c.bf by omega) (fun e=>by have:=(m3.compOf e).1;omega)]
     exact u13.keep b hb,m5.wf⟩
    refine Qag ⟨rfl,rfl,rfl,rfl⟩ H.f14 rfl (hk _ _ ⟨ov,by rw [e];rfl,?_,u5⟩)
    rw [e]
    exact A5.gl.sl (Nat.le_refl _)
 ·have hd:decide (Qak cells acts ≠ 0)=true:=decide_eq_true c0
  have e:QaJ cells acts=([],Qak cells acts):=if_neg c0
  simp only [wS,wC,Nat.reduceAdd,hd]
  refine Qag ⟨rfl,rfl,rfl,rfl⟩ H.f14 rfl (hk _ _ ⟨.nilslice,by rw [e];rfl,?_,w1.up.trans u2⟩)
  rw [e]
  exact Sl.nil
end
end Go.Ab.L26
/-! Chapter 26: two slices of numbers are compared. -/
namespace Go.Ab.L26
open Go Go.Ab
section
variable {F:FuncId→Option AFun} {M:Memo}
theorem drop_eq {l:List Int} {i:Nat} (hi:i<l.length):l.drop i=l[i]::l.drop (i+1):=List.drop_eq_getElem_cons hi
theorem Qfm (hF:F 13=some fn13) {N:Nat} {h:AH} {v1 v2:AV} {l1 l2:List Int} (s1:Sl N h 1 v1 (ints l1)) (s2:Sl N h 1 v2 (ints l2)) (hlt:l1.length<4611686018427387904) :
  Ctr F M 13 [v1,v2] h (fun v h'=>v=.bool (decide (l1=l2))∧h'=h) (fun _ _=>False):=by
 refine Ctr.intro hF fun caller cs G hk _=>W_ok 300 _ _ _ ?_
 have e1:lenS v1=some l1.length:=by rw [s1.len];simp [ints]
 have e2:lenS v2=some l2.length:=by rw [s2.len];simp [ints]
 simp only [fn13,b13,Nat.reduceAdd,Nat.reduceSub,wS,wC,e1,e2]
 by_cases hl:l1.length=l2.length
 ·have hd:decide ((l1.length:Int) ≠ (l2.length:Int))=false:=decide_eq_false (fun e=>e (by omega))
  simp only [wS,wC,Nat.reduceAdd,hd]
  refine Qbv (fun mm t h5=>∃ (i:Nat) (x11 x12 x13 x14 x15 x16 x17 x18 x19 x20 x21 x22 x23 x24 x25:AV),mm=l1.length - i∧i≤l1.length∧h5=h∧(l1=l2 ↔ l1.drop i=l2.drop i) ∧
   t=[v1,v2,.undef,.undef,.bool false,.int .i64 (i:Nat),v1,.int .i64 (l1.length:Nat),v2,.int .i64 (l2.length:Nat),.bool false,x11,x12,x13,x14,x15,x16,x17,x18,x19,x20,x21,x22,x23,x24,x25]) (l1.length - 0) ?_ ?_
  ·exact ⟨0,_,_,_,_,_,_,_,_,_,_,_,_,_,_,_,rfl,Nat.zero_le _,rfl,Iff.rfl,rfl⟩
  ·rintro mm t h5 ⟨i,x11,x12,x13,x14,x15,x16,x17,x18,x19,x20,x21,x22,x23,x24,x25,rfl,hi,rfl,hiff,rfl⟩ ih5
   refine W_ok 300 _ _ _ ?_
   simp only [wS,wC,Nat.reduceAdd,e1]
   by_cases ci:i<l1.length
   ·have hd2:decide ((i:Int)<(l1.length:Int))=true:=decide_eq_true (by omega)
    obtain ⟨p,p1,p2,p3⟩:=s1.row i (by simpa [ints] using ci)
    obtain ⟨q,q1,q2,q3⟩:=s2.row i (by simp [ints];omega)
    have r1:(ints l1)[i]'(by simpa [ints] using ci)=[.int .i64 l1[i]]:=by simp [ints]
    have r2:(ints l2)[i]'(by simp [ints];omega)=[.int .i64 (l2[i]'(by omega))]:=by simp [ints]
    rw [r1] at p3
    rw [r2] at q3
    have hup:IntKind.i64.wrap ((i:Int)+1)=((i+1:Nat):Int):=QaW (by omega)
    simp only [wS,wC,Nat.reduceAdd,hd2,p1,p3,q1,q3,AOp.makes]
    rw [drop_eq ci,drop_eq (show i<l2.length by omega)] at hiff
    by_cases ce:l1[i]=l2[i]'(by omega)
    ·have hd3:decide (l1[i] ≠ l2[i]'(by omega))=false:=decide_eq_false (fun e=>e ce)
     simp only [wS,wC,Nat.reduceAdd,hd3,hup]
     exact ih5 _ _ _ (by omega) ⟨i+1,_,_,_,_,_,_,_,_,_,_,_,_,_,_,_,rfl,ci,rfl,hiff.trans ⟨fun e=>(List.cons.inj e).2,fun e=>by rw [ce,e]⟩,rfl⟩
    ·have hd3:decide (l1[i] ≠ l2[i]'(by omega))=true:=decide_eq_true ce
     simp only [wS,wC,Nat.reduceAdd,hd3]
     have hne:¬ l1=l2:=by rw [hiff];intro e;exact ce (List.cons.inj e).1
     exact Qag ⟨rfl,rfl,rfl,rfl⟩ hF rfl (hk _ _ ⟨by rw [decide_eq_false hne];rfl,rfl⟩)
   ·have hd2:decide ((i:Int)<(l1.length:Int))=false:=decide_eq_false (by omega)
    have he:l1=l2:=hiff.2 (by rw [List.drop_eq_nil_of_le (by omega),List.drop_eq_nil_of_le (by omega)])
    simp only [wS,wC,Nat.reduceAdd,hd2]
    exact Qag ⟨rfl,rfl,rfl,rfl⟩ hF rfl (hk _ _ ⟨by rw [decide_eq_true he];rfl,rfl⟩)
 ·have hd:decide ((l1.length:Int) ≠ (l2.length:Int))=true:=decide_eq_true (by omega)
  simp only [wS,wC,Nat.reduceAdd,hd]
  have hne:¬ l1=l2:=fun e=>hl (by rw [e])
  exact Qag ⟨rfl,rfl,rfl,rfl⟩ hF rfl (hk _ _ ⟨by rw [decide_eq_false hne];rfl,rfl⟩)
end
end Go.Ab.L26

/-
  A part of a proof: YI26.
-/
import Derived.Test.YthiiaehlmfbeoaaGreatDoorXDlAp
import Derived.Test.YthiiaehlmfbeoaaGreatDoorXDrtoYF26
import Derived.Test.YthiiaehlmfbeoaaGreatDoorYGa26
set_option linter.all false
/-! Chapter 26: the law CellsApart. -/
namespace Go.Ab.L26
open Go Go.Ab
section
variable {F:FuncId→Option AFun} {M:Memo}
theorem Qnu {N:Nat} {h:AH}:RepAs N h [] .nilslice []:=⟨Sl.nil,rfl,fun i h1=>absurd h1 (by simp),(fun t ht=>by cases ht),by simp⟩
set_option maxRecDepth 100000 in
set_option maxHeartbeats 4000000 in
theorem law6_top (H:FnL F M) (hF:F 6=some fn6) {cells:List CT} {T:CT} {N:Nat} {h:AH} {cv x y z:AV} {crows:List (List AV)} (u:Up h h) (hN:N≤h.next) (hc:RepCs N h cells cv crows) (hT:Rep N h T [x,y,z]) (sT:Short T) {k1 k2:Nat} (hk1:k1<256) (hk2:k2<256) :
  Top F M 6 [cv,.agg [.int .u8 (k1:Int),.int .u8 (k2:Int),x,y,z]] h (.bool true):=by
 obtain ⟨cA,hA1,hA2⟩:=H.A
 obtain ⟨cv1,cv2,cv3⟩:=hc.sl.val
 refine Top.intro hF (W_ok 300 _ _ _ ?_)
 simp only [fn6,b6,Nat.reduceAdd,Nat.reduceSub,wS,wC]
 refine wBoxA (Wk.start u) fun b3 h1 w1=>?_
 have hb:∀ h:AH,bldF h [.nilslice,.nilslice] [(0,1,cv)]=some (.agg [cv,.nilslice],h):=fun h=>by simp [bldF,fillA,cv1,cv2,cv3,splice]
 simp only [wS,wC,Nat.reduceAdd,List.map_cons,List.map_nil,hb]
 refine Qfj w1 fun b5 h2 w2=>?_
 simp only [wS,wC,Nat.reduceAdd]
 refine wSt w2 0 rfl rfl (fun h3 w3=>?_) (ho:=show ([cv,.nilslice]:List AV).all AV.one=true by rw [List.all_cons,cv3];rfl)
 have w3':Wk h h3 [(b5,.cells [cv,.nilslice] (some 51) 0 []),(b3,.cells [.int .u8 (k1:Int),.int .u8 (k2:Int),x,y,z] (some 99) 0 [])]:=w3
 clear w1 w2 w3
 have g3:=w3'.get 1 rfl
 have g5:=w3'.get 0 rfl
 have L3:=w3'.up.low hN
 have N3:=Nat.le_trans hN w3'.up.next
 have hb3:=w3'.lt 1 rfl
 have hb5:=w3'.lt 0 rfl
 have hb5N:=(w3'.objs.at 0 rfl).2.2
 have ne35:b5 ≠ b3:=Nat.ne_of_gt (w3'.objs.2.2.2.1 _ (List.mem_singleton.2 rfl))
 have u3:=w3'.up
 have l5:loadA h3 2 (.ptr b5 0)=some [cv,.nilslice]:=by rw [ldP g5];rfl
 simp only [wS,wC,Nat.reduceAdd,l5]
 refine cCall 300 (H.E.m 17 (by simp) _) (QcO H.E.B (.refl u3.wf) N3 (hc.low L3) Qnu) fun v h4 hp=>?_
 obtain ⟨rfl,u4⟩:=hp
 have g34:=(u4.keep b3 hb3).trans g3
 have g54:=(u4.keep b5 hb5).trans g5
 have u04:=u3.trans u4
 have L4:=u04.low hN
 have N4:=Nat.le_trans hN u04.next
 have l54:loadA h4 2 (.ptr b5 0)=some [cv,.nilslice]:=by rw [ldP g54];rfl
 by_cases c0:Qak cells []=0
 ·have d0:decide (Qak cells [] ≠ 0)=false:=decide_eq_false (fun e=>e c0)
  simp only [wS,wC,Nat.reduceAdd,d0,l54]
  refine cCall 300 (H.R.m 18 (by simp) _) (QdE H.R (.refl u04.wf) N4 (hc.low L4) Qnu) fun v h6 hp=>?_
  obtain ⟨rfl,u6⟩:=hp
  have g36:=(u6.keep b3 (lt_of_get u04.wf g34)).trans g34
  have g56:=(u6.keep b5 (lt_of_get u04.wf g54)).trans g54
  have u06:=u04.trans u6
  have hz:=QbP c0
  have hcn:(cells.length:Int) ≠ 0:=by have:=hz.1;omega
  have l0:loadA h6 1 (.ptr b3 0)=some [.int .u8 (k1:Int)]:=by rw [ldP g36];rfl
  have l1:loadA h6 1 (.ptr b3 1)=some [.int .u8 (k2:Int)]:=by rw [ldP g36];rfl
  have l2:loadA h6 3 (.ptr b3 2)=some [x,y,z]:=by rw [ldP g36];rfl
  have lcv:lenS cv=some cells.length:=by rw [hc.len];exact hc.sl.len
  have hw1:IntKind.i64.wrap (k1:Int)=k1:=QcR (by omega) (by omega)
  have hw2:IntKind.i64.wrap (k2:Int)=k2:=QcR (by omega) (by omega)
  obtain ⟨a,ha,ha2⟩:∃ n:Nat,(k1:Int).tmod (cells.length:Int)=(n:Int)∧n<cells.length:=⟨k1 % cells.length,by rw [Int.ofNat_tmod],Nat.mod_lt _ (by have:=hz.1;omega)⟩
  obtain ⟨b,hb',hb2⟩:∃ n:Nat,(k2:Int).tmod (cells.length:Int)=(n:Int)∧n<cells.length:=⟨k2 % cells.length,by rw [Int.ofNat_tmod],Nat.mod_lt _ (by have:=hz.1;omega)⟩
  simp only [wS,wC,Nat.reduceAdd,AOp.makes,d0,eCv,cvI,hw1,hw2,faP,Nat.zero_add,l0,l1,l2,lcv,bRem hcn,ha,hb']
  refine cMain 300 (H.m 19 (by simp) _) (QfJ H.f19 a (.refl u06.wf)) fun v h7 hp=>?_
  obtain ⟨rfl,u7⟩:=hp
  have g37:=(u7.keep b3 (lt_of_get u06.wf g36)).trans g36
  have u07:=u06.trans u7
  refine ⟨by simp only [List.all_cons,List.all_nil,Bool.and_true];exact Qbk rfl rfl rfl rfl (Qnc (r:=[x,y,z]) rfl g37 (by simp) rfl) rfl,?_⟩
  simp only [wS,wC,Nat.reduceAdd,AOp.makes]
  refine cMain 300 (H.m 21 (by simp) _) (Qnp H.f21 b (.refl u07.wf) (hT.low (u07.low hN))) fun v h8 hp=>?_
  obtain ⟨rfl,u8⟩:=hp
  have u08:=u07.trans u8
  refine ⟨rfl,?_⟩
  simp only [wS,wC,Nat.reduceAdd,AOp.makes]
  refine cMain 300 (H.m 19 (by simp) _) (QfJ H.f19 a (.refl u08.wf)) fun v h9 hp=>?_
  obtain ⟨rfl,u9⟩:=hp
  have u09:=u08.trans u9
  refine ⟨rfl,?_⟩
  obtain ⟨k,n,l,lv,rfl,eT,_,ho⟩:=hT.row3
  injection eT with e1 e2
  injection e2 with e2 e3
  injection e3 with e3 e4
  subst e1 e2 e3
  have hbs:∀ h:AH,bsF h 3 [.bool false,.int .i64 0,.int .i64 0,.int .i64 0,.nilslice,.bool false,.int .i64 0,.int .i64 0,.int .i64 0,.nilslice,.bool false,.int .i64 0,.int .i64 0,.int .i64 0,.nilslice] [(0,5,.agg [.bool false,.int .i64 a,.int .i64 0,.int .i64 0,.nilslice]),(5,5,.agg [.bool true,.int .i64 b,.int .i64 k,.int .i64 n,z]),(10,5,.agg [.bool false,.int .i64 a,.int .i64 0,.int .i64 0,.nilslice])] =
    some (.slice h.next 0 3 3,h.alloc (.cells [.bool false,.int .i64 a,.int .i64 0,.int .i64 0,.nilslice,.bool true,.int .i64 b,.int .i64 k,.int .i64 n,z,.bool false,.int .i64 a,.int .i64 0,.int .i64 0,.nilslice] none 0 [])):=fun h=>by simp [bsF,fillA,splice,AV.known,AV.cells,AV.one,ho]
  simp only [wS,wC,Nat.reduceAdd,AOp.makes,List.map_cons,List.map_nil,hbs]
  rw [wPDm rfl]
  have g59:=(u9.keep b5 (lt_of_get u08.wf ((u8.keep b5 (lt_of_get u07.wf ((u7.keep b5 (lt_of_get u06.wf g56)).trans g56))).trans ((u7.keep b5 (lt_of_get u06.wf g56)).trans g56)))).trans ((u8.keep b5 (lt_of_get u07.wf ((u7.keep b5 (lt_of_get u06.wf g56)).trans g56))).trans ((u7.keep b5 (lt_of_get u06.wf g56)).trans g56))
  have hb59:=lt_of_get u09.wf g59
  have u10:=u09.alloc (.cells [.bool false,.int .i64 a,.int .i64 0,.int .i64 0,.nilslice,.bool true,.int .i64 b,.int .i64 k,.int .i64 n,z,.bool false,.int .i64 a,.int .i64 0,.int .i64 0,.nilslice] none 0 [])
  have g10:=Qam h9 (.cells [.bool false,.int .i64 a,.int .i64 0,.int .i64 0,.nilslice,.bool true,.int .i64 b,.int .i64 k,.int .i64 n,z,.bool false,.int .i64 a,.int .i64 0,.int .i64 0,.nilslice] none 0 [])
  have g50:=(Qad h9 (.cells [.bool false,.int .i64 a,.int .i64 0,.int .i64 0,.nilslice,.bool true,.int .i64 b,.int .i64 k,.int .i64 n,z,.bool false,.int .i64 a,.int .i64 0,.int .i64 0,.nilslice] none 0 []) hb59).trans g59
  generalize h9.alloc (.cells [.bool false,.int .i64 a,.int .i64 0,.int .i64 0,.nilslice,.bool true,.int .i64 b,.int .i64 k,.int .i64 n,z,.bool false,.int .i64 a,.int .i64 0,.int .i64 0,.nilslice] none 0 [])=h10 at u10 g10 g50 ⊢
  have st:=stE (v:=.slice h9.next 0 3 3) (vs:=[.slice h9.next 0 3 3]) (m:=1) (o:=1) g50 (by simp)
  have u11:=u10.put hb5N (lt_of_get u10.wf g50) (.cells (splice [cv,.nilslice] 1 [.slice h9.next 0 3 3]) (some 51) 0 [])
  have g51:=get_put h10 b5 (.cells (splice [cv,.nilslice] 1 [.slice h9.next 0 3 3]) (some 51) 0 [])
  have g11:=(Qab h10 (.cells (splice [cv,.nilslice] 1 [.slice h9.next 0 3 3]) (some 51) 0 []) (x:=h9.next) (Nat.ne_of_gt hb59)).trans g10
  have hsp:splice [cv,.nilslice] 1 [.slice h9.next 0 3 3]=[cv,.slice h9.next 0 3 3]:=rfl
  simp only [wS,wC,Nat.reduceAdd,AOp.makes,faP,Nat.zero_add,st]
  rw [hsp] at u11 g51 g11 ⊢
  generalize h10.put b5 (.cells [cv,.slice h9.next 0 3 3] (some 51) 0 [])=h11 at u11 g51 g11 ⊢
  have hacts:RepAs h11.next h11 [showA a,setA b (.mk k n l),showA a] (.slice h9.next 0 3 3) [[.bool false,.int .i64 a,.int .i64 0,.int .i64 0,.nilslice],[.bool true,.int .i64 b,.int .i64 k,.int .i64 n,z],[.bool false,.int .i64 a,.int .i64 0,.int .i64 0,.nilslice]]:=by
   have hT11:=(hT.low (u11.low hN)).mono (Nat.le_trans hN u11.next)
   have hnum:∀ m:Nat,RepA h11.next h11 (showA m) [.bool false,.int .i64 m,.int .i64 0,.int .i64 0,.nilslice]:=fun m=>⟨_,rfl,.mk 0 0 [] _ [] Sl.nil rfl fun i h1=>absurd h1 (by simp)⟩
   refine ⟨Sl.ofCells (.inr ⟨3,rfl⟩) (lt_of_get u11.wf g11) g11 rfl rfl (by simp) (by simp),rfl,fun i q1 q2=>?_,fun t ht=>?_,by simp⟩
   ·match i,q1 with
    | 0,_=>exact hnum a
    | 1,_=>exact ⟨_,rfl,hT11⟩
    | 2,_=>exact hnum a
   ·simp only [List.mem_cons,List.not_mem_nil,or_false] at ht
    rcases ht with rfl | rfl | rfl
    ·exact Qf5
    ·exact sT
    ·exact Qf5
  have hcells:=(hc.low (u11.low hN)).mono (Nat.le_trans hN u11.next)
  have l11:loadA h11 2 (.ptr b5 0)=some [cv,.slice h9.next 0 3 3]:=by rw [ldP g51];rfl
  simp only [wS,wC,Nat.reduceAdd,AOp.makes,l11]
  refine cCall 300 (H.E.m 8 (by simp) _) (Qex H.E (.refl u11.wf) (Nat.le_refl _) hcells hacts) fun v h12 hp=>?_
  obtain ⟨w,rfl,hw,u12⟩:=hp
  have g512:=(u12.keep b5 (lt_of_get u11.wf g51)).trans g51
  have l12:loadA h12 2 (.ptr b5 0)=some [cv,.slice h9.next 0 3 3]:=by rw [ldP g512];rfl
  have d00:decide ((0:Int) ≠ 0)=false:=rfl
  by_cases c3:Qak cells [showA a,setA b (.mk k n l),showA a]=0
  ·obtain ⟨D,eD,elen,shrt⟩:=Qgr c3
   obtain ⟨d0',d1',d2',eD2,ap1,ap2⟩:=apart c3
   simp only [eD] at hw eD2 ⊢
   subst eD2
   have s0:=shrt 0 (by simp)
   obtain ⟨p,w0,p1,p2,p3,p4,p5,p6,p7⟩:=hw.at 0 (by simp)
   obtain ⟨q,w2,q1,q2,q3,q4,q5,q6,q7⟩:=hw.at 2 (by simp)
   simp only [List.getElem_cons_zero,List.getElem_cons_succ,Int.natCast_zero,Int.cast_ofNat_Int] at s0 p1 p5 p6 p7 q1 q5 q6 q7
   have d33:decide ((([d0',d1',d2']:List Told).length:Int) ≠ 3)=false:=rfl
   simp only [wS,wC,Nat.reduceAdd,extT,List.getElem?_cons_zero,List.getElem?_cons_succ,Option.map_some,d00,hw.len,d33]
   refine Qfi [φ,φ,φ,φ,φ,φ,φ,φ,φ,φ,τ,τ,φ,φ,φ,φ,φ,φ,φ,φ,φ,φ,φ,φ,φ,φ,φ,φ,φ,φ,φ,φ,φ,φ,φ,φ,φ,φ,φ,φ,φ,φ,φ,φ,φ,φ,φ,φ,φ,φ,φ,φ,φ,φ,φ,φ,φ,φ,φ,φ,φ,φ,φ,φ,φ,φ,φ,φ,φ,φ,φ,τ,τ,τ,τ,τ,τ,τ,τ,τ,τ,τ,τ,τ,τ,τ,τ,τ,τ,τ,τ,τ] (fun mm f h'=>∃ i:Nat,mm=d0'.1.length - i∧i≤d0'.1.length∧h12=h'∧f 11=.int .i64 (i:Int)∧f 10=.bool (decide ((b:Int) ∈ d0'.1.take i))) (d0'.1.length - 0) ⟨0,rfl,Nat.zero_le _,rfl,rfl,by simp [at']⟩ ?_
   rintro mm f h' ⟨i,rfl,hi,rfl,f11,f10⟩ ih
   dsimp only [fv,Nat.reduceAdd]
   refine W_ok 300 _ _ _ ?_
   by_cases ci:i<d0'.1.length
   ·have hd:decide ((i:Int)<(d0'.1.length:Int))=true:=decide_eq_true (by omega)
    obtain ⟨r,r1,r2⟩:=p7 i ci
    have hup:IntKind.i64.wrap ((i:Int)+1)=((i+1:Nat):Int):=QaW (by omega)
    have et:d0'.1.take (i+1)=d0'.1.take i++[d0'.1[i]]:=by rw [List.take_succ,List.getElem?_eq_getElem ci];rfl
    by_cases cm:(b:Int) ∈ d0'.1.take i
    ·have e1:decide ((b:Int) ∈ d0'.1.take i)=true:=decide_eq_true cm
     rw [e1] at f10
     simp only [wS,wC,Nat.reduceAdd,f10,f11,p1,p2,p3,p6,hd,hup]
     refine ih _ _ _ (by omega) ⟨i+1,rfl,ci,rfl,rfl,?_⟩ rfl
     show AV.bool true=_
     rw [decide_eq_true (by rw [et];exact List.mem_append_left _ cm)]
    ·have e1:decide ((b:Int) ∈ d0'.1.take i)=false:=decide_eq_false cm
     rw [e1] at f10
     simp only [wS,wC,Nat.reduceAdd,f10,f11,p1,p2,p3,p6,hd,hup,r1,r2]
     refine ih _ _ _ (by omega) ⟨i+1,rfl,ci,rfl,rfl,?_⟩ rfl
     show AV.bool (decide (d0'.1[i]=(b:Int)))=_
     congr 1
     apply decide_eq_decide.2
     rw [et]
     simp only [List.mem_append,List.mem_singleton]
     exact ⟨fun e=>.inr e.symm,fun e=>(e.resolve_left cm).symm⟩
   ·have hd:decide ((i:Int)<(d0'.1.length:Int))=false:=decide_eq_false (by omega)
    have et:d0'.1.take i=d0'.1:=List.take_of_length_le (by omega)
    rw [et] at f10
    by_cases cm:(b:Int) ∈ d0'.1
    ·have e1:decide ((b:Int) ∈ d0'.1)=true:=decide_eq_true cm
     rw [e1] at f10
     obtain ⟨l2,el⟩:=ap2 cm
     have q0:0<d2'.1.length:=by rw [el];simp
     obtain ⟨r,r1,r2⟩:=q7 0 q0
     have e2:d2'.1[0]=(a:Int):=by simp only [el,List.getElem_cons_zero]
     rw [e2] at r2
     simp only [Int.natCast_zero,Int.cast_ofNat_Int] at r1
     have d4:decide ((0:Int)<(d2'.1.length:Int))=true:=decide_eq_true (by omega)
     have d5:decide ((a:Int)=(a:Int))=true:=decide_eq_true rfl
     simp only [wS,wC,Nat.reduceAdd,f10,f11,p1,p2,p3,p6,hd,Bool.not_true,q1,q2,q3,q6,d4,r1,r2,d5]
     refine cMemo 300 hA1 (hA2 _) ?_
     simp only [wS,wC,Nat.reduceAdd]
     exact R_top (x:=⟨6,[],.normal,none,[]⟩) ⟨rfl,rfl,rfl,rfl⟩ hF rfl
    ·have e1:decide ((b:Int) ∈ d0'.1)=false:=decide_eq_false cm
     rw [e1] at f10
     obtain ⟨x1,x2⟩:=ap1 cm
     have d4:decide ((d2'.1.length:Int)=0)=true:=by rw [x1];rfl
     have d5:decide (d2'.2=d0'.2)=true:=decide_eq_true x2
     simp only [wS,wC,Nat.reduceAdd,AOp.makes,f10,f11,p1,p2,p3,p4,p5,p6,hd,Bool.not_false,q1,q2,q3,q4,q5,q6,d4,d5]
     refine Qm7 rfl rfl rfl hA1 (hA2 _) rfl (W_ok 300 _ _ _ ?_)
     simp only [wS,wC,Nat.reduceAdd,AOp.makes]
     exact R_top (x:=⟨6,[],.normal,none,[]⟩) ⟨rfl,rfl,rfl,rfl⟩ hF rfl
  ·have d3:decide (Qak cells [showA a,setA b (.mk k n l),showA a] ≠ 0)=true:=decide_eq_true c3
   have e1:QaC cells [showA a,setA b (.mk k n l),showA a]=([],Qak cells [showA a,setA b (.mk k n l),showA a]):=if_neg c3
   simp only [e1] at hw ⊢
   simp only [wS,wC,Nat.reduceAdd,extT,List.getElem?_cons_zero,List.getElem?_cons_succ,Option.map_some,d3,l12]
   refine cCall 300 (H.R.m 18 (by simp) _) (QdE H.R (.refl u12.wf) u12.next (hcells.low (u12.low (Nat.le_refl _))) (hacts.low (u12.low (Nat.le_refl _)))) fun v h13 hp=>?_
   obtain ⟨rfl,u13⟩:=hp
   have dz:decide ((([]:List Told).length:Int)=0)=true:=rfl
   simp only [wS,wC,Nat.reduceAdd,d3,hw.len,dz]
   refine cMemo 300 hA1 (hA2 _) ?_
   simp only [wS,wC,Nat.reduceAdd]
   exact R_top (x:=⟨6,[],.normal,none,[]⟩) ⟨rfl,rfl,rfl,rfl⟩ hF rfl
 ·have d1:decide (Qak cells [] ≠ 0)=true:=decide_eq_true c0
  simp only [wS,wC,Nat.reduceAdd,d1,l54]
  refine cCall 300 (H.E.m 17 (by simp) _) (QcO H.E.B (.refl u04.wf) N4 (hc.low L4) Qnu) fun v h5 hp=>?_
  obtain ⟨rfl,u5⟩:=hp
  simp only [wS,wC,Nat.reduceAdd,d1]
  refine cMemo 300 hA1 (hA2 _) ?_
  simp only [wS,wC,Nat.reduceAdd]
  exact R_top (x:=⟨6,[],.normal,none,[]⟩) ⟨rfl,rfl,rfl,rfl⟩ hF rfl
end
end Go.Ab.L26

/-
  A part of a proof: YH26.
-/
import Derived.Test.YthiiaehlmfbeoaaGreatDoorXDlNetoXDr
import Derived.Test.YthiiaehlmfbeoaaGreatDoorXNtoYGn26
set_option linter.all false
/-! Chapter 26: the law CellsNeeded. -/
namespace Go.Ab.L26
open Go Go.Ab
theorem QjC {cs:List CT} {as:List Act} (h:Qak cs as=0):∃ D,QaC cs as=(D,0)∧D.length=as.length∧(∀ i (h1:i<as.length) (h2:i<D.length),Needed as[i] D[i]) ∧
  (∀ i (h1:i<D.length),D[i].1.length<1000000000)∧(∀ i (h1:i+1<as.length) (h2:i+1<D.length),as[i].set=false→as[i+1].set=false→as[i+1].cell=as[i].cell→D[i+1].1=[]∧D[i+1].2=(D[i]'(by omega)).2):=by
 have e:QaC cs as=(runS cs.length (Qaq cs) s0 as,0):=if_pos h
 have n:=fun i h1=>QmG h i h1
 have a:=fun i h1=>Qoy h i h1
 simp only [e] at n a
 obtain ⟨z1,z2,z3,okF,okA⟩:=QbP h
 exact ⟨_,e,QeS _ _ _,n,fun i h1=>Qga _ _ _ okF okA i h1,a⟩
section
variable {F:FuncId→Option AFun} {M:Memo}
set_option maxRecDepth 100000 in
set_option maxHeartbeats 4000000 in
theorem law5_top (H:FnL F M) (hF:F 5=some fn5) {cells:List CT} {acts:List Act} {N:Nat} {h:AH} {cv av:AV} {crows arows:List (List AV)} (u:Up h h) (hN:N≤h.next) (hc:RepCs N h cells cv crows) (ha:RepAs N h acts av arows) {k:Nat} (hk:k<256) :
  Top F M 5 [.agg [cv,av],.int .u8 (k:Int)] h (.bool true):=by
 obtain ⟨cA,hA1,hA2⟩:=H.A
 refine Top.intro hF (W_ok 300 _ _ _ ?_)
 simp only [fn5,b5,Nat.reduceAdd,Nat.reduceSub,wS,wC]
 refine wBoxA (Wk.start u) fun b1 h1 w1=>?_
 have g1:=w1.get 0 rfl
 have L1:=w1.up.low hN
 have l1:loadA h1 2 (.ptr b1 0)=some [cv,av]:=by rw [ldP g1];rfl
 have N1:=Nat.le_trans hN w1.up.next
 simp only [wS,wC,Nat.reduceAdd,l1]
 refine cCall 300 (H.E.m 17 (by simp) _) (QcO H.E.B w1.self N1 (hc.low L1) (ha.low L1)) fun v h2 hp=>?_
 obtain ⟨rfl,u2⟩:=hp
 have g2:=(u2.keep b1 (lt_of_get w1.up.wf g1)).trans g1
 have u12:=w1.up.trans u2
 have L2:=u12.low hN
 have N2:=Nat.le_trans hN u12.next
 have l2:loadA h2 2 (.ptr b1 0)=some [cv,av]:=by rw [ldP g2];rfl
 by_cases c0:Qak cells acts=0
 ·have d0:decide (Qak cells acts ≠ 0)=false:=decide_eq_false (fun e=>e c0)
  simp only [wS,wC,Nat.reduceAdd,d0,l2]
  refine cCall 14 (H.R.m 18 (by simp) _) (QdE H.R (.refl u2.wf) N2 (hc.low L2) (ha.low L2)) fun v h3 hp=>?_
  obtain ⟨rfl,u3⟩:=hp
  have g3:=(u3.keep b1 (lt_of_get u2.wf g2)).trans g2
  have u13:=u12.trans u3
  have L3:=u13.low hN
  have N3:=Nat.le_trans hN u13.next
  have l3:loadA h3 1 (.ptr b1 1)=some [av]:=by rw [ldP g3];rfl
  have u4:=u13.alloc (.cells [] none 0 [])
  have ge4:GE h3.next (h3.alloc (.cells [] none 0 [])) 82 5 (.slice h3.next 0 0 0) []:=GE.start
  have g4:=(Qad h3 (.cells [] none 0 []) (lt_of_get u3.wf g3)).trans g3
  have n4:h3.next≤(h3.alloc (.cells [] none 0 [])).next:=Nat.le_succ _
  simp only [wS,wC,Nat.reduceAdd,d0,faP,Nat.zero_add,List.map_nil,bs0]
  generalize h3.alloc (.cells [] none 0 [])=h4 at u4 ge4 g4 n4 ⊢
  have l4:loadA h4 1 (.ptr b1 1)=some [av]:=by rw [ldP g4];rfl
  have ha4:=ha.low (u4.low hN)
  obtain ⟨v5,h5,e5,A5⟩:=Qff (bytes:=56) ge4 u4.wf n4 ha4.sl.lenA ha4.sl.els ha4.rows (by decide) (by decide) (by decide) (by simp) (by have:=(QbP c0).2.2.1;have:=ha.len;omega)
  rw [List.nil_append] at A5
  have hb1:=lt_of_get u3.wf g3
  have g5:=(A5.low b1 (by omega) hb1).trans g4
  have st:=stE (m:=1) (o:=1) g5 (by simp) A5.ge.one.2.1 A5.ge.one.2.2 rfl (by simp [A5.ge.one.1])
  simp only [wS,wC,Nat.reduceAdd,l4,e5,faP,Nat.zero_add,st]
  have u5:Up h h5:=A5.up u4 u13.next
  have u6:=u5.put (w1.objs.at 0 rfl).2.2 (lt_of_get u5.wf g5) (.cells (splice [cv,av] 1 [v5]) (some 51) 0 [])
  have g6:=get_put h5 b1 (.cells (splice [cv,av] 1 [v5]) (some 51) 0 [])
  have hs6:splice [cv,av] 1 [v5]=[cv,v5]:=rfl
  have ge6:=A5.ge.keep (h':=h5.put b1 (.cells (splice [cv,av] 1 [v5]) (some 51) 0 [])) (Nat.le_refl _) fun c hc=>Qab _ _ (by have:=(A5.ge.inB hc).1;omega)
  have n36:h3.next≤(h5.put b1 (.cells (splice [cv,av] 1 [v5]) (some 51) 0 [])).next:=Nat.le_trans n4 A5.next
  rw [hs6] at u6 g6 ge6 n36 ⊢
  generalize h5.put b1 (.cells [cv,v5] (some 51) 0 [])=h6 at u6 g6 ge6 n36 ⊢
  have sl6:=ge6.sl (Nat.le_refl _)
  have hz:=QbP c0
  have hlr:=ha.len
  refine R_joinF [φ,φ,φ,φ,φ,τ,φ,φ,φ,φ,φ,φ,φ,φ,φ,φ,φ,φ,φ,φ,φ,φ,φ,φ,φ,φ,φ,φ,φ,φ,φ,τ,τ,τ,τ,τ,τ,τ,τ,τ,τ,τ,τ,τ,τ,τ,τ,τ,τ,τ,τ] (fun f h9=>∃ av2 acts2 rows2,h9.get b1=some (.cells [cv,av2] (some 51) 0 [])∧Up h h9∧RepAs h9.next h9 acts2 av2 rows2∧Qak cells acts2=0) ?_ ?_
  ·rintro f h9 ⟨av2,acts2,rows2,g9,u9,ha9,c9⟩
   dsimp only [fv,Nat.reduceAdd]
   refine W_ok 300 _ _ _ ?_
   have l9:loadA h9 2 (.ptr b1 0)=some [cv,av2]:=by rw [ldP g9];rfl
   simp only [wS,wC,Nat.reduceAdd,l9]
   refine cCall 300 (H.E.m 8 (by simp) _) (Qex H.E (.refl u9.wf) (Nat.le_refl _) ((hc.low (u9.low hN)).mono (Nat.le_trans hN u9.next)) ha9) fun v h10 hp=>?_
   obtain ⟨w,rfl,hw,u10⟩:=hp
   have ha10:=ha9.low (u10.low (Nat.le_refl _))
   have g10:=(u10.keep b1 (lt_of_get u9.wf g9)).trans g9
   have l10:loadA h10 1 (.ptr b1 1)=some [av2]:=by rw [ldP g10];rfl
   obtain ⟨D,eD,elen,need,shrt,again⟩:=QjC c9
   have h10a:=(QbP c9).2.2.1
   have h10c:=(QbP c9).2.2.2.2
   simp only [eD] at hw ⊢
   have d0:decide ((0:Int) ≠ 0)=false:=rfl
   have d2:decide ((D.length:Int) ≠ (acts2.length:Int))=false:=decide_eq_false (fun e=>e (by omega))
   simp only [wS,wC,Nat.reduceAdd,extT,List.getElem?_cons_zero,List.getElem?_cons_succ,Option.map_some,d0,hw.len,faP,Nat.zero_add,l10,ha10.lenS,d2]
   refine Qfi [φ,φ,φ,φ,φ,φ,φ,φ,τ,τ,τ,τ,φ,φ,φ,φ,φ,φ,φ,φ,φ,φ,φ,φ,φ,φ,φ,φ,φ,φ,φ,φ,φ,φ,φ,φ,φ,φ,φ,φ,φ,φ,φ,φ,φ,φ,φ,φ,φ,φ,φ,φ,φ,φ,φ,φ,φ,φ,φ,φ,φ,φ,φ,φ,φ,φ,τ,τ,τ,τ,τ,τ,τ,τ,τ,τ,τ,τ,τ,τ,τ,τ,τ,τ,τ,τ,τ,τ,τ,τ,τ,τ,τ,τ,τ,τ,τ,τ,τ,τ,τ,τ,τ,τ,τ,τ,τ,τ,τ,τ,τ,τ,τ,τ,τ,τ,τ,τ,τ,τ,τ,τ,τ,τ,τ,τ,τ,τ,τ,τ,τ,τ,τ,τ,τ,τ,τ,τ,τ,τ,τ,τ,τ,τ,τ,τ,τ,τ,τ,τ,τ,τ,τ,τ,τ,τ,τ,τ,τ,τ,τ,τ,τ,τ,τ,τ,τ,τ,τ,τ,τ,τ,τ,τ,τ,τ,τ,τ,τ,τ,τ,τ] (fun mm f h'=>∃ i:Nat,mm=D.length - i∧i≤D.length∧h10=h'∧f 8=.int .i64 (i:Int)) (D.length - 0) ⟨0,rfl,Nat.zero_le _,rfl,rfl⟩ ?_
   rintro mm f2 h' ⟨i,rfl,hi,rfl,f8⟩ ih
   dsimp only [fv,Nat.reduceAdd]
   refine W_ok 300 _ _ _ ?_
   by_cases ci:i<D.length
   ·have hd:decide ((i:Int)<(D.length:Int))=true:=decide_eq_true (by omega)
    have cia:i<acts2.length:=by omega
    obtain ⟨p,w1,p1,p2,p3,p4,p5,p6,p7⟩:=hw.at i ci
    obtain ⟨q,q1,q2,q3,q4,q5,_⟩:=ha10.at i cia
    have nd:=need i cia ci
    have hdl:=shrt i ci
    simp only [wS,wC,Nat.reduceAdd,f8,hw.len,hd]
    refine Qfi [φ,φ,φ,φ,φ,φ,φ,φ,φ,τ,τ,τ,φ,φ,φ,φ,φ,φ,φ,φ,φ,φ,φ,φ,φ,φ,φ,φ,φ,φ,φ,φ,φ,φ,φ,φ,φ,φ,φ,φ,φ,φ,φ,φ,φ,φ,φ,φ,φ,φ,φ,φ,φ,φ,φ,φ,φ,φ,φ,φ,φ,φ,φ,φ,φ,φ,φ,φ,φ,φ,φ,φ,τ,τ,τ,τ,τ,τ,τ,τ,τ,τ,τ,τ,τ,τ,τ,τ,τ,τ,τ,τ,τ,τ,τ,τ,τ,τ,τ,τ,τ,τ,τ,τ,τ,τ,τ,τ,τ,τ,τ,τ,τ,τ,τ,τ,τ,τ,τ,τ,τ,τ] (fun mm f h'=>∃ j:Nat,mm=D[i].1.length - j∧j≤D[i].1.length∧h10=h'∧f 9=.int .i64 (j:Int)) (D[i].1.length - 0) ⟨0,rfl,Nat.zero_le _,rfl,rfl⟩ ?_
    rintro mm f3 h' ⟨j,rfl,hj,rfl,f9⟩ ih2
    dsimp only [fv,Nat.reduceAdd]
    refine W_ok 300 _ _ _ ?_
    by_cases cj:j<D[i].1.length
    ·have hd2:decide ((j:Int)<(D[i].1.length:Int))=true:=decide_eq_true (by omega)
     have es:acts2[i].set=false:=by
      cases e:acts2[i].set with
      | false=>rfl
      | true=>rw [nd.1 e] at cj;simp at cj
     obtain ⟨r,r1,r2⟩:=p7 j cj
     obtain ⟨n1,n2⟩:=nd.2 es
     obtain ⟨m1,m2⟩:=n2 _ (List.getElem_mem cj)
     simp only [wS,wC,Nat.reduceAdd,f8,f9,p1,p2,p3,p6,hd2,r1,r2,faP,Nat.zero_add,l10,q1,q2,q3,es,q4,q5]
     refine cCall 300 (H.R.m 20 (by simp) _) (Ql0 H.R.f20 _ _ _ _) fun v h' hp=>?_
     obtain ⟨rfl,eh⟩:=hp
     rw [eh]
     have d3:decide ((0:Int)≤D[i].1[j]∧D[i].1[j]≤acts2[i].cell)=true:=decide_eq_true ⟨m1,m2⟩
     simp only [wS,wC,Nat.reduceAdd,d3,Bool.not_true]
     refine Qfi [φ,φ,φ,φ,φ,φ,φ,φ,φ,φ,φ,τ,φ,φ,φ,φ,φ,φ,φ,φ,φ,φ,φ,φ,φ,φ,φ,φ,φ,φ,φ,φ,φ,φ,φ,φ,φ,φ,φ,φ,φ,φ,φ,φ,φ,φ,φ,φ,φ,φ,φ,φ,φ,φ,φ,φ,φ,φ,φ,φ,φ,φ,φ,φ,φ,φ,φ,φ,φ,φ,φ,φ,φ,φ,φ,φ,φ,φ,φ,φ,φ,φ,φ,φ,φ,φ,φ,φ,φ,φ,φ,φ,φ,φ,φ,φ,φ,φ,φ,φ,φ,φ,φ,φ,φ,φ,φ,τ,τ,τ,τ,τ,τ,τ,τ,τ,τ,τ,τ,τ,τ,τ] (fun mm f h'=>∃ z:Nat,mm=j - z∧z≤j∧h10=h'∧f 11=.int .i64 (z:Int)) (j - 0) ⟨0,rfl,Nat.zero_le _,rfl,rfl⟩ ?_
     rintro mm f4 h' ⟨z,rfl,hz4,rfl,f11⟩ ih3
     dsimp only [fv,Nat.reduceAdd]
     refine W_ok 300 _ _ _ ?_
     by_cases cz:z<j
     ·have hd3:decide ((z:Int)<(j:Int))=true:=decide_eq_true (by omega)
      obtain ⟨y,y1,y2⟩:=p7 z (by omega)
      have ne:decide (D[i].1[z]=D[i].1[j])=false:=decide_eq_false fun e=>by
       have:=(List.getElem_inj n1).1 e
       omega
      have hup:IntKind.i64.wrap ((z:Int)+1)=((z+1:Nat):Int):=QaW (by omega)
      simp only [wS,wC,Nat.reduceAdd,f8,f9,f11,p1,p2,p3,hd3,y1,y2,ne,hup]
      exact ih3 _ _ _ (by omega) ⟨z+1,rfl,cz,rfl,rfl⟩ rfl
     ·have hd3:decide ((z:Int)<(j:Int))=false:=decide_eq_false (by omega)
      have hup:IntKind.i64.wrap ((j:Int)+1)=((j+1:Nat):Int):=QaW (by omega)
      simp only [wS,wC,Nat.reduceAdd,f8,f9,f11,hd3,hup]
      exact ih2 _ _ _ (by omega) ⟨j+1,rfl,cj,rfl,rfl⟩ rfl
    ·have hd2:decide ((j:Int)<(D[i].1.length:Int))=false:=decide_eq_false (by omega)
     have hup:IntKind.i64.wrap ((i:Int)+1)=((i+1:Nat):Int):=QaW (by omega)
     by_cases i0:i=0
     ·have hd3:decide ((0:Int)<(i:Int))=false:=decide_eq_false (by omega)
      simp only [wS,wC,Nat.reduceAdd,AOp.makes,f8,f9,p1,p2,p3,p6,hd2,hd3,hup]
      exact ih _ _ _ (by omega) ⟨i+1,rfl,ci,rfl,rfl⟩ rfl
     have hd3:decide ((0:Int)<(i:Int))=true:=decide_eq_true (by omega)
     cases es:acts2[i].set with
     | true =>
      simp only [wS,wC,Nat.reduceAdd,AOp.makes,f8,f9,p1,p2,p3,p6,hd2,hd3,hup,faP,Nat.zero_add,l10,q1,q2,q3,es,Bool.not_true]
      exact ih _ _ _ (by omega) ⟨i+1,rfl,ci,rfl,rfl⟩ rfl
     | false =>
     have hdn:IntKind.i64.wrap ((i:Int) - 1)=((i - 1:Nat):Int):=wrap_dn (by omega) (by omega)
     obtain ⟨pp,w0,pp1,pp2,pp3,pp4,pp5,pp6,pp7⟩:=hw.at (i - 1) (by omega)
     obtain ⟨qq,qq1,qq2,qq3,qq4,qq5,_⟩:=ha10.at (i - 1) (by omega)
     cases es2:acts2[i - 1].set with
     | true =>
      simp only [wS,wC,Nat.reduceAdd,AOp.makes,f8,f9,p1,p2,p3,p6,hd2,hd3,hup,hdn,faP,Nat.zero_add,l10,q1,q2,q3,es,Bool.not_true,Bool.not_false,qq1,qq2,qq3,es2]
      exact ih _ _ _ (by omega) ⟨i+1,rfl,ci,rfl,rfl⟩ rfl
     | false =>
     by_cases ec:acts2[i].cell=acts2[i - 1].cell
     ·obtain ⟨x1,x2⟩:=again (i - 1) (by omega) (by omega) es2 (by simpa [show i - 1+1=i by omega] using es) (by simpa [show i - 1+1=i by omega] using ec)
      simp only [show i - 1+1=i by omega] at x1 x2
      have d5:decide (acts2[i].cell=acts2[i - 1].cell)=true:=decide_eq_true ec
      have d6:decide ((0:Int)<((D[i].1.length:Nat):Int))=false:=decide_eq_false (by rw [x1];simp)
      have d7:decide (D[i].2 ≠ D[i - 1].2)=false:=decide_eq_false (fun e=>e x2)
      simp only [wS,wC,Nat.reduceAdd,AOp.makes,f8,f9,p1,p2,p3,p4,p5,p6,hd2,hd3,hup,hdn,faP,Nat.zero_add,l10,q1,q2,q3,q4,q5,es,Bool.not_true,Bool.not_false,qq1,qq2,qq3,qq4,qq5,es2,d5,d6,d7,pp1,pp4,pp5]
      exact ih _ _ _ (by omega) ⟨i+1,rfl,ci,rfl,rfl⟩ rfl
     ·have d5:decide (acts2[i].cell=acts2[i - 1].cell)=false:=decide_eq_false ec
      simp only [wS,wC,Nat.reduceAdd,AOp.makes,f8,f9,p1,p2,p3,p6,hd2,hd3,hup,hdn,faP,Nat.zero_add,l10,q1,q2,q3,q4,q5,es,Bool.not_true,Bool.not_false,qq1,qq2,qq3,qq4,qq5,es2,d5]
      exact ih _ _ _ (by omega) ⟨i+1,rfl,ci,rfl,rfl⟩ rfl
   ·have hd:decide ((i:Int)<(D.length:Int))=false:=decide_eq_false (by omega)
    simp only [wS,wC,Nat.reduceAdd,f8,hw.len,hd]
    refine cMemo 300 hA1 (hA2 _) ?_
    simp only [wS,wC,Nat.reduceAdd]
    exact R_top (x:=⟨5,[],.normal,none,[]⟩) ⟨rfl,rfl,rfl,rfl⟩ hF rfl
  ·intro next
   refine W_ok 10 _ _ _ ?_
   have l6:loadA h6 1 (.ptr b1 1)=some [v5]:=by rw [ldP g6];rfl
   have hw2:IntKind.i64.wrap ((arows.length:Int)+2)=((arows.length+2:Nat):Int):=by rw [QcR (by omega) (by omega)];omega
   simp only [wS,wC,Nat.reduceAdd,faP,Nat.zero_add,l6,sl6.len,hw2]
   refine wcD (fun c1=>?_) (fun c1=>?_)
   ·refine W_ok 300 _ _ _ ?_
    have lc0:loadA h6 1 (.ptr b1 0)=some [cv]:=by rw [ldP g6];rfl
    have hc6:=hc.low (u6.low hN)
    have lcv:lenS cv=some cells.length:=by rw [hc.len];exact hc6.sl.len
    have hwk:IntKind.i64.wrap (k:Int)=k:=QcR (by omega) (by omega)
    have hcn:(cells.length:Int) ≠ 0:=by have:=hz.1;omega
    obtain ⟨n,hn,hn2⟩:∃ n:Nat,(k:Int).tmod (cells.length:Int)=(n:Int)∧n<cells.length:=⟨k % cells.length,by rw [Int.ofNat_tmod],Nat.mod_lt _ (by have:=hz.1;omega)⟩
    simp only [wS,wC,Nat.reduceAdd,AOp.makes,eCv,cvI,hwk,faP,Nat.zero_add,lc0,lcv,bRem hcn,hn,l6]
    refine cMain 300 (H.m 19 (by simp) _) (QfJ H.f19 n (.refl u6.wf)) fun v h7 hp=>?_
    obtain ⟨rfl,u7⟩:=hp
    have g7:=(u7.keep b1 (lt_of_get u6.wf g6)).trans g6
    refine ⟨by simp only [List.all_cons,List.all_nil,Bool.and_true];exact Qbk rfl rfl rfl rfl (Qnd rfl g7 rfl) rfl,?_⟩
    simp only [wS,wC,Nat.reduceAdd,AOp.makes]
    refine cMain 12 (H.m 19 (by simp) _) (QfJ H.f19 n (.refl u7.wf)) fun v h8 hp=>?_
    obtain ⟨rfl,u8⟩:=hp
    have g8:=(u8.keep b1 (lt_of_get u7.wf g7)).trans g7
    refine ⟨by simp only [List.all_cons,List.all_nil,Bool.and_true];exact Qbk rfl rfl rfl rfl (Qnd rfl g8 rfl) rfl,?_⟩
    have hbs:∀ h:AH,bsF h 2 [.bool false,.int .i64 0,.int .i64 0,.int .i64 0,.nilslice,.bool false,.int .i64 0,.int .i64 0,.int .i64 0,.nilslice] [(0,5,.agg [.bool false,.int .i64 n,.int .i64 0,.int .i64 0,.nilslice]),(5,5,.agg [.bool false,.int .i64 n,.int .i64 0,.int .i64 0,.nilslice])]=some (.slice h.next 0 2 2,h.alloc (.cells [.bool false,.int .i64 n,.int .i64 0,.int .i64 0,.nilslice,.bool false,.int .i64 n,.int .i64 0,.int .i64 0,.nilslice] none 0 [])):=fun _=>rfl
    simp only [wS,wC,Nat.reduceAdd,AOp.makes,List.map_cons,List.map_nil,hbs]
    rw [wPDm rfl]
    have u68:=u7.trans u8
    have u69:=u68.alloc (.cells [.bool false,.int .i64 n,.int .i64 0,.int .i64 0,.nilslice,.bool false,.int .i64 n,.int .i64 0,.int .i64 0,.nilslice] none 0 [])
    have g9:=Qam h8 (.cells [.bool false,.int .i64 n,.int .i64 0,.int .i64 0,.nilslice,.bool false,.int .i64 n,.int .i64 0,.int .i64 0,.nilslice] none 0 [])
    have gb9:=(Qad h8 (.cells [.bool false,.int .i64 n,.int .i64 0,.int .i64 0,.nilslice,.bool false,.int .i64 n,.int .i64 0,.int .i64 0,.nilslice] none 0 []) (lt_of_get u8.wf g8)).trans g8
    generalize h8.alloc (.cells [.bool false,.int .i64 n,.int .i64 0,.int .i64 0,.nilslice,.bool false,.int .i64 n,.int .i64 0,.int .i64 0,.nilslice] none 0 [])=h9 at u69 g9 gb9 ⊢
    have hx:Qar h9 5 2 (.slice h8.next 0 2 2)=some [.bool false,.int .i64 n,.int .i64 0,.int .i64 0,.nilslice,.bool false,.int .i64 n,.int .i64 0,.int .i64 0,.nilslice]:=by
     simp only [Qar,AH.read,AH.cellsAt,g9]
     rfl
    obtain ⟨v10,h10,e10,A10⟩:=Qff (bytes:=56) (rs:=[[.bool false,.int .i64 n,.int .i64 0,.int .i64 0,.nilslice],[.bool false,.int .i64 n,.int .i64 0,.int .i64 0,.nilslice]]) (ge6.up u69) u69.wf (Nat.le_trans n36 u69.next) (x:=.slice h8.next 0 2 2) rfl hx (by simp [AV.one]) (by decide) (by decide) (by decide) (by have:=hz.2.2.1;omega) (by simp)
    have hb3:=lt_of_get u3.wf g3
    have g10:=(A10.low b1 (lt_of_get u69.wf gb9) hb3).trans gb9
    have st10:=stE (m:=1) (o:=1) g10 (by simp) A10.ge.one.2.1 A10.ge.one.2.2 rfl (by simp [A10.ge.one.1])
    have u10:Up h h10:=A10.up (u6.trans u69) u13.next
    have u11:=u10.put (w1.objs.at 0 rfl).2.2 (lt_of_get u10.wf g10) (.cells (splice [cv,v5] 1 [v10]) (some 51) 0 [])
    have g11:=get_put h10 b1 (.cells (splice [cv,v5] 1 [v10]) (some 51) 0 [])
    have hs11:splice [cv,v5] 1 [v10]=[cv,v10]:=rfl
    have ge11:=A10.ge.keep (h':=h10.put b1 (.cells (splice [cv,v5] 1 [v10]) (some 51) 0 [])) (Nat.le_refl _) fun c hc=>Qab _ _ (by have:=(A10.ge.inB hc).1;omega)
    simp only [wS,wC,Nat.reduceAdd,AOp.makes,e10,st10]
    rw [hs11] at u11 g11 ge11 ⊢
    refine next _ _ ⟨v10,acts++[showA n,showA n],_,g11,u11,⟨ge11.sl (Nat.le_refl _),by simp [ha.len],fun i q1 q2=>?_,fun t ht=>?_,by simp;omega⟩,?_⟩ rfl
    ·by_cases hi:i<arows.length
     ·rw [List.getElem_append_left hi,List.getElem_append_left (by omega)]
      exact ((ha.rep i (by omega) hi).low (u11.low hN)).mono (Nat.le_trans hN u11.next)
     ·have hi':i=arows.length ∨ i=arows.length+1:=by simp at q2;omega
      have hrep:RepA (h10.put b1 (.cells [cv,v10] (some 51) 0 [])).next (h10.put b1 (.cells [cv,v10] (some 51) 0 [])) (showA n) [.bool false,.int .i64 n,.int .i64 0,.int .i64 0,.nilslice]:=⟨_,rfl,.mk 0 0 [] _ [] Sl.nil rfl fun i h1=>absurd h1 (by simp)⟩
      rcases hi' with rfl | rfl
      ·have e1:(acts++[showA n,showA n])[arows.length]=showA n:=by rw [List.getElem_append_right (by omega)];simp [hlr]
       have e2:(arows++[[.bool false,.int .i64 n,.int .i64 0,.int .i64 0,.nilslice],[.bool false,.int .i64 n,.int .i64 0,.int .i64 0,.nilslice]])[arows.length]=[.bool false,.int .i64 n,.int .i64 0,.int .i64 0,.nilslice]:=by rw [List.getElem_append_right (by omega)];simp
       rw [e1,e2];exact hrep
      ·have e1:(acts++[showA n,showA n])[arows.length+1]=showA n:=by rw [List.getElem_append_right (by omega)];simp [hlr]
       have e2:(arows++[[.bool false,.int .i64 n,.int .i64 0,.int .i64 0,.nilslice],[.bool false,.int .i64 n,.int .i64 0,.int .i64 0,.nilslice]])[arows.length+1]=[.bool false,.int .i64 n,.int .i64 0,.int .i64 0,.nilslice]:=by rw [List.getElem_append_right (by omega)];simp
       rw [e1,e2];exact hrep
    ·rcases List.mem_append.1 ht with h1 | h1
     ·exact ha.short t h1
     ·have:t=showA n:=by simpa using h1
      rw [this]
      exact Qf5
    ·refine Qkh c0 (by simp;omega) fun b hb=>?_
     rcases List.mem_append.1 hb with h1 | h1
     ·exact .inl h1
     ·have:b=showA n:=by simpa using h1
      rw [this]
      exact .inr (showA_ok (by omega) (by omega))
   ·simp only [wS,wC,Nat.reduceAdd]
    refine next _ h6 ⟨v5,acts,arows,g6,u6,?_,c0⟩ rfl
    exact ⟨sl6,ha.len,fun i h1 h2=>((ha.rep i h1 h2).low (u6.low hN)).mono (Nat.le_trans hN u6.next),ha.short,ha.lt⟩
 ·have d1:decide (Qak cells acts ≠ 0)=true:=decide_eq_true c0
  simp only [wS,wC,Nat.reduceAdd,d1,l2]
  refine cCall 300 (H.E.m 17 (by simp) _) (QcO H.E.B (.refl u2.wf) N2 (hc.low L2) (ha.low L2)) fun v h3 hp=>?_
  obtain ⟨rfl,u3⟩:=hp
  simp only [wS,wC,Nat.reduceAdd,d1]
  refine cMemo 300 hA1 (hA2 _) ?_
  simp only [wS,wC,Nat.reduceAdd]
  exact R_top (x:=⟨5,[],.normal,none,[]⟩) ⟨rfl,rfl,rfl,rfl⟩ hF rfl
end
end Go.Ab.L26

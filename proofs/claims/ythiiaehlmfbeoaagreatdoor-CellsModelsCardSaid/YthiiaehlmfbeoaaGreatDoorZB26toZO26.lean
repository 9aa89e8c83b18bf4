/- A part of a proof. -/
import Derived.Test.YthiiaehlmfbeoaaGreatDoorZA26
import Derived.Test.YthiiaehlmfbeoaaGreatDoorXNtoXFr
import Derived.Test.YthiiaehlmfbeoaaGreatDoorXDlMotoXDm
import Derived.Test.YthiiaehlmfbeoaaGreatDoorXS26toYE26
set_option linter.all false
set_option maxHeartbeats 4000000
set_option maxRecDepth 100000
namespace Go.Ab.L26
open Go Go.Ab
section
variable{F:FuncId→Option AFun}{M:Memo}
theorem Qjq(H:FnR F M){T:CT}(hsT:Short T){cell:Int}{N:Nat}{h:AH}{row:List AV}(u:Up h h)(hN:N≤h.next)(hr:Rep N h T row) :
  Ctr F M 39 [.agg row,.int .i64 cell] h (fun v h'=>v=.int .i64 (Qat T cell)∧Up h h') (fun _ _=>False):=by
 refine Ctr.intro H.f39 fun caller cs G hk _=>W_ok 300 _ _ _ ?_
 obtain⟨x,y,z,rfl,ho⟩:=rep3 hr;simp only[fn39,b39,Nat.reduceAdd,Nat.reduceSub,wS,wC];refine wBoxA (Wk.start u) fun b1 h1 w1=>?_
 have g1:=w1.get 0 rfl;have l1:loadA h1 3 (.ptr b1 0)=some [x,y,z]:=by rw[ldP g1];rfl
 simp only[wS,wC,Nat.reduceAdd,l1];have N1:=Nat.le_trans hN w1.up.next
 have L1:=w1.up.low hN;refine cCall 300 (H.m 78 (by simp) _) (QlV H _ T (Nat.le_refl _) hsT 12 (Nat.le_refl _) w1.self N1 (hr.low L1)) fun v h2 hp=>?_
 obtain⟨rfl,u2⟩:=hp;have g2:=(u2.keep b1 (lt_of_get w1.up.wf g1)).trans g1;have l2:loadA h2 3 (.ptr b1 0)=some [x,y,z]:=by rw[ldP g2];rfl
 by_cases c:sizeC T≤12
 ·have e:Qat T cell=Qa3 cell T:=if_pos c;have hd:decide (leftD T 12<0)=false:=decide_eq_false (by unfold leftD;rw[if_pos c];omega);simp only[wS,wC,Nat.reduceAdd,hd,l2];have u12:=w1.up.trans u2;refine cCall 300 (H.m 79 (by simp) _) (Qjz H cell _ T (Nat.le_refl _) hsT (.refl u2.wf) (Nat.le_trans hN u12.next) (hr.low (u12.low hN))) fun v h3 hp=>?_
  obtain⟨rfl,u3⟩:=hp;simp only[wS,wC,Nat.reduceAdd];exact Qag ⟨rfl,rfl,rfl,rfl⟩ H.f39 rfl (hk _ _ ⟨by rw[e];rfl,u12.trans u3⟩)
 ·have e:Qat T cell=3:=if_neg c;have hd:decide (leftD T 12<0)=true:=decide_eq_true (by unfold leftD;rw[if_neg c];omega);simp only[wS,wC,Nat.reduceAdd,hd];exact Qag ⟨rfl,rfl,rfl,rfl⟩ H.f39 rfl (hk _ _ ⟨by rw[e];rfl,w1.up.trans u2⟩)
theorem ract_ctr(H:FnR F M){a:Act}(hsT:Short a.term){nc:Nat}(hnc:nc<100){N:Nat}{h:AH}{row:List AV}(u:Up h h)(hN:N≤h.next)(hr:RepA N h a row) :
  Ctr F M 40 [.agg row,.int .i64 (nc:Int)] h (fun v h'=>v=.int .i64 (actD nc a)∧Up h h') (fun _ _=>False):=by
 refine Ctr.intro H.f40 fun caller cs G hk _=>W_ok 300 _ _ _ ?_
 obtain⟨x,y,z,rfl,ho,hT⟩:=repA5 hr;obtain⟨k,n,l,lv,eT,e3,hlv,hone⟩:=hT.row3;injection e3 with ex e3;injection e3 with ey e3;injection e3 with ez _;subst ex ey ez;simp only[fn40,b40,Nat.reduceAdd,Nat.reduceSub,wS,wC];refine wBoxA (Wk.start u) fun b1 h1 w1=>?_
 have g1:=w1.get 0 rfl;have p0:loadA h1 1 (.ptr b1 0)=some [.bool a.set]:=by rw[ldP g1];rfl
 have p1:loadA h1 1 (.ptr b1 1)=some [.int .i64 a.cell]:=by rw[ldP g1];rfl
 have p2:loadA h1 1 (.ptr b1 2)=some [.int .i64 k]:=by rw[ldP g1];rfl
 have p3:loadA h1 1 (.ptr b1 3)=some [.int .i64 n]:=by rw[ldP g1];rfl
 have p4:loadA h1 1 (.ptr b1 4)=some [z]:=by rw[ldP g1];rfl
 have p23:loadA h1 3 (.ptr b1 2)=some [.int .i64 k,.int .i64 n,z]:=by rw[ldP g1];rfl
 have ew:IntKind.i64.wrap ((nc:Int)-1)=(nc:Int)-1:=wrapI (by omega);have N1:=Nat.le_trans hN w1.up.next
 have L1:=w1.up.low hN;simp only[wS,wC,Nat.reduceAdd,faP,p1,ew];refine cCall 300 (H.m 20 (by simp) _) (Ql0 H.f20 a.cell 0 ((nc:Int)-1) h1) fun v h2 hp=>?_
 obtain⟨rfl,rfl⟩:=hp;by_cases c1:0≤a.cell∧a.cell≤(nc:Int)-1
 ·have e1:¬(a.cell<0∨(nc:Int)≤a.cell):=by omega
  simp only[wS,wC,Nat.reduceAdd,decide_eq_true c1,Bool.not_true,faP,Nat.zero_add,p0];cases es:a.set with
  |true =>
   have e:actD nc a=Qat a.term a.cell:=by unfold actD;rw[if_neg e1,if_pos es]
   simp only[wS,wC,Nat.reduceAdd,faP,Nat.zero_add,p23,p1];refine cCall 300 (H.m 39 (by simp) _) (Qjq H hsT w1.self N1 (hT.low L1)) fun v h3 hp=>?_
   obtain⟨rfl,u3⟩:=hp;simp only[wS,wC,Nat.reduceAdd];exact Qag ⟨rfl,rfl,rfl,rfl⟩ H.f40 rfl (hk _ _ ⟨by rw[e];rfl,w1.up.trans u3⟩)
  |false =>
   have e:actD nc a=if zeroD a.term then 0 else 1:=by unfold actD;rw[if_neg e1,es];rfl
   rw[eT]at e;simp only[wS,wC,Nat.reduceAdd,faP,Nat.zero_add,p2];by_cases ck:k=0
   ·have d1:decide (k≠0)=false:=decide_eq_false (fun e=>e ck);simp only[wS,wC,Nat.reduceAdd,faP,Nat.zero_add,d1,p3];by_cases cn:n=0
    ·have d2:decide (n≠0)=false:=decide_eq_false (fun e=>e cn);simp only[wS,wC,Nat.reduceAdd,faP,Nat.zero_add,d2,p4,hlv];by_cases cl:l.length=0
     ·have d3:decide ((0:Int)<(l.length:Int))=false:=decide_eq_false (by omega);simp only[wS,wC,Nat.reduceAdd,d3];exact Qag ⟨rfl,rfl,rfl,rfl⟩ H.f40 rfl (hk _ _ ⟨by rw[e];simp[zeroD,ck,cn,cl],w1.up⟩)
     ·have d3:decide ((0:Int)<(l.length:Int))=true:=decide_eq_true (by omega);simp only[wS,wC,Nat.reduceAdd,d3];exact Qag ⟨rfl,rfl,rfl,rfl⟩ H.f40 rfl (hk _ _ ⟨by rw[e];simp[zeroD,cl],w1.up⟩)
    ·have d2:decide (n≠0)=true:=decide_eq_true cn;simp only[wS,wC,Nat.reduceAdd,d2];exact Qag ⟨rfl,rfl,rfl,rfl⟩ H.f40 rfl (hk _ _ ⟨by rw[e];simp[zeroD,cn],w1.up⟩)
   ·have d1:decide (k≠0)=true:=decide_eq_true ck;simp only[wS,wC,Nat.reduceAdd,d1];exact Qag ⟨rfl,rfl,rfl,rfl⟩ H.f40 rfl (hk _ _ ⟨by rw[e];simp[zeroD,ck],w1.up⟩)
 ·have e1:a.cell<0∨(nc:Int)≤a.cell:=by omega
  have e:actD nc a=6:=by unfold actD;rw[if_pos e1]
  simp only[wS,wC,Nat.reduceAdd,decide_eq_false c1,Bool.not_false];exact Qag ⟨rfl,rfl,rfl,rfl⟩ H.f40 rfl (hk _ _ ⟨by rw[e];rfl,w1.up⟩)
end
def fromE(f:Nat→Int)(n i:Nat):Int:=Qbt ((List.range' i (n-i)).map f)
theorem fromE_0{f:Nat→Int}{n:Nat}:fromE f n 0=Qbt ((List.range n).map f):=by rw[List.range_eq_range'];rfl
theorem Qoc{f:Nat→Int}{n i:Nat}(h:i<n):fromE f n i=if f i=0 then fromE f n (i+1) else f i:=by
 unfold fromE;obtain⟨m,hm⟩:∃m,n-i=m+1:=⟨n-i-1,by omega⟩
 rw[hm,List.range'_succ,show n-(i+1)=m by omega];rfl
theorem Qod{f:Nat→Int}{n i:Nat}(h:n≤i):fromE f n i=0:=by
 unfold fromE;rw[show n-i=0 by omega];rfl
section
variable{F:FuncId→Option AFun}{M:Memo}
theorem QdE(H:FnR F M){cells:List CT}{acts:List Act}{N:Nat}{h:AH}{cv av:AV}{crows arows:List (List AV)}(u:Up h h)(hN:N≤h.next)(hc:RepCs N h cells cv crows)(ha:RepAs N h acts av arows) :
  Ctr F M 18 [.agg [cv,av]] h (fun v h'=>v=.int .i64 (Qak cells acts)∧Up h h') (fun _ _=>False):=by
 refine Ctr.intro H.f18 fun caller cs G hk _=>W_ok 300 _ _ _ ?_
 simp only[fn18,b18,Nat.reduceAdd,Nat.reduceSub,wS,wC];refine wBoxA (Wk.start u) fun b1 h1 w1=>?_
 have g1:=w1.get 0 rfl;have lc:lenS cv=some cells.length:=by rw[hc.len];exact hc.sl.len
 have la:lenS av=some acts.length:=by rw[ha.len];exact ha.sl.len
 have e6:decide ((6:Int)<(cells.length:Int))=decide (6<cells.length):=by apply decide_eq_decide.2;omega
 have e10:decide ((10:Int)<(acts.length:Int))=decide (10<acts.length):=by apply decide_eq_decide.2;omega
 have e0:decide ((cells.length:Int)=0)=decide (cells.length=0):=by simp
 have hb1:=lt_of_get w1.up.wf g1;simp only[wS,wC,Nat.reduceAdd,ldP g1,rdC,Nat.reduceLeDiff,if_true,lc,e6];by_cases c1:6<cells.length
 ·simp only[wS,wC,Nat.reduceAdd,c1,decide_true];exact Qag ⟨rfl,rfl,rfl,rfl⟩ H.f18 rfl (hk _ _ ⟨by simp[Qak,c1],w1.up⟩)
 simp only[wS,wC,Nat.reduceAdd,c1,decide_false,ldP g1,rdC,Nat.reduceLeDiff,if_true,la,e10];by_cases c2:10<acts.length
 ·simp only[wS,wC,Nat.reduceAdd,c2,decide_true];exact Qag ⟨rfl,rfl,rfl,rfl⟩ H.f18 rfl (hk _ _ ⟨by simp[Qak,c2],w1.up⟩)
 simp only[wS,wC,Nat.reduceAdd,c2,decide_false,ldP g1,rdC,Nat.reduceLeDiff,if_true,lc,e0];rcases Classical.propComplete (cells.length=0) with c3|c3
 ·simp only[wS,wC,Nat.reduceAdd,c3,decide_true];exact Qag ⟨rfl,rfl,rfl,rfl⟩ H.f18 rfl (hk _ _ ⟨by simp[Qak,c1,c2,c3],w1.up⟩)
 simp only[wS,wC,Nat.reduceAdd,c3,decide_false,ldP g1,rdC,Nat.reduceLeDiff,if_true];have hn0:cells.length≠0:=fun e=>by rw[e]at c3;simp at c3
 have hcE:cellsE cells=fromE (fun i=>Qat (cells.getD i default) i) cells.length 0:=fromE_0.symm;have haE:actsE cells.length acts=fromE (fun i=>actD cells.length (acts.getD i default)) acts.length 0:=fromE_0.symm;refine Qbv (fun mm t h5=>∃(i:Nat) (x4 x7 x8 x9 x10 x11 x12 x13 x14 x15 x16 x17 x18 x19 x20 x21 x22 x23 x24 x25 x26 x27 x28 x29 x30 x31 x32 x33 x34 x35 x36 x37:AV),mm=cells.length-i∧i≤cells.length∧Up h1 h5∧cellsE cells=fromE (fun i=>Qat (cells.getD i default) i) cells.length i ∧
   t=[.agg [cv,av],.ptr b1 0,.int .i64 0,.int .i64 (i:Nat),x4,.undef,.undef,x7,x8,x9,x10,x11,x12,x13,x14,x15,x16,x17,x18,x19,x20,x21,x22,x23,x24,x25,x26,x27,x28,x29,x30,x31,x32,x33,x34,x35,x36,x37,.undef,.undef,.undef,.undef,.undef,.undef,.undef,.undef,.undef,.undef,.undef,.undef,.undef,.undef,.undef,.undef,.undef,.undef,.undef]) (cells.length-0) ?_ ?_
 ·exact⟨0,_,_,_,_,_,_,_,_,_,_,_,_,_,_,_,_,_,_,_,_,_,_,_,_,_,_,_,_,_,_,_,_,rfl,Nat.zero_le _,.refl w1.up.wf,hcE,rfl⟩
 ·rintro mm t h5 ⟨i,x4,x7,x8,x9,x10,x11,x12,x13,x14,x15,x16,x17,x18,x19,x20,x21,x22,x23,x24,x25,x26,x27,x28,x29,x30,x31,x32,x33,x34,x35,x36,x37,rfl,hi,u5,hE,rfl⟩ ih5;refine W_ok 300 _ _ _ ?_;have g5:=(u5.keep b1 hb1).trans g1;have p0:loadA h5 1 (.ptr b1 0)=some [cv]:=by rw[ldP g5];rfl
  have L5:=(w1.up.trans u5).low hN;have N5:=Nat.le_trans hN (w1.up.trans u5).next
  by_cases ci:i<cells.length
  ·have hd:decide ((i:Int)<(cells.length:Int))=true:=decide_eq_true (by omega);have hc5:=hc.low L5;have cir:i<crows.length:=by rw[←hc.len];exact ci
   obtain⟨p,p1,p2,p3⟩:=hc5.sl.row i cir;have eg:cells.getD i default=cells[i]:=by simp[List.getD,gE ci]
   have hw:IntKind.i64.wrap ((i:Int)+1)=((i+1:Nat):Int):=QaW (by omega);rw[Qoc ci,eg]at hE;simp only[wS,wC,Nat.reduceAdd,faP,Nat.zero_add,p0,lc,hd,p1,p3];refine cCall 300 (H.m 39 (by simp) _) (Qjq H (hc.short _ (List.getElem_mem ci)) (.refl u5.wf) N5 (hc5.rep i ci cir)) fun v h6 hp=>?_
   obtain⟨rfl,u6⟩:=hp;by_cases ce:Qat cells[i] i=0
   ·have hd2:decide (Qat cells[i] i≠0)=false:=decide_eq_false (fun e=>e ce);rw[if_pos ce]at hE;simp only[wS,wC,Nat.reduceAdd,hd2,hw];exact ih5 _ _ _ (by omega) ⟨i+1,_,_,_,_,_,_,_,_,_,_,_,_,_,_,_,_,_,_,_,_,_,_,_,_,_,_,_,_,_,_,_,_,rfl,ci,u5.trans u6,hE,rfl⟩
   ·have hd2:decide (Qat cells[i] i≠0)=true:=decide_eq_true ce;rw[if_neg ce]at hE;have e:Qak cells acts=Qat cells[i] i:=by unfold Qak;rw[if_neg (by omega),if_neg hn0,hE,if_neg ce]
    simp only[wS,wC,Nat.reduceAdd,hd2];exact Qag ⟨rfl,rfl,rfl,rfl⟩ H.f18 rfl (hk _ _ ⟨by rw[e];rfl,(w1.up.trans u5).trans u6⟩)
  ·have hd:decide ((i:Int)<(cells.length:Int))=false:=decide_eq_false (by omega);rw[Qod (by omega)]at hE;have e:Qak cells acts=actsE cells.length acts:=by unfold Qak;rw[if_neg (by omega),if_neg hn0,if_pos hE]
   rw[e]at hk;simp only[wS,wC,Nat.reduceAdd,faP,Nat.zero_add,p0,lc,hd];refine Qbv (fun mm t h7=>∃(j:Nat) (x6 y38 y39 y40 y41 y42 y43 y44 y45 y46 y47 y48 y49 y50 y51 y52 y53 y54 y55 y56:AV),mm=acts.length-j∧j≤acts.length∧Up h1 h7∧actsE cells.length acts=fromE (fun i=>actD cells.length (acts.getD i default)) acts.length j ∧
     t=[.agg [cv,av],.ptr b1 0,.int .i64 0,.int .i64 (i:Nat),x4,.int .i64 (j:Nat),x6,x7,x8,x9,x10,x11,x12,x13,x14,x15,x16,x17,x18,x19,x20,.int .i64 (i:Nat),.ptr b1 0,cv,.int .i64 (cells.length:Nat),.bool false,x26,x27,x28,x29,x30,x31,x32,x33,x34,x35,x36,x37,y38,y39,y40,y41,y42,y43,y44,y45,y46,y47,y48,y49,y50,y51,y52,y53,y54,y55,y56]) (acts.length-0) ?_ ?_
   ·exact⟨0,_,_,_,_,_,_,_,_,_,_,_,_,_,_,_,_,_,_,_,_,rfl,Nat.zero_le _,u5,haE,rfl⟩
   ·rintro mm t h7 ⟨j,x6,y38,y39,y40,y41,y42,y43,y44,y45,y46,y47,y48,y49,y50,y51,y52,y53,y54,y55,y56,rfl,hj,u7,hE7,rfl⟩ ih7;refine W_ok 300 _ _ _ ?_;have g7:=(u7.keep b1 hb1).trans g1;have r0:loadA h7 1 (.ptr b1 0)=some [cv]:=by rw[ldP g7];rfl
    have r1:loadA h7 1 (.ptr b1 1)=some [av]:=by rw[ldP g7];rfl
    have L7:=(w1.up.trans u7).low hN;have N7:=Nat.le_trans hN (w1.up.trans u7).next
    by_cases cj:j<acts.length
    ·have hd3:decide ((j:Int)<(acts.length:Int))=true:=decide_eq_true (by omega);have ha7:=ha.low L7;have cjr:j<arows.length:=by rw[←ha.len];exact cj
     obtain⟨p,p1,p2,p3⟩:=ha7.sl.row j cjr;have eg:acts.getD j default=acts[j]:=by simp[List.getD,gE cj]
     have hw:IntKind.i64.wrap ((j:Int)+1)=((j+1:Nat):Int):=QaW (by omega);rw[Qoc cj,eg]at hE7;simp only[wS,wC,Nat.reduceAdd,faP,Nat.zero_add,r0,r1,lc,la,hd3,p1,p3,AOp.makes];refine cMain 300 (H.m 40 (by simp) _) (ract_ctr (nc:=cells.length) H (ha.short _ (List.getElem_mem cj)) (by omega) (.refl u7.wf) N7 (ha7.rep j cj cjr)) fun v h8 hp=>⟨rfl,?_⟩
     obtain⟨rfl,u8⟩:=hp;by_cases ce:actD cells.length acts[j]=0
     ·have hd2:decide (actD cells.length acts[j]≠0)=false:=decide_eq_false (fun e=>e ce);rw[if_pos ce]at hE7;simp only[wS,wC,Nat.reduceAdd,AOp.makes,hd2,hw];exact ih7 _ _ _ (by omega) ⟨j+1,_,_,_,_,_,_,_,_,_,_,_,_,_,_,_,_,_,_,_,_,rfl,cj,u7.trans u8,hE7,rfl⟩
     ·have hd2:decide (actD cells.length acts[j]≠0)=true:=decide_eq_true ce;rw[if_neg ce]at hE7;rw[hE7]at hk;simp only[wS,wC,Nat.reduceAdd,AOp.makes,hd2];exact Qag ⟨rfl,rfl,rfl,rfl⟩ H.f18 rfl (hk _ _ ⟨rfl,(w1.up.trans u7).trans u8⟩)
    ·have hd3:decide ((j:Int)<(acts.length:Int))=false:=decide_eq_false (by omega);rw[Qod (by omega)]at hE7;rw[hE7]at hk;simp only[wS,wC,Nat.reduceAdd,faP,Nat.zero_add,r1,la,hd3];exact Qag ⟨rfl,rfl,rfl,rfl⟩ H.f18 rfl (hk _ _ ⟨rfl,w1.up.trans u7⟩)
end
theorem _root_.Go.Ab.Sl.val{N es:Nat}{h:AH}{v:AV}{rows:List (List AV)}(s:Sl N h es v rows):v.known=true∧v.cells=[v]∧v.one=true:=by
 have:=s.len;cases v<;>first|exact⟨rfl,rfl,rfl⟩|(simp[lenS]at this)
section
variable{F:FuncId→Option AFun}{M:Memo}
theorem Qga{nc:Nat}:∀(as:List Act)(forms:Nat→CT)(s:St),OkF nc forms→(∀a∈as,OkA nc a)→∀i (h1:i<(runS nc forms s as).length),(runS nc forms s as)[i].1.length<1000000000
 | [],_,_,_,_,i,h1=>by simp[runS]at h1
 |a::as,forms,s,H,ha,0,_=>by
  show (actS nc forms s a).2.2.1.length<1000000000;unfold actS;split
  ·simp
  ·have:=QbZ H.sz 6 a.cell.toNat {s with comp:=[]};have e:0+B 6<1000000000:=by decide
   exact Nat.lt_of_le_of_lt this e
 |a::as,forms,s,H,ha,i+1,h1=>Qga as _ _ (H.act (ha a (by simp))) (fun b hb=>ha b (by simp[hb])) i (by simpa[runS] using h1)
theorem Qgr{cs:List CT}{as:List Act}(h:Qak cs as=0):∃D,QaC cs as=(D,0)∧D.length=as.length∧∀i (h1:i<D.length),D[i].1.length<1000000000:=by
 have e:QaC cs as=(runS cs.length (Qaq cs) s0 as,0):=if_pos h;obtain⟨z1,z2,z3,okF,okA⟩:=QbP h;exact⟨_,e,QeS _ _ _,fun i h1=>Qga _ _ _ okF okA i h1⟩
theorem RepAs.at{N:Nat}{h:AH}{l:List Act}{v:AV}{rows:List (List AV)}(H:RepAs N h l v rows)(i:Nat)(hi:i<l.length) :
  ∃p,Qbs 5 v (.int .i64 (i:Int))=some p∧faF 0 h p=some (padd p 0,h)∧loadA h 1 (padd p 0)=some [.bool l[i].set]∧faF 1 h p=some (padd p 1,h)∧loadA h 1 (padd p 1)=some [.int .i64 l[i].cell]∧faF 2 h p=some (padd p 2,h) ∧
   ∃x y z,loadA h 3 (padd p 2)=some [x,y,z]∧Rep N h l[i].term [x,y,z]∧[x,y,z].all AV.one=true:=by
 have hr:i<rows.length:=by have:=H.len;omega
 obtain⟨p,p1,p2,p3⟩:=H.sl.row i hr;obtain⟨x,y,z,e,o,hT⟩:=repA5 (H.rep i hi hr);rw[e]at p3 o;exact⟨p,p1,QbB p3 (by omega),Qb8 p3 (by omega),QbB p3 (by omega),Qb8 p3 (by omega),QbB p3 (by omega),x,y,z,Qb8 p3 (by omega),hT,o⟩
theorem RepD.at{N:Nat}{h:AH}{l:List Told}{v:AV}(H:RepD N h l v)(i:Nat)(hi:i<l.length) :
  ∃p w,Qbs 2 v (.int .i64 (i:Int))=some p∧faF 0 h p=some (padd p 0,h)∧loadA h 1 (padd p 0)=some [w]∧faF 1 h p=some (padd p 1,h)∧loadA h 1 (padd p 1)=some [.int .i64 l[i].2]∧lenS w=some l[i].1.length ∧
   ∀q (hq:q<l[i].1.length),∃r,Qbs 1 w (.int .i64 (q:Int))=some r∧loadA h 1 r=some [.int .i64 l[i].1[q]]:=by
 obtain⟨rows,s,e,r⟩:=H.ex;obtain⟨p,p1,p2,p3⟩:=s.row i (by omega);obtain⟨w,e1,e2⟩:=r i (by omega) hi;rw[e1]at p3;refine⟨p,w,p1,QbB p3 (by omega),Qb8 p3 (by omega),QbB p3 (by omega),Qb8 p3 (by omega),by rw[e2.len];simp[ints],fun q hq=>?_⟩;obtain⟨r,r1,_,r3⟩:=e2.row q (by simpa[ints] using hq);exact⟨r,r1,by simpa[ints] using r3⟩
theorem RepD.len{N:Nat}{h:AH}{l:List Told}{v:AV}(H:RepD N h l v):lenS v=some l.length:=by
 obtain⟨rows,s,e,r⟩:=H.ex;rw[s.len,e]
theorem RepAs.lenS{N:Nat}{h:AH}{l:List Act}{v:AV}{rows:List (List AV)}(H:RepAs N h l v rows):lenS v=some l.length:=by rw[H.sl.len,H.len]
structure FnL (F:FuncId→Option AFun)(M:Memo):Prop where
 E:FnE F M
 R:FnR F M
 f19:F 19=some fn19
 f21:F 21=some fn21
 m:∀f∈[19,21],∀as,M f as=none
 A:∃c,M 16 []=some c∧∀h,c h=some (.bool true,h)
end
theorem QpX{h:AH}{D0 D:List AV}{tg m:Nat}(h0:D0.length=m)(hl:D.length=m)(ho:D.all AV.one=true):stF (h.alloc (.cells D0 (some tg) 0 [])) m (.ptr h.next 0) (.agg D)=some (.undef,h.alloc (.cells D (some tg) 0 [])):=by
 rw[stE (v:=.agg D) (vs:=D) (l:=D0) (m:=m) (o:=0) (Qam _ _) (by omega) rfl rfl hl ho,QpE];have e:splice D0 0 D=D:=by
  unfold splice;simp[hl,h0]
 rw[e]
section
variable{F:FuncId→Option AFun}{M:Memo}
theorem QpJ(H:FnM F M){cells:List CT}{acts:List Act}{N:Nat}{h:AH}{cv av:AV}{crows arows:List (List AV)}{anew:Bool}(u:Up h h)(hN:N≤h.next)(hc:RepCs N h cells cv crows)(ha:RepAs N h acts av arows)(c0:Qak cells acts=0) :
  Ctr F M 24 [.agg [cv,av],.bool anew] h (fun v h'=>RepD h'.next h' (runR cells.length anew (Qaq cells) s0 acts) v∧Up h h') (fun _ _=>False):=by
 obtain⟨z1,z2,z3,okF,okA⟩:=QbP c0;have lav:=ha.lenS;have hlc:=hc.len;refine Ctr.intro H.f24 fun caller cs G hk _=>W_ok 300 _ _ _ ?_
 simp only[fn24,b24,Nat.reduceAdd,Nat.reduceSub,wS,wC];refine wBoxA (Wk.start u) fun b2 h1 w1=>?_
 have g1:=w1.get 0 rfl;have hb2:=w1.lt 0 rfl;have u1:=w1.up;have L1:=u1.low hN;have N1:=Nat.le_trans hN u1.next
 have l1:loadA h1 1 (.ptr b2 0)=some [cv]:=by rw[ldP g1];rfl
 have hc1:=hc.low L1;simp only[wS,wC,Nat.reduceAdd,Nat.zero_add,l1];refine cCall 300 (H.m 50 (by simp) _) (rbegun_r H (forms:=Qaq cells) (.refl u1.wf) N1 hc1.sl hc1.rows (by omega) (by omega) fun i hi=>?_) fun v h2 hp=>?_
 ·have:=hc1.rep i (by omega) hi;have e:Qaq cells i=cells[i]'(by omega):=by simp[Qaq,List.getD,gE (show i<cells.length by omega)]
  rw[e];exact this
 obtain⟨c,rfl,cN,cnc,m2,u2,hbs⟩:=hp;have cn:c.nc=cells.length:=by omega
 have u02:=u1.trans u2;have g2:=(u2.keep b2 hb2).trans g1;have hb2':b2<c.bs:=Nat.lt_of_lt_of_le hb2 hbs;have kp2:∀{h'},FrR c h2 h'→h'.get b2=some (.cells [cv,av] (some 51) 0 []):=fun f=>(f.keep b2 (Nat.lt_of_lt_of_le hb2 u2.next) (by omega) (.inl (by have:=m2.o2;omega)) fun e=>by have:=(m2.lb e).1;have:=m2.o2;have:=m2.o3;have:=m2.o4;omega).trans g2
 have lowN:∀{h'},FrR c h2 h'→Low N h h':=fun f b hb=>by
  have:=m2.low f b (by rw[cN];exact hb);rw[this];exact u02.low hN b hb
 rw[←cn]at okF okA z2 hk;simp only[wS,wC,Nat.reduceAdd];refine Qfi [φ,φ,φ,φ,φ,φ,τ,τ,τ,τ,τ,φ,φ,φ,τ,τ,τ,τ,τ,τ,τ,τ,τ,τ,τ,τ,τ,τ,τ,τ,τ,τ,τ,τ,τ,τ,τ,τ,τ,τ,τ,τ,τ,τ,τ,τ,τ,τ,τ,τ,τ,τ,τ,τ,τ,τ,τ,τ,τ,τ,τ,τ,τ,τ,τ,τ,τ,τ,τ,τ,τ,τ,τ,τ] (fun mm g h'=>∃(i:Nat) (forms:Nat→CT) (s:St) (ov:AV) (R:List (List AV)) (l:List Told) (V:Nat→Int),mm=acts.length-i∧i≤acts.length∧RM c forms s h'∧OkF c.nc forms∧IsV c.nc forms V∧Inv c.nc forms V s∧FrR c h2 h'∧AccR c h2.next h'.next h' (oB c h') ov R l∧R.length=i ∧
   l++runR c.nc anew forms s (acts.drop i)=runR c.nc anew (Qaq cells) s0 acts∧g 7=.int .i64 (i:Int)∧g 6=ov) (acts.length-0) ?_ ?_
 ·exact⟨0,Qaq cells,s0,.nilslice,[],[],_,rfl,Nat.zero_le _,m2,okF,exV okF,Inv.start,.refl,⟨GL.nil.gs,(fun b ⟨n,e,hb⟩=>by rcases hb with hb|hb<;>cases hb),rfl,fun i h1=>absurd h1 (by simp)⟩,rfl,rfl,rfl,rfl⟩
 rintro mm g h' ⟨i,forms,s,ov,R,l,V,rfl,hi,m3,ok3,v3,i3,f3,A3,hRi,hrun,g7,g6⟩ ih;dsimp only[fv,Nat.reduceAdd];have g3:=kp2 f3;have l3:loadA h' 1 (.ptr b2 1)=some [av]:=by rw[ldP g3];rfl
 by_cases ci:i<acts.length
 ·refine W_ok 34 _ _ _ ?_;have hd:decide ((i:Int)<(acts.length:Int))=true:=decide_eq_true (by omega);have hr:i<arows.length:=by have:=ha.len;omega
  have ha3:=ha.low (lowN f3);obtain⟨p,p1,_,p3⟩:=ha3.sl.row i hr;obtain⟨x,y,z,er,ho,hT⟩:=repA5 (ha3.rep i ci hr);have hok:=okA acts[i] (List.getElem_mem ci);rw[er]at p3 ho;simp only[wS,wC,Nat.reduceAdd,Nat.zero_add,g7,g6,l3,lav,hd,p1,p3,alE];rw[QpX (m:=5) rfl rfl ho];obtain⟨m4,f4,w8⟩:=m3.alloc (.cells [.bool acts[i].set,.int .i64 acts[i].cell,x,y,z] (some 83) 0 []);have A4:=A3.to (h':=h'.alloc (.cells [.bool acts[i].set,.int .i64 acts[i].cell,x,y,z] (some 83) 0 [])) (Q:=oB c (h'.alloc (.cells [.bool acts[i].set,.int .i64 acts[i].cell,x,y,z] (some 83) 0 []))) (Nat.le_succ _) (Nat.le_refl _) (fun b _ hb _=>Qad _ _ hb) (fun b hb hn e=>by
   rcases f4.comp b e with e|e
   ·exact hn e
   ·omega) (fun b hb hn e=>hn (by
    unfold oB at e ⊢;rw[Qad _ _ m3.bc_lt]at e;exact e))
  have hn8:(h'.alloc (.cells [.bool acts[i].set,.int .i64 acts[i].cell,x,y,z] (some 83) 0 [])).next=h'.next+1:=rfl
  simp only[wS,wC,Nat.reduceAdd,Nat.zero_add,alE];generalize hh4:h'.alloc (.cells [.bool acts[i].set,.int .i64 acts[i].cell,x,y,z] (some 83) 0 [])=h4 at m4 f4 w8 A4 hn8 ⊢;obtain⟨m5,f5,w9⟩:=m4.alloc (.cells [.nilslice,.int .i64 0] (some 87) 0 []);have w85:=w8.fr m4 f5;have A5:=A4.to (h':=h4.alloc (.cells [.nilslice,.int .i64 0] (some 87) 0 [])) (Q:=oB c (h4.alloc (.cells [.nilslice,.int .i64 0] (some 87) 0 []))) (Nat.le_succ _) (Nat.le_refl _) (fun b _ hb _=>Qad _ _ (by omega)) (fun b hb hn e=>by
   rcases f5.comp b e with e|e
   ·exact hn e
   ·omega) (fun b hb hn e=>hn (by
    unfold oB at e ⊢;rw[Qad _ _ m4.bc_lt]at e;exact e))
  generalize hh5:h4.alloc (.cells [.nilslice,.int .i64 0] (some 87) 0 [])=h5 at m5 f5 w9 w85 A5 ⊢;have n0:0<c.nc:=by omega
  have hh5:h'.next≤h5.next:=Nat.le_trans f4.next f5.next
  obtain⟨mv5,_,_,_,_,_,_,r5⟩:=m5.rd n0;obtain⟨sp5,g5⟩:=r5.ob;obtain⟨m6,lb6,f6⟩:=m5.clear g5;have st:=stE (v:=.nilslice) (vs:=[.nilslice]) (m:=1) (o:=1) g5 (by simp);have hsp:splice [.slop c.bc 0 c.nc 6,mv5] 1 [.nilslice]=[.slop c.bc 0 c.nc 6,.nilslice]:=rfl;simp only[wS,wC,Nat.reduceAdd,Nat.zero_add,st];rw[hsp];have w86:=w85.fr m5 f6;have w96:=w9.fr m5 f6;have A6:=A5.to (h':=h5.put c.bs (.cells [.slop c.bc 0 c.nc 6,.nilslice] sp5 0 [])) (Q:=lB c (h5.put c.bs (.cells [.slop c.bc 0 c.nc 6,.nilslice] sp5 0 []))) (Nat.le_refl _) (Nat.le_refl _) (fun b hb _ _=>Qab _ _ (by have:=m5.o2;have:=m5.o3;have:=m5.o4;omega)) (fun b _ hn e=>hn (.inr ((lb6 b).1 e))) (fun b _ hn e=>hn ((lb6 b).1 e));have f36:=((f3.trans f4).trans f5).trans f6;have hn6:(h5.put c.bs (.cells [.slop c.bc 0 c.nc 6,.nilslice] sp5 0 [])).next=h5.next:=rfl
  generalize h5.put c.bs (.cells [.slop c.bc 0 c.nc 6,.nilslice] sp5 0 [])=h6 at m6 lb6 f6 w86 w96 A6 f36 hn6 ⊢;have hinv:=i3.lt;have hcnt:=Qln;refine QpW [φ,φ,φ,φ,φ,φ,φ,φ,φ,φ,τ,φ,φ,φ,φ,φ,φ,φ,φ,φ,φ,φ,φ,φ,φ,φ,φ,φ,φ,τ,τ,τ,τ,τ,τ,τ,τ,τ,τ,τ,τ,τ,τ,τ] (fun f7 h7=>RM c forms (preS anew s) h7∧FrR c h2 h7∧h5.next≤h7.next∧AccR c h2.next h'.next h7 (lB c h7) ov R l∧OwnR c h7 h'.next (.cells [.bool acts[i].set,.int .i64 acts[i].cell,x,y,z] (some 83) 0 [])∧OwnR c h7 h4.next (.cells [.nilslice,.int .i64 0] (some 87) 0 [])) ?_ ?_
  rotate_left
  ·intro next
   refine W_ok 300 _ _ _ ?_;simp only[wS,wC,Nat.reduceAdd];refine Qfi [φ,φ,φ,φ,φ,φ,φ,φ,φ,φ,τ,φ,φ,φ,φ,φ,φ,φ,φ,φ,φ,φ,φ,φ,φ,φ,φ,φ,φ,τ,τ,τ,τ,τ,τ,τ,τ,τ,τ,τ,τ,τ,τ,τ] (fun mm f7 h7=>∃(q:Nat) (kn:On),mm=c.nc-q∧q≤c.nc∧RM c forms {s with comp:=[],known:=kn} h7∧FrR c h2 h7∧h5.next≤h7.next∧AccR c h2.next h'.next h7 (lB c h7) ov R l∧OwnR c h7 h'.next (.cells [.bool acts[i].set,.int .i64 acts[i].cell,x,y,z] (some 83) 0 [])∧OwnR c h7 h4.next (.cells [.nilslice,.int .i64 0] (some 87) 0 []) ∧
    (∀j,kn j=true→s.known j=true)∧(∀j,j<q→kn j=false)∧(anew=false→kn=s.known∧q=0)∧f7 10=.int .i64 (q:Int)) (c.nc-0) ⟨0,s.known,rfl,Nat.zero_le _,m6,f36,Nat.le_of_eq hn6.symm,A6,w86,w96,fun _ h=>h,(fun j hj=>absurd hj (by omega)),fun _=>⟨rfl,rfl⟩,rfl⟩ ?_
   rintro mm f7 h7 ⟨q,kn,rfl,hq,m7,f27,n7,A7,w87,w97,hk1,hk2,hk3,f10⟩ ih7;dsimp only[fv,Nat.reduceAdd];obtain⟨_,_,_,_,_,_,_,r7⟩:=m7.rd n0;have hkn7:∀j,kn j=true→j<c.nc:=fun j hj=>hinv j (hk1 j hj)
   by_cases cq:q<c.nc
   ·have hd7:decide ((q:Int)<(c.nc:Int))=true:=decide_eq_true (by omega);cases anew with
    |false =>
     refine W_ok 16 _ _ _ ?_;simp only[wS,wC,Nat.reduceAdd,Nat.zero_add,f10,r7.cells,lenSO,hd7];obtain⟨rfl,rfl⟩:=hk3 rfl;refine next _ _ ⟨m7,f27,n7,A7,w87,w97⟩ rfl
    |true =>
     refine W_ok 300 _ _ _ ?_;simp only[wS,wC,Nat.reduceAdd,Nat.zero_add,f10,r7.cells,lenSO,hd7];have hcf:cnt kn+(1-(kn q).toNat)≤7:=by have:=hcnt kn;omega
     refine cCall 300 (H.m 51 (by simp) _) (QpO H z2 7 {s with comp:=[],known:=kn} h7 q cq m7 hkn7 hcf) fun v h8 hp=>?_
     obtain⟨m8,f8⟩:=hp;have lf:=Qeg z2 (st:=s.stands) 7 q kn cq hcf hkn7;have hup:IntKind.i64.wrap ((q:Int)+1)=((q+1:Nat):Int):=QaW (by omega);simp only[wS,wC,Nat.reduceAdd,Nat.zero_add,hup];refine ih7 _ _ _ (by omega) ⟨q+1,_,rfl,cq,m8,f27.trans f8,Nat.le_trans n7 f8.next,A7.fr m7 f8 (by have:=f4.next;have:=f5.next;omega),w87.fr m7 f8,w97.fr m7 f8,fun j hj=>hk1 j (lf.sub j hj),fun j hj=>?_,(fun e=>by cases e),rfl⟩ rfl;by_cases ej:j=q
     ·rw[ej];exact lf.gone
     ·cases e:QaI c.nc s.stands 7 q kn j
      ·rfl
      ·have:=hk2 j (by omega);rw[lf.sub j e]at this;cases this
   ·have hd7:decide ((q:Int)<(c.nc:Int))=false:=decide_eq_false (by omega);have hA:anew=true:=by
     cases e:anew
     ·have:=(hk3 e).2;omega
     ·rfl
    subst hA;refine W_ok 16 _ _ _ ?_;simp only[wS,wC,Nat.reduceAdd,Nat.zero_add,f10,r7.cells,lenSO,hd7];have e:kn=noneK:=funext fun j=>by
     cases e:kn j
     ·rfl
     ·have:=hk2 j (by have:=hkn7 j e;omega);rw[this]at e;cases e
    rw[e]at m7;exact next _ _ ⟨m7,f27,n7,A7,w87,w97⟩ rfl
  ·rintro f7 h7 ⟨m7,f27,n7,A7,w87,w97⟩;dsimp only[fv,Nat.reduceAdd];clear hn6 f36 A6 w96 w86 lb6 m6 st;have hx:acts[i].cell.toNat<c.nc:=by have:=hok.lo;have:=hok.hi;omega
   obtain⟨xn,hxn⟩:∃xn:Nat,acts[i].cell=(xn:Int):=⟨acts[i].cell.toNat,by have:=hok.lo;omega⟩
   have hxt:acts[i].cell.toNat=xn:=by omega
   rw[hxt]at hx;have hkn1:∀j,(preS anew s).known j=true→j<c.nc:=fun j hj=>by
    cases anew with
    |false=>exact hinv j hj
    |true=>cases hj
   have l80:loadA h7 1 (.ptr h'.next 0)=some [.bool acts[i].set]:=by rw[ldP w87.get];rfl
   have l81:loadA h7 1 (.ptr h'.next 1)=some [.int .i64 (xn:Int)]:=by rw[ldP w87.get,←hxn];rfl
   have hB0:h'.next≤h7.next:=by have:=f4.next;have:=f5.next;omega
   have hact:actS c.nc forms (preS anew s) acts[i]=if acts[i].set then (upd forms xn acts[i].term,{preS anew s with known:=QaI c.nc (preS anew s).stands 7 xn (preS anew s).known},[],0)
     else (forms,(Qaj forms 6 xn {preS anew s with comp:=[]}).2,(Qaj forms 6 xn {preS anew s with comp:=[]}).2.comp,(Qaj forms 6 xn {preS anew s with comp:=[]}).1):=by
    unfold actS;rw[hxt]
   obtain⟨V',v',i',_⟩:=Inv.act (a:=acts[i]) (s:=preS anew s) z2 ok3 v3 hok (by
    cases anew with
    |false=>exact i3.comp []
    |true=>exact Inv.none (s:={s with comp:=[]}))
   have ok':=ok3.act (s:=preS anew s) hok;refine QpW [φ,φ,φ,φ,φ,φ,φ,φ,φ,φ,φ,φ,φ,φ,φ,φ,φ,φ,φ,φ,φ,φ,φ,φ,φ,φ,φ,φ,φ,φ,φ,φ,φ,φ,φ,φ,φ,φ,φ,φ,φ,φ,φ,φ,τ,τ,τ,τ,τ,τ,τ,τ,τ,τ,τ,τ,τ,τ,τ,τ,τ,τ,τ,τ,τ] (fun f8 h8=>RM c (actS c.nc forms (preS anew s) acts[i]).1 (actS c.nc forms (preS anew s) acts[i]).2.1 h8∧FrR c h2 h8∧AccR c h2.next h'.next h8 (lB c h8) ov R l∧h5.next≤h8.next∧OwnR c h8 h4.next (.cells [.nilslice,.int .i64 (actS c.nc forms (preS anew s) acts[i]).2.2.2] (some 87) 0 [])∧(actS c.nc forms (preS anew s) acts[i]).2.1.comp=(actS c.nc forms (preS anew s) acts[i]).2.2.1) ?_ ?_
   rotate_left
   ·intro next
    refine W_ok 6 _ _ _ ?_;simp only[wS,wC,Nat.reduceAdd,Nat.zero_add,l80];refine wcB (fun es=>?_) (fun es=>?_)
    ·refine W_ok 300 _ _ _ ?_;simp only[wS,wC,Nat.reduceAdd,Nat.zero_add,l81];have hcf:cnt (preS anew s).known+(1-((preS anew s).known xn).toNat)≤7:=by have:=hcnt (preS anew s).known;omega
     refine cCall 19 (H.m 51 (by simp) _) (QpO H z2 7 (preS anew s) h7 xn hx m7 hkn1 hcf) fun v h8 hp=>?_
     obtain⟨m8,f8⟩:=hp;have lf:=Qeg z2 (st:=(preS anew s).stands) 7 xn (preS anew s).known hx hcf hkn1;have w88:=w87.fr m7 f8;have w98:=w97.fr m7 f8;have A8:=A7.fr m7 f8 hB0;have l8c:loadA h8 1 (.ptr h'.next 1)=some [.int .i64 (xn:Int)]:=by rw[ldP w88.get,←hxn];rfl
     have l8t:loadA h8 3 (.ptr h'.next 2)=some [x,y,z]:=by rw[ldP w88.get];rfl
     obtain⟨mv8,_,_,_,_,_,_,r8⟩:=m8.rd hx;have ix:=ixR hx;have hbl:∀h:AH,bldF h [.int .i64 0,.int .i64 0,.nilslice,.bool false,.int .i64 0,.nilslice] [(0,3,.agg [x,y,z])]=some (.agg [x,y,z,.bool false,.int .i64 0,.nilslice],h):=fun _=>rfl
     have hT8:Rep c.N h8 acts[i].term [x,y,z]:=by
      rw[cN];exact hT.low (fun b hb=>by rw[lowN (f27.trans f8) b hb,←lowN f3 b hb])
     have lone:[x,y,z].all AV.one=true:=ho;obtain⟨h9,e9,m9,n9,k9,lb9⟩:=m8.putRow (s':={preS anew s with known:=QaI c.nc (preS anew s).stands 7 xn (preS anew s).known}) (T:=acts[i].term) (forms':=upd forms xn acts[i].term) hx hT8 lone (GL.nil.gs (rows:=[])) (vv:=0) (l:=[]) r8.comp (fun b ⟨n,e,hb⟩=>by rcases hb with hb|hb<;>cases hb) (by simp) (fun e=>by
       have e':QaI c.nc (preS anew s).stands 7 xn (preS anew s).known xn=true:=e;rw[lf.gone]at e';cases e') (fun j hj=>⟨rfl,fun _=>⟨rfl,rfl⟩⟩) rfl ⟨upd_self,fun j hj=>upd_ne hj⟩
     have e9':stF h8 6 (.ptr c.bc (xn*6)) (.agg [x,y,z,.bool false,.int .i64 0,.nilslice])=some (.undef,h9):=by
      have:QaI c.nc (preS anew s).stands 7 xn (preS anew s).known xn=false:=lf.gone;simpa only[this] using e9
     have ev:actS c.nc forms (preS anew s) acts[i]=(upd forms xn acts[i].term,{preS anew s with known:=QaI c.nc (preS anew s).stands 7 xn (preS anew s).known},[],0):=by rw[hact,if_pos es]
     have nn:∀b,¬inB .nilslice b:=fun b ⟨n,e,hb⟩=>by rcases hb with hb|hb<;>cases hb
     have f9:FrR c h8 h9:=FrR.refl.put n9 k9 lb9 fun b hb=>(nn b hb).elim
     simp only[wS,wC,AOp.makes,Nat.reduceAdd,Nat.zero_add,r8.cells,l8c,l8t,List.map_cons,List.map_nil,hbl,ix,e9'];refine next _ h9 ⟨by rw[ev];exact m9,f27.trans (f8.trans f9),(A7.fr m7 (f8.trans f9) hB0),Nat.le_trans n7 (f8.trans f9).next,by rw[ev];exact w98.fr m8 f9,by rw[ev];rfl⟩ rfl
    ·refine W_ok 300 _ _ _ ?_;simp only[wS,wC,Nat.reduceAdd,Nat.zero_add,l81];have ev:actS c.nc forms (preS anew s) acts[i]=(forms,(Qaj forms 6 xn (preS anew s)).2,(Qaj forms 6 xn (preS anew s)).2.comp,(Qaj forms 6 xn (preS anew s)).1):=by rw[hact,es];rfl
     have hbd:(preS anew s).comp.length+B 6≤100000000000:=by show 0+B 6≤_;decide
     refine cCall 3 (H.m 52 (by simp) _) (ask_r H ok3.sz ok3.rt 6 c.nc z2 (Nat.le_refl _) xn (preS anew s) h7 hx m7 hbd) fun v h8 hp=>?_
     obtain⟨rfl,m8,f8⟩:=hp;have w98:=w97.fr m7 f8;have st9:=stE (v:=.int .i64 (Qaj forms 6 xn (preS anew s)).1) (vs:=[.int .i64 (Qaj forms 6 xn (preS anew s)).1]) (m:=1) (o:=1) w98.get (by simp);obtain⟨m9,w99,lb9⟩:=m8.putOwn w98 (.cells (splice [.nilslice,.int .i64 0] 1 [.int .i64 (Qaj forms 6 xn (preS anew s)).1]) (some 87) 0 []);have A9:=(A7.fr m7 f8 hB0).own (b:=h4.next) (by omega) _ lb9;have f9:=(f27.trans f8).own (b:=h4.next) (by have:=f3.next;omega) _ lb9;simp only[wS,wC,Nat.reduceAdd,Nat.zero_add,st9];exact next _ _ ⟨by rw[ev];exact m9,f9,A9,Nat.le_trans n7 f8.next,by rw[ev];exact w99,by rw[ev]⟩ rfl
   ·rintro f8 h8 ⟨m8,f28,A8,n8,w98,hcmp⟩;dsimp only[fv,Nat.reduceAdd];refine W_ok 300 _ _ _ ?_;rw[List.drop_eq_getElem_cons ci]at hrun;simp only[runR]at hrun;generalize actS c.nc forms (preS anew s) acts[i]=d at m8 w98 hcmp v' i' ok' hrun ⊢;obtain⟨mv8,_,_,_,_,_,_,r8⟩:=m8.rd n0;obtain⟨sp8,g8⟩:=r8.ob;have hmo:=r8.gs.one;have st9:=stE (v:=mv8) (vs:=[mv8]) (m:=1) (o:=0) w98.get (by simp) hmo.2.1 hmo.2.2 rfl (by simp[hmo.1]);have hsp9:splice [.nilslice,.int .i64 d.2.2.2] 0 [mv8]=[mv8,.int .i64 d.2.2.2]:=rfl;obtain⟨m9,w99,lb9⟩:=m8.putOwn w98 (.cells [mv8,.int .i64 d.2.2.2] (some 87) 0 []);have hmv9:∀b,inB mv8 b→lB c h8 b:=fun b hb=>.inl ((cB_of g8 rfl).2 hb)
    have A9:=A8.own (b:=h4.next) (by omega) (.cells [mv8,.int .i64 d.2.2.2] (some 87) 0 []) lb9;have f29:=f28.own (b:=h4.next) (by have:=f3.next;omega) (.cells [mv8,.int .i64 d.2.2.2] (some 87) 0 []) lb9;have gm9:=r8.gs.keep (h':=h8.put h4.next (.cells [mv8,.int .i64 d.2.2.2] (some 87) 0 [])) (Nat.le_refl _) fun b hb=>Qab _ _ fun e=>w98.nc (e ▸ hmv9 b hb)
    have hbs4:c.bs≠h4.next:=by have:=w98.hb;have:=m8.o2;have:=m8.o3;have:=m8.o4;omega
    have g9:=(Qab h8 (.cells [mv8,.int .i64 d.2.2.2] (some 87) 0 []) hbs4).trans g8;simp only[wS,wC,Nat.reduceAdd,Nat.zero_add,r8.comp,st9];rw[hsp9];have n9:h5.next≤(h8.put h4.next (.cells [mv8,.int .i64 d.2.2.2] (some 87) 0 [])).next:=n8
    have hmv9':∀b,inB mv8 b→lB c (h8.put h4.next (.cells [mv8,.int .i64 d.2.2.2] (some 87) 0 [])) b:=fun b hb=>(lb9 b).2 (hmv9 b hb)
    generalize h8.put h4.next (.cells [mv8,.int .i64 d.2.2.2] (some 87) 0 [])=h9 at m9 w99 lb9 A9 f29 gm9 g9 n9 hmv9' ⊢
    have l9:loadA h9 2 (.ptr h4.next 0)=some [mv8,.int .i64 d.2.2.2]:=by rw[ldP w99.get];rfl
    have hbs2:∀h:AH,bsF h 1 [.nilslice,.int .i64 0] [(0,2,.agg [mv8,.int .i64 d.2.2.2])]=some (.slice h.next 0 1 1,h.alloc (.cells [mv8,.int .i64 d.2.2.2] none 0 [])):=fun _=>rfl
    simp only[wS,wC,Nat.reduceAdd,Nat.zero_add,l9,List.map_cons,List.map_nil,hbs2];obtain⟨m10,f10,w10⟩:=m9.alloc (.cells [mv8,.int .i64 d.2.2.2] none 0 []);have A10:=A9.fr m9 f10 (Nat.le_trans hh5 n9);have gm10:=gm9.up ((Up.refl m9.wf).alloc (.cells [mv8,.int .i64 d.2.2.2] none 0 []));have g10:=(Qad h9 (.cells [mv8,.int .i64 d.2.2.2] none 0 []) m9.bs_lt).trans g9;have hmv10:∀b,inB mv8 b→lB c (h9.alloc (.cells [mv8,.int .i64 d.2.2.2] none 0 [])) b:=fun b hb=>.inl ((cB_of g10 rfl).2 hb)
    generalize h9.alloc (.cells [mv8,.int .i64 d.2.2.2] none 0 [])=h10 at m10 f10 w10 A10 gm10 g10 hmv10 ⊢;have hx10:Qar h10 2 1 (.slice h9.next 0 1 1)=some [mv8,.int .i64 d.2.2.2]:=by
     simp only[Qar,AH.read,AH.cellsAt,w10.get];rfl
    have hone2:([mv8,.int .i64 d.2.2.2]:List AV).all AV.one=true:=by
     simp only[List.all_cons,List.all_nil,Bool.and_true,Bool.and_eq_true];exact⟨hmo.1,rfl⟩
    obtain⟨ov',h11,e11,P11⟩:=Qp0 (bytes:=32) A10.gs m10.wf m10.o5 (x:=.slice h9.next 0 1 1) (rs:=[[mv8,.int .i64 d.2.2.2]]) rfl hx10 (fun r hr=>by rw[List.mem_singleton.1 hr];exact⟨rfl,hone2⟩) (by decide) (by decide) (by decide) (by omega) (by simp);obtain⟨m11,lb11⟩:=m10.beside (S:=inB ov) (fun b hb=>⟨(A10.gs.inB hb).1,(A10.ob b hb).2.2⟩) P11.next (fun b hb hn=>P11.keep b hb hn) P11.wf
    have f2a:=f29.trans f10;have hup:IntKind.i64.wrap ((i:Int)+1)=((i+1:Nat):Int):=QaW (by omega);have f211:FrR c h2 h11:=⟨Nat.le_trans f2a.next P11.next,fun b hb q1 q2 q3=>(P11.keep b (Nat.lt_of_lt_of_le hb f2a.next) fun e=>by
     have:=(A10.ob b e).1;omega).trans (f2a.keep b hb q1 q2 q3),fun b hb=>f2a.comp b ((lb11 b).1 hb)⟩
    have nx:∀b,inB ov' b→inB ov b∨h10.next≤b:=fun b hb=>by
     rcases P11.new with⟨rfl,rfl⟩|hn
     ·exact .inl hb
     ·exact .inr (hn b hb)
    have olb:∀b,oB c h11 b→lB c h10 b:=fun b hb=>(lb11 b).1 (.inr hb)
    simp only[wS,wC,Nat.reduceAdd,Nat.zero_add,e11,hup];refine ih _ _ _ (by omega) ⟨i+1,_,_,ov',R++[[mv8,.int .i64 d.2.2.2]],l++[(d.2.2.1,d.2.2.2)],_,rfl,ci,m11,ok',v',i',f211,⟨P11.gs,fun b hb=>?_,by simp[A10.len],fun j q1 q2=>?_⟩,by simp[hRi],by rw[List.append_assoc];exact hrun,rfl,rfl⟩ rfl
    ·rcases nx b hb with e|e
     ·obtain⟨q1,q2,q3⟩:=A10.ob b e;exact⟨q1,by have:=P11.next;have:=f10.next;omega,fun e2=>q3 ((lb11 b).1 e2)⟩
     ·exact⟨by have:=f2a.next;omega,(P11.gs.inB hb).2,fun e2=>by have:=(m10.lb ((lb11 b).1 e2)).2;omega⟩
    ·by_cases ej:j<R.length
     ·obtain⟨w,r1,r2,r3⟩:=A10.row j ej (by rw[←A10.len];exact ej);refine⟨w,?_,?_,fun b hb=>?_⟩
      ·rw[List.getElem_append_left ej,List.getElem_append_left (by rw[←A10.len];exact ej)];exact r1
      ·rw[List.getElem_append_left (by rw[←A10.len];exact ej)];exact r2.keep P11.next fun b hb=>P11.keep b (r2.inB hb).2 (r3 b hb).2.2
      ·obtain⟨y1,y2,y3⟩:=r3 b hb;refine⟨by have:=P11.next;have:=f10.next;omega,fun e=>y2 (olb b e),fun e=>?_⟩;rcases nx b e with e|e
       ·exact y3 e
       ·have:=f10.next;omega
     ·have ejj:j=R.length:=by simp at q1;omega
      subst ejj;refine⟨mv8,by simp[A10.len],?_,fun b hb=>⟨?_,fun e=>?_,fun e=>?_⟩⟩
      ·have e1:(l++[(d.2.2.1,d.2.2.2)])[R.length]'(by simp[A10.len])=(d.2.2.1,d.2.2.2):=by simp[A10.len]
       rw[e1];have:=gm10.keep P11.next fun b hb=>P11.keep b (gm10.inB hb).2 fun e=>(A10.ob b e).2.2 (hmv10 b hb)
       rw[hcmp]at this;exact this
      ·have:=(gm10.inB hb).2;have:=P11.next;omega
      ·have kb:=P11.keep c.bc m10.bc_lt fun e=>by have:=(A10.gs.inB e).1;have:=m10.o4;omega
       refine m10.cmp_oB g10 hb ?_;unfold oB at e ⊢;rw[kb]at e;exact e
      ·rcases nx b e with e|e
       ·exact(A10.ob b e).2.2 (hmv10 b hb)
       ·have:=(gm10.inB hb).2;omega
 ·refine W_ok 300 _ _ _ ?_;have hd:decide ((i:Int)<(acts.length:Int))=false:=decide_eq_false (by omega);have hz:acts.drop i=[]:=List.drop_eq_nil_of_le (by omega);rw[hz]at hrun;simp only[runR,List.append_nil]at hrun;simp only[wS,wC,Nat.reduceAdd,Nat.zero_add,g7,g6,l3,lav,hd];refine Qag ⟨rfl,rfl,rfl,rfl⟩ H.f24 rfl (hk _ _ ⟨?_,?_⟩)
  ·rw[←hrun];exact⟨⟨R,A3.gs.sl (Nat.le_refl _),A3.len,fun j q1 q2=>by
    obtain⟨w,r1,r2,_⟩:=A3.row j q1 q2;exact⟨w,r1,r2.sl (Nat.le_refl _)⟩⟩⟩
  ·refine⟨Nat.le_trans u02.next f3.next,fun b hb=>?_,m3.wf⟩;have hb1:b<h1.next:=Nat.lt_of_lt_of_le hb u1.next
   rw[f3.keep b (Nat.lt_of_lt_of_le hb u02.next) (by omega) (.inl (by have:=m2.o2;omega)) fun e=>by have:=(m2.lb e).1;have:=m2.o2;have:=m2.o3;have:=m2.o4;omega];exact u02.keep b hb
end
structure FnN (F:FuncId→Option AFun)(M:Memo):Prop where
 R:FnR F M
 D:FnM F M
 f9:F 9=some fn9
 f10:F 10=some fn10
 f11:F 11=some fn11
 f12:F 12=some fn12
 f15:F 15=some fn15
 m:∀f∈[9,10,11,12,15],∀xs,M f xs=none
theorem QpH{cs:List CT}{as:List Act}(h:Qak cs as=0):QaC cs as=(runR cs.length false (Qaq cs) s0 as,0):=by
 unfold QaC;rw[if_pos h,QpK _ _ _ s0 rfl rfl rfl]
theorem QpY{cs:List CT}{as:List Act}(h:Qak cs as=0):QaJ cs as=(shown as (runR cs.length true (Qaq cs) s0 as),0):=by
 unfold QaJ;rw[if_pos h,QpZ _ _ _ s0 rfl rfl]
section
variable{F:FuncId→Option AFun}{M:Memo}{cells:List CT}{acts:List Act}{N:Nat}{h:AH}{cv av:AV}{crows arows:List (List AV)}
theorem Qp1(H:FnN F M)(u:Up h h)(hN:N≤h.next)(hc:RepCs N h cells cv crows)(ha:RepAs N h acts av arows) :
  Ctr F M 9 [.agg [cv,av]] h (fun v h'=>∃w,v=.tuple [w,.int .i64 (QaC cells acts).2]∧RepD h'.next h' (QaC cells acts).1 w∧Up h h') (fun _ _=>False):=by
 refine Ctr.intro H.f9 fun caller cs G hk _=>W_ok 300 _ _ _ ?_
 simp only[fn9,b9,Nat.reduceAdd,Nat.reduceSub,wS,wC];refine wBoxA (Wk.start u) fun b1 h1 w1=>?_
 have g1:=w1.get 0 rfl;have L1:=w1.up.low hN;have N1:=Nat.le_trans hN w1.up.next
 have l1:loadA h1 2 (.ptr b1 0)=some [cv,av]:=by rw[ldP g1];rfl
 simp only[wS,wC,Nat.reduceAdd,l1];refine cCall 300 (H.R.m 18 (by simp) _) (QdE H.R w1.self N1 (hc.low L1) (ha.low L1)) fun v h2 hp=>?_
 obtain⟨rfl,u2⟩:=hp;have g2:=(u2.keep b1 (lt_of_get w1.up.wf g1)).trans g1;have u12:=w1.up.trans u2;have L2:=u12.low hN;have N2:=Nat.le_trans hN u12.next
 have l2:loadA h2 2 (.ptr b1 0)=some [cv,av]:=by rw[ldP g2];rfl
 by_cases c0:Qak cells acts=0
 ·have d0:decide (Qak cells acts≠0)=false:=decide_eq_false (fun e=>e c0);simp only[wS,wC,Nat.reduceAdd,d0,l2];refine cCall 300 (H.D.m 24 (by simp) _) (QpJ H.D (anew:=false) (.refl u2.wf) N2 (hc.low L2) (ha.low L2) c0) fun v h3 hp=>?_
  obtain⟨hw,u3⟩:=hp;simp only[wS,wC,Nat.reduceAdd];refine Qag ⟨rfl,rfl,rfl,rfl⟩ H.f9 rfl (hk _ _ ⟨v,by rw[QpH c0];rfl,?_,u12.trans u3⟩);rw[QpH c0];exact hw
 ·have d0:decide (Qak cells acts≠0)=true:=decide_eq_true c0;have e:QaC cells acts=([],Qak cells acts):=if_neg c0;simp only[wS,wC,Nat.reduceAdd,d0];refine Qag ⟨rfl,rfl,rfl,rfl⟩ H.f9 rfl (hk _ _ ⟨.nilslice,by rw[e];rfl,?_,u12⟩);rw[e];exact⟨⟨[],Sl.nil,rfl,fun i h1=>absurd h1 (by simp)⟩⟩
theorem QpQ(H:FnN F M)(u:Up h h)(hN:N≤h.next)(hc:RepCs N h cells cv crows)(ha:RepAs N h acts av arows) :
  Ctr F M 15 [.agg [cv,av]] h (fun v h'=>∃w,v=.tuple [w,.int .i64 (QaJ cells acts).2]∧Sl h'.next h' 1 w (ints (QaJ cells acts).1)∧Up h h') (fun _ _=>False):=by
 refine Ctr.intro H.f15 fun caller cs G hk _=>W_ok 300 _ _ _ ?_
 simp only[fn15,b15,Nat.reduceAdd,Nat.reduceSub,wS,wC];refine wBoxA (Wk.start u) fun b1 h1 w1=>?_
 have g1:=w1.get 0 rfl;have L1:=w1.up.low hN;have N1:=Nat.le_trans hN w1.up.next
 have l1:loadA h1 2 (.ptr b1 0)=some [cv,av]:=by rw[ldP g1];rfl
 simp only[wS,wC,Nat.reduceAdd,l1];refine cCall 300 (H.R.m 18 (by simp) _) (QdE H.R w1.self N1 (hc.low L1) (ha.low L1)) fun v h2 hp=>?_
 obtain⟨rfl,u2⟩:=hp;have g2:=(u2.keep b1 (lt_of_get w1.up.wf g1)).trans g1;have u12:=w1.up.trans u2;have L2:=u12.low hN;have N2:=Nat.le_trans hN u12.next
 have l2:loadA h2 2 (.ptr b1 0)=some [cv,av]:=by rw[ldP g2];rfl
 by_cases c0:Qak cells acts=0
 ·have d0:decide (Qak cells acts≠0)=false:=decide_eq_false (fun e=>e c0);simp only[wS,wC,Nat.reduceAdd,d0,l2];refine cCall 300 (H.D.m 24 (by simp) _) (QpJ H.D (anew:=true) (.refl u2.wf) N2 (hc.low L2) (ha.low L2) c0) fun v h3 hp=>?_
  obtain⟨hw,u3⟩:=hp;have g3:=(u3.keep b1 (lt_of_get u2.wf g2)).trans g2;have u13:=u12.trans u3;have ha3:=ha.low (u13.low hN);have hlen:(runR cells.length true (Qaq cells) s0 acts).length=acts.length:=QpN _ _ _;have h10:=(QbP c0).2.2.1;have es:=QpY c0;generalize runR cells.length true (Qaq cells) s0 acts=D at hw hlen es;simp only[wS,wC,Nat.reduceAdd];refine Qfi [φ,φ,φ,φ,φ,φ,τ,τ,φ,φ,φ,φ,φ,φ,φ,τ,τ,τ,τ,τ,τ,τ,τ,τ,τ,τ,τ,τ,τ,τ,τ,τ,τ,τ,τ,τ] (fun mm f h'=>∃(j:Nat) (gv:AV) (g:List Int),mm=D.length-j∧j≤D.length∧Up h3 h'∧GE h3.next h' 6 1 gv (ints g)∧g.length≤j∧g++shown (acts.drop j) (D.drop j)=shown acts D∧f 7=.int .i64 (j:Int)∧f 6=gv) (D.length-0) ⟨0,.nilslice,[],rfl,Nat.zero_le _,.refl u3.wf,GL.nil.ge,Nat.zero_le _,rfl,rfl,rfl⟩ ?_;rintro mm f2 h19 ⟨j,gv,g,rfl,hj,u19,ge19,hgj,hsum,f15,f14⟩ ih2;dsimp only[fv,Nat.reduceAdd];refine W_ok 300 _ _ _ ?_;have g19:=(u19.keep b1 (lt_of_get u3.wf g3)).trans g3;by_cases cj:j<D.length
  ·have hd2:decide ((j:Int)<(D.length:Int))=true:=decide_eq_true (by omega);have cja:j<acts.length:=by omega
   have l19:loadA h19 1 (.ptr b1 1)=some [av]:=by rw[ldP g19];rfl
   obtain⟨q,q1,q2,q3,_⟩:=(ha3.low (u19.low (Nat.le_trans hN u13.next))).at j cja;have hup2:IntKind.i64.wrap ((j:Int)+1)=((j+1:Nat):Int):=QaW (by omega);rw[QhL _ _ _ cja cj]at hsum;cases es:acts[j].set with
   |true =>
    rw[es]at hsum;simp only[if_true,List.nil_append]at hsum;simp only[wS,wC,Nat.reduceAdd,f14,f15,hw.len,hd2,faP,Nat.zero_add,l19,q1,q2,q3,es,Bool.not_true,hup2];exact ih2 _ _ _ (by omega) ⟨j+1,gv,g,rfl,cj,u19,ge19,by omega,hsum,rfl,rfl⟩ rfl
   |false =>
    rw[es]at hsum;simp only[Bool.false_eq_true,if_false]at hsum;obtain⟨p,w0,r1,r2,r3,r4,r5,_⟩:=(hw.low (u19.low (Nat.le_refl _))).at j cj;simp only[wS,wC,Nat.reduceAdd,f14,f15,hw.len,hd2,faP,Nat.zero_add,l19,q1,q2,q3,es,Bool.not_false,r1,r4,r5,List.map_cons,List.map_nil,bs1];have u20:=u19.alloc (.cells [.int .i64 D[j].2] none 0 []);have g20:=Qam h19 (.cells [.int .i64 D[j].2] none 0 []);have ge20:=ge19.up ((Up.refl u19.wf).alloc (.cells [.int .i64 D[j].2] none 0 []));generalize h19.alloc (.cells [.int .i64 D[j].2] none 0 [])=h20 at u20 g20 ge20 ⊢;have hx20:Qar h20 1 1 (.slice h19.next 0 1 1)=some [.int .i64 D[j].2]:=by
     simp only[Qar,AH.read,AH.cellsAt,g20];rfl
    obtain⟨gv',h21,e21,A21⟩:=Qff (bytes:=8) ge20 u20.wf u20.next (x:=.slice h19.next 0 1 1) (rs:=[[.int .i64 D[j].2]]) rfl hx20 (fun r hr=>by rw[List.mem_singleton.1 hr];exact⟨rfl,rfl⟩) (by decide) (by decide) (by decide) (by simp[ints];omega) (by simp)
    simp only[wS,wC,Nat.reduceAdd,e21,hup2];exact ih2 _ _ _ (by omega) ⟨j+1,gv',g++[D[j].2],rfl,cj,A21.up u20 (Nat.le_refl _),by simpa[ints] using A21.ge,by simp;omega,by rw[List.append_assoc];exact hsum,rfl,rfl⟩ rfl
  ·have hd2:decide ((j:Int)<(D.length:Int))=false:=decide_eq_false (by omega);have hz2:acts.drop j=[]:=List.drop_eq_nil_of_le (by omega);rw[hz2]at hsum;have hg:g=shown acts D:=by simpa[shown] using hsum
   simp only[wS,wC,Nat.reduceAdd,f14,f15,hw.len,hd2];refine Qag ⟨rfl,rfl,rfl,rfl⟩ H.f15 rfl (hk _ _ ⟨gv,by rw[es];rfl,?_,u13.trans u19⟩);rw[es];show Sl _ _ 1 gv (ints (shown acts D));rw[←hg];exact ge19.sl (Nat.le_refl _)
 ·have d0:decide (Qak cells acts≠0)=true:=decide_eq_true c0;have e:QaJ cells acts=([],Qak cells acts):=if_neg c0;simp only[wS,wC,Nat.reduceAdd,d0];refine Qag ⟨rfl,rfl,rfl,rfl⟩ H.f15 rfl (hk _ _ ⟨.nilslice,by rw[e];rfl,?_,u12⟩);rw[e];exact Sl.nil
end
def markI(x:Int):Int:=IntKind.i64.wrap (1000+x)
def QpB:List Act→List Told→List Int
 |a::as,d::ds=>d.1.map markI++(if a.set then [] else [d.2])++QpB as ds
 |_,_=>[]
theorem QpL:∀(as:List Act)(ds:List Told)(i:Nat)(h1:i<as.length)(h2:i<ds.length),QpB (as.drop i) (ds.drop i)=ds[i].1.map markI++(if as[i].set then [] else [ds[i].2])++QpB (as.drop (i+1)) (ds.drop (i+1)):=fun as ds i h1 h2=>by
 rw[List.drop_eq_getElem_cons h1,List.drop_eq_getElem_cons h2];rfl
theorem QpG:∀(as:List Act)(ds:List Told),(∀d∈ds,d.1.length<1000000000)→(QpB as ds).length≤ds.length*1000000000
 | [],ds,_=>by simp[QpB]
 |a::as,[],_=>by simp[QpB]
 |a::as,d::ds,h=>by
  have h1:=h d (by simp);have h2:=QpG as ds fun e he=>h e (by simp[he])
  have h3:(if a.set then [] else [d.2]:List Int).length≤1:=by split<;>simp
  simp only[QpB,List.length_append,List.length_map,List.length_cons];omega
theorem app1{h0 h:AH}{gv:AV}{g:List Int}{n:Int}(u:Up h0 h)(ge:GE h0.next h 6 1 gv (ints g))(hg:g.length<100000000000) :
  ∃gv' h',appF (h.alloc (.cells [.int .i64 n] none 0 [])) 1 8 6 gv (.slice h.next 0 1 1)=some (gv',h')∧GE h0.next h' 6 1 gv' (ints (g++[n]))∧Up h0 h':=by
 have u20:=u.alloc (.cells [.int .i64 n] none 0 []);have g20:=Qam h (.cells [.int .i64 n] none 0 []);have ge20:=ge.up ((Up.refl u.wf).alloc (.cells [.int .i64 n] none 0 []));generalize h.alloc (.cells [.int .i64 n] none 0 [])=h20 at u20 g20 ge20 ⊢;have hx20:Qar h20 1 1 (.slice h.next 0 1 1)=some [.int .i64 n]:=by
  simp only[Qar,AH.read,AH.cellsAt,g20];rfl
 obtain⟨gv',h21,e21,A21⟩:=Qff (bytes:=8) ge20 u20.wf u20.next (x:=.slice h.next 0 1 1) (rs:=[[.int .i64 n]]) rfl hx20 (fun r hr=>by rw[List.mem_singleton.1 hr];exact⟨rfl,rfl⟩) (by decide) (by decide) (by decide) (by simp[ints];omega) (by simp)
 exact⟨gv',h21,e21,by simpa[ints] using A21.ge,A21.up u20 (Nat.le_refl _)⟩
theorem app1'{h0 h:AH}{gv:AV}{g:List Int}{n:Int}(u:Up h0 h)(ge:GE h0.next h 6 1 gv (ints g))(hg:g.length<100000000000) :
  ∃gv' h',appF (h.alloc (.cells [.int .i64 n] none 0 [])) 1 8 6 gv (.slice h.next 0 1 1)=some (gv',h')∧GE h0.next h' 6 1 gv' (ints (g++[n]))∧Up h0 h'∧(∀b,b<h.next→¬inB gv b→h'.get b=h.get b)∧∀b,inB gv' b→inB gv b∨h.next≤b:=by
 have u20:=u.alloc (.cells [.int .i64 n] none 0 []);have g20:=Qam h (.cells [.int .i64 n] none 0 []);have gs:GS h0.next h 6 1 gv (ints g):=by
  refine⟨?_,ge.row⟩;rcases ge.val with e|⟨e0,b,sp,e1,e2,e3,e4⟩
  ·exact .inl e
  ·rw[e0];exact .inr ⟨b,sp,e1,e2,e3,e4⟩
 have gs20:=gs.up ((Up.refl u.wf).alloc (.cells [.int .i64 n] none 0 []));have k20:∀b,b<h.next→(h.alloc (.cells [.int .i64 n] none 0 [])).get b=h.get b:=fun b hb=>Qad _ _ hb
 have n20:(h.alloc (.cells [.int .i64 n] none 0 [])).next=h.next+1:=rfl
 generalize h.alloc (.cells [.int .i64 n] none 0 [])=h20 at u20 g20 gs20 k20 n20 ⊢;have hx20:Qar h20 1 1 (.slice h.next 0 1 1)=some [.int .i64 n]:=by
  simp only[Qar,AH.read,AH.cellsAt,g20];rfl
 obtain⟨gv',h21,e21,A21⟩:=Qp0 (bytes:=8) gs20 u20.wf u20.next (x:=.slice h.next 0 1 1) (rs:=[[.int .i64 n]]) rfl hx20 (fun r hr=>by rw[List.mem_singleton.1 hr];exact⟨rfl,rfl⟩) (by decide) (by decide) (by decide) (by simp[ints];omega) (by simp)
 have hgs:GS h0.next h21 6 1 gv' (ints (g++[n])):=by
  have:=A21.gs;simpa[ints] using this
 refine⟨gv',h21,e21,⟨?_,hgs.row⟩,⟨Nat.le_trans u20.next A21.next,fun b hb=>?_,A21.wf⟩,fun b hb hn=>?_,fun b hb=>?_⟩
 ·rcases hgs.val with e|⟨b,sp,e1,e2,e3,e4⟩
  ·exact .inl e
  ·exfalso;rcases A21.new with⟨e,_⟩|hn
   ·rcases ge.val with e5|⟨e0,b5,sp5,e6,_⟩
    ·rcases e5.val with⟨e7,_⟩|⟨b7,_,_,e7,_⟩
     ·rw[e,e7]at e1;cases e1
     ·rw[e,e7]at e1;cases e1
    ·rw[e,e6]at e1;injection e1 with _ _ e8;simp[ints]at e8
   ·have hn':=e21;have hlr:lenA (.slice h.next 0 1 1)=some 1:=rfl;have q1:=hn b ⟨_,_,.inr e1⟩;simp only[appF,hlr,hx20]at hn';unfold QbU at hn';rw[if_pos ⟨rfl,by decide,by decide,by decide,by decide,rfl⟩,if_neg (by decide)]at hn';rcases gs20.val with e5|⟨b5,sp5,e6,e7,e8,e9⟩
    ·rcases e5.val with⟨e7,_⟩|⟨b7,pre7,anc7,e7,e8,_⟩
     ·rw[e7]at hn';simp only[oI,Prod.mk.injEq]at hn';rw[←hn'.1]at e1;cases e1
     ·rw[e7]at hn';simp only[e8]at hn';split at hn'
      ·split at hn'
       ·simp only[AH.store,e8]at hn';split at hn'
        ·split at hn'<;>(simp only[Option.map_some,oI,Prod.mk.injEq]at hn';rw[←hn'.1]at e1;cases e1)
        ·cases hn'
       ·split at hn'
        ·simp only[oI,Prod.mk.injEq]at hn';rw[←hn'.1]at e1;cases e1
        ·simp only[oI,Prod.mk.injEq]at hn';rw[←hn'.1]at e1;cases e1
      ·cases hn'
    ·rw[e6]at hn';have:¬((ints g).length+1≤(ints g).length):=by omega
     simp only[this,if_false,AH.read,AH.cellsAt,e7]at hn';split at hn'
     ·split at hn'
      ·simp only[Option.map_some,oI,Prod.mk.injEq]at hn';rw[←hn'.1]at e1;cases e1
      ·cases hn'
     ·cases hn'
 ·rw[A21.keep b (Nat.lt_of_lt_of_le hb u20.next) fun e=>by have:=(gs20.inB e).1;omega];exact u20.keep b hb
 ·rw[A21.keep b (by omega) hn,k20 b hb]
 ·rcases A21.new with⟨e,_⟩|hn
  ·exact .inl (e ▸ hb)
  ·exact .inr (by have:=hn b hb;omega)
section
variable{F:FuncId→Option AFun}{M:Memo}{cells:List CT}{acts:List Act}{N:Nat}{h:AH}{cv av:AV}{crows arows:List (List AV)}
theorem QpR(H:FnN F M)(u:Up h h)(hN:N≤h.next)(hc:RepCs N h cells cv crows)(ha:RepAs N h acts av arows) :
  Ctr F M 12 [.agg [cv,av]] h (fun v h'=>∃w,v=.tuple [w,.int .i64 (QaC cells acts).2]∧Sl h'.next h' 1 w (ints (QpB acts (QaC cells acts).1))∧Up h h') (fun _ _=>False):=by
 refine Ctr.intro H.f12 fun caller cs G hk _=>W_ok 300 _ _ _ ?_
 simp only[fn12,b12,Nat.reduceAdd,Nat.reduceSub,wS,wC];refine wBoxA (Wk.start u) fun b1 h1 w1=>?_
 have g1:=w1.get 0 rfl;have L1:=w1.up.low hN;have N1:=Nat.le_trans hN w1.up.next
 have l1:loadA h1 2 (.ptr b1 0)=some [cv,av]:=by rw[ldP g1];rfl
 simp only[wS,wC,Nat.reduceAdd,l1];refine cCall 300 (H.R.m 18 (by simp) _) (QdE H.R w1.self N1 (hc.low L1) (ha.low L1)) fun v h2 hp=>?_
 obtain⟨rfl,u2⟩:=hp;have g2:=(u2.keep b1 (lt_of_get w1.up.wf g1)).trans g1;have u12:=w1.up.trans u2;have L2:=u12.low hN;have N2:=Nat.le_trans hN u12.next
 have l2:loadA h2 2 (.ptr b1 0)=some [cv,av]:=by rw[ldP g2];rfl
 by_cases c0:Qak cells acts=0
 ·have d0:decide (Qak cells acts≠0)=false:=decide_eq_false (fun e=>e c0);simp only[wS,wC,Nat.reduceAdd,d0,l2];refine cCall 300 (H.D.m 24 (by simp) _) (QpJ H.D (anew:=false) (.refl u2.wf) N2 (hc.low L2) (ha.low L2) c0) fun v h3 hp=>?_
  obtain⟨hw,u3⟩:=hp;have g3:=(u3.keep b1 (lt_of_get u2.wf g2)).trans g2;have u13:=u12.trans u3;have ha3:=ha.low (u13.low hN);have hlen:(runR cells.length false (Qaq cells) s0 acts).length=acts.length:=QpN _ _ _;have h10:=(QbP c0).2.2.1;have es:=QpH c0;obtain⟨D',eD',_,shrt⟩:=Qgr c0;rw[es]at eD';injection eD' with eD' _;subst eD';generalize runR cells.length false (Qaq cells) s0 acts=D at hw hlen es shrt;have hbd:∀{g r:List Int},g++r=QpB acts D→g.length<100000000000:=fun {g r} e=>by
   have q1:=congrArg List.length e;have q2:=QpG acts D fun d hd=>by
    obtain⟨i,hi,rfl⟩:=List.getElem_of_mem hd;exact shrt i hi
   rw[List.length_append]at q1;omega
  simp only[wS,wC,Nat.reduceAdd];refine Qfi [φ,φ,φ,φ,φ,φ,τ,τ,τ,φ,φ,φ,φ,φ,φ,φ,τ,τ,τ,τ,τ,τ,τ,τ,τ,τ,τ,τ,τ,τ,τ,τ,τ,τ,τ,τ,τ,τ,τ,τ,τ,τ,τ,τ,τ,τ,τ,τ,τ,τ,τ,τ,τ,τ,τ,τ,τ,τ,τ] (fun mm f h'=>∃(j:Nat) (gv:AV) (g:List Int),mm=D.length-j∧j≤D.length∧Up h3 h'∧GE h3.next h' 6 1 gv (ints g)∧g++QpB (acts.drop j) (D.drop j)=QpB acts D∧f 7=.int .i64 (j:Int)∧f 6=gv) (D.length-0) ⟨0,.nilslice,[],rfl,Nat.zero_le _,.refl u3.wf,GL.nil.ge,rfl,rfl,rfl⟩ ?_;rintro mm f2 h19 ⟨j,gv,g,rfl,hj,u19,ge19,hsum,f7,f6⟩ ih2;dsimp only[fv,Nat.reduceAdd];refine W_ok 300 _ _ _ ?_;by_cases cj:j<D.length
  ·have hd2:decide ((j:Int)<(D.length:Int))=true:=decide_eq_true (by omega);have cja:j<acts.length:=by omega
   have hsh:=shrt j cj;rw[QpL _ _ _ cja cj]at hsum;simp only[wS,wC,Nat.reduceAdd,f6,f7,hw.len,hd2];refine Qfi [φ,φ,φ,φ,φ,φ,τ,φ,τ,φ,φ,φ,φ,φ,φ,φ,φ,φ,φ,φ,φ,φ,τ,τ,τ,τ,τ,τ,τ,τ,τ,τ,τ,τ,τ,τ,τ,τ,τ,τ,τ,τ,τ,τ] (fun mm f h'=>∃(q:Nat) (gv:AV) (g:List Int),mm=D[j].1.length-q∧q≤D[j].1.length∧Up h3 h'∧GE h3.next h' 6 1 gv (ints g)∧g++((D[j].1.drop q).map markI++(if acts[j].set then [] else [D[j].2])++QpB (acts.drop (j+1)) (D.drop (j+1)))=QpB acts D∧f 8=.int .i64 (q:Int)∧f 6=gv) (D[j].1.length-0) ⟨0,gv,g,rfl,Nat.zero_le _,u19,ge19,hsum,rfl,rfl⟩ ?_;rintro mm f3 h20 ⟨q,gv,g,rfl,hq,u20,ge20,hsum,f8,f6⟩ ih3;dsimp only[fv,Nat.reduceAdd];refine W_ok 300 _ _ _ ?_;have g20:=(u20.keep b1 (lt_of_get u3.wf g3)).trans g3;obtain⟨p,w0,r1,r2,r3,r4,r5,r6,r7⟩:=(hw.low (u20.low (Nat.le_refl _))).at j cj;by_cases cq:q<D[j].1.length
   ·have hd3:decide ((q:Int)<(D[j].1.length:Int))=true:=decide_eq_true (by omega);obtain⟨y,y1,y2⟩:=r7 q cq;have hup3:IntKind.i64.wrap ((q:Int)+1)=((q+1:Nat):Int):=QaW (by omega);obtain⟨gv',h21,e21,ge21,u21⟩:=app1 (n:=IntKind.i64.wrap (1000+D[j].1[q])) u20 ge20 (hbd hsum);simp only[wS,wC,Nat.reduceAdd,f6,f7,f8,r1,r2,r3,r6,hd3,y1,y2,List.map_cons,List.map_nil,bs1,e21,hup3];refine ih3 _ _ _ (by omega) ⟨q+1,gv',_,rfl,cq,u21,ge21,?_,rfl,rfl⟩ rfl;rw[List.drop_eq_getElem_cons cq,List.map_cons]at hsum;rw[List.append_assoc];exact hsum
   ·have hd3:decide ((q:Int)<(D[j].1.length:Int))=false:=decide_eq_false (by omega);have hz3:D[j].1.drop q=[]:=List.drop_eq_nil_of_le (by omega);rw[hz3]at hsum;have l20:loadA h20 1 (.ptr b1 1)=some [av]:=by rw[ldP g20];rfl
    obtain⟨q',q1,q2,q3,_⟩:=(ha3.low (u20.low (Nat.le_trans hN u13.next))).at j cja;have hup2:IntKind.i64.wrap ((j:Int)+1)=((j+1:Nat):Int):=QaW (by omega);cases es:acts[j].set with
    |true =>
     rw[es]at hsum;simp only[wS,wC,Nat.reduceAdd,f6,f7,f8,r1,r2,r3,r6,hd3,faP,Nat.zero_add,l20,q1,q2,q3,es,Bool.not_true,hup2];exact ih2 _ _ _ (by omega) ⟨j+1,gv,g,rfl,cj,u20,ge20,by simpa using hsum,rfl,rfl⟩ rfl
    |false =>
     rw[es]at hsum;obtain⟨gv',h21,e21,ge21,u21⟩:=app1 (n:=D[j].2) u20 ge20 (hbd hsum);simp only[wS,wC,Nat.reduceAdd,f6,f7,f8,r1,r2,r3,r6,hd3,faP,Nat.zero_add,l20,q1,q2,q3,es,Bool.not_false,r4,r5,List.map_cons,List.map_nil,bs1,e21,hup2];exact ih2 _ _ _ (by omega) ⟨j+1,gv',_,rfl,cj,u21,ge21,by simpa[List.append_assoc] using hsum,rfl,rfl⟩ rfl
  ·have hd2:decide ((j:Int)<(D.length:Int))=false:=decide_eq_false (by omega);have hz2:acts.drop j=[]:=List.drop_eq_nil_of_le (by omega);rw[hz2]at hsum;have hg:g=QpB acts D:=by simpa[QpB] using hsum
   simp only[wS,wC,Nat.reduceAdd,f6,f7,hw.len,hd2];refine Qag ⟨rfl,rfl,rfl,rfl⟩ H.f12 rfl (hk _ _ ⟨gv,by rw[es];rfl,?_,u13.trans u19⟩);rw[es];show Sl _ _ 1 gv (ints (QpB acts D));rw[←hg];exact ge19.sl (Nat.le_refl _)
 ·have d0:decide (Qak cells acts≠0)=true:=decide_eq_true c0;have e:QaC cells acts=([],Qak cells acts):=if_neg c0;have e2:∀as,QpB as []=[]:=fun as=>by cases as<;>rfl
  simp only[wS,wC,Nat.reduceAdd,d0];refine Qag ⟨rfl,rfl,rfl,rfl⟩ H.f12 rfl (hk _ _ ⟨.nilslice,by rw[e];rfl,?_,u12⟩);rw[e];show Sl _ _ 1 .nilslice (ints (QpB acts []));rw[e2];exact Sl.nil
theorem QpV(H:FnN F M)(E:FnE F M)(u:Up h h)(hN:N≤h.next)(hc:RepCs N h cells cv crows)(ha:RepAs N h acts av arows) :
  Ctr F M 11 [.agg [cv,av]] h (fun v h'=>∃w,v=.tuple [w,.int .i64 (QaC cells acts).2]∧Sl h'.next h' 1 w (ints (QpB acts (QaC cells acts).1))∧Up h h') (fun _ _=>False):=by
 refine Ctr.intro H.f11 fun caller cs G hk _=>W_ok 300 _ _ _ ?_
 simp only[fn11,b11,Nat.reduceAdd,Nat.reduceSub,wS,wC];refine wBoxA (Wk.start u) fun b1 h1 w1=>?_
 have g1:=w1.get 0 rfl;have L1:=w1.up.low hN;have N1:=Nat.le_trans hN w1.up.next
 have l1:loadA h1 2 (.ptr b1 0)=some [cv,av]:=by rw[ldP g1];rfl
 simp only[wS,wC,Nat.reduceAdd,l1];refine cCall 300 (E.m 8 (by simp) _) (Qex E w1.self N1 (hc.low L1) (ha.low L1)) fun v h3 hp=>?_
 obtain⟨w,rfl,hw,u3⟩:=hp;have g3:=(u3.keep b1 (lt_of_get w1.up.wf g1)).trans g1;have u13:=w1.up.trans u3;have ha3:=ha.low (u13.low hN);have facts:(QaC cells acts).1.length≤acts.length∧(QaC cells acts).1.length≤10∧∀i (h1:i<(QaC cells acts).1.length),(QaC cells acts).1[i].1.length<1000000000:=by
  by_cases c0:Qak cells acts=0
  ·obtain⟨D,eD,e1,e2⟩:=Qgr c0;have h10:=(QbP c0).2.2.1;simp only[eD];exact⟨by omega,by omega,e2⟩
  ·have e:QaC cells acts=([],Qak cells acts):=if_neg c0;rw[e];exact⟨Nat.zero_le _,Nat.zero_le _,fun i h1=>absurd h1 (by simp)⟩
 generalize QaC cells acts=DD at hw hk facts ⊢;obtain⟨D,e⟩:=DD;obtain⟨hla,h10,shrt⟩:=facts;have hw':RepD h3.next h3 D w:=hw
 have hla':D.length≤acts.length:=hla;have h10':D.length≤10:=h10;have shrt':∀i (h1:i<D.length),D[i].1.length<1000000000:=shrt;clear hw hla h10 shrt;have hbd:∀{g r:List Int},g++r=QpB acts D→g.length<100000000000:=fun {g r} e=>by
  have q1:=congrArg List.length e;have q2:=QpG acts D fun d hd=>by
   obtain⟨i,hi,rfl⟩:=List.getElem_of_mem hd;exact shrt' i hi
  rw[List.length_append]at q1;omega
 simp only[wS,wC,Nat.reduceAdd,extT,List.getElem?_cons_zero,List.getElem?_cons_succ,Option.map_some,hw'.len];refine Qfi [φ,φ,φ,φ,φ,φ,τ,τ,τ,φ,τ,φ,φ,φ,φ,φ,φ,φ,τ,τ,τ,τ,τ,τ,τ,τ,τ,τ,τ,τ,τ,τ,τ,τ,τ,τ,τ,τ,τ,τ,τ,τ,τ,τ,τ,τ,τ,τ,τ] (fun mm f h'=>∃(j:Nat) (gv:AV) (g:List Int),mm=D.length-j∧j≤D.length∧Up h3 h'∧GE h3.next h' 6 1 gv (ints g)∧g++QpB (acts.drop j) (D.drop j)=QpB acts D∧f 18=.int .i64 (j:Int)∧f 6=gv) (D.length-0) ⟨0,.nilslice,[],rfl,Nat.zero_le _,.refl u3.wf,GL.nil.ge,rfl,rfl,rfl⟩ ?_;rintro mm f2 h19 ⟨j,gv,g,rfl,hj,u19,ge19,hsum,f18,f6⟩ ih2;dsimp only[fv,Nat.reduceAdd];refine W_ok 300 _ _ _ ?_;by_cases cj:j<D.length
 ·have hd2:decide ((j:Int)<(D.length:Int))=true:=decide_eq_true (by omega);have cja:j<acts.length:=by omega
  obtain⟨rows,sr,er,rr⟩:=(hw'.low (u19.low (Nat.le_refl _))).ex;obtain⟨p,p1,_,p3⟩:=sr.row j (by omega);obtain⟨ww,e1,sw⟩:=rr j (by omega) cj;rw[e1]at p3;have wo:=sw.val;have ho2:([ww,.int .i64 D[j].2]:List AV).all AV.one=true:=by
   simp only[List.all_cons,List.all_nil,Bool.and_true,Bool.and_eq_true];exact⟨wo.2.2,rfl⟩
  rw[QpL _ _ _ cja cj]at hsum;simp only[wS,wC,Nat.reduceAdd,f6,f18,hd2,p1,p3,alE];rw[QpX (m:=2) rfl rfl ho2];have u20:=u19.alloc (.cells [ww,.int .i64 D[j].2] (some 87) 0 []);have g20:=Qam h19 (.cells [ww,.int .i64 D[j].2] (some 87) 0 []);have ge20:=ge19.up ((Up.refl u19.wf).alloc (.cells [ww,.int .i64 D[j].2] (some 87) 0 []));have hb20:h19.next<(h19.alloc (.cells [ww,.int .i64 D[j].2] (some 87) 0 [])).next:=Nat.lt_succ_self _
  simp only[wS,wC,Nat.reduceAdd];generalize h19.alloc (.cells [ww,.int .i64 D[j].2] (some 87) 0 [])=h20 at u20 g20 ge20 hb20 ⊢;have hwl:lenS ww=some D[j].1.length:=by rw[sw.len];simp[ints]
  have hsh:=shrt' j cj;have l20:loadA h20 1 (.ptr h19.next 0)=some [ww]:=by rw[ldP g20];rfl
  simp only[wS,wC,Nat.reduceAdd,Nat.zero_add,l20,hwl];refine Qfi [φ,φ,φ,φ,φ,φ,τ,φ,φ,φ,τ,φ,φ,φ,φ,φ,φ,φ,φ,φ,φ,φ,φ,φ,φ,φ,τ,τ,τ,τ,τ,τ,τ,τ,τ,τ] (fun mm f h'=>∃(q:Nat) (gv:AV) (g:List Int),mm=D[j].1.length-q∧q≤D[j].1.length∧Up h3 h'∧h'.get h19.next=some (.cells [ww,.int .i64 D[j].2] (some 87) 0 [])∧GE h3.next h' 6 1 gv (ints g)∧(∀b,inB gv b→b≠h19.next)∧g++((D[j].1.drop q).map markI++(if acts[j].set then [] else [D[j].2])++QpB (acts.drop (j+1)) (D.drop (j+1)))=QpB acts D∧f 26=.int .i64 (q:Int)∧f 6=gv) (D[j].1.length-0) ⟨0,gv,g,rfl,Nat.zero_le _,u20,g20,ge20,(fun b hb=>by have:=(ge19.inB hb).2;omega),hsum,rfl,rfl⟩ ?_;rintro mm f3 h21 ⟨q,gv,g,rfl,hq,u21,g21,ge21,hne,hsum,f26,f6⟩ ih3;dsimp only[fv,Nat.reduceAdd];refine W_ok 300 _ _ _ ?_;by_cases cq:q<D[j].1.length
  ·have hd3:decide ((q:Int)<(D[j].1.length:Int))=true:=decide_eq_true (by omega);have sw21:Sl h3.next h21 1 ww (ints D[j].1):=sw.low fun b hb=>(u21.keep b hb).trans (u19.keep b hb).symm
   obtain⟨y,y1,_,y2⟩:=sw21.row q (by simpa[ints] using cq);have y2':loadA h21 1 y=some [.int .i64 D[j].1[q]]:=by simpa[ints] using y2
   have hup3:IntKind.i64.wrap ((q:Int)+1)=((q+1:Nat):Int):=QaW (by omega);obtain⟨gv',h22,e22,ge22,u22,k22,n22⟩:=app1' (n:=IntKind.i64.wrap (1000+D[j].1[q])) u21 ge21 (hbd hsum);have g22:=(k22 h19.next (lt_of_get u21.wf g21) fun e=>hne _ e rfl).trans g21;simp only[wS,wC,Nat.reduceAdd,f6,f26,hd3,y1,y2',List.map_cons,List.map_nil,bs1,e22,hup3];refine ih3 _ _ _ (by omega) ⟨q+1,gv',_,rfl,cq,u22,g22,ge22,fun b hb=>?_,?_,rfl,rfl⟩ rfl
   ·rcases n22 b hb with e|e
    ·exact hne b e
    ·have:=lt_of_get u21.wf g21;omega
   ·rw[List.drop_eq_getElem_cons cq,List.map_cons]at hsum;rw[List.append_assoc];exact hsum
  ·have hd3:decide ((q:Int)<(D[j].1.length:Int))=false:=decide_eq_false (by omega);have hz3:D[j].1.drop q=[]:=List.drop_eq_nil_of_le (by omega);rw[hz3]at hsum;have gb21:=(u21.keep b1 (lt_of_get u3.wf g3)).trans g3;have l21:loadA h21 1 (.ptr b1 1)=some [av]:=by rw[ldP gb21];rfl
   have lv21:loadA h21 1 (.ptr h19.next 1)=some [.int .i64 D[j].2]:=by rw[ldP g21];rfl
   obtain⟨q',q1,q2,q3,_⟩:=(ha3.low (u21.low (Nat.le_trans hN u13.next))).at j cja;have hup2:IntKind.i64.wrap ((j:Int)+1)=((j+1:Nat):Int):=QaW (by omega);cases es:acts[j].set with
   |true =>
    rw[es]at hsum;simp only[wS,wC,Nat.reduceAdd,f6,f26,hd3,faP,Nat.zero_add,l21,q1,q2,q3,es,Bool.not_true,hup2];exact ih2 _ _ _ (by omega) ⟨j+1,gv,g,rfl,cj,u21,ge21,by simpa using hsum,rfl,rfl⟩ rfl
   |false =>
    rw[es]at hsum;obtain⟨gv',h22,e22,ge22,u22,_⟩:=app1' (n:=D[j].2) u21 ge21 (hbd hsum);simp only[wS,wC,Nat.reduceAdd,f6,f26,hd3,faP,Nat.zero_add,l21,lv21,q1,q2,q3,es,Bool.not_false,List.map_cons,List.map_nil,bs1,e22,hup2];exact ih2 _ _ _ (by omega) ⟨j+1,gv',_,rfl,cj,u22,ge22,by simpa[List.append_assoc] using hsum,rfl,rfl⟩ rfl
 ·have hd2:decide ((j:Int)<(D.length:Int))=false:=decide_eq_false (by omega);have hz2:D.drop j=[]:=List.drop_eq_nil_of_le (by omega);have hg:g=QpB acts D:=by
   rw[hz2]at hsum;have:QpB (acts.drop j) []=[]:=by cases acts.drop j<;>rfl
   rw[this]at hsum;simpa using hsum
  simp only[wS,wC,Nat.reduceAdd,f6,f18,hd2];refine Qag ⟨rfl,rfl,rfl,rfl⟩ H.f11 rfl (hk _ _ ⟨gv,rfl,?_,u13.trans u19⟩);show Sl _ _ 1 gv (ints (QpB acts D));rw[←hg];exact ge19.sl (Nat.le_refl _)
end
section
variable{F:FuncId→Option AFun}{M:Memo}
theorem drop_eq{l:List Int}{i:Nat}(hi:i<l.length):l.drop i=l[i]::l.drop (i+1):=List.drop_eq_getElem_cons hi
theorem Qfm(hF:F 13=some fn13){N:Nat}{h:AH}{v1 v2:AV}{l1 l2:List Int}(s1:Sl N h 1 v1 (ints l1))(s2:Sl N h 1 v2 (ints l2))(hlt:l1.length<4611686018427387904) :
  Ctr F M 13 [v1,v2] h (fun v h'=>v=.bool (decide (l1=l2))∧h'=h) (fun _ _=>False):=by
 refine Ctr.intro hF fun caller cs G hk _=>W_ok 300 _ _ _ ?_
 have e1:lenS v1=some l1.length:=by rw[s1.len];simp[ints]
 have e2:lenS v2=some l2.length:=by rw[s2.len];simp[ints]
 simp only[fn13,b13,Nat.reduceAdd,Nat.reduceSub,wS,wC,e1,e2];by_cases hl:l1.length=l2.length
 ·have hd:decide ((l1.length:Int)≠(l2.length:Int))=false:=decide_eq_false (fun e=>e (by omega));simp only[wS,wC,Nat.reduceAdd,hd];refine Qbv (fun mm t h5=>∃(i:Nat) (x11 x12 x13 x14 x15 x16 x17 x18 x19 x20 x21 x22 x23 x24 x25:AV),mm=l1.length-i∧i≤l1.length∧h5=h∧(l1=l2↔l1.drop i=l2.drop i) ∧
   t=[v1,v2,.undef,.undef,.bool false,.int .i64 (i:Nat),v1,.int .i64 (l1.length:Nat),v2,.int .i64 (l2.length:Nat),.bool false,x11,x12,x13,x14,x15,x16,x17,x18,x19,x20,x21,x22,x23,x24,x25]) (l1.length-0) ?_ ?_
  ·exact⟨0,_,_,_,_,_,_,_,_,_,_,_,_,_,_,_,rfl,Nat.zero_le _,rfl,Iff.rfl,rfl⟩
  ·rintro mm t h5 ⟨i,x11,x12,x13,x14,x15,x16,x17,x18,x19,x20,x21,x22,x23,x24,x25,rfl,hi,rfl,hiff,rfl⟩ ih5;refine W_ok 300 _ _ _ ?_;simp only[wS,wC,Nat.reduceAdd,e1];by_cases ci:i<l1.length
   ·have hd2:decide ((i:Int)<(l1.length:Int))=true:=decide_eq_true (by omega);obtain⟨p,p1,p2,p3⟩:=s1.row i (by simpa[ints] using ci);obtain⟨q,q1,q2,q3⟩:=s2.row i (by simp[ints];omega);have r1:(ints l1)[i]'(by simpa[ints] using ci)=[.int .i64 l1[i]]:=by simp[ints]
    have r2:(ints l2)[i]'(by simp[ints];omega)=[.int .i64 (l2[i]'(by omega))]:=by simp[ints]
    rw[r1]at p3;rw[r2]at q3;have hup:IntKind.i64.wrap ((i:Int)+1)=((i+1:Nat):Int):=QaW (by omega);simp only[wS,wC,Nat.reduceAdd,hd2,p1,p3,q1,q3,AOp.makes];rw[drop_eq ci,drop_eq (show i<l2.length by omega)]at hiff;by_cases ce:l1[i]=l2[i]'(by omega)
    ·have hd3:decide (l1[i]≠l2[i]'(by omega))=false:=decide_eq_false (fun e=>e ce);simp only[wS,wC,Nat.reduceAdd,hd3,hup];exact ih5 _ _ _ (by omega) ⟨i+1,_,_,_,_,_,_,_,_,_,_,_,_,_,_,_,rfl,ci,rfl,hiff.trans ⟨fun e=>(List.cons.inj e).2,fun e=>by rw[ce,e]⟩,rfl⟩
    ·have hd3:decide (l1[i]≠l2[i]'(by omega))=true:=decide_eq_true ce;simp only[wS,wC,Nat.reduceAdd,hd3];have hne:¬l1=l2:=by rw[hiff];intro e;exact ce (List.cons.inj e).1
     exact Qag ⟨rfl,rfl,rfl,rfl⟩ hF rfl (hk _ _ ⟨by rw[decide_eq_false hne];rfl,rfl⟩)
   ·have hd2:decide ((i:Int)<(l1.length:Int))=false:=decide_eq_false (by omega);have he:l1=l2:=hiff.2 (by rw[List.drop_eq_nil_of_le (by omega),List.drop_eq_nil_of_le (by omega)]);simp only[wS,wC,Nat.reduceAdd,hd2];exact Qag ⟨rfl,rfl,rfl,rfl⟩ hF rfl (hk _ _ ⟨by rw[decide_eq_true he];rfl,rfl⟩)
 ·have hd:decide ((l1.length:Int)≠(l2.length:Int))=true:=decide_eq_true (by omega);simp only[wS,wC,Nat.reduceAdd,hd];have hne:¬l1=l2:=fun e=>hl (by rw[e])
  exact Qag ⟨rfl,rfl,rfl,rfl⟩ hF rfl (hk _ _ ⟨by rw[decide_eq_false hne];rfl,rfl⟩)
end
theorem MC.setKA{s:St}{fv cv yv:AV}{L:List AV}(m:MC s fv cv yv L)(on:On):MC {s with known:=on} fv cv yv (splice L 7 (onC on)):=by
 have hl:=m.len;have ho:(onC on).length=6:=rfl;have hg:=fun j=>Qbz (l:=L) (xs:=onC on) (o:=7) (by omega) j
 rw[ho]at hg;refine⟨by rw[Qb0 (by omega)];exact hl,?_,fun j hj=>?_,fun j hj=>?_,fun j q hj hq=>?_,?_,?_⟩
 ·rw[hg,if_pos (by omega)];exact m.f
 ·rw[hg,if_pos (by omega)];exact m.v j hj
 ·rw[hg,if_neg (by omega),if_pos (by omega),show 7+j-7=j by omega,QkO on hj]
 ·rw[hg,if_neg (by omega),if_neg (by omega)];exact m.st j q hj hq
 ·rw[hg,if_neg (by omega),if_neg (by omega)];exact m.c
 ·rw[hg,if_neg (by omega),if_neg (by omega)];exact m.y
structure AccI (c:Cx)(h3 h:AH)(ov:AV)(l:List Int):Prop where
 gl:GL c.N h 6 1 ov (ints l)
 own:OwnV c h ov
 new:∀b,Blk ov b→h3.next≤b
theorem AccI.fr{c:Cx}{h3 h h':AH}{ov:AV}{l:List Int}{S:Nat→Prop}(A:AccI c h3 h ov l)(f:Fr S c h h')(hs:∀b,S b→b=c.bf):AccI c h3 h' ov l:=by
 have h1:∀v,OwnV c h v→∀b,Blk v b→¬S b:=fun v hv b hb e=>by
  obtain⟨o,w⟩:=hv b hb;exact w.f (hs b e)
 exact⟨GL.fr A.gl A.own f (h1 _ A.own),A.own.keep f (h1 _ A.own),A.new⟩
theorem AccI.app{c:Cx}{forms:Nat→CT}{s:St}{h3 h:AH}{ov:AV}{l:List Int}(A:AccI c h3 h ov l)(m:Mst c forms s h)(h3h:h3.next≤h.next){d:Int}{b':Nat}{sp:Option Nat}(hg:h.get b'=some (.cells [.int .i64 d] sp 0 []))(hn:l.length<1000) :
  ∃ov' h',appF h 1 8 6 ov (.slice b' 0 1 1)=some (ov',h')∧AccI c h3 h' ov' (l++[d])∧Mst c forms s h'∧Fr (Blk ov) c h h':=by
 have hil:(ints l).length=l.length:=by simp[ints]
 obtain⟨ov',h',e1,e2,e3,m',f',hnew⟩:=appOwn m A.gl A.own hg rfl rfl (es:=1) (bytes:=8) (by decide) (by decide) (by decide) (by omega);exact⟨ov',h',e1,⟨by simpa[ints] using e2,e3,fun b hb=>Nat.le_trans h3h (hnew b hb)⟩,m',f'⟩
section
variable{F:FuncId→Option AFun}{M:Memo}
theorem Qf8(H:FnE F M){cells:List CT}{acts:List Act}{N:Nat}{h:AH}{cv av:AV}{crows arows:List (List AV)}(u:Up h h)(hN:N≤h.next)(hc:RepCs N h cells cv crows)(ha:RepAs N h acts av arows) :
  Ctr F M 14 [.agg [cv,av]] h (fun v h'=>∃w,v=.tuple [w,.int .i64 (QaJ cells acts).2]∧Sl h'.next h' 1 w (ints (QaJ cells acts).1)∧Up h h') (fun _ _=>False):=by
 refine Ctr.intro H.f14 fun caller cs G hk _=>W_ok 300 _ _ _ ?_
 simp only[fn14,b14,Nat.reduceAdd,Nat.reduceSub,wS,wC];refine wBoxA (Wk.start u) fun b1 h1 w1=>?_
 have g1:=w1.get 0 rfl;have L1:=w1.up.low hN;have l1:loadA h1 2 (.ptr b1 0)=some [cv,av]:=by rw[ldP g1];rfl
 simp only[wS,wC,Nat.reduceAdd,l1];refine cCall 300 (H.m 17 (by simp) _) (QcO H.B w1.self (Nat.le_trans hN w1.up.next) (hc.low L1) (ha.low L1)) fun v h2 hp=>?_
 obtain⟨rfl,u2⟩:=hp;simp only[wS,wC,Nat.reduceAdd];by_cases c0:Qak cells acts=0
 ·have hd:decide (Qak cells acts≠0)=false:=decide_eq_false (fun e=>e c0);obtain⟨z1,z2,z3,okF,okA⟩:=QbP c0;have g2:=(u2.keep b1 (lt_of_get w1.up.wf g1)).trans g1;have L2:=(w1.up.trans u2).low hN;have N2:N≤h2.next:=Nat.le_trans hN (w1.up.trans u2).next
  have l20:loadA h2 1 (.ptr b1 0)=some [cv]:=by rw[ldP g2];rfl
  have hc2:=(hc.low L2).mono N2;have ha2:=(ha.low L2).mono N2;simp only[wS,wC,Nat.reduceAdd,hd,faP,Nat.zero_add,l20];refine cCall 300 (H.m 22 (by simp) _) (Qkn (forms:=Qaq cells) H.f22 H.f41 (H.m 41 (by simp)) (.refl u2.wf) (Nat.le_refl _) hc2.sl hc2.rows (by rw[←hc2.len];exact z1) (by rw[←hc2.len];exact z2) fun i hi=>?_) fun v h3 hp=>?_
  ·have:=hc2.rep i (by rw[hc2.len];exact hi) hi;have e:Qaq cells i=cells[i]'(by rw[hc2.len];exact hi):=by
    unfold Qaq;rw[List.getD_eq_getElem?_getD,gE (by rw[hc2.len];exact hi),Option.getD_some]
   rw[e];exact this
  obtain⟨c,rfl,cN,cnc,m3,u3,o1,o2,o3⟩:=hp;have u13:=(w1.up.trans u2).trans u3;have g3:=(u3.keep b1 (by have:=lt_of_get w1.up.wf g1;have:=u2.next;omega)).trans g2;have l31:loadA h3 1 (.ptr b1 1)=some [av]:=by rw[ldP g3];rfl
  have lav:=ha2.sl.len;simp only[wS,wC,Nat.reduceAdd,faP,Nat.zero_add,l31,lav];have cN':c.N=h2.next:=cN
  have cnc':c.nc=cells.length:=by rw[cnc,hc2.len]
  refine Qbv (fun mm t h5=>∃(i:Nat) (forms:Nat→CT) (s:St) (ov:AV) (l:List Int) (x8 x9 x22 x23 x24 x25 x26 x27 x28 x29 x30 x31 x32 x33 x34 x35 x36 x37 x38 x39 x40 x41 x42:AV),mm=arows.length-i∧i≤arows.length∧Mst c forms s h5∧OkF cells.length forms∧Fr (· = c.bf) c h3 h5∧AccI c h3 h5 ov l∧l.length≤i ∧
   l++scrS cells.length forms s (acts.drop i)=scrS cells.length (Qaq cells) s0 acts ∧
   t=[.agg [cv,av],.ptr b1 0,.nilslice,.int .i64 0,.int .i64 (Qak cells acts),.ptr c.bm 0,ov,.undef,x8,x9,.agg [cv,av],.int .i64 (Qak cells acts),.int .i64 (Qak cells acts),.bool false,.undef,.ptr b1 0,cv,.ptr c.bm 0,.ptr b1 1,av,.int .i64 (arows.length:Nat),.int .i64 (i:Nat),x22,x23,x24,x25,x26,x27,x28,x29,x30,x31,x32,x33,x34,x35,x36,x37,x38,x39,x40,x41,x42]) (arows.length-0) ?_ ?_
  ·exact⟨0,Qaq cells,s0,.nilslice,[],_,_,_,_,_,_,_,_,_,_,_,_,_,_,_,_,_,_,_,_,_,_,_,rfl,Nat.zero_le _,m3,okF,.refl,⟨GL.nil,(fun b ⟨n,e,hb⟩=>by rcases hb with hb|hb<;>cases hb),(fun b ⟨n,e,hb⟩=>by rcases hb with hb|hb<;>cases hb)⟩,Nat.zero_le _,rfl,rfl⟩
  ·rintro mm t h5 ⟨i,forms,s,ov,l,x8,x9,x22,x23,x24,x25,x26,x27,x28,x29,x30,x31,x32,x33,x34,x35,x36,x37,x38,x39,x40,x41,x42,rfl,hi,m5,ok5,f5,A5,hli,hrun,rfl⟩ ih5;refine W_ok 300 _ _ _ ?_;have L5:Low h2.next h3 h5:=by rw[←cN'];exact m3.low f5 fun b e=>e ▸ m3.lf
   have L05:Low h2.next h2 h5:=fun b hb=>(L5 b hb).trans (u3.keep b hb)
   by_cases ci:i<arows.length
   ·have hd:decide ((i:Int)<(arows.length:Int))=true:=decide_eq_true (by omega);have cia:i<acts.length:=by rw[ha2.len];exact ci
    obtain⟨p,q1,q2,q3⟩:=ha2.sl.row i ci;have q4:=(QaH L05 q2 5).trans q3;have hra:=(ha2.rep i cia ci).low L05;obtain⟨x,y,z,er,hone,hT⟩:=repA5 hra;have hok:=okA acts[i] (List.getElem_mem cia);rw[er]at q4 hra hone;rw[←cN']at hra;simp only[wS,wC,Nat.reduceAdd,hd,q1,q4,alE];have m6:=m5.alloc (.cells [.bool false,.int .i64 0,.int .i64 0,.int .i64 0,.nilslice] (some 83) 0 []);have f6:=Fr.alloc (S:=(· = c.bf)) m5 (.cells [.bool false,.int .i64 0,.int .i64 0,.int .i64 0,.nilslice] (some 83) 0 []);have w6:=Own.new m5 (.cells [.bool false,.int .i64 0,.int .i64 0,.int .i64 0,.nilslice] (some 83) 0 []);generalize h5.alloc (.cells [.bool false,.int .i64 0,.int .i64 0,.int .i64 0,.nilslice] (some 83) 0 [])=h6 at m6 f6 w6 ⊢;have st:=stE (v:=.agg [.bool acts[i].set,.int .i64 acts[i].cell,x,y,z]) (vs:=[.bool acts[i].set,.int .i64 acts[i].cell,x,y,z]) (m:=5) (o:=0) w6.get (by simp) rfl rfl rfl hone;simp only[wS,wC,Nat.reduceAdd,st];have m7:=m6.putOwn w6 (.cells (splice [.bool false,.int .i64 0,.int .i64 0,.int .i64 0,.nilslice] 0 [.bool acts[i].set,.int .i64 acts[i].cell,x,y,z]) (some 83) 0 []);have f7:=f6.putOwn w6 (Nat.le_refl _) (.cells (splice [.bool false,.int .i64 0,.int .i64 0,.int .i64 0,.nilslice] 0 [.bool acts[i].set,.int .i64 acts[i].cell,x,y,z]) (some 83) 0 []);have w7:=w6.set (.cells (splice [.bool false,.int .i64 0,.int .i64 0,.int .i64 0,.nilslice] 0 [.bool acts[i].set,.int .i64 acts[i].cell,x,y,z]) (some 83) 0 []);generalize h6.put h5.next (.cells (splice [.bool false,.int .i64 0,.int .i64 0,.int .i64 0,.nilslice] 0 [.bool acts[i].set,.int .i64 acts[i].cell,x,y,z]) (some 83) 0 [])=h7 at m7 f7 w7 ⊢
    obtain⟨L7,sp7,cv7,gm7,mc7,gl7,hc7⟩:=m7.obj;have hl7:=mc7.len;have st7:=stE (v:=.agg [.bool false,.bool false,.bool false,.bool false,.bool false,.bool false]) (vs:=onC noneK) (m:=6) (o:=7) gm7 (by omega);have m7':=m7.putObj gm7 (mc7.setKA noneK) gl7 hc7;have f7':=f7.trans (Fr.putObj gm7 (L':=splice L7 7 (onC noneK)) fun b hb=>.inl (by rw[(mc7.setKA noneK).c]at hb;rw[mc7.c];exact hb));have w7':=w7.putM gm7 (L':=splice L7 7 (onC noneK)) (by rw[(mc7.setKA noneK).c,mc7.c]);simp only[wS,wC,Nat.reduceAdd,List.map_nil,ncP,faP,Nat.zero_add,st7];generalize h7.put c.bm (.cells (splice L7 7 (onC noneK)) sp7 0 [])=h8 at m7' f7' w7' ⊢;have l8:loadA h8 5 (.ptr h5.next 0)=some [.bool acts[i].set,.int .i64 acts[i].cell,x,y,z]:=by rw[ldP w7'.get];rfl
    simp only[wS,wC,Nat.reduceAdd,l8];have hra8:RepA c.N h8 acts[i] [.bool acts[i].set,.int .i64 acts[i].cell,x,y,z]:=hra.low (m5.low f7' fun b e=>e ▸ m5.lf);refine cCall 300 (H.m 23 (by simp) _) (QoC H.C H.D H.f23 H.f49 (H.m 49 (by simp)) ok5.sz (by rw[cnc'];exact ok5.rt) m7' hra8 hok.lo (by rw[cnc'];exact hok.hi)) fun v h9 hp=>?_
    obtain⟨⟨w,rfl,hw,hnew⟩,m9,f9⟩:=hp;rw[cnc']at hw m9;have f59:=f7'.trans f9;have w9:=w7'.frS f9 w7'.f;simp only[wS,wC,Nat.reduceAdd,alE];have m10:=m9.alloc (.cells [.nilslice,.int .i64 0] (some 87) 0 []);have f10:=f59.trans (Fr.alloc (S:=(· = c.bf)) m9 (.cells [.nilslice,.int .i64 0] (some 87) 0 []));have w10:=w9.alloc m9 (.cells [.nilslice,.int .i64 0] (some 87) 0 []);have r10:=Own.new m9 (.cells [.nilslice,.int .i64 0] (some 87) 0 []);have nn:h5.next<h9.next:=w9.lt
    generalize h9.alloc (.cells [.nilslice,.int .i64 0] (some 87) 0 [])=h10 at m10 f10 w10 r10 ⊢;have st10:=fun n=>stE (v:=.agg [w,.int .i64 n]) (vs:=[w,.int .i64 n]) (m:=2) (o:=0) r10.get (by simp) rfl rfl rfl (hw.bs (h':=h9)).2
    simp only[wS,wC,Nat.reduceAdd,st10];have m11:=m10.putOwn r10 (.cells (splice [.nilslice,.int .i64 0] 0 [w,.int .i64 (actS c.nc forms {s with known:=noneK} acts[i]).2.2.2]) (some 87) 0 []);have f11:=f10.putOwn r10 (by omega) (.cells (splice [.nilslice,.int .i64 0] 0 [w,.int .i64 (actS c.nc forms {s with known:=noneK} acts[i]).2.2.2]) (some 87) 0 []);have w11:=w10.put (by omega) r10.m (.cells (splice [.nilslice,.int .i64 0] 0 [w,.int .i64 (actS c.nc forms {s with known:=noneK} acts[i]).2.2.2]) (some 87) 0 []);have r11:=r10.set (.cells (splice [.nilslice,.int .i64 0] 0 [w,.int .i64 (actS c.nc forms {s with known:=noneK} acts[i]).2.2.2]) (some 87) 0 []);generalize h10.put h9.next (.cells (splice [.nilslice,.int .i64 0] 0 [w,.int .i64 (actS c.nc forms {s with known:=noneK} acts[i]).2.2.2]) (some 87) 0 [])=h11 at m11 f11 w11 r11 ⊢
    rw[cnc']at r11;have l11:loadA h11 1 (.ptr h5.next 0)=some [.bool acts[i].set]:=by rw[ldP w11.get];rfl
    have k11:loadA h11 1 (.ptr h9.next 1)=some [.int .i64 (actS cells.length forms {s with known:=noneK} acts[i]).2.2.2]:=by rw[ldP r11.get];rfl
    have A11:=A5.fr f11 fun b e=>e
    have f311:=f5.trans f11;have hup:IntKind.i64.wrap ((i:Int)+1)=((i+1:Nat):Int):=QaW (by have:=ha2.len;omega);rw[List.drop_eq_getElem_cons cia]at hrun;simp only[scrS]at hrun;simp only[wS,wC,Nat.reduceAdd,faP,Nat.zero_add,l11];cases es:acts[i].set with
    |true =>
     rw[es]at hrun;simp only[if_true,List.nil_append]at hrun;simp only[wS,wC,Nat.reduceAdd,Bool.not_true,hup];exact ih5 _ _ _ (by omega) ⟨i+1,_,_,ov,l,_,_,_,_,_,_,_,_,_,_,_,_,_,_,_,_,_,_,_,_,_,_,_,rfl,ci,m11,ok5.act hok,f311,A11,by omega,hrun,rfl⟩
    |false =>
     rw[es]at hrun;simp only[Bool.false_eq_true,if_false]at hrun;simp only[wS,wC,Nat.reduceAdd,Bool.not_false,faP,Nat.zero_add,k11,List.map_cons,List.map_nil,bs1];have m12:=m11.alloc (.cells [.int .i64 (actS cells.length forms {s with known:=noneK} acts[i]).2.2.2] none 0 []);have f12:=f11.trans (Fr.alloc m11 (.cells [.int .i64 (actS cells.length forms {s with known:=noneK} acts[i]).2.2.2] none 0 []));have g12:=Qam h11 (.cells [.int .i64 (actS cells.length forms {s with known:=noneK} acts[i]).2.2.2] none 0 []);generalize h11.alloc (.cells [.int .i64 (actS cells.length forms {s with known:=noneK} acts[i]).2.2.2] none 0 [])=h12 at m12 f12 g12 ⊢;have A12:=A5.fr f12 fun b e=>e
     have f312:=f5.trans f12;obtain⟨ov',h13,e1,A13,m13,f13⟩:=A12.app m12 f312.next g12 (by have:=ha2.len;omega)
     simp only[wS,wC,Nat.reduceAdd,e1,hup];exact ih5 _ _ _ (by omega) ⟨i+1,_,_,ov',_,_,_,_,_,_,_,_,_,_,_,_,_,_,_,_,_,_,_,_,_,_,_,_,rfl,ci,m13,ok5.act hok,f312.two f13 (fun b hb=>.inr (A12.new b hb)),A13,by simp;omega,by rw[List.append_assoc];exact hrun,rfl⟩
   ·have hd:decide ((i:Int)<(arows.length:Int))=false:=decide_eq_false (by omega);have hz:acts.drop i=[]:=by simp;have:=ha2.len;omega
    rw[hz]at hrun;simp only[scrS,List.append_nil]at hrun;have e:QaJ cells acts=(l,0):=by unfold QaJ;rw[if_pos c0,hrun]
    simp only[wS,wC,Nat.reduceAdd,hd];have u5:Up h h5:=⟨Nat.le_trans u13.next f5.next,fun b hb=>by
     have a1:=w1.up.next
     have a2:=u2.next
     have a3:=u3.next
     rw[f5.keep b (by omega) (by omega) (show ¬b=c.bf by omega) (fun e=>by have:=(m3.compOf e).1;omega)];exact u13.keep b hb,m5.wf⟩
    refine Qag ⟨rfl,rfl,rfl,rfl⟩ H.f14 rfl (hk _ _ ⟨ov,by rw[e];rfl,?_,u5⟩);rw[e];exact A5.gl.sl (Nat.le_refl _)
 ·have hd:decide (Qak cells acts≠0)=true:=decide_eq_true c0;have e:QaJ cells acts=([],Qak cells acts):=if_neg c0;simp only[wS,wC,Nat.reduceAdd,hd];refine Qag ⟨rfl,rfl,rfl,rfl⟩ H.f14 rfl (hk _ _ ⟨.nilslice,by rw[e];rfl,?_,w1.up.trans u2⟩);rw[e];exact Sl.nil
end
section
variable{F:FuncId→Option AFun}{M:Memo}
theorem Qp4{a b:Told}:a=b↔a.2=b.2∧a.1=b.1:=by
 obtain⟨a1,a2⟩:=a;obtain⟨b1,b2⟩:=b;simp only[Prod.mk.injEq];exact⟨fun⟨x,y⟩=>⟨y,x⟩,fun⟨x,y⟩=>⟨y,x⟩⟩
theorem same_ctr(H:FnN F M)(E:FnE F M){N:Nat}{h:AH}{v1 v2:AV}{D1 D2:List Told}(s1:RepD N h D1 v1)(s2:RepD N h D2 v2)(hlt:D1.length<1000000000)(hs:∀i (h1:i<D1.length),D1[i].1.length<1000000000) :
  Ctr F M 10 [v1,v2] h (fun v h'=>v=.bool (decide (D1=D2))∧h'=h) (fun _ _=>False):=by
 refine Ctr.intro H.f10 fun caller cs G hk _=>W_ok 300 _ _ _ ?_
 have ez:((D1.length:Int)=(D2.length:Int))=(D1.length=D2.length):=propext ⟨fun e=>by omega,fun e=>by omega⟩;simp only[fn10,b10,Nat.reduceAdd,Nat.reduceSub,wS,wC,s1.len,s2.len];refine Qfi [φ,φ,φ,φ,φ,τ,τ,φ,φ,φ,φ,φ,τ,τ,τ,τ,τ,τ,τ,τ,τ,τ,τ,τ,τ,τ,τ,τ,τ,τ,τ,τ,τ,τ,τ,τ,τ,τ,τ,τ,τ,τ,τ,τ,τ] (fun mm f h'=>∃(i:Nat) (z:Bool),mm=D1.length-i∧i≤D1.length∧h=h'∧(z=true→D1.length=D2.length)∧(D1=D2↔z=true∧D1.drop i=D2.drop i)∧f 6=.int .i64 (i:Int)∧f 5=.bool z) (D1.length-0) ⟨0,decide (D1.length=D2.length),rfl,Nat.zero_le _,rfl,fun e=>of_decide_eq_true e,?_,rfl,by show AV.bool _=_;simp only[ez]⟩ ?_
 ·constructor
  ·rintro rfl;exact⟨by simp,rfl⟩
  ·exact fun e=>by simpa using e.2
 rintro mm f h' ⟨i,z,rfl,hi,rfl,hz,hiff,f6,f5⟩ ih;dsimp only[fv,Nat.reduceAdd];refine W_ok 300 _ _ _ ?_;by_cases ci:i<D1.length
 ·have hd:decide ((i:Int)<(D1.length:Int))=true:=decide_eq_true (by omega);cases z with
  |false =>
   simp only[wS,wC,Nat.reduceAdd,f5,f6,s1.len,hd];refine Qag ⟨rfl,rfl,rfl,rfl⟩ H.f10 rfl (hk _ _ ⟨?_,rfl⟩);have:¬D1=D2:=fun e=>by have:=(hiff.1 e).1;cases this
   exact congrArg AV.bool (decide_eq_false this).symm
  |true =>
   have hl:=hz rfl;have ci2:i<D2.length:=by omega
   obtain⟨rows1,sr1,er1,rr1⟩:=s1.ex;obtain⟨rows2,sr2,er2,rr2⟩:=s2.ex;obtain⟨p,p1,_,p3⟩:=sr1.row i (by omega);obtain⟨q,q1,_,q3⟩:=sr2.row i (by omega);obtain⟨w1,e1,sw1⟩:=rr1 i (by omega) ci;obtain⟨w2,e2,sw2⟩:=rr2 i (by omega) ci2;rw[e1]at p3;rw[e2]at q3;have pf0:=QbB p3 (off:=0) (by omega);have pf1:=QbB p3 (off:=1) (by omega);have pl0:loadA h 1 (padd p 0)=some [w1]:=Qb8 p3 (off:=0) (m:=1) (by omega);have pl1:loadA h 1 (padd p 1)=some [.int .i64 D1[i].2]:=Qb8 p3 (off:=1) (m:=1) (by omega);have qf0:=QbB q3 (off:=0) (by omega);have qf1:=QbB q3 (off:=1) (by omega);have ql0:loadA h 1 (padd q 0)=some [w2]:=Qb8 q3 (off:=0) (m:=1) (by omega);have ql1:loadA h 1 (padd q 1)=some [.int .i64 D2[i].2]:=Qb8 q3 (off:=1) (m:=1) (by omega);have hup:IntKind.i64.wrap ((i:Int)+1)=((i+1:Nat):Int):=QaW (by omega);have step:∀z':Bool,(z'=true↔D1[i]=D2[i])→(D1=D2↔z'=true∧D1.drop (i+1)=D2.drop (i+1)):=fun z' hz'=>by
    rw[hiff,hz',List.drop_eq_getElem_cons ci,List.drop_eq_getElem_cons ci2,List.cons.injEq];simp
   by_cases cv:D1[i].2=D2[i].2
   ·have d1:decide (D1[i].2=D2[i].2)=true:=decide_eq_true cv;simp only[wS,wC,AOp.makes,Nat.reduceAdd,f5,f6,s1.len,hd,p1,q1,pf0,pf1,pl0,pl1,qf0,qf1,ql0,ql1,d1];refine cMain 300 (E.m 13 (by simp) _) (Qfm E.f13 sw1 sw2 (by have:=hs i ci;omega)) fun v h5 hp=>?_
    obtain⟨rfl,eh⟩:=hp;rw[eh];refine⟨rfl,?_⟩;simp only[wS,wC,AOp.makes,Nat.reduceAdd,hup];refine ih _ _ _ (by omega) ⟨i+1,decide (D1[i].1=D2[i].1),rfl,ci,rfl,fun _=>hl,step _ ?_,rfl,rfl⟩ rfl;rw[Qp4,decide_eq_true_eq];exact⟨fun e=>⟨cv,e⟩,fun e=>e.2⟩
   ·have d1:decide (D1[i].2=D2[i].2)=false:=decide_eq_false cv;simp only[wS,wC,AOp.makes,Nat.reduceAdd,f5,f6,s1.len,hd,p1,q1,pf0,pf1,pl0,pl1,qf0,qf1,ql0,ql1,d1,hup];refine ih _ _ _ (by omega) ⟨i+1,false,rfl,ci,rfl,fun _=>hl,step _ ?_,rfl,rfl⟩ rfl;rw[Qp4];exact⟨(fun e=>by cases e),fun e=>absurd e.1 cv⟩
 ·have hd:decide ((i:Int)<(D1.length:Int))=false:=decide_eq_false (by omega);simp only[wS,wC,Nat.reduceAdd,f5,f6,s1.len,hd];refine Qag ⟨rfl,rfl,rfl,rfl⟩ H.f10 rfl (hk _ _ ⟨?_,rfl⟩);cases z with
  |false =>
   have:¬D1=D2:=fun e=>by have:=(hiff.1 e).1;cases this
   exact congrArg AV.bool (decide_eq_false this).symm
  |true =>
   have hl:=hz rfl;have:D1=D2:=hiff.2 ⟨rfl,by rw[List.drop_eq_nil_of_le (by omega),List.drop_eq_nil_of_le (by omega)]⟩;exact congrArg AV.bool (decide_eq_true this).symm
end
section
variable{F:FuncId→Option AFun}{M:Memo}
theorem law3_top(H:FnN F M)(E:FnE F M)(hF:F 3=some fn3)(hA:∃c,M 16 []=some c∧∀h,c h=some (.bool true,h)){cells:List CT}{acts:List Act}{N:Nat}{h:AH}{cv av:AV}{crows arows:List (List AV)}(u:Up h h)(hN:N≤h.next)(hc:RepCs N h cells cv crows)(ha:RepAs N h acts av arows) :
  Top F M 3 [.agg [cv,av]] h (.bool true):=by
 obtain⟨cA,hA1,hA2⟩:=hA;refine Top.intro hF (W_ok 300 _ _ _ ?_);simp only[fn3,b3,Nat.reduceAdd,Nat.reduceSub,wS,wC];refine wBoxA (Wk.start u) fun b1 h1 w1=>?_
 have g1:=w1.get 0 rfl;have u1:=w1.up;have d0:∀x:Int,decide (x≠x)=false:=fun x=>decide_eq_false fun e=>e rfl
 have d1:∀x:Int,decide (x=x)=true:=fun x=>decide_eq_true rfl
 have st:∀{h'},Up h1 h'→loadA h' 2 (.ptr b1 0)=some [cv,av]:=fun u'=>by rw[ldP ((u'.keep b1 (lt_of_get u1.wf g1)).trans g1)];rfl
 have Nx:∀{h'},Up h1 h'→N≤h'.next:=fun u'=>Nat.le_trans hN (u1.trans u').next
 have Lx:∀{h'},Up h1 h'→Low N h h':=fun u'=>(u1.trans u').low hN
 have r1:Up h1 h1:=.refl u1.wf;simp only[wS,wC,Nat.reduceAdd,st r1];refine cCall 300 (E.m 8 (by simp) _) (Qex E r1 (Nx r1) (hc.low (Lx r1)) (ha.low (Lx r1))) fun v h2 hp=>?_
 obtain⟨x,rfl,hx,u2⟩:=hp;simp only[wS,wC,Nat.reduceAdd,extT,List.getElem?_cons_zero,List.getElem?_cons_succ,Option.map_some,st u2];refine cCall 300 (H.m 9 (by simp) _) (Qp1 H (.refl u2.wf) (Nx u2) (hc.low (Lx u2)) (ha.low (Lx u2))) fun v h3 hp=>?_
 obtain⟨y,rfl,hy,u3⟩:=hp;have u13:=u2.trans u3;have facts:(QaC cells acts).1.length<1000000000∧∀i (h1:i<(QaC cells acts).1.length),(QaC cells acts).1[i].1.length<1000000000:=by
  by_cases c0:Qak cells acts=0
  ·obtain⟨D,eD,e1,e2⟩:=Qgr c0;have h10:=(QbP c0).2.2.1;simp only[eD];exact⟨by omega,e2⟩
  ·have e:QaC cells acts=([],Qak cells acts):=if_neg c0;rw[e];exact⟨by simp,fun i h1=>absurd h1 (by simp)⟩
 have plen:(QpB acts (QaC cells acts).1).length<4611686018427387904:=by
  have:=QpG acts (QaC cells acts).1 fun d hd=>by
   obtain⟨i,hi,rfl⟩:=List.getElem_of_mem hd;exact facts.2 i hi
  omega
 have slen:(QaJ cells acts).1.length<4611686018427387904:=by
  by_cases c0:Qak cells acts=0
  ·have e:=QpY c0;have h10:=(QbP c0).2.2.1;rw[e];have:∀(as:List Act) (ds:List Told),(shown as ds).length≤as.length:=fun as=>by
    induction as with
    |nil=>intro ds;simp[shown]
    |cons a as ih =>
     intro ds;cases ds with
     |nil=>simp[shown]
     |cons d ds =>
      have h3:(if a.set then [] else [d.2]:List Int).length≤1:=by split<;>simp
      have:=ih ds;simp only[shown,List.length_append,List.length_cons];omega
   have:=this acts (runR cells.length true (Qaq cells) s0 acts);show (shown acts _).length<_;omega
  ·have e:QaJ cells acts=([],Qak cells acts):=if_neg c0;rw[e];simp
 have hx3:=hx.low (u3.low (Nat.le_refl _));have hx3':RepD h3.next h3 (QaC cells acts).1 x:=by
  obtain⟨rows,s,e,r⟩:=hx3.ex;exact⟨rows,s.mono u3.next,e,fun i q1 q2=>by
   obtain⟨w,e1,e2⟩:=r i q1 q2;exact⟨w,e1,e2.mono u3.next⟩⟩
 simp only[wS,wC,Nat.reduceAdd,extT,List.getElem?_cons_zero,List.getElem?_cons_succ,Option.map_some];refine cCall 300 (H.m 10 (by simp) _) (same_ctr H E hx3' hy facts.1 facts.2) fun v h4 hp=>?_
 obtain⟨rfl,eh⟩:=hp;rw[eh];clear eh h4;simp only[wS,wC,Nat.reduceAdd,decide_true,Bool.not_true,d0,st u13];refine cCall 300 (H.m 11 (by simp) _) (QpV H E (.refl u13.wf) (Nx u13) (hc.low (Lx u13)) (ha.low (Lx u13))) fun v h5 hp=>?_
 obtain⟨p,rfl,hp1,u5⟩:=hp;have u15:=u13.trans u5;simp only[wS,wC,Nat.reduceAdd,extT,List.getElem?_cons_zero,List.getElem?_cons_succ,Option.map_some,st u15];refine cCall 300 (H.m 12 (by simp) _) (QpR H (.refl u15.wf) (Nx u15) (hc.low (Lx u15)) (ha.low (Lx u15))) fun v h6 hp=>?_
 obtain⟨q,rfl,hq1,u6⟩:=hp;have u16:=u15.trans u6;have hp2:=(hp1.low (u6.low (Nat.le_refl _))).mono u6.next
 simp only[wS,wC,Nat.reduceAdd,extT,List.getElem?_cons_zero,List.getElem?_cons_succ,Option.map_some];refine cCall 300 (E.m 13 (by simp) _) (Qfm E.f13 hp2 hq1 plen) fun v h7 hp=>?_
 obtain⟨rfl,eh⟩:=hp;rw[eh];clear eh h7;simp only[wS,wC,Nat.reduceAdd,decide_true,Bool.not_true,d0,st u16];refine cCall 300 (E.m 14 (by simp) _) (Qf8 E (.refl u16.wf) (Nx u16) (hc.low (Lx u16)) (ha.low (Lx u16))) fun v h8 hp=>?_
 obtain⟨a,rfl,ha1,u8⟩:=hp;have u18:=u16.trans u8;simp only[wS,wC,Nat.reduceAdd,extT,List.getElem?_cons_zero,List.getElem?_cons_succ,Option.map_some,st u18];refine cCall 300 (H.m 15 (by simp) _) (QpQ H (.refl u18.wf) (Nx u18) (hc.low (Lx u18)) (ha.low (Lx u18))) fun v h9 hp=>?_
 obtain⟨b,rfl,hb1,u9⟩:=hp;have ha2:=(ha1.low (u9.low (Nat.le_refl _))).mono u9.next
 simp only[wS,wC,Nat.reduceAdd,extT,List.getElem?_cons_zero,List.getElem?_cons_succ,Option.map_some];refine cCall 300 (E.m 13 (by simp) _) (Qfm E.f13 ha2 hb1 slen) fun v h10 hp=>?_
 obtain⟨rfl,eh⟩:=hp;rw[eh];clear eh h10;simp only[wS,wC,Nat.reduceAdd,decide_true,d1];refine cMemo 300 hA1 (hA2 _) ?_;simp only[wS,wC,Nat.reduceAdd];exact R_top (x:=⟨3,[],.normal,none,[]⟩) ⟨rfl,rfl,rfl,rfl⟩ hF rfl
end
end Go.Ab.L26

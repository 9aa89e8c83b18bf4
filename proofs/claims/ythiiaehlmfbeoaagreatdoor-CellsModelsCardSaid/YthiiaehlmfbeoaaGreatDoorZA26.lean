/- A part of a proof. -/
import Derived.Test.YthiiaehlmfbeoaaGreatDoorXS26toYE26
import Derived.Test.YthiiaehlmfbeoaaGreatDoorXNtoXFr
set_option linter.all false
namespace Go.Ab.L26
open Go Go.Ab
theorem wrapI{n:Int}(h : -1000≤n∧n≤1000):IntKind.i64.wrap n=n:=by
 simp only[IntKind.wrap,IntKind.signed,IntKind.bits];simp;omega
structure FnR (F:FuncId→Option AFun)(M:Memo):Prop where
 f18:F 18=some fn18
 f39:F 39=some fn39
 f40:F 40=some fn40
 f78:F 78=some fn78
 f79:F 79=some fn79
 f20:F 20=some fn20
 f104:F 104=some fn104
 m:∀f∈[18,39,40,78,79,20,104],∀xs,M f xs=none
section
variable{F:FuncId→Option AFun}{M:Memo}
def leftD(T:CT)(m:Nat):Int:=if sizeC T≤m then (m:Int)-sizeC T else -1
theorem QlV(H:FnR F M):∀(z:Nat)(T:CT),sizeC T≤z→Short T→∀(m:Nat),m≤12→∀{N:Nat}{h:AH}{row:List AV},Up h h→N≤h.next→Rep N h T row →
  Ctr F M 78 [.agg row,.int .i64 (m:Int)] h (fun v h'=>v=.int .i64 (leftD T m)∧Up h h') (fun _ _=>False)
 |0,.mk k n l,hz,_,_,_,_,_,_,_,_,_=>by simp[sizeC]at hz
 |z+1,.mk k n l,hz,hsh,m,hm,N,h,row,u,hN,hr=>by
  refine Ctr.intro H.f78 fun caller cs G hk _=>W_ok 300 _ _ _ ?_
  obtain⟨lv,rows,rfl,hsl,hl,hrr⟩:=hr.inv;simp only[fn78,b78,Nat.reduceAdd,Nat.reduceSub,wS,wC];refine wBoxA (Wk.start u) fun b1 h1 w1=>?_
  have g1:=w1.get 0 rfl;have e1:IntKind.i64.wrap ((m:Int)-1)=(m:Int)-1:=wrapI (by omega);simp only[wS,wC,Nat.reduceAdd,e1];have L1:=w1.up.low hN;have hlt1:=lt_of_get w1.up.wf g1;refine Qbv (fun mm t h5=>∃(i:Nat) (e:Int) (x8 x9 x10 x11 x12 x13 x14 x15 x16 x19 x20 x21 x22 x23 x24 x25 x17 x18:AV),mm=l.length-i∧i≤l.length∧Up h1 h5 ∧ -1≤e∧e≤12∧(sizeC (.mk k n l)≤m↔0≤e∧(sizes (l.drop i):Int)≤e)∧(sizeC (.mk k n l)≤m→e-sizes (l.drop i)=(m:Int)-sizeC (.mk k n l)) ∧
   t=[.agg [.int .i64 k,.int .i64 n,lv],.int .i64 e,.ptr b1 0,.undef,.int .i64 0,.int .i64 (i:Nat),.int .i64 (m:Int),.int .i64 ((m:Int)-1),x8,x9,x10,x11,x12,x13,x14,x15,x16,x17,x18,x19,x20,x21,x22,x23,x24,x25,.undef]) (l.length-0) ?_ ?_
  ·refine⟨0,(m:Int)-1,_,_,_,_,_,_,_,_,_,_,_,_,_,_,_,_,_,_,rfl,Nat.zero_le _,.refl w1.up.wf,by omega,by omega,?_,fun hs=>?_,rfl⟩
   ·simp only[List.drop_zero,sizeC];omega
   ·simp only[List.drop_zero,sizeC]at hs ⊢;omega
  ·rintro mm t h5 ⟨i,e,x8,x9,x10,x11,x12,x13,x14,x15,x16,x19,x20,x21,x22,x23,x24,x25,x17,x18,rfl,hi,u5,he1,he2,hiff,heq,rfl⟩ ih5;refine W_ok 300 _ _ _ ?_;have g5:=(u5.keep b1 hlt1).trans g1;have lp:loadA h5 1 (.ptr b1 2)=some [lv]:=by rw[ldP g5];rfl
   have ll:=hsl.len;by_cases ci:i<l.length
   ·have hd:decide ((i:Int)<(rows.length:Int))=true:=decide_eq_true (by omega);by_cases ce:0≤e
    ·have hd2:decide (0≤e)=true:=decide_eq_true ce;obtain⟨p,p1,p2,p3⟩:=hsl.row i (by omega);have L5:Low N h h5:=(w1.up.trans u5).low hN;have p4:=(QaH L5 p2 3).trans p3;simp only[wS,wC,Nat.reduceAdd,faP,Nat.zero_add,lp,ll,hd,hd2,p1,p4];obtain⟨e',rfl⟩:∃e':Nat,e=(e':Int):=⟨e.toNat,by omega⟩
     simp only[sizeC]at hz;have hsz:sizeC l[i]≤sizes l:=by
      have q1:=Qdc (l.take i) (l.drop i);rw[List.take_append_drop,QdC ci]at q1;omega
     refine cCall 300 (H.m 78 (by simp) _) (QlV H z l[i] (by omega) (Shorts.at hsh.2 i ci) e' (by omega) (.refl u5.wf) (Nat.le_trans hN (w1.up.trans u5).next) ((hrr i ci (by omega)).low L5)) fun v h6 hp=>?_
     obtain⟨rfl,u6⟩:=hp;have hw:IntKind.i64.wrap ((i:Int)+1)=((i+1:Nat):Int):=QaW (by have:=hsh.1;omega);simp only[wS,wC,Nat.reduceAdd,hw];refine ih5 _ _ _ (by omega) ⟨i+1,leftD l[i] e',_,_,_,_,_,_,_,_,_,_,_,_,_,_,_,_,_,_,rfl,ci,u5.trans u6,?_,?_,?_,?_,rfl⟩
     all_goals rw[QdC ci]at hiff heq
     ·unfold leftD;split<;>omega
     ·unfold leftD;split<;>omega
     ·rw[hiff];unfold leftD;split<;>omega
     ·intro hs;have:=heq hs;have:=hiff.1 hs;unfold leftD;split<;>omega
    ·have hd2:decide (0≤e)=false:=decide_eq_false ce;simp only[wS,wC,Nat.reduceAdd,faP,Nat.zero_add,lp,ll,hd,hd2];have hn:¬sizeC (.mk k n l)≤m:=fun hs=>ce (hiff.1 hs).1
     have ee:e=leftD (.mk k n l) m:=by unfold leftD;rw[if_neg hn];omega
     exact Qag ⟨rfl,rfl,rfl,rfl⟩ H.f78 rfl (hk _ _ ⟨by rw[ee];rfl,w1.up.trans u5⟩)
   ·have hd:decide ((i:Int)<(rows.length:Int))=false:=decide_eq_false (by omega);have hz':l.drop i=[]:=List.drop_eq_nil_of_le (by omega);rw[hz']at hiff heq;simp only[sizes]at hiff heq;simp only[wS,wC,Nat.reduceAdd,faP,Nat.zero_add,lp,ll,hd];have ee:e=leftD (.mk k n l) m:=by
     unfold leftD;split
     ·rename_i hs;have:=heq hs;omega
     ·rename_i hs;have:¬(0≤e):=fun he=>hs (hiff.2 ⟨he,by simpa using he⟩)
      omega
    exact Qag ⟨rfl,rfl,rfl,rfl⟩ H.f78 rfl (hk _ _ ⟨by rw[ee];rfl,w1.up.trans u5⟩)
def Qov:AC:=(.seq (.seq (.region [⟨some 61,.op (.mov (.tmp 5)),none⟩,⟨some 62,.op (.fieldAddr 2 (.tmp 2)),none⟩,⟨some 63,.op (.load1 (.tmp 62)),none⟩,⟨some 64,.op (.len 1 (.tmp 63)),none⟩,⟨some 65,.op (.bin .lss 9 (.tmp 61) (.tmp 64)),none⟩])
    (.cond (.tmp 65)
     (.skip)
     (.exit 0)))
    (.seq (.block 1 (.seq (.region [⟨some 68,.op (.fieldAddr 2 (.tmp 2)),none⟩,⟨some 69,.op (.load1 (.tmp 68)),none⟩,⟨some 70,.op (.mov (.tmp 5)),none⟩,⟨some 71,.op (.indexAddr 3 (.tmp 69) (.tmp 70)),none⟩,⟨some 72,.op (.loadN 3 (.tmp 71)),none⟩,⟨some 73,.op (.mov (.tmp 1)),none⟩,⟨some 74,.call (.const (.func 79 [] [])) [(.tmp 72),(.tmp 73)],none⟩,⟨some 6,.op (.mov (.tmp 74)),none⟩])
     (.seq (.region [⟨some 75,.op (.mov (.tmp 6)),none⟩,⟨some 76,.op (.bin .neq 9 (.tmp 75) (.const (.int .i64 0))),none⟩])
     (.cond (.tmp 76)
      (.seq (.region [⟨some 77,.op (.mov (.tmp 6)),none⟩,⟨some 4,.op (.mov (.tmp 77)),none⟩])
      (.ret))
      (.skip)))))
    (.region [⟨some 66,.op (.mov (.tmp 5)),none⟩,⟨some 67,.op (.bin .add 9 (.tmp 66) (.const (.int .i64 1))),none⟩,⟨some 5,.op (.mov (.tmp 67)),none⟩])))
def tail79:AC:=(.seq (.region [⟨some 4,.op (.mov (.const (.int .i64 0))),none⟩])
 (.ret))
theorem QcJ(H:FnR F M){k n:Int}{l:List CT}{cell:Int}{N:Nat}{h h1:AH}{lv:AV}{rows:List (List AV)}{b1:Nat}{caller:AF}{cs:List AF}{G:AS→Prop}
  (ih:∀i (hi:i<l.length),∀{N:Nat}{h:AH}{row:List AV},Up h h→N≤h.next→Rep N h l[i] row→Ctr F M 79 [.agg row,.int .i64 cell] h (fun v h'=>v=.int .i64 (Qa3 cell l[i])∧Up h h') (fun _ _=>False))
  (u1:Up h h1)(hN:N≤h.next)(hsl:Sl N h 3 lv rows)(hl:l.length=rows.length)(hrr:∀i (q1:i<l.length)(q2:i<rows.length),Rep N h l[i] rows[i])(hlt:l.length<4611686018427387904)
  (g1:h1.get b1=some (.cells [.int .i64 k,.int .i64 n,lv] (some 79) 0 []))(hk:∀h',Up h h'→∃fr',caller.finish h' (.int .i64 (Qbc cell l))=some fr'∧Reach F M ⟨fr',cs,h'⟩ G){x0 x6 x7 x8 x9 x10 x11 x12 x13 x14 x15 x16 x17 x18 x19 x20 x21 x22 x23 x24 x25 x26 x27 x28 x29 x30 x31 x32 x33 x34 x35 x36 x37 x38 x39 x40 x41 x42 x43 x44 x45 x46 x47 x48 x49 x50 x51 x52 x53 x54 x55 x56 x57 x58 x59 x60 y61 y62 y63 y64 y65 y66 y67 y68 y69 y70 y71 y72 y73 y74 y75 y76 y77:AV} :
  Reach F M ((⟨79,[],.normal,none,caller::cs⟩:Ctx).at [x0,.int .i64 cell,.ptr b1 0,.undef,.int .i64 0,.int .i64 0,x6,x7,x8,x9,x10,x11,x12,x13,x14,x15,x16,x17,x18,x19,x20,x21,x22,x23,x24,x25,x26,x27,x28,x29,x30,x31,x32,x33,x34,x35,x36,x37,x38,x39,x40,x41,x42,x43,x44,x45,x46,x47,x48,x49,x50,x51,x52,x53,x54,x55,x56,x57,x58,x59,x60,y61,y62,y63,y64,y65,y66,y67,y68,y69,y70,y71,y72,y73,y74,y75,y76,y77] [.code (.loop Qov),.inBlock 0,.code tail79] h1) G:=by
 have hb1:=lt_of_get u1.wf g1;refine Qbv (fun mm t h5=>∃(i:Nat) (x6 y61 y62 y63 y64 y65 y66 y67 y68 y69 y70 y71 y72 y73 y74 y75 y76 y77:AV),mm=l.length-i∧i≤l.length∧Up h1 h5∧Qbc cell l=Qbc cell (l.drop i) ∧
   t=[x0,.int .i64 cell,.ptr b1 0,.undef,.int .i64 0,.int .i64 (i:Nat),x6,x7,x8,x9,x10,x11,x12,x13,x14,x15,x16,x17,x18,x19,x20,x21,x22,x23,x24,x25,x26,x27,x28,x29,x30,x31,x32,x33,x34,x35,x36,x37,x38,x39,x40,x41,x42,x43,x44,x45,x46,x47,x48,x49,x50,x51,x52,x53,x54,x55,x56,x57,x58,x59,x60,y61,y62,y63,y64,y65,y66,y67,y68,y69,y70,y71,y72,y73,y74,y75,y76,y77]) (l.length-0) ?_ ?_
 ·exact⟨0,_,_,_,_,_,_,_,_,_,_,_,_,_,_,_,_,_,_,rfl,Nat.zero_le _,.refl u1.wf,rfl,rfl⟩
 ·rintro mm t h5 ⟨i,x6,y61,y62,y63,y64,y65,y66,y67,y68,y69,y70,y71,y72,y73,y74,y75,y76,y77,rfl,hi,u5,hnl,rfl⟩ ih5;refine W_ok 300 _ _ _ ?_;have g5:=(u5.keep b1 hb1).trans g1;have lp:loadA h5 1 (.ptr b1 2)=some [lv]:=by rw[ldP g5];rfl
  have ll:=hsl.len;by_cases ci:i<l.length
  ·have hd:decide ((i:Int)<(rows.length:Int))=true:=decide_eq_true (by omega);obtain⟨p,p1,p2,p3⟩:=hsl.row i (by omega);have L5:Low N h h5:=(u1.trans u5).low hN;have p4:=(QaH L5 p2 3).trans p3;simp only[Qov,wS,wC,Nat.reduceAdd,faP,Nat.zero_add,lp,ll,hd,p1,p4];refine cCall 300 (H.m 79 (by simp) _) (ih i ci (.refl u5.wf) (Nat.le_trans hN (u1.trans u5).next) ((hrr i ci (by omega)).low L5)) fun v h6 hp=>?_
   obtain⟨rfl,u6⟩:=hp;have hw:IntKind.i64.wrap ((i:Int)+1)=((i+1:Nat):Int):=QaW (by omega);rw[List.drop_eq_getElem_cons ci,Qbc]at hnl;by_cases ce:Qa3 cell l[i]=0
   ·have hd2:decide (Qa3 cell l[i]≠0)=false:=decide_eq_false (fun e=>e ce);rw[if_neg (fun e=>e ce)]at hnl;simp only[wS,wC,Nat.reduceAdd,hd2,hw];exact ih5 _ _ _ (by omega) ⟨i+1,_,_,_,_,_,_,_,_,_,_,_,_,_,_,_,_,_,_,rfl,ci,u5.trans u6,hnl,rfl⟩
   ·have hd2:decide (Qa3 cell l[i]≠0)=true:=decide_eq_true ce;rw[if_pos ce]at hnl;rw[hnl]at hk;simp only[wS,wC,Nat.reduceAdd,hd2];exact Qag ⟨rfl,rfl,rfl,rfl⟩ H.f79 rfl (hk _ ((u1.trans u5).trans u6))
  ·have hd:decide ((i:Int)<(rows.length:Int))=false:=decide_eq_false (by omega);rw[List.drop_eq_nil_of_le (by omega),Qbc]at hnl;rw[hnl]at hk;simp only[Qov,tail79,wS,wC,Nat.reduceAdd,faP,Nat.zero_add,lp,ll,hd];exact Qag ⟨rfl,rfl,rfl,rfl⟩ H.f79 rfl (hk _ (u1.trans u5))
theorem Qjz(H:FnR F M)(cell:Int):∀(z:Nat)(T:CT),sizeC T≤z→Short T→∀{N:Nat}{h:AH}{row:List AV},Up h h→N≤h.next→Rep N h T row →
  Ctr F M 79 [.agg row,.int .i64 cell] h (fun v h'=>v=.int .i64 (Qa3 cell T)∧Up h h') (fun _ _=>False)
 |0,.mk k n l,hz,_,_,_,_,_,_,_=>by simp[sizeC]at hz
 |z+1,.mk k n l,hz,hsh,N,h,row,u,hN,hr=>by
  refine Ctr.intro H.f79 fun caller cs G hk _=>W_ok 300 _ _ _ ?_
  obtain⟨lv,rows,rfl,hsl,hl,hrr⟩:=hr.inv;simp only[fn79,b79,Nat.reduceAdd,Nat.reduceSub,wS,wC];refine wBoxA (Wk.start u) fun b1 h1 w1=>?_
  have g1:=w1.get 0 rfl;have l0:loadA h1 1 (.ptr b1 0)=some [.int .i64 k]:=by rw[ldP g1];rfl
  have l1:loadA h1 1 (.ptr b1 1)=some [.int .i64 n]:=by rw[ldP g1];rfl
  have l2:loadA h1 1 (.ptr b1 2)=some [lv]:=by rw[ldP g1];rfl
  have ll:=hsl.len;simp only[wS,wC,Nat.reduceAdd,faP,Nat.zero_add,l0];refine cCall 300 (H.m 20 (by simp) _) (Ql0 H.f20 k 0 4 h1) fun v h2 hp=>?_
  obtain⟨rfl,rfl⟩:=hp;have ihz:∀i (hi:i<l.length),∀{N:Nat} {h:AH} {row:List AV},Up h h→N≤h.next→Rep N h l[i] row→Ctr F M 79 [.agg row,.int .i64 cell] h (fun v h'=>v=.int .i64 (Qa3 cell l[i])∧Up h h') (fun _ _=>False):=by
   intro i hi N h row;have q1:=Qdc (l.take i) (l.drop i);rw[List.take_append_drop,QdC hi]at q1;simp only[sizeC]at hz;exact Qjz H cell z l[i] (by omega) (Shorts.at hsh.2 i hi)
  have hend1:∀e,nodeD k n l.length cell=e→e≠0→Qa3 cell (.mk k n l)=e:=fun e h1 h2=>by simp only[Qa3];rw[h1,if_pos h2]
  have hend0:nodeD k n l.length cell=0→Qa3 cell (.mk k n l)=Qbc cell l:=fun h1=>by simp only[Qa3];rw[h1,if_neg (fun e=>e rfl)]
  have hk':∀e,Qa3 cell (.mk k n l)=e→∀h',Up h h'→∃fr',caller.finish h' (.int .i64 e)=some fr'∧Reach F M ⟨fr',cs,h'⟩ G:=fun e he h' hu=>hk _ _ ⟨by rw[he],hu⟩
  by_cases cr:0≤k∧k≤4
  ·simp only[wS,wC,Nat.reduceAdd,decide_eq_true cr,Bool.not_true,faP,Nat.zero_add,l0];have hk5:k=0∨k=1∨k=2∨k=3∨k=4:=by omega
   rcases hk5 with rfl|rfl|rfl|rfl|rfl
   ·simp only[wS,wC,Nat.reduceAdd,Int.reduceEq,decide_true,faP,Nat.zero_add,l1];refine cCall 300 (H.m 20 (by simp) _) (Ql0 H.f20 n (-99) 99 h2) fun v h3 hp=>?_
    obtain⟨rfl,rfl⟩:=hp;by_cases cn : -99≤n∧n≤99
    ·have hnd:¬(n < -99∨99<n):=by omega
     simp only[wS,wC,Nat.reduceAdd,decide_eq_true cn,Bool.not_true,Int.reduceEq,Int.reduceNe,decide_true,decide_false,faP,Nat.zero_add,l0,l1,l2,ll,AOp.makes];refine cMain 300 (H.m 104 (by simp) _) (Qdi H.f104 0 h3) fun v h4 hp=>?_
     obtain⟨rfl,rfl⟩:=hp;refine⟨?_,?_⟩
     ·simp only[List.all_cons,List.all_nil,Bool.and_true];exact Qbk rfl rfl rfl rfl (v':=lv) (h2:=h4) (by simp only[wS,l2]) rfl
     have pv:(if (0:Int)=0∨(0:Int)=1 then (0:Int) else if (0:Int)=4 then 3 else 2)=0:=rfl;by_cases cl:l.length=0
     ·have hd3:decide ((rows.length:Int)≠0)=false:=decide_eq_false (fun e=>e (by omega));simp only[wS,wC,Nat.reduceAdd,AOp.makes,true_or,or_true,or_self,false_or,if_true,if_false,Int.reduceEq,hd3,Int.reduceEq,decide_true,decide_false,faP,Nat.zero_add,l0,l1];exact QcJ H ihz w1.up hN hsl hl hrr hsh.1 g1 (hk' _ (hend0 (by unfold nodeD;rw[if_pos rfl,if_neg hnd,if_neg (by omega)])))
     ·have hd3:decide ((rows.length:Int)≠0)=true:=decide_eq_true (by omega);simp only[wS,wC,Nat.reduceAdd,AOp.makes,true_or,or_true,or_self,false_or,if_true,if_false,Int.reduceEq,hd3];exact Qag ⟨rfl,rfl,rfl,rfl⟩ H.f79 rfl (hk' 7 (hend1 7 (by unfold nodeD;rw[if_pos rfl,if_neg hnd,if_pos (by omega)]) (by decide)) _ w1.up)
    ·have hnd:n < -99∨99<n:=by omega
     simp only[wS,wC,Nat.reduceAdd,decide_eq_false cn,Bool.not_false];exact Qag ⟨rfl,rfl,rfl,rfl⟩ H.f79 rfl (hk' 1 (hend1 1 (by unfold nodeD;rw[if_pos rfl,if_pos hnd]) (by decide)) _ w1.up)
   ·by_cases cn:n<0
    ·simp only[wS,wC,Nat.reduceAdd,Int.reduceEq,decide_true,decide_false,decide_eq_true cn,faP,Nat.zero_add,l0,l1];exact Qag ⟨rfl,rfl,rfl,rfl⟩ H.f79 rfl (hk' 1 (hend1 1 (by unfold nodeD;rw[if_neg (by decide),if_pos rfl,if_pos cn]) (by decide)) _ w1.up)
    ·have hq0:decide ((1:Int)≠0)=true:=rfl;have hq1:decide ((1:Int)≠1)=false:=rfl;simp only[wS,wC,Nat.reduceAdd,Int.reduceEq,decide_true,decide_false,decide_eq_false cn,hq0,hq1,faP,Nat.zero_add,l0,l1,l2,ll,AOp.makes];refine cMain 300 (H.m 104 (by simp) _) (Qdi H.f104 1 h2) fun v h4 hp=>?_
     obtain⟨rfl,rfl⟩:=hp;refine⟨?_,?_⟩
     ·simp only[List.all_cons,List.all_nil,Bool.and_true];exact Qbk rfl rfl rfl rfl (v':=lv) (h2:=h4) (by simp only[wS,l2]) rfl
     by_cases cl:l.length=0
     ·have hd3:decide ((rows.length:Int)≠0)=false:=decide_eq_false (fun e=>e (by omega));by_cases cc:cell≤n
      ·have hcc:decide (cell≤n)=true:=decide_eq_true cc;simp only[wS,wC,Nat.reduceAdd,AOp.makes,true_or,or_true,or_self,false_or,if_true,if_false,Int.reduceEq,hd3,decide_true,decide_false,faP,Nat.zero_add,l0,l1,hcc];exact Qag ⟨rfl,rfl,rfl,rfl⟩ H.f79 rfl (hk' 6 (hend1 6 (by unfold nodeD;rw[if_neg (by decide),if_pos rfl,if_neg cn,if_neg (by omega),if_pos cc]) (by decide)) _ w1.up)
      ·have hcc:decide (cell≤n)=false:=decide_eq_false cc;simp only[wS,wC,Nat.reduceAdd,AOp.makes,true_or,or_true,or_self,false_or,if_true,if_false,Int.reduceEq,hd3,decide_true,decide_false,faP,Nat.zero_add,l0,l1,hcc];exact QcJ H ihz w1.up hN hsl hl hrr hsh.1 g1 (hk' _ (hend0 (by unfold nodeD;rw[if_neg (by decide),if_pos rfl,if_neg cn,if_neg (by omega),if_neg cc])))
     ·have hd3:decide ((rows.length:Int)≠0)=true:=decide_eq_true (by omega);simp only[wS,wC,Nat.reduceAdd,AOp.makes,true_or,or_true,or_self,false_or,if_true,if_false,Int.reduceEq,hd3];exact Qag ⟨rfl,rfl,rfl,rfl⟩ H.f79 rfl (hk' 7 (hend1 7 (by unfold nodeD;rw[if_neg (by decide),if_pos rfl,if_neg cn,if_pos (by omega)]) (by decide)) _ w1.up)
   ·have hq0:decide ((2:Int)≠0)=true:=rfl;have hq1:decide ((2:Int)≠1)=true:=rfl;by_cases cn:n=0
    ·have hn0:decide (n≠0)=false:=decide_eq_false (fun e=>e cn);simp only[wS,wC,Nat.reduceAdd,Int.reduceEq,decide_true,decide_false,hn0,hq0,hq1,faP,Nat.zero_add,l0,l1,l2,ll,AOp.makes];refine cMain 300 (H.m 104 (by simp) _) (Qdi H.f104 2 h2) fun v h4 hp=>?_
     obtain⟨rfl,rfl⟩:=hp;refine⟨?_,?_⟩
     ·simp only[List.all_cons,List.all_nil,Bool.and_true];exact Qbk rfl rfl rfl rfl (v':=lv) (h2:=h4) (by simp only[wS,l2]) rfl
     by_cases cl:l.length=2
     ·have hd3:decide ((rows.length:Int)≠2)=false:=decide_eq_false (fun e=>e (by omega));simp only[wS,wC,Nat.reduceAdd,AOp.makes,true_or,or_true,or_self,false_or,if_true,if_false,Int.reduceEq,hd3,decide_true,decide_false,faP,Nat.zero_add,l0,l1];exact QcJ H ihz w1.up hN hsl hl hrr hsh.1 g1 (hk' _ (hend0 (by unfold nodeD;rw[if_neg (by decide),if_neg (by decide),if_neg (by decide),if_pos (by decide),if_neg (fun e=>e cn),if_neg (by omega)])))
     ·have hd3:decide ((rows.length:Int)≠2)=true:=decide_eq_true (by omega);simp only[wS,wC,Nat.reduceAdd,AOp.makes,true_or,or_true,or_self,false_or,if_true,if_false,Int.reduceEq,hd3];exact Qag ⟨rfl,rfl,rfl,rfl⟩ H.f79 rfl (hk' 7 (hend1 7 (by unfold nodeD;rw[if_neg (by decide),if_neg (by decide),if_neg (by decide),if_pos (by decide),if_neg (fun e=>e cn),if_pos (by omega)]) (by decide)) _ w1.up)
    ·have hn0:decide (n≠0)=true:=decide_eq_true cn;simp only[wS,wC,Nat.reduceAdd,Int.reduceEq,decide_true,decide_false,hn0,hq0,hq1,faP,Nat.zero_add,l0,l1];exact Qag ⟨rfl,rfl,rfl,rfl⟩ H.f79 rfl (hk' 1 (hend1 1 (by unfold nodeD;rw[if_neg (by decide),if_neg (by decide),if_neg (by decide),if_pos (by decide),if_pos cn]) (by decide)) _ w1.up)
   ·have hq0:decide ((3:Int)≠0)=true:=rfl;have hq1:decide ((3:Int)≠1)=true:=rfl;by_cases cn:n=0
    ·have hn0:decide (n≠0)=false:=decide_eq_false (fun e=>e cn);simp only[wS,wC,Nat.reduceAdd,Int.reduceEq,decide_true,decide_false,hn0,hq0,hq1,faP,Nat.zero_add,l0,l1,l2,ll,AOp.makes];refine cMain 300 (H.m 104 (by simp) _) (Qdi H.f104 3 h2) fun v h4 hp=>?_
     obtain⟨rfl,rfl⟩:=hp;refine⟨?_,?_⟩
     ·simp only[List.all_cons,List.all_nil,Bool.and_true];exact Qbk rfl rfl rfl rfl (v':=lv) (h2:=h4) (by simp only[wS,l2]) rfl
     by_cases cl:l.length=2
     ·have hd3:decide ((rows.length:Int)≠2)=false:=decide_eq_false (fun e=>e (by omega));simp only[wS,wC,Nat.reduceAdd,AOp.makes,true_or,or_true,or_self,false_or,if_true,if_false,Int.reduceEq,hd3,decide_true,decide_false,faP,Nat.zero_add,l0,l1];exact QcJ H ihz w1.up hN hsl hl hrr hsh.1 g1 (hk' _ (hend0 (by unfold nodeD;rw[if_neg (by decide),if_neg (by decide),if_neg (by decide),if_pos (by decide),if_neg (fun e=>e cn),if_neg (by omega)])))
     ·have hd3:decide ((rows.length:Int)≠2)=true:=decide_eq_true (by omega);simp only[wS,wC,Nat.reduceAdd,AOp.makes,true_or,or_true,or_self,false_or,if_true,if_false,Int.reduceEq,hd3];exact Qag ⟨rfl,rfl,rfl,rfl⟩ H.f79 rfl (hk' 7 (hend1 7 (by unfold nodeD;rw[if_neg (by decide),if_neg (by decide),if_neg (by decide),if_pos (by decide),if_neg (fun e=>e cn),if_pos (by omega)]) (by decide)) _ w1.up)
    ·have hn0:decide (n≠0)=true:=decide_eq_true cn;simp only[wS,wC,Nat.reduceAdd,Int.reduceEq,decide_true,decide_false,hn0,hq0,hq1,faP,Nat.zero_add,l0,l1];exact Qag ⟨rfl,rfl,rfl,rfl⟩ H.f79 rfl (hk' 1 (hend1 1 (by unfold nodeD;rw[if_neg (by decide),if_neg (by decide),if_neg (by decide),if_pos (by decide),if_pos cn]) (by decide)) _ w1.up)
   ·have hq0:decide ((4:Int)≠0)=true:=rfl;have hq1:decide ((4:Int)≠1)=true:=rfl;by_cases cn:n=0
    ·have hn0:decide (n≠0)=false:=decide_eq_false (fun e=>e cn);simp only[wS,wC,Nat.reduceAdd,Int.reduceEq,decide_true,decide_false,hn0,hq0,hq1,faP,Nat.zero_add,l0,l1,l2,ll,AOp.makes];refine cMain 300 (H.m 104 (by simp) _) (Qdi H.f104 4 h2) fun v h4 hp=>?_
     obtain⟨rfl,rfl⟩:=hp;refine⟨?_,?_⟩
     ·simp only[List.all_cons,List.all_nil,Bool.and_true];exact Qbk rfl rfl rfl rfl (v':=lv) (h2:=h4) (by simp only[wS,l2]) rfl
     by_cases cl:l.length=3
     ·have hd3:decide ((rows.length:Int)≠3)=false:=decide_eq_false (fun e=>e (by omega));simp only[wS,wC,Nat.reduceAdd,AOp.makes,true_or,or_true,or_self,false_or,if_true,if_false,Int.reduceEq,hd3,decide_true,decide_false,faP,Nat.zero_add,l0,l1];exact QcJ H ihz w1.up hN hsl hl hrr hsh.1 g1 (hk' _ (hend0 (by unfold nodeD;rw[if_neg (by decide),if_neg (by decide),if_pos rfl,if_neg (fun e=>e cn),if_neg (by omega)])))
     ·have hd3:decide ((rows.length:Int)≠3)=true:=decide_eq_true (by omega);simp only[wS,wC,Nat.reduceAdd,AOp.makes,true_or,or_true,or_self,false_or,if_true,if_false,Int.reduceEq,hd3];exact Qag ⟨rfl,rfl,rfl,rfl⟩ H.f79 rfl (hk' 7 (hend1 7 (by unfold nodeD;rw[if_neg (by decide),if_neg (by decide),if_pos rfl,if_neg (fun e=>e cn),if_pos (by omega)]) (by decide)) _ w1.up)
    ·have hn0:decide (n≠0)=true:=decide_eq_true cn;simp only[wS,wC,Nat.reduceAdd,Int.reduceEq,decide_true,decide_false,hn0,hq0,hq1,faP,Nat.zero_add,l0,l1];exact Qag ⟨rfl,rfl,rfl,rfl⟩ H.f79 rfl (hk' 1 (hend1 1 (by unfold nodeD;rw[if_neg (by decide),if_neg (by decide),if_pos rfl,if_pos cn]) (by decide)) _ w1.up)
  ·simp only[wS,wC,Nat.reduceAdd,decide_eq_false cr,Bool.not_false];exact Qag ⟨rfl,rfl,rfl,rfl⟩ H.f79 rfl (hk' 1 (hend1 1 (by unfold nodeD;rw[if_neg (by omega),if_neg (by omega),if_neg (by omega),if_neg (by omega)]) (by decide)) _ w1.up)
end
end Go.Ab.L26

/-
  A part of a proof: WRd22.
-/
import Derived.Test.YteikbgknibikmaaGreatDoorWP22toWOc22
import Derived.Test.YteikbgknibikmaaGreatDoorWDlRdtoWDi22
set_option linter.all false
namespace Go.Ab.L22
open Go Go.Ab
section
variable {F : FuncId → Option AFun} {M : Memo} {ita : Int → Str} {rep : Nat → Str}
/-- In, of repriseref01. -/
def inD (n a b : Int) : Bool:=decide (a ≤ n) && decide (n ≤ b)
theorem in_ctr (hF : F 13 = some fn13) {n a b : Int} {h : AH} : Ctr F M 13 [.int .i64 n,.int .i64 a,.int .i64 b] h (fun v h'=>v = .bool (inD n a b) ∧ h' = h) (fun _ _=>False):=by
 refine Ctr.intro hF fun caller cs G hk _=>?_
 simp only [fn13,List.length_cons,List.length_nil,Nat.reduceAdd,Nat.reduceSub,rZ,rS,pN,pC]
 refine R_seq (Qaa (R_op rfl rfl rfl (R_nil ?_)))
 simp only [sN,s0,sS,a0,aS,aC]
 refine R_seq (Qaa (R_op rfl rfl rfl (R_op rfl rfl rfl (R_op rfl rfl rfl (R_op rfl rfl rfl ?_)))))
 simp only [sN,s0,sS,a0,aS,aC]
 obtain ⟨fr',e1,e2⟩:=hk (.bool (inD n a b)) h ⟨rfl,rfl⟩
 by_cases c : a ≤ n
 ·simp only [decide_eq_true c]
  refine R_op rfl rfl rfl (R_op rfl rfl rfl (R_op rfl rfl rfl (R_op rfl rfl rfl (R_op rfl rfl rfl (R_nil ?_)))))
  simp only [sN,s0,sS,a0,aS,aC]
  exact R_ret ⟨rfl,rfl,rfl,rfl⟩ hF (show some (AV.bool (decide (n ≤ b))) = some (AV.bool (inD n a b)) by simp [inD,c]) e1 e2
 ·simp only [decide_eq_false c]
  refine R_not rfl (R_not rfl (R_not rfl (R_op rfl rfl rfl (R_op rfl rfl rfl (R_nil ?_)))))
  simp only [sN,s0,sS,a0,aS,aC]
  exact R_ret ⟨rfl,rfl,rfl,rfl⟩ hF (show some (AV.bool false) = some (AV.bool (inD n a b)) by simp [inD,c]) e1 e2
set_option maxHeartbeats 4000000 in
theorem Qp5 (L : Law F M ita rep) (hF : F QoM = some QiO) (hFi : F 13 = some fn13) (hMi : ∀ as,M 13 as = none) {a : Int} {T : LT} (hs : Short T) {st env : Int} {out : Bool} {t0 t1 t2 : AV} {N : Nat} {h : AH} (u : Up h h) (hN : N ≤ h.next) (hrep : Rep N h T [t0,t1,t2]) :
  Top F M QoM [.agg [.int .i64 st,.int .i64 env,.bool out,t0,t1,t2],.int .i16 a] h (.bool true):=by
 obtain ⟨cA,hA,hAe⟩:=L.awake
 obtain ⟨m,hm⟩ : ∃ m,(IntKind.i64.wrap a).tmod 1000 = m:=⟨_,rfl⟩
 refine Top.intro hF ?_
 simp only [QiO,fn4,List.length_cons,List.length_nil,Nat.reduceAdd,Nat.reduceSub,rZ,rS,pN,pC]
 have w:=Wk.start u
 refine R_seq (Qaa (R_op rfl rfl rfl ?_))
 simp only [sN,s0,sS,a0,aS,aC,AV.cells,hm]
 have w1:=w.alloc (.cells [.int .i64 st,.int .i64 env,.bool out,t0,t1,t2] (some 55) 0 [])
 generalize h.alloc (.cells [.int .i64 st,.int .i64 env,.bool out,t0,t1,t2] (some 55) 0 []) = h1 at w1 ⊢
 generalize h.next = b1 at w1 ⊢
 clear w
 refine R_op rfl rfl rfl (R_nil ?_)
 simp only [sN,s0,sS,a0,aS,aC,AV.cells,hm]
 refine R_seq (Qaa (R_op rfl rfl rfl (R_op rfl rfl rfl (R_op rfl rfl rfl (Qau rfl rfl rfl (L.mnum _) (Qba L.num w1.self) ?_ (fun _ _ e=>e.elim))))))
 rintro v h2 ⟨rfl,u2⟩
 have w2:=w1.call u2
 clear w1 u2
 simp only [sN,s0,sS,a0,aS,aC,AV.cells,hm]
 refine R_op rfl rfl rfl ?_
 simp only [sN,s0,sS,a0,aS,aC,AV.cells,hm]
 have w3:=w2.alloc (.cells [.int .i64 0,.int .i64 0,.nilslice] (some 51) 0 [])
 generalize h2.alloc (.cells [.int .i64 0,.int .i64 0,.nilslice] (some 51) 0 []) = h3 at w3 ⊢
 generalize h2.next = b2 at w3 ⊢
 clear w2
 refine R_op rfl rfl (Qar (l':=[.int .i64 0,.int .i64 m,.nilslice]) (vs:=[.int .i64 0,.int .i64 m,.nilslice]) rfl rfl rfl rfl (w3.get 0 rfl) (by simp) rfl) ?_
 simp only [sN,s0,sS,a0,aS,aC,AV.cells,hm]
 have w4 : Wk _ (h3.put b2 (.cells [.int .i64 0,.int .i64 m,.nilslice] (some 51) 0 [])) [(b2,.cells [.int .i64 0,.int .i64 m,.nilslice] (some 51) 0 []),(b1,.cells [.int .i64 st,.int .i64 env,.bool out,t0,t1,t2] (some 55) 0 [])]:=w3.put 0 rfl _
 generalize h3.put b2 (.cells [.int .i64 0,.int .i64 m,.nilslice] (some 51) 0 []) = h4 at w4 ⊢
 clear w3
 refine R_nil ?_
 refine R_seq (QaY (Qaf (Qab rfl rfl rfl rfl (Qab rfl rfl (Qad (r:=[t0,t1,t2]) rfl (w4.get 1 rfl) (by simp) rfl) rfl (Qab rfl rfl rfl rfl ?_)))))
 simp only [sN,s0,sS,a0,aS,aC,AV.cells,hm]
 have w5:=w4.alloc (.cells [.int .i64 0,.int .i64 0,.nilslice] (some 51) 0 [])
 generalize h4.alloc (.cells [.int .i64 0,.int .i64 0,.nilslice] (some 51) 0 []) = h5 at w5 ⊢
 generalize h4.next = b3 at w5 ⊢
 clear w4
 refine Qac ?_
 refine Qae rfl rfl rfl (L.mleaf _) (Qhw L.leaf w5.self) ?_ (fun _ _ e=>e.elim)
 rintro v h6 ⟨rfl,u6⟩
 have w6:=w5.call u6
 clear w5 u6
 refine ⟨?_,?_⟩
 ·simp only [sN,s0,sS,a0,aS,aC,List.all_cons,List.all_nil,Bool.and_true,Bool.and_eq_true]
  exact ⟨Qak rfl rfl rfl rfl (Qad (r:=[t0,t1,t2]) rfl (w6.get 2 rfl) (by simp) rfl) rfl,QaB rfl rfl rfl rfl rfl rfl rfl (w6.get 0 rfl) rfl⟩
 simp only [sN,s0,sS,a0,aS,aC,AV.cells,hm]
 refine Qaf (Qab rfl rfl (x_two (x0:=.int .i64 3) (x1:=.int .i64 0) (x2:=.nilslice) (y0:=t0) (y1:=t1) (y2:=t2) rfl rfl) rfl ?_)
 simp only [sN,s0,sS,a0,aS,aC,AV.cells,hm]
 have w7:=w6.alloc (.cells [.int .i64 3,.int .i64 0,.nilslice,t0,t1,t2] none 0 [])
 generalize h6.alloc (.cells [.int .i64 3,.int .i64 0,.nilslice,t0,t1,t2] none 0 []) = h7 at w7 ⊢
 generalize h6.next = b4 at w7 ⊢
 clear w6
 refine Qac ?_
 refine Qae rfl rfl rfl (L.mterm _) (Qan L.term rfl rfl rfl w7.self) ?_ (fun _ _ e=>e.elim)
 rintro v h8 ⟨rfl,u8⟩
 have w8:=w7.call u8
 clear w7 u8
 refine ⟨?_,?_⟩
 ·simp only [sN,s0,sS,a0,aS,aC,List.all_cons,List.all_nil,Bool.and_true,Bool.and_eq_true]
  exact QaB rfl rfl rfl rfl rfl rfl rfl (w8.get 1 rfl) rfl
 simp only [sN,s0,sS,a0,aS,aC,AV.cells,hm]
 refine Qaf (Qac ?_)
 refine QaD rfl rfl (Qar (l':=[.int .i64 8,.int .i64 0,.slice b4 0 2 2]) (vs:=[.int .i64 8,.int .i64 0,.slice b4 0 2 2]) rfl rfl rfl rfl (w8.get 1 rfl) (by simp) rfl) rfl ?_
 simp only [sN,s0,sS,a0,aS,aC,AV.cells,hm]
 have w9 : Wk _ (h8.put b3 (.cells [.int .i64 8,.int .i64 0,.slice b4 0 2 2] (some 51) 0 [])) [(b4,.cells [.int .i64 3,.int .i64 0,.nilslice,t0,t1,t2] none 0 []),(b3,.cells [.int .i64 8,.int .i64 0,.slice b4 0 2 2] (some 51) 0 []),(b2,.cells [.int .i64 0,.int .i64 m,.nilslice] (some 51) 0 []),(b1,.cells [.int .i64 st,.int .i64 env,.bool out,t0,t1,t2] (some 55) 0 [])]:=w8.put 1 rfl _
 generalize h8.put b3 (.cells [.int .i64 8,.int .i64 0,.slice b4 0 2 2] (some 51) 0 []) = h9 at w9 ⊢
 clear w8
 refine Qaf (Qap (Qat (QaX ?_)))
 refine R_seq (QaY (Qaf (Qab rfl rfl (Qad (r:=[.int .i64 0,.int .i64 m,.nilslice]) rfl (w9.get 2 rfl) (by simp) rfl) rfl (Qab rfl rfl rfl rfl (Qab rfl rfl (Qad (r:=[t0,t1,t2]) rfl (w9.get 3 rfl) (by simp) rfl) rfl (Qab rfl rfl rfl rfl ?_))))))
 simp only [sN,s0,sS,a0,aS,aC,AV.cells,hm]
 have w10:=w9.alloc (.cells [.int .i64 0,.int .i64 0,.nilslice] (some 51) 0 [])
 generalize h9.alloc (.cells [.int .i64 0,.int .i64 0,.nilslice] (some 51) 0 []) = h10 at w10 ⊢
 generalize h9.next = b5 at w10 ⊢
 clear w9
 refine Qac ?_
 refine Qae rfl rfl rfl (L.mleaf _) (Qhw L.leaf w10.self) ?_ (fun _ _ e=>e.elim)
 rintro v h11 ⟨rfl,u11⟩
 have w11:=w10.call u11
 clear w10 u11
 refine ⟨?_,?_⟩
 ·simp only [sN,s0,sS,a0,aS,aC,List.all_cons,List.all_nil,Bool.and_true,Bool.and_eq_true]
  exact ⟨Qak rfl rfl rfl rfl (Qad (r:=[.int .i64 0,.int .i64 m,.nilslice]) rfl (w11.get 3 rfl) (by simp) rfl) rfl,Qak rfl rfl rfl rfl (Qad (r:=[t0,t1,t2]) rfl (w11.get 4 rfl) (by simp) rfl) rfl,QaB rfl rfl rfl rfl rfl rfl rfl (w11.get 0 rfl) rfl⟩
 simp only [sN,s0,sS,a0,aS,aC,AV.cells,hm]
 refine Qaf (Qab rfl rfl (x_two (x0:=.int .i64 0) (x1:=.int .i64 m) (x2:=.nilslice) (y0:=.int .i64 3) (y1:=.int .i64 0) (y2:=.nilslice) rfl rfl) rfl ?_)
 simp only [sN,s0,sS,a0,aS,aC,AV.cells,hm]
 have w12:=w11.alloc (.cells [.int .i64 0,.int .i64 m,.nilslice,.int .i64 3,.int .i64 0,.nilslice] none 0 [])
 generalize h11.alloc (.cells [.int .i64 0,.int .i64 m,.nilslice,.int .i64 3,.int .i64 0,.nilslice] none 0 []) = h12 at w12 ⊢
 generalize h11.next = b6 at w12 ⊢
 clear w11
 refine Qac ?_
 refine Qae rfl rfl rfl (L.mterm _) (Qan L.term rfl rfl rfl w12.self) ?_ (fun _ _ e=>e.elim)
 rintro v h13 ⟨rfl,u13⟩
 have w13:=w12.call u13
 clear w12 u13
 refine ⟨?_,?_⟩
 ·simp only [sN,s0,sS,a0,aS,aC,List.all_cons,List.all_nil,Bool.and_true,Bool.and_eq_true]
  exact ⟨Qak rfl rfl rfl rfl (Qad (r:=[t0,t1,t2]) rfl (w13.get 5 rfl) (by simp) rfl) rfl,QaB rfl rfl rfl rfl rfl rfl rfl (w13.get 1 rfl) rfl⟩
 simp only [sN,s0,sS,a0,aS,aC,AV.cells,hm]
 refine Qaf (Qab rfl rfl (x_two (x0:=.int .i64 8) (x1:=.int .i64 0) (x2:=.slice b6 0 2 2) (y0:=t0) (y1:=t1) (y2:=t2) rfl rfl) rfl ?_)
 simp only [sN,s0,sS,a0,aS,aC,AV.cells,hm]
 have w14:=w13.alloc (.cells [.int .i64 8,.int .i64 0,.slice b6 0 2 2,t0,t1,t2] none 0 [])
 generalize h13.alloc (.cells [.int .i64 8,.int .i64 0,.slice b6 0 2 2,t0,t1,t2] none 0 []) = h14 at w14 ⊢
 generalize h13.next = b7 at w14 ⊢
 clear w13
 refine Qac ?_
 refine Qae rfl rfl rfl (L.mterm _) (Qan L.term rfl rfl rfl w14.self) ?_ (fun _ _ e=>e.elim)
 rintro v h15 ⟨rfl,u15⟩
 have w15:=w14.call u15
 clear w14 u15
 refine ⟨?_,?_⟩
 ·simp only [sN,s0,sS,a0,aS,aC,List.all_cons,List.all_nil,Bool.and_true,Bool.and_eq_true]
  exact QaB rfl rfl rfl rfl rfl rfl rfl (w15.get 2 rfl) rfl
 simp only [sN,s0,sS,a0,aS,aC,AV.cells,hm]
 refine Qaf (Qac ?_)
 refine QaD rfl rfl (Qar (l':=[.int .i64 10,.int .i64 0,.slice b7 0 2 2]) (vs:=[.int .i64 10,.int .i64 0,.slice b7 0 2 2]) rfl rfl rfl rfl (w15.get 2 rfl) (by simp) rfl) rfl ?_
 simp only [sN,s0,sS,a0,aS,aC,AV.cells,hm]
 have w16 : Wk _ (h15.put b5 (.cells [.int .i64 10,.int .i64 0,.slice b7 0 2 2] (some 51) 0 [])) [(b7,.cells [.int .i64 8,.int .i64 0,.slice b6 0 2 2,t0,t1,t2] none 0 []),(b6,.cells [.int .i64 0,.int .i64 m,.nilslice,.int .i64 3,.int .i64 0,.nilslice] none 0 []),(b5,.cells [.int .i64 10,.int .i64 0,.slice b7 0 2 2] (some 51) 0 []),(b4,.cells [.int .i64 3,.int .i64 0,.nilslice,t0,t1,t2] none 0 []),(b3,.cells [.int .i64 8,.int .i64 0,.slice b4 0 2 2] (some 51) 0 []),(b2,.cells [.int .i64 0,.int .i64 m,.nilslice] (some 51) 0 []),(b1,.cells [.int .i64 st,.int .i64 env,.bool out,t0,t1,t2] (some 55) 0 [])]:=w15.put 2 rfl _
 generalize h15.put b5 (.cells [.int .i64 10,.int .i64 0,.slice b7 0 2 2] (some 51) 0 []) = h16 at w16 ⊢
 clear w15
 refine Qaf (Qap (Qat (QaX ?_)))
 refine R_seq (QaY (Qaf (Qab rfl rfl rfl rfl (Qab rfl rfl (Qad (r:=[t0,t1,t2]) rfl (w16.get 6 rfl) (by simp) rfl) rfl (Qab rfl rfl rfl rfl ?_)))))
 simp only [sN,s0,sS,a0,aS,aC,AV.cells,hm]
 have w17:=w16.alloc (.cells [.int .i64 0,.int .i64 0,.nilslice] (some 51) 0 [])
 generalize h16.alloc (.cells [.int .i64 0,.int .i64 0,.nilslice] (some 51) 0 []) = h17 at w17 ⊢
 generalize h16.next = b8 at w17 ⊢
 clear w16
 refine Qac ?_
 refine Qae rfl rfl rfl (L.mleaf _) (Qhw L.leaf w17.self) ?_ (fun _ _ e=>e.elim)
 rintro v h18 ⟨rfl,u18⟩
 have w18:=w17.call u18
 clear w17 u18
 refine ⟨?_,?_⟩
 ·simp only [sN,s0,sS,a0,aS,aC,List.all_cons,List.all_nil,Bool.and_true,Bool.and_eq_true]
  exact ⟨Qak rfl rfl rfl rfl (Qad (r:=[t0,t1,t2]) rfl (w18.get 7 rfl) (by simp) rfl) rfl,QaB rfl rfl rfl rfl rfl rfl rfl (w18.get 0 rfl) rfl⟩
 simp only [sN,s0,sS,a0,aS,aC,AV.cells,hm]
 refine Qaf (Qab rfl rfl (x_two (x0:=t0) (x1:=t1) (x2:=t2) (y0:=.int .i64 3) (y1:=.int .i64 0) (y2:=.nilslice) rfl rfl) rfl ?_)
 simp only [sN,s0,sS,a0,aS,aC,AV.cells,hm]
 have w19:=w18.alloc (.cells [t0,t1,t2,.int .i64 3,.int .i64 0,.nilslice] none 0 [])
 generalize h18.alloc (.cells [t0,t1,t2,.int .i64 3,.int .i64 0,.nilslice] none 0 []) = h19 at w19 ⊢
 generalize h18.next = b9 at w19 ⊢
 clear w18
 refine Qac ?_
 refine Qae rfl rfl rfl (L.mterm _) (Qan L.term rfl rfl rfl w19.self) ?_ (fun _ _ e=>e.elim)
 rintro v h20 ⟨rfl,u20⟩
 have w20:=w19.call u20
 clear w19 u20
 refine ⟨?_,?_⟩
 ·simp only [sN,s0,sS,a0,aS,aC,List.all_cons,List.all_nil,Bool.and_true,Bool.and_eq_true]
  exact QaB rfl rfl rfl rfl rfl rfl rfl (w20.get 1 rfl) rfl
 simp only [sN,s0,sS,a0,aS,aC,AV.cells,hm]
 refine Qaf (Qac ?_)
 refine QaD rfl rfl (Qar (l':=[.int .i64 10,.int .i64 0,.slice b9 0 2 2]) (vs:=[.int .i64 10,.int .i64 0,.slice b9 0 2 2]) rfl rfl rfl rfl (w20.get 1 rfl) (by simp) rfl) rfl ?_
 simp only [sN,s0,sS,a0,aS,aC,AV.cells,hm]
 have w21 : Wk _ (h20.put b8 (.cells [.int .i64 10,.int .i64 0,.slice b9 0 2 2] (some 51) 0 [])) [(b9,.cells [t0,t1,t2,.int .i64 3,.int .i64 0,.nilslice] none 0 []),(b8,.cells [.int .i64 10,.int .i64 0,.slice b9 0 2 2] (some 51) 0 []),(b7,.cells [.int .i64 8,.int .i64 0,.slice b6 0 2 2,t0,t1,t2] none 0 []),(b6,.cells [.int .i64 0,.int .i64 m,.nilslice,.int .i64 3,.int .i64 0,.nilslice] none 0 []),(b5,.cells [.int .i64 10,.int .i64 0,.slice b7 0 2 2] (some 51) 0 []),(b4,.cells [.int .i64 3,.int .i64 0,.nilslice,t0,t1,t2] none 0 []),(b3,.cells [.int .i64 8,.int .i64 0,.slice b4 0 2 2] (some 51) 0 []),(b2,.cells [.int .i64 0,.int .i64 m,.nilslice] (some 51) 0 []),(b1,.cells [.int .i64 st,.int .i64 env,.bool out,t0,t1,t2] (some 55) 0 [])]:=w20.put 1 rfl _
 generalize h20.put b8 (.cells [.int .i64 10,.int .i64 0,.slice b9 0 2 2] (some 51) 0 []) = h21 at w21 ⊢
 clear w20
 refine Qaf (Qap (Qat (QaX ?_)))
 refine R_seq (QaY (Qaf (Qab rfl rfl rfl rfl (Qab rfl rfl (Qad (r:=[t0,t1,t2]) rfl (w21.get 8 rfl) (by simp) rfl) rfl (Qab rfl rfl rfl rfl (Qab rfl rfl (Qal (v:=.int .i64 env) rfl (w21.get 8 rfl) rfl) rfl ?_))))))
 simp only [sN,s0,sS,a0,aS,aC,AV.cells,hm]
 refine Qab rfl rfl rfl rfl ?_
 simp only [sN,s0,sS,a0,aS,aC,AV.cells,hm]
 have w22:=w21.alloc (.cells [.int .i64 0,.int .i64 0,.nilslice] (some 51) 0 [])
 generalize h21.alloc (.cells [.int .i64 0,.int .i64 0,.nilslice] (some 51) 0 []) = h22 at w22 ⊢
 generalize h21.next = b10 at w22 ⊢
 clear w21
 refine Qac ?_
 refine Qae rfl rfl rfl (L.mnum _) (Qba L.num w22.self) ?_ (fun _ _ e=>e.elim)
 rintro v h23 ⟨rfl,u23⟩
 have w23:=w22.call u23
 clear w22 u23
 refine ⟨?_,?_⟩
 ·simp only [sN,s0,sS,a0,aS,aC,List.all_cons,List.all_nil,Bool.and_true,Bool.and_eq_true]
  exact ⟨Qak rfl rfl rfl rfl (Qad (r:=[t0,t1,t2]) rfl (w23.get 9 rfl) (by simp) rfl) rfl,QaB rfl rfl rfl rfl rfl rfl rfl (w23.get 0 rfl) rfl⟩
 simp only [sN,s0,sS,a0,aS,aC,AV.cells,hm]
 refine Qaf (Qab rfl rfl (x_two (x0:=t0) (x1:=t1) (x2:=t2) (y0:=.int .i64 0) (y1:=.int .i64 env) (y2:=.nilslice) rfl rfl) rfl ?_)
 simp only [sN,s0,sS,a0,aS,aC,AV.cells,hm]
 have w24:=w23.alloc (.cells [t0,t1,t2,.int .i64 0,.int .i64 env,.nilslice] none 0 [])
 generalize h23.alloc (.cells [t0,t1,t2,.int .i64 0,.int .i64 env,.nilslice] none 0 []) = h24 at w24 ⊢
 generalize h23.next = b11 at w24 ⊢
 clear w23
 refine Qac ?_
 refine Qae rfl rfl rfl (L.mterm _) (Qan L.term rfl rfl rfl w24.self) ?_ (fun _ _ e=>e.elim)
 rintro v h25 ⟨rfl,u25⟩
 have w25:=w24.call u25
 clear w24 u25
 refine ⟨?_,?_⟩
 ·simp only [sN,s0,sS,a0,aS,aC,List.all_cons,List.all_nil,Bool.and_true,Bool.and_eq_true]
  exact QaB rfl rfl rfl rfl rfl rfl rfl (w25.get 1 rfl) rfl
 simp only [sN,s0,sS,a0,aS,aC,AV.cells,hm]
 refine Qaf (Qac ?_)
 refine QaD rfl rfl (Qar (l':=[.int .i64 10,.int .i64 0,.slice b11 0 2 2]) (vs:=[.int .i64 10,.int .i64 0,.slice b11 0 2 2]) rfl rfl rfl rfl (w25.get 1 rfl) (by simp) rfl) rfl ?_
 simp only [sN,s0,sS,a0,aS,aC,AV.cells,hm]
 have w26 : Wk _ (h25.put b10 (.cells [.int .i64 10,.int .i64 0,.slice b11 0 2 2] (some 51) 0 [])) [(b11,.cells [t0,t1,t2,.int .i64 0,.int .i64 env,.nilslice] none 0 []),(b10,.cells [.int .i64 10,.int .i64 0,.slice b11 0 2 2] (some 51) 0 []),(b9,.cells [t0,t1,t2,.int .i64 3,.int .i64 0,.nilslice] none 0 []),(b8,.cells [.int .i64 10,.int .i64 0,.slice b9 0 2 2] (some 51) 0 []),(b7,.cells [.int .i64 8,.int .i64 0,.slice b6 0 2 2,t0,t1,t2] none 0 []),(b6,.cells [.int .i64 0,.int .i64 m,.nilslice,.int .i64 3,.int .i64 0,.nilslice] none 0 []),(b5,.cells [.int .i64 10,.int .i64 0,.slice b7 0 2 2] (some 51) 0 []),(b4,.cells [.int .i64 3,.int .i64 0,.nilslice,t0,t1,t2] none 0 []),(b3,.cells [.int .i64 8,.int .i64 0,.slice b4 0 2 2] (some 51) 0 []),(b2,.cells [.int .i64 0,.int .i64 m,.nilslice] (some 51) 0 []),(b1,.cells [.int .i64 st,.int .i64 env,.bool out,t0,t1,t2] (some 55) 0 [])]:=w25.put 1 rfl _
 generalize h25.put b10 (.cells [.int .i64 10,.int .i64 0,.slice b11 0 2 2] (some 51) 0 []) = h26 at w26 ⊢
 clear w25
 refine Qaf (Qap (Qat (QaX ?_)))
 refine R_seq (Qaa (R_op rfl rfl (Qad (r:=[.int .i64 st,.int .i64 env,.bool out,t0,t1,t2]) rfl (w26.get 10 rfl) (by simp) rfl) (R_op rfl rfl (Qad (r:=[.int .i64 8,.int .i64 0,.slice b4 0 2 2]) rfl (w26.get 8 rfl) (by simp) rfl) (R_op rfl rfl rfl (R_op rfl rfl (Qad (r:=[t0,t1,t2]) rfl (w26.get 10 rfl) (by simp) rfl) (Qau rfl rfl rfl (L.mequal _) (QaI L (Qao (Qam 3 0) hs) hs w26.self (Nat.le_refl _) (QaA (w26.lt 7 rfl) (w26.get 7 rfl) (Qas _ _ 3 0) (w26.rep hN hrep)) (w26.rep hN hrep) (reader1 T env ⟨st,[]⟩)) ?_ (fun _ _ e=>e.elim)))))))
 rintro v h27 ⟨rfl,u27⟩
 have w27:=w26.call u27
 clear w26 u27
 simp only [sN,s0,sS,a0,aS,aC,AV.cells,hm]
 refine R_op rfl rfl rfl (R_op rfl rfl (Qad (r:=[.int .i64 st,.int .i64 env,.bool out,t0,t1,t2]) rfl (w27.get 10 rfl) (by simp) rfl) (R_op rfl rfl (Qad (r:=[.int .i64 10,.int .i64 0,.slice b7 0 2 2]) rfl (w27.get 6 rfl) (by simp) rfl) (R_op rfl rfl rfl (R_op rfl rfl (Qad (r:=[t0,t1,t2]) rfl (w27.get 10 rfl) (by simp) rfl) (Qau rfl rfl rfl (L.mequal _) (QaI L (Qao (Qao (Qam 0 m) (Qam 3 0)) hs) hs w27.self (Nat.le_refl _) (QaA (w27.lt 4 rfl) (w27.get 4 rfl) (QaA (w27.lt 5 rfl) (w27.get 5 rfl) (Qas _ _ 0 m) (Qas _ _ 3 0)) (w27.rep hN hrep)) (w27.rep hN hrep) (reader2 T m env ⟨st,[]⟩)) ?_ (fun _ _ e=>e.elim))))))
 rintro v h28 ⟨rfl,u28⟩
 have w28:=w27.call u28
 clear w27 u28
 simp only [sN,s0,sS,a0,aS,aC,AV.cells,hm]
 refine R_op rfl rfl rfl (R_op rfl rfl rfl (R_op rfl rfl rfl (R_op rfl rfl (Qal (v:=.int .i64 env) rfl (w28.get 10 rfl) rfl) (Qau rfl rfl rfl (hMi _) (in_ctr hFi) ?_ (fun _ _ e=>e.elim)))))
 rintro v h28 ⟨rfl,rfl⟩
 cases hin : inD env (-999) 999 with
 | false =>
  simp only [sN,s0,sS,a0,aS,aC,AV.cells,hm]
  refine R_op rfl rfl rfl (R_op rfl rfl rfl (R_not rfl (R_not rfl (R_not rfl (R_not rfl (R_op rfl rfl rfl ?_))))))
  simp only [sN,s0,sS,a0,aS,aC,AV.cells,hm]
  refine R_op rfl rfl rfl (R_op rfl rfl rfl (QdL rfl rfl rfl hA (hAe _) (R_op rfl rfl rfl (R_op rfl rfl rfl (R_nil ?_)))))
  simp only [sN,s0,sS,a0,aS,aC,AV.cells,hm]
  exact R_top ⟨rfl,rfl,rfl,rfl⟩ hF rfl
 | true =>
  simp only [sN,s0,sS,a0,aS,aC,AV.cells,hm]
  refine R_op rfl rfl rfl (R_op rfl rfl rfl (R_op rfl rfl (Qad (r:=[.int .i64 st,.int .i64 env,.bool out,t0,t1,t2]) rfl (w28.get 10 rfl) (by simp) rfl) (R_op rfl rfl (Qad (r:=[.int .i64 10,.int .i64 0,.slice b9 0 2 2]) rfl (w28.get 3 rfl) (by simp) rfl) (R_op rfl rfl (Qad (r:=[.int .i64 10,.int .i64 0,.slice b11 0 2 2]) rfl (w28.get 1 rfl) (by simp) rfl) (Qau rfl rfl rfl (L.mequal _) (QaI L (Qao hs (Qam 3 0)) (Qao hs (Qam 0 env)) w28.self (Nat.le_refl _) (QaA (w28.lt 2 rfl) (w28.get 2 rfl) (w28.rep hN hrep) (Qas _ _ 3 0)) (QaA (w28.lt 0 rfl) (w28.get 0 rfl) (w28.rep hN hrep) (Qas _ _ 0 env)) (reader3 T env ⟨st,[]⟩)) ?_ (fun _ _ e=>e.elim))))))
  rintro v h29 ⟨rfl,u29⟩
  have w29:=w28.call u29
  clear w28 u29
  simp only [sN,s0,sS,a0,aS,aC,AV.cells,hm]
  refine R_op rfl rfl rfl (R_op rfl rfl rfl (R_op rfl rfl rfl (QdL rfl rfl rfl hA (hAe _) (R_op rfl rfl rfl (R_op rfl rfl rfl (R_nil ?_))))))
  simp only [sN,s0,sS,a0,aS,aC,AV.cells,hm]
  exact R_top ⟨rfl,rfl,rfl,rfl⟩ hF rfl
end
end Go.Ab.L22

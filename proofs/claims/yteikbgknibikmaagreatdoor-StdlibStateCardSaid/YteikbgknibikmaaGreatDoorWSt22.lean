/-
  A part of a proof: WSt22.
-/
import Derived.Test.YteikbgknibikmaaGreatDoorWP22toWOc22
import Derived.Test.YteikbgknibikmaaGreatDoorWDlSt
set_option linter.all false
namespace Go.Ab.L22
open Go Go.Ab
section
variable {F : FuncId → Option AFun} {M : Memo} {ita : Int → Str} {rep : Nat → Str}
set_option maxHeartbeats 4000000 in
theorem QrL (L : Law F M ita rep) (hF : F Qra = some Qlt) {a b : Int} {T : LT} (hs : Short T) {st env : Int} {out : Bool} {t0 t1 t2 : AV} {N : Nat} {h : AH} (u : Up h h) (hN : N ≤ h.next) (hrep : Rep N h T [t0,t1,t2]) :
  Top F M Qra [.agg [.int .i64 st,.int .i64 env,.bool out,t0,t1,t2],.int .i16 a,.int .i16 b] h (.bool true):=by
 obtain ⟨cA,hA,hAe⟩:=L.awake
 obtain ⟨m,hm⟩ : ∃ m,(IntKind.i64.wrap a).tmod 1000 = m:=⟨_,rfl⟩
 obtain ⟨n,hn⟩ : ∃ n,(IntKind.i64.wrap b).tmod 1000 = n:=⟨_,rfl⟩
 refine Top.intro hF ?_
 simp only [Qlt,fn3,List.length_cons,List.length_nil,Nat.reduceAdd,Nat.reduceSub,rZ,rS,pN,pC]
 have w:=Wk.start u
 refine R_seq (Qaa (R_op rfl rfl rfl ?_))
 simp only [sN,s0,sS,a0,aS,aC,AV.cells,hm,hn]
 have w1:=w.alloc (.cells [.int .i64 st,.int .i64 env,.bool out,t0,t1,t2] (some 55) 0 [])
 generalize h.alloc (.cells [.int .i64 st,.int .i64 env,.bool out,t0,t1,t2] (some 55) 0 []) = h1 at w1 ⊢
 generalize h.next = b1 at w1 ⊢
 clear w
 refine R_op rfl rfl rfl (R_nil ?_)
 simp only [sN,s0,sS,a0,aS,aC,AV.cells,hm,hn]
 refine R_seq (Qaa (R_op rfl rfl rfl (R_op rfl rfl rfl (R_op rfl rfl rfl (Qau rfl rfl rfl (L.mnum _) (Qba L.num w1.self) ?_ (fun _ _ e=>e.elim))))))
 rintro v h2 ⟨rfl,u2⟩
 have w2:=w1.call u2
 clear w1 u2
 simp only [sN,s0,sS,a0,aS,aC,AV.cells,hm,hn]
 refine R_op rfl rfl rfl (R_op rfl rfl rfl (R_op rfl rfl rfl (Qau rfl rfl rfl (L.mnum _) (Qba L.num w2.self) ?_ (fun _ _ e=>e.elim))))
 rintro v h3 ⟨rfl,u3⟩
 have w3:=w2.call u3
 clear w2 u3
 simp only [sN,s0,sS,a0,aS,aC,AV.cells,hm,hn]
 refine R_op rfl rfl rfl ?_
 simp only [sN,s0,sS,a0,aS,aC,AV.cells,hm,hn]
 have w4:=w3.alloc (.cells [.int .i64 0,.int .i64 0,.nilslice] (some 51) 0 [])
 generalize h3.alloc (.cells [.int .i64 0,.int .i64 0,.nilslice] (some 51) 0 []) = h4 at w4 ⊢
 generalize h3.next = b2 at w4 ⊢
 clear w3
 refine R_op rfl rfl rfl ?_
 simp only [sN,s0,sS,a0,aS,aC,AV.cells,hm,hn]
 have w5:=w4.alloc (.cells [.int .i64 0,.int .i64 0,.nilslice] (some 51) 0 [])
 generalize h4.alloc (.cells [.int .i64 0,.int .i64 0,.nilslice] (some 51) 0 []) = h5 at w5 ⊢
 generalize h4.next = b3 at w5 ⊢
 clear w4
 refine R_op rfl rfl (Qar (l':=[.int .i64 0,.int .i64 m,.nilslice]) (vs:=[.int .i64 0,.int .i64 m,.nilslice]) rfl rfl rfl rfl (w5.get 1 rfl) (by simp) rfl) ?_
 simp only [sN,s0,sS,a0,aS,aC,AV.cells,hm,hn]
 have w6 : Wk _ (h5.put b2 (.cells [.int .i64 0,.int .i64 m,.nilslice] (some 51) 0 [])) [(b3,.cells [.int .i64 0,.int .i64 0,.nilslice] (some 51) 0 []),(b2,.cells [.int .i64 0,.int .i64 m,.nilslice] (some 51) 0 []),(b1,.cells [.int .i64 st,.int .i64 env,.bool out,t0,t1,t2] (some 55) 0 [])]:=w5.put 1 rfl _
 generalize h5.put b2 (.cells [.int .i64 0,.int .i64 m,.nilslice] (some 51) 0 []) = h6 at w6 ⊢
 clear w5
 refine R_op rfl rfl (Qar (l':=[.int .i64 0,.int .i64 n,.nilslice]) (vs:=[.int .i64 0,.int .i64 n,.nilslice]) rfl rfl rfl rfl (w6.get 0 rfl) (by simp) rfl) ?_
 simp only [sN,s0,sS,a0,aS,aC,AV.cells,hm,hn]
 have w7 : Wk _ (h6.put b3 (.cells [.int .i64 0,.int .i64 n,.nilslice] (some 51) 0 [])) [(b3,.cells [.int .i64 0,.int .i64 n,.nilslice] (some 51) 0 []),(b2,.cells [.int .i64 0,.int .i64 m,.nilslice] (some 51) 0 []),(b1,.cells [.int .i64 st,.int .i64 env,.bool out,t0,t1,t2] (some 55) 0 [])]:=w6.put 0 rfl _
 generalize h6.put b3 (.cells [.int .i64 0,.int .i64 n,.nilslice] (some 51) 0 []) = h7 at w7 ⊢
 clear w6
 refine R_nil ?_
 refine R_seq (QaY (Qaf (Qab rfl rfl rfl rfl (Qab rfl rfl (Qad (r:=[t0,t1,t2]) rfl (w7.get 2 rfl) (by simp) rfl) rfl (Qab rfl rfl (Qad (r:=[.int .i64 0,.int .i64 m,.nilslice]) rfl (w7.get 1 rfl) (by simp) rfl) rfl (Qab rfl rfl (QbG (x0:=.int .i64 0) (x1:=.int .i64 m) (x2:=.nilslice) rfl) rfl ?_))))))
 simp only [sN,s0,sS,a0,aS,aC,AV.cells,hm,hn]
 have w8:=w7.alloc (.cells [.int .i64 0,.int .i64 m,.nilslice] none 0 [])
 generalize h7.alloc (.cells [.int .i64 0,.int .i64 m,.nilslice] none 0 []) = h8 at w8 ⊢
 generalize h7.next = b4 at w8 ⊢
 clear w7
 refine Qab rfl rfl rfl rfl ?_
 simp only [sN,s0,sS,a0,aS,aC,AV.cells,hm,hn]
 have w9:=w8.alloc (.cells [.int .i64 0,.int .i64 0,.nilslice] (some 51) 0 [])
 generalize h8.alloc (.cells [.int .i64 0,.int .i64 0,.nilslice] (some 51) 0 []) = h9 at w9 ⊢
 generalize h8.next = b5 at w9 ⊢
 clear w8
 refine Qac ?_
 refine Qae rfl rfl rfl (L.mterm _) (Qan L.term rfl rfl rfl w9.self) ?_ (fun _ _ e=>e.elim)
 rintro v h10 ⟨rfl,u10⟩
 have w10:=w9.call u10
 clear w9 u10
 refine ⟨?_,?_⟩
 ·simp only [sN,s0,sS,a0,aS,aC,List.all_cons,List.all_nil,Bool.and_true,Bool.and_eq_true]
  exact ⟨Qak rfl rfl rfl rfl (Qad (r:=[t0,t1,t2]) rfl (w10.get 4 rfl) (by simp) rfl) rfl,QaB rfl rfl rfl rfl rfl rfl rfl (w10.get 0 rfl) rfl⟩
 simp only [sN,s0,sS,a0,aS,aC,AV.cells,hm,hn]
 refine Qaf (Qac ?_)
 refine Qae rfl rfl rfl (L.mleaf _) (Qhw L.leaf w10.self) ?_ (fun _ _ e=>e.elim)
 rintro v h11 ⟨rfl,u11⟩
 have w11:=w10.call u11
 clear w10 u11
 refine ⟨?_,?_⟩
 ·simp only [sN,s0,sS,a0,aS,aC,List.all_cons,List.all_nil,Bool.and_true,Bool.and_eq_true]
  exact ⟨Qak rfl rfl rfl rfl (Qad (r:=[t0,t1,t2]) rfl (w11.get 4 rfl) (by simp) rfl) rfl,QaB rfl rfl rfl rfl rfl rfl rfl (w11.get 0 rfl) rfl⟩
 simp only [sN,s0,sS,a0,aS,aC,AV.cells,hm,hn]
 refine Qaf (Qac ?_)
 refine Qae rfl rfl rfl (L.mafter _) (QmQ L w11.self) ?_ (fun _ _ e=>e.elim)
 rintro v h12 ⟨b6,b7,rfl,u12⟩
 have w12:=w11.join u12
 clear w11 u12
 refine ⟨?_,?_⟩
 ·simp only [sN,s0,sS,a0,aS,aC,List.all_cons,List.all_nil,Bool.and_true,Bool.and_eq_true]
  exact QaB rfl rfl rfl rfl rfl rfl rfl (w12.get 2 rfl) rfl
 simp only [sN,s0,sS,a0,aS,aC,AV.cells,hm,hn]
 refine Qaf (Qac ?_)
 refine QaD rfl rfl (Qar (l':=[.int .i64 10,.int .i64 0,.slice b7 0 2 2]) (vs:=[.int .i64 10,.int .i64 0,.slice b7 0 2 2]) rfl rfl rfl rfl (w12.get 2 rfl) (by simp) rfl) rfl ?_
 simp only [sN,s0,sS,a0,aS,aC,AV.cells,hm,hn]
 have w13 : Wk _ (h12.put b5 (.cells [.int .i64 10,.int .i64 0,.slice b7 0 2 2] (some 51) 0 [])) [(b7,.cells [t0,t1,t2,.int .i64 10,.int .i64 0,.slice b6 0 2 2] none 0 []),(b6,.cells [.int .i64 2,.int .i64 0,.slice b4 0 1 1,.int .i64 1,.int .i64 0,.nilslice] none 0 []),(b5,.cells [.int .i64 10,.int .i64 0,.slice b7 0 2 2] (some 51) 0 []),(b4,.cells [.int .i64 0,.int .i64 m,.nilslice] none 0 []),(b3,.cells [.int .i64 0,.int .i64 n,.nilslice] (some 51) 0 []),(b2,.cells [.int .i64 0,.int .i64 m,.nilslice] (some 51) 0 []),(b1,.cells [.int .i64 st,.int .i64 env,.bool out,t0,t1,t2] (some 55) 0 [])]:=w12.put 2 rfl _
 generalize h12.put b5 (.cells [.int .i64 10,.int .i64 0,.slice b7 0 2 2] (some 51) 0 []) = h13 at w13 ⊢
 clear w12
 refine Qaf (Qap (Qat (QaX ?_)))
 refine R_seq (QaY (Qaf (Qab rfl rfl rfl rfl (Qab rfl rfl (Qad (r:=[t0,t1,t2]) rfl (w13.get 6 rfl) (by simp) rfl) rfl (Qab rfl rfl (Qad (r:=[.int .i64 0,.int .i64 m,.nilslice]) rfl (w13.get 5 rfl) (by simp) rfl) rfl (Qab rfl rfl (QbG (x0:=.int .i64 0) (x1:=.int .i64 m) (x2:=.nilslice) rfl) rfl ?_))))))
 simp only [sN,s0,sS,a0,aS,aC,AV.cells,hm,hn]
 have w14:=w13.alloc (.cells [.int .i64 0,.int .i64 m,.nilslice] none 0 [])
 generalize h13.alloc (.cells [.int .i64 0,.int .i64 m,.nilslice] none 0 []) = h14 at w14 ⊢
 generalize h13.next = b8 at w14 ⊢
 clear w13
 refine Qab rfl rfl (Qad (r:=[.int .i64 0,.int .i64 m,.nilslice]) rfl (w14.get 6 rfl) (by simp) rfl) rfl (Qab rfl rfl rfl rfl ?_)
 simp only [sN,s0,sS,a0,aS,aC,AV.cells,hm,hn]
 have w15:=w14.alloc (.cells [.int .i64 0,.int .i64 0,.nilslice] (some 51) 0 [])
 generalize h14.alloc (.cells [.int .i64 0,.int .i64 0,.nilslice] (some 51) 0 []) = h15 at w15 ⊢
 generalize h14.next = b9 at w15 ⊢
 clear w14
 refine Qac ?_
 refine Qae rfl rfl rfl (L.mterm _) (Qan L.term rfl rfl rfl w15.self) ?_ (fun _ _ e=>e.elim)
 rintro v h16 ⟨rfl,u16⟩
 have w16:=w15.call u16
 clear w15 u16
 refine ⟨?_,?_⟩
 ·simp only [sN,s0,sS,a0,aS,aC,List.all_cons,List.all_nil,Bool.and_true,Bool.and_eq_true]
  exact ⟨Qak rfl rfl rfl rfl (Qad (r:=[t0,t1,t2]) rfl (w16.get 8 rfl) (by simp) rfl) rfl,Qak rfl rfl rfl rfl (Qad (r:=[.int .i64 0,.int .i64 m,.nilslice]) rfl (w16.get 7 rfl) (by simp) rfl) rfl,QaB rfl rfl rfl rfl rfl rfl rfl (w16.get 0 rfl) rfl⟩
 simp only [sN,s0,sS,a0,aS,aC,AV.cells,hm,hn]
 refine Qaf (Qac ?_)
 refine Qae rfl rfl rfl (L.mafter _) (QmQ L w16.self) ?_ (fun _ _ e=>e.elim)
 rintro v h17 ⟨b10,b11,rfl,u17⟩
 have w17:=w16.join u17
 clear w16 u17
 refine ⟨?_,?_⟩
 ·simp only [sN,s0,sS,a0,aS,aC,List.all_cons,List.all_nil,Bool.and_true,Bool.and_eq_true]
  exact QaB rfl rfl rfl rfl rfl rfl rfl (w17.get 2 rfl) rfl
 simp only [sN,s0,sS,a0,aS,aC,AV.cells,hm,hn]
 refine Qaf (Qac ?_)
 refine QaD rfl rfl (Qar (l':=[.int .i64 10,.int .i64 0,.slice b11 0 2 2]) (vs:=[.int .i64 10,.int .i64 0,.slice b11 0 2 2]) rfl rfl rfl rfl (w17.get 2 rfl) (by simp) rfl) rfl ?_
 simp only [sN,s0,sS,a0,aS,aC,AV.cells,hm,hn]
 have w18 : Wk _ (h17.put b9 (.cells [.int .i64 10,.int .i64 0,.slice b11 0 2 2] (some 51) 0 [])) [(b11,.cells [t0,t1,t2,.int .i64 10,.int .i64 0,.slice b10 0 2 2] none 0 []),(b10,.cells [.int .i64 2,.int .i64 0,.slice b8 0 1 1,.int .i64 0,.int .i64 m,.nilslice] none 0 []),(b9,.cells [.int .i64 10,.int .i64 0,.slice b11 0 2 2] (some 51) 0 []),(b8,.cells [.int .i64 0,.int .i64 m,.nilslice] none 0 []),(b7,.cells [t0,t1,t2,.int .i64 10,.int .i64 0,.slice b6 0 2 2] none 0 []),(b6,.cells [.int .i64 2,.int .i64 0,.slice b4 0 1 1,.int .i64 1,.int .i64 0,.nilslice] none 0 []),(b5,.cells [.int .i64 10,.int .i64 0,.slice b7 0 2 2] (some 51) 0 []),(b4,.cells [.int .i64 0,.int .i64 m,.nilslice] none 0 []),(b3,.cells [.int .i64 0,.int .i64 n,.nilslice] (some 51) 0 []),(b2,.cells [.int .i64 0,.int .i64 m,.nilslice] (some 51) 0 []),(b1,.cells [.int .i64 st,.int .i64 env,.bool out,t0,t1,t2] (some 55) 0 [])]:=w17.put 2 rfl _
 generalize h17.put b9 (.cells [.int .i64 10,.int .i64 0,.slice b11 0 2 2] (some 51) 0 []) = h18 at w18 ⊢
 clear w17
 refine Qaf (Qap (Qat (QaX ?_)))
 refine R_seq (R_seq (Qaa (R_op rfl rfl (Qad (r:=[.int .i64 st,.int .i64 env,.bool out,t0,t1,t2]) rfl (w18.get 10 rfl) (by simp) rfl) (R_op rfl rfl (Qad (r:=[.int .i64 10,.int .i64 0,.slice b7 0 2 2]) rfl (w18.get 6 rfl) (by simp) rfl) (R_op rfl rfl (Qad (r:=[.int .i64 10,.int .i64 0,.slice b11 0 2 2]) rfl (w18.get 2 rfl) (by simp) rfl) (Qau rfl rfl rfl (L.mequal _) (QaI L (Qao hs (Qao (Qaz (Qam 0 m)) (Qam 1 0))) (Qao hs (Qao (Qaz (Qam 0 m)) (Qam 0 m))) w18.self (Nat.le_refl _) (QaA (w18.lt 4 rfl) (w18.get 4 rfl) (w18.rep hN hrep) (QaA (w18.lt 5 rfl) (w18.get 5 rfl) (QaJ (w18.lt 7 rfl) (w18.get 7 rfl) (Qas _ _ 0 m)) (Qas _ _ 1 0))) (QaA (w18.lt 0 rfl) (w18.get 0 rfl) (w18.rep hN hrep) (QaA (w18.lt 1 rfl) (w18.get 1 rfl) (QaJ (w18.lt 3 rfl) (w18.get 3 rfl) (Qas _ _ 0 m)) (Qas _ _ 0 m))) (state1 T m env ⟨st,[]⟩)) ?_ (fun _ _ e=>e.elim)))))))
 rintro v h19 ⟨rfl,u19⟩
 have w19:=w18.call u19
 clear w18 u19
 simp only [sN,s0,sS,a0,aS,aC,AV.cells,hm,hn]
 refine R_op rfl rfl rfl (R_nil ?_)
 simp only [sN,s0,sS,a0,aS,aC,AV.cells,hm,hn]
 refine Qaw rfl (QaF (R_seq (QaY (Qaf (Qab rfl rfl (Qad (r:=[.int .i64 0,.int .i64 m,.nilslice]) rfl (w19.get 9 rfl) (by simp) rfl) rfl (Qab rfl rfl (QbG (x0:=.int .i64 0) (x1:=.int .i64 m) (x2:=.nilslice) rfl) rfl ?_))))))
 simp only [sN,s0,sS,a0,aS,aC,AV.cells,hm,hn]
 have w20:=w19.alloc (.cells [.int .i64 0,.int .i64 m,.nilslice] none 0 [])
 generalize h19.alloc (.cells [.int .i64 0,.int .i64 m,.nilslice] none 0 []) = h20 at w20 ⊢
 generalize h19.next = b12 at w20 ⊢
 clear w19
 refine Qab rfl rfl (Qad (r:=[.int .i64 0,.int .i64 n,.nilslice]) rfl (w20.get 9 rfl) (by simp) rfl) rfl (Qab rfl rfl (QbG (x0:=.int .i64 0) (x1:=.int .i64 n) (x2:=.nilslice) rfl) rfl ?_)
 simp only [sN,s0,sS,a0,aS,aC,AV.cells,hm,hn]
 have w21:=w20.alloc (.cells [.int .i64 0,.int .i64 n,.nilslice] none 0 [])
 generalize h20.alloc (.cells [.int .i64 0,.int .i64 n,.nilslice] none 0 []) = h21 at w21 ⊢
 generalize h20.next = b13 at w21 ⊢
 clear w20
 refine Qab rfl rfl rfl rfl (Qab rfl rfl (Qad (r:=[t0,t1,t2]) rfl (w21.get 12 rfl) (by simp) rfl) rfl (Qab rfl rfl rfl rfl ?_))
 simp only [sN,s0,sS,a0,aS,aC,AV.cells,hm,hn]
 have w22:=w21.alloc (.cells [.int .i64 0,.int .i64 0,.nilslice] (some 51) 0 [])
 generalize h21.alloc (.cells [.int .i64 0,.int .i64 0,.nilslice] (some 51) 0 []) = h22 at w22 ⊢
 generalize h21.next = b14 at w22 ⊢
 clear w21
 refine Qac ?_
 refine Qae rfl rfl rfl (L.mterm _) (Qan L.term rfl rfl rfl w22.self) ?_ (fun _ _ e=>e.elim)
 rintro v h23 ⟨rfl,u23⟩
 have w23:=w22.call u23
 clear w22 u23
 refine ⟨?_,?_⟩
 ·simp only [sN,s0,sS,a0,aS,aC,List.all_cons,List.all_nil,Bool.and_true,Bool.and_eq_true]
  exact ⟨Qak rfl rfl rfl rfl (Qad (r:=[.int .i64 0,.int .i64 n,.nilslice]) rfl (w23.get 11 rfl) (by simp) rfl) rfl,QaB (ob:=.cells [.int .i64 0,.int .i64 n,.nilslice] none 0 []) rfl rfl rfl rfl rfl rfl rfl (w23.get 1 rfl) (by simp [AO.same,AV.same]),Qak rfl rfl rfl rfl (Qad (r:=[t0,t1,t2]) rfl (w23.get 13 rfl) (by simp) rfl) rfl,QaB rfl rfl rfl rfl rfl rfl rfl (w23.get 0 rfl) rfl⟩
 simp only [sN,s0,sS,a0,aS,aC,AV.cells,hm,hn]
 refine Qaf (Qac ?_)
 refine Qae rfl rfl rfl (L.mterm _) (Qan L.term rfl rfl rfl w23.self) ?_ (fun _ _ e=>e.elim)
 rintro v h24 ⟨rfl,u24⟩
 have w24:=w23.call u24
 clear w23 u24
 refine ⟨?_,?_⟩
 ·simp only [sN,s0,sS,a0,aS,aC,List.all_cons,List.all_nil,Bool.and_true,Bool.and_eq_true]
  exact ⟨Qak rfl rfl rfl rfl (Qad (r:=[t0,t1,t2]) rfl (w24.get 13 rfl) (by simp) rfl) rfl,QaB rfl rfl rfl rfl rfl rfl rfl (w24.get 0 rfl) rfl⟩
 simp only [sN,s0,sS,a0,aS,aC,AV.cells,hm,hn]
 refine Qaf (Qab rfl rfl (x_two (x0:=.int .i64 2) (x1:=.int .i64 0) (x2:=.slice b13 0 1 1) (y0:=t0) (y1:=t1) (y2:=t2) rfl rfl) rfl ?_)
 simp only [sN,s0,sS,a0,aS,aC,AV.cells,hm,hn]
 have w25:=w24.alloc (.cells [.int .i64 2,.int .i64 0,.slice b13 0 1 1,t0,t1,t2] none 0 [])
 generalize h24.alloc (.cells [.int .i64 2,.int .i64 0,.slice b13 0 1 1,t0,t1,t2] none 0 []) = h25 at w25 ⊢
 generalize h24.next = b15 at w25 ⊢
 clear w24
 refine Qac ?_
 refine Qae rfl rfl rfl (L.mterm _) (Qan L.term rfl rfl rfl w25.self) ?_ (fun _ _ e=>e.elim)
 rintro v h26 ⟨rfl,u26⟩
 have w26:=w25.call u26
 clear w25 u26
 refine ⟨?_,?_⟩
 ·simp only [sN,s0,sS,a0,aS,aC,List.all_cons,List.all_nil,Bool.and_true,Bool.and_eq_true]
  exact QaB rfl rfl rfl rfl rfl rfl rfl (w26.get 1 rfl) rfl
 simp only [sN,s0,sS,a0,aS,aC,AV.cells,hm,hn]
 refine Qaf (Qab rfl rfl (x_two (x0:=.int .i64 2) (x1:=.int .i64 0) (x2:=.slice b12 0 1 1) (y0:=.int .i64 10) (y1:=.int .i64 0) (y2:=.slice b15 0 2 2) rfl rfl) rfl ?_)
 simp only [sN,s0,sS,a0,aS,aC,AV.cells,hm,hn]
 have w27:=w26.alloc (.cells [.int .i64 2,.int .i64 0,.slice b12 0 1 1,.int .i64 10,.int .i64 0,.slice b15 0 2 2] none 0 [])
 generalize h26.alloc (.cells [.int .i64 2,.int .i64 0,.slice b12 0 1 1,.int .i64 10,.int .i64 0,.slice b15 0 2 2] none 0 []) = h27 at w27 ⊢
 generalize h26.next = b16 at w27 ⊢
 clear w26
 refine Qac ?_
 refine Qae rfl rfl rfl (L.mterm _) (Qan L.term rfl rfl rfl w27.self) ?_ (fun _ _ e=>e.elim)
 rintro v h28 ⟨rfl,u28⟩
 have w28:=w27.call u28
 clear w27 u28
 refine ⟨?_,?_⟩
 ·simp only [sN,s0,sS,a0,aS,aC,List.all_cons,List.all_nil,Bool.and_true,Bool.and_eq_true]
  exact QaB rfl rfl rfl rfl rfl rfl rfl (w28.get 2 rfl) rfl
 simp only [sN,s0,sS,a0,aS,aC,AV.cells,hm,hn]
 refine Qaf (Qac ?_)
 refine QaD rfl rfl (Qar (l':=[.int .i64 10,.int .i64 0,.slice b16 0 2 2]) (vs:=[.int .i64 10,.int .i64 0,.slice b16 0 2 2]) rfl rfl rfl rfl (w28.get 2 rfl) (by simp) rfl) rfl ?_
 simp only [sN,s0,sS,a0,aS,aC,AV.cells,hm,hn]
 have w29 : Wk _ (h28.put b14 (.cells [.int .i64 10,.int .i64 0,.slice b16 0 2 2] (some 51) 0 [])) [(b16,.cells [.int .i64 2,.int .i64 0,.slice b12 0 1 1,.int .i64 10,.int .i64 0,.slice b15 0 2 2] none 0 []),(b15,.cells [.int .i64 2,.int .i64 0,.slice b13 0 1 1,t0,t1,t2] none 0 []),(b14,.cells [.int .i64 10,.int .i64 0,.slice b16 0 2 2] (some 51) 0 []),(b13,.cells [.int .i64 0,.int .i64 n,.nilslice] none 0 []),(b12,.cells [.int .i64 0,.int .i64 m,.nilslice] none 0 []),(b11,.cells [t0,t1,t2,.int .i64 10,.int .i64 0,.slice b10 0 2 2] none 0 []),(b10,.cells [.int .i64 2,.int .i64 0,.slice b8 0 1 1,.int .i64 0,.int .i64 m,.nilslice] none 0 []),(b9,.cells [.int .i64 10,.int .i64 0,.slice b11 0 2 2] (some 51) 0 []),(b8,.cells [.int .i64 0,.int .i64 m,.nilslice] none 0 []),(b7,.cells [t0,t1,t2,.int .i64 10,.int .i64 0,.slice b6 0 2 2] none 0 []),(b6,.cells [.int .i64 2,.int .i64 0,.slice b4 0 1 1,.int .i64 1,.int .i64 0,.nilslice] none 0 []),(b5,.cells [.int .i64 10,.int .i64 0,.slice b7 0 2 2] (some 51) 0 []),(b4,.cells [.int .i64 0,.int .i64 m,.nilslice] none 0 []),(b3,.cells [.int .i64 0,.int .i64 n,.nilslice] (some 51) 0 []),(b2,.cells [.int .i64 0,.int .i64 m,.nilslice] (some 51) 0 []),(b1,.cells [.int .i64 st,.int .i64 env,.bool out,t0,t1,t2] (some 55) 0 [])]:=w28.put 2 rfl _
 generalize h28.put b14 (.cells [.int .i64 10,.int .i64 0,.slice b16 0 2 2] (some 51) 0 []) = h29 at w29 ⊢
 clear w28
 refine Qaf (Qap (Qat (QaX ?_)))
 refine R_seq (QaY (Qaf (Qab rfl rfl (Qad (r:=[.int .i64 0,.int .i64 n,.nilslice]) rfl (w29.get 13 rfl) (by simp) rfl) rfl (Qab rfl rfl (QbG (x0:=.int .i64 0) (x1:=.int .i64 n) (x2:=.nilslice) rfl) rfl ?_))))
 simp only [sN,s0,sS,a0,aS,aC,AV.cells,hm,hn]
 have w30:=w29.alloc (.cells [.int .i64 0,.int .i64 n,.nilslice] none 0 [])
 generalize h29.alloc (.cells [.int .i64 0,.int .i64 n,.nilslice] none 0 []) = h30 at w30 ⊢
 generalize h29.next = b17 at w30 ⊢
 clear w29
 refine Qab rfl rfl rfl rfl (Qab rfl rfl (Qad (r:=[t0,t1,t2]) rfl (w30.get 16 rfl) (by simp) rfl) rfl (Qab rfl rfl rfl rfl ?_))
 simp only [sN,s0,sS,a0,aS,aC,AV.cells,hm,hn]
 have w31:=w30.alloc (.cells [.int .i64 0,.int .i64 0,.nilslice] (some 51) 0 [])
 generalize h30.alloc (.cells [.int .i64 0,.int .i64 0,.nilslice] (some 51) 0 []) = h31 at w31 ⊢
 generalize h30.next = b18 at w31 ⊢
 clear w30
 refine Qac ?_
 refine Qae rfl rfl rfl (L.mterm _) (Qan L.term rfl rfl rfl w31.self) ?_ (fun _ _ e=>e.elim)
 rintro v h32 ⟨rfl,u32⟩
 have w32:=w31.call u32
 clear w31 u32
 refine ⟨?_,?_⟩
 ·simp only [sN,s0,sS,a0,aS,aC,List.all_cons,List.all_nil,Bool.and_true,Bool.and_eq_true]
  exact ⟨Qak rfl rfl rfl rfl (Qad (r:=[t0,t1,t2]) rfl (w32.get 17 rfl) (by simp) rfl) rfl,QaB rfl rfl rfl rfl rfl rfl rfl (w32.get 0 rfl) rfl⟩
 simp only [sN,s0,sS,a0,aS,aC,AV.cells,hm,hn]
 refine Qaf (Qab rfl rfl (x_two (x0:=.int .i64 2) (x1:=.int .i64 0) (x2:=.slice b17 0 1 1) (y0:=t0) (y1:=t1) (y2:=t2) rfl rfl) rfl ?_)
 simp only [sN,s0,sS,a0,aS,aC,AV.cells,hm,hn]
 have w33:=w32.alloc (.cells [.int .i64 2,.int .i64 0,.slice b17 0 1 1,t0,t1,t2] none 0 [])
 generalize h32.alloc (.cells [.int .i64 2,.int .i64 0,.slice b17 0 1 1,t0,t1,t2] none 0 []) = h33 at w33 ⊢
 generalize h32.next = b19 at w33 ⊢
 clear w32
 refine Qac ?_
 refine Qae rfl rfl rfl (L.mterm _) (Qan L.term rfl rfl rfl w33.self) ?_ (fun _ _ e=>e.elim)
 rintro v h34 ⟨rfl,u34⟩
 have w34:=w33.call u34
 clear w33 u34
 refine ⟨?_,?_⟩
 ·simp only [sN,s0,sS,a0,aS,aC,List.all_cons,List.all_nil,Bool.and_true,Bool.and_eq_true]
  exact QaB rfl rfl rfl rfl rfl rfl rfl (w34.get 1 rfl) rfl
 simp only [sN,s0,sS,a0,aS,aC,AV.cells,hm,hn]
 refine Qaf (Qac ?_)
 refine QaD rfl rfl (Qar (l':=[.int .i64 10,.int .i64 0,.slice b19 0 2 2]) (vs:=[.int .i64 10,.int .i64 0,.slice b19 0 2 2]) rfl rfl rfl rfl (w34.get 1 rfl) (by simp) rfl) rfl ?_
 simp only [sN,s0,sS,a0,aS,aC,AV.cells,hm,hn]
 have w35 : Wk _ (h34.put b18 (.cells [.int .i64 10,.int .i64 0,.slice b19 0 2 2] (some 51) 0 [])) [(b19,.cells [.int .i64 2,.int .i64 0,.slice b17 0 1 1,t0,t1,t2] none 0 []),(b18,.cells [.int .i64 10,.int .i64 0,.slice b19 0 2 2] (some 51) 0 []),(b17,.cells [.int .i64 0,.int .i64 n,.nilslice] none 0 []),(b16,.cells [.int .i64 2,.int .i64 0,.slice b12 0 1 1,.int .i64 10,.int .i64 0,.slice b15 0 2 2] none 0 []),(b15,.cells [.int .i64 2,.int .i64 0,.slice b13 0 1 1,t0,t1,t2] none 0 []),(b14,.cells [.int .i64 10,.int .i64 0,.slice b16 0 2 2] (some 51) 0 []),(b13,.cells [.int .i64 0,.int .i64 n,.nilslice] none 0 []),(b12,.cells [.int .i64 0,.int .i64 m,.nilslice] none 0 []),(b11,.cells [t0,t1,t2,.int .i64 10,.int .i64 0,.slice b10 0 2 2] none 0 []),(b10,.cells [.int .i64 2,.int .i64 0,.slice b8 0 1 1,.int .i64 0,.int .i64 m,.nilslice] none 0 []),(b9,.cells [.int .i64 10,.int .i64 0,.slice b11 0 2 2] (some 51) 0 []),(b8,.cells [.int .i64 0,.int .i64 m,.nilslice] none 0 []),(b7,.cells [t0,t1,t2,.int .i64 10,.int .i64 0,.slice b6 0 2 2] none 0 []),(b6,.cells [.int .i64 2,.int .i64 0,.slice b4 0 1 1,.int .i64 1,.int .i64 0,.nilslice] none 0 []),(b5,.cells [.int .i64 10,.int .i64 0,.slice b7 0 2 2] (some 51) 0 []),(b4,.cells [.int .i64 0,.int .i64 m,.nilslice] none 0 []),(b3,.cells [.int .i64 0,.int .i64 n,.nilslice] (some 51) 0 []),(b2,.cells [.int .i64 0,.int .i64 m,.nilslice] (some 51) 0 []),(b1,.cells [.int .i64 st,.int .i64 env,.bool out,t0,t1,t2] (some 55) 0 [])]:=w34.put 1 rfl _
 generalize h34.put b18 (.cells [.int .i64 10,.int .i64 0,.slice b19 0 2 2] (some 51) 0 []) = h35 at w35 ⊢
 clear w34
 refine Qaf (Qap (Qat (QaX ?_)))
 refine R_seq (R_seq (Qaa (R_op rfl rfl (Qad (r:=[.int .i64 st,.int .i64 env,.bool out,t0,t1,t2]) rfl (w35.get 18 rfl) (by simp) rfl) (R_op rfl rfl (Qad (r:=[.int .i64 10,.int .i64 0,.slice b16 0 2 2]) rfl (w35.get 5 rfl) (by simp) rfl) (R_op rfl rfl (Qad (r:=[.int .i64 10,.int .i64 0,.slice b19 0 2 2]) rfl (w35.get 1 rfl) (by simp) rfl) (Qau rfl rfl rfl (L.mequal _) (QaI L (Qao (Qaz (Qam 0 m)) (Qao (Qaz (Qam 0 n)) hs)) (Qao (Qaz (Qam 0 n)) hs) w35.self (Nat.le_refl _) (QaA (w35.lt 3 rfl) (w35.get 3 rfl) (QaJ (w35.lt 7 rfl) (w35.get 7 rfl) (Qas _ _ 0 m)) (QaA (w35.lt 4 rfl) (w35.get 4 rfl) (QaJ (w35.lt 6 rfl) (w35.get 6 rfl) (Qas _ _ 0 n)) (w35.rep hN hrep))) (QaA (w35.lt 0 rfl) (w35.get 0 rfl) (QaJ (w35.lt 2 rfl) (w35.get 2 rfl) (Qas _ _ 0 n)) (w35.rep hN hrep)) (state2 T m n env ⟨st,[]⟩)) ?_ (fun _ _ e=>e.elim)))))))
 rintro v h36 ⟨rfl,u36⟩
 have w36:=w35.call u36
 clear w35 u36
 simp only [sN,s0,sS,a0,aS,aC,AV.cells,hm,hn]
 refine R_op rfl rfl rfl (R_nil ?_)
 simp only [sN,s0,sS,a0,aS,aC,AV.cells,hm,hn]
 refine Qaw rfl (QaF (R_seq (QaY (Qaf (Qab rfl rfl (Qad (r:=[.int .i64 0,.int .i64 m,.nilslice]) rfl (w36.get 17 rfl) (by simp) rfl) rfl (Qab rfl rfl (QbG (x0:=.int .i64 0) (x1:=.int .i64 m) (x2:=.nilslice) rfl) rfl ?_))))))
 simp only [sN,s0,sS,a0,aS,aC,AV.cells,hm,hn]
 have w37:=w36.alloc (.cells [.int .i64 0,.int .i64 m,.nilslice] none 0 [])
 generalize h36.alloc (.cells [.int .i64 0,.int .i64 m,.nilslice] none 0 []) = h37 at w37 ⊢
 generalize h36.next = b20 at w37 ⊢
 clear w36
 refine Qab rfl rfl (Qad (r:=[.int .i64 0,.int .i64 n,.nilslice]) rfl (w37.get 17 rfl) (by simp) rfl) rfl (Qab rfl rfl (QbG (x0:=.int .i64 0) (x1:=.int .i64 n) (x2:=.nilslice) rfl) rfl ?_)
 simp only [sN,s0,sS,a0,aS,aC,AV.cells,hm,hn]
 have w38:=w37.alloc (.cells [.int .i64 0,.int .i64 n,.nilslice] none 0 [])
 generalize h37.alloc (.cells [.int .i64 0,.int .i64 n,.nilslice] none 0 []) = h38 at w38 ⊢
 generalize h37.next = b21 at w38 ⊢
 clear w37
 refine Qab rfl rfl rfl rfl ?_
 simp only [sN,s0,sS,a0,aS,aC,AV.cells,hm,hn]
 have w39:=w38.alloc (.cells [.int .i64 0,.int .i64 0,.nilslice] (some 51) 0 [])
 generalize h38.alloc (.cells [.int .i64 0,.int .i64 0,.nilslice] (some 51) 0 []) = h39 at w39 ⊢
 generalize h38.next = b22 at w39 ⊢
 clear w38
 refine Qac ?_
 refine Qae rfl rfl rfl (L.mterm _) (Qan L.term rfl rfl rfl w39.self) ?_ (fun _ _ e=>e.elim)
 rintro v h40 ⟨rfl,u40⟩
 have w40:=w39.call u40
 clear w39 u40
 refine ⟨?_,?_⟩
 ·simp only [sN,s0,sS,a0,aS,aC,List.all_cons,List.all_nil,Bool.and_true,Bool.and_eq_true]
  exact ⟨Qak rfl rfl rfl rfl (Qad (r:=[.int .i64 0,.int .i64 n,.nilslice]) rfl (w40.get 19 rfl) (by simp) rfl) rfl,QaB (ob:=.cells [.int .i64 0,.int .i64 n,.nilslice] none 0 []) rfl rfl rfl rfl rfl rfl rfl (w40.get 1 rfl) (by simp [AO.same,AV.same]),QaB rfl rfl rfl rfl rfl rfl rfl (w40.get 0 rfl) rfl⟩
 simp only [sN,s0,sS,a0,aS,aC,AV.cells,hm,hn]
 refine Qaf (Qac ?_)
 refine Qae rfl rfl rfl (L.mterm _) (Qan L.term rfl rfl rfl w40.self) ?_ (fun _ _ e=>e.elim)
 rintro v h41 ⟨rfl,u41⟩
 have w41:=w40.call u41
 clear w40 u41
 refine ⟨?_,?_⟩
 ·simp only [sN,s0,sS,a0,aS,aC,List.all_cons,List.all_nil,Bool.and_true,Bool.and_eq_true]
  exact QaB rfl rfl rfl rfl rfl rfl rfl (w41.get 0 rfl) rfl
 simp only [sN,s0,sS,a0,aS,aC,AV.cells,hm,hn]
 refine Qaf (Qab rfl rfl (x_two (x0:=.int .i64 2) (x1:=.int .i64 0) (x2:=.slice b20 0 1 1) (y0:=.int .i64 5) (y1:=.int .i64 0) (y2:=.slice b21 0 1 1) rfl rfl) rfl ?_)
 simp only [sN,s0,sS,a0,aS,aC,AV.cells,hm,hn]
 have w42:=w41.alloc (.cells [.int .i64 2,.int .i64 0,.slice b20 0 1 1,.int .i64 5,.int .i64 0,.slice b21 0 1 1] none 0 [])
 generalize h41.alloc (.cells [.int .i64 2,.int .i64 0,.slice b20 0 1 1,.int .i64 5,.int .i64 0,.slice b21 0 1 1] none 0 []) = h42 at w42 ⊢
 generalize h41.next = b23 at w42 ⊢
 clear w41
 refine Qac ?_
 refine Qae rfl rfl rfl (L.mterm _) (Qan L.term rfl rfl rfl w42.self) ?_ (fun _ _ e=>e.elim)
 rintro v h43 ⟨rfl,u43⟩
 have w43:=w42.call u43
 clear w42 u43
 refine ⟨?_,?_⟩
 ·simp only [sN,s0,sS,a0,aS,aC,List.all_cons,List.all_nil,Bool.and_true,Bool.and_eq_true]
  exact QaB rfl rfl rfl rfl rfl rfl rfl (w43.get 1 rfl) rfl
 simp only [sN,s0,sS,a0,aS,aC,AV.cells,hm,hn]
 refine Qaf (Qac ?_)
 refine QaD rfl rfl (Qar (l':=[.int .i64 10,.int .i64 0,.slice b23 0 2 2]) (vs:=[.int .i64 10,.int .i64 0,.slice b23 0 2 2]) rfl rfl rfl rfl (w43.get 1 rfl) (by simp) rfl) rfl ?_
 simp only [sN,s0,sS,a0,aS,aC,AV.cells,hm,hn]
 have w44 : Wk _ (h43.put b22 (.cells [.int .i64 10,.int .i64 0,.slice b23 0 2 2] (some 51) 0 [])) [(b23,.cells [.int .i64 2,.int .i64 0,.slice b20 0 1 1,.int .i64 5,.int .i64 0,.slice b21 0 1 1] none 0 []),(b22,.cells [.int .i64 10,.int .i64 0,.slice b23 0 2 2] (some 51) 0 []),(b21,.cells [.int .i64 0,.int .i64 n,.nilslice] none 0 []),(b20,.cells [.int .i64 0,.int .i64 m,.nilslice] none 0 []),(b19,.cells [.int .i64 2,.int .i64 0,.slice b17 0 1 1,t0,t1,t2] none 0 []),(b18,.cells [.int .i64 10,.int .i64 0,.slice b19 0 2 2] (some 51) 0 []),(b17,.cells [.int .i64 0,.int .i64 n,.nilslice] none 0 []),(b16,.cells [.int .i64 2,.int .i64 0,.slice b12 0 1 1,.int .i64 10,.int .i64 0,.slice b15 0 2 2] none 0 []),(b15,.cells [.int .i64 2,.int .i64 0,.slice b13 0 1 1,t0,t1,t2] none 0 []),(b14,.cells [.int .i64 10,.int .i64 0,.slice b16 0 2 2] (some 51) 0 []),(b13,.cells [.int .i64 0,.int .i64 n,.nilslice] none 0 []),(b12,.cells [.int .i64 0,.int .i64 m,.nilslice] none 0 []),(b11,.cells [t0,t1,t2,.int .i64 10,.int .i64 0,.slice b10 0 2 2] none 0 []),(b10,.cells [.int .i64 2,.int .i64 0,.slice b8 0 1 1,.int .i64 0,.int .i64 m,.nilslice] none 0 []),(b9,.cells [.int .i64 10,.int .i64 0,.slice b11 0 2 2] (some 51) 0 []),(b8,.cells [.int .i64 0,.int .i64 m,.nilslice] none 0 []),(b7,.cells [t0,t1,t2,.int .i64 10,.int .i64 0,.slice b6 0 2 2] none 0 []),(b6,.cells [.int .i64 2,.int .i64 0,.slice b4 0 1 1,.int .i64 1,.int .i64 0,.nilslice] none 0 []),(b5,.cells [.int .i64 10,.int .i64 0,.slice b7 0 2 2] (some 51) 0 []),(b4,.cells [.int .i64 0,.int .i64 m,.nilslice] none 0 []),(b3,.cells [.int .i64 0,.int .i64 n,.nilslice] (some 51) 0 []),(b2,.cells [.int .i64 0,.int .i64 m,.nilslice] (some 51) 0 []),(b1,.cells [.int .i64 st,.int .i64 env,.bool out,t0,t1,t2] (some 55) 0 [])]:=w43.put 1 rfl _
 generalize h43.put b22 (.cells [.int .i64 10,.int .i64 0,.slice b23 0 2 2] (some 51) 0 []) = h44 at w44 ⊢
 clear w43
 refine Qaf (Qap (Qat (QaX ?_)))
 refine R_seq (QaY (Qaf (Qab rfl rfl (Qad (r:=[.int .i64 10,.int .i64 0,.slice b23 0 2 2]) rfl (w44.get 1 rfl) (by simp) rfl) rfl (Qab rfl rfl rfl rfl (Qab rfl rfl (Qad (r:=[t0,t1,t2]) rfl (w44.get 22 rfl) (by simp) rfl) rfl (Qab rfl rfl rfl rfl ?_))))))
 simp only [sN,s0,sS,a0,aS,aC,AV.cells,hm,hn]
 have w45:=w44.alloc (.cells [.int .i64 0,.int .i64 0,.nilslice] (some 51) 0 [])
 generalize h44.alloc (.cells [.int .i64 0,.int .i64 0,.nilslice] (some 51) 0 []) = h45 at w45 ⊢
 generalize h44.next = b24 at w45 ⊢
 clear w44
 refine Qac ?_
 refine Qae rfl rfl rfl (L.mnum _) (Qba L.num w45.self) ?_ (fun _ _ e=>e.elim)
 rintro v h46 ⟨rfl,u46⟩
 have w46:=w45.call u46
 clear w45 u46
 refine ⟨?_,?_⟩
 ·simp only [sN,s0,sS,a0,aS,aC,List.all_cons,List.all_nil,Bool.and_true,Bool.and_eq_true]
  exact ⟨Qak rfl rfl rfl rfl (Qad (r:=[.int .i64 10,.int .i64 0,.slice b23 0 2 2]) rfl (w46.get 2 rfl) (by simp) rfl) rfl,Qak rfl rfl rfl rfl (Qad (r:=[t0,t1,t2]) rfl (w46.get 23 rfl) (by simp) rfl) rfl,QaB rfl rfl rfl rfl rfl rfl rfl (w46.get 0 rfl) rfl⟩
 simp only [sN,s0,sS,a0,aS,aC,AV.cells,hm,hn]
 refine Qaf (Qab rfl rfl (x_two (x0:=.int .i64 10) (x1:=.int .i64 0) (x2:=.slice b23 0 2 2) (y0:=.int .i64 0) (y1:=.int .i64 0) (y2:=.nilslice) rfl rfl) rfl ?_)
 simp only [sN,s0,sS,a0,aS,aC,AV.cells,hm,hn]
 have w47:=w46.alloc (.cells [.int .i64 10,.int .i64 0,.slice b23 0 2 2,.int .i64 0,.int .i64 0,.nilslice] none 0 [])
 generalize h46.alloc (.cells [.int .i64 10,.int .i64 0,.slice b23 0 2 2,.int .i64 0,.int .i64 0,.nilslice] none 0 []) = h47 at w47 ⊢
 generalize h46.next = b25 at w47 ⊢
 clear w46
 refine Qac ?_
 refine Qae rfl rfl rfl (L.mterm _) (Qan L.term rfl rfl rfl w47.self) ?_ (fun _ _ e=>e.elim)
 rintro v h48 ⟨rfl,u48⟩
 have w48:=w47.call u48
 clear w47 u48
 refine ⟨?_,?_⟩
 ·simp only [sN,s0,sS,a0,aS,aC,List.all_cons,List.all_nil,Bool.and_true,Bool.and_eq_true]
  exact ⟨Qak rfl rfl rfl rfl (Qad (r:=[t0,t1,t2]) rfl (w48.get 24 rfl) (by simp) rfl) rfl,QaB rfl rfl rfl rfl rfl rfl rfl (w48.get 1 rfl) rfl⟩
 simp only [sN,s0,sS,a0,aS,aC,AV.cells,hm,hn]
 refine Qaf (Qab rfl rfl (x_two (x0:=.int .i64 7) (x1:=.int .i64 0) (x2:=.slice b25 0 2 2) (y0:=t0) (y1:=t1) (y2:=t2) rfl rfl) rfl ?_)
 simp only [sN,s0,sS,a0,aS,aC,AV.cells,hm,hn]
 have w49:=w48.alloc (.cells [.int .i64 7,.int .i64 0,.slice b25 0 2 2,t0,t1,t2] none 0 [])
 generalize h48.alloc (.cells [.int .i64 7,.int .i64 0,.slice b25 0 2 2,t0,t1,t2] none 0 []) = h49 at w49 ⊢
 generalize h48.next = b26 at w49 ⊢
 clear w48
 refine Qac ?_
 refine Qae rfl rfl rfl (L.mterm _) (Qan L.term rfl rfl rfl w49.self) ?_ (fun _ _ e=>e.elim)
 rintro v h50 ⟨rfl,u50⟩
 have w50:=w49.call u50
 clear w49 u50
 refine ⟨?_,?_⟩
 ·simp only [sN,s0,sS,a0,aS,aC,List.all_cons,List.all_nil,Bool.and_true,Bool.and_eq_true]
  exact QaB rfl rfl rfl rfl rfl rfl rfl (w50.get 2 rfl) rfl
 simp only [sN,s0,sS,a0,aS,aC,AV.cells,hm,hn]
 refine Qaf (Qac ?_)
 refine QaD rfl rfl (Qar (l':=[.int .i64 10,.int .i64 0,.slice b26 0 2 2]) (vs:=[.int .i64 10,.int .i64 0,.slice b26 0 2 2]) rfl rfl rfl rfl (w50.get 2 rfl) (by simp) rfl) rfl ?_
 simp only [sN,s0,sS,a0,aS,aC,AV.cells,hm,hn]
 have w51 : Wk _ (h50.put b24 (.cells [.int .i64 10,.int .i64 0,.slice b26 0 2 2] (some 51) 0 [])) [(b26,.cells [.int .i64 7,.int .i64 0,.slice b25 0 2 2,t0,t1,t2] none 0 []),(b25,.cells [.int .i64 10,.int .i64 0,.slice b23 0 2 2,.int .i64 0,.int .i64 0,.nilslice] none 0 []),(b24,.cells [.int .i64 10,.int .i64 0,.slice b26 0 2 2] (some 51) 0 []),(b23,.cells [.int .i64 2,.int .i64 0,.slice b20 0 1 1,.int .i64 5,.int .i64 0,.slice b21 0 1 1] none 0 []),(b22,.cells [.int .i64 10,.int .i64 0,.slice b23 0 2 2] (some 51) 0 []),(b21,.cells [.int .i64 0,.int .i64 n,.nilslice] none 0 []),(b20,.cells [.int .i64 0,.int .i64 m,.nilslice] none 0 []),(b19,.cells [.int .i64 2,.int .i64 0,.slice b17 0 1 1,t0,t1,t2] none 0 []),(b18,.cells [.int .i64 10,.int .i64 0,.slice b19 0 2 2] (some 51) 0 []),(b17,.cells [.int .i64 0,.int .i64 n,.nilslice] none 0 []),(b16,.cells [.int .i64 2,.int .i64 0,.slice b12 0 1 1,.int .i64 10,.int .i64 0,.slice b15 0 2 2] none 0 []),(b15,.cells [.int .i64 2,.int .i64 0,.slice b13 0 1 1,t0,t1,t2] none 0 []),(b14,.cells [.int .i64 10,.int .i64 0,.slice b16 0 2 2] (some 51) 0 []),(b13,.cells [.int .i64 0,.int .i64 n,.nilslice] none 0 []),(b12,.cells [.int .i64 0,.int .i64 m,.nilslice] none 0 []),(b11,.cells [t0,t1,t2,.int .i64 10,.int .i64 0,.slice b10 0 2 2] none 0 []),(b10,.cells [.int .i64 2,.int .i64 0,.slice b8 0 1 1,.int .i64 0,.int .i64 m,.nilslice] none 0 []),(b9,.cells [.int .i64 10,.int .i64 0,.slice b11 0 2 2] (some 51) 0 []),(b8,.cells [.int .i64 0,.int .i64 m,.nilslice] none 0 []),(b7,.cells [t0,t1,t2,.int .i64 10,.int .i64 0,.slice b6 0 2 2] none 0 []),(b6,.cells [.int .i64 2,.int .i64 0,.slice b4 0 1 1,.int .i64 1,.int .i64 0,.nilslice] none 0 []),(b5,.cells [.int .i64 10,.int .i64 0,.slice b7 0 2 2] (some 51) 0 []),(b4,.cells [.int .i64 0,.int .i64 m,.nilslice] none 0 []),(b3,.cells [.int .i64 0,.int .i64 n,.nilslice] (some 51) 0 []),(b2,.cells [.int .i64 0,.int .i64 m,.nilslice] (some 51) 0 []),(b1,.cells [.int .i64 st,.int .i64 env,.bool out,t0,t1,t2] (some 55) 0 [])]:=w50.put 2 rfl _
 generalize h50.put b24 (.cells [.int .i64 10,.int .i64 0,.slice b26 0 2 2] (some 51) 0 []) = h51 at w51 ⊢
 clear w50
 refine Qaf (Qap (Qat (QaX ?_)))
 refine R_seq (Qaa (R_op rfl rfl (Qad (r:=[.int .i64 0,.int .i64 n,.nilslice]) rfl (w51.get 23 rfl) (by simp) rfl) (R_op rfl rfl rfl (R_op rfl rfl (Qad (r:=[t0,t1,t2]) rfl (w51.get 25 rfl) (by simp) rfl) (R_op rfl rfl (x_two (x0:=.int .i64 0) (x1:=.int .i64 n) (x2:=.nilslice) (y0:=t0) (y1:=t1) (y2:=t2) rfl rfl) ?_)))))
 simp only [sN,s0,sS,a0,aS,aC,AV.cells,hm,hn]
 have w52:=w51.alloc (.cells [.int .i64 0,.int .i64 n,.nilslice,t0,t1,t2] none 0 [])
 generalize h51.alloc (.cells [.int .i64 0,.int .i64 n,.nilslice,t0,t1,t2] none 0 []) = h52 at w52 ⊢
 generalize h51.next = b27 at w52 ⊢
 clear w51
 refine Qau rfl rfl rfl (L.mterm _) (Qan L.term rfl rfl rfl w52.self) ?_ (fun _ _ e=>e.elim)
 rintro v h53 ⟨rfl,u53⟩
 have w53:=w52.call u53
 clear w52 u53
 simp only [sN,s0,sS,a0,aS,aC,AV.cells,hm,hn]
 refine R_op rfl rfl rfl ?_
 simp only [sN,s0,sS,a0,aS,aC,AV.cells,hm,hn]
 have w54:=w53.alloc (.cells [.int .i64 0,.int .i64 0,.nilslice] (some 51) 0 [])
 generalize h53.alloc (.cells [.int .i64 0,.int .i64 0,.nilslice] (some 51) 0 []) = h54 at w54 ⊢
 generalize h53.next = b28 at w54 ⊢
 clear w53
 refine R_op rfl rfl (Qar (l':=[.int .i64 10,.int .i64 0,.slice b27 0 2 2]) (vs:=[.int .i64 10,.int .i64 0,.slice b27 0 2 2]) rfl rfl rfl rfl (w54.get 0 rfl) (by simp) rfl) ?_
 simp only [sN,s0,sS,a0,aS,aC,AV.cells,hm,hn]
 have w55 : Wk _ (h54.put b28 (.cells [.int .i64 10,.int .i64 0,.slice b27 0 2 2] (some 51) 0 [])) [(b28,.cells [.int .i64 10,.int .i64 0,.slice b27 0 2 2] (some 51) 0 []),(b27,.cells [.int .i64 0,.int .i64 n,.nilslice,t0,t1,t2] none 0 []),(b26,.cells [.int .i64 7,.int .i64 0,.slice b25 0 2 2,t0,t1,t2] none 0 []),(b25,.cells [.int .i64 10,.int .i64 0,.slice b23 0 2 2,.int .i64 0,.int .i64 0,.nilslice] none 0 []),(b24,.cells [.int .i64 10,.int .i64 0,.slice b26 0 2 2] (some 51) 0 []),(b23,.cells [.int .i64 2,.int .i64 0,.slice b20 0 1 1,.int .i64 5,.int .i64 0,.slice b21 0 1 1] none 0 []),(b22,.cells [.int .i64 10,.int .i64 0,.slice b23 0 2 2] (some 51) 0 []),(b21,.cells [.int .i64 0,.int .i64 n,.nilslice] none 0 []),(b20,.cells [.int .i64 0,.int .i64 m,.nilslice] none 0 []),(b19,.cells [.int .i64 2,.int .i64 0,.slice b17 0 1 1,t0,t1,t2] none 0 []),(b18,.cells [.int .i64 10,.int .i64 0,.slice b19 0 2 2] (some 51) 0 []),(b17,.cells [.int .i64 0,.int .i64 n,.nilslice] none 0 []),(b16,.cells [.int .i64 2,.int .i64 0,.slice b12 0 1 1,.int .i64 10,.int .i64 0,.slice b15 0 2 2] none 0 []),(b15,.cells [.int .i64 2,.int .i64 0,.slice b13 0 1 1,t0,t1,t2] none 0 []),(b14,.cells [.int .i64 10,.int .i64 0,.slice b16 0 2 2] (some 51) 0 []),(b13,.cells [.int .i64 0,.int .i64 n,.nilslice] none 0 []),(b12,.cells [.int .i64 0,.int .i64 m,.nilslice] none 0 []),(b11,.cells [t0,t1,t2,.int .i64 10,.int .i64 0,.slice b10 0 2 2] none 0 []),(b10,.cells [.int .i64 2,.int .i64 0,.slice b8 0 1 1,.int .i64 0,.int .i64 m,.nilslice] none 0 []),(b9,.cells [.int .i64 10,.int .i64 0,.slice b11 0 2 2] (some 51) 0 []),(b8,.cells [.int .i64 0,.int .i64 m,.nilslice] none 0 []),(b7,.cells [t0,t1,t2,.int .i64 10,.int .i64 0,.slice b6 0 2 2] none 0 []),(b6,.cells [.int .i64 2,.int .i64 0,.slice b4 0 1 1,.int .i64 1,.int .i64 0,.nilslice] none 0 []),(b5,.cells [.int .i64 10,.int .i64 0,.slice b7 0 2 2] (some 51) 0 []),(b4,.cells [.int .i64 0,.int .i64 m,.nilslice] none 0 []),(b3,.cells [.int .i64 0,.int .i64 n,.nilslice] (some 51) 0 []),(b2,.cells [.int .i64 0,.int .i64 m,.nilslice] (some 51) 0 []),(b1,.cells [.int .i64 st,.int .i64 env,.bool out,t0,t1,t2] (some 55) 0 [])]:=w54.put 0 rfl _
 generalize h54.put b28 (.cells [.int .i64 10,.int .i64 0,.slice b27 0 2 2] (some 51) 0 []) = h55 at w55 ⊢
 clear w54
 refine R_nil ?_
 refine R_seq (QaY (Qaf (Qab rfl rfl (Qad (r:=[.int .i64 10,.int .i64 0,.slice b23 0 2 2]) rfl (w55.get 6 rfl) (by simp) rfl) rfl (Qab rfl rfl rfl rfl (Qab rfl rfl (Qad (r:=[t0,t1,t2]) rfl (w55.get 27 rfl) (by simp) rfl) rfl (Qab rfl rfl rfl rfl ?_))))))
 simp only [sN,s0,sS,a0,aS,aC,AV.cells,hm,hn]
 have w56:=w55.alloc (.cells [.int .i64 0,.int .i64 0,.nilslice] (some 51) 0 [])
 generalize h55.alloc (.cells [.int .i64 0,.int .i64 0,.nilslice] (some 51) 0 []) = h56 at w56 ⊢
 generalize h55.next = b29 at w56 ⊢
 clear w55
 refine Qac ?_
 refine Qae rfl rfl rfl (L.mnum _) (Qba L.num w56.self) ?_ (fun _ _ e=>e.elim)
 rintro v h57 ⟨rfl,u57⟩
 have w57:=w56.call u57
 clear w56 u57
 refine ⟨?_,?_⟩
 ·simp only [sN,s0,sS,a0,aS,aC,List.all_cons,List.all_nil,Bool.and_true,Bool.and_eq_true]
  exact ⟨Qak rfl rfl rfl rfl (Qad (r:=[.int .i64 10,.int .i64 0,.slice b23 0 2 2]) rfl (w57.get 7 rfl) (by simp) rfl) rfl,Qak rfl rfl rfl rfl (Qad (r:=[t0,t1,t2]) rfl (w57.get 28 rfl) (by simp) rfl) rfl,QaB rfl rfl rfl rfl rfl rfl rfl (w57.get 0 rfl) rfl⟩
 simp only [sN,s0,sS,a0,aS,aC,AV.cells,hm,hn]
 refine Qaf (Qab rfl rfl (x_two (x0:=.int .i64 10) (x1:=.int .i64 0) (x2:=.slice b23 0 2 2) (y0:=.int .i64 0) (y1:=.int .i64 0) (y2:=.nilslice) rfl rfl) rfl ?_)
 simp only [sN,s0,sS,a0,aS,aC,AV.cells,hm,hn]
 have w58:=w57.alloc (.cells [.int .i64 10,.int .i64 0,.slice b23 0 2 2,.int .i64 0,.int .i64 0,.nilslice] none 0 [])
 generalize h57.alloc (.cells [.int .i64 10,.int .i64 0,.slice b23 0 2 2,.int .i64 0,.int .i64 0,.nilslice] none 0 []) = h58 at w58 ⊢
 generalize h57.next = b30 at w58 ⊢
 clear w57
 refine Qac ?_
 refine Qae rfl rfl rfl (L.mterm _) (Qan L.term rfl rfl rfl w58.self) ?_ (fun _ _ e=>e.elim)
 rintro v h59 ⟨rfl,u59⟩
 have w59:=w58.call u59
 clear w58 u59
 refine ⟨?_,?_⟩
 ·simp only [sN,s0,sS,a0,aS,aC,List.all_cons,List.all_nil,Bool.and_true,Bool.and_eq_true]
  exact ⟨Qak rfl rfl rfl rfl (Qad (r:=[t0,t1,t2]) rfl (w59.get 29 rfl) (by simp) rfl) rfl,QaB rfl rfl rfl rfl rfl rfl rfl (w59.get 1 rfl) rfl⟩
 simp only [sN,s0,sS,a0,aS,aC,AV.cells,hm,hn]
 refine Qaf (Qab rfl rfl (x_two (x0:=.int .i64 6) (x1:=.int .i64 0) (x2:=.slice b30 0 2 2) (y0:=t0) (y1:=t1) (y2:=t2) rfl rfl) rfl ?_)
 simp only [sN,s0,sS,a0,aS,aC,AV.cells,hm,hn]
 have w60:=w59.alloc (.cells [.int .i64 6,.int .i64 0,.slice b30 0 2 2,t0,t1,t2] none 0 [])
 generalize h59.alloc (.cells [.int .i64 6,.int .i64 0,.slice b30 0 2 2,t0,t1,t2] none 0 []) = h60 at w60 ⊢
 generalize h59.next = b31 at w60 ⊢
 clear w59
 refine Qac ?_
 refine Qae rfl rfl rfl (L.mterm _) (Qan L.term rfl rfl rfl w60.self) ?_ (fun _ _ e=>e.elim)
 rintro v h61 ⟨rfl,u61⟩
 have w61:=w60.call u61
 clear w60 u61
 refine ⟨?_,?_⟩
 ·simp only [sN,s0,sS,a0,aS,aC,List.all_cons,List.all_nil,Bool.and_true,Bool.and_eq_true]
  exact QaB rfl rfl rfl rfl rfl rfl rfl (w61.get 2 rfl) rfl
 simp only [sN,s0,sS,a0,aS,aC,AV.cells,hm,hn]
 refine Qaf (Qac ?_)
 refine QaD rfl rfl (Qar (l':=[.int .i64 10,.int .i64 0,.slice b31 0 2 2]) (vs:=[.int .i64 10,.int .i64 0,.slice b31 0 2 2]) rfl rfl rfl rfl (w61.get 2 rfl) (by simp) rfl) rfl ?_
 simp only [sN,s0,sS,a0,aS,aC,AV.cells,hm,hn]
 have w62 : Wk _ (h61.put b29 (.cells [.int .i64 10,.int .i64 0,.slice b31 0 2 2] (some 51) 0 [])) [(b31,.cells [.int .i64 6,.int .i64 0,.slice b30 0 2 2,t0,t1,t2] none 0 []),(b30,.cells [.int .i64 10,.int .i64 0,.slice b23 0 2 2,.int .i64 0,.int .i64 0,.nilslice] none 0 []),(b29,.cells [.int .i64 10,.int .i64 0,.slice b31 0 2 2] (some 51) 0 []),(b28,.cells [.int .i64 10,.int .i64 0,.slice b27 0 2 2] (some 51) 0 []),(b27,.cells [.int .i64 0,.int .i64 n,.nilslice,t0,t1,t2] none 0 []),(b26,.cells [.int .i64 7,.int .i64 0,.slice b25 0 2 2,t0,t1,t2] none 0 []),(b25,.cells [.int .i64 10,.int .i64 0,.slice b23 0 2 2,.int .i64 0,.int .i64 0,.nilslice] none 0 []),(b24,.cells [.int .i64 10,.int .i64 0,.slice b26 0 2 2] (some 51) 0 []),(b23,.cells [.int .i64 2,.int .i64 0,.slice b20 0 1 1,.int .i64 5,.int .i64 0,.slice b21 0 1 1] none 0 []),(b22,.cells [.int .i64 10,.int .i64 0,.slice b23 0 2 2] (some 51) 0 []),(b21,.cells [.int .i64 0,.int .i64 n,.nilslice] none 0 []),(b20,.cells [.int .i64 0,.int .i64 m,.nilslice] none 0 []),(b19,.cells [.int .i64 2,.int .i64 0,.slice b17 0 1 1,t0,t1,t2] none 0 []),(b18,.cells [.int .i64 10,.int .i64 0,.slice b19 0 2 2] (some 51) 0 []),(b17,.cells [.int .i64 0,.int .i64 n,.nilslice] none 0 []),(b16,.cells [.int .i64 2,.int .i64 0,.slice b12 0 1 1,.int .i64 10,.int .i64 0,.slice b15 0 2 2] none 0 []),(b15,.cells [.int .i64 2,.int .i64 0,.slice b13 0 1 1,t0,t1,t2] none 0 []),(b14,.cells [.int .i64 10,.int .i64 0,.slice b16 0 2 2] (some 51) 0 []),(b13,.cells [.int .i64 0,.int .i64 n,.nilslice] none 0 []),(b12,.cells [.int .i64 0,.int .i64 m,.nilslice] none 0 []),(b11,.cells [t0,t1,t2,.int .i64 10,.int .i64 0,.slice b10 0 2 2] none 0 []),(b10,.cells [.int .i64 2,.int .i64 0,.slice b8 0 1 1,.int .i64 0,.int .i64 m,.nilslice] none 0 []),(b9,.cells [.int .i64 10,.int .i64 0,.slice b11 0 2 2] (some 51) 0 []),(b8,.cells [.int .i64 0,.int .i64 m,.nilslice] none 0 []),(b7,.cells [t0,t1,t2,.int .i64 10,.int .i64 0,.slice b6 0 2 2] none 0 []),(b6,.cells [.int .i64 2,.int .i64 0,.slice b4 0 1 1,.int .i64 1,.int .i64 0,.nilslice] none 0 []),(b5,.cells [.int .i64 10,.int .i64 0,.slice b7 0 2 2] (some 51) 0 []),(b4,.cells [.int .i64 0,.int .i64 m,.nilslice] none 0 []),(b3,.cells [.int .i64 0,.int .i64 n,.nilslice] (some 51) 0 []),(b2,.cells [.int .i64 0,.int .i64 m,.nilslice] (some 51) 0 []),(b1,.cells [.int .i64 st,.int .i64 env,.bool out,t0,t1,t2] (some 55) 0 [])]:=w61.put 2 rfl _
 generalize h61.put b29 (.cells [.int .i64 10,.int .i64 0,.slice b31 0 2 2] (some 51) 0 []) = h62 at w62 ⊢
 clear w61
 refine Qaf (Qap (Qat (QaX ?_)))
 refine R_seq (QaY (Qaf (Qab rfl rfl (Qad (r:=[.int .i64 0,.int .i64 m,.nilslice]) rfl (w62.get 29 rfl) (by simp) rfl) rfl (Qab rfl rfl (QbG (x0:=.int .i64 0) (x1:=.int .i64 m) (x2:=.nilslice) rfl) rfl ?_))))
 simp only [sN,s0,sS,a0,aS,aC,AV.cells,hm,hn]
 have w63:=w62.alloc (.cells [.int .i64 0,.int .i64 m,.nilslice] none 0 [])
 generalize h62.alloc (.cells [.int .i64 0,.int .i64 m,.nilslice] none 0 []) = h63 at w63 ⊢
 generalize h62.next = b32 at w63 ⊢
 clear w62
 refine Qab rfl rfl rfl rfl (Qab rfl rfl (Qad (r:=[t0,t1,t2]) rfl (w63.get 31 rfl) (by simp) rfl) rfl (Qab rfl rfl rfl rfl ?_))
 simp only [sN,s0,sS,a0,aS,aC,AV.cells,hm,hn]
 have w64:=w63.alloc (.cells [.int .i64 0,.int .i64 0,.nilslice] (some 51) 0 [])
 generalize h63.alloc (.cells [.int .i64 0,.int .i64 0,.nilslice] (some 51) 0 []) = h64 at w64 ⊢
 generalize h63.next = b33 at w64 ⊢
 clear w63
 refine Qac ?_
 refine Qae rfl rfl rfl (L.mterm _) (Qan L.term rfl rfl rfl w64.self) ?_ (fun _ _ e=>e.elim)
 rintro v h65 ⟨rfl,u65⟩
 have w65:=w64.call u65
 clear w64 u65
 refine ⟨?_,?_⟩
 ·simp only [sN,s0,sS,a0,aS,aC,List.all_cons,List.all_nil,Bool.and_true,Bool.and_eq_true]
  exact ⟨Qak rfl rfl rfl rfl (Qad (r:=[t0,t1,t2]) rfl (w65.get 32 rfl) (by simp) rfl) rfl,QaB rfl rfl rfl rfl rfl rfl rfl (w65.get 0 rfl) rfl⟩
 simp only [sN,s0,sS,a0,aS,aC,AV.cells,hm,hn]
 refine Qaf (Qab rfl rfl (x_two (x0:=.int .i64 2) (x1:=.int .i64 0) (x2:=.slice b32 0 1 1) (y0:=t0) (y1:=t1) (y2:=t2) rfl rfl) rfl ?_)
 simp only [sN,s0,sS,a0,aS,aC,AV.cells,hm,hn]
 have w66:=w65.alloc (.cells [.int .i64 2,.int .i64 0,.slice b32 0 1 1,t0,t1,t2] none 0 [])
 generalize h65.alloc (.cells [.int .i64 2,.int .i64 0,.slice b32 0 1 1,t0,t1,t2] none 0 []) = h66 at w66 ⊢
 generalize h65.next = b34 at w66 ⊢
 clear w65
 refine Qac ?_
 refine Qae rfl rfl rfl (L.mterm _) (Qan L.term rfl rfl rfl w66.self) ?_ (fun _ _ e=>e.elim)
 rintro v h67 ⟨rfl,u67⟩
 have w67:=w66.call u67
 clear w66 u67
 refine ⟨?_,?_⟩
 ·simp only [sN,s0,sS,a0,aS,aC,List.all_cons,List.all_nil,Bool.and_true,Bool.and_eq_true]
  exact QaB rfl rfl rfl rfl rfl rfl rfl (w67.get 1 rfl) rfl
 simp only [sN,s0,sS,a0,aS,aC,AV.cells,hm,hn]
 refine Qaf (Qac ?_)
 refine QaD rfl rfl (Qar (l':=[.int .i64 10,.int .i64 0,.slice b34 0 2 2]) (vs:=[.int .i64 10,.int .i64 0,.slice b34 0 2 2]) rfl rfl rfl rfl (w67.get 1 rfl) (by simp) rfl) rfl ?_
 simp only [sN,s0,sS,a0,aS,aC,AV.cells,hm,hn]
 have w68 : Wk _ (h67.put b33 (.cells [.int .i64 10,.int .i64 0,.slice b34 0 2 2] (some 51) 0 [])) [(b34,.cells [.int .i64 2,.int .i64 0,.slice b32 0 1 1,t0,t1,t2] none 0 []),(b33,.cells [.int .i64 10,.int .i64 0,.slice b34 0 2 2] (some 51) 0 []),(b32,.cells [.int .i64 0,.int .i64 m,.nilslice] none 0 []),(b31,.cells [.int .i64 6,.int .i64 0,.slice b30 0 2 2,t0,t1,t2] none 0 []),(b30,.cells [.int .i64 10,.int .i64 0,.slice b23 0 2 2,.int .i64 0,.int .i64 0,.nilslice] none 0 []),(b29,.cells [.int .i64 10,.int .i64 0,.slice b31 0 2 2] (some 51) 0 []),(b28,.cells [.int .i64 10,.int .i64 0,.slice b27 0 2 2] (some 51) 0 []),(b27,.cells [.int .i64 0,.int .i64 n,.nilslice,t0,t1,t2] none 0 []),(b26,.cells [.int .i64 7,.int .i64 0,.slice b25 0 2 2,t0,t1,t2] none 0 []),(b25,.cells [.int .i64 10,.int .i64 0,.slice b23 0 2 2,.int .i64 0,.int .i64 0,.nilslice] none 0 []),(b24,.cells [.int .i64 10,.int .i64 0,.slice b26 0 2 2] (some 51) 0 []),(b23,.cells [.int .i64 2,.int .i64 0,.slice b20 0 1 1,.int .i64 5,.int .i64 0,.slice b21 0 1 1] none 0 []),(b22,.cells [.int .i64 10,.int .i64 0,.slice b23 0 2 2] (some 51) 0 []),(b21,.cells [.int .i64 0,.int .i64 n,.nilslice] none 0 []),(b20,.cells [.int .i64 0,.int .i64 m,.nilslice] none 0 []),(b19,.cells [.int .i64 2,.int .i64 0,.slice b17 0 1 1,t0,t1,t2] none 0 []),(b18,.cells [.int .i64 10,.int .i64 0,.slice b19 0 2 2] (some 51) 0 []),(b17,.cells [.int .i64 0,.int .i64 n,.nilslice] none 0 []),(b16,.cells [.int .i64 2,.int .i64 0,.slice b12 0 1 1,.int .i64 10,.int .i64 0,.slice b15 0 2 2] none 0 []),(b15,.cells [.int .i64 2,.int .i64 0,.slice b13 0 1 1,t0,t1,t2] none 0 []),(b14,.cells [.int .i64 10,.int .i64 0,.slice b16 0 2 2] (some 51) 0 []),(b13,.cells [.int .i64 0,.int .i64 n,.nilslice] none 0 []),(b12,.cells [.int .i64 0,.int .i64 m,.nilslice] none 0 []),(b11,.cells [t0,t1,t2,.int .i64 10,.int .i64 0,.slice b10 0 2 2] none 0 []),(b10,.cells [.int .i64 2,.int .i64 0,.slice b8 0 1 1,.int .i64 0,.int .i64 m,.nilslice] none 0 []),(b9,.cells [.int .i64 10,.int .i64 0,.slice b11 0 2 2] (some 51) 0 []),(b8,.cells [.int .i64 0,.int .i64 m,.nilslice] none 0 []),(b7,.cells [t0,t1,t2,.int .i64 10,.int .i64 0,.slice b6 0 2 2] none 0 []),(b6,.cells [.int .i64 2,.int .i64 0,.slice b4 0 1 1,.int .i64 1,.int .i64 0,.nilslice] none 0 []),(b5,.cells [.int .i64 10,.int .i64 0,.slice b7 0 2 2] (some 51) 0 []),(b4,.cells [.int .i64 0,.int .i64 m,.nilslice] none 0 []),(b3,.cells [.int .i64 0,.int .i64 n,.nilslice] (some 51) 0 []),(b2,.cells [.int .i64 0,.int .i64 m,.nilslice] (some 51) 0 []),(b1,.cells [.int .i64 st,.int .i64 env,.bool out,t0,t1,t2] (some 55) 0 [])]:=w67.put 1 rfl _
 generalize h67.put b33 (.cells [.int .i64 10,.int .i64 0,.slice b34 0 2 2] (some 51) 0 []) = h68 at w68 ⊢
 clear w67
 refine Qaf (Qap (Qat (QaX ?_)))
 refine R_seq (Qaa (R_op rfl rfl (Qad (r:=[.int .i64 st,.int .i64 env,.bool out,t0,t1,t2]) rfl (w68.get 33 rfl) (by simp) rfl) (R_op rfl rfl (Qad (r:=[.int .i64 10,.int .i64 0,.slice b26 0 2 2]) rfl (w68.get 10 rfl) (by simp) rfl) (R_op rfl rfl (Qad (r:=[.int .i64 10,.int .i64 0,.slice b27 0 2 2]) rfl (w68.get 6 rfl) (by simp) rfl) (Qau rfl rfl rfl (L.mequal _) (QaI L (Qao (Qao (Qao (Qaz (Qam 0 m)) (Qaz (Qam 0 n))) (Qam 0 0)) hs) (Qao (Qam 0 n) hs) w68.self (Nat.le_refl _) (QaA (w68.lt 8 rfl) (w68.get 8 rfl) (QaA (w68.lt 9 rfl) (w68.get 9 rfl) (QaA (w68.lt 11 rfl) (w68.get 11 rfl) (QaJ (w68.lt 14 rfl) (w68.get 14 rfl) (Qas _ _ 0 m)) (QaJ (w68.lt 13 rfl) (w68.get 13 rfl) (Qas _ _ 0 n))) (Qas _ _ 0 0)) (w68.rep hN hrep)) (QaA (w68.lt 7 rfl) (w68.get 7 rfl) (Qas _ _ 0 n) (w68.rep hN hrep)) (state3 T m n env ⟨st,[]⟩)) ?_ (fun _ _ e=>e.elim))))))
 rintro v h69 ⟨rfl,u69⟩
 have w69:=w68.call u69
 clear w68 u69
 simp only [sN,s0,sS,a0,aS,aC,AV.cells,hm,hn]
 refine R_op rfl rfl rfl (R_op rfl rfl (Qad (r:=[.int .i64 st,.int .i64 env,.bool out,t0,t1,t2]) rfl (w69.get 33 rfl) (by simp) rfl) (R_op rfl rfl (Qad (r:=[.int .i64 10,.int .i64 0,.slice b31 0 2 2]) rfl (w69.get 5 rfl) (by simp) rfl) (R_op rfl rfl (Qad (r:=[.int .i64 10,.int .i64 0,.slice b34 0 2 2]) rfl (w69.get 1 rfl) (by simp) rfl) (Qau rfl rfl rfl (L.mequal _) (QaI L (Qao (Qao (Qao (Qaz (Qam 0 m)) (Qaz (Qam 0 n))) (Qam 0 0)) hs) (Qao (Qaz (Qam 0 m)) hs) w69.self (Nat.le_refl _) (QaA (w69.lt 3 rfl) (w69.get 3 rfl) (QaA (w69.lt 4 rfl) (w69.get 4 rfl) (QaA (w69.lt 11 rfl) (w69.get 11 rfl) (QaJ (w69.lt 14 rfl) (w69.get 14 rfl) (Qas _ _ 0 m)) (QaJ (w69.lt 13 rfl) (w69.get 13 rfl) (Qas _ _ 0 n))) (Qas _ _ 0 0)) (w69.rep hN hrep)) (QaA (w69.lt 0 rfl) (w69.get 0 rfl) (QaJ (w69.lt 2 rfl) (w69.get 2 rfl) (Qas _ _ 0 m)) (w69.rep hN hrep)) (state4 T m n env ⟨st,[]⟩)) ?_ (fun _ _ e=>e.elim)))))
 rintro v h70 ⟨rfl,u70⟩
 have w70:=w69.call u70
 clear w69 u70
 simp only [sN,s0,sS,a0,aS,aC,AV.cells,hm,hn]
 refine R_op rfl rfl rfl (R_op rfl rfl rfl (QdL rfl rfl rfl hA (hAe _) (R_op rfl rfl rfl (R_op rfl rfl rfl (R_nil ?_)))))
 simp only [sN,s0,sS,a0,aS,aC,AV.cells,hm,hn]
 exact R_top ⟨rfl,rfl,rfl,rfl⟩ hF rfl
end
end Go.Ab.L22

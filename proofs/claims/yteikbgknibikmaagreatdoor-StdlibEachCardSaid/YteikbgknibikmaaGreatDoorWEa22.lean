/-
  A part of a proof: WEa22.
-/
import Derived.Test.YteikbgknibikmaaGreatDoorWP22toWOc22
import Derived.Test.YteikbgknibikmaaGreatDoorWDlEa
set_option linter.all false
namespace Go.Ab.L22
open Go Go.Ab
section
variable {F : FuncId → Option AFun} {M : Memo} {ita : Int → Str} {rep : Nat → Str}
set_option maxHeartbeats 4000000 in
theorem Each_top (L : Law F M ita rep) (hF : F i_Each = some QnO) {x : Int} (hx : 0 ≤ x ∧ x < 256) {T : LT} (hs : Short T) {st env : Int} {out : Bool} {t0 t1 t2 : AV} {N : Nat} {h : AH} (u : Up h h) (hN : N ≤ h.next) (hrep : Rep N h T [t0,t1,t2]) :
  Top F M i_Each [.agg [.int .i64 st,.int .i64 env,.bool out,t0,t1,t2],.int .u8 x] h (.bool true):=by
 obtain ⟨cA,hA,hAe⟩:=L.awake
 have ew : IntKind.i64.wrap x = x:=QkH hx.1 (by omega)
 have hm5 : (IntKind.i64.wrap x).tmod 5 = 0 ∨ (IntKind.i64.wrap x).tmod 5 = 1 ∨ (IntKind.i64.wrap x).tmod 5 = 2 ∨ (IntKind.i64.wrap x).tmod 5 = 3 ∨ (IntKind.i64.wrap x).tmod 5 = 4:=by
  rw [ew,Int.tmod_eq_emod_of_nonneg hx.1]
  omega
 refine Top.intro hF ?_
 simp only [QnO,fn5,List.length_cons,List.length_nil,Nat.reduceAdd,Nat.reduceSub,rZ,rS,pN,pC]
 have w:=Wk.start u
 rcases hm5 with hm | hm | hm | hm | hm
 ·refine R_seq (Qaa (R_op rfl rfl rfl ?_))
  simp only [sN,s0,sS,a0,aS,aC,AV.cells,hm]
  have w1:=w.alloc (.cells [.int .i64 st,.int .i64 env,.bool out,t0,t1,t2] (some 55) 0 [])
  generalize h.alloc (.cells [.int .i64 st,.int .i64 env,.bool out,t0,t1,t2] (some 55) 0 []) = h1 at w1 ⊢
  generalize h.next = b1 at w1 ⊢
  clear w
  refine R_op rfl rfl rfl (R_nil ?_)
  simp only [sN,s0,sS,a0,aS,aC,AV.cells,hm]
  refine R_seq (Qaa (R_op rfl rfl rfl (R_op rfl rfl rfl (R_op rfl rfl rfl (R_op rfl rfl rfl (R_nil ?_))))))
  simp only [sN,s0,sS,a0,aS,aC,AV.cells,hm]
  refine R_seq (Qaa (R_op rfl rfl rfl (R_op rfl rfl rfl (R_op rfl rfl (Qad (r:=[t0,t1,t2]) rfl (w1.get 0 rfl) (by simp) rfl) (R_op rfl rfl (QbG (x0:=t0) (x1:=t1) (x2:=t2) rfl) ?_)))))
  simp only [sN,s0,sS,a0,aS,aC,AV.cells,hm]
  have w2:=w1.alloc (.cells [t0,t1,t2] none 0 [])
  generalize h1.alloc (.cells [t0,t1,t2] none 0 []) = h2 at w2 ⊢
  generalize h1.next = b2 at w2 ⊢
  clear w1
  refine R_op (v:=.agg [.int .i64 12,.int .i64 0,.slice b2 0 1 1]) (h1:=h2) rfl rfl (by simp [exec,fillA,splice,AV.known,AV.cells,sN,s0,sS,a0,aS,aC]) (R_op rfl rfl rfl ?_)
  simp only [sN,s0,sS,a0,aS,aC,AV.cells,hm]
  have w3:=w2.alloc (.cells [.int .i64 0,.int .i64 0,.nilslice] (some 51) 0 [])
  generalize h2.alloc (.cells [.int .i64 0,.int .i64 0,.nilslice] (some 51) 0 []) = h3 at w3 ⊢
  generalize h2.next = b3 at w3 ⊢
  clear w2
  refine R_op rfl rfl (Qar (l':=[.int .i64 12,.int .i64 0,.slice b2 0 1 1]) (vs:=[.int .i64 12,.int .i64 0,.slice b2 0 1 1]) rfl rfl rfl rfl (w3.get 0 rfl) (by simp) rfl) ?_
  simp only [sN,s0,sS,a0,aS,aC,AV.cells,hm]
  have w4 : Wk _ (h3.put b3 (.cells [.int .i64 12,.int .i64 0,.slice b2 0 1 1] (some 51) 0 [])) [(b3,.cells [.int .i64 12,.int .i64 0,.slice b2 0 1 1] (some 51) 0 []),(b2,.cells [t0,t1,t2] none 0 []),(b1,.cells [.int .i64 st,.int .i64 env,.bool out,t0,t1,t2] (some 55) 0 [])]:=w3.put 0 rfl _
  generalize h3.put b3 (.cells [.int .i64 12,.int .i64 0,.slice b2 0 1 1] (some 51) 0 []) = h4 at w4 ⊢
  clear w3
  refine R_nil ?_
  refine R_seq (Qaa (Qau rfl rfl rfl (L.mnum _) (Qba L.num w4.self) ?_ (fun _ _ e=>e.elim)))
  rintro v h5 ⟨rfl,u5⟩
  have w5:=w4.call u5
  clear w4 u5
  simp only [sN,s0,sS,a0,aS,aC,AV.cells,hm]
  refine R_op rfl rfl rfl ?_
  simp only [sN,s0,sS,a0,aS,aC,AV.cells,hm]
  have w6:=w5.alloc (.cells [.int .i64 0,.int .i64 0,.nilslice] (some 51) 0 [])
  generalize h5.alloc (.cells [.int .i64 0,.int .i64 0,.nilslice] (some 51) 0 []) = h6 at w6 ⊢
  generalize h5.next = b4 at w6 ⊢
  clear w5
  refine R_op rfl rfl (Qar (l':=[.int .i64 0,.int .i64 0,.nilslice]) (vs:=[.int .i64 0,.int .i64 0,.nilslice]) rfl rfl rfl rfl (w6.get 0 rfl) (by simp) rfl) ?_
  simp only [sN,s0,sS,a0,aS,aC,AV.cells,hm]
  have w7 : Wk _ (h6.put b4 (.cells [.int .i64 0,.int .i64 0,.nilslice] (some 51) 0 [])) [(b4,.cells [.int .i64 0,.int .i64 0,.nilslice] (some 51) 0 []),(b3,.cells [.int .i64 12,.int .i64 0,.slice b2 0 1 1] (some 51) 0 []),(b2,.cells [t0,t1,t2] none 0 []),(b1,.cells [.int .i64 st,.int .i64 env,.bool out,t0,t1,t2] (some 55) 0 [])]:=w6.put 0 rfl _
  generalize h6.put b4 (.cells [.int .i64 0,.int .i64 0,.nilslice] (some 51) 0 []) = h7 at w7 ⊢
  clear w6
  refine R_nil ?_
  refine R_seq (R_seq (Qaa (R_op rfl rfl rfl (R_nil ?_))))
  simp only [sN,s0,sS,a0,aS,aC,AV.cells,hm]
  refine QaS (QeH (R_seq (R_seq (Qaa (R_op rfl rfl rfl (R_op rfl rfl rfl ?_))))))
  simp only [sN,s0,sS,a0,aS,aC,AV.cells,hm]
  refine R_op rfl rfl rfl (R_nil ?_)
  simp only [sN,s0,sS,a0,aS,aC,AV.cells,hm]
  refine Qaw rfl (Qfj rfl (R_seq (Qaa (R_op rfl rfl (Qad (r:=[.int .i64 st,.int .i64 env,.bool out,t0,t1,t2]) rfl (w7.get 3 rfl) (by simp) rfl) (R_op rfl rfl (Qad (r:=[.int .i64 12,.int .i64 0,.slice b2 0 1 1]) rfl (w7.get 1 rfl) (by simp) rfl) (R_op rfl rfl (Qad (r:=[.int .i64 0,.int .i64 0,.nilslice]) rfl (w7.get 0 rfl) (by simp) rfl) (Qau rfl rfl rfl (L.mequal _) (QaI L (Qaz hs) (Qam 0 0) w7.self (Nat.le_refl _) (QaJ (w7.lt 2 rfl) (w7.get 2 rfl) (w7.rep hN hrep)) (Qas _ _ 0 0) (Qgh T env ⟨st,[]⟩ 0 (by omega))) ?_ (fun _ _ e=>e.elim))))))))
  rintro v h8 ⟨rfl,u8⟩
  have w8:=w7.call u8
  clear w7 u8
  simp only [sN,s0,sS,a0,aS,aC,AV.cells,hm]
  refine R_op rfl rfl rfl (QdL rfl rfl rfl hA (hAe _) (R_op rfl rfl rfl (R_op rfl rfl rfl (R_nil ?_))))
  simp only [sN,s0,sS,a0,aS,aC,AV.cells,hm]
  exact R_top ⟨rfl,rfl,rfl,rfl⟩ hF rfl
 ·refine R_seq (Qaa (R_op rfl rfl rfl ?_))
  simp only [sN,s0,sS,a0,aS,aC,AV.cells,hm]
  have w1:=w.alloc (.cells [.int .i64 st,.int .i64 env,.bool out,t0,t1,t2] (some 55) 0 [])
  generalize h.alloc (.cells [.int .i64 st,.int .i64 env,.bool out,t0,t1,t2] (some 55) 0 []) = h1 at w1 ⊢
  generalize h.next = b1 at w1 ⊢
  clear w
  refine R_op rfl rfl rfl (R_nil ?_)
  simp only [sN,s0,sS,a0,aS,aC,AV.cells,hm]
  refine R_seq (Qaa (R_op rfl rfl rfl (R_op rfl rfl rfl (R_op rfl rfl rfl (R_op rfl rfl rfl (R_nil ?_))))))
  simp only [sN,s0,sS,a0,aS,aC,AV.cells,hm]
  refine R_seq (Qaa (R_op rfl rfl rfl (R_op rfl rfl rfl (R_op rfl rfl (Qad (r:=[t0,t1,t2]) rfl (w1.get 0 rfl) (by simp) rfl) (R_op rfl rfl (QbG (x0:=t0) (x1:=t1) (x2:=t2) rfl) ?_)))))
  simp only [sN,s0,sS,a0,aS,aC,AV.cells,hm]
  have w2:=w1.alloc (.cells [t0,t1,t2] none 0 [])
  generalize h1.alloc (.cells [t0,t1,t2] none 0 []) = h2 at w2 ⊢
  generalize h1.next = b2 at w2 ⊢
  clear w1
  refine R_op (v:=.agg [.int .i64 12,.int .i64 1,.slice b2 0 1 1]) (h1:=h2) rfl rfl (by simp [exec,fillA,splice,AV.known,AV.cells,sN,s0,sS,a0,aS,aC]) (R_op rfl rfl rfl ?_)
  simp only [sN,s0,sS,a0,aS,aC,AV.cells,hm]
  have w3:=w2.alloc (.cells [.int .i64 0,.int .i64 0,.nilslice] (some 51) 0 [])
  generalize h2.alloc (.cells [.int .i64 0,.int .i64 0,.nilslice] (some 51) 0 []) = h3 at w3 ⊢
  generalize h2.next = b3 at w3 ⊢
  clear w2
  refine R_op rfl rfl (Qar (l':=[.int .i64 12,.int .i64 1,.slice b2 0 1 1]) (vs:=[.int .i64 12,.int .i64 1,.slice b2 0 1 1]) rfl rfl rfl rfl (w3.get 0 rfl) (by simp) rfl) ?_
  simp only [sN,s0,sS,a0,aS,aC,AV.cells,hm]
  have w4 : Wk _ (h3.put b3 (.cells [.int .i64 12,.int .i64 1,.slice b2 0 1 1] (some 51) 0 [])) [(b3,.cells [.int .i64 12,.int .i64 1,.slice b2 0 1 1] (some 51) 0 []),(b2,.cells [t0,t1,t2] none 0 []),(b1,.cells [.int .i64 st,.int .i64 env,.bool out,t0,t1,t2] (some 55) 0 [])]:=w3.put 0 rfl _
  generalize h3.put b3 (.cells [.int .i64 12,.int .i64 1,.slice b2 0 1 1] (some 51) 0 []) = h4 at w4 ⊢
  clear w3
  refine R_nil ?_
  refine R_seq (Qaa (Qau rfl rfl rfl (L.mnum _) (Qba L.num w4.self) ?_ (fun _ _ e=>e.elim)))
  rintro v h5 ⟨rfl,u5⟩
  have w5:=w4.call u5
  clear w4 u5
  simp only [sN,s0,sS,a0,aS,aC,AV.cells,hm]
  refine R_op rfl rfl rfl ?_
  simp only [sN,s0,sS,a0,aS,aC,AV.cells,hm]
  have w6:=w5.alloc (.cells [.int .i64 0,.int .i64 0,.nilslice] (some 51) 0 [])
  generalize h5.alloc (.cells [.int .i64 0,.int .i64 0,.nilslice] (some 51) 0 []) = h6 at w6 ⊢
  generalize h5.next = b4 at w6 ⊢
  clear w5
  refine R_op rfl rfl (Qar (l':=[.int .i64 0,.int .i64 0,.nilslice]) (vs:=[.int .i64 0,.int .i64 0,.nilslice]) rfl rfl rfl rfl (w6.get 0 rfl) (by simp) rfl) ?_
  simp only [sN,s0,sS,a0,aS,aC,AV.cells,hm]
  have w7 : Wk _ (h6.put b4 (.cells [.int .i64 0,.int .i64 0,.nilslice] (some 51) 0 [])) [(b4,.cells [.int .i64 0,.int .i64 0,.nilslice] (some 51) 0 []),(b3,.cells [.int .i64 12,.int .i64 1,.slice b2 0 1 1] (some 51) 0 []),(b2,.cells [t0,t1,t2] none 0 []),(b1,.cells [.int .i64 st,.int .i64 env,.bool out,t0,t1,t2] (some 55) 0 [])]:=w6.put 0 rfl _
  generalize h6.put b4 (.cells [.int .i64 0,.int .i64 0,.nilslice] (some 51) 0 []) = h7 at w7 ⊢
  clear w6
  refine R_nil ?_
  refine R_seq (R_seq (Qaa (R_op rfl rfl rfl (R_nil ?_))))
  simp only [sN,s0,sS,a0,aS,aC,AV.cells,hm]
  refine QaS (QeH (R_seq (R_seq (Qaa (R_op rfl rfl rfl (R_op rfl rfl rfl ?_))))))
  simp only [sN,s0,sS,a0,aS,aC,AV.cells,hm]
  refine R_op rfl rfl rfl (R_nil ?_)
  simp only [sN,s0,sS,a0,aS,aC,AV.cells,hm]
  refine QaM rfl (QaF (R_seq (QaS (QaY (Qaf (Qab rfl rfl (Qad (r:=[.int .i64 0,.int .i64 0,.nilslice]) rfl (w7.get 0 rfl) (by simp) rfl) rfl ?_))))))
  simp only [sN,s0,sS,a0,aS,aC,AV.cells,hm]
  refine Qab rfl rfl rfl rfl (Qab rfl rfl rfl rfl (Qab rfl rfl (Qad (r:=[t0,t1,t2]) rfl (w7.get 3 rfl) (by simp) rfl) rfl (Qac ?_)))
  simp only [sN,s0,sS,a0,aS,aC,AV.cells,hm]
  refine Qae rfl rfl rfl (L.mnum _) (Qba L.num w7.self) ?_ (fun _ _ e=>e.elim)
  rintro v h8 ⟨rfl,u8⟩
  have w8:=w7.call u8
  clear w7 u8
  refine ⟨?_,?_⟩
  ·simp only [sN,s0,sS,a0,aS,aC,List.all_cons,List.all_nil,Bool.and_true,Bool.and_eq_true]
   exact ⟨Qak rfl rfl rfl rfl (Qad (r:=[.int .i64 0,.int .i64 0,.nilslice]) rfl (w8.get 0 rfl) (by simp) rfl) rfl,Qak rfl rfl rfl rfl (Qad (r:=[t0,t1,t2]) rfl (w8.get 3 rfl) (by simp) rfl) rfl⟩
  simp only [sN,s0,sS,a0,aS,aC,AV.cells,hm]
  refine Qaf (Qab rfl rfl (x_two (x0:=.int .i64 0) (x1:=.int .i64 1) (x2:=.nilslice) (y0:=t0) (y1:=t1) (y2:=t2) rfl rfl) rfl ?_)
  simp only [sN,s0,sS,a0,aS,aC,AV.cells,hm]
  have w9:=w8.alloc (.cells [.int .i64 0,.int .i64 1,.nilslice,t0,t1,t2] none 0 [])
  generalize h8.alloc (.cells [.int .i64 0,.int .i64 1,.nilslice,t0,t1,t2] none 0 []) = h9 at w9 ⊢
  generalize h8.next = b5 at w9 ⊢
  clear w8
  refine Qac ?_
  refine Qae rfl rfl rfl (L.mterm _) (Qan L.term rfl rfl rfl w9.self) ?_ (fun _ _ e=>e.elim)
  rintro v h10 ⟨rfl,u10⟩
  have w10:=w9.call u10
  clear w9 u10
  refine ⟨?_,?_⟩
  ·simp only [sN,s0,sS,a0,aS,aC,List.all_cons,List.all_nil,Bool.and_true,Bool.and_eq_true]
   exact Qak rfl rfl rfl rfl (Qad (r:=[.int .i64 0,.int .i64 0,.nilslice]) rfl (w10.get 1 rfl) (by simp) rfl) rfl
  simp only [sN,s0,sS,a0,aS,aC,AV.cells,hm]
  refine Qaf (Qab rfl rfl (x_two (x0:=.int .i64 0) (x1:=.int .i64 0) (x2:=.nilslice) (y0:=.int .i64 8) (y1:=.int .i64 0) (y2:=.slice b5 0 2 2) rfl rfl) rfl ?_)
  simp only [sN,s0,sS,a0,aS,aC,AV.cells,hm]
  have w11:=w10.alloc (.cells [.int .i64 0,.int .i64 0,.nilslice,.int .i64 8,.int .i64 0,.slice b5 0 2 2] none 0 [])
  generalize h10.alloc (.cells [.int .i64 0,.int .i64 0,.nilslice,.int .i64 8,.int .i64 0,.slice b5 0 2 2] none 0 []) = h11 at w11 ⊢
  generalize h10.next = b6 at w11 ⊢
  clear w10
  refine Qac ?_
  refine Qae rfl rfl rfl (L.mterm _) (Qan L.term rfl rfl rfl w11.self) ?_ (fun _ _ e=>e.elim)
  rintro v h12 ⟨rfl,u12⟩
  have w12:=w11.call u12
  clear w11 u12
  refine ⟨?_,?_⟩
  ·rfl
  simp only [sN,s0,sS,a0,aS,aC,AV.cells,hm]
  refine Qaf (Qac ?_)
  refine QaD rfl rfl (Qar (l':=[.int .i64 9,.int .i64 0,.slice b6 0 2 2]) (vs:=[.int .i64 9,.int .i64 0,.slice b6 0 2 2]) rfl rfl rfl rfl (w12.get 2 rfl) (by simp) rfl) rfl ?_
  simp only [sN,s0,sS,a0,aS,aC,AV.cells,hm]
  have w13 : Wk _ (h12.put b4 (.cells [.int .i64 9,.int .i64 0,.slice b6 0 2 2] (some 51) 0 [])) [(b6,.cells [.int .i64 0,.int .i64 0,.nilslice,.int .i64 8,.int .i64 0,.slice b5 0 2 2] none 0 []),(b5,.cells [.int .i64 0,.int .i64 1,.nilslice,t0,t1,t2] none 0 []),(b4,.cells [.int .i64 9,.int .i64 0,.slice b6 0 2 2] (some 51) 0 []),(b3,.cells [.int .i64 12,.int .i64 1,.slice b2 0 1 1] (some 51) 0 []),(b2,.cells [t0,t1,t2] none 0 []),(b1,.cells [.int .i64 st,.int .i64 env,.bool out,t0,t1,t2] (some 55) 0 [])]:=w12.put 2 rfl _
  generalize h12.put b4 (.cells [.int .i64 9,.int .i64 0,.slice b6 0 2 2] (some 51) 0 []) = h13 at w13 ⊢
  clear w12
  refine Qaf (Qap (Qat (QaX ?_)))
  refine QaQ (Qaa (R_op rfl rfl rfl (R_op (v:=.int .i64 2) rfl rfl rfl (R_op rfl rfl rfl (R_nil ?_)))))
  simp only [sN,s0,sS,a0,aS,aC,AV.cells,hm]
  refine Qbo (R_seq (R_seq (Qaa (R_op rfl rfl rfl (R_op rfl rfl rfl (R_op rfl rfl rfl (R_nil ?_)))))))
  simp only [sN,s0,sS,a0,aS,aC,AV.cells,hm]
  refine Qaw rfl (Qfj rfl (R_seq (Qaa (R_op rfl rfl (Qad (r:=[.int .i64 st,.int .i64 env,.bool out,t0,t1,t2]) rfl (w13.get 5 rfl) (by simp) rfl) (R_op rfl rfl (Qad (r:=[.int .i64 12,.int .i64 1,.slice b2 0 1 1]) rfl (w13.get 3 rfl) (by simp) rfl) (R_op rfl rfl (Qad (r:=[.int .i64 9,.int .i64 0,.slice b6 0 2 2]) rfl (w13.get 2 rfl) (by simp) rfl) (Qau rfl rfl rfl (L.mequal _) (QaI L (Qaz hs) (Qao (Qam 0 0) (Qao (Qam 0 1) hs)) w13.self (Nat.le_refl _) (QaJ (w13.lt 4 rfl) (w13.get 4 rfl) (w13.rep hN hrep)) (QaA (w13.lt 0 rfl) (w13.get 0 rfl) (Qas _ _ 0 0) (QaA (w13.lt 1 rfl) (w13.get 1 rfl) (Qas _ _ 0 1) (w13.rep hN hrep))) (Qgh T env ⟨st,[]⟩ 1 (by omega))) ?_ (fun _ _ e=>e.elim))))))))
  rintro v h14 ⟨rfl,u14⟩
  have w14:=w13.call u14
  clear w13 u14
  simp only [sN,s0,sS,a0,aS,aC,AV.cells,hm]
  refine R_op rfl rfl rfl (QdL rfl rfl rfl hA (hAe _) (R_op rfl rfl rfl (R_op rfl rfl rfl (R_nil ?_))))
  simp only [sN,s0,sS,a0,aS,aC,AV.cells,hm]
  exact R_top ⟨rfl,rfl,rfl,rfl⟩ hF rfl
 ·refine R_seq (Qaa (R_op rfl rfl rfl ?_))
  simp only [sN,s0,sS,a0,aS,aC,AV.cells,hm]
  have w1:=w.alloc (.cells [.int .i64 st,.int .i64 env,.bool out,t0,t1,t2] (some 55) 0 [])
  generalize h.alloc (.cells [.int .i64 st,.int .i64 env,.bool out,t0,t1,t2] (some 55) 0 []) = h1 at w1 ⊢
  generalize h.next = b1 at w1 ⊢
  clear w
  refine R_op rfl rfl rfl (R_nil ?_)
  simp only [sN,s0,sS,a0,aS,aC,AV.cells,hm]
  refine R_seq (Qaa (R_op rfl rfl rfl (R_op rfl rfl rfl (R_op rfl rfl rfl (R_op rfl rfl rfl (R_nil ?_))))))
  simp only [sN,s0,sS,a0,aS,aC,AV.cells,hm]
  refine R_seq (Qaa (R_op rfl rfl rfl (R_op rfl rfl rfl (R_op rfl rfl (Qad (r:=[t0,t1,t2]) rfl (w1.get 0 rfl) (by simp) rfl) (R_op rfl rfl (QbG (x0:=t0) (x1:=t1) (x2:=t2) rfl) ?_)))))
  simp only [sN,s0,sS,a0,aS,aC,AV.cells,hm]
  have w2:=w1.alloc (.cells [t0,t1,t2] none 0 [])
  generalize h1.alloc (.cells [t0,t1,t2] none 0 []) = h2 at w2 ⊢
  generalize h1.next = b2 at w2 ⊢
  clear w1
  refine R_op (v:=.agg [.int .i64 12,.int .i64 2,.slice b2 0 1 1]) (h1:=h2) rfl rfl (by simp [exec,fillA,splice,AV.known,AV.cells,sN,s0,sS,a0,aS,aC]) (R_op rfl rfl rfl ?_)
  simp only [sN,s0,sS,a0,aS,aC,AV.cells,hm]
  have w3:=w2.alloc (.cells [.int .i64 0,.int .i64 0,.nilslice] (some 51) 0 [])
  generalize h2.alloc (.cells [.int .i64 0,.int .i64 0,.nilslice] (some 51) 0 []) = h3 at w3 ⊢
  generalize h2.next = b3 at w3 ⊢
  clear w2
  refine R_op rfl rfl (Qar (l':=[.int .i64 12,.int .i64 2,.slice b2 0 1 1]) (vs:=[.int .i64 12,.int .i64 2,.slice b2 0 1 1]) rfl rfl rfl rfl (w3.get 0 rfl) (by simp) rfl) ?_
  simp only [sN,s0,sS,a0,aS,aC,AV.cells,hm]
  have w4 : Wk _ (h3.put b3 (.cells [.int .i64 12,.int .i64 2,.slice b2 0 1 1] (some 51) 0 [])) [(b3,.cells [.int .i64 12,.int .i64 2,.slice b2 0 1 1] (some 51) 0 []),(b2,.cells [t0,t1,t2] none 0 []),(b1,.cells [.int .i64 st,.int .i64 env,.bool out,t0,t1,t2] (some 55) 0 [])]:=w3.put 0 rfl _
  generalize h3.put b3 (.cells [.int .i64 12,.int .i64 2,.slice b2 0 1 1] (some 51) 0 []) = h4 at w4 ⊢
  clear w3
  refine R_nil ?_
  refine R_seq (Qaa (Qau rfl rfl rfl (L.mnum _) (Qba L.num w4.self) ?_ (fun _ _ e=>e.elim)))
  rintro v h5 ⟨rfl,u5⟩
  have w5:=w4.call u5
  clear w4 u5
  simp only [sN,s0,sS,a0,aS,aC,AV.cells,hm]
  refine R_op rfl rfl rfl ?_
  simp only [sN,s0,sS,a0,aS,aC,AV.cells,hm]
  have w6:=w5.alloc (.cells [.int .i64 0,.int .i64 0,.nilslice] (some 51) 0 [])
  generalize h5.alloc (.cells [.int .i64 0,.int .i64 0,.nilslice] (some 51) 0 []) = h6 at w6 ⊢
  generalize h5.next = b4 at w6 ⊢
  clear w5
  refine R_op rfl rfl (Qar (l':=[.int .i64 0,.int .i64 0,.nilslice]) (vs:=[.int .i64 0,.int .i64 0,.nilslice]) rfl rfl rfl rfl (w6.get 0 rfl) (by simp) rfl) ?_
  simp only [sN,s0,sS,a0,aS,aC,AV.cells,hm]
  have w7 : Wk _ (h6.put b4 (.cells [.int .i64 0,.int .i64 0,.nilslice] (some 51) 0 [])) [(b4,.cells [.int .i64 0,.int .i64 0,.nilslice] (some 51) 0 []),(b3,.cells [.int .i64 12,.int .i64 2,.slice b2 0 1 1] (some 51) 0 []),(b2,.cells [t0,t1,t2] none 0 []),(b1,.cells [.int .i64 st,.int .i64 env,.bool out,t0,t1,t2] (some 55) 0 [])]:=w6.put 0 rfl _
  generalize h6.put b4 (.cells [.int .i64 0,.int .i64 0,.nilslice] (some 51) 0 []) = h7 at w7 ⊢
  clear w6
  refine R_nil ?_
  refine R_seq (R_seq (Qaa (R_op rfl rfl rfl (R_nil ?_))))
  simp only [sN,s0,sS,a0,aS,aC,AV.cells,hm]
  refine QaS (QeH (R_seq (R_seq (Qaa (R_op rfl rfl rfl (R_op rfl rfl rfl ?_))))))
  simp only [sN,s0,sS,a0,aS,aC,AV.cells,hm]
  refine R_op rfl rfl rfl (R_nil ?_)
  simp only [sN,s0,sS,a0,aS,aC,AV.cells,hm]
  refine QaM rfl (QaF (R_seq (QaS (QaY (Qaf (Qab rfl rfl (Qad (r:=[.int .i64 0,.int .i64 0,.nilslice]) rfl (w7.get 0 rfl) (by simp) rfl) rfl ?_))))))
  simp only [sN,s0,sS,a0,aS,aC,AV.cells,hm]
  refine Qab rfl rfl rfl rfl (Qab rfl rfl rfl rfl (Qab rfl rfl (Qad (r:=[t0,t1,t2]) rfl (w7.get 3 rfl) (by simp) rfl) rfl (Qac ?_)))
  simp only [sN,s0,sS,a0,aS,aC,AV.cells,hm]
  refine Qae rfl rfl rfl (L.mnum _) (Qba L.num w7.self) ?_ (fun _ _ e=>e.elim)
  rintro v h8 ⟨rfl,u8⟩
  have w8:=w7.call u8
  clear w7 u8
  refine ⟨?_,?_⟩
  ·simp only [sN,s0,sS,a0,aS,aC,List.all_cons,List.all_nil,Bool.and_true,Bool.and_eq_true]
   exact ⟨Qak rfl rfl rfl rfl (Qad (r:=[.int .i64 0,.int .i64 0,.nilslice]) rfl (w8.get 0 rfl) (by simp) rfl) rfl,Qak rfl rfl rfl rfl (Qad (r:=[t0,t1,t2]) rfl (w8.get 3 rfl) (by simp) rfl) rfl⟩
  simp only [sN,s0,sS,a0,aS,aC,AV.cells,hm]
  refine Qaf (Qab rfl rfl (x_two (x0:=.int .i64 0) (x1:=.int .i64 1) (x2:=.nilslice) (y0:=t0) (y1:=t1) (y2:=t2) rfl rfl) rfl ?_)
  simp only [sN,s0,sS,a0,aS,aC,AV.cells,hm]
  have w9:=w8.alloc (.cells [.int .i64 0,.int .i64 1,.nilslice,t0,t1,t2] none 0 [])
  generalize h8.alloc (.cells [.int .i64 0,.int .i64 1,.nilslice,t0,t1,t2] none 0 []) = h9 at w9 ⊢
  generalize h8.next = b5 at w9 ⊢
  clear w8
  refine Qac ?_
  refine Qae rfl rfl rfl (L.mterm _) (Qan L.term rfl rfl rfl w9.self) ?_ (fun _ _ e=>e.elim)
  rintro v h10 ⟨rfl,u10⟩
  have w10:=w9.call u10
  clear w9 u10
  refine ⟨?_,?_⟩
  ·simp only [sN,s0,sS,a0,aS,aC,List.all_cons,List.all_nil,Bool.and_true,Bool.and_eq_true]
   exact Qak rfl rfl rfl rfl (Qad (r:=[.int .i64 0,.int .i64 0,.nilslice]) rfl (w10.get 1 rfl) (by simp) rfl) rfl
  simp only [sN,s0,sS,a0,aS,aC,AV.cells,hm]
  refine Qaf (Qab rfl rfl (x_two (x0:=.int .i64 0) (x1:=.int .i64 0) (x2:=.nilslice) (y0:=.int .i64 8) (y1:=.int .i64 0) (y2:=.slice b5 0 2 2) rfl rfl) rfl ?_)
  simp only [sN,s0,sS,a0,aS,aC,AV.cells,hm]
  have w11:=w10.alloc (.cells [.int .i64 0,.int .i64 0,.nilslice,.int .i64 8,.int .i64 0,.slice b5 0 2 2] none 0 [])
  generalize h10.alloc (.cells [.int .i64 0,.int .i64 0,.nilslice,.int .i64 8,.int .i64 0,.slice b5 0 2 2] none 0 []) = h11 at w11 ⊢
  generalize h10.next = b6 at w11 ⊢
  clear w10
  refine Qac ?_
  refine Qae rfl rfl rfl (L.mterm _) (Qan L.term rfl rfl rfl w11.self) ?_ (fun _ _ e=>e.elim)
  rintro v h12 ⟨rfl,u12⟩
  have w12:=w11.call u12
  clear w11 u12
  refine ⟨?_,?_⟩
  ·rfl
  simp only [sN,s0,sS,a0,aS,aC,AV.cells,hm]
  refine Qaf (Qac ?_)
  refine QaD rfl rfl (Qar (l':=[.int .i64 9,.int .i64 0,.slice b6 0 2 2]) (vs:=[.int .i64 9,.int .i64 0,.slice b6 0 2 2]) rfl rfl rfl rfl (w12.get 2 rfl) (by simp) rfl) rfl ?_
  simp only [sN,s0,sS,a0,aS,aC,AV.cells,hm]
  have w13 : Wk _ (h12.put b4 (.cells [.int .i64 9,.int .i64 0,.slice b6 0 2 2] (some 51) 0 [])) [(b6,.cells [.int .i64 0,.int .i64 0,.nilslice,.int .i64 8,.int .i64 0,.slice b5 0 2 2] none 0 []),(b5,.cells [.int .i64 0,.int .i64 1,.nilslice,t0,t1,t2] none 0 []),(b4,.cells [.int .i64 9,.int .i64 0,.slice b6 0 2 2] (some 51) 0 []),(b3,.cells [.int .i64 12,.int .i64 2,.slice b2 0 1 1] (some 51) 0 []),(b2,.cells [t0,t1,t2] none 0 []),(b1,.cells [.int .i64 st,.int .i64 env,.bool out,t0,t1,t2] (some 55) 0 [])]:=w12.put 2 rfl _
  generalize h12.put b4 (.cells [.int .i64 9,.int .i64 0,.slice b6 0 2 2] (some 51) 0 []) = h13 at w13 ⊢
  clear w12
  refine Qaf (Qap (Qat (QaX ?_)))
  refine QaQ (Qaa (R_op rfl rfl rfl (R_op (v:=.int .i64 2) rfl rfl rfl (R_op rfl rfl rfl (R_nil ?_)))))
  simp only [sN,s0,sS,a0,aS,aC,AV.cells,hm]
  refine Qbo (R_seq (R_seq (Qaa (R_op rfl rfl rfl (R_op rfl rfl rfl (R_op rfl rfl rfl (R_nil ?_)))))))
  simp only [sN,s0,sS,a0,aS,aC,AV.cells,hm]
  refine QaM rfl (QaF (R_seq (QaS (QaY (Qaf (Qab rfl rfl (Qad (r:=[.int .i64 9,.int .i64 0,.slice b6 0 2 2]) rfl (w13.get 2 rfl) (by simp) rfl) rfl ?_))))))
  simp only [sN,s0,sS,a0,aS,aC,AV.cells,hm]
  refine Qab rfl rfl rfl rfl (Qab rfl rfl rfl rfl (Qab rfl rfl (Qad (r:=[t0,t1,t2]) rfl (w13.get 5 rfl) (by simp) rfl) rfl (Qac ?_)))
  simp only [sN,s0,sS,a0,aS,aC,AV.cells,hm]
  refine Qae rfl rfl rfl (L.mnum _) (Qba L.num w13.self) ?_ (fun _ _ e=>e.elim)
  rintro v h14 ⟨rfl,u14⟩
  have w14:=w13.call u14
  clear w13 u14
  refine ⟨?_,?_⟩
  ·simp only [sN,s0,sS,a0,aS,aC,List.all_cons,List.all_nil,Bool.and_true,Bool.and_eq_true]
   exact ⟨Qak rfl rfl rfl rfl (Qad (r:=[.int .i64 9,.int .i64 0,.slice b6 0 2 2]) rfl (w14.get 2 rfl) (by simp) rfl) rfl,Qak rfl rfl rfl rfl (Qad (r:=[t0,t1,t2]) rfl (w14.get 5 rfl) (by simp) rfl) rfl⟩
  simp only [sN,s0,sS,a0,aS,aC,AV.cells,hm]
  refine Qaf (Qab rfl rfl (x_two (x0:=.int .i64 0) (x1:=.int .i64 2) (x2:=.nilslice) (y0:=t0) (y1:=t1) (y2:=t2) rfl rfl) rfl ?_)
  simp only [sN,s0,sS,a0,aS,aC,AV.cells,hm]
  have w15:=w14.alloc (.cells [.int .i64 0,.int .i64 2,.nilslice,t0,t1,t2] none 0 [])
  generalize h14.alloc (.cells [.int .i64 0,.int .i64 2,.nilslice,t0,t1,t2] none 0 []) = h15 at w15 ⊢
  generalize h14.next = b7 at w15 ⊢
  clear w14
  refine Qac ?_
  refine Qae rfl rfl rfl (L.mterm _) (Qan L.term rfl rfl rfl w15.self) ?_ (fun _ _ e=>e.elim)
  rintro v h16 ⟨rfl,u16⟩
  have w16:=w15.call u16
  clear w15 u16
  refine ⟨?_,?_⟩
  ·simp only [sN,s0,sS,a0,aS,aC,List.all_cons,List.all_nil,Bool.and_true,Bool.and_eq_true]
   exact Qak rfl rfl rfl rfl (Qad (r:=[.int .i64 9,.int .i64 0,.slice b6 0 2 2]) rfl (w16.get 3 rfl) (by simp) rfl) rfl
  simp only [sN,s0,sS,a0,aS,aC,AV.cells,hm]
  refine Qaf (Qab rfl rfl (x_two (x0:=.int .i64 9) (x1:=.int .i64 0) (x2:=.slice b6 0 2 2) (y0:=.int .i64 8) (y1:=.int .i64 0) (y2:=.slice b7 0 2 2) rfl rfl) rfl ?_)
  simp only [sN,s0,sS,a0,aS,aC,AV.cells,hm]
  have w17:=w16.alloc (.cells [.int .i64 9,.int .i64 0,.slice b6 0 2 2,.int .i64 8,.int .i64 0,.slice b7 0 2 2] none 0 [])
  generalize h16.alloc (.cells [.int .i64 9,.int .i64 0,.slice b6 0 2 2,.int .i64 8,.int .i64 0,.slice b7 0 2 2] none 0 []) = h17 at w17 ⊢
  generalize h16.next = b8 at w17 ⊢
  clear w16
  refine Qac ?_
  refine Qae rfl rfl rfl (L.mterm _) (Qan L.term rfl rfl rfl w17.self) ?_ (fun _ _ e=>e.elim)
  rintro v h18 ⟨rfl,u18⟩
  have w18:=w17.call u18
  clear w17 u18
  refine ⟨?_,?_⟩
  ·rfl
  simp only [sN,s0,sS,a0,aS,aC,AV.cells,hm]
  refine Qaf (Qac ?_)
  refine QaD rfl rfl (Qar (l':=[.int .i64 9,.int .i64 0,.slice b8 0 2 2]) (vs:=[.int .i64 9,.int .i64 0,.slice b8 0 2 2]) rfl rfl rfl rfl (w18.get 4 rfl) (by simp) rfl) rfl ?_
  simp only [sN,s0,sS,a0,aS,aC,AV.cells,hm]
  have w19 : Wk _ (h18.put b4 (.cells [.int .i64 9,.int .i64 0,.slice b8 0 2 2] (some 51) 0 [])) [(b8,.cells [.int .i64 9,.int .i64 0,.slice b6 0 2 2,.int .i64 8,.int .i64 0,.slice b7 0 2 2] none 0 []),(b7,.cells [.int .i64 0,.int .i64 2,.nilslice,t0,t1,t2] none 0 []),(b6,.cells [.int .i64 0,.int .i64 0,.nilslice,.int .i64 8,.int .i64 0,.slice b5 0 2 2] none 0 []),(b5,.cells [.int .i64 0,.int .i64 1,.nilslice,t0,t1,t2] none 0 []),(b4,.cells [.int .i64 9,.int .i64 0,.slice b8 0 2 2] (some 51) 0 []),(b3,.cells [.int .i64 12,.int .i64 2,.slice b2 0 1 1] (some 51) 0 []),(b2,.cells [t0,t1,t2] none 0 []),(b1,.cells [.int .i64 st,.int .i64 env,.bool out,t0,t1,t2] (some 55) 0 [])]:=w18.put 4 rfl _
  generalize h18.put b4 (.cells [.int .i64 9,.int .i64 0,.slice b8 0 2 2] (some 51) 0 []) = h19 at w19 ⊢
  clear w18
  refine Qaf (Qap (Qat (QaX ?_)))
  refine QaQ (Qaa (R_op rfl rfl rfl (R_op (v:=.int .i64 3) rfl rfl rfl (R_op rfl rfl rfl (R_nil ?_)))))
  simp only [sN,s0,sS,a0,aS,aC,AV.cells,hm]
  refine Qbo (R_seq (R_seq (Qaa (R_op rfl rfl rfl (R_op rfl rfl rfl (R_op rfl rfl rfl (R_nil ?_)))))))
  simp only [sN,s0,sS,a0,aS,aC,AV.cells,hm]
  refine Qaw rfl (Qfj rfl (R_seq (Qaa (R_op rfl rfl (Qad (r:=[.int .i64 st,.int .i64 env,.bool out,t0,t1,t2]) rfl (w19.get 7 rfl) (by simp) rfl) (R_op rfl rfl (Qad (r:=[.int .i64 12,.int .i64 2,.slice b2 0 1 1]) rfl (w19.get 5 rfl) (by simp) rfl) (R_op rfl rfl (Qad (r:=[.int .i64 9,.int .i64 0,.slice b8 0 2 2]) rfl (w19.get 4 rfl) (by simp) rfl) (Qau rfl rfl rfl (L.mequal _) (QaI L (Qaz hs) (Qao (Qao (Qam 0 0) (Qao (Qam 0 1) hs)) (Qao (Qam 0 2) hs)) w19.self (Nat.le_refl _) (QaJ (w19.lt 6 rfl) (w19.get 6 rfl) (w19.rep hN hrep)) (QaA (w19.lt 0 rfl) (w19.get 0 rfl) (QaA (w19.lt 2 rfl) (w19.get 2 rfl) (Qas _ _ 0 0) (QaA (w19.lt 3 rfl) (w19.get 3 rfl) (Qas _ _ 0 1) (w19.rep hN hrep))) (QaA (w19.lt 1 rfl) (w19.get 1 rfl) (Qas _ _ 0 2) (w19.rep hN hrep))) (Qgh T env ⟨st,[]⟩ 2 (by omega))) ?_ (fun _ _ e=>e.elim))))))))
  rintro v h20 ⟨rfl,u20⟩
  have w20:=w19.call u20
  clear w19 u20
  simp only [sN,s0,sS,a0,aS,aC,AV.cells,hm]
  refine R_op rfl rfl rfl (QdL rfl rfl rfl hA (hAe _) (R_op rfl rfl rfl (R_op rfl rfl rfl (R_nil ?_))))
  simp only [sN,s0,sS,a0,aS,aC,AV.cells,hm]
  exact R_top ⟨rfl,rfl,rfl,rfl⟩ hF rfl
 ·refine R_seq (Qaa (R_op rfl rfl rfl ?_))
  simp only [sN,s0,sS,a0,aS,aC,AV.cells,hm]
  have w1:=w.alloc (.cells [.int .i64 st,.int .i64 env,.bool out,t0,t1,t2] (some 55) 0 [])
  generalize h.alloc (.cells [.int .i64 st,.int .i64 env,.bool out,t0,t1,t2] (some 55) 0 []) = h1 at w1 ⊢
  generalize h.next = b1 at w1 ⊢
  clear w
  refine R_op rfl rfl rfl (R_nil ?_)
  simp only [sN,s0,sS,a0,aS,aC,AV.cells,hm]
  refine R_seq (Qaa (R_op rfl rfl rfl (R_op rfl rfl rfl (R_op rfl rfl rfl (R_op rfl rfl rfl (R_nil ?_))))))
  simp only [sN,s0,sS,a0,aS,aC,AV.cells,hm]
  refine R_seq (Qaa (R_op rfl rfl rfl (R_op rfl rfl rfl (R_op rfl rfl (Qad (r:=[t0,t1,t2]) rfl (w1.get 0 rfl) (by simp) rfl) (R_op rfl rfl (QbG (x0:=t0) (x1:=t1) (x2:=t2) rfl) ?_)))))
  simp only [sN,s0,sS,a0,aS,aC,AV.cells,hm]
  have w2:=w1.alloc (.cells [t0,t1,t2] none 0 [])
  generalize h1.alloc (.cells [t0,t1,t2] none 0 []) = h2 at w2 ⊢
  generalize h1.next = b2 at w2 ⊢
  clear w1
  refine R_op (v:=.agg [.int .i64 12,.int .i64 3,.slice b2 0 1 1]) (h1:=h2) rfl rfl (by simp [exec,fillA,splice,AV.known,AV.cells,sN,s0,sS,a0,aS,aC]) (R_op rfl rfl rfl ?_)
  simp only [sN,s0,sS,a0,aS,aC,AV.cells,hm]
  have w3:=w2.alloc (.cells [.int .i64 0,.int .i64 0,.nilslice] (some 51) 0 [])
  generalize h2.alloc (.cells [.int .i64 0,.int .i64 0,.nilslice] (some 51) 0 []) = h3 at w3 ⊢
  generalize h2.next = b3 at w3 ⊢
  clear w2
  refine R_op rfl rfl (Qar (l':=[.int .i64 12,.int .i64 3,.slice b2 0 1 1]) (vs:=[.int .i64 12,.int .i64 3,.slice b2 0 1 1]) rfl rfl rfl rfl (w3.get 0 rfl) (by simp) rfl) ?_
  simp only [sN,s0,sS,a0,aS,aC,AV.cells,hm]
  have w4 : Wk _ (h3.put b3 (.cells [.int .i64 12,.int .i64 3,.slice b2 0 1 1] (some 51) 0 [])) [(b3,.cells [.int .i64 12,.int .i64 3,.slice b2 0 1 1] (some 51) 0 []),(b2,.cells [t0,t1,t2] none 0 []),(b1,.cells [.int .i64 st,.int .i64 env,.bool out,t0,t1,t2] (some 55) 0 [])]:=w3.put 0 rfl _
  generalize h3.put b3 (.cells [.int .i64 12,.int .i64 3,.slice b2 0 1 1] (some 51) 0 []) = h4 at w4 ⊢
  clear w3
  refine R_nil ?_
  refine R_seq (Qaa (Qau rfl rfl rfl (L.mnum _) (Qba L.num w4.self) ?_ (fun _ _ e=>e.elim)))
  rintro v h5 ⟨rfl,u5⟩
  have w5:=w4.call u5
  clear w4 u5
  simp only [sN,s0,sS,a0,aS,aC,AV.cells,hm]
  refine R_op rfl rfl rfl ?_
  simp only [sN,s0,sS,a0,aS,aC,AV.cells,hm]
  have w6:=w5.alloc (.cells [.int .i64 0,.int .i64 0,.nilslice] (some 51) 0 [])
  generalize h5.alloc (.cells [.int .i64 0,.int .i64 0,.nilslice] (some 51) 0 []) = h6 at w6 ⊢
  generalize h5.next = b4 at w6 ⊢
  clear w5
  refine R_op rfl rfl (Qar (l':=[.int .i64 0,.int .i64 0,.nilslice]) (vs:=[.int .i64 0,.int .i64 0,.nilslice]) rfl rfl rfl rfl (w6.get 0 rfl) (by simp) rfl) ?_
  simp only [sN,s0,sS,a0,aS,aC,AV.cells,hm]
  have w7 : Wk _ (h6.put b4 (.cells [.int .i64 0,.int .i64 0,.nilslice] (some 51) 0 [])) [(b4,.cells [.int .i64 0,.int .i64 0,.nilslice] (some 51) 0 []),(b3,.cells [.int .i64 12,.int .i64 3,.slice b2 0 1 1] (some 51) 0 []),(b2,.cells [t0,t1,t2] none 0 []),(b1,.cells [.int .i64 st,.int .i64 env,.bool out,t0,t1,t2] (some 55) 0 [])]:=w6.put 0 rfl _
  generalize h6.put b4 (.cells [.int .i64 0,.int .i64 0,.nilslice] (some 51) 0 []) = h7 at w7 ⊢
  clear w6
  refine R_nil ?_
  refine R_seq (R_seq (Qaa (R_op rfl rfl rfl (R_nil ?_))))
  simp only [sN,s0,sS,a0,aS,aC,AV.cells,hm]
  refine QaS (QeH (R_seq (R_seq (Qaa (R_op rfl rfl rfl (R_op rfl rfl rfl ?_))))))
  simp only [sN,s0,sS,a0,aS,aC,AV.cells,hm]
  refine R_op rfl rfl rfl (R_nil ?_)
  simp only [sN,s0,sS,a0,aS,aC,AV.cells,hm]
  refine QaM rfl (QaF (R_seq (QaS (QaY (Qaf (Qab rfl rfl (Qad (r:=[.int .i64 0,.int .i64 0,.nilslice]) rfl (w7.get 0 rfl) (by simp) rfl) rfl ?_))))))
  simp only [sN,s0,sS,a0,aS,aC,AV.cells,hm]
  refine Qab rfl rfl rfl rfl (Qab rfl rfl rfl rfl (Qab rfl rfl (Qad (r:=[t0,t1,t2]) rfl (w7.get 3 rfl) (by simp) rfl) rfl (Qac ?_)))
  simp only [sN,s0,sS,a0,aS,aC,AV.cells,hm]
  refine Qae rfl rfl rfl (L.mnum _) (Qba L.num w7.self) ?_ (fun _ _ e=>e.elim)
  rintro v h8 ⟨rfl,u8⟩
  have w8:=w7.call u8
  clear w7 u8
  refine ⟨?_,?_⟩
  ·simp only [sN,s0,sS,a0,aS,aC,List.all_cons,List.all_nil,Bool.and_true,Bool.and_eq_true]
   exact ⟨Qak rfl rfl rfl rfl (Qad (r:=[.int .i64 0,.int .i64 0,.nilslice]) rfl (w8.get 0 rfl) (by simp) rfl) rfl,Qak rfl rfl rfl rfl (Qad (r:=[t0,t1,t2]) rfl (w8.get 3 rfl) (by simp) rfl) rfl⟩
  simp only [sN,s0,sS,a0,aS,aC,AV.cells,hm]
  refine Qaf (Qab rfl rfl (x_two (x0:=.int .i64 0) (x1:=.int .i64 1) (x2:=.nilslice) (y0:=t0) (y1:=t1) (y2:=t2) rfl rfl) rfl ?_)
  simp only [sN,s0,sS,a0,aS,aC,AV.cells,hm]
  have w9:=w8.alloc (.cells [.int .i64 0,.int .i64 1,.nilslice,t0,t1,t2] none 0 [])
  generalize h8.alloc (.cells [.int .i64 0,.int .i64 1,.nilslice,t0,t1,t2] none 0 []) = h9 at w9 ⊢
  generalize h8.next = b5 at w9 ⊢
  clear w8
  refine Qac ?_
  refine Qae rfl rfl rfl (L.mterm _) (Qan L.term rfl rfl rfl w9.self) ?_ (fun _ _ e=>e.elim)
  rintro v h10 ⟨rfl,u10⟩
  have w10:=w9.call u10
  clear w9 u10
  refine ⟨?_,?_⟩
  ·simp only [sN,s0,sS,a0,aS,aC,List.all_cons,List.all_nil,Bool.and_true,Bool.and_eq_true]
   exact Qak rfl rfl rfl rfl (Qad (r:=[.int .i64 0,.int .i64 0,.nilslice]) rfl (w10.get 1 rfl) (by simp) rfl) rfl
  simp only [sN,s0,sS,a0,aS,aC,AV.cells,hm]
  refine Qaf (Qab rfl rfl (x_two (x0:=.int .i64 0) (x1:=.int .i64 0) (x2:=.nilslice) (y0:=.int .i64 8) (y1:=.int .i64 0) (y2:=.slice b5 0 2 2) rfl rfl) rfl ?_)
  simp only [sN,s0,sS,a0,aS,aC,AV.cells,hm]
  have w11:=w10.alloc (.cells [.int .i64 0,.int .i64 0,.nilslice,.int .i64 8,.int .i64 0,.slice b5 0 2 2] none 0 [])
  generalize h10.alloc (.cells [.int .i64 0,.int .i64 0,.nilslice,.int .i64 8,.int .i64 0,.slice b5 0 2 2] none 0 []) = h11 at w11 ⊢
  generalize h10.next = b6 at w11 ⊢
  clear w10
  refine Qac ?_
  refine Qae rfl rfl rfl (L.mterm _) (Qan L.term rfl rfl rfl w11.self) ?_ (fun _ _ e=>e.elim)
  rintro v h12 ⟨rfl,u12⟩
  have w12:=w11.call u12
  clear w11 u12
  refine ⟨?_,?_⟩
  ·rfl
  simp only [sN,s0,sS,a0,aS,aC,AV.cells,hm]
  refine Qaf (Qac ?_)
  refine QaD rfl rfl (Qar (l':=[.int .i64 9,.int .i64 0,.slice b6 0 2 2]) (vs:=[.int .i64 9,.int .i64 0,.slice b6 0 2 2]) rfl rfl rfl rfl (w12.get 2 rfl) (by simp) rfl) rfl ?_
  simp only [sN,s0,sS,a0,aS,aC,AV.cells,hm]
  have w13 : Wk _ (h12.put b4 (.cells [.int .i64 9,.int .i64 0,.slice b6 0 2 2] (some 51) 0 [])) [(b6,.cells [.int .i64 0,.int .i64 0,.nilslice,.int .i64 8,.int .i64 0,.slice b5 0 2 2] none 0 []),(b5,.cells [.int .i64 0,.int .i64 1,.nilslice,t0,t1,t2] none 0 []),(b4,.cells [.int .i64 9,.int .i64 0,.slice b6 0 2 2] (some 51) 0 []),(b3,.cells [.int .i64 12,.int .i64 3,.slice b2 0 1 1] (some 51) 0 []),(b2,.cells [t0,t1,t2] none 0 []),(b1,.cells [.int .i64 st,.int .i64 env,.bool out,t0,t1,t2] (some 55) 0 [])]:=w12.put 2 rfl _
  generalize h12.put b4 (.cells [.int .i64 9,.int .i64 0,.slice b6 0 2 2] (some 51) 0 []) = h13 at w13 ⊢
  clear w12
  refine Qaf (Qap (Qat (QaX ?_)))
  refine QaQ (Qaa (R_op rfl rfl rfl (R_op (v:=.int .i64 2) rfl rfl rfl (R_op rfl rfl rfl (R_nil ?_)))))
  simp only [sN,s0,sS,a0,aS,aC,AV.cells,hm]
  refine Qbo (R_seq (R_seq (Qaa (R_op rfl rfl rfl (R_op rfl rfl rfl (R_op rfl rfl rfl (R_nil ?_)))))))
  simp only [sN,s0,sS,a0,aS,aC,AV.cells,hm]
  refine QaM rfl (QaF (R_seq (QaS (QaY (Qaf (Qab rfl rfl (Qad (r:=[.int .i64 9,.int .i64 0,.slice b6 0 2 2]) rfl (w13.get 2 rfl) (by simp) rfl) rfl ?_))))))
  simp only [sN,s0,sS,a0,aS,aC,AV.cells,hm]
  refine Qab rfl rfl rfl rfl (Qab rfl rfl rfl rfl (Qab rfl rfl (Qad (r:=[t0,t1,t2]) rfl (w13.get 5 rfl) (by simp) rfl) rfl (Qac ?_)))
  simp only [sN,s0,sS,a0,aS,aC,AV.cells,hm]
  refine Qae rfl rfl rfl (L.mnum _) (Qba L.num w13.self) ?_ (fun _ _ e=>e.elim)
  rintro v h14 ⟨rfl,u14⟩
  have w14:=w13.call u14
  clear w13 u14
  refine ⟨?_,?_⟩
  ·simp only [sN,s0,sS,a0,aS,aC,List.all_cons,List.all_nil,Bool.and_true,Bool.and_eq_true]
   exact ⟨Qak rfl rfl rfl rfl (Qad (r:=[.int .i64 9,.int .i64 0,.slice b6 0 2 2]) rfl (w14.get 2 rfl) (by simp) rfl) rfl,Qak rfl rfl rfl rfl (Qad (r:=[t0,t1,t2]) rfl (w14.get 5 rfl) (by simp) rfl) rfl⟩
  simp only [sN,s0,sS,a0,aS,aC,AV.cells,hm]
  refine Qaf (Qab rfl rfl (x_two (x0:=.int .i64 0) (x1:=.int .i64 2) (x2:=.nilslice) (y0:=t0) (y1:=t1) (y2:=t2) rfl rfl) rfl ?_)
  simp only [sN,s0,sS,a0,aS,aC,AV.cells,hm]
  have w15:=w14.alloc (.cells [.int .i64 0,.int .i64 2,.nilslice,t0,t1,t2] none 0 [])
  generalize h14.alloc (.cells [.int .i64 0,.int .i64 2,.nilslice,t0,t1,t2] none 0 []) = h15 at w15 ⊢
  generalize h14.next = b7 at w15 ⊢
  clear w14
  refine Qac ?_
  refine Qae rfl rfl rfl (L.mterm _) (Qan L.term rfl rfl rfl w15.self) ?_ (fun _ _ e=>e.elim)
  rintro v h16 ⟨rfl,u16⟩
  have w16:=w15.call u16
  clear w15 u16
  refine ⟨?_,?_⟩
  ·simp only [sN,s0,sS,a0,aS,aC,List.all_cons,List.all_nil,Bool.and_true,Bool.and_eq_true]
   exact Qak rfl rfl rfl rfl (Qad (r:=[.int .i64 9,.int .i64 0,.slice b6 0 2 2]) rfl (w16.get 3 rfl) (by simp) rfl) rfl
  simp only [sN,s0,sS,a0,aS,aC,AV.cells,hm]
  refine Qaf (Qab rfl rfl (x_two (x0:=.int .i64 9) (x1:=.int .i64 0) (x2:=.slice b6 0 2 2) (y0:=.int .i64 8) (y1:=.int .i64 0) (y2:=.slice b7 0 2 2) rfl rfl) rfl ?_)
  simp only [sN,s0,sS,a0,aS,aC,AV.cells,hm]
  have w17:=w16.alloc (.cells [.int .i64 9,.int .i64 0,.slice b6 0 2 2,.int .i64 8,.int .i64 0,.slice b7 0 2 2] none 0 [])
  generalize h16.alloc (.cells [.int .i64 9,.int .i64 0,.slice b6 0 2 2,.int .i64 8,.int .i64 0,.slice b7 0 2 2] none 0 []) = h17 at w17 ⊢
  generalize h16.next = b8 at w17 ⊢
  clear w16
  refine Qac ?_
  refine Qae rfl rfl rfl (L.mterm _) (Qan L.term rfl rfl rfl w17.self) ?_ (fun _ _ e=>e.elim)
  rintro v h18 ⟨rfl,u18⟩
  have w18:=w17.call u18
  clear w17 u18
  refine ⟨?_,?_⟩
  ·rfl
  simp only [sN,s0,sS,a0,aS,aC,AV.cells,hm]
  refine Qaf (Qac ?_)
  refine QaD rfl rfl (Qar (l':=[.int .i64 9,.int .i64 0,.slice b8 0 2 2]) (vs:=[.int .i64 9,.int .i64 0,.slice b8 0 2 2]) rfl rfl rfl rfl (w18.get 4 rfl) (by simp) rfl) rfl ?_
  simp only [sN,s0,sS,a0,aS,aC,AV.cells,hm]
  have w19 : Wk _ (h18.put b4 (.cells [.int .i64 9,.int .i64 0,.slice b8 0 2 2] (some 51) 0 [])) [(b8,.cells [.int .i64 9,.int .i64 0,.slice b6 0 2 2,.int .i64 8,.int .i64 0,.slice b7 0 2 2] none 0 []),(b7,.cells [.int .i64 0,.int .i64 2,.nilslice,t0,t1,t2] none 0 []),(b6,.cells [.int .i64 0,.int .i64 0,.nilslice,.int .i64 8,.int .i64 0,.slice b5 0 2 2] none 0 []),(b5,.cells [.int .i64 0,.int .i64 1,.nilslice,t0,t1,t2] none 0 []),(b4,.cells [.int .i64 9,.int .i64 0,.slice b8 0 2 2] (some 51) 0 []),(b3,.cells [.int .i64 12,.int .i64 3,.slice b2 0 1 1] (some 51) 0 []),(b2,.cells [t0,t1,t2] none 0 []),(b1,.cells [.int .i64 st,.int .i64 env,.bool out,t0,t1,t2] (some 55) 0 [])]:=w18.put 4 rfl _
  generalize h18.put b4 (.cells [.int .i64 9,.int .i64 0,.slice b8 0 2 2] (some 51) 0 []) = h19 at w19 ⊢
  clear w18
  refine Qaf (Qap (Qat (QaX ?_)))
  refine QaQ (Qaa (R_op rfl rfl rfl (R_op (v:=.int .i64 3) rfl rfl rfl (R_op rfl rfl rfl (R_nil ?_)))))
  simp only [sN,s0,sS,a0,aS,aC,AV.cells,hm]
  refine Qbo (R_seq (R_seq (Qaa (R_op rfl rfl rfl (R_op rfl rfl rfl (R_op rfl rfl rfl (R_nil ?_)))))))
  simp only [sN,s0,sS,a0,aS,aC,AV.cells,hm]
  refine QaM rfl (QaF (R_seq (QaS (QaY (Qaf (Qab rfl rfl (Qad (r:=[.int .i64 9,.int .i64 0,.slice b8 0 2 2]) rfl (w19.get 4 rfl) (by simp) rfl) rfl ?_))))))
  simp only [sN,s0,sS,a0,aS,aC,AV.cells,hm]
  refine Qab rfl rfl rfl rfl (Qab rfl rfl rfl rfl (Qab rfl rfl (Qad (r:=[t0,t1,t2]) rfl (w19.get 7 rfl) (by simp) rfl) rfl (Qac ?_)))
  simp only [sN,s0,sS,a0,aS,aC,AV.cells,hm]
  refine Qae rfl rfl rfl (L.mnum _) (Qba L.num w19.self) ?_ (fun _ _ e=>e.elim)
  rintro v h20 ⟨rfl,u20⟩
  have w20:=w19.call u20
  clear w19 u20
  refine ⟨?_,?_⟩
  ·simp only [sN,s0,sS,a0,aS,aC,List.all_cons,List.all_nil,Bool.and_true,Bool.and_eq_true]
   exact ⟨Qak rfl rfl rfl rfl (Qad (r:=[.int .i64 9,.int .i64 0,.slice b8 0 2 2]) rfl (w20.get 4 rfl) (by simp) rfl) rfl,Qak rfl rfl rfl rfl (Qad (r:=[t0,t1,t2]) rfl (w20.get 7 rfl) (by simp) rfl) rfl⟩
  simp only [sN,s0,sS,a0,aS,aC,AV.cells,hm]
  refine Qaf (Qab rfl rfl (x_two (x0:=.int .i64 0) (x1:=.int .i64 3) (x2:=.nilslice) (y0:=t0) (y1:=t1) (y2:=t2) rfl rfl) rfl ?_)
  simp only [sN,s0,sS,a0,aS,aC,AV.cells,hm]
  have w21:=w20.alloc (.cells [.int .i64 0,.int .i64 3,.nilslice,t0,t1,t2] none 0 [])
  generalize h20.alloc (.cells [.int .i64 0,.int .i64 3,.nilslice,t0,t1,t2] none 0 []) = h21 at w21 ⊢
  generalize h20.next = b9 at w21 ⊢
  clear w20
  refine Qac ?_
  refine Qae rfl rfl rfl (L.mterm _) (Qan L.term rfl rfl rfl w21.self) ?_ (fun _ _ e=>e.elim)
  rintro v h22 ⟨rfl,u22⟩
  have w22:=w21.call u22
  clear w21 u22
  refine ⟨?_,?_⟩
  ·simp only [sN,s0,sS,a0,aS,aC,List.all_cons,List.all_nil,Bool.and_true,Bool.and_eq_true]
   exact Qak rfl rfl rfl rfl (Qad (r:=[.int .i64 9,.int .i64 0,.slice b8 0 2 2]) rfl (w22.get 5 rfl) (by simp) rfl) rfl
  simp only [sN,s0,sS,a0,aS,aC,AV.cells,hm]
  refine Qaf (Qab rfl rfl (x_two (x0:=.int .i64 9) (x1:=.int .i64 0) (x2:=.slice b8 0 2 2) (y0:=.int .i64 8) (y1:=.int .i64 0) (y2:=.slice b9 0 2 2) rfl rfl) rfl ?_)
  simp only [sN,s0,sS,a0,aS,aC,AV.cells,hm]
  have w23:=w22.alloc (.cells [.int .i64 9,.int .i64 0,.slice b8 0 2 2,.int .i64 8,.int .i64 0,.slice b9 0 2 2] none 0 [])
  generalize h22.alloc (.cells [.int .i64 9,.int .i64 0,.slice b8 0 2 2,.int .i64 8,.int .i64 0,.slice b9 0 2 2] none 0 []) = h23 at w23 ⊢
  generalize h22.next = b10 at w23 ⊢
  clear w22
  refine Qac ?_
  refine Qae rfl rfl rfl (L.mterm _) (Qan L.term rfl rfl rfl w23.self) ?_ (fun _ _ e=>e.elim)
  rintro v h24 ⟨rfl,u24⟩
  have w24:=w23.call u24
  clear w23 u24
  refine ⟨?_,?_⟩
  ·rfl
  simp only [sN,s0,sS,a0,aS,aC,AV.cells,hm]
  refine Qaf (Qac ?_)
  refine QaD rfl rfl (Qar (l':=[.int .i64 9,.int .i64 0,.slice b10 0 2 2]) (vs:=[.int .i64 9,.int .i64 0,.slice b10 0 2 2]) rfl rfl rfl rfl (w24.get 6 rfl) (by simp) rfl) rfl ?_
  simp only [sN,s0,sS,a0,aS,aC,AV.cells,hm]
  have w25 : Wk _ (h24.put b4 (.cells [.int .i64 9,.int .i64 0,.slice b10 0 2 2] (some 51) 0 [])) [(b10,.cells [.int .i64 9,.int .i64 0,.slice b8 0 2 2,.int .i64 8,.int .i64 0,.slice b9 0 2 2] none 0 []),(b9,.cells [.int .i64 0,.int .i64 3,.nilslice,t0,t1,t2] none 0 []),(b8,.cells [.int .i64 9,.int .i64 0,.slice b6 0 2 2,.int .i64 8,.int .i64 0,.slice b7 0 2 2] none 0 []),(b7,.cells [.int .i64 0,.int .i64 2,.nilslice,t0,t1,t2] none 0 []),(b6,.cells [.int .i64 0,.int .i64 0,.nilslice,.int .i64 8,.int .i64 0,.slice b5 0 2 2] none 0 []),(b5,.cells [.int .i64 0,.int .i64 1,.nilslice,t0,t1,t2] none 0 []),(b4,.cells [.int .i64 9,.int .i64 0,.slice b10 0 2 2] (some 51) 0 []),(b3,.cells [.int .i64 12,.int .i64 3,.slice b2 0 1 1] (some 51) 0 []),(b2,.cells [t0,t1,t2] none 0 []),(b1,.cells [.int .i64 st,.int .i64 env,.bool out,t0,t1,t2] (some 55) 0 [])]:=w24.put 6 rfl _
  generalize h24.put b4 (.cells [.int .i64 9,.int .i64 0,.slice b10 0 2 2] (some 51) 0 []) = h25 at w25 ⊢
  clear w24
  refine Qaf (Qap (Qat (QaX ?_)))
  refine QaQ (Qaa (R_op rfl rfl rfl (R_op (v:=.int .i64 4) rfl rfl rfl (R_op rfl rfl rfl (R_nil ?_)))))
  simp only [sN,s0,sS,a0,aS,aC,AV.cells,hm]
  refine Qbo (R_seq (R_seq (Qaa (R_op rfl rfl rfl (R_op rfl rfl rfl (R_op rfl rfl rfl (R_nil ?_)))))))
  simp only [sN,s0,sS,a0,aS,aC,AV.cells,hm]
  refine Qaw rfl (Qfj rfl (R_seq (Qaa (R_op rfl rfl (Qad (r:=[.int .i64 st,.int .i64 env,.bool out,t0,t1,t2]) rfl (w25.get 9 rfl) (by simp) rfl) (R_op rfl rfl (Qad (r:=[.int .i64 12,.int .i64 3,.slice b2 0 1 1]) rfl (w25.get 7 rfl) (by simp) rfl) (R_op rfl rfl (Qad (r:=[.int .i64 9,.int .i64 0,.slice b10 0 2 2]) rfl (w25.get 6 rfl) (by simp) rfl) (Qau rfl rfl rfl (L.mequal _) (QaI L (Qaz hs) (Qao (Qao (Qao (Qam 0 0) (Qao (Qam 0 1) hs)) (Qao (Qam 0 2) hs)) (Qao (Qam 0 3) hs)) w25.self (Nat.le_refl _) (QaJ (w25.lt 8 rfl) (w25.get 8 rfl) (w25.rep hN hrep)) (QaA (w25.lt 0 rfl) (w25.get 0 rfl) (QaA (w25.lt 2 rfl) (w25.get 2 rfl) (QaA (w25.lt 4 rfl) (w25.get 4 rfl) (Qas _ _ 0 0) (QaA (w25.lt 5 rfl) (w25.get 5 rfl) (Qas _ _ 0 1) (w25.rep hN hrep))) (QaA (w25.lt 3 rfl) (w25.get 3 rfl) (Qas _ _ 0 2) (w25.rep hN hrep))) (QaA (w25.lt 1 rfl) (w25.get 1 rfl) (Qas _ _ 0 3) (w25.rep hN hrep))) (Qgh T env ⟨st,[]⟩ 3 (by omega))) ?_ (fun _ _ e=>e.elim))))))))
  rintro v h26 ⟨rfl,u26⟩
  have w26:=w25.call u26
  clear w25 u26
  simp only [sN,s0,sS,a0,aS,aC,AV.cells,hm]
  refine R_op rfl rfl rfl (QdL rfl rfl rfl hA (hAe _) (R_op rfl rfl rfl (R_op rfl rfl rfl (R_nil ?_))))
  simp only [sN,s0,sS,a0,aS,aC,AV.cells,hm]
  exact R_top ⟨rfl,rfl,rfl,rfl⟩ hF rfl
 ·refine R_seq (Qaa (R_op rfl rfl rfl ?_))
  simp only [sN,s0,sS,a0,aS,aC,AV.cells,hm]
  have w1:=w.alloc (.cells [.int .i64 st,.int .i64 env,.bool out,t0,t1,t2] (some 55) 0 [])
  generalize h.alloc (.cells [.int .i64 st,.int .i64 env,.bool out,t0,t1,t2] (some 55) 0 []) = h1 at w1 ⊢
  generalize h.next = b1 at w1 ⊢
  clear w
  refine R_op rfl rfl rfl (R_nil ?_)
  simp only [sN,s0,sS,a0,aS,aC,AV.cells,hm]
  refine R_seq (Qaa (R_op rfl rfl rfl (R_op rfl rfl rfl (R_op rfl rfl rfl (R_op rfl rfl rfl (R_nil ?_))))))
  simp only [sN,s0,sS,a0,aS,aC,AV.cells,hm]
  refine R_seq (Qaa (R_op rfl rfl rfl (R_op rfl rfl rfl (R_op rfl rfl (Qad (r:=[t0,t1,t2]) rfl (w1.get 0 rfl) (by simp) rfl) (R_op rfl rfl (QbG (x0:=t0) (x1:=t1) (x2:=t2) rfl) ?_)))))
  simp only [sN,s0,sS,a0,aS,aC,AV.cells,hm]
  have w2:=w1.alloc (.cells [t0,t1,t2] none 0 [])
  generalize h1.alloc (.cells [t0,t1,t2] none 0 []) = h2 at w2 ⊢
  generalize h1.next = b2 at w2 ⊢
  clear w1
  refine R_op (v:=.agg [.int .i64 12,.int .i64 4,.slice b2 0 1 1]) (h1:=h2) rfl rfl (by simp [exec,fillA,splice,AV.known,AV.cells,sN,s0,sS,a0,aS,aC]) (R_op rfl rfl rfl ?_)
  simp only [sN,s0,sS,a0,aS,aC,AV.cells,hm]
  have w3:=w2.alloc (.cells [.int .i64 0,.int .i64 0,.nilslice] (some 51) 0 [])
  generalize h2.alloc (.cells [.int .i64 0,.int .i64 0,.nilslice] (some 51) 0 []) = h3 at w3 ⊢
  generalize h2.next = b3 at w3 ⊢
  clear w2
  refine R_op rfl rfl (Qar (l':=[.int .i64 12,.int .i64 4,.slice b2 0 1 1]) (vs:=[.int .i64 12,.int .i64 4,.slice b2 0 1 1]) rfl rfl rfl rfl (w3.get 0 rfl) (by simp) rfl) ?_
  simp only [sN,s0,sS,a0,aS,aC,AV.cells,hm]
  have w4 : Wk _ (h3.put b3 (.cells [.int .i64 12,.int .i64 4,.slice b2 0 1 1] (some 51) 0 [])) [(b3,.cells [.int .i64 12,.int .i64 4,.slice b2 0 1 1] (some 51) 0 []),(b2,.cells [t0,t1,t2] none 0 []),(b1,.cells [.int .i64 st,.int .i64 env,.bool out,t0,t1,t2] (some 55) 0 [])]:=w3.put 0 rfl _
  generalize h3.put b3 (.cells [.int .i64 12,.int .i64 4,.slice b2 0 1 1] (some 51) 0 []) = h4 at w4 ⊢
  clear w3
  refine R_nil ?_
  refine R_seq (Qaa (Qau rfl rfl rfl (L.mnum _) (Qba L.num w4.self) ?_ (fun _ _ e=>e.elim)))
  rintro v h5 ⟨rfl,u5⟩
  have w5:=w4.call u5
  clear w4 u5
  simp only [sN,s0,sS,a0,aS,aC,AV.cells,hm]
  refine R_op rfl rfl rfl ?_
  simp only [sN,s0,sS,a0,aS,aC,AV.cells,hm]
  have w6:=w5.alloc (.cells [.int .i64 0,.int .i64 0,.nilslice] (some 51) 0 [])
  generalize h5.alloc (.cells [.int .i64 0,.int .i64 0,.nilslice] (some 51) 0 []) = h6 at w6 ⊢
  generalize h5.next = b4 at w6 ⊢
  clear w5
  refine R_op rfl rfl (Qar (l':=[.int .i64 0,.int .i64 0,.nilslice]) (vs:=[.int .i64 0,.int .i64 0,.nilslice]) rfl rfl rfl rfl (w6.get 0 rfl) (by simp) rfl) ?_
  simp only [sN,s0,sS,a0,aS,aC,AV.cells,hm]
  have w7 : Wk _ (h6.put b4 (.cells [.int .i64 0,.int .i64 0,.nilslice] (some 51) 0 [])) [(b4,.cells [.int .i64 0,.int .i64 0,.nilslice] (some 51) 0 []),(b3,.cells [.int .i64 12,.int .i64 4,.slice b2 0 1 1] (some 51) 0 []),(b2,.cells [t0,t1,t2] none 0 []),(b1,.cells [.int .i64 st,.int .i64 env,.bool out,t0,t1,t2] (some 55) 0 [])]:=w6.put 0 rfl _
  generalize h6.put b4 (.cells [.int .i64 0,.int .i64 0,.nilslice] (some 51) 0 []) = h7 at w7 ⊢
  clear w6
  refine R_nil ?_
  refine R_seq (R_seq (Qaa (R_op rfl rfl rfl (R_nil ?_))))
  simp only [sN,s0,sS,a0,aS,aC,AV.cells,hm]
  refine QaS (QeH (R_seq (R_seq (Qaa (R_op rfl rfl rfl (R_op rfl rfl rfl ?_))))))
  simp only [sN,s0,sS,a0,aS,aC,AV.cells,hm]
  refine R_op rfl rfl rfl (R_nil ?_)
  simp only [sN,s0,sS,a0,aS,aC,AV.cells,hm]
  refine QaM rfl (QaF (R_seq (QaS (QaY (Qaf (Qab rfl rfl (Qad (r:=[.int .i64 0,.int .i64 0,.nilslice]) rfl (w7.get 0 rfl) (by simp) rfl) rfl ?_))))))
  simp only [sN,s0,sS,a0,aS,aC,AV.cells,hm]
  refine Qab rfl rfl rfl rfl (Qab rfl rfl rfl rfl (Qab rfl rfl (Qad (r:=[t0,t1,t2]) rfl (w7.get 3 rfl) (by simp) rfl) rfl (Qac ?_)))
  simp only [sN,s0,sS,a0,aS,aC,AV.cells,hm]
  refine Qae rfl rfl rfl (L.mnum _) (Qba L.num w7.self) ?_ (fun _ _ e=>e.elim)
  rintro v h8 ⟨rfl,u8⟩
  have w8:=w7.call u8
  clear w7 u8
  refine ⟨?_,?_⟩
  ·simp only [sN,s0,sS,a0,aS,aC,List.all_cons,List.all_nil,Bool.and_true,Bool.and_eq_true]
   exact ⟨Qak rfl rfl rfl rfl (Qad (r:=[.int .i64 0,.int .i64 0,.nilslice]) rfl (w8.get 0 rfl) (by simp) rfl) rfl,Qak rfl rfl rfl rfl (Qad (r:=[t0,t1,t2]) rfl (w8.get 3 rfl) (by simp) rfl) rfl⟩
  simp only [sN,s0,sS,a0,aS,aC,AV.cells,hm]
  refine Qaf (Qab rfl rfl (x_two (x0:=.int .i64 0) (x1:=.int .i64 1) (x2:=.nilslice) (y0:=t0) (y1:=t1) (y2:=t2) rfl rfl) rfl ?_)
  simp only [sN,s0,sS,a0,aS,aC,AV.cells,hm]
  have w9:=w8.alloc (.cells [.int .i64 0,.int .i64 1,.nilslice,t0,t1,t2] none 0 [])
  generalize h8.alloc (.cells [.int .i64 0,.int .i64 1,.nilslice,t0,t1,t2] none 0 []) = h9 at w9 ⊢
  generalize h8.next = b5 at w9 ⊢
  clear w8
  refine Qac ?_
  refine Qae rfl rfl rfl (L.mterm _) (Qan L.term rfl rfl rfl w9.self) ?_ (fun _ _ e=>e.elim)
  rintro v h10 ⟨rfl,u10⟩
  have w10:=w9.call u10
  clear w9 u10
  refine ⟨?_,?_⟩
  ·simp only [sN,s0,sS,a0,aS,aC,List.all_cons,List.all_nil,Bool.and_true,Bool.and_eq_true]
   exact Qak rfl rfl rfl rfl (Qad (r:=[.int .i64 0,.int .i64 0,.nilslice]) rfl (w10.get 1 rfl) (by simp) rfl) rfl
  simp only [sN,s0,sS,a0,aS,aC,AV.cells,hm]
  refine Qaf (Qab rfl rfl (x_two (x0:=.int .i64 0) (x1:=.int .i64 0) (x2:=.nilslice) (y0:=.int .i64 8) (y1:=.int .i64 0) (y2:=.slice b5 0 2 2) rfl rfl) rfl ?_)
  simp only [sN,s0,sS,a0,aS,aC,AV.cells,hm]
  have w11:=w10.alloc (.cells [.int .i64 0,.int .i64 0,.nilslice,.int .i64 8,.int .i64 0,.slice b5 0 2 2] none 0 [])
  generalize h10.alloc (.cells [.int .i64 0,.int .i64 0,.nilslice,.int .i64 8,.int .i64 0,.slice b5 0 2 2] none 0 []) = h11 at w11 ⊢
  generalize h10.next = b6 at w11 ⊢
  clear w10
  refine Qac ?_
  refine Qae rfl rfl rfl (L.mterm _) (Qan L.term rfl rfl rfl w11.self) ?_ (fun _ _ e=>e.elim)
  rintro v h12 ⟨rfl,u12⟩
  have w12:=w11.call u12
  clear w11 u12
  refine ⟨?_,?_⟩
  ·rfl
  simp only [sN,s0,sS,a0,aS,aC,AV.cells,hm]
  refine Qaf (Qac ?_)
  refine QaD rfl rfl (Qar (l':=[.int .i64 9,.int .i64 0,.slice b6 0 2 2]) (vs:=[.int .i64 9,.int .i64 0,.slice b6 0 2 2]) rfl rfl rfl rfl (w12.get 2 rfl) (by simp) rfl) rfl ?_
  simp only [sN,s0,sS,a0,aS,aC,AV.cells,hm]
  have w13 : Wk _ (h12.put b4 (.cells [.int .i64 9,.int .i64 0,.slice b6 0 2 2] (some 51) 0 [])) [(b6,.cells [.int .i64 0,.int .i64 0,.nilslice,.int .i64 8,.int .i64 0,.slice b5 0 2 2] none 0 []),(b5,.cells [.int .i64 0,.int .i64 1,.nilslice,t0,t1,t2] none 0 []),(b4,.cells [.int .i64 9,.int .i64 0,.slice b6 0 2 2] (some 51) 0 []),(b3,.cells [.int .i64 12,.int .i64 4,.slice b2 0 1 1] (some 51) 0 []),(b2,.cells [t0,t1,t2] none 0 []),(b1,.cells [.int .i64 st,.int .i64 env,.bool out,t0,t1,t2] (some 55) 0 [])]:=w12.put 2 rfl _
  generalize h12.put b4 (.cells [.int .i64 9,.int .i64 0,.slice b6 0 2 2] (some 51) 0 []) = h13 at w13 ⊢
  clear w12
  refine Qaf (Qap (Qat (QaX ?_)))
  refine QaQ (Qaa (R_op rfl rfl rfl (R_op (v:=.int .i64 2) rfl rfl rfl (R_op rfl rfl rfl (R_nil ?_)))))
  simp only [sN,s0,sS,a0,aS,aC,AV.cells,hm]
  refine Qbo (R_seq (R_seq (Qaa (R_op rfl rfl rfl (R_op rfl rfl rfl (R_op rfl rfl rfl (R_nil ?_)))))))
  simp only [sN,s0,sS,a0,aS,aC,AV.cells,hm]
  refine QaM rfl (QaF (R_seq (QaS (QaY (Qaf (Qab rfl rfl (Qad (r:=[.int .i64 9,.int .i64 0,.slice b6 0 2 2]) rfl (w13.get 2 rfl) (by simp) rfl) rfl ?_))))))
  simp only [sN,s0,sS,a0,aS,aC,AV.cells,hm]
  refine Qab rfl rfl rfl rfl (Qab rfl rfl rfl rfl (Qab rfl rfl (Qad (r:=[t0,t1,t2]) rfl (w13.get 5 rfl) (by simp) rfl) rfl (Qac ?_)))
  simp only [sN,s0,sS,a0,aS,aC,AV.cells,hm]
  refine Qae rfl rfl rfl (L.mnum _) (Qba L.num w13.self) ?_ (fun _ _ e=>e.elim)
  rintro v h14 ⟨rfl,u14⟩
  have w14:=w13.call u14
  clear w13 u14
  refine ⟨?_,?_⟩
  ·simp only [sN,s0,sS,a0,aS,aC,List.all_cons,List.all_nil,Bool.and_true,Bool.and_eq_true]
   exact ⟨Qak rfl rfl rfl rfl (Qad (r:=[.int .i64 9,.int .i64 0,.slice b6 0 2 2]) rfl (w14.get 2 rfl) (by simp) rfl) rfl,Qak rfl rfl rfl rfl (Qad (r:=[t0,t1,t2]) rfl (w14.get 5 rfl) (by simp) rfl) rfl⟩
  simp only [sN,s0,sS,a0,aS,aC,AV.cells,hm]
  refine Qaf (Qab rfl rfl (x_two (x0:=.int .i64 0) (x1:=.int .i64 2) (x2:=.nilslice) (y0:=t0) (y1:=t1) (y2:=t2) rfl rfl) rfl ?_)
  simp only [sN,s0,sS,a0,aS,aC,AV.cells,hm]
  have w15:=w14.alloc (.cells [.int .i64 0,.int .i64 2,.nilslice,t0,t1,t2] none 0 [])
  generalize h14.alloc (.cells [.int .i64 0,.int .i64 2,.nilslice,t0,t1,t2] none 0 []) = h15 at w15 ⊢
  generalize h14.next = b7 at w15 ⊢
  clear w14
  refine Qac ?_
  refine Qae rfl rfl rfl (L.mterm _) (Qan L.term rfl rfl rfl w15.self) ?_ (fun _ _ e=>e.elim)
  rintro v h16 ⟨rfl,u16⟩
  have w16:=w15.call u16
  clear w15 u16
  refine ⟨?_,?_⟩
  ·simp only [sN,s0,sS,a0,aS,aC,List.all_cons,List.all_nil,Bool.and_true,Bool.and_eq_true]
   exact Qak rfl rfl rfl rfl (Qad (r:=[.int .i64 9,.int .i64 0,.slice b6 0 2 2]) rfl (w16.get 3 rfl) (by simp) rfl) rfl
  simp only [sN,s0,sS,a0,aS,aC,AV.cells,hm]
  refine Qaf (Qab rfl rfl (x_two (x0:=.int .i64 9) (x1:=.int .i64 0) (x2:=.slice b6 0 2 2) (y0:=.int .i64 8) (y1:=.int .i64 0) (y2:=.slice b7 0 2 2) rfl rfl) rfl ?_)
  simp only [sN,s0,sS,a0,aS,aC,AV.cells,hm]
  have w17:=w16.alloc (.cells [.int .i64 9,.int .i64 0,.slice b6 0 2 2,.int .i64 8,.int .i64 0,.slice b7 0 2 2] none 0 [])
  generalize h16.alloc (.cells [.int .i64 9,.int .i64 0,.slice b6 0 2 2,.int .i64 8,.int .i64 0,.slice b7 0 2 2] none 0 []) = h17 at w17 ⊢
  generalize h16.next = b8 at w17 ⊢
  clear w16
  refine Qac ?_
  refine Qae rfl rfl rfl (L.mterm _) (Qan L.term rfl rfl rfl w17.self) ?_ (fun _ _ e=>e.elim)
  rintro v h18 ⟨rfl,u18⟩
  have w18:=w17.call u18
  clear w17 u18
  refine ⟨?_,?_⟩
  ·rfl
  simp only [sN,s0,sS,a0,aS,aC,AV.cells,hm]
  refine Qaf (Qac ?_)
  refine QaD rfl rfl (Qar (l':=[.int .i64 9,.int .i64 0,.slice b8 0 2 2]) (vs:=[.int .i64 9,.int .i64 0,.slice b8 0 2 2]) rfl rfl rfl rfl (w18.get 4 rfl) (by simp) rfl) rfl ?_
  simp only [sN,s0,sS,a0,aS,aC,AV.cells,hm]
  have w19 : Wk _ (h18.put b4 (.cells [.int .i64 9,.int .i64 0,.slice b8 0 2 2] (some 51) 0 [])) [(b8,.cells [.int .i64 9,.int .i64 0,.slice b6 0 2 2,.int .i64 8,.int .i64 0,.slice b7 0 2 2] none 0 []),(b7,.cells [.int .i64 0,.int .i64 2,.nilslice,t0,t1,t2] none 0 []),(b6,.cells [.int .i64 0,.int .i64 0,.nilslice,.int .i64 8,.int .i64 0,.slice b5 0 2 2] none 0 []),(b5,.cells [.int .i64 0,.int .i64 1,.nilslice,t0,t1,t2] none 0 []),(b4,.cells [.int .i64 9,.int .i64 0,.slice b8 0 2 2] (some 51) 0 []),(b3,.cells [.int .i64 12,.int .i64 4,.slice b2 0 1 1] (some 51) 0 []),(b2,.cells [t0,t1,t2] none 0 []),(b1,.cells [.int .i64 st,.int .i64 env,.bool out,t0,t1,t2] (some 55) 0 [])]:=w18.put 4 rfl _
  generalize h18.put b4 (.cells [.int .i64 9,.int .i64 0,.slice b8 0 2 2] (some 51) 0 []) = h19 at w19 ⊢
  clear w18
  refine Qaf (Qap (Qat (QaX ?_)))
  refine QaQ (Qaa (R_op rfl rfl rfl (R_op (v:=.int .i64 3) rfl rfl rfl (R_op rfl rfl rfl (R_nil ?_)))))
  simp only [sN,s0,sS,a0,aS,aC,AV.cells,hm]
  refine Qbo (R_seq (R_seq (Qaa (R_op rfl rfl rfl (R_op rfl rfl rfl (R_op rfl rfl rfl (R_nil ?_)))))))
  simp only [sN,s0,sS,a0,aS,aC,AV.cells,hm]
  refine QaM rfl (QaF (R_seq (QaS (QaY (Qaf (Qab rfl rfl (Qad (r:=[.int .i64 9,.int .i64 0,.slice b8 0 2 2]) rfl (w19.get 4 rfl) (by simp) rfl) rfl ?_))))))
  simp only [sN,s0,sS,a0,aS,aC,AV.cells,hm]
  refine Qab rfl rfl rfl rfl (Qab rfl rfl rfl rfl (Qab rfl rfl (Qad (r:=[t0,t1,t2]) rfl (w19.get 7 rfl) (by simp) rfl) rfl (Qac ?_)))
  simp only [sN,s0,sS,a0,aS,aC,AV.cells,hm]
  refine Qae rfl rfl rfl (L.mnum _) (Qba L.num w19.self) ?_ (fun _ _ e=>e.elim)
  rintro v h20 ⟨rfl,u20⟩
  have w20:=w19.call u20
  clear w19 u20
  refine ⟨?_,?_⟩
  ·simp only [sN,s0,sS,a0,aS,aC,List.all_cons,List.all_nil,Bool.and_true,Bool.and_eq_true]
   exact ⟨Qak rfl rfl rfl rfl (Qad (r:=[.int .i64 9,.int .i64 0,.slice b8 0 2 2]) rfl (w20.get 4 rfl) (by simp) rfl) rfl,Qak rfl rfl rfl rfl (Qad (r:=[t0,t1,t2]) rfl (w20.get 7 rfl) (by simp) rfl) rfl⟩
  simp only [sN,s0,sS,a0,aS,aC,AV.cells,hm]
  refine Qaf (Qab rfl rfl (x_two (x0:=.int .i64 0) (x1:=.int .i64 3) (x2:=.nilslice) (y0:=t0) (y1:=t1) (y2:=t2) rfl rfl) rfl ?_)
  simp only [sN,s0,sS,a0,aS,aC,AV.cells,hm]
  have w21:=w20.alloc (.cells [.int .i64 0,.int .i64 3,.nilslice,t0,t1,t2] none 0 [])
  generalize h20.alloc (.cells [.int .i64 0,.int .i64 3,.nilslice,t0,t1,t2] none 0 []) = h21 at w21 ⊢
  generalize h20.next = b9 at w21 ⊢
  clear w20
  refine Qac ?_
  refine Qae rfl rfl rfl (L.mterm _) (Qan L.term rfl rfl rfl w21.self) ?_ (fun _ _ e=>e.elim)
  rintro v h22 ⟨rfl,u22⟩
  have w22:=w21.call u22
  clear w21 u22
  refine ⟨?_,?_⟩
  ·simp only [sN,s0,sS,a0,aS,aC,List.all_cons,List.all_nil,Bool.and_true,Bool.and_eq_true]
   exact Qak rfl rfl rfl rfl (Qad (r:=[.int .i64 9,.int .i64 0,.slice b8 0 2 2]) rfl (w22.get 5 rfl) (by simp) rfl) rfl
  simp only [sN,s0,sS,a0,aS,aC,AV.cells,hm]
  refine Qaf (Qab rfl rfl (x_two (x0:=.int .i64 9) (x1:=.int .i64 0) (x2:=.slice b8 0 2 2) (y0:=.int .i64 8) (y1:=.int .i64 0) (y2:=.slice b9 0 2 2) rfl rfl) rfl ?_)
  simp only [sN,s0,sS,a0,aS,aC,AV.cells,hm]
  have w23:=w22.alloc (.cells [.int .i64 9,.int .i64 0,.slice b8 0 2 2,.int .i64 8,.int .i64 0,.slice b9 0 2 2] none 0 [])
  generalize h22.alloc (.cells [.int .i64 9,.int .i64 0,.slice b8 0 2 2,.int .i64 8,.int .i64 0,.slice b9 0 2 2] none 0 []) = h23 at w23 ⊢
  generalize h22.next = b10 at w23 ⊢
  clear w22
  refine Qac ?_
  refine Qae rfl rfl rfl (L.mterm _) (Qan L.term rfl rfl rfl w23.self) ?_ (fun _ _ e=>e.elim)
  rintro v h24 ⟨rfl,u24⟩
  have w24:=w23.call u24
  clear w23 u24
  refine ⟨?_,?_⟩
  ·rfl
  simp only [sN,s0,sS,a0,aS,aC,AV.cells,hm]
  refine Qaf (Qac ?_)
  refine QaD rfl rfl (Qar (l':=[.int .i64 9,.int .i64 0,.slice b10 0 2 2]) (vs:=[.int .i64 9,.int .i64 0,.slice b10 0 2 2]) rfl rfl rfl rfl (w24.get 6 rfl) (by simp) rfl) rfl ?_
  simp only [sN,s0,sS,a0,aS,aC,AV.cells,hm]
  have w25 : Wk _ (h24.put b4 (.cells [.int .i64 9,.int .i64 0,.slice b10 0 2 2] (some 51) 0 [])) [(b10,.cells [.int .i64 9,.int .i64 0,.slice b8 0 2 2,.int .i64 8,.int .i64 0,.slice b9 0 2 2] none 0 []),(b9,.cells [.int .i64 0,.int .i64 3,.nilslice,t0,t1,t2] none 0 []),(b8,.cells [.int .i64 9,.int .i64 0,.slice b6 0 2 2,.int .i64 8,.int .i64 0,.slice b7 0 2 2] none 0 []),(b7,.cells [.int .i64 0,.int .i64 2,.nilslice,t0,t1,t2] none 0 []),(b6,.cells [.int .i64 0,.int .i64 0,.nilslice,.int .i64 8,.int .i64 0,.slice b5 0 2 2] none 0 []),(b5,.cells [.int .i64 0,.int .i64 1,.nilslice,t0,t1,t2] none 0 []),(b4,.cells [.int .i64 9,.int .i64 0,.slice b10 0 2 2] (some 51) 0 []),(b3,.cells [.int .i64 12,.int .i64 4,.slice b2 0 1 1] (some 51) 0 []),(b2,.cells [t0,t1,t2] none 0 []),(b1,.cells [.int .i64 st,.int .i64 env,.bool out,t0,t1,t2] (some 55) 0 [])]:=w24.put 6 rfl _
  generalize h24.put b4 (.cells [.int .i64 9,.int .i64 0,.slice b10 0 2 2] (some 51) 0 []) = h25 at w25 ⊢
  clear w24
  refine Qaf (Qap (Qat (QaX ?_)))
  refine QaQ (Qaa (R_op rfl rfl rfl (R_op (v:=.int .i64 4) rfl rfl rfl (R_op rfl rfl rfl (R_nil ?_)))))
  simp only [sN,s0,sS,a0,aS,aC,AV.cells,hm]
  refine Qbo (R_seq (R_seq (Qaa (R_op rfl rfl rfl (R_op rfl rfl rfl (R_op rfl rfl rfl (R_nil ?_)))))))
  simp only [sN,s0,sS,a0,aS,aC,AV.cells,hm]
  refine QaM rfl (QaF (R_seq (QaS (QaY (Qaf (Qab rfl rfl (Qad (r:=[.int .i64 9,.int .i64 0,.slice b10 0 2 2]) rfl (w25.get 6 rfl) (by simp) rfl) rfl ?_))))))
  simp only [sN,s0,sS,a0,aS,aC,AV.cells,hm]
  refine Qab rfl rfl rfl rfl (Qab rfl rfl rfl rfl (Qab rfl rfl (Qad (r:=[t0,t1,t2]) rfl (w25.get 9 rfl) (by simp) rfl) rfl (Qac ?_)))
  simp only [sN,s0,sS,a0,aS,aC,AV.cells,hm]
  refine Qae rfl rfl rfl (L.mnum _) (Qba L.num w25.self) ?_ (fun _ _ e=>e.elim)
  rintro v h26 ⟨rfl,u26⟩
  have w26:=w25.call u26
  clear w25 u26
  refine ⟨?_,?_⟩
  ·simp only [sN,s0,sS,a0,aS,aC,List.all_cons,List.all_nil,Bool.and_true,Bool.and_eq_true]
   exact ⟨Qak rfl rfl rfl rfl (Qad (r:=[.int .i64 9,.int .i64 0,.slice b10 0 2 2]) rfl (w26.get 6 rfl) (by simp) rfl) rfl,Qak rfl rfl rfl rfl (Qad (r:=[t0,t1,t2]) rfl (w26.get 9 rfl) (by simp) rfl) rfl⟩
  simp only [sN,s0,sS,a0,aS,aC,AV.cells,hm]
  refine Qaf (Qab rfl rfl (x_two (x0:=.int .i64 0) (x1:=.int .i64 4) (x2:=.nilslice) (y0:=t0) (y1:=t1) (y2:=t2) rfl rfl) rfl ?_)
  simp only [sN,s0,sS,a0,aS,aC,AV.cells,hm]
  have w27:=w26.alloc (.cells [.int .i64 0,.int .i64 4,.nilslice,t0,t1,t2] none 0 [])
  generalize h26.alloc (.cells [.int .i64 0,.int .i64 4,.nilslice,t0,t1,t2] none 0 []) = h27 at w27 ⊢
  generalize h26.next = b11 at w27 ⊢
  clear w26
  refine Qac ?_
  refine Qae rfl rfl rfl (L.mterm _) (Qan L.term rfl rfl rfl w27.self) ?_ (fun _ _ e=>e.elim)
  rintro v h28 ⟨rfl,u28⟩
  have w28:=w27.call u28
  clear w27 u28
  refine ⟨?_,?_⟩
  ·simp only [sN,s0,sS,a0,aS,aC,List.all_cons,List.all_nil,Bool.and_true,Bool.and_eq_true]
   exact Qak rfl rfl rfl rfl (Qad (r:=[.int .i64 9,.int .i64 0,.slice b10 0 2 2]) rfl (w28.get 7 rfl) (by simp) rfl) rfl
  simp only [sN,s0,sS,a0,aS,aC,AV.cells,hm]
  refine Qaf (Qab rfl rfl (x_two (x0:=.int .i64 9) (x1:=.int .i64 0) (x2:=.slice b10 0 2 2) (y0:=.int .i64 8) (y1:=.int .i64 0) (y2:=.slice b11 0 2 2) rfl rfl) rfl ?_)
  simp only [sN,s0,sS,a0,aS,aC,AV.cells,hm]
  have w29:=w28.alloc (.cells [.int .i64 9,.int .i64 0,.slice b10 0 2 2,.int .i64 8,.int .i64 0,.slice b11 0 2 2] none 0 [])
  generalize h28.alloc (.cells [.int .i64 9,.int .i64 0,.slice b10 0 2 2,.int .i64 8,.int .i64 0,.slice b11 0 2 2] none 0 []) = h29 at w29 ⊢
  generalize h28.next = b12 at w29 ⊢
  clear w28
  refine Qac ?_
  refine Qae rfl rfl rfl (L.mterm _) (Qan L.term rfl rfl rfl w29.self) ?_ (fun _ _ e=>e.elim)
  rintro v h30 ⟨rfl,u30⟩
  have w30:=w29.call u30
  clear w29 u30
  refine ⟨?_,?_⟩
  ·rfl
  simp only [sN,s0,sS,a0,aS,aC,AV.cells,hm]
  refine Qaf (Qac ?_)
  refine QaD rfl rfl (Qar (l':=[.int .i64 9,.int .i64 0,.slice b12 0 2 2]) (vs:=[.int .i64 9,.int .i64 0,.slice b12 0 2 2]) rfl rfl rfl rfl (w30.get 8 rfl) (by simp) rfl) rfl ?_
  simp only [sN,s0,sS,a0,aS,aC,AV.cells,hm]
  have w31 : Wk _ (h30.put b4 (.cells [.int .i64 9,.int .i64 0,.slice b12 0 2 2] (some 51) 0 [])) [(b12,.cells [.int .i64 9,.int .i64 0,.slice b10 0 2 2,.int .i64 8,.int .i64 0,.slice b11 0 2 2] none 0 []),(b11,.cells [.int .i64 0,.int .i64 4,.nilslice,t0,t1,t2] none 0 []),(b10,.cells [.int .i64 9,.int .i64 0,.slice b8 0 2 2,.int .i64 8,.int .i64 0,.slice b9 0 2 2] none 0 []),(b9,.cells [.int .i64 0,.int .i64 3,.nilslice,t0,t1,t2] none 0 []),(b8,.cells [.int .i64 9,.int .i64 0,.slice b6 0 2 2,.int .i64 8,.int .i64 0,.slice b7 0 2 2] none 0 []),(b7,.cells [.int .i64 0,.int .i64 2,.nilslice,t0,t1,t2] none 0 []),(b6,.cells [.int .i64 0,.int .i64 0,.nilslice,.int .i64 8,.int .i64 0,.slice b5 0 2 2] none 0 []),(b5,.cells [.int .i64 0,.int .i64 1,.nilslice,t0,t1,t2] none 0 []),(b4,.cells [.int .i64 9,.int .i64 0,.slice b12 0 2 2] (some 51) 0 []),(b3,.cells [.int .i64 12,.int .i64 4,.slice b2 0 1 1] (some 51) 0 []),(b2,.cells [t0,t1,t2] none 0 []),(b1,.cells [.int .i64 st,.int .i64 env,.bool out,t0,t1,t2] (some 55) 0 [])]:=w30.put 8 rfl _
  generalize h30.put b4 (.cells [.int .i64 9,.int .i64 0,.slice b12 0 2 2] (some 51) 0 []) = h31 at w31 ⊢
  clear w30
  refine Qaf (Qap (Qat (QaX ?_)))
  refine QaQ (Qaa (R_op rfl rfl rfl (R_op (v:=.int .i64 5) rfl rfl rfl (R_op rfl rfl rfl (R_nil ?_)))))
  simp only [sN,s0,sS,a0,aS,aC,AV.cells,hm]
  refine Qbo (R_seq (R_seq (Qaa (R_op rfl rfl rfl (R_op rfl rfl rfl (R_op rfl rfl rfl (R_nil ?_)))))))
  simp only [sN,s0,sS,a0,aS,aC,AV.cells,hm]
  refine Qaw rfl (Qfj rfl (R_seq (Qaa (R_op rfl rfl (Qad (r:=[.int .i64 st,.int .i64 env,.bool out,t0,t1,t2]) rfl (w31.get 11 rfl) (by simp) rfl) (R_op rfl rfl (Qad (r:=[.int .i64 12,.int .i64 4,.slice b2 0 1 1]) rfl (w31.get 9 rfl) (by simp) rfl) (R_op rfl rfl (Qad (r:=[.int .i64 9,.int .i64 0,.slice b12 0 2 2]) rfl (w31.get 8 rfl) (by simp) rfl) (Qau rfl rfl rfl (L.mequal _) (QaI L (Qaz hs) (Qao (Qao (Qao (Qao (Qam 0 0) (Qao (Qam 0 1) hs)) (Qao (Qam 0 2) hs)) (Qao (Qam 0 3) hs)) (Qao (Qam 0 4) hs)) w31.self (Nat.le_refl _) (QaJ (w31.lt 10 rfl) (w31.get 10 rfl) (w31.rep hN hrep)) (QaA (w31.lt 0 rfl) (w31.get 0 rfl) (QaA (w31.lt 2 rfl) (w31.get 2 rfl) (QaA (w31.lt 4 rfl) (w31.get 4 rfl) (QaA (w31.lt 6 rfl) (w31.get 6 rfl) (Qas _ _ 0 0) (QaA (w31.lt 7 rfl) (w31.get 7 rfl) (Qas _ _ 0 1) (w31.rep hN hrep))) (QaA (w31.lt 5 rfl) (w31.get 5 rfl) (Qas _ _ 0 2) (w31.rep hN hrep))) (QaA (w31.lt 3 rfl) (w31.get 3 rfl) (Qas _ _ 0 3) (w31.rep hN hrep))) (QaA (w31.lt 1 rfl) (w31.get 1 rfl) (Qas _ _ 0 4) (w31.rep hN hrep))) (Qgh T env ⟨st,[]⟩ 4 (by omega))) ?_ (fun _ _ e=>e.elim))))))))
  rintro v h32 ⟨rfl,u32⟩
  have w32:=w31.call u32
  clear w31 u32
  simp only [sN,s0,sS,a0,aS,aC,AV.cells,hm]
  refine R_op rfl rfl rfl (QdL rfl rfl rfl hA (hAe _) (R_op rfl rfl rfl (R_op rfl rfl rfl (R_nil ?_))))
  simp only [sN,s0,sS,a0,aS,aC,AV.cells,hm]
  exact R_top ⟨rfl,rfl,rfl,rfl⟩ hF rfl
end
end Go.Ab.L22

/-
  A part of a proof: WTh22 WTp22.
-/
import Derived.Test.YteikbgknibikmaaGreatDoorWP22toWOc22
import Derived.Test.YteikbgknibikmaaGreatDoorWDlTh
set_option linter.all false
namespace Go.Ab.L22
open Go Go.Ab
section
variable {F : FuncId → Option AFun} {M : Memo} {ita : Int → Str} {rep : Nat → Str}
/-! What Throws looks at. -/
theorem QeJ (L : Law F M ita rep) {T : LT} (hs : Short T) {st env : Int} {out : Bool} {k0 n0 l0 rk rn rl : AV} {N : Nat} {h : AH} (u : Up h h) (hN : N ≤ h.next) (hrep : Rep N h T [rk,rn,rl]) {n b : Nat} (e : Qbr ita rep st env out T = ((n,b),0)) :
  Ctr F M Qdi [.agg [.int .i64 st,.int .i64 env,.bool out,k0,n0,l0],.agg [rk,rn,rl]] h (fun v h'=>v = .tuple [.str n b,.bool true] ∧ Up h h') (fun _ _=>False) :=
 (QeK L.valued L.mmodel L.model hs u hN hrep).mono (fun _ _ ⟨a,b⟩=>⟨by rw [a,e]; rfl,b⟩) fun _ _ e=>e
theorem QlN (L : Law F M ita rep) {T : LT} (hs : Short T) {st env : Int} {out : Bool} {k0 n0 l0 rk rn rl : AV} {N : Nat} {h : AH} (u : Up h h) (hN : N ≤ h.next) (hrep : Rep N h T [rk,rn,rl]) (ce : Qbz st env T ≠ 0) :
  Ctr F M Qdi [.agg [.int .i64 st,.int .i64 env,.bool out,k0,n0,l0],.agg [rk,rn,rl]] h (fun v h'=>v = .tuple [.str 0 0,.bool false] ∧ Up h h') (fun _ _=>False) :=
 (QeK L.valued L.mmodel L.model hs u hN hrep).mono (fun _ _ ⟨a,b⟩=>⟨by
  rw [a,show Qbr ita rep st env out T = ((0,0),Qbz st env T) by unfold Qbr; rw [if_pos ce],show ((((0,0),Qbz st env T) : Str × Int).2 == 0) = false by simpa using ce]
  rfl,b⟩) fun _ _ e=>e
theorem one6 {x y : Int} {z : Bool} {a b c : AV} (h : [a,b,c].all AV.one = true) : [AV.int .i64 x,.int .i64 y,.bool z,a,b,c].all AV.one = true:=by simpa [AV.one] using h
theorem x_geq {h : AH} {ev : AOpd → AV} {x y : AOpd} {n k : Nat} (hx : ev x = .int .i64 (n : Int)) (hy : ev y = .int .i64 (k : Int)) (hk : k ≤ n) : exec h ev (.bin .geq 9 x y) = some (.bool true,h):=by
 have e : decide ((n : Int) ≥ (k : Int)) = true:=by simp; omega
 simp only [exec,hx,hy,binA]
 show some (AV.bool (decide ((n : Int) ≥ (k : Int))),h) = _
 rw [e]
theorem x_lssF {h : AH} {ev : AOpd → AV} {x y : AOpd} {n k : Nat} (hx : ev x = .int .i64 (n : Int)) (hy : ev y = .int .i64 (k : Int)) (hk : k ≤ n) : exec h ev (.bin .lss 9 x y) = some (.bool false,h):=by
 have e : decide ((n : Int) < (k : Int)) = false:=by simp; omega
 simp only [exec,hx,hy,binA]
 show some (AV.bool (decide ((n : Int) < (k : Int))),h) = _
 rw [e]
theorem Qqa {h : AH} {ev : AOpd → AV} {x y : AOpd} {n : Nat} (hx : ev x = .int .i64 10) (hy : ev y = .int .i64 (n : Int)) (hk : n < 1000) : exec h ev (.bin .add 9 x y) = some (.int .i64 ((10 + n : Nat) : Int),h):=by
 simp only [exec,hx,hy,binA]
 show some (AV.int .i64 (IntKind.i64.wrap (10 + (n : Int))),h) = _
 rw [QkH (by omega) (by omega)]
 rfl
theorem Qoa {h : AH} {ev : AOpd → AV} {x y : AOpd} {n b k r : Nat} (hx : ev x = .str n b) (hk : k ≤ n) (hs : subN b 0 k = r) (hy : ev y = .int .i64 (k : Int):=by rfl) : exec h ev (.sliceStr x none (some y)) = some (.str k r,h):=by
 subst hs
 simp [exec,hx,hy,QaL,asNat,hk]
theorem x_subM {h : AH} {ev : AOpd → AV} {x y z : AOpd} {n b k r : Nat} (hx : ev x = .str n b) (hy : ev y = .int .i64 10) (hz : ev z = .int .i64 ((10 + k : Nat) : Int)) (hk : 10 + k ≤ n) (hs : subN b 10 (10 + k) = r) : exec h ev (.sliceStr x (some y) (some z)) = some (.str k r,h):=by
 subst hs
 have e1 : QaL 0 (some (AV.int .i64 10)) = some 10:=rfl
 have e2 : QaL n (some (AV.int .i64 ((10 + k : Nat) : Int))) = some (10 + k):=by simp [QaL,asNat]; omega
 simp only [exec,hx,Option.map_some,hy,hz,e1,e2]
 rw [if_pos ⟨by omega,hk⟩]
 simp
theorem x_eqlF {h : AH} {ev : AOpd → AV} {x y : AOpd} {n a b : Nat} (hx : ev x = .str n a) (hy : ev y = .str n b) (hne : a ≠ b) : exec h ev (.bin .eql 9 x y) = some (.bool false,h):=by
 simp only [exec,hx,hy,binA,Qj2]
 have e : (n == n && a == b) = false:=by simp [hne]
 show some (AV.bool (n == n && a == b),h) = _
 rw [e]
theorem x_neqS {h : AH} {ev : AOpd → AV} {x y : AOpd} {n a : Nat} (hx : ev x = .str n a) (hy : ev y = .str n a) : exec h ev (.bin .neq 9 x y) = some (.bool false,h):=by
 simp only [exec,hx,hy,binA,Qj2]
 simp
set_option maxHeartbeats 4000000 in
theorem QrK (L : Law F M ita rep) (hF : F Qdj = some QcB) {a : Int} {T U : LT} (hs : Short T) (hsU : Short U) {st env : Int} {out : Bool} {t0 t1 t2 q0 q1 q2 : AV} {N : Nat} {h : AH} (u : Up h h) (hN : N ≤ h.next) (hrep : Rep N h T [t0,t1,t2]) (hrepU : Rep N h U [q0,q1,q2])
  (ce : Qbz st env T ≠ 0) :
  Top F M Qdj [.agg [.int .i64 st,.int .i64 env,.bool out,t0,t1,t2],.agg [q0,q1,q2],.int .i16 a] h (.bool true):=by
 obtain ⟨cA,hA,hAe⟩:=L.awake
 obtain ⟨m,hm⟩ : ∃ m,(IntKind.i64.wrap a).tmod 1000 = m:=⟨_,rfl⟩
 refine Top.intro hF ?_
 simp only [QcB,fn6,List.length_cons,List.length_nil,Nat.reduceAdd,Nat.reduceSub,rZ,rS,pN,pC]
 have w:=Wk.start u
 refine R_seq (Qaa (R_op rfl rfl rfl ?_))
 simp only [sN,s0,sS,a0,aS,aC,AV.cells,hm]
 have w1:=w.alloc (.cells [.int .i64 st,.int .i64 env,.bool out,t0,t1,t2] (some 55) 0 [])
 generalize h.alloc (.cells [.int .i64 st,.int .i64 env,.bool out,t0,t1,t2] (some 55) 0 []) = h1 at w1 ⊢
 generalize h.next = b1 at w1 ⊢
 clear w
 refine R_op rfl rfl rfl ?_
 simp only [sN,s0,sS,a0,aS,aC,AV.cells,hm]
 have w2:=w1.alloc (.cells [q0,q1,q2] (some 51) 0 [])
 generalize h1.alloc (.cells [q0,q1,q2] (some 51) 0 []) = h2 at w2 ⊢
 generalize h1.next = b2 at w2 ⊢
 clear w1
 refine R_op rfl rfl rfl (R_nil ?_)
 simp only [sN,s0,sS,a0,aS,aC,AV.cells,hm]
 refine R_seq (Qaa (R_op rfl rfl rfl (R_op rfl rfl rfl (R_op rfl rfl rfl (Qau rfl rfl rfl (L.mnum _) (Qba L.num w2.self) ?_ (fun _ _ e=>e.elim))))))
 rintro v h3 ⟨rfl,u3⟩
 have w3:=w2.call u3
 clear w2 u3
 simp only [sN,s0,sS,a0,aS,aC,AV.cells,hm]
 refine R_op rfl rfl rfl ?_
 simp only [sN,s0,sS,a0,aS,aC,AV.cells,hm]
 have w4:=w3.alloc (.cells [.int .i64 0,.int .i64 0,.nilslice] (some 51) 0 [])
 generalize h3.alloc (.cells [.int .i64 0,.int .i64 0,.nilslice] (some 51) 0 []) = h4 at w4 ⊢
 generalize h3.next = b3 at w4 ⊢
 clear w3
 refine R_op rfl rfl (Qar (l':=[.int .i64 0,.int .i64 m,.nilslice]) (vs:=[.int .i64 0,.int .i64 m,.nilslice]) rfl rfl rfl rfl (w4.get 0 rfl) (by simp) rfl) ?_
 simp only [sN,s0,sS,a0,aS,aC,AV.cells,hm]
 have w5 : Wk _ (h4.put b3 (.cells [.int .i64 0,.int .i64 m,.nilslice] (some 51) 0 [])) [(b3,.cells [.int .i64 0,.int .i64 m,.nilslice] (some 51) 0 []),(b2,.cells [q0,q1,q2] (some 51) 0 []),(b1,.cells [.int .i64 st,.int .i64 env,.bool out,t0,t1,t2] (some 55) 0 [])]:=w4.put 0 rfl _
 generalize h4.put b3 (.cells [.int .i64 0,.int .i64 m,.nilslice] (some 51) 0 []) = h5 at w5 ⊢
 clear w4
 refine R_nil ?_
 refine R_seq (QaY (Qaf (Qab rfl rfl (Qad (r:=[.int .i64 st,.int .i64 env,.bool out,t0,t1,t2]) rfl (w5.get 2 rfl) (by simp) rfl) rfl (Qab rfl rfl (Qad (r:=[.int .i64 st,.int .i64 env,.bool out,t0,t1,t2]) rfl (w5.get 2 rfl) (by simp) rfl) rfl (Qab rfl rfl rfl rfl ?_)))))
 simp only [sN,s0,sS,a0,aS,aC,AV.cells,hm]
 have w6:=w5.alloc (.cells [.int .i64 0,.int .i64 0,.bool false,.int .i64 0,.int .i64 0,.nilslice] (some 55) 0 [])
 generalize h5.alloc (.cells [.int .i64 0,.int .i64 0,.bool false,.int .i64 0,.int .i64 0,.nilslice] (some 55) 0 []) = h6 at w6 ⊢
 generalize h5.next = b4 at w6 ⊢
 clear w5
 refine Qab rfl rfl rfl rfl ?_
 simp only [sN,s0,sS,a0,aS,aC,AV.cells,hm]
 have w7:=w6.alloc (.cells [.int .i64 0,.int .i64 0,.bool false,.int .i64 0,.int .i64 0,.nilslice] (some 55) 0 [])
 generalize h6.alloc (.cells [.int .i64 0,.int .i64 0,.bool false,.int .i64 0,.int .i64 0,.nilslice] (some 55) 0 []) = h7 at w7 ⊢
 generalize h6.next = b5 at w7 ⊢
 clear w6
 refine Qac ?_
 have w8 : Wk _ (h7.put b4 (.cells [.int .i64 st,.int .i64 env,.bool out,t0,t1,t2] (some 55) 0 [])) [(b5,.cells [.int .i64 0,.int .i64 0,.bool false,.int .i64 0,.int .i64 0,.nilslice] (some 55) 0 []),(b4,.cells [.int .i64 st,.int .i64 env,.bool out,t0,t1,t2] (some 55) 0 []),(b3,.cells [.int .i64 0,.int .i64 m,.nilslice] (some 51) 0 []),(b2,.cells [q0,q1,q2] (some 51) 0 []),(b1,.cells [.int .i64 st,.int .i64 env,.bool out,t0,t1,t2] (some 55) 0 [])]:=w7.put 1 rfl _
 refine QaD rfl rfl (Qar (l':=[.int .i64 st,.int .i64 env,.bool out,t0,t1,t2]) (vs:=[.int .i64 st,.int .i64 env,.bool out,t0,t1,t2]) rfl rfl rfl (one6 (QcV hrep)) (w7.get 1 rfl) (by simp) rfl) (by simp only [sN,s0,sS,a0,aS,aC,List.all_cons,List.all_nil,Bool.and_true,Bool.and_eq_true]; exact Qak rfl rfl rfl rfl (Qad (r:=[.int .i64 st,.int .i64 env,.bool out,t0,t1,t2]) rfl (w8.get 4 rfl) (by simp) rfl) rfl) ?_
 simp only [sN,s0,sS,a0,aS,aC,AV.cells,hm]
 generalize h7.put b4 (.cells [.int .i64 st,.int .i64 env,.bool out,t0,t1,t2] (some 55) 0 []) = h8 at w8 ⊢
 clear w7
 refine Qaf (Qac ?_)
 refine QaD rfl rfl (Qar (l':=[.int .i64 st,.int .i64 env,.bool out,t0,t1,t2]) (vs:=[.int .i64 st,.int .i64 env,.bool out,t0,t1,t2]) rfl rfl rfl (one6 (QcV hrep)) (w8.get 0 rfl) (by simp) rfl) rfl ?_
 simp only [sN,s0,sS,a0,aS,aC,AV.cells,hm]
 have w9 : Wk _ (h8.put b5 (.cells [.int .i64 st,.int .i64 env,.bool out,t0,t1,t2] (some 55) 0 [])) [(b5,.cells [.int .i64 st,.int .i64 env,.bool out,t0,t1,t2] (some 55) 0 []),(b4,.cells [.int .i64 st,.int .i64 env,.bool out,t0,t1,t2] (some 55) 0 []),(b3,.cells [.int .i64 0,.int .i64 m,.nilslice] (some 51) 0 []),(b2,.cells [q0,q1,q2] (some 51) 0 []),(b1,.cells [.int .i64 st,.int .i64 env,.bool out,t0,t1,t2] (some 55) 0 [])]:=w8.put 0 rfl _
 generalize h8.put b5 (.cells [.int .i64 st,.int .i64 env,.bool out,t0,t1,t2] (some 55) 0 []) = h9 at w9 ⊢
 clear w8
 refine Qaf (Qap (Qat (QaX ?_)))
 refine R_seq (Qaa (R_op rfl rfl rfl (R_op rfl rfl (Qdw (l':=[.int .i64 st,.int .i64 env,.bool false,t0,t1,t2]) (v:=.bool false) rfl rfl rfl rfl rfl (w9.get 1 rfl) (by simp) rfl) ?_)))
 simp only [sN,s0,sS,a0,aS,aC,AV.cells,hm]
 have w10 : Wk _ (h9.put b4 (.cells [.int .i64 st,.int .i64 env,.bool false,t0,t1,t2] (some 55) 0 [])) [(b5,.cells [.int .i64 st,.int .i64 env,.bool out,t0,t1,t2] (some 55) 0 []),(b4,.cells [.int .i64 st,.int .i64 env,.bool false,t0,t1,t2] (some 55) 0 []),(b3,.cells [.int .i64 0,.int .i64 m,.nilslice] (some 51) 0 []),(b2,.cells [q0,q1,q2] (some 51) 0 []),(b1,.cells [.int .i64 st,.int .i64 env,.bool out,t0,t1,t2] (some 55) 0 [])]:=w9.put 1 rfl _
 generalize h9.put b4 (.cells [.int .i64 st,.int .i64 env,.bool false,t0,t1,t2] (some 55) 0 []) = h10 at w10 ⊢
 clear w9
 refine R_op rfl rfl rfl (R_op rfl rfl (Qdw (l':=[.int .i64 st,.int .i64 env,.bool true,t0,t1,t2]) (v:=.bool true) rfl rfl rfl rfl rfl (w10.get 0 rfl) (by simp) rfl) ?_)
 simp only [sN,s0,sS,a0,aS,aC,AV.cells,hm]
 have w11 : Wk _ (h10.put b5 (.cells [.int .i64 st,.int .i64 env,.bool true,t0,t1,t2] (some 55) 0 [])) [(b5,.cells [.int .i64 st,.int .i64 env,.bool true,t0,t1,t2] (some 55) 0 []),(b4,.cells [.int .i64 st,.int .i64 env,.bool false,t0,t1,t2] (some 55) 0 []),(b3,.cells [.int .i64 0,.int .i64 m,.nilslice] (some 51) 0 []),(b2,.cells [q0,q1,q2] (some 51) 0 []),(b1,.cells [.int .i64 st,.int .i64 env,.bool out,t0,t1,t2] (some 55) 0 [])]:=w10.put 0 rfl _
 generalize h10.put b5 (.cells [.int .i64 st,.int .i64 env,.bool true,t0,t1,t2] (some 55) 0 []) = h11 at w11 ⊢
 clear w10
 refine R_nil ?_
 refine R_seq (Qaa (R_op rfl rfl (Qad (r:=[.int .i64 st,.int .i64 env,.bool false,t0,t1,t2]) rfl (w11.get 1 rfl) (by simp) rfl) (R_op rfl rfl rfl (R_op rfl rfl (Qad (r:=[t0,t1,t2]) rfl (w11.get 4 rfl) (by simp) rfl) (Qau rfl rfl rfl (L.mvalued _) (QlN L hs w11.self (Nat.le_refl _) (w11.rep hN hrep) ce) ?_ (fun _ _ e=>e.elim))))))
 rintro v h12 ⟨rfl,u12⟩
 have w12:=w11.call u12
 clear w11 u12
 simp only [sN,s0,sS,a0,aS,aC,AV.cells,hm]
 refine R_op rfl rfl rfl (R_op rfl rfl rfl (R_op rfl rfl rfl (R_op rfl rfl rfl (R_op rfl rfl rfl (R_nil ?_)))))
 simp only [sN,s0,sS,a0,aS,aC,AV.cells,hm]
 refine R_seq (Qaa (R_op rfl rfl (Qad (r:=[.int .i64 st,.int .i64 env,.bool true,t0,t1,t2]) rfl (w12.get 0 rfl) (by simp) rfl) (R_op rfl rfl rfl (R_op rfl rfl (Qad (r:=[t0,t1,t2]) rfl (w12.get 4 rfl) (by simp) rfl) (Qau rfl rfl rfl (L.mvalued _) (QlN L hs w12.self (Nat.le_refl _) (w12.rep hN hrep) ce) ?_ (fun _ _ e=>e.elim))))))
 rintro v h13 ⟨rfl,u13⟩
 have w13:=w12.call u13
 clear w12 u13
 simp only [sN,s0,sS,a0,aS,aC,AV.cells,hm]
 refine R_op rfl rfl rfl (R_op rfl rfl rfl (R_op rfl rfl rfl (R_op rfl rfl rfl (R_op rfl rfl rfl (R_nil ?_)))))
 simp only [sN,s0,sS,a0,aS,aC,AV.cells,hm]
 refine R_seq (R_seq (Qaa (R_op rfl rfl rfl (R_op rfl rfl rfl (R_op (v:=.bool false) rfl rfl rfl (R_nil ?_))))))
 simp only [sN,s0,sS,a0,aS,aC,AV.cells,hm]
 refine Qaw rfl (QaF (R_seq (R_seq (Qaa (R_op rfl rfl rfl (R_op rfl rfl rfl (R_nil ?_)))))))
 simp only [sN,s0,sS,a0,aS,aC,AV.cells,hm]
 refine QaM rfl (R_seq (Qaa (QdL rfl rfl rfl hA (hAe _) (R_op rfl rfl rfl (R_nil ?_)))))
 simp only [sN,s0,sS,a0,aS,aC,AV.cells,hm]
 exact R_top ⟨rfl,rfl,rfl,rfl⟩ hF rfl
set_option maxHeartbeats 4000000 in
theorem Qp2 (L : Law F M ita rep) (hF : F Qdj = some QcB) {a : Int} {T U : LT} (hs : Short T) (hsU : Short U) {st env : Int} {out : Bool} {t0 t1 t2 q0 q1 q2 : AV} {N : Nat} {h : AH} (u : Up h h) (hN : N ≤ h.next) (hrep : Rep N h T [t0,t1,t2]) (hrepU : Rep N h U [q0,q1,q2])
  {vn vb wn wb : Nat} (hV : Qbr ita rep st env false T = ((vn,vb),0)) (hW : Qbr ita rep st env true T = ((wn,wb),0)) {n : Int} {s' : Sg} (hd : den T env ⟨st,[]⟩ = (.thr n,s')) (f1 : 4 ≤ wn) (f2 : subN wb 0 4 = 1534227013) (f3 : 14 ≤ vn) (f4 : subN vb 0 14 = 1854766649597775202016452575584592) (f5 : 10 + wn ≤ vn) (f6 : subN vb 10 (10 + wn) = wb) (f7 : wn < 1000) :
  Top F M Qdj [.agg [.int .i64 st,.int .i64 env,.bool out,t0,t1,t2],.agg [q0,q1,q2],.int .i16 a] h (.bool true):=by
 obtain ⟨cA,hA,hAe⟩:=L.awake
 obtain ⟨m,hm⟩ : ∃ m,(IntKind.i64.wrap a).tmod 1000 = m:=⟨_,rfl⟩
 refine Top.intro hF ?_
 simp only [QcB,fn6,List.length_cons,List.length_nil,Nat.reduceAdd,Nat.reduceSub,rZ,rS,pN,pC]
 have w:=Wk.start u
 refine R_seq (Qaa (R_op rfl rfl rfl ?_))
 simp only [sN,s0,sS,a0,aS,aC,AV.cells,hm]
 have w1:=w.alloc (.cells [.int .i64 st,.int .i64 env,.bool out,t0,t1,t2] (some 55) 0 [])
 generalize h.alloc (.cells [.int .i64 st,.int .i64 env,.bool out,t0,t1,t2] (some 55) 0 []) = h1 at w1 ⊢
 generalize h.next = b1 at w1 ⊢
 clear w
 refine R_op rfl rfl rfl ?_
 simp only [sN,s0,sS,a0,aS,aC,AV.cells,hm]
 have w2:=w1.alloc (.cells [q0,q1,q2] (some 51) 0 [])
 generalize h1.alloc (.cells [q0,q1,q2] (some 51) 0 []) = h2 at w2 ⊢
 generalize h1.next = b2 at w2 ⊢
 clear w1
 refine R_op rfl rfl rfl (R_nil ?_)
 simp only [sN,s0,sS,a0,aS,aC,AV.cells,hm]
 refine R_seq (Qaa (R_op rfl rfl rfl (R_op rfl rfl rfl (R_op rfl rfl rfl (Qau rfl rfl rfl (L.mnum _) (Qba L.num w2.self) ?_ (fun _ _ e=>e.elim))))))
 rintro v h3 ⟨rfl,u3⟩
 have w3:=w2.call u3
 clear w2 u3
 simp only [sN,s0,sS,a0,aS,aC,AV.cells,hm]
 refine R_op rfl rfl rfl ?_
 simp only [sN,s0,sS,a0,aS,aC,AV.cells,hm]
 have w4:=w3.alloc (.cells [.int .i64 0,.int .i64 0,.nilslice] (some 51) 0 [])
 generalize h3.alloc (.cells [.int .i64 0,.int .i64 0,.nilslice] (some 51) 0 []) = h4 at w4 ⊢
 generalize h3.next = b3 at w4 ⊢
 clear w3
 refine R_op rfl rfl (Qar (l':=[.int .i64 0,.int .i64 m,.nilslice]) (vs:=[.int .i64 0,.int .i64 m,.nilslice]) rfl rfl rfl rfl (w4.get 0 rfl) (by simp) rfl) ?_
 simp only [sN,s0,sS,a0,aS,aC,AV.cells,hm]
 have w5 : Wk _ (h4.put b3 (.cells [.int .i64 0,.int .i64 m,.nilslice] (some 51) 0 [])) [(b3,.cells [.int .i64 0,.int .i64 m,.nilslice] (some 51) 0 []),(b2,.cells [q0,q1,q2] (some 51) 0 []),(b1,.cells [.int .i64 st,.int .i64 env,.bool out,t0,t1,t2] (some 55) 0 [])]:=w4.put 0 rfl _
 generalize h4.put b3 (.cells [.int .i64 0,.int .i64 m,.nilslice] (some 51) 0 []) = h5 at w5 ⊢
 clear w4
 refine R_nil ?_
 refine R_seq (QaY (Qaf (Qab rfl rfl (Qad (r:=[.int .i64 st,.int .i64 env,.bool out,t0,t1,t2]) rfl (w5.get 2 rfl) (by simp) rfl) rfl (Qab rfl rfl (Qad (r:=[.int .i64 st,.int .i64 env,.bool out,t0,t1,t2]) rfl (w5.get 2 rfl) (by simp) rfl) rfl (Qab rfl rfl rfl rfl ?_)))))
 simp only [sN,s0,sS,a0,aS,aC,AV.cells,hm]
 have w6:=w5.alloc (.cells [.int .i64 0,.int .i64 0,.bool false,.int .i64 0,.int .i64 0,.nilslice] (some 55) 0 [])
 generalize h5.alloc (.cells [.int .i64 0,.int .i64 0,.bool false,.int .i64 0,.int .i64 0,.nilslice] (some 55) 0 []) = h6 at w6 ⊢
 generalize h5.next = b4 at w6 ⊢
 clear w5
 refine Qab rfl rfl rfl rfl ?_
 simp only [sN,s0,sS,a0,aS,aC,AV.cells,hm]
 have w7:=w6.alloc (.cells [.int .i64 0,.int .i64 0,.bool false,.int .i64 0,.int .i64 0,.nilslice] (some 55) 0 [])
 generalize h6.alloc (.cells [.int .i64 0,.int .i64 0,.bool false,.int .i64 0,.int .i64 0,.nilslice] (some 55) 0 []) = h7 at w7 ⊢
 generalize h6.next = b5 at w7 ⊢
 clear w6
 refine Qac ?_
 have w8 : Wk _ (h7.put b4 (.cells [.int .i64 st,.int .i64 env,.bool out,t0,t1,t2] (some 55) 0 [])) [(b5,.cells [.int .i64 0,.int .i64 0,.bool false,.int .i64 0,.int .i64 0,.nilslice] (some 55) 0 []),(b4,.cells [.int .i64 st,.int .i64 env,.bool out,t0,t1,t2] (some 55) 0 []),(b3,.cells [.int .i64 0,.int .i64 m,.nilslice] (some 51) 0 []),(b2,.cells [q0,q1,q2] (some 51) 0 []),(b1,.cells [.int .i64 st,.int .i64 env,.bool out,t0,t1,t2] (some 55) 0 [])]:=w7.put 1 rfl _
 refine QaD rfl rfl (Qar (l':=[.int .i64 st,.int .i64 env,.bool out,t0,t1,t2]) (vs:=[.int .i64 st,.int .i64 env,.bool out,t0,t1,t2]) rfl rfl rfl (one6 (QcV hrep)) (w7.get 1 rfl) (by simp) rfl) (by simp only [sN,s0,sS,a0,aS,aC,List.all_cons,List.all_nil,Bool.and_true,Bool.and_eq_true]; exact Qak rfl rfl rfl rfl (Qad (r:=[.int .i64 st,.int .i64 env,.bool out,t0,t1,t2]) rfl (w8.get 4 rfl) (by simp) rfl) rfl) ?_
 simp only [sN,s0,sS,a0,aS,aC,AV.cells,hm]
 generalize h7.put b4 (.cells [.int .i64 st,.int .i64 env,.bool out,t0,t1,t2] (some 55) 0 []) = h8 at w8 ⊢
 clear w7
 refine Qaf (Qac ?_)
 refine QaD rfl rfl (Qar (l':=[.int .i64 st,.int .i64 env,.bool out,t0,t1,t2]) (vs:=[.int .i64 st,.int .i64 env,.bool out,t0,t1,t2]) rfl rfl rfl (one6 (QcV hrep)) (w8.get 0 rfl) (by simp) rfl) rfl ?_
 simp only [sN,s0,sS,a0,aS,aC,AV.cells,hm]
 have w9 : Wk _ (h8.put b5 (.cells [.int .i64 st,.int .i64 env,.bool out,t0,t1,t2] (some 55) 0 [])) [(b5,.cells [.int .i64 st,.int .i64 env,.bool out,t0,t1,t2] (some 55) 0 []),(b4,.cells [.int .i64 st,.int .i64 env,.bool out,t0,t1,t2] (some 55) 0 []),(b3,.cells [.int .i64 0,.int .i64 m,.nilslice] (some 51) 0 []),(b2,.cells [q0,q1,q2] (some 51) 0 []),(b1,.cells [.int .i64 st,.int .i64 env,.bool out,t0,t1,t2] (some 55) 0 [])]:=w8.put 0 rfl _
 generalize h8.put b5 (.cells [.int .i64 st,.int .i64 env,.bool out,t0,t1,t2] (some 55) 0 []) = h9 at w9 ⊢
 clear w8
 refine Qaf (Qap (Qat (QaX ?_)))
 refine R_seq (Qaa (R_op rfl rfl rfl (R_op rfl rfl (Qdw (l':=[.int .i64 st,.int .i64 env,.bool false,t0,t1,t2]) (v:=.bool false) rfl rfl rfl rfl rfl (w9.get 1 rfl) (by simp) rfl) ?_)))
 simp only [sN,s0,sS,a0,aS,aC,AV.cells,hm]
 have w10 : Wk _ (h9.put b4 (.cells [.int .i64 st,.int .i64 env,.bool false,t0,t1,t2] (some 55) 0 [])) [(b5,.cells [.int .i64 st,.int .i64 env,.bool out,t0,t1,t2] (some 55) 0 []),(b4,.cells [.int .i64 st,.int .i64 env,.bool false,t0,t1,t2] (some 55) 0 []),(b3,.cells [.int .i64 0,.int .i64 m,.nilslice] (some 51) 0 []),(b2,.cells [q0,q1,q2] (some 51) 0 []),(b1,.cells [.int .i64 st,.int .i64 env,.bool out,t0,t1,t2] (some 55) 0 [])]:=w9.put 1 rfl _
 generalize h9.put b4 (.cells [.int .i64 st,.int .i64 env,.bool false,t0,t1,t2] (some 55) 0 []) = h10 at w10 ⊢
 clear w9
 refine R_op rfl rfl rfl (R_op rfl rfl (Qdw (l':=[.int .i64 st,.int .i64 env,.bool true,t0,t1,t2]) (v:=.bool true) rfl rfl rfl rfl rfl (w10.get 0 rfl) (by simp) rfl) ?_)
 simp only [sN,s0,sS,a0,aS,aC,AV.cells,hm]
 have w11 : Wk _ (h10.put b5 (.cells [.int .i64 st,.int .i64 env,.bool true,t0,t1,t2] (some 55) 0 [])) [(b5,.cells [.int .i64 st,.int .i64 env,.bool true,t0,t1,t2] (some 55) 0 []),(b4,.cells [.int .i64 st,.int .i64 env,.bool false,t0,t1,t2] (some 55) 0 []),(b3,.cells [.int .i64 0,.int .i64 m,.nilslice] (some 51) 0 []),(b2,.cells [q0,q1,q2] (some 51) 0 []),(b1,.cells [.int .i64 st,.int .i64 env,.bool out,t0,t1,t2] (some 55) 0 [])]:=w10.put 0 rfl _
 generalize h10.put b5 (.cells [.int .i64 st,.int .i64 env,.bool true,t0,t1,t2] (some 55) 0 []) = h11 at w11 ⊢
 clear w10
 refine R_nil ?_
 refine R_seq (Qaa (R_op rfl rfl (Qad (r:=[.int .i64 st,.int .i64 env,.bool false,t0,t1,t2]) rfl (w11.get 1 rfl) (by simp) rfl) (R_op rfl rfl rfl (R_op rfl rfl (Qad (r:=[t0,t1,t2]) rfl (w11.get 4 rfl) (by simp) rfl) (Qau rfl rfl rfl (L.mvalued _) (QeJ L hs w11.self (Nat.le_refl _) (w11.rep hN hrep) hV) ?_ (fun _ _ e=>e.elim))))))
 rintro v h12 ⟨rfl,u12⟩
 have w12:=w11.call u12
 clear w11 u12
 simp only [sN,s0,sS,a0,aS,aC,AV.cells,hm]
 refine R_op rfl rfl rfl (R_op rfl rfl rfl (R_op rfl rfl rfl (R_op rfl rfl rfl (R_op rfl rfl rfl (R_nil ?_)))))
 simp only [sN,s0,sS,a0,aS,aC,AV.cells,hm]
 refine R_seq (Qaa (R_op rfl rfl (Qad (r:=[.int .i64 st,.int .i64 env,.bool true,t0,t1,t2]) rfl (w12.get 0 rfl) (by simp) rfl) (R_op rfl rfl rfl (R_op rfl rfl (Qad (r:=[t0,t1,t2]) rfl (w12.get 4 rfl) (by simp) rfl) (Qau rfl rfl rfl (L.mvalued _) (QeJ L hs w12.self (Nat.le_refl _) (w12.rep hN hrep) hW) ?_ (fun _ _ e=>e.elim))))))
 rintro v h13 ⟨rfl,u13⟩
 have w13:=w12.call u13
 clear w12 u13
 simp only [sN,s0,sS,a0,aS,aC,AV.cells,hm]
 refine R_op rfl rfl rfl (R_op rfl rfl rfl (R_op rfl rfl rfl (R_op rfl rfl rfl (R_op rfl rfl rfl (R_nil ?_)))))
 simp only [sN,s0,sS,a0,aS,aC,AV.cells,hm]
 refine R_seq (R_seq (Qaa (R_op rfl rfl rfl (R_op rfl rfl rfl (R_op (v:=.bool false) rfl rfl rfl (R_nil ?_))))))
 simp only [sN,s0,sS,a0,aS,aC,AV.cells,hm]
 refine Qaw rfl (QaF (R_seq (R_seq (Qaa (R_op rfl rfl rfl (R_op rfl rfl rfl (R_nil ?_)))))))
 simp only [sN,s0,sS,a0,aS,aC,AV.cells,hm]
 refine Qaw rfl (QaF (R_seq (Qaa (R_op rfl rfl rfl (R_op (v:=.int .i64 ((wn : Nat) : Int)) rfl rfl rfl (R_op (v:=.bool true) rfl rfl (x_geq rfl rfl f1) ?_))))))
 simp only [sN,s0,sS,a0,aS,aC,AV.cells,hm]
 refine R_op rfl rfl rfl (R_op rfl rfl rfl (R_op (v:=.str 4 1534227013) rfl rfl (Qoa (k:=4) rfl f1 f2) (R_op (v:=.bool true) rfl rfl rfl (R_op rfl rfl rfl (R_op rfl rfl rfl (R_nil ?_))))))
 simp only [sN,s0,sS,a0,aS,aC,AV.cells,hm]
 refine R_seq (R_seq (Qaa (R_op rfl rfl rfl (R_op rfl rfl rfl (R_op (v:=.int .i64 ((vn : Nat) : Int)) rfl rfl rfl (R_op (v:=.bool true) rfl rfl (x_geq rfl rfl f3) ?_))))))
 simp only [sN,s0,sS,a0,aS,aC,AV.cells,hm]
 refine R_op rfl rfl rfl (R_op rfl rfl rfl (R_op (v:=.str 14 1854766649597775202016452575584592) rfl rfl (Qoa (k:=14) rfl f3 f4) (R_op (v:=.bool true) rfl rfl rfl (R_op rfl rfl rfl (R_op (v:=.bool false) rfl rfl rfl (R_nil ?_))))))
 simp only [sN,s0,sS,a0,aS,aC,AV.cells,hm]
 refine Qaw rfl (QaF (R_seq (R_seq (Qaa (R_op rfl rfl rfl (R_op rfl rfl rfl ?_))))))
 simp only [sN,s0,sS,a0,aS,aC,AV.cells,hm]
 refine R_op rfl rfl rfl (R_op (v:=.int .i64 ((vn : Nat) : Int)) rfl rfl rfl (R_op rfl rfl rfl (R_op (v:=.int .i64 ((wn : Nat) : Int)) rfl rfl rfl (R_op (v:=.int .i64 ((10 + wn : Nat) : Int)) rfl rfl (Qqa rfl rfl f7) (R_op (v:=.bool false) rfl rfl (x_lssF rfl rfl f5) (R_op rfl rfl rfl ?_))))))
 simp only [sN,s0,sS,a0,aS,aC,AV.cells,hm]
 refine R_op rfl rfl rfl (R_op rfl rfl rfl (R_op (v:=.int .i64 ((wn : Nat) : Int)) rfl rfl rfl (R_op (v:=.int .i64 ((10 + wn : Nat) : Int)) rfl rfl (Qqa rfl rfl f7) (R_op (v:=.str wn wb) rfl rfl (x_subM rfl rfl rfl f5 f6) (R_op rfl rfl rfl (R_op (v:=.bool false) rfl rfl (x_neqS rfl rfl) ?_))))))
 simp only [sN,s0,sS,a0,aS,aC,AV.cells,hm]
 refine R_op rfl rfl rfl (R_op rfl rfl rfl (R_nil ?_))
 simp only [sN,s0,sS,a0,aS,aC,AV.cells,hm]
 refine Qaw rfl (QaF (R_seq (R_seq (QaY (Qaf (Qab rfl rfl rfl rfl ?_))))))
 simp only [sN,s0,sS,a0,aS,aC,AV.cells,hm]
 refine Qab rfl rfl rfl rfl (Qab rfl rfl rfl rfl (QaZ rfl (QaZ rfl (QaZ rfl (QaZ rfl (QaZ rfl ?_))))))
 simp only [sN,s0,sS,a0,aS,aC,AV.cells,hm]
 refine QaZ rfl (QaZ rfl (Qac ?_))
 simp only [sN,s0,sS,a0,aS,aC,AV.cells,hm]
 refine Qgq rfl (by simp only [sN,s0,sS,a0,aS,aC,List.all_cons,List.all_nil,Bool.and_true,Bool.and_eq_true]; exact ⟨Qgo rfl,Qgo rfl⟩) (Qaf (Qac ?_))
 simp only [sN,s0,sS,a0,aS,aC,AV.cells,hm]
 refine Qgq rfl rfl (Qaf (QaZ rfl (Qab rfl rfl rfl rfl (Qab rfl rfl rfl rfl (Qab rfl rfl rfl rfl (Qab rfl rfl rfl rfl ?_))))))
 simp only [sN,s0,sS,a0,aS,aC,AV.cells,hm]
 refine Qab rfl rfl (Qad (r:=[.int .i64 st,.int .i64 env,.bool out,t0,t1,t2]) rfl (w13.get 4 rfl) (by simp) rfl) rfl (Qab rfl rfl rfl rfl (Qab rfl rfl (Qad (r:=[t0,t1,t2]) rfl (w13.get 4 rfl) (by simp) rfl) rfl (Qab rfl rfl (Qad (r:=[q0,q1,q2]) rfl (w13.get 3 rfl) (by simp) rfl) rfl (Qab rfl rfl (x_two (x0:=t0) (x1:=t1) (x2:=t2) (y0:=q0) (y1:=q1) (y2:=q2) rfl rfl) rfl ?_))))
 simp only [sN,s0,sS,a0,aS,aC,AV.cells,hm]
 have w14:=w13.alloc (.cells [t0,t1,t2,q0,q1,q2] none 0 [])
 generalize h13.alloc (.cells [t0,t1,t2,q0,q1,q2] none 0 []) = h14 at w14 ⊢
 generalize h13.next = b6 at w14 ⊢
 clear w13
 refine Qab rfl rfl rfl rfl (Qab rfl rfl (Qad (r:=[t0,t1,t2]) rfl (w14.get 5 rfl) (by simp) rfl) rfl (Qac ?_))
 simp only [sN,s0,sS,a0,aS,aC,AV.cells,hm]
 refine Qae rfl rfl rfl (L.mterm _) (Qan L.term rfl rfl rfl w14.self) ?_ (fun _ _ e=>e.elim)
 rintro v h15 ⟨rfl,u15⟩
 have w15:=w14.call u15
 clear w14 u15
 refine ⟨?_,?_⟩
 ·simp only [sN,s0,sS,a0,aS,aC,List.all_cons,List.all_nil,Bool.and_true,Bool.and_eq_true]
  exact ⟨Qak rfl rfl rfl rfl (Qad (r:=[.int .i64 st,.int .i64 env,.bool out,t0,t1,t2]) rfl (w15.get 5 rfl) (by simp) rfl) rfl,Qak rfl rfl rfl rfl (Qad (r:=[t0,t1,t2]) rfl (w15.get 5 rfl) (by simp) rfl) rfl⟩
 simp only [sN,s0,sS,a0,aS,aC,AV.cells,hm]
 refine Qaf (Qac ?_)
 refine Qae rfl rfl rfl (L.mequal _) (QaI L (Qao hs hsU) hs w15.self (Nat.le_refl _) (QaA (w15.lt 0 rfl) (w15.get 0 rfl) (w15.rep hN hrep) (w15.rep hN hrepU)) (w15.rep hN hrep) (show den (tm 9 [T,U]) env ⟨st,[]⟩ = den T env ⟨st,[]⟩ by rw [Qlz,hd]; rfl)) ?_ (fun _ _ e=>e.elim)
 rintro v h16 ⟨rfl,u16⟩
 have w16:=w15.call u16
 clear w15 u16
 refine ⟨?_,?_⟩
 ·rfl
 simp only [sN,s0,sS,a0,aS,aC,AV.cells,hm]
 refine Qaf (Qab rfl rfl rfl rfl (Qab rfl rfl rfl rfl (Qab rfl rfl rfl rfl (Qap (Qat (QaX ?_))))))
 simp only [sN,s0,sS,a0,aS,aC,AV.cells,hm]
 refine Qaw rfl (QaF (R_seq (QaY (Qaf (Qab rfl rfl (Qad (r:=[.int .i64 0,.int .i64 m,.nilslice]) rfl (w16.get 3 rfl) (by simp) rfl) rfl (Qab rfl rfl (QbG (x0:=.int .i64 0) (x1:=.int .i64 m) (x2:=.nilslice) rfl) rfl ?_))))))
 simp only [sN,s0,sS,a0,aS,aC,AV.cells,hm]
 have w17:=w16.alloc (.cells [.int .i64 0,.int .i64 m,.nilslice] none 0 [])
 generalize h16.alloc (.cells [.int .i64 0,.int .i64 m,.nilslice] none 0 []) = h17 at w17 ⊢
 generalize h16.next = b7 at w17 ⊢
 clear w16
 refine Qab rfl rfl rfl rfl (Qab rfl rfl (Qad (r:=[t0,t1,t2]) rfl (w17.get 6 rfl) (by simp) rfl) rfl (Qab rfl rfl rfl rfl ?_))
 simp only [sN,s0,sS,a0,aS,aC,AV.cells,hm]
 have w18:=w17.alloc (.cells [.int .i64 0,.int .i64 0,.nilslice] (some 51) 0 [])
 generalize h17.alloc (.cells [.int .i64 0,.int .i64 0,.nilslice] (some 51) 0 []) = h18 at w18 ⊢
 generalize h17.next = b8 at w18 ⊢
 clear w17
 refine Qac ?_
 refine Qae rfl rfl rfl (L.mterm _) (Qan L.term rfl rfl rfl w18.self) ?_ (fun _ _ e=>e.elim)
 rintro v h19 ⟨rfl,u19⟩
 have w19:=w18.call u19
 clear w18 u19
 refine ⟨?_,?_⟩
 ·simp only [sN,s0,sS,a0,aS,aC,List.all_cons,List.all_nil,Bool.and_true,Bool.and_eq_true]
  exact ⟨Qak rfl rfl rfl rfl (Qad (r:=[t0,t1,t2]) rfl (w19.get 7 rfl) (by simp) rfl) rfl,QaB rfl rfl rfl rfl rfl rfl rfl (w19.get 0 rfl) rfl⟩
 simp only [sN,s0,sS,a0,aS,aC,AV.cells,hm]
 refine Qaf (Qab rfl rfl (x_two (x0:=.int .i64 5) (x1:=.int .i64 0) (x2:=.slice b7 0 1 1) (y0:=t0) (y1:=t1) (y2:=t2) rfl rfl) rfl ?_)
 simp only [sN,s0,sS,a0,aS,aC,AV.cells,hm]
 have w20:=w19.alloc (.cells [.int .i64 5,.int .i64 0,.slice b7 0 1 1,t0,t1,t2] none 0 [])
 generalize h19.alloc (.cells [.int .i64 5,.int .i64 0,.slice b7 0 1 1,t0,t1,t2] none 0 []) = h20 at w20 ⊢
 generalize h19.next = b9 at w20 ⊢
 clear w19
 refine Qac ?_
 refine Qae rfl rfl rfl (L.mterm _) (Qan L.term rfl rfl rfl w20.self) ?_ (fun _ _ e=>e.elim)
 rintro v h21 ⟨rfl,u21⟩
 have w21:=w20.call u21
 clear w20 u21
 refine ⟨?_,?_⟩
 ·simp only [sN,s0,sS,a0,aS,aC,List.all_cons,List.all_nil,Bool.and_true,Bool.and_eq_true]
  exact QaB rfl rfl rfl rfl rfl rfl rfl (w21.get 1 rfl) rfl
 simp only [sN,s0,sS,a0,aS,aC,AV.cells,hm]
 refine Qaf (Qac ?_)
 refine QaD rfl rfl (Qar (l':=[.int .i64 6,.int .i64 0,.slice b9 0 2 2]) (vs:=[.int .i64 6,.int .i64 0,.slice b9 0 2 2]) rfl rfl rfl rfl (w21.get 1 rfl) (by simp) rfl) rfl ?_
 simp only [sN,s0,sS,a0,aS,aC,AV.cells,hm]
 have w22 : Wk _ (h21.put b8 (.cells [.int .i64 6,.int .i64 0,.slice b9 0 2 2] (some 51) 0 [])) [(b9,.cells [.int .i64 5,.int .i64 0,.slice b7 0 1 1,t0,t1,t2] none 0 []),(b8,.cells [.int .i64 6,.int .i64 0,.slice b9 0 2 2] (some 51) 0 []),(b7,.cells [.int .i64 0,.int .i64 m,.nilslice] none 0 []),(b6,.cells [t0,t1,t2,q0,q1,q2] none 0 []),(b5,.cells [.int .i64 st,.int .i64 env,.bool true,t0,t1,t2] (some 55) 0 []),(b4,.cells [.int .i64 st,.int .i64 env,.bool false,t0,t1,t2] (some 55) 0 []),(b3,.cells [.int .i64 0,.int .i64 m,.nilslice] (some 51) 0 []),(b2,.cells [q0,q1,q2] (some 51) 0 []),(b1,.cells [.int .i64 st,.int .i64 env,.bool out,t0,t1,t2] (some 55) 0 [])]:=w21.put 1 rfl _
 generalize h21.put b8 (.cells [.int .i64 6,.int .i64 0,.slice b9 0 2 2] (some 51) 0 []) = h22 at w22 ⊢
 clear w21
 refine Qaf (Qap (Qat (QaX ?_)))
 refine R_seq (QaY (Qaf (Qab rfl rfl (Qad (r:=[.int .i64 st,.int .i64 env,.bool out,t0,t1,t2]) rfl (w22.get 8 rfl) (by simp) rfl) rfl (Qab rfl rfl (Qad (r:=[.int .i64 6,.int .i64 0,.slice b9 0 2 2]) rfl (w22.get 1 rfl) (by simp) rfl) rfl (Qab rfl rfl (Qad (r:=[.int .i64 0,.int .i64 m,.nilslice]) rfl (w22.get 6 rfl) (by simp) rfl) rfl (Qab rfl rfl rfl rfl ?_))))))
 simp only [sN,s0,sS,a0,aS,aC,AV.cells,hm]
 refine Qab rfl rfl (Qad (r:=[t0,t1,t2]) rfl (w22.get 8 rfl) (by simp) rfl) rfl (Qab rfl rfl (x_two (x0:=.int .i64 0) (x1:=.int .i64 m) (x2:=.nilslice) (y0:=t0) (y1:=t1) (y2:=t2) rfl rfl) rfl ?_)
 simp only [sN,s0,sS,a0,aS,aC,AV.cells,hm]
 have w23:=w22.alloc (.cells [.int .i64 0,.int .i64 m,.nilslice,t0,t1,t2] none 0 [])
 generalize h22.alloc (.cells [.int .i64 0,.int .i64 m,.nilslice,t0,t1,t2] none 0 []) = h23 at w23 ⊢
 generalize h22.next = b10 at w23 ⊢
 clear w22
 refine Qac ?_
 refine Qae rfl rfl rfl (L.mterm _) (Qan L.term rfl rfl rfl w23.self) ?_ (fun _ _ e=>e.elim)
 rintro v h24 ⟨rfl,u24⟩
 have w24:=w23.call u24
 clear w23 u24
 refine ⟨?_,?_⟩
 ·simp only [sN,s0,sS,a0,aS,aC,List.all_cons,List.all_nil,Bool.and_true,Bool.and_eq_true]
  exact ⟨Qak rfl rfl rfl rfl (Qad (r:=[.int .i64 st,.int .i64 env,.bool out,t0,t1,t2]) rfl (w24.get 9 rfl) (by simp) rfl) rfl,Qak rfl rfl rfl rfl (Qad (r:=[.int .i64 6,.int .i64 0,.slice b9 0 2 2]) rfl (w24.get 2 rfl) (by simp) rfl) rfl⟩
 simp only [sN,s0,sS,a0,aS,aC,AV.cells,hm]
 refine Qaf (Qac ?_)
 refine Qae rfl rfl rfl (L.mequal _) (QaI L (Qao (Qaz (Qam 0 m)) hs) (Qao (Qam 0 m) hs) w24.self (Nat.le_refl _) (QaA (w24.lt 1 rfl) (w24.get 1 rfl) (QaJ (w24.lt 3 rfl) (w24.get 3 rfl) (Qas _ _ 0 m)) (w24.rep hN hrep)) (QaA (w24.lt 0 rfl) (w24.get 0 rfl) (Qas _ _ 0 m) (w24.rep hN hrep)) (Qqj T m env ⟨st,[]⟩)) ?_ (fun _ _ e=>e.elim)
 rintro v h25 ⟨rfl,u25⟩
 have w25:=w24.call u25
 clear w24 u25
 refine ⟨?_,?_⟩
 ·rfl
 simp only [sN,s0,sS,a0,aS,aC,AV.cells,hm]
 refine Qaf (Qab rfl rfl rfl rfl (Qab rfl rfl (Qad (r:=[.int .i64 st,.int .i64 env,.bool out,t0,t1,t2]) rfl (w25.get 9 rfl) (by simp) rfl) rfl (Qab rfl rfl (Qad (r:=[.int .i64 0,.int .i64 m,.nilslice]) rfl (w25.get 7 rfl) (by simp) rfl) rfl (Qab rfl rfl (QbG (x0:=.int .i64 0) (x1:=.int .i64 m) (x2:=.nilslice) rfl) rfl ?_))))
 simp only [sN,s0,sS,a0,aS,aC,AV.cells,hm]
 have w26:=w25.alloc (.cells [.int .i64 0,.int .i64 m,.nilslice] none 0 [])
 generalize h25.alloc (.cells [.int .i64 0,.int .i64 m,.nilslice] none 0 []) = h26 at w26 ⊢
 generalize h25.next = b11 at w26 ⊢
 clear w25
 refine Qab rfl rfl (Qad (r:=[.int .i64 0,.int .i64 m,.nilslice]) rfl (w26.get 8 rfl) (by simp) rfl) rfl (Qab rfl rfl (QbG (x0:=.int .i64 0) (x1:=.int .i64 m) (x2:=.nilslice) rfl) rfl ?_)
 simp only [sN,s0,sS,a0,aS,aC,AV.cells,hm]
 have w27:=w26.alloc (.cells [.int .i64 0,.int .i64 m,.nilslice] none 0 [])
 generalize h26.alloc (.cells [.int .i64 0,.int .i64 m,.nilslice] none 0 []) = h27 at w27 ⊢
 generalize h26.next = b12 at w27 ⊢
 clear w26
 refine Qac ?_
 refine Qae rfl rfl rfl (L.mterm _) (Qan L.term rfl rfl rfl w27.self) ?_ (fun _ _ e=>e.elim)
 rintro v h28 ⟨rfl,u28⟩
 have w28:=w27.call u28
 clear w27 u28
 refine ⟨?_,?_⟩
 ·simp only [sN,s0,sS,a0,aS,aC,List.all_cons,List.all_nil,Bool.and_true,Bool.and_eq_true]
  exact ⟨Qak rfl rfl rfl rfl (Qad (r:=[.int .i64 st,.int .i64 env,.bool out,t0,t1,t2]) rfl (w28.get 11 rfl) (by simp) rfl) rfl,Qak rfl rfl rfl rfl (Qad (r:=[.int .i64 0,.int .i64 m,.nilslice]) rfl (w28.get 9 rfl) (by simp) rfl) rfl,QaB (ob:=.cells [.int .i64 0,.int .i64 m,.nilslice] none 0 []) rfl rfl rfl rfl rfl rfl rfl (w28.get 0 rfl) (by simp [AO.same,AV.same])⟩
 simp only [sN,s0,sS,a0,aS,aC,AV.cells,hm]
 refine Qaf (Qab rfl rfl (QbG (x0:=.int .i64 5) (x1:=.int .i64 0) (x2:=.slice b11 0 1 1) rfl) rfl ?_)
 simp only [sN,s0,sS,a0,aS,aC,AV.cells,hm]
 have w29:=w28.alloc (.cells [.int .i64 5,.int .i64 0,.slice b11 0 1 1] none 0 [])
 generalize h28.alloc (.cells [.int .i64 5,.int .i64 0,.slice b11 0 1 1] none 0 []) = h29 at w29 ⊢
 generalize h28.next = b13 at w29 ⊢
 clear w28
 refine Qac ?_
 refine Qae rfl rfl rfl (L.mterm _) (Qan L.term rfl rfl rfl w29.self) ?_ (fun _ _ e=>e.elim)
 rintro v h30 ⟨rfl,u30⟩
 have w30:=w29.call u30
 clear w29 u30
 refine ⟨?_,?_⟩
 ·simp only [sN,s0,sS,a0,aS,aC,List.all_cons,List.all_nil,Bool.and_true,Bool.and_eq_true]
  exact ⟨Qak rfl rfl rfl rfl (Qad (r:=[.int .i64 st,.int .i64 env,.bool out,t0,t1,t2]) rfl (w30.get 12 rfl) (by simp) rfl) rfl,Qak rfl rfl rfl rfl (Qad (r:=[.int .i64 0,.int .i64 m,.nilslice]) rfl (w30.get 10 rfl) (by simp) rfl) rfl,QaB (ob:=.cells [.int .i64 0,.int .i64 m,.nilslice] none 0 []) rfl rfl rfl rfl rfl rfl rfl (w30.get 1 rfl) (by simp [AO.same,AV.same])⟩
 simp only [sN,s0,sS,a0,aS,aC,AV.cells,hm]
 refine Qaf (Qac ?_)
 refine Qae rfl rfl rfl (L.mterm _) (Qan L.term rfl rfl rfl w30.self) ?_ (fun _ _ e=>e.elim)
 rintro v h31 ⟨rfl,u31⟩
 have w31:=w30.call u31
 clear w30 u31
 refine ⟨?_,?_⟩
 ·simp only [sN,s0,sS,a0,aS,aC,List.all_cons,List.all_nil,Bool.and_true,Bool.and_eq_true]
  exact Qak rfl rfl rfl rfl (Qad (r:=[.int .i64 st,.int .i64 env,.bool out,t0,t1,t2]) rfl (w31.get 12 rfl) (by simp) rfl) rfl
 simp only [sN,s0,sS,a0,aS,aC,AV.cells,hm]
 refine Qaf (Qac ?_)
 refine Qae rfl rfl rfl (L.mequal _) (QaI L (Qaz (Qaz (Qam 0 m))) (Qaz (Qam 0 m)) w31.self (Nat.le_refl _) (QaJ (w31.lt 0 rfl) (w31.get 0 rfl) (QaJ (w31.lt 2 rfl) (w31.get 2 rfl) (Qas _ _ 0 m))) (QaJ (w31.lt 1 rfl) (w31.get 1 rfl) (Qas _ _ 0 m)) (Qqi m env ⟨st,[]⟩)) ?_ (fun _ _ e=>e.elim)
 rintro v h32 ⟨rfl,u32⟩
 have w32:=w31.call u32
 clear w31 u32
 refine ⟨?_,?_⟩
 ·rfl
 simp only [sN,s0,sS,a0,aS,aC,AV.cells,hm]
 refine Qaf (Qab rfl rfl rfl rfl (Qab rfl rfl rfl rfl (Qab rfl rfl (Qad (r:=[.int .i64 st,.int .i64 env,.bool out,t0,t1,t2]) rfl (w32.get 12 rfl) (by simp) rfl) rfl (Qab rfl rfl (Qad (r:=[.int .i64 0,.int .i64 m,.nilslice]) rfl (w32.get 10 rfl) (by simp) rfl) rfl (Qab rfl rfl (QbG (x0:=.int .i64 0) (x1:=.int .i64 m) (x2:=.nilslice) rfl) rfl ?_)))))
 simp only [sN,s0,sS,a0,aS,aC,AV.cells,hm]
 have w33:=w32.alloc (.cells [.int .i64 0,.int .i64 m,.nilslice] none 0 [])
 generalize h32.alloc (.cells [.int .i64 0,.int .i64 m,.nilslice] none 0 []) = h33 at w33 ⊢
 generalize h32.next = b14 at w33 ⊢
 clear w32
 refine Qab rfl rfl (Qad (r:=[q0,q1,q2]) rfl (w33.get 12 rfl) (by simp) rfl) rfl (Qab rfl rfl (Qad (r:=[.int .i64 0,.int .i64 m,.nilslice]) rfl (w33.get 11 rfl) (by simp) rfl) rfl (Qab rfl rfl (QbG (x0:=.int .i64 0) (x1:=.int .i64 m) (x2:=.nilslice) rfl) rfl ?_))
 simp only [sN,s0,sS,a0,aS,aC,AV.cells,hm]
 have w34:=w33.alloc (.cells [.int .i64 0,.int .i64 m,.nilslice] none 0 [])
 generalize h33.alloc (.cells [.int .i64 0,.int .i64 m,.nilslice] none 0 []) = h34 at w34 ⊢
 generalize h33.next = b15 at w34 ⊢
 clear w33
 refine Qac ?_
 refine Qae rfl rfl rfl (L.mterm _) (Qan L.term rfl rfl rfl w34.self) ?_ (fun _ _ e=>e.elim)
 rintro v h35 ⟨rfl,u35⟩
 have w35:=w34.call u35
 clear w34 u35
 refine ⟨?_,?_⟩
 ·simp only [sN,s0,sS,a0,aS,aC,List.all_cons,List.all_nil,Bool.and_true,Bool.and_eq_true]
  exact ⟨Qak rfl rfl rfl rfl (Qad (r:=[.int .i64 st,.int .i64 env,.bool out,t0,t1,t2]) rfl (w35.get 14 rfl) (by simp) rfl) rfl,Qak rfl rfl rfl rfl (Qad (r:=[q0,q1,q2]) rfl (w35.get 13 rfl) (by simp) rfl) rfl,Qak rfl rfl rfl rfl (Qad (r:=[.int .i64 0,.int .i64 m,.nilslice]) rfl (w35.get 12 rfl) (by simp) rfl) rfl,QaB (ob:=.cells [.int .i64 0,.int .i64 m,.nilslice] none 0 []) rfl rfl rfl rfl rfl rfl rfl (w35.get 0 rfl) (by simp [AO.same,AV.same])⟩
 simp only [sN,s0,sS,a0,aS,aC,AV.cells,hm]
 refine Qaf (Qab rfl rfl (x_two (x0:=.int .i64 5) (x1:=.int .i64 0) (x2:=.slice b14 0 1 1) (y0:=q0) (y1:=q1) (y2:=q2) rfl rfl) rfl ?_)
 simp only [sN,s0,sS,a0,aS,aC,AV.cells,hm]
 have w36:=w35.alloc (.cells [.int .i64 5,.int .i64 0,.slice b14 0 1 1,q0,q1,q2] none 0 [])
 generalize h35.alloc (.cells [.int .i64 5,.int .i64 0,.slice b14 0 1 1,q0,q1,q2] none 0 []) = h36 at w36 ⊢
 generalize h35.next = b16 at w36 ⊢
 clear w35
 refine Qac ?_
 refine Qae rfl rfl rfl (L.mterm _) (Qan L.term rfl rfl rfl w36.self) ?_ (fun _ _ e=>e.elim)
 rintro v h37 ⟨rfl,u37⟩
 have w37:=w36.call u37
 clear w36 u37
 refine ⟨?_,?_⟩
 ·simp only [sN,s0,sS,a0,aS,aC,List.all_cons,List.all_nil,Bool.and_true,Bool.and_eq_true]
  exact ⟨Qak rfl rfl rfl rfl (Qad (r:=[.int .i64 st,.int .i64 env,.bool out,t0,t1,t2]) rfl (w37.get 15 rfl) (by simp) rfl) rfl,Qak rfl rfl rfl rfl (Qad (r:=[.int .i64 0,.int .i64 m,.nilslice]) rfl (w37.get 13 rfl) (by simp) rfl) rfl,QaB (ob:=.cells [.int .i64 0,.int .i64 m,.nilslice] none 0 []) rfl rfl rfl rfl rfl rfl rfl (w37.get 1 rfl) (by simp [AO.same,AV.same])⟩
 simp only [sN,s0,sS,a0,aS,aC,AV.cells,hm]
 refine Qaf (Qac ?_)
 refine Qae rfl rfl rfl (L.mterm _) (Qan L.term rfl rfl rfl w37.self) ?_ (fun _ _ e=>e.elim)
 rintro v h38 ⟨rfl,u38⟩
 have w38:=w37.call u38
 clear w37 u38
 refine ⟨?_,?_⟩
 ·simp only [sN,s0,sS,a0,aS,aC,List.all_cons,List.all_nil,Bool.and_true,Bool.and_eq_true]
  exact Qak rfl rfl rfl rfl (Qad (r:=[.int .i64 st,.int .i64 env,.bool out,t0,t1,t2]) rfl (w38.get 15 rfl) (by simp) rfl) rfl
 simp only [sN,s0,sS,a0,aS,aC,AV.cells,hm]
 refine Qaf (Qac ?_)
 refine Qae rfl rfl rfl (L.mequal _) (QaI L (Qao (Qaz (Qam 0 m)) hsU) (Qaz (Qam 0 m)) w38.self (Nat.le_refl _) (QaA (w38.lt 0 rfl) (w38.get 0 rfl) (QaJ (w38.lt 2 rfl) (w38.get 2 rfl) (Qas _ _ 0 m)) (w38.rep hN hrepU)) (QaJ (w38.lt 1 rfl) (w38.get 1 rfl) (Qas _ _ 0 m)) (Qqh U m env ⟨st,[]⟩)) ?_ (fun _ _ e=>e.elim)
 rintro v h39 ⟨rfl,u39⟩
 have w39:=w38.call u39
 clear w38 u39
 refine ⟨?_,?_⟩
 ·rfl
 simp only [sN,s0,sS,a0,aS,aC,AV.cells,hm]
 refine Qaf (Qab rfl rfl rfl rfl (Qab rfl rfl rfl rfl (Qac ?_)))
 simp only [sN,s0,sS,a0,aS,aC,AV.cells,hm]
 refine QkF rfl rfl rfl hA (hAe _) rfl (Qaf (Qab rfl rfl rfl rfl (Qab rfl rfl rfl rfl (Qap (Qat (QaX ?_))))))
 simp only [sN,s0,sS,a0,aS,aC,AV.cells,hm]
 exact R_top ⟨rfl,rfl,rfl,rfl⟩ hF rfl
set_option maxHeartbeats 4000000 in
theorem Qp3 (L : Law F M ita rep) (hF : F Qdj = some QcB) {a : Int} {T U : LT} (hs : Short T) (hsU : Short U) {st env : Int} {out : Bool} {t0 t1 t2 q0 q1 q2 : AV} {N : Nat} {h : AH} (u : Up h h) (hN : N ≤ h.next) (hrep : Rep N h T [t0,t1,t2]) (hrepU : Rep N h U [q0,q1,q2])
  {vn vb wn wb : Nat} (hV : Qbr ita rep st env false T = ((vn,vb),0)) (hW : Qbr ita rep st env true T = ((wn,wb),0)) {n : Int} {s' : Sg} (hd : den T env ⟨st,[]⟩ = (.ret n,s')) (f1 : 4 ≤ wn) (f2 : subN wb 0 4 ≠ 1534227013) (f3 : 14 ≤ vn) (f4 : subN vb 0 14 ≠ 1854766649597775202016452575584592) :
  Top F M Qdj [.agg [.int .i64 st,.int .i64 env,.bool out,t0,t1,t2],.agg [q0,q1,q2],.int .i16 a] h (.bool true):=by
 obtain ⟨cA,hA,hAe⟩:=L.awake
 obtain ⟨m,hm⟩ : ∃ m,(IntKind.i64.wrap a).tmod 1000 = m:=⟨_,rfl⟩
 refine Top.intro hF ?_
 simp only [QcB,fn6,List.length_cons,List.length_nil,Nat.reduceAdd,Nat.reduceSub,rZ,rS,pN,pC]
 have w:=Wk.start u
 refine R_seq (Qaa (R_op rfl rfl rfl ?_))
 simp only [sN,s0,sS,a0,aS,aC,AV.cells,hm]
 have w1:=w.alloc (.cells [.int .i64 st,.int .i64 env,.bool out,t0,t1,t2] (some 55) 0 [])
 generalize h.alloc (.cells [.int .i64 st,.int .i64 env,.bool out,t0,t1,t2] (some 55) 0 []) = h1 at w1 ⊢
 generalize h.next = b1 at w1 ⊢
 clear w
 refine R_op rfl rfl rfl ?_
 simp only [sN,s0,sS,a0,aS,aC,AV.cells,hm]
 have w2:=w1.alloc (.cells [q0,q1,q2] (some 51) 0 [])
 generalize h1.alloc (.cells [q0,q1,q2] (some 51) 0 []) = h2 at w2 ⊢
 generalize h1.next = b2 at w2 ⊢
 clear w1
 refine R_op rfl rfl rfl (R_nil ?_)
 simp only [sN,s0,sS,a0,aS,aC,AV.cells,hm]
 refine R_seq (Qaa (R_op rfl rfl rfl (R_op rfl rfl rfl (R_op rfl rfl rfl (Qau rfl rfl rfl (L.mnum _) (Qba L.num w2.self) ?_ (fun _ _ e=>e.elim))))))
 rintro v h3 ⟨rfl,u3⟩
 have w3:=w2.call u3
 clear w2 u3
 simp only [sN,s0,sS,a0,aS,aC,AV.cells,hm]
 refine R_op rfl rfl rfl ?_
 simp only [sN,s0,sS,a0,aS,aC,AV.cells,hm]
 have w4:=w3.alloc (.cells [.int .i64 0,.int .i64 0,.nilslice] (some 51) 0 [])
 generalize h3.alloc (.cells [.int .i64 0,.int .i64 0,.nilslice] (some 51) 0 []) = h4 at w4 ⊢
 generalize h3.next = b3 at w4 ⊢
 clear w3
 refine R_op rfl rfl (Qar (l':=[.int .i64 0,.int .i64 m,.nilslice]) (vs:=[.int .i64 0,.int .i64 m,.nilslice]) rfl rfl rfl rfl (w4.get 0 rfl) (by simp) rfl) ?_
 simp only [sN,s0,sS,a0,aS,aC,AV.cells,hm]
 have w5 : Wk _ (h4.put b3 (.cells [.int .i64 0,.int .i64 m,.nilslice] (some 51) 0 [])) [(b3,.cells [.int .i64 0,.int .i64 m,.nilslice] (some 51) 0 []),(b2,.cells [q0,q1,q2] (some 51) 0 []),(b1,.cells [.int .i64 st,.int .i64 env,.bool out,t0,t1,t2] (some 55) 0 [])]:=w4.put 0 rfl _
 generalize h4.put b3 (.cells [.int .i64 0,.int .i64 m,.nilslice] (some 51) 0 []) = h5 at w5 ⊢
 clear w4
 refine R_nil ?_
 refine R_seq (QaY (Qaf (Qab rfl rfl (Qad (r:=[.int .i64 st,.int .i64 env,.bool out,t0,t1,t2]) rfl (w5.get 2 rfl) (by simp) rfl) rfl (Qab rfl rfl (Qad (r:=[.int .i64 st,.int .i64 env,.bool out,t0,t1,t2]) rfl (w5.get 2 rfl) (by simp) rfl) rfl (Qab rfl rfl rfl rfl ?_)))))
 simp only [sN,s0,sS,a0,aS,aC,AV.cells,hm]
 have w6:=w5.alloc (.cells [.int .i64 0,.int .i64 0,.bool false,.int .i64 0,.int .i64 0,.nilslice] (some 55) 0 [])
 generalize h5.alloc (.cells [.int .i64 0,.int .i64 0,.bool false,.int .i64 0,.int .i64 0,.nilslice] (some 55) 0 []) = h6 at w6 ⊢
 generalize h5.next = b4 at w6 ⊢
 clear w5
 refine Qab rfl rfl rfl rfl ?_
 simp only [sN,s0,sS,a0,aS,aC,AV.cells,hm]
 have w7:=w6.alloc (.cells [.int .i64 0,.int .i64 0,.bool false,.int .i64 0,.int .i64 0,.nilslice] (some 55) 0 [])
 generalize h6.alloc (.cells [.int .i64 0,.int .i64 0,.bool false,.int .i64 0,.int .i64 0,.nilslice] (some 55) 0 []) = h7 at w7 ⊢
 generalize h6.next = b5 at w7 ⊢
 clear w6
 refine Qac ?_
 have w8 : Wk _ (h7.put b4 (.cells [.int .i64 st,.int .i64 env,.bool out,t0,t1,t2] (some 55) 0 [])) [(b5,.cells [.int .i64 0,.int .i64 0,.bool false,.int .i64 0,.int .i64 0,.nilslice] (some 55) 0 []),(b4,.cells [.int .i64 st,.int .i64 env,.bool out,t0,t1,t2] (some 55) 0 []),(b3,.cells [.int .i64 0,.int .i64 m,.nilslice] (some 51) 0 []),(b2,.cells [q0,q1,q2] (some 51) 0 []),(b1,.cells [.int .i64 st,.int .i64 env,.bool out,t0,t1,t2] (some 55) 0 [])]:=w7.put 1 rfl _
 refine QaD rfl rfl (Qar (l':=[.int .i64 st,.int .i64 env,.bool out,t0,t1,t2]) (vs:=[.int .i64 st,.int .i64 env,.bool out,t0,t1,t2]) rfl rfl rfl (one6 (QcV hrep)) (w7.get 1 rfl) (by simp) rfl) (by simp only [sN,s0,sS,a0,aS,aC,List.all_cons,List.all_nil,Bool.and_true,Bool.and_eq_true]; exact Qak rfl rfl rfl rfl (Qad (r:=[.int .i64 st,.int .i64 env,.bool out,t0,t1,t2]) rfl (w8.get 4 rfl) (by simp) rfl) rfl) ?_
 simp only [sN,s0,sS,a0,aS,aC,AV.cells,hm]
 generalize h7.put b4 (.cells [.int .i64 st,.int .i64 env,.bool out,t0,t1,t2] (some 55) 0 []) = h8 at w8 ⊢
 clear w7
 refine Qaf (Qac ?_)
 refine QaD rfl rfl (Qar (l':=[.int .i64 st,.int .i64 env,.bool out,t0,t1,t2]) (vs:=[.int .i64 st,.int .i64 env,.bool out,t0,t1,t2]) rfl rfl rfl (one6 (QcV hrep)) (w8.get 0 rfl) (by simp) rfl) rfl ?_
 simp only [sN,s0,sS,a0,aS,aC,AV.cells,hm]
 have w9 : Wk _ (h8.put b5 (.cells [.int .i64 st,.int .i64 env,.bool out,t0,t1,t2] (some 55) 0 [])) [(b5,.cells [.int .i64 st,.int .i64 env,.bool out,t0,t1,t2] (some 55) 0 []),(b4,.cells [.int .i64 st,.int .i64 env,.bool out,t0,t1,t2] (some 55) 0 []),(b3,.cells [.int .i64 0,.int .i64 m,.nilslice] (some 51) 0 []),(b2,.cells [q0,q1,q2] (some 51) 0 []),(b1,.cells [.int .i64 st,.int .i64 env,.bool out,t0,t1,t2] (some 55) 0 [])]:=w8.put 0 rfl _
 generalize h8.put b5 (.cells [.int .i64 st,.int .i64 env,.bool out,t0,t1,t2] (some 55) 0 []) = h9 at w9 ⊢
 clear w8
 refine Qaf (Qap (Qat (QaX ?_)))
 refine R_seq (Qaa (R_op rfl rfl rfl (R_op rfl rfl (Qdw (l':=[.int .i64 st,.int .i64 env,.bool false,t0,t1,t2]) (v:=.bool false) rfl rfl rfl rfl rfl (w9.get 1 rfl) (by simp) rfl) ?_)))
 simp only [sN,s0,sS,a0,aS,aC,AV.cells,hm]
 have w10 : Wk _ (h9.put b4 (.cells [.int .i64 st,.int .i64 env,.bool false,t0,t1,t2] (some 55) 0 [])) [(b5,.cells [.int .i64 st,.int .i64 env,.bool out,t0,t1,t2] (some 55) 0 []),(b4,.cells [.int .i64 st,.int .i64 env,.bool false,t0,t1,t2] (some 55) 0 []),(b3,.cells [.int .i64 0,.int .i64 m,.nilslice] (some 51) 0 []),(b2,.cells [q0,q1,q2] (some 51) 0 []),(b1,.cells [.int .i64 st,.int .i64 env,.bool out,t0,t1,t2] (some 55) 0 [])]:=w9.put 1 rfl _
 generalize h9.put b4 (.cells [.int .i64 st,.int .i64 env,.bool false,t0,t1,t2] (some 55) 0 []) = h10 at w10 ⊢
 clear w9
 refine R_op rfl rfl rfl (R_op rfl rfl (Qdw (l':=[.int .i64 st,.int .i64 env,.bool true,t0,t1,t2]) (v:=.bool true) rfl rfl rfl rfl rfl (w10.get 0 rfl) (by simp) rfl) ?_)
 simp only [sN,s0,sS,a0,aS,aC,AV.cells,hm]
 have w11 : Wk _ (h10.put b5 (.cells [.int .i64 st,.int .i64 env,.bool true,t0,t1,t2] (some 55) 0 [])) [(b5,.cells [.int .i64 st,.int .i64 env,.bool true,t0,t1,t2] (some 55) 0 []),(b4,.cells [.int .i64 st,.int .i64 env,.bool false,t0,t1,t2] (some 55) 0 []),(b3,.cells [.int .i64 0,.int .i64 m,.nilslice] (some 51) 0 []),(b2,.cells [q0,q1,q2] (some 51) 0 []),(b1,.cells [.int .i64 st,.int .i64 env,.bool out,t0,t1,t2] (some 55) 0 [])]:=w10.put 0 rfl _
 generalize h10.put b5 (.cells [.int .i64 st,.int .i64 env,.bool true,t0,t1,t2] (some 55) 0 []) = h11 at w11 ⊢
 clear w10
 refine R_nil ?_
 refine R_seq (Qaa (R_op rfl rfl (Qad (r:=[.int .i64 st,.int .i64 env,.bool false,t0,t1,t2]) rfl (w11.get 1 rfl) (by simp) rfl) (R_op rfl rfl rfl (R_op rfl rfl (Qad (r:=[t0,t1,t2]) rfl (w11.get 4 rfl) (by simp) rfl) (Qau rfl rfl rfl (L.mvalued _) (QeJ L hs w11.self (Nat.le_refl _) (w11.rep hN hrep) hV) ?_ (fun _ _ e=>e.elim))))))
 rintro v h12 ⟨rfl,u12⟩
 have w12:=w11.call u12
 clear w11 u12
 simp only [sN,s0,sS,a0,aS,aC,AV.cells,hm]
 refine R_op rfl rfl rfl (R_op rfl rfl rfl (R_op rfl rfl rfl (R_op rfl rfl rfl (R_op rfl rfl rfl (R_nil ?_)))))
 simp only [sN,s0,sS,a0,aS,aC,AV.cells,hm]
 refine R_seq (Qaa (R_op rfl rfl (Qad (r:=[.int .i64 st,.int .i64 env,.bool true,t0,t1,t2]) rfl (w12.get 0 rfl) (by simp) rfl) (R_op rfl rfl rfl (R_op rfl rfl (Qad (r:=[t0,t1,t2]) rfl (w12.get 4 rfl) (by simp) rfl) (Qau rfl rfl rfl (L.mvalued _) (QeJ L hs w12.self (Nat.le_refl _) (w12.rep hN hrep) hW) ?_ (fun _ _ e=>e.elim))))))
 rintro v h13 ⟨rfl,u13⟩
 have w13:=w12.call u13
 clear w12 u13
 simp only [sN,s0,sS,a0,aS,aC,AV.cells,hm]
 refine R_op rfl rfl rfl (R_op rfl rfl rfl (R_op rfl rfl rfl (R_op rfl rfl rfl (R_op rfl rfl rfl (R_nil ?_)))))
 simp only [sN,s0,sS,a0,aS,aC,AV.cells,hm]
 refine R_seq (R_seq (Qaa (R_op rfl rfl rfl (R_op rfl rfl rfl (R_op (v:=.bool false) rfl rfl rfl (R_nil ?_))))))
 simp only [sN,s0,sS,a0,aS,aC,AV.cells,hm]
 refine Qaw rfl (QaF (R_seq (R_seq (Qaa (R_op rfl rfl rfl (R_op rfl rfl rfl (R_nil ?_)))))))
 simp only [sN,s0,sS,a0,aS,aC,AV.cells,hm]
 refine Qaw rfl (QaF (R_seq (Qaa (R_op rfl rfl rfl (R_op (v:=.int .i64 ((wn : Nat) : Int)) rfl rfl rfl (R_op (v:=.bool true) rfl rfl (x_geq rfl rfl f1) ?_))))))
 simp only [sN,s0,sS,a0,aS,aC,AV.cells,hm]
 refine R_op rfl rfl rfl (R_op rfl rfl rfl (R_op (v:=.str 4 (subN wb 0 4)) rfl rfl (Qoa (k:=4) rfl f1 rfl) (R_op (v:=.bool false) rfl rfl (x_eqlF rfl rfl f2) (R_op rfl rfl rfl (R_op rfl rfl rfl (R_nil ?_))))))
 simp only [sN,s0,sS,a0,aS,aC,AV.cells,hm]
 refine R_seq (R_seq (Qaa (R_op rfl rfl rfl (R_op rfl rfl rfl (R_op (v:=.int .i64 ((vn : Nat) : Int)) rfl rfl rfl (R_op (v:=.bool true) rfl rfl (x_geq rfl rfl f3) ?_))))))
 simp only [sN,s0,sS,a0,aS,aC,AV.cells,hm]
 refine R_op rfl rfl rfl (R_op rfl rfl rfl (R_op (v:=.str 14 (subN vb 0 14)) rfl rfl (Qoa (k:=14) rfl f3 rfl) (R_op (v:=.bool false) rfl rfl (x_eqlF rfl rfl f4) (R_op rfl rfl rfl (R_op (v:=.bool false) rfl rfl rfl (R_nil ?_))))))
 simp only [sN,s0,sS,a0,aS,aC,AV.cells,hm]
 refine Qaw rfl (QaF (R_seq (R_seq (Qaa (R_op rfl rfl rfl (R_op rfl rfl rfl ?_))))))
 simp only [sN,s0,sS,a0,aS,aC,AV.cells,hm]
 refine R_not rfl (R_not rfl (R_not rfl (R_not rfl (R_not rfl (R_not rfl (R_not rfl ?_))))))
 simp only [sN,s0,sS,a0,aS,aC,AV.cells,hm]
 refine R_not rfl (R_not rfl (R_not rfl (R_not rfl (R_not rfl (R_not rfl (R_not rfl ?_))))))
 simp only [sN,s0,sS,a0,aS,aC,AV.cells,hm]
 refine R_not rfl (R_op rfl rfl rfl (R_nil ?_))
 simp only [sN,s0,sS,a0,aS,aC,AV.cells,hm]
 refine Qaw rfl (QaF (R_seq (R_seq (QaY (Qaf (Qab rfl rfl rfl rfl ?_))))))
 simp only [sN,s0,sS,a0,aS,aC,AV.cells,hm]
 refine Qab rfl rfl rfl rfl (Qab rfl rfl rfl rfl (Qab rfl rfl (Qad (r:=[.int .i64 st,.int .i64 env,.bool out,t0,t1,t2]) rfl (w13.get 4 rfl) (by simp) rfl) rfl (Qab rfl rfl rfl rfl (Qab rfl rfl (Qad (r:=[t0,t1,t2]) rfl (w13.get 4 rfl) (by simp) rfl) rfl (Qab rfl rfl (Qad (r:=[q0,q1,q2]) rfl (w13.get 3 rfl) (by simp) rfl) rfl (Qab rfl rfl (x_two (x0:=t0) (x1:=t1) (x2:=t2) (y0:=q0) (y1:=q1) (y2:=q2) rfl rfl) rfl ?_))))))
 simp only [sN,s0,sS,a0,aS,aC,AV.cells,hm]
 have w14:=w13.alloc (.cells [t0,t1,t2,q0,q1,q2] none 0 [])
 generalize h13.alloc (.cells [t0,t1,t2,q0,q1,q2] none 0 []) = h14 at w14 ⊢
 generalize h13.next = b6 at w14 ⊢
 clear w13
 refine Qab rfl rfl rfl rfl (Qab rfl rfl (Qad (r:=[t0,t1,t2]) rfl (w14.get 5 rfl) (by simp) rfl) rfl (Qac ?_))
 simp only [sN,s0,sS,a0,aS,aC,AV.cells,hm]
 refine Qae rfl rfl rfl (L.mterm _) (Qan L.term rfl rfl rfl w14.self) ?_ (fun _ _ e=>e.elim)
 rintro v h15 ⟨rfl,u15⟩
 have w15:=w14.call u15
 clear w14 u15
 refine ⟨?_,?_⟩
 ·simp only [sN,s0,sS,a0,aS,aC,List.all_cons,List.all_nil,Bool.and_true,Bool.and_eq_true]
  exact ⟨Qak rfl rfl rfl rfl (Qad (r:=[.int .i64 st,.int .i64 env,.bool out,t0,t1,t2]) rfl (w15.get 5 rfl) (by simp) rfl) rfl,Qak rfl rfl rfl rfl (Qad (r:=[t0,t1,t2]) rfl (w15.get 5 rfl) (by simp) rfl) rfl⟩
 simp only [sN,s0,sS,a0,aS,aC,AV.cells,hm]
 refine Qaf (Qac ?_)
 refine Qae rfl rfl rfl (L.mequal _) (QaI L (Qao hs hsU) hs w15.self (Nat.le_refl _) (QaA (w15.lt 0 rfl) (w15.get 0 rfl) (w15.rep hN hrep) (w15.rep hN hrepU)) (w15.rep hN hrep) (show den (tm 6 [T,U]) env ⟨st,[]⟩ = den T env ⟨st,[]⟩ by rw [QnT,hd]; rfl)) ?_ (fun _ _ e=>e.elim)
 rintro v h16 ⟨rfl,u16⟩
 have w16:=w15.call u16
 clear w15 u16
 refine ⟨?_,?_⟩
 ·rfl
 simp only [sN,s0,sS,a0,aS,aC,AV.cells,hm]
 refine Qaf (Qab rfl rfl rfl rfl (Qab rfl rfl rfl rfl (Qab rfl rfl rfl rfl (Qab rfl rfl rfl rfl (Qab rfl rfl rfl rfl (QaZ rfl ?_))))))
 simp only [sN,s0,sS,a0,aS,aC,AV.cells,hm]
 refine QaZ rfl (QaZ rfl (QaZ rfl (QaZ rfl (QaZ rfl (QaZ rfl (Qac ?_))))))
 simp only [sN,s0,sS,a0,aS,aC,AV.cells,hm]
 refine Qgq rfl (by simp only [sN,s0,sS,a0,aS,aC,List.all_cons,List.all_nil,Bool.and_true,Bool.and_eq_true]; exact ⟨Qgo rfl,Qgo rfl⟩) (Qaf (Qac ?_))
 simp only [sN,s0,sS,a0,aS,aC,AV.cells,hm]
 refine Qgq rfl rfl (Qaf (QaZ rfl (Qab rfl rfl rfl rfl (Qab rfl rfl rfl rfl (Qap (Qat (QaX ?_)))))))
 simp only [sN,s0,sS,a0,aS,aC,AV.cells,hm]
 refine Qaw rfl (QaF (R_seq (QaY (Qaf (Qab rfl rfl (Qad (r:=[.int .i64 0,.int .i64 m,.nilslice]) rfl (w16.get 3 rfl) (by simp) rfl) rfl (Qab rfl rfl (QbG (x0:=.int .i64 0) (x1:=.int .i64 m) (x2:=.nilslice) rfl) rfl ?_))))))
 simp only [sN,s0,sS,a0,aS,aC,AV.cells,hm]
 have w17:=w16.alloc (.cells [.int .i64 0,.int .i64 m,.nilslice] none 0 [])
 generalize h16.alloc (.cells [.int .i64 0,.int .i64 m,.nilslice] none 0 []) = h17 at w17 ⊢
 generalize h16.next = b7 at w17 ⊢
 clear w16
 refine Qab rfl rfl rfl rfl (Qab rfl rfl (Qad (r:=[t0,t1,t2]) rfl (w17.get 6 rfl) (by simp) rfl) rfl (Qab rfl rfl rfl rfl ?_))
 simp only [sN,s0,sS,a0,aS,aC,AV.cells,hm]
 have w18:=w17.alloc (.cells [.int .i64 0,.int .i64 0,.nilslice] (some 51) 0 [])
 generalize h17.alloc (.cells [.int .i64 0,.int .i64 0,.nilslice] (some 51) 0 []) = h18 at w18 ⊢
 generalize h17.next = b8 at w18 ⊢
 clear w17
 refine Qac ?_
 refine Qae rfl rfl rfl (L.mterm _) (Qan L.term rfl rfl rfl w18.self) ?_ (fun _ _ e=>e.elim)
 rintro v h19 ⟨rfl,u19⟩
 have w19:=w18.call u19
 clear w18 u19
 refine ⟨?_,?_⟩
 ·simp only [sN,s0,sS,a0,aS,aC,List.all_cons,List.all_nil,Bool.and_true,Bool.and_eq_true]
  exact ⟨Qak rfl rfl rfl rfl (Qad (r:=[t0,t1,t2]) rfl (w19.get 7 rfl) (by simp) rfl) rfl,QaB rfl rfl rfl rfl rfl rfl rfl (w19.get 0 rfl) rfl⟩
 simp only [sN,s0,sS,a0,aS,aC,AV.cells,hm]
 refine Qaf (Qab rfl rfl (x_two (x0:=.int .i64 5) (x1:=.int .i64 0) (x2:=.slice b7 0 1 1) (y0:=t0) (y1:=t1) (y2:=t2) rfl rfl) rfl ?_)
 simp only [sN,s0,sS,a0,aS,aC,AV.cells,hm]
 have w20:=w19.alloc (.cells [.int .i64 5,.int .i64 0,.slice b7 0 1 1,t0,t1,t2] none 0 [])
 generalize h19.alloc (.cells [.int .i64 5,.int .i64 0,.slice b7 0 1 1,t0,t1,t2] none 0 []) = h20 at w20 ⊢
 generalize h19.next = b9 at w20 ⊢
 clear w19
 refine Qac ?_
 refine Qae rfl rfl rfl (L.mterm _) (Qan L.term rfl rfl rfl w20.self) ?_ (fun _ _ e=>e.elim)
 rintro v h21 ⟨rfl,u21⟩
 have w21:=w20.call u21
 clear w20 u21
 refine ⟨?_,?_⟩
 ·simp only [sN,s0,sS,a0,aS,aC,List.all_cons,List.all_nil,Bool.and_true,Bool.and_eq_true]
  exact QaB rfl rfl rfl rfl rfl rfl rfl (w21.get 1 rfl) rfl
 simp only [sN,s0,sS,a0,aS,aC,AV.cells,hm]
 refine Qaf (Qac ?_)
 refine QaD rfl rfl (Qar (l':=[.int .i64 6,.int .i64 0,.slice b9 0 2 2]) (vs:=[.int .i64 6,.int .i64 0,.slice b9 0 2 2]) rfl rfl rfl rfl (w21.get 1 rfl) (by simp) rfl) rfl ?_
 simp only [sN,s0,sS,a0,aS,aC,AV.cells,hm]
 have w22 : Wk _ (h21.put b8 (.cells [.int .i64 6,.int .i64 0,.slice b9 0 2 2] (some 51) 0 [])) [(b9,.cells [.int .i64 5,.int .i64 0,.slice b7 0 1 1,t0,t1,t2] none 0 []),(b8,.cells [.int .i64 6,.int .i64 0,.slice b9 0 2 2] (some 51) 0 []),(b7,.cells [.int .i64 0,.int .i64 m,.nilslice] none 0 []),(b6,.cells [t0,t1,t2,q0,q1,q2] none 0 []),(b5,.cells [.int .i64 st,.int .i64 env,.bool true,t0,t1,t2] (some 55) 0 []),(b4,.cells [.int .i64 st,.int .i64 env,.bool false,t0,t1,t2] (some 55) 0 []),(b3,.cells [.int .i64 0,.int .i64 m,.nilslice] (some 51) 0 []),(b2,.cells [q0,q1,q2] (some 51) 0 []),(b1,.cells [.int .i64 st,.int .i64 env,.bool out,t0,t1,t2] (some 55) 0 [])]:=w21.put 1 rfl _
 generalize h21.put b8 (.cells [.int .i64 6,.int .i64 0,.slice b9 0 2 2] (some 51) 0 []) = h22 at w22 ⊢
 clear w21
 refine Qaf (Qap (Qat (QaX ?_)))
 refine R_seq (QaY (Qaf (Qab rfl rfl (Qad (r:=[.int .i64 st,.int .i64 env,.bool out,t0,t1,t2]) rfl (w22.get 8 rfl) (by simp) rfl) rfl (Qab rfl rfl (Qad (r:=[.int .i64 6,.int .i64 0,.slice b9 0 2 2]) rfl (w22.get 1 rfl) (by simp) rfl) rfl (Qab rfl rfl (Qad (r:=[.int .i64 0,.int .i64 m,.nilslice]) rfl (w22.get 6 rfl) (by simp) rfl) rfl (Qab rfl rfl rfl rfl ?_))))))
 simp only [sN,s0,sS,a0,aS,aC,AV.cells,hm]
 refine Qab rfl rfl (Qad (r:=[t0,t1,t2]) rfl (w22.get 8 rfl) (by simp) rfl) rfl (Qab rfl rfl (x_two (x0:=.int .i64 0) (x1:=.int .i64 m) (x2:=.nilslice) (y0:=t0) (y1:=t1) (y2:=t2) rfl rfl) rfl ?_)
 simp only [sN,s0,sS,a0,aS,aC,AV.cells,hm]
 have w23:=w22.alloc (.cells [.int .i64 0,.int .i64 m,.nilslice,t0,t1,t2] none 0 [])
 generalize h22.alloc (.cells [.int .i64 0,.int .i64 m,.nilslice,t0,t1,t2] none 0 []) = h23 at w23 ⊢
 generalize h22.next = b10 at w23 ⊢
 clear w22
 refine Qac ?_
 refine Qae rfl rfl rfl (L.mterm _) (Qan L.term rfl rfl rfl w23.self) ?_ (fun _ _ e=>e.elim)
 rintro v h24 ⟨rfl,u24⟩
 have w24:=w23.call u24
 clear w23 u24
 refine ⟨?_,?_⟩
 ·simp only [sN,s0,sS,a0,aS,aC,List.all_cons,List.all_nil,Bool.and_true,Bool.and_eq_true]
  exact ⟨Qak rfl rfl rfl rfl (Qad (r:=[.int .i64 st,.int .i64 env,.bool out,t0,t1,t2]) rfl (w24.get 9 rfl) (by simp) rfl) rfl,Qak rfl rfl rfl rfl (Qad (r:=[.int .i64 6,.int .i64 0,.slice b9 0 2 2]) rfl (w24.get 2 rfl) (by simp) rfl) rfl⟩
 simp only [sN,s0,sS,a0,aS,aC,AV.cells,hm]
 refine Qaf (Qac ?_)
 refine Qae rfl rfl rfl (L.mequal _) (QaI L (Qao (Qaz (Qam 0 m)) hs) (Qao (Qam 0 m) hs) w24.self (Nat.le_refl _) (QaA (w24.lt 1 rfl) (w24.get 1 rfl) (QaJ (w24.lt 3 rfl) (w24.get 3 rfl) (Qas _ _ 0 m)) (w24.rep hN hrep)) (QaA (w24.lt 0 rfl) (w24.get 0 rfl) (Qas _ _ 0 m) (w24.rep hN hrep)) (Qqj T m env ⟨st,[]⟩)) ?_ (fun _ _ e=>e.elim)
 rintro v h25 ⟨rfl,u25⟩
 have w25:=w24.call u25
 clear w24 u25
 refine ⟨?_,?_⟩
 ·rfl
 simp only [sN,s0,sS,a0,aS,aC,AV.cells,hm]
 refine Qaf (Qab rfl rfl rfl rfl (Qab rfl rfl (Qad (r:=[.int .i64 st,.int .i64 env,.bool out,t0,t1,t2]) rfl (w25.get 9 rfl) (by simp) rfl) rfl (Qab rfl rfl (Qad (r:=[.int .i64 0,.int .i64 m,.nilslice]) rfl (w25.get 7 rfl) (by simp) rfl) rfl (Qab rfl rfl (QbG (x0:=.int .i64 0) (x1:=.int .i64 m) (x2:=.nilslice) rfl) rfl ?_))))
 simp only [sN,s0,sS,a0,aS,aC,AV.cells,hm]
 have w26:=w25.alloc (.cells [.int .i64 0,.int .i64 m,.nilslice] none 0 [])
 generalize h25.alloc (.cells [.int .i64 0,.int .i64 m,.nilslice] none 0 []) = h26 at w26 ⊢
 generalize h25.next = b11 at w26 ⊢
 clear w25
 refine Qab rfl rfl (Qad (r:=[.int .i64 0,.int .i64 m,.nilslice]) rfl (w26.get 8 rfl) (by simp) rfl) rfl (Qab rfl rfl (QbG (x0:=.int .i64 0) (x1:=.int .i64 m) (x2:=.nilslice) rfl) rfl ?_)
 simp only [sN,s0,sS,a0,aS,aC,AV.cells,hm]
 have w27:=w26.alloc (.cells [.int .i64 0,.int .i64 m,.nilslice] none 0 [])
 generalize h26.alloc (.cells [.int .i64 0,.int .i64 m,.nilslice] none 0 []) = h27 at w27 ⊢
 generalize h26.next = b12 at w27 ⊢
 clear w26
 refine Qac ?_
 refine Qae rfl rfl rfl (L.mterm _) (Qan L.term rfl rfl rfl w27.self) ?_ (fun _ _ e=>e.elim)
 rintro v h28 ⟨rfl,u28⟩
 have w28:=w27.call u28
 clear w27 u28
 refine ⟨?_,?_⟩
 ·simp only [sN,s0,sS,a0,aS,aC,List.all_cons,List.all_nil,Bool.and_true,Bool.and_eq_true]
  exact ⟨Qak rfl rfl rfl rfl (Qad (r:=[.int .i64 st,.int .i64 env,.bool out,t0,t1,t2]) rfl (w28.get 11 rfl) (by simp) rfl) rfl,Qak rfl rfl rfl rfl (Qad (r:=[.int .i64 0,.int .i64 m,.nilslice]) rfl (w28.get 9 rfl) (by simp) rfl) rfl,QaB (ob:=.cells [.int .i64 0,.int .i64 m,.nilslice] none 0 []) rfl rfl rfl rfl rfl rfl rfl (w28.get 0 rfl) (by simp [AO.same,AV.same])⟩
 simp only [sN,s0,sS,a0,aS,aC,AV.cells,hm]
 refine Qaf (Qab rfl rfl (QbG (x0:=.int .i64 5) (x1:=.int .i64 0) (x2:=.slice b11 0 1 1) rfl) rfl ?_)
 simp only [sN,s0,sS,a0,aS,aC,AV.cells,hm]
 have w29:=w28.alloc (.cells [.int .i64 5,.int .i64 0,.slice b11 0 1 1] none 0 [])
 generalize h28.alloc (.cells [.int .i64 5,.int .i64 0,.slice b11 0 1 1] none 0 []) = h29 at w29 ⊢
 generalize h28.next = b13 at w29 ⊢
 clear w28
 refine Qac ?_
 refine Qae rfl rfl rfl (L.mterm _) (Qan L.term rfl rfl rfl w29.self) ?_ (fun _ _ e=>e.elim)
 rintro v h30 ⟨rfl,u30⟩
 have w30:=w29.call u30
 clear w29 u30
 refine ⟨?_,?_⟩
 ·simp only [sN,s0,sS,a0,aS,aC,List.all_cons,List.all_nil,Bool.and_true,Bool.and_eq_true]
  exact ⟨Qak rfl rfl rfl rfl (Qad (r:=[.int .i64 st,.int .i64 env,.bool out,t0,t1,t2]) rfl (w30.get 12 rfl) (by simp) rfl) rfl,Qak rfl rfl rfl rfl (Qad (r:=[.int .i64 0,.int .i64 m,.nilslice]) rfl (w30.get 10 rfl) (by simp) rfl) rfl,QaB (ob:=.cells [.int .i64 0,.int .i64 m,.nilslice] none 0 []) rfl rfl rfl rfl rfl rfl rfl (w30.get 1 rfl) (by simp [AO.same,AV.same])⟩
 simp only [sN,s0,sS,a0,aS,aC,AV.cells,hm]
 refine Qaf (Qac ?_)
 refine Qae rfl rfl rfl (L.mterm _) (Qan L.term rfl rfl rfl w30.self) ?_ (fun _ _ e=>e.elim)
 rintro v h31 ⟨rfl,u31⟩
 have w31:=w30.call u31
 clear w30 u31
 refine ⟨?_,?_⟩
 ·simp only [sN,s0,sS,a0,aS,aC,List.all_cons,List.all_nil,Bool.and_true,Bool.and_eq_true]
  exact Qak rfl rfl rfl rfl (Qad (r:=[.int .i64 st,.int .i64 env,.bool out,t0,t1,t2]) rfl (w31.get 12 rfl) (by simp) rfl) rfl
 simp only [sN,s0,sS,a0,aS,aC,AV.cells,hm]
 refine Qaf (Qac ?_)
 refine Qae rfl rfl rfl (L.mequal _) (QaI L (Qaz (Qaz (Qam 0 m))) (Qaz (Qam 0 m)) w31.self (Nat.le_refl _) (QaJ (w31.lt 0 rfl) (w31.get 0 rfl) (QaJ (w31.lt 2 rfl) (w31.get 2 rfl) (Qas _ _ 0 m))) (QaJ (w31.lt 1 rfl) (w31.get 1 rfl) (Qas _ _ 0 m)) (Qqi m env ⟨st,[]⟩)) ?_ (fun _ _ e=>e.elim)
 rintro v h32 ⟨rfl,u32⟩
 have w32:=w31.call u32
 clear w31 u32
 refine ⟨?_,?_⟩
 ·rfl
 simp only [sN,s0,sS,a0,aS,aC,AV.cells,hm]
 refine Qaf (Qab rfl rfl rfl rfl (Qab rfl rfl rfl rfl (Qab rfl rfl (Qad (r:=[.int .i64 st,.int .i64 env,.bool out,t0,t1,t2]) rfl (w32.get 12 rfl) (by simp) rfl) rfl (Qab rfl rfl (Qad (r:=[.int .i64 0,.int .i64 m,.nilslice]) rfl (w32.get 10 rfl) (by simp) rfl) rfl (Qab rfl rfl (QbG (x0:=.int .i64 0) (x1:=.int .i64 m) (x2:=.nilslice) rfl) rfl ?_)))))
 simp only [sN,s0,sS,a0,aS,aC,AV.cells,hm]
 have w33:=w32.alloc (.cells [.int .i64 0,.int .i64 m,.nilslice] none 0 [])
 generalize h32.alloc (.cells [.int .i64 0,.int .i64 m,.nilslice] none 0 []) = h33 at w33 ⊢
 generalize h32.next = b14 at w33 ⊢
 clear w32
 refine Qab rfl rfl (Qad (r:=[q0,q1,q2]) rfl (w33.get 12 rfl) (by simp) rfl) rfl (Qab rfl rfl (Qad (r:=[.int .i64 0,.int .i64 m,.nilslice]) rfl (w33.get 11 rfl) (by simp) rfl) rfl (Qab rfl rfl (QbG (x0:=.int .i64 0) (x1:=.int .i64 m) (x2:=.nilslice) rfl) rfl ?_))
 simp only [sN,s0,sS,a0,aS,aC,AV.cells,hm]
 have w34:=w33.alloc (.cells [.int .i64 0,.int .i64 m,.nilslice] none 0 [])
 generalize h33.alloc (.cells [.int .i64 0,.int .i64 m,.nilslice] none 0 []) = h34 at w34 ⊢
 generalize h33.next = b15 at w34 ⊢
 clear w33
 refine Qac ?_
 refine Qae rfl rfl rfl (L.mterm _) (Qan L.term rfl rfl rfl w34.self) ?_ (fun _ _ e=>e.elim)
 rintro v h35 ⟨rfl,u35⟩
 have w35:=w34.call u35
 clear w34 u35
 refine ⟨?_,?_⟩
 ·simp only [sN,s0,sS,a0,aS,aC,List.all_cons,List.all_nil,Bool.and_true,Bool.and_eq_true]
  exact ⟨Qak rfl rfl rfl rfl (Qad (r:=[.int .i64 st,.int .i64 env,.bool out,t0,t1,t2]) rfl (w35.get 14 rfl) (by simp) rfl) rfl,Qak rfl rfl rfl rfl (Qad (r:=[q0,q1,q2]) rfl (w35.get 13 rfl) (by simp) rfl) rfl,Qak rfl rfl rfl rfl (Qad (r:=[.int .i64 0,.int .i64 m,.nilslice]) rfl (w35.get 12 rfl) (by simp) rfl) rfl,QaB (ob:=.cells [.int .i64 0,.int .i64 m,.nilslice] none 0 []) rfl rfl rfl rfl rfl rfl rfl (w35.get 0 rfl) (by simp [AO.same,AV.same])⟩
 simp only [sN,s0,sS,a0,aS,aC,AV.cells,hm]
 refine Qaf (Qab rfl rfl (x_two (x0:=.int .i64 5) (x1:=.int .i64 0) (x2:=.slice b14 0 1 1) (y0:=q0) (y1:=q1) (y2:=q2) rfl rfl) rfl ?_)
 simp only [sN,s0,sS,a0,aS,aC,AV.cells,hm]
 have w36:=w35.alloc (.cells [.int .i64 5,.int .i64 0,.slice b14 0 1 1,q0,q1,q2] none 0 [])
 generalize h35.alloc (.cells [.int .i64 5,.int .i64 0,.slice b14 0 1 1,q0,q1,q2] none 0 []) = h36 at w36 ⊢
 generalize h35.next = b16 at w36 ⊢
 clear w35
 refine Qac ?_
 refine Qae rfl rfl rfl (L.mterm _) (Qan L.term rfl rfl rfl w36.self) ?_ (fun _ _ e=>e.elim)
 rintro v h37 ⟨rfl,u37⟩
 have w37:=w36.call u37
 clear w36 u37
 refine ⟨?_,?_⟩
 ·simp only [sN,s0,sS,a0,aS,aC,List.all_cons,List.all_nil,Bool.and_true,Bool.and_eq_true]
  exact ⟨Qak rfl rfl rfl rfl (Qad (r:=[.int .i64 st,.int .i64 env,.bool out,t0,t1,t2]) rfl (w37.get 15 rfl) (by simp) rfl) rfl,Qak rfl rfl rfl rfl (Qad (r:=[.int .i64 0,.int .i64 m,.nilslice]) rfl (w37.get 13 rfl) (by simp) rfl) rfl,QaB (ob:=.cells [.int .i64 0,.int .i64 m,.nilslice] none 0 []) rfl rfl rfl rfl rfl rfl rfl (w37.get 1 rfl) (by simp [AO.same,AV.same])⟩
 simp only [sN,s0,sS,a0,aS,aC,AV.cells,hm]
 refine Qaf (Qac ?_)
 refine Qae rfl rfl rfl (L.mterm _) (Qan L.term rfl rfl rfl w37.self) ?_ (fun _ _ e=>e.elim)
 rintro v h38 ⟨rfl,u38⟩
 have w38:=w37.call u38
 clear w37 u38
 refine ⟨?_,?_⟩
 ·simp only [sN,s0,sS,a0,aS,aC,List.all_cons,List.all_nil,Bool.and_true,Bool.and_eq_true]
  exact Qak rfl rfl rfl rfl (Qad (r:=[.int .i64 st,.int .i64 env,.bool out,t0,t1,t2]) rfl (w38.get 15 rfl) (by simp) rfl) rfl
 simp only [sN,s0,sS,a0,aS,aC,AV.cells,hm]
 refine Qaf (Qac ?_)
 refine Qae rfl rfl rfl (L.mequal _) (QaI L (Qao (Qaz (Qam 0 m)) hsU) (Qaz (Qam 0 m)) w38.self (Nat.le_refl _) (QaA (w38.lt 0 rfl) (w38.get 0 rfl) (QaJ (w38.lt 2 rfl) (w38.get 2 rfl) (Qas _ _ 0 m)) (w38.rep hN hrepU)) (QaJ (w38.lt 1 rfl) (w38.get 1 rfl) (Qas _ _ 0 m)) (Qqh U m env ⟨st,[]⟩)) ?_ (fun _ _ e=>e.elim)
 rintro v h39 ⟨rfl,u39⟩
 have w39:=w38.call u39
 clear w38 u39
 refine ⟨?_,?_⟩
 ·rfl
 simp only [sN,s0,sS,a0,aS,aC,AV.cells,hm]
 refine Qaf (Qab rfl rfl rfl rfl (Qab rfl rfl rfl rfl (Qac ?_)))
 simp only [sN,s0,sS,a0,aS,aC,AV.cells,hm]
 refine QkF rfl rfl rfl hA (hAe _) rfl (Qaf (Qab rfl rfl rfl rfl (Qab rfl rfl rfl rfl (Qap (Qat (QaX ?_))))))
 simp only [sN,s0,sS,a0,aS,aC,AV.cells,hm]
 exact R_top ⟨rfl,rfl,rfl,rfl⟩ hF rfl
end
end Go.Ab.L22
namespace Go.Ab.L22
open Go Go.Ab
/-! Strings: what Throws looks at. -/
theorem QdJ (a b c : Str) : cat (cat a b) c = cat a (cat b c):=by
 refine Prod.ext (Nat.add_assoc _ _ _) ?_
 show appN (a.1 + b.1) (appN a.1 a.2 b.2) c.2 = appN a.1 a.2 (appN b.1 b.2 c.2)
 simp only [appN,Nat.shiftLeft_eq,QcW]
 rw [Nat.pow_add,Nat.add_mul,Nat.mul_assoc c.2,Nat.mul_comm (256 ^ b.1),Nat.add_assoc]
theorem Qql {n a b : Nat} (ha : a < 256 ^ n) : subN (appN n a b) 0 n = a:=by
 simp only [subN,appN,Nat.mul_zero,Nat.shiftRight_zero,Nat.sub_zero,Nat.shiftLeft_eq,QcW]
 rw [Nat.add_mul_mod_self_right,Nat.mod_eq_of_lt ha]
theorem sub_mid {p n a x y : Nat} (ha : a < 256 ^ p) (hx : x < 256 ^ n) : subN (appN p a (appN n x y)) p (p + n) = x:=by
 simp only [subN,appN,Nat.shiftLeft_eq,QcW,Nat.shiftRight_eq_div_pow,Nat.add_sub_cancel_left]
 rw [Nat.add_mul_div_right _ _ (Nat.pow_pos (by omega)),Nat.div_eq_of_lt ha,Nat.zero_add,Nat.add_mul_mod_self_right,Nat.mod_eq_of_lt hx]
theorem low_byte (b k : Nat) : subN b 0 (k + 1) % 256 = b % 256:=by
 simp only [subN,Nat.mul_zero,Nat.shiftRight_zero,Nat.sub_zero,QcW]
 exact Nat.mod_mod_of_dvd b ⟨256 ^ k,by rw [Nat.pow_succ,Nat.mul_comm]⟩
theorem byte10 (b : Nat) : subN b 0 14 / 256 ^ 10 % 256 = b / 256 ^ 10 % 256:=by
 simp only [subN,Nat.mul_zero,Nat.shiftRight_zero,Nat.sub_zero,QcW]
 rw [show 256 ^ 14 = 256 ^ 10 * 256 ^ 4 from rfl,Nat.mod_mul_right_div_self]
 exact Nat.mod_mod_of_dvd _ ⟨256 ^ 3,rfl⟩
theorem fail_pre (ita : Int → Str) (n : Int) : failD ita n = cat (4,1534227013) (cat (textD ita n) (1,93)):=by unfold failD; rw [QdJ]
theorem ok_pre (x : Str) : okD x = cat (3,5991247) (cat x (1,93)):=by unfold okD; rw [QdJ]
theorem pair2 (a b c : Str) : ∃ R,pairD (pairD a b) c = cat (10,431845872204341018452304) (cat a R):=by
 refine ⟨cat (2,8236) (cat b (cat (1,93) (cat (2,8236) (cat c (1,93))))),?_⟩
 rw [show ((10,431845872204341018452304) : Str) = cat (5,392761532752) (5,392761532752) from rfl]
 simp only [pairD,QdJ]
theorem Qrk {W L S : Str} (R : Str) (hW : W = cat (4,1534227013) R) (hwf : W.2 < 256 ^ W.1) :
  4 ≤ W.1 ∧ subN W.2 0 4 = 1534227013 ∧ 14 ≤ (pairD (pairD W L) S).1 ∧ subN (pairD (pairD W L) S).2 0 14 = 1854766649597775202016452575584592 ∧ 10 + W.1 ≤ (pairD (pairD W L) S).1 ∧ subN (pairD (pairD W L) S).2 10 (10 + W.1) = W.2:=by
 obtain ⟨R1,hV⟩:=pair2 W L S
 have h4 : 4 ≤ W.1:=by rw [hW]; simp [cat]
 have hle : 10 + W.1 ≤ (pairD (pairD W L) S).1:=by rw [hV]; simp only [cat]; omega
 refine ⟨h4,?_,by omega,?_,hle,?_⟩
 ·rw [hW]
  exact Qql (by decide)
 ·rw [hV,hW,QdJ,← QdJ (10,_)]
  exact Qql (n:=14) (by decide)
 ·rw [hV]
  exact sub_mid (by decide) hwf
theorem Qrl {W Y L S : Str} (R Q : Str) (hR : 1 ≤ R.1) (hQ : 1 ≤ Q.1) (hW : W = cat (3,5991247) R) (hY : Y = cat (3,5991247) Q) :
  4 ≤ W.1 ∧ subN W.2 0 4 ≠ 1534227013 ∧ 14 ≤ (pairD (pairD Y L) S).1 ∧ subN (pairD (pairD Y L) S).2 0 14 ≠ 1854766649597775202016452575584592:=by
 obtain ⟨R1,hV⟩:=pair2 Y L S
 refine ⟨by rw [hW]; simp only [cat]; omega,fun e=>?_,by rw [hV,hY]; simp only [cat]; omega,fun e=>?_⟩
 ·have h1:=low_byte W.2 3
  rw [e,hW] at h1
  have h2 : (cat (3,5991247) R).2 % 256 = 79:=by
   show appN 3 5991247 R.2 % 256 = 79
   simp only [appN,Nat.shiftLeft_eq]
   omega
  omega
 ·have h1:=byte10 (pairD (pairD Y L) S).2
  rw [e,hV,hY,QdJ] at h1
  have h2 : (cat (10,431845872204341018452304) (cat (3,5991247) (cat Q R1))).2 / 256 ^ 10 % 256 = 79:=by
   show appN 10 431845872204341018452304 (appN 3 5991247 (cat Q R1).2) / 256 ^ 10 % 256 = 79
   generalize (cat Q R1).2 = z
   simp only [appN,Nat.shiftLeft_eq]
   omega
  rw [h2] at h1
  exact absurd h1 (by decide)
theorem text_wf {ita : Int → Str} (hwf : ∀ n,(ita n).2 < 256 ^ (ita n).1) (n : Int) : (textD ita n).2 < 256 ^ (textD ita n).1:=by
 unfold textD
 split
 ·exact Qjz (Qjz (by decide) (hwf n)) (by decide)
 ·exact hwf n
theorem fail_wf {ita : Int → Str} (hwf : ∀ n,(ita n).2 < 256 ^ (ita n).1) (n : Int) : (failD ita n).2 < 256 ^ (failD ita n).1:=Qjz (Qjz (by decide) (text_wf hwf n)) (by decide)
end Go.Ab.L22

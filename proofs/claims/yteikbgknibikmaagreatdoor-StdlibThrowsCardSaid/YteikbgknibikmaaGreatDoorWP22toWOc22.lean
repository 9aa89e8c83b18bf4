/-
  A part of a proof: WP22 WQ22 WR22 WS22 WT22 WU22 WBR WV22 WRng22 WW22 WX22 WY22 WZ22 WOc22.
-/
import Derived.Test.YteikbgknibikmaaGreatDoorWAtoWO22
set_option linter.all false
namespace Go.Ab.L22
open Go Go.Ab
mutual
/-- What wrong answers. -/
def Qbq : LT → Int
 | .mk k n l=>if k < 0 then 1 else if 13 ≤ k then 1 else if n < IntKind.i64.wrap (0 - belowD k) then 1 else if QcD k < n then 1 else if (l.length : Int) ≠ parts k then 7 else Qei l
def Qei : List LT → Int
 | []=>0
 | t :: l=>if Qbq t ≠ 0 then Qbq t else Qei l
end
theorem x_len {h : AH} {ev : AOpd → AV} {x : AOpd} {k n : Nat} {v : AV} (hx : ev x = v) (hn : lenK h k v = some n) : exec h ev (.len k x) = some (.int .i64 n,h):=by
 simp only [exec,hx,hn]
 rfl
theorem rep3 {N : Nat} {h : AH} {T : LT} {row : List AV} (H : Rep N h T row) : ∃ a b c,row = [a,b,c]:=by cases H; exact ⟨_,_,_,rfl⟩
theorem QcV {N : Nat} {h : AH} {T : LT} {row : List AV} (H : Rep N h T row) : row.all AV.one = true:=by
 cases H with
 | mk _ _ _ lv p r hl _ _ =>
  have : lv.one = true:=by
   cases lv <;> first | rfl | (simp [lenK] at hl)
  simp [AV.one] at this ⊢
  exact this
theorem QmY {h : AH} {ev : AOpd → AV} {x i : AOpd} {k : Int} (hx : ev x = .agg QcZ) (hi : ev i = .int .i64 k) (h0 : 0 ≤ k) (h1 : k < 13) : exec h ev (.index true 13 3 x i) = some (.agg (zs (parts k) (belowD k) (QcD k)),h):=by
 have : k = 0 ∨ k = 1 ∨ k = 2 ∨ k = 3 ∨ k = 4 ∨ k = 5 ∨ k = 6 ∨ k = 7 ∨ k = 8 ∨ k = 9 ∨ k = 10 ∨ k = 11 ∨ k = 12:=by omega
 rcases this with rfl | rfl | rfl | rfl | rfl | rfl | rfl | rfl | rfl | rfl | rfl | rfl | rfl <;>
  simp [exec,hx,hi,asNat,partA,QcZ,zs,parts,belowD,QcD]
theorem Qos (k : Int) : parts k ≤ 3:=by unfold parts; split <;> (try split) <;> (try split) <;> omega
theorem QkG {i : Nat} (h : i < 4611686018427387904) : IntKind.i64.wrap ((i : Int) + 1) = ((i + 1 : Nat) : Int):=by
 unfold IntKind.wrap
 simp [IntKind.signed,IntKind.bits]
 omega
def QlL : AC:=match fn_wrong.body with | .seq _ (.seq _ (.seq _ (.seq _ (.seq (.seq _ (.block _ (.loop b))) _))))=>b | _=>.skip
def Qqc : AC:=match fn_wrong.body with | .seq _ (.seq _ (.seq _ (.seq _ (.seq (.seq _ (.block _ (.loop _))) b))))=>b | _=>.skip
def Qpc (F : FuncId → Option AFun) (M : Memo) (T : LT) : Prop :=
 ∀ (N : Nat) (h : AH) (row : List AV),Up h h → N ≤ h.next → Rep N h T row → Ctr F M QgN [.agg row] h (fun v h'=>v = .int .i64 (Qbq T) ∧ Up h h') (fun _ _=>False)
section
variable {F : FuncId → Option AFun} {M : Memo}
theorem Qqb (hF : F QgN = some fn_wrong) (hN : F QgO = some QcP) (hM : ∀ as,M QgN as = none) (hMn : ∀ as,M QgO as = none) {k n : Int} {l : List LT} (ih : ∀ i (hi : i < l.length),Qpc F M l[i]) : Qpc F M (.mk k n l):=by
 intro N h row u hN' hrep
 refine Ctr.intro hF fun caller cs G hk _=>?_
 simp only [fn_wrong,fn44,List.length_cons,List.length_nil,Nat.reduceAdd,Nat.reduceSub,rZ,rS,pN,pC]
 cases hrep with
 | mk _ _ _ lv p r hl hpp hr =>
 refine R_seq (Qaa (R_op rfl rfl rfl (R_op rfl rfl rfl (R_nil ?_))))
 simp only [sN,s0,sS,a0,aS,aC,AV.cells]
 obtain ⟨u1,u1',g1,n1⟩:=grown u (.cells [.int .i64 k,.int .i64 n,lv] (some 51) 0 [])
 generalize h.alloc (.cells [.int .i64 k,.int .i64 n,lv] (some 51) 0 []) = h1 at u1 u1' g1 n1 ⊢
 refine R_seq (R_seq (Qaa (R_op rfl rfl rfl (R_op rfl rfl (Qal rfl g1 rfl) (R_op rfl rfl rfl (R_op rfl rfl rfl ?_))))))
 simp only [sN,s0,sS,a0,aS,aC]
 by_cases k0 : k < 0
 ·simp only [decide_eq_true k0]
  refine R_not rfl (R_not rfl (R_not rfl (R_op rfl rfl rfl (R_nil (QaM rfl (R_seq (Qaa (R_op rfl rfl rfl (R_nil ?_)))))))))
  simp only [sN,s0,sS,a0,aS,aC]
  obtain ⟨fr',e1,e2⟩:=hk (.int .i64 1) _ ⟨by simp [Qbq,k0],u1⟩
  exact R_ret ⟨rfl,rfl,rfl,rfl⟩ hF rfl e1 e2
 simp only [decide_eq_false k0]
 refine R_op rfl rfl rfl (R_op rfl rfl (Qal rfl g1 rfl) (R_op rfl rfl rfl (R_op rfl rfl rfl (R_nil ?_))))
 simp only [sN,s0,sS,a0,aS,aC]
 by_cases k1 : k ≥ 13
 ·simp only [decide_eq_true k1]
  refine QaM rfl (R_seq (Qaa (R_op rfl rfl rfl (R_nil ?_))))
  simp only [sN,s0,sS,a0,aS,aC]
  obtain ⟨fr',e1,e2⟩:=hk (.int .i64 1) _ ⟨by simp [Qbq,k0,show 13 ≤ k from k1],u1⟩
  exact R_ret ⟨rfl,rfl,rfl,rfl⟩ hF rfl e1 e2
 simp only [decide_eq_false k1]
 refine Qaw rfl (QaF ?_)
 refine R_seq (QaY (Qaf (Qab rfl rfl rfl rfl (Qab rfl rfl (Qal rfl g1 rfl) rfl (Qab rfl rfl rfl rfl (Qac ?_))))))
 simp only [sN,s0,sS,a0,aS,aC]
 obtain ⟨u2,u2',g2,n2⟩:=grown u1' (.cells [.int .i64 0,.int .i64 0,.int .i64 0] (some 293) 0 [])
 have g12:=(u1'.alloc (.cells [.int .i64 0,.int .i64 0,.int .i64 0] (some 293) 0 [])).keep h.next (by omega)
 rw [g1] at g12
 generalize h1.alloc (.cells [.int .i64 0,.int .i64 0,.int .i64 0] (some 293) 0 []) = h2 at u2 u2' g2 n2 g12 ⊢
 refine Qae rfl rfl rfl (hMn _) (QqS hN u2') ?_ (fun _ _ e=>e.elim)
 rintro v h3 ⟨rfl,u3⟩
 have g13:=u3.keep h.next (by omega)
 rw [g12] at g13
 have g23:=u3.keep h1.next (by omega)
 rw [g2] at g23
 refine ⟨?_,?_⟩
 ·simp only [sN,s0,sS,a0,aS,aC,List.all_cons,List.all_nil,Bool.and_true,Bool.and_eq_true]
  exact ⟨Qak rfl rfl rfl rfl (Qal rfl g13 rfl) rfl,QaB rfl rfl rfl rfl rfl rfl rfl g23 rfl⟩
 simp only [sN,s0,sS,a0,aS,aC]
 refine Qaf (Qab rfl rfl (QmY rfl rfl (by omega) (by omega)) rfl (Qac (QaD rfl rfl (QfN (vs:=zs (parts k) (belowD k) (QcD k)) rfl rfl rfl rfl g23 (Nat.le_refl 3)) rfl ?_)))
 simp only [sN,s0,sS,a0,aS,aC]
 refine Qaf (Qap (Qat (QaX ?_)))
 have u4:=(((u1.trans u2).trans u3).put (b:=h1.next) (by omega) (by have:=u3.next; omega) (.cells (zs (parts k) (belowD k) (QcD k)) (some 293) 0 []))
 have u4':=Up.refl u4.wf
 have g14 : (h3.put h1.next (.cells (zs (parts k) (belowD k) (QcD k)) (some 293) 0 [])).get h.next = some (.cells [.int .i64 k,.int .i64 n,lv] (some 51) 0 []):=by rw [Qaj _ _ (by omega),g13]
 have g24:=get_put h3 h1.next (.cells (zs (parts k) (belowD k) (QcD k)) (some 293) 0 [])
 have n4 : h1.next < (h3.put h1.next (.cells (zs (parts k) (belowD k) (QcD k)) (some 293) 0 [])).next:=by have:=u3.next; rw [QeQ]; omega
 change Reach F M (Ctx.at _ _ _ (h3.put h1.next (.cells (zs (parts k) (belowD k) (QcD k)) (some 293) 0 []))) G
 generalize h3.put h1.next (.cells (zs (parts k) (belowD k) (QcD k)) (some 293) 0 []) = h4 at u4 u4' g14 g24 n4 ⊢
 refine R_seq (QaS (R_seq (Qaa (R_op rfl rfl rfl (R_op rfl rfl (Qal rfl g14 rfl) (R_op rfl rfl rfl (R_op rfl rfl (Qal (v:=.int .i64 (belowD k)) rfl g24 rfl) (R_op rfl rfl rfl (R_op rfl rfl rfl (R_op rfl rfl rfl ?_))))))))))
 simp only [sN,s0,sS,a0,aS,aC]
 by_cases c1 : n < IntKind.i64.wrap (0 - belowD k)
 ·simp only [decide_eq_true c1]
  refine R_not rfl (R_not rfl (R_not rfl (R_not rfl (R_not rfl (R_op rfl rfl rfl (R_op rfl rfl rfl (R_nil ?_)))))))
  simp only [sN,s0,sS,a0,aS,aC]
  refine QaM rfl (R_seq (Qaa (R_op rfl rfl rfl (R_nil ?_))))
  simp only [sN,s0,sS,a0,aS,aC]
  obtain ⟨fr',e1,e2⟩:=hk (.int .i64 1) _ ⟨by simp only [Qbq]; rw [if_neg k0,if_neg k1,if_pos c1],u4⟩
  exact R_ret ⟨rfl,rfl,rfl,rfl⟩ hF rfl e1 e2
 simp only [decide_eq_false c1]
 refine R_op rfl rfl rfl (R_op rfl rfl (Qal rfl g14 rfl) (R_op rfl rfl rfl (R_op rfl rfl (Qal (v:=.int .i64 (QcD k)) rfl g24 rfl) (R_op rfl rfl rfl (R_op rfl rfl rfl (R_op rfl rfl rfl (R_nil ?_)))))))
 simp only [sN,s0,sS,a0,aS,aC]
 by_cases c2 : (n > QcD k)
 ·simp only [decide_eq_true c2]
  refine QaM rfl (R_seq (Qaa (R_op rfl rfl rfl (R_nil ?_))))
  simp only [sN,s0,sS,a0,aS,aC]
  obtain ⟨fr',e1,e2⟩:=hk (.int .i64 1) _ ⟨by simp only [Qbq]; rw [if_neg k0,if_neg k1,if_neg c1,if_pos c2],u4⟩
  exact R_ret ⟨rfl,rfl,rfl,rfl⟩ hF rfl e1 e2
 simp only [decide_eq_false c2]
 refine Qaw rfl ?_
 have hlen : lenK h4 1 lv = some l.length:=by rw [QeS (h:=h)]; exact hl
 refine R_seq (Qaa (R_op rfl rfl rfl (R_op rfl rfl (Qal rfl g14 rfl) (R_op rfl rfl (x_len rfl hlen) (R_op rfl rfl rfl (R_op rfl rfl (Qal (v:=.int .i64 (parts k)) rfl g24 rfl) (R_op rfl rfl rfl (R_op rfl rfl rfl (R_nil ?_)))))))))
 simp only [sN,s0,sS,a0,aS,aC]
 by_cases c3' : (¬ (l.length : Int) = parts k)
 ·have c3:=c3'
  simp only [show ((l.length : Int) != (parts k : Nat)) = true by simpa using c3]
  refine QaM rfl (R_seq (Qaa (R_op rfl rfl rfl (R_nil ?_))))
  simp only [sN,s0,sS,a0,aS,aC]
  obtain ⟨fr',e1,e2⟩:=hk (.int .i64 7) _ ⟨by simp only [Qbq]; rw [if_neg k0,if_neg k1,if_neg c1,if_neg c2,if_pos c3],u4⟩
  exact R_ret ⟨rfl,rfl,rfl,rfl⟩ hF rfl e1 e2
 have c3 : (l.length : Int) = parts k:=Decidable.not_not.1 c3'
 simp only [show ((l.length : Int) != (parts k : Nat)) = false by simpa using c3]
 refine Qaw rfl (QaF (QaQ ?_))
 have hle : l.length ≤ 3:=by have:=Qos k; omega
 refine R_seq (R_seq (Qaa (R_op rfl rfl rfl (R_op rfl rfl (Qal rfl g14 rfl) (R_op rfl rfl (x_len rfl hlen) (R_op rfl rfl rfl (R_nil ?_)))))))
 simp only [sN,s0,sS,a0,aS,aC]
 refine QaS (QeH ?_)
 have done : Qbq (.mk k n l) = Qei l:=by simp only [Qbq]; rw [if_neg k0,if_neg k1,if_neg c1,if_neg c2,if_neg c3']
 have loop : ∀ (j i : Nat) (b3 : Nat) (h5 : AH) {x0 x4 x5 x6 x7 x8 x9 x10 x11 x12 x13 x14 x15 x16 x17 x18 x19 x20 x21 x22 x23 x24 x25 x26 x27 x28 x29 x30 x31 x32 x33 x34 x35 x36 x37 x38 x39 x40 x44 x45 x46 x47 x48 x49 x50 x51 x52 : AV},i + j = l.length → Up h4 h5 → Qei (l.drop i) = Qei l →
   Reach F M ((⟨QgN,[],.normal,none,caller :: cs⟩ : Ctx).at [x0,.ptr h.next 0,.int .i64 0,.ptr b3 0,x4,x5,x6,x7,x8,x9,x10,x11,x12,x13,x14,x15,x16,x17,x18,x19,x20,x21,x22,x23,x24,x25,x26,x27,x28,x29,x30,x31,x32,x33,x34,x35,x36,x37,x38,x39,x40,lv,.int .i64 (l.length : Nat),.int .i64 (i : Nat),x44,x45,x46,x47,x48,x49,x50,x51,x52]
    [.code QlL,.inLoop QlL,.inBlock 1,.code Qqc] h5) G:=by
  intro j
  induction j with
  | zero =>
   intro i b3 h5 x0 x4 x5 x6 x7 x8 x9 x10 x11 x12 x13 x14 x15 x16 x17 x18 x19 x20 x21 x22 x23 x24 x25 x26 x27 x28 x29 x30 x31 x32 x33 x34 x35 x36 x37 x38 x39 x40 x44 x45 x46 x47 x48 x49 x50 x51 x52 hij u5 hw
   have hlt : ¬ (i : Int) < l.length:=by omega
   refine R_seq (Qaa (R_op rfl rfl rfl (R_nil ?_)))
   simp only [sN,s0,sS,a0,aS,aC,decide_eq_false hlt]
   refine R_seq (Qaw rfl (Qfj rfl ?_))
   refine R_seq (Qaa (R_op rfl rfl rfl (R_nil ?_)))
   simp only [sN,s0,sS,a0,aS,aC]
   have : l.drop i = []:=by simp; omega
   rw [this] at hw
   obtain ⟨fr',e1,e2⟩:=hk (.int .i64 0) h5 ⟨by rw [done,← hw]; rfl,u4.trans u5⟩
   exact R_ret ⟨rfl,rfl,rfl,rfl⟩ hF rfl e1 e2
  | succ j ihj =>
   intro i b3 h5 x0 x4 x5 x6 x7 x8 x9 x10 x11 x12 x13 x14 x15 x16 x17 x18 x19 x20 x21 x22 x23 x24 x25 x26 x27 x28 x29 x30 x31 x32 x33 x34 x35 x36 x37 x38 x39 x40 x44 x45 x46 x47 x48 x49 x50 x51 x52 hij u5 hw
   have hi : i < l.length:=by omega
   have hlt : (i : Int) < l.length:=by omega
   have hup : IntKind.i64.wrap ((i : Int) + 1) = ((i + 1 : Nat) : Int):=QkG (by omega)
   rw [List.drop_eq_getElem_cons hi] at hw
   obtain ⟨q1,q2,q3⟩:=hpp i hi
   have L5:=(u4.trans u5).low hN'
   rw [← QaO L5 q2] at q3
   refine R_seq (Qaa (R_op rfl rfl rfl (R_nil ?_)))
   simp only [sN,s0,sS,a0,aS,aC,decide_eq_true hlt]
   refine R_seq (QaM rfl (QaF ?_))
   obtain ⟨rk,rn,rl,hrr⟩:=rep3 (hr i hi)
   have hri:=(hr i hi).low L5
   rw [hrr] at q3 hri
   refine R_seq (QaS (R_seq (Qaa (R_op rfl rfl (Qbl rfl rfl q1) (R_op rfl rfl (Qbp rfl q3) (R_op rfl rfl rfl ?_))))))
   simp only [sN,s0,sS,a0,aS,aC]
   obtain ⟨u6,u6',g6,n6⟩:=grown (Up.refl u5.wf) (.cells [.int .i64 0,.int .i64 0,.nilslice] (some 51) 0 [])
   generalize h5.alloc (.cells [.int .i64 0,.int .i64 0,.nilslice] (some 51) 0 []) = h6 at u6 u6' g6 n6 ⊢
   refine R_op rfl rfl (QfN (vs:=[rk,rn,rl]) rfl rfl rfl (QcV hri) g6 (Nat.le_refl 3)) (R_nil ?_)
   simp only [sN,s0,sS,a0,aS,aC]
   have u7:=u6.put (b:=h5.next) (Nat.le_refl _) (by omega) (.cells [rk,rn,rl] (some 51) 0 [])
   have g7:=get_put h6 h5.next (.cells [rk,rn,rl] (some 51) 0 [])
   change Reach F M (Ctx.at _ _ _ (h6.put h5.next (.cells [rk,rn,rl] (some 51) 0 []))) G
   generalize h6.put h5.next (.cells [rk,rn,rl] (some 51) 0 []) = h7 at u7 g7 ⊢
   have u7a:=(u4.trans u5).trans u7
   refine R_seq (Qaa (R_op rfl rfl (Qbk rfl g7 (Nat.le_refl 3)) (Qau rfl rfl rfl (hM _) (ih i hi N h7 _ (Up.refl u7.wf) (Nat.le_trans hN' u7a.next) (hri.low (u7.low (Nat.le_trans hN' (u4.trans u5).next)))) ?_ (fun _ _ e=>e.elim))))
   rintro v h8 ⟨rfl,u8⟩
   refine R_op rfl rfl rfl (R_nil ?_)
   simp only [sN,s0,sS,a0,aS,aC]
   refine R_seq (Qaa (R_op rfl rfl rfl (R_op rfl rfl rfl (R_nil ?_))))
   simp only [sN,s0,sS,a0,aS,aC]
   by_cases z : Qbq l[i] = 0
   ·simp only [z,show ((0 : Int) != 0) = false from rfl]
    refine Qaw rfl (QaF (QaQ (Qaa (R_op rfl rfl rfl (R_op rfl rfl rfl (R_nil ?_))))))
    simp only [sN,s0,sS,a0,aS,aC]
    refine Qbo ?_
    rw [hup]
    refine ihj (i + 1) b3 h8 (by omega) ((u5.trans u7).trans u8) ?_
    rw [← hw]
    simp [Qei,z]
   ·simp only [show (Qbq l[i] != 0) = true by simpa using z]
    refine QaM rfl (R_seq (Qaa (R_op rfl rfl rfl (R_op rfl rfl rfl (R_nil ?_)))))
    simp only [sN,s0,sS,a0,aS,aC]
    obtain ⟨fr',e1,e2⟩:=hk (.int .i64 (Qbq l[i])) h8 ⟨by rw [done,← hw]; simp [Qei,z],u7a.trans u8⟩
    exact R_ret ⟨rfl,rfl,rfl,rfl⟩ hF rfl e1 e2
 exact loop l.length 0 h1.next h4 (by omega) u4' rfl
end
end Go.Ab.L22
namespace Go.Ab.L22
open Go Go.Ab
/-- A heap that has grown; one block may have changed. -/
structure UpX (bc : Nat) (h h' : AH) : Prop where
 next : h.next ≤ h'.next
 keep : ∀ b,b < h.next → b ≠ bc → h'.get b = h.get b
 wf : ∀ b,h'.next ≤ b → h'.get b = none
theorem UpX.refl {bc : Nat} {h : AH} (wf : ∀ b,h.next ≤ b → h.get b = none) : UpX bc h h:=⟨Nat.le_refl _,fun _ _ _=>rfl,wf⟩
theorem UpX.trans {bc : Nat} {h h1 h2 : AH} (a : UpX bc h h1) (b : UpX bc h1 h2) : UpX bc h h2:=⟨Nat.le_trans a.next b.next,fun x hx hn=>by rw [b.keep x (Nat.lt_of_lt_of_le hx a.next) hn,a.keep x hx hn],b.wf⟩
theorem Up.x {bc : Nat} {h h' : AH} (u : Up h h') : UpX bc h h':=⟨u.next,fun b hb _=>u.keep b hb,u.wf⟩
theorem UpX.up {bc : Nat} {h h' : AH} (u : UpX bc h h') (hb : h.next ≤ bc) : Up h h':=⟨u.next,fun b hb'=>u.keep b hb' (by omega),u.wf⟩
theorem UpX.low {N bc : Nat} {h h' : AH} (u : UpX bc h h') (hN : N ≤ h.next) (hb : N ≤ bc) : Low N h h':=fun b hb'=>u.keep b (Nat.lt_of_lt_of_le hb' hN) (by omega)
theorem UpX.put {bc : Nat} {h0 h : AH} (u : UpX bc h0 h) {b : Nat} (hb : h0.next ≤ b ∨ b = bc) (hl : b < h.next) (o : AO) : UpX bc h0 (h.put b o):=by
 refine ⟨u.next,fun x hx hn=>?_,fun x hx=>?_⟩
 ·rw [Qaj _ _ (by omega),u.keep x hx hn]
 ·have hx' : h.next ≤ x:=hx
  rw [Qaj _ _ (by omega)]
  exact u.wf x hx'
mutual

def Qgj : LT → Int → Int
 | .mk _ _ l,left=>counts l (IntKind.i64.wrap (left - 1))
def counts : List LT → Int → Int
 | [],left=>left
 | t :: l,left=>counts l (if left ≥ 0 then Qgj t left else left)
end
mutual

def Short : LT → Prop
 | .mk _ _ l=>l.length < 4611686018427387904 ∧ Shorts l
def Shorts : List LT → Prop
 | []=>True
 | t :: l=>Short t ∧ Shorts l
end
theorem Shorts.at : ∀ {l : List LT},Shorts l → ∀ i (hi : i < l.length),Short l[i]
 | _ :: _,h,0,_=>h.1
 | _ :: _,h,i + 1,hi=>Shorts.at h.2 i (by simpa using hi)
mutual

def workD : LT → Int
 | .mk k n l=>if 121 < works (if k = 12 then n else 1) l 1 then 121 else works (if k = 12 then n else 1) l 1
def works : Int → List LT → Int → Int
 | _,[],sum=>sum
 | tm,t :: l,sum=>works tm l (IntKind.i64.wrap (sum + IntKind.i64.wrap (tm * workD t)))
end
def Qki : AC:=match fn_large1.body with | .seq _ (.seq _ (.seq _ (.block _ (.loop b))))=>b | _=>.skip
def Qog : AC:=match fn_work.body with | .seq _ (.seq _ (.seq _ (.seq _ (.seq (.seq _ (.block _ (.loop b))) _))))=>b | _=>.skip
def workRest : AC:=match fn_work.body with | .seq _ (.seq _ (.seq _ (.seq _ (.seq (.seq _ (.block _ (.loop _))) b))))=>b | _=>.skip
def QmW (F : FuncId → Option AFun) (M : Memo) (T : LT) : Prop :=
 ∀ (N bc bf : Nat) (left : Int) (h : AH) (row : List AV),Up h h → N ≤ h.next → N ≤ bc → bc < h.next → bf < h.next → bf ≠ bc → h.get bc = some (.cells [.int .i64 left] (some 7) 0 []) → h.get bf = some (.cells [.func Qbn [] [.ptr bc 0,.ptr bf 0]] (some 289) 0 []) → Rep N h T row →
  Ctr F M Qbn [.agg row,.ptr bc 0,.ptr bf 0] h (fun v h'=>v = .tuple [] ∧ UpX bc h h' ∧ h'.get bc = some (.cells [.int .i64 (Qgj T left)] (some 7) 0 [])) (fun _ _=>False)
def WorkC (F : FuncId → Option AFun) (M : Memo) (T : LT) : Prop :=
 ∀ (N : Nat) (h : AH) (row : List AV),Up h h → N ≤ h.next → Rep N h T row → Ctr F M Qko [.agg row] h (fun v h'=>v = .int .i64 (workD T) ∧ Up h h') (fun _ _=>False)
section
variable {F : FuncId → Option AFun} {M : Memo}
theorem QpH (hF : F Qbn = some fn_large1) (hM : ∀ as,M Qbn as = none) {k n : Int} {l : List LT} (hs : l.length < 4611686018427387904) (ih : ∀ i (hi : i < l.length),QmW F M l[i]) : QmW F M (.mk k n l):=by
 intro N bc bf left h row u hN' hNc hbc hbf hne gc gf hrep
 refine Ctr.intro hF fun caller cs G hk _=>?_
 simp only [fn_large1,fn86,List.length_cons,List.length_nil,Nat.reduceAdd,Nat.reduceSub,rZ,rS,pN,pC]
 cases hrep with
 | mk _ _ _ lv p r hl hpp hr =>
 refine R_seq (Qaa (R_op rfl rfl rfl (R_nil ?_)))
 simp only [sN,s0,sS,a0,aS,aC,AV.cells]
 obtain ⟨u1,u1',g1,n1⟩:=grown u (.cells [.int .i64 k,.int .i64 n,lv] (some 51) 0 [])
 have gc1:=u1.keep bc hbc
 have gf1:=u1.keep bf hbf
 rw [gc] at gc1
 rw [gf] at gf1
 generalize h.alloc (.cells [.int .i64 k,.int .i64 n,lv] (some 51) 0 []) = h1 at u1 u1' g1 n1 gc1 gf1 ⊢
 refine R_seq (Qaa (R_op rfl rfl (Qal rfl gc1 rfl) (R_op rfl rfl rfl (R_op rfl rfl (Qbd rfl rfl rfl rfl rfl gc1 (Nat.le_refl 1)) (R_nil ?_)))))
 simp only [sN,s0,sS,a0,aS,aC]
 have v2:=(u1.x (bc:=bc)).put (b:=bc) (.inr rfl) (by omega) (.cells [.int .i64 (IntKind.i64.wrap (left - 1))] (some 7) 0 [])
 have gc2:=get_put h1 bc (.cells [.int .i64 (IntKind.i64.wrap (left - 1))] (some 7) 0 [])
 have gf2 : (h1.put bc (.cells [.int .i64 (IntKind.i64.wrap (left - 1))] (some 7) 0 [])).get bf = _:=(Qaj h1 _ hne).trans gf1
 have g12 : (h1.put bc (.cells [.int .i64 (IntKind.i64.wrap (left - 1))] (some 7) 0 [])).get h.next = _:=(Qaj h1 _ (by omega)).trans g1
 have n2 : (h1.put bc (.cells [.int .i64 (IntKind.i64.wrap (left - 1))] (some 7) 0 [])).next = h.next + 1:=n1
 change Reach F M (Ctx.at _ _ _ (h1.put bc (.cells [.int .i64 (IntKind.i64.wrap (left - 1))] (some 7) 0 []))) G
 generalize h1.put bc (.cells [.int .i64 (IntKind.i64.wrap (left - 1))] (some 7) 0 []) = h2 at v2 gc2 gf2 g12 n2 ⊢
 have hlen : lenK h2 1 lv = some l.length:=by rw [QeS (h:=h)]; exact hl
 refine R_seq (Qaa (R_op rfl rfl rfl (R_op rfl rfl (Qal rfl g12 rfl) (R_op rfl rfl (x_len rfl hlen) (R_op rfl rfl rfl (R_nil ?_))))))
 simp only [sN,s0,sS,a0,aS,aC]
 refine QaS (QeH ?_)
 have loop : ∀ (j i : Nat) (lf : Int) (h5 : AH) {x0 x4 x5 x6 x7 x8 x12 x13 x14 x15 x16 x17 x18 x19 x20 : AV},i + j = l.length → UpX bc h2 h5 → h5.get bc = some (.cells [.int .i64 lf] (some 7) 0 []) → counts (l.drop i) lf = Qgj (.mk k n l) left →
   Reach F M ((⟨Qbn,[],.normal,none,caller :: cs⟩ : Ctx).at [x0,.ptr bc 0,.ptr bf 0,.ptr h.next 0,x4,x5,x6,x7,x8,lv,.int .i64 (l.length : Nat),.int .i64 (i : Nat),x12,x13,x14,x15,x16,x17,x18,x19,x20] [.code Qki,.inLoop Qki,.inBlock 0] h5) G:=by
  intro j
  induction j with
  | zero =>
   intro i lf h5 x0 x4 x5 x6 x7 x8 x12 x13 x14 x15 x16 x17 x18 x19 x20 hij u5 gc5 hw
   have hlt : ¬ (i : Int) < l.length:=by omega
   refine R_seq (Qaa (R_op rfl rfl rfl (R_nil ?_)))
   simp only [sN,s0,sS,a0,aS,aC,decide_eq_false hlt]
   refine R_seq (Qaw rfl (Qfj rfl ?_))
   have : l.drop i = []:=by simp; omega
   rw [this] at hw
   obtain ⟨fr',e1,e2⟩:=hk (.tuple []) h5 ⟨rfl,v2.trans u5,by rw [gc5,← hw]; rfl⟩
   exact R_end ⟨rfl,rfl,rfl,rfl⟩ hF rfl e1 e2
  | succ j ihj =>
   intro i lf h5 x0 x4 x5 x6 x7 x8 x12 x13 x14 x15 x16 x17 x18 x19 x20 hij u5 gc5 hw
   have hi : i < l.length:=by omega
   have hlt : (i : Int) < l.length:=by omega
   have hup : IntKind.i64.wrap ((i : Int) + 1) = ((i + 1 : Nat) : Int):=QkG (by omega)
   rw [List.drop_eq_getElem_cons hi] at hw
   obtain ⟨q1,q2,q3⟩:=hpp i hi
   have u05:=v2.trans u5
   have L5:=u05.low hN' hNc
   rw [← QaO L5 q2] at q3
   refine R_seq (Qaa (R_op rfl rfl rfl (R_nil ?_)))
   simp only [sN,s0,sS,a0,aS,aC,decide_eq_true hlt]
   refine R_seq (QaM rfl (QaF ?_))
   obtain ⟨rk,rn,rl,hrr⟩:=rep3 (hr i hi)
   have hri:=(hr i hi).low L5
   rw [hrr] at q3 hri
   refine R_seq (QaS (R_seq (Qaa (R_op rfl rfl (Qbl rfl rfl q1) (R_op rfl rfl (Qbp rfl q3) (R_op rfl rfl rfl ?_))))))
   simp only [sN,s0,sS,a0,aS,aC]
   obtain ⟨u6,u6',g6,n6⟩:=grown (Up.refl u5.wf) (.cells [.int .i64 0,.int .i64 0,.nilslice] (some 51) 0 [])
   generalize h5.alloc (.cells [.int .i64 0,.int .i64 0,.nilslice] (some 51) 0 []) = h6 at u6 u6' g6 n6 ⊢
   refine R_op rfl rfl (QfN (vs:=[rk,rn,rl]) rfl rfl rfl (QcV hri) g6 (Nat.le_refl 3)) (R_nil ?_)
   simp only [sN,s0,sS,a0,aS,aC]
   have u7:=u6.put (b:=h5.next) (Nat.le_refl _) (by omega) (.cells [rk,rn,rl] (some 51) 0 [])
   have g7:=get_put h6 h5.next (.cells [rk,rn,rl] (some 51) 0 [])
   have n7 : (h6.put h5.next (.cells [rk,rn,rl] (some 51) 0 [])).next = h5.next + 1:=n6
   change Reach F M (Ctx.at _ _ _ (h6.put h5.next (.cells [rk,rn,rl] (some 51) 0 []))) G
   generalize h6.put h5.next (.cells [rk,rn,rl] (some 51) 0 []) = h7 at u7 g7 n7 ⊢
   have hb5 : bc < h5.next:=Nat.lt_of_lt_of_le hbc u05.next
   have gc7:=u7.keep bc hb5
   rw [gc5] at gc7
   have gf7:=u7.keep bf (Nat.lt_of_lt_of_le hbf u05.next)
   rw [u5.keep bf (Nat.lt_of_lt_of_le hbf v2.next) hne,gf2] at gf7
   have u07:=u05.trans u7.x
   refine R_seq (Qaa (R_op rfl rfl (Qal rfl gc7 rfl) (R_op rfl rfl rfl (R_nil ?_))))
   simp only [sN,s0,sS,a0,aS,aC]
   by_cases z : (lf ≥ 0)
   ·simp only [decide_eq_true z]
    refine QaM rfl (Qaa (R_op rfl rfl (Qal rfl gf7 rfl) (R_op rfl rfl (Qbk rfl g7 (Nat.le_refl 3)) (Qau rfl rfl rfl (hM _) (ih i hi N bc bf lf h7 _ (Up.refl u7.wf) (Nat.le_trans hN' u07.next) hNc (Nat.lt_of_lt_of_le hbc u07.next) (Nat.lt_of_lt_of_le hbf u07.next) hne gc7 gf7 (hri.low (u7.low (Nat.le_trans hN' u05.next)))) ?_ (fun _ _ e=>e.elim)))))
    rintro v h8 ⟨rfl,u8,gc8⟩
    refine R_nil (QaQ (Qaa (R_op rfl rfl rfl (R_op rfl rfl rfl (R_nil ?_)))))
    simp only [sN,s0,sS,a0,aS,aC]
    refine Qbo ?_
    rw [hup]
    refine ihj (i + 1) _ h8 (by omega) ((u5.trans u7.x).trans u8) gc8 ?_
    rw [← hw]
    simp only [counts,if_pos z]
   ·simp only [decide_eq_false z]
    refine Qaw rfl (QaF (QaQ (Qaa (R_op rfl rfl rfl (R_op rfl rfl rfl (R_nil ?_))))))
    simp only [sN,s0,sS,a0,aS,aC]
    refine Qbo ?_
    rw [hup]
    refine ihj (i + 1) _ h7 (by omega) (u5.trans u7.x) gc7 ?_
    rw [← hw]
    simp only [counts,if_neg z]
 exact loop l.length 0 _ h2 (by omega) (.refl v2.wf) gc2 rfl
theorem QqY (hF : F Qlo = some Qd4) (hM : ∀ as,M Qbn as = none) {T : LT} (ih : QmW F M T) {N : Nat} {h : AH} {row : List AV} (u : Up h h) (hN : N ≤ h.next) (hrep : Rep N h T row) :
  Ctr F M Qlo [.agg row] h (fun v h'=>v = .bool (decide (Qgj T 40 < 0)) ∧ Up h h') (fun _ _=>False):=by
 refine Ctr.intro hF fun caller cs G hk _=>?_
 simp only [Qd4,fn43,List.length_cons,List.length_nil,Nat.reduceAdd,Nat.reduceSub,rZ,rS,pN,pC]
 obtain ⟨rk,rn,rl,rfl⟩:=rep3 hrep
 refine R_seq (Qaa (R_op rfl rfl rfl (R_op rfl rfl rfl (R_nil ?_))))
 simp only [sN,s0,sS,a0,aS,aC,AV.cells]
 obtain ⟨u1,u1',g1,n1⟩:=grown u (.cells [rk,rn,rl] (some 51) 0 [])
 generalize h.alloc (.cells [rk,rn,rl] (some 51) 0 []) = h1 at u1 u1' g1 n1 ⊢
 refine R_seq (Qaa (R_op rfl rfl rfl ?_))
 simp only [sN,s0,sS,a0,aS,aC]
 obtain ⟨u2,u2',g2,n2⟩:=grown u1' (.cells [.int .i64 0] (some 7) 0 [])
 have g12:=u2.keep h.next (by omega)
 rw [g1] at g12
 generalize h1.alloc (.cells [.int .i64 0] (some 7) 0 []) = h2 at u2 u2' g2 n2 g12 ⊢
 refine R_op rfl rfl (Qbd rfl rfl rfl rfl rfl g2 (Nat.le_refl 1)) (R_nil ?_)
 simp only [sN,s0,sS,a0,aS,aC]
 have u3:=u2.put (b:=h1.next) (Nat.le_refl _) (by omega) (.cells [.int .i64 40] (some 7) 0 [])
 have g3:=get_put h2 h1.next (.cells [.int .i64 40] (some 7) 0 [])
 have g13 : (h2.put h1.next (.cells [.int .i64 40] (some 7) 0 [])).get h.next = _:=(Qaj h2 _ (by omega)).trans g12
 have n3 : (h2.put h1.next (.cells [.int .i64 40] (some 7) 0 [])).next = h1.next + 1:=n2
 change Reach F M (Ctx.at _ _ _ (h2.put h1.next (.cells [.int .i64 40] (some 7) 0 []))) G
 generalize h2.put h1.next (.cells [.int .i64 40] (some 7) 0 []) = h3 at u3 g3 g13 n3 ⊢
 refine R_seq (Qaa (R_op rfl rfl rfl (R_nil ?_)))
 simp only [sN,s0,sS,a0,aS,aC]
 obtain ⟨u4,u4',g4,n4⟩:=grown (Up.refl u3.wf) (.cells [.nilFunc] (some 289) 0 [])
 have g34:=u4.keep h1.next (by omega)
 rw [g3] at g34
 have g14:=u4.keep h.next (by omega)
 rw [g13] at g14
 generalize h3.alloc (.cells [.nilFunc] (some 289) 0 []) = h4 at u4 u4' g4 n4 g34 g14 ⊢
 refine R_seq (Qaa (R_op rfl rfl rfl (R_op rfl rfl (Qbd (v:=.func Qbn [] [.ptr h1.next 0,.ptr h3.next 0]) rfl rfl rfl rfl rfl g4 (Nat.le_refl 1)) (R_nil ?_))))
 simp only [sN,s0,sS,a0,aS,aC]
 have u5:=u4.put (b:=h3.next) (Nat.le_refl _) (by omega) (.cells [.func Qbn [] [.ptr h1.next 0,.ptr h3.next 0]] (some 289) 0 [])
 have g5:=get_put h4 h3.next (.cells [.func Qbn [] [.ptr h1.next 0,.ptr h3.next 0]] (some 289) 0 [])
 have g35 : (h4.put h3.next (.cells [.func Qbn [] [.ptr h1.next 0,.ptr h3.next 0]] (some 289) 0 [])).get h1.next = _:=(Qaj h4 _ (by omega)).trans g34
 have g15 : (h4.put h3.next (.cells [.func Qbn [] [.ptr h1.next 0,.ptr h3.next 0]] (some 289) 0 [])).get h.next = _:=(Qaj h4 _ (by omega)).trans g14
 have n5 : (h4.put h3.next (.cells [.func Qbn [] [.ptr h1.next 0,.ptr h3.next 0]] (some 289) 0 [])).next = h3.next + 1:=n4
 change Reach F M (Ctx.at _ _ _ (h4.put h3.next (.cells [.func Qbn [] [.ptr h1.next 0,.ptr h3.next 0]] (some 289) 0 []))) G
 generalize h4.put h3.next (.cells [.func Qbn [] [.ptr h1.next 0,.ptr h3.next 0]] (some 289) 0 []) = h5 at u5 g5 g35 g15 n5 ⊢
 have u05:=((u1.trans u3).trans u5)
 refine R_seq (Qaa (R_op rfl rfl (Qal rfl g5 rfl) (R_op rfl rfl (Qbk rfl g15 (Nat.le_refl 3)) (Qau rfl rfl rfl (hM _) (ih N h1.next h3.next 40 h5 _ (Up.refl u5.wf) (Nat.le_trans hN u05.next) (by omega) (by omega) (by omega) (by omega) g35 g5 (hrep.low (u05.low hN))) ?_ (fun _ _ e=>e.elim)))))
 rintro v h6 ⟨rfl,u6,g6⟩
 refine R_nil (R_seq (Qaa (R_op rfl rfl (Qal rfl g6 rfl) (R_op rfl rfl rfl (R_op rfl rfl rfl (R_nil ?_))))))
 simp only [sN,s0,sS,a0,aS,aC]
 have u06 : UpX h1.next h h6:=u05.x.trans u6
 obtain ⟨fr',e1,e2⟩:=hk (.bool (decide (Qgj T 40 < 0))) h6 ⟨rfl,u06.up (by omega)⟩
 exact R_ret ⟨rfl,rfl,rfl,rfl⟩ hF rfl e1 e2
theorem work_ctr (hF : F Qko = some fn_work) (hM : ∀ as,M Qko as = none) {k n : Int} {l : List LT} (hs : l.length < 4611686018427387904) (ih : ∀ i (hi : i < l.length),WorkC F M l[i]) : WorkC F M (.mk k n l):=by
 intro N h row u hN' hrep
 refine Ctr.intro hF fun caller cs G hk _=>?_
 simp only [fn_work,fn45,List.length_cons,List.length_nil,Nat.reduceAdd,Nat.reduceSub,rZ,rS,pN,pC]
 cases hrep with
 | mk _ _ _ lv p r hl hpp hr =>
 refine R_seq (Qaa (R_op rfl rfl rfl (R_op rfl rfl rfl (R_nil ?_))))
 simp only [sN,s0,sS,a0,aS,aC,AV.cells]
 obtain ⟨u1,u1',g1,n1⟩:=grown u (.cells [.int .i64 k,.int .i64 n,lv] (some 51) 0 [])
 generalize h.alloc (.cells [.int .i64 k,.int .i64 n,lv] (some 51) 0 []) = h1 at u1 u1' g1 n1 ⊢
 have hlen : lenK h1 1 lv = some l.length:=by rw [QeS (h:=h)]; exact hl
 refine R_seq (Qaa (R_op rfl rfl rfl (R_nil ?_)))
 simp only [sN,s0,sS,a0,aS,aC]
 refine R_seq (R_seq (Qaa (R_op rfl rfl rfl (R_op rfl rfl (Qal rfl g1 rfl) (R_op rfl rfl rfl (R_nil ?_))))))
 simp only [sN,s0,sS,a0,aS,aC]
 have loop : ∀ (tm : Int),(if k = 12 then n else 1) = tm → ∀ (j i : Nat) (sum : Int) (h5 : AH) {y2 x0 x5 x6 x7 x8 x9 x10 x11 x12 x16 x17 x18 x19 x20 x21 x22 x23 x24 x25 x26 x27 : AV},i + j = l.length → Up h1 h5 → works tm (l.drop i) sum = works tm l 1 →
   Reach F M ((⟨Qko,[],.normal,none,caller :: cs⟩ : Ctx).at [x0,.ptr h.next 0,y2,.int .i64 tm,.int .i64 sum,x5,x6,x7,x8,x9,x10,x11,x12,lv,.int .i64 (l.length : Nat),.int .i64 (i : Nat),x16,x17,x18,x19,x20,x21,x22,x23,x24,x25,x26,x27] [.code Qog,.inLoop Qog,.inBlock 0,.code workRest] h5) G:=by
  intro tm htm j
  induction j with
  | zero =>
   intro i sum h5 y2 x0 x5 x6 x7 x8 x9 x10 x11 x12 x16 x17 x18 x19 x20 x21 x22 x23 x24 x25 x26 x27 hij u5 hw
   have hlt : ¬ (i : Int) < l.length:=by omega
   refine R_seq (Qaa (R_op rfl rfl rfl (R_nil ?_)))
   simp only [sN,s0,sS,a0,aS,aC,decide_eq_false hlt]
   refine R_seq (Qaw rfl (Qfj rfl ?_))
   have : l.drop i = []:=by simp; omega
   rw [this] at hw
   have hw' : sum = works tm l 1:=hw
   refine R_seq (Qaa (R_op rfl rfl rfl (R_op (v:=.int .i64 (if 121 < sum then 121 else sum)) (h1:=h5) rfl rfl rfl (R_op rfl rfl rfl (R_nil ?_)))))
   simp only [sN,s0,sS,a0,aS,aC]
   obtain ⟨fr',e1,e2⟩:=hk (.int .i64 (if 121 < sum then 121 else sum)) h5 ⟨by simp only [workD,htm,← hw'],u1.trans u5⟩
   exact R_ret ⟨rfl,rfl,rfl,rfl⟩ hF rfl e1 e2
  | succ j ihj =>
   intro i sum h5 y2 x0 x5 x6 x7 x8 x9 x10 x11 x12 x16 x17 x18 x19 x20 x21 x22 x23 x24 x25 x26 x27 hij u5 hw
   have hi : i < l.length:=by omega
   have hlt : (i : Int) < l.length:=by omega
   have hup : IntKind.i64.wrap ((i : Int) + 1) = ((i + 1 : Nat) : Int):=QkG (by omega)
   rw [List.drop_eq_getElem_cons hi] at hw
   obtain ⟨q1,q2,q3⟩:=hpp i hi
   have u05:=u1.trans u5
   have L5:=u05.low hN'
   rw [← QaO L5 q2] at q3
   refine R_seq (Qaa (R_op rfl rfl rfl (R_nil ?_)))
   simp only [sN,s0,sS,a0,aS,aC,decide_eq_true hlt]
   refine R_seq (QaM rfl (QaF ?_))
   obtain ⟨rk,rn,rl,hrr⟩:=rep3 (hr i hi)
   have hri:=(hr i hi).low L5
   rw [hrr] at q3 hri
   refine R_seq (QaS (R_seq (Qaa (R_op rfl rfl (Qbl rfl rfl q1) (R_op rfl rfl (Qbp rfl q3) (R_op rfl rfl rfl ?_))))))
   simp only [sN,s0,sS,a0,aS,aC]
   obtain ⟨u6,u6',g6,n6⟩:=grown (Up.refl u5.wf) (.cells [.int .i64 0,.int .i64 0,.nilslice] (some 51) 0 [])
   generalize h5.alloc (.cells [.int .i64 0,.int .i64 0,.nilslice] (some 51) 0 []) = h6 at u6 u6' g6 n6 ⊢
   refine R_op rfl rfl (QfN (vs:=[rk,rn,rl]) rfl rfl rfl (QcV hri) g6 (Nat.le_refl 3)) (R_nil ?_)
   simp only [sN,s0,sS,a0,aS,aC]
   have u7:=u6.put (b:=h5.next) (Nat.le_refl _) (by omega) (.cells [rk,rn,rl] (some 51) 0 [])
   have g7:=get_put h6 h5.next (.cells [rk,rn,rl] (some 51) 0 [])
   change Reach F M (Ctx.at _ _ _ (h6.put h5.next (.cells [rk,rn,rl] (some 51) 0 []))) G
   generalize h6.put h5.next (.cells [rk,rn,rl] (some 51) 0 []) = h7 at u7 g7 ⊢
   have u07:=u05.trans u7
   refine Qaa (R_op rfl rfl rfl (R_op rfl rfl rfl (R_op rfl rfl (Qbk rfl g7 (Nat.le_refl 3)) (Qau rfl rfl rfl (hM _) (ih i hi N h7 _ (Up.refl u7.wf) (Nat.le_trans hN' u07.next) (hri.low (u7.low (Nat.le_trans hN' u05.next)))) ?_ (fun _ _ e=>e.elim)))))
   rintro v h8 ⟨rfl,u8⟩
   refine R_op rfl rfl rfl (R_op rfl rfl rfl (R_op rfl rfl rfl (R_nil (QaQ (Qaa (R_op rfl rfl rfl (R_op rfl rfl rfl (R_nil ?_))))))))
   simp only [sN,s0,sS,a0,aS,aC]
   refine Qbo ?_
   rw [hup]
   refine ihj (i + 1) _ h8 (by omega) ((u5.trans u7).trans u8) ?_
   rw [← hw]
   simp only [works]
 by_cases c : k = 12
 ·simp only [show (k == 12) = true by simpa using c]
  refine QaM rfl (Qaa (R_op rfl rfl rfl (R_op rfl rfl (Qal rfl g1 rfl) (R_op rfl rfl rfl (R_nil ?_)))))
  simp only [sN,s0,sS,a0,aS,aC]
  refine R_seq (Qaa (R_op rfl rfl rfl (R_nil ?_)))
  simp only [sN,s0,sS,a0,aS,aC]
  refine R_seq (R_seq (Qaa (R_op rfl rfl rfl (R_op rfl rfl (Qal rfl g1 rfl) (R_op rfl rfl (x_len rfl hlen) (R_op rfl rfl rfl (R_nil ?_)))))))
  simp only [sN,s0,sS,a0,aS,aC]
  exact QaS (QeH (loop n (if_pos c) l.length 0 1 h1 (by omega) u1' rfl))
 ·simp only [show (k == 12) = false by simpa using c]
  refine Qaw rfl (QaF ?_)
  refine R_seq (Qaa (R_op rfl rfl rfl (R_nil ?_)))
  simp only [sN,s0,sS,a0,aS,aC]
  refine R_seq (R_seq (Qaa (R_op rfl rfl rfl (R_op rfl rfl (Qal rfl g1 rfl) (R_op rfl rfl (x_len rfl hlen) (R_op rfl rfl rfl (R_nil ?_)))))))
  simp only [sN,s0,sS,a0,aS,aC]
  exact QaS (QeH (loop 1 (if_neg c) l.length 0 1 h1 (by omega) u1' rfl))
end
end Go.Ab.L22
namespace Go.Ab.L22
open Go Go.Ab
section
variable {F : FuncId → Option AFun} {M : Memo}
/-- What Check answers. -/
def Qbz (st env : Int) (T : LT) : Int :=
 if (if env > st then env else st) > 999 then 1 else if (if env < st then env else st) < -999 then 1 else if Qgj T 40 < 0 then 3 else if Qbq T ≠ 0 then Qbq T else if workD T > 120 then 3 else 0
structure Fns2 (F : FuncId → Option AFun) (M : Memo) : Prop where
 needs : F QgO = some QcP
 wrong : F QgN = some fn_wrong
 large : F Qlo = some Qd4
 large1 : F Qbn = some fn_large1
 work : F Qko = some fn_work
 check : F QnE = some QeY
 begun : F QnC = some QeX
 mneeds : ∀ as,M QgO as = none
 mwrong : ∀ as,M QgN as = none
 mlarge : ∀ as,M Qlo as = none
 mlarge1 : ∀ as,M Qbn as = none
 mwork : ∀ as,M Qko as = none
 mcheck : ∀ as,M QnE as = none
 mbegun : ∀ as,M QnC as = none
mutual
theorem QlK (H : Fns2 F M) : ∀ T,Qpc F M T
 | .mk _ _ l=>Qqb H.wrong H.needs H.mwrong H.mneeds (QjY H l)
theorem QjY (H : Fns2 F M) : ∀ (l : List LT) (i : Nat) (hi : i < l.length),Qpc F M l[i]
 | t :: _,0,_=>QlK H t
 | _ :: l,i + 1,hi=>QjY H l i (by simpa using hi)
end
mutual
theorem Qmm (H : Fns2 F M) : ∀ T,Short T → QmW F M T
 | .mk _ _ l,hs=>QpH H.large1 H.mlarge1 hs.1 (Qkh H l hs.2)
theorem Qkh (H : Fns2 F M) : ∀ (l : List LT),Shorts l → ∀ (i : Nat) (hi : i < l.length),QmW F M l[i]
 | t :: _,hs,0,_=>Qmm H t hs.1
 | _ :: l,hs,i + 1,hi=>Qkh H l hs.2 i (by simpa using hi)
end
mutual
theorem Qof (H : Fns2 F M) : ∀ T,Short T → WorkC F M T
 | .mk _ _ l,hs=>work_ctr H.work H.mwork hs.1 (QlM H l hs.2)
theorem QlM (H : Fns2 F M) : ∀ (l : List LT),Shorts l → ∀ (i : Nat) (hi : i < l.length),WorkC F M l[i]
 | t :: _,hs,0,_=>Qof H t hs.1
 | _ :: l,hs,i + 1,hi=>QlM H l hs.2 i (by simpa using hi)
end
theorem Qry (H : Fns2 F M) {T : LT} (hs : Short T) {st env : Int} {out : Bool} {rk rn rl : AV} {N : Nat} {h : AH} (u : Up h h) (hN : N ≤ h.next) (hrep : Rep N h T [rk,rn,rl]) :
  Ctr F M QnE [.agg [.int .i64 st,.int .i64 env,.bool out,rk,rn,rl]] h (fun v h'=>v = .int .i64 (Qbz st env T) ∧ Up h h') (fun _ _=>False):=by
 refine Ctr.intro H.check fun caller cs G hk _=>?_
 have hF:=H.check
 simp only [QeY,fn23,List.length_cons,List.length_nil,Nat.reduceAdd,Nat.reduceSub,rZ,rS,pN,pC]
 refine R_seq (Qaa (R_op rfl rfl rfl (R_op rfl rfl rfl (R_nil ?_))))
 simp only [sN,s0,sS,a0,aS,aC,AV.cells]
 obtain ⟨u1,u1',g1,n1⟩:=grown u (.cells [.int .i64 st,.int .i64 env,.bool out,rk,rn,rl] (some 55) 0 [])
 generalize h.alloc (.cells [.int .i64 st,.int .i64 env,.bool out,rk,rn,rl] (some 55) 0 []) = h1 at u1 u1' g1 n1 ⊢
 have hrep1:=hrep.low (u1.low hN)
 refine R_seq (R_seq (Qaa (R_op rfl rfl rfl (R_op rfl rfl (Qal rfl g1 rfl) (R_op rfl rfl rfl (R_op rfl rfl (Qal rfl g1 rfl) (R_op (v:=.int .i64 (if env > st then env else st)) (h1:=h1) rfl rfl rfl (R_op rfl rfl rfl (R_op rfl rfl rfl ?_)))))))))
 simp only [sN,s0,sS,a0,aS,aC]
 by_cases c1 : (if env > st then env else st) > 999
 ·simp only [decide_eq_true c1]
  refine R_not rfl (R_not rfl (R_not rfl (R_not rfl (R_not rfl (R_not rfl (R_op rfl rfl rfl (R_nil ?_)))))))
  simp only [sN,s0,sS,a0,aS,aC]
  refine QaM rfl (R_seq (Qaa (R_op rfl rfl rfl (R_nil ?_))))
  simp only [sN,s0,sS,a0,aS,aC]
  obtain ⟨fr',e1,e2⟩:=hk (.int .i64 1) _ ⟨by unfold Qbz; rw [if_pos c1],u1⟩
  exact R_ret ⟨rfl,rfl,rfl,rfl⟩ hF rfl e1 e2
 simp only [decide_eq_false c1]
 refine R_op rfl rfl rfl (R_op rfl rfl (Qal rfl g1 rfl) (R_op rfl rfl rfl (R_op rfl rfl (Qal rfl g1 rfl) (R_op (v:=.int .i64 (if env < st then env else st)) (h1:=h1) rfl rfl rfl (R_op rfl rfl rfl (R_op rfl rfl rfl (R_nil ?_)))))))
 simp only [sN,s0,sS,a0,aS,aC]
 by_cases c2 : (if env < st then env else st) < -999
 ·simp only [decide_eq_true c2]
  refine QaM rfl (R_seq (Qaa (R_op rfl rfl rfl (R_nil ?_))))
  simp only [sN,s0,sS,a0,aS,aC]
  obtain ⟨fr',e1,e2⟩:=hk (.int .i64 1) _ ⟨by unfold Qbz; rw [if_neg c1,if_pos c2],u1⟩
  exact R_ret ⟨rfl,rfl,rfl,rfl⟩ hF rfl e1 e2
 simp only [decide_eq_false c2]
 refine Qaw rfl (QaF ?_)
 refine R_seq (R_seq (Qaa (R_op rfl rfl rfl (R_op rfl rfl (Qbk rfl g1 (by simp)) (Qau rfl rfl rfl (H.mlarge _) (QqY H.large H.mlarge1 (Qmm H T hs) u1' (Nat.le_trans hN u1.next) hrep1) ?_ (fun _ _ e=>e.elim))))))
 rintro v h2 ⟨rfl,u2⟩
 refine R_nil ?_
 simp only [sN,s0,sS,a0,aS,aC]
 have u02:=u1.trans u2
 have g2:=u2.keep h.next (by omega)
 rw [g1] at g2
 by_cases c3 : Qgj T 40 < 0
 ·simp only [decide_eq_true c3]
  refine QaM rfl (R_seq (Qaa (R_op rfl rfl rfl (R_nil ?_))))
  simp only [sN,s0,sS,a0,aS,aC]
  obtain ⟨fr',e1,e2⟩:=hk (.int .i64 3) _ ⟨by unfold Qbz; rw [if_neg c1,if_neg c2,if_pos c3],u02⟩
  exact R_ret ⟨rfl,rfl,rfl,rfl⟩ hF rfl e1 e2
 simp only [decide_eq_false c3]
 refine Qaw rfl (QaF ?_)
 refine R_seq (R_seq (Qaa (R_op rfl rfl rfl (R_op rfl rfl (Qbk rfl g2 (by simp)) (Qau rfl rfl rfl (H.mwrong _) (QlK H T N h2 _ (Up.refl u2.wf) (Nat.le_trans hN u02.next) (hrep.low (u02.low hN))) ?_ (fun _ _ e=>e.elim))))))
 rintro v h3 ⟨rfl,u3⟩
 refine R_op rfl rfl rfl (R_nil ?_)
 simp only [sN,s0,sS,a0,aS,aC]
 have u03:=u02.trans u3
 have g3:=u3.keep h.next (by have:=u2.next; omega)
 rw [g2] at g3
 refine R_seq (Qaa (R_op rfl rfl rfl (R_op rfl rfl rfl (R_nil ?_))))
 simp only [sN,s0,sS,a0,aS,aC]
 by_cases c4 : (Qbq T ≠ 0)
 ·simp only [show (Qbq T != 0) = true by simpa using c4]
  refine QaM rfl (R_seq (Qaa (R_op rfl rfl rfl (R_op rfl rfl rfl (R_nil ?_)))))
  simp only [sN,s0,sS,a0,aS,aC]
  obtain ⟨fr',e1,e2⟩:=hk (.int .i64 (Qbq T)) _ ⟨by unfold Qbz; rw [if_neg c1,if_neg c2,if_neg c3,if_pos c4],u03⟩
  exact R_ret ⟨rfl,rfl,rfl,rfl⟩ hF rfl e1 e2
 simp only [show (Qbq T != 0) = false by simpa using c4]
 refine Qaw rfl (QaF ?_)
 refine R_seq (R_seq (Qaa (R_op rfl rfl rfl (R_op rfl rfl (Qbk rfl g3 (by simp)) (Qau rfl rfl rfl (H.mwork _) (Qof H T hs N h3 _ (Up.refl u3.wf) (Nat.le_trans hN u03.next) (hrep.low (u03.low hN))) ?_ (fun _ _ e=>e.elim))))))
 rintro v h4 ⟨rfl,u4⟩
 refine R_op rfl rfl rfl (R_nil ?_)
 simp only [sN,s0,sS,a0,aS,aC]
 have u04:=u03.trans u4
 by_cases c5 : (workD T > 120)
 ·simp only [decide_eq_true c5]
  refine QaM rfl (R_seq (Qaa (R_op rfl rfl rfl (R_nil ?_))))
  simp only [sN,s0,sS,a0,aS,aC]
  obtain ⟨fr',e1,e2⟩:=hk (.int .i64 3) _ ⟨by unfold Qbz; rw [if_neg c1,if_neg c2,if_neg c3,if_neg c4,if_pos c5],u04⟩
  exact R_ret ⟨rfl,rfl,rfl,rfl⟩ hF rfl e1 e2
 simp only [decide_eq_false c5]
 refine Qaw rfl (QaF (R_seq (Qaa (R_op rfl rfl rfl (R_nil ?_)))))
 simp only [sN,s0,sS,a0,aS,aC]
 obtain ⟨fr',e1,e2⟩:=hk (.int .i64 0) _ ⟨by unfold Qbz; rw [if_neg c1,if_neg c2,if_neg c3,if_neg c4,if_neg c5],u04⟩
 exact R_ret ⟨rfl,rfl,rfl,rfl⟩ hF rfl e1 e2
end

mutual
theorem Qon : ∀ T,Qbq T = 0 → Right T
 | .mk k n l=>by
  intro e
  simp only [Qbq] at e
  by_cases c1 : k < 0
  ·rw [if_pos c1] at e; omega
  rw [if_neg c1] at e
  by_cases c2 : 13 ≤ k
  ·rw [if_pos c2] at e; omega
  rw [if_neg c2] at e
  by_cases c3 : n < IntKind.i64.wrap (0 - belowD k)
  ·rw [if_pos c3] at e; omega
  rw [if_neg c3] at e
  by_cases c4 : QcD k < n
  ·rw [if_pos c4] at e; omega
  rw [if_neg c4] at e
  by_cases c5 : (l.length : Int) ≠ parts k
  ·rw [if_pos c5] at e; omega
  rw [if_neg c5] at e
  refine ⟨by omega,by omega,by have:=Decidable.not_not.1 c5; omega,?_,QlZ l e⟩
  rintro rfl
  have h1 : IntKind.i64.wrap (0 - belowD 12) = 0:=rfl
  have h2 : QcD 12 = 4:=rfl
  rw [h1] at c3
  rw [h2] at c4
  omega
theorem QlZ : ∀ l,Qei l = 0 → QjD l
 | [],_=>trivial
 | t :: l,e=>by
  simp only [Qei] at e
  by_cases c : (Qbq t ≠ 0)
  ·rw [if_pos c] at e; exact absurd e c
  ·rw [if_neg c] at e
   exact ⟨Qon t (Decidable.not_not.1 c),QlZ l e⟩
end
theorem QkH {x : Int} (h0 : 0 ≤ x) (h1 : x < 1000000) : IntKind.i64.wrap x = x:=by
 unfold IntKind.wrap
 simp [IntKind.signed,IntKind.bits]
 omega
mutual
theorem Qqd : ∀ T,Right T → workD T = ((min (wk T) 121 : Nat) : Int)
 | .mk k n l=>by
  rintro ⟨_,_,hl,h12,hr⟩
  have hle : l.length ≤ 3:=by have:=Qos k; omega
  have ht : (if k = 12 then n else 1) = ((reps k n : Nat) : Int):=by
   unfold reps
   by_cases c : k = 12
   ·have:=h12 c
    simp [c]; omega
   ·simp [c]
  have hrp : reps k n ≤ 4:=by
   unfold reps
   by_cases c : k = 12
   ·have:=h12 c
    simp [c]; omega
   ·simp [c]
  obtain ⟨w,h1,h3,h4⟩:=Qoe (reps k n) hrp l hr 1 (Nat.le_refl _) hle (by omega)
  have e : works (if k = 12 then n else 1) l 1 = w:=by rw [ht]; exact h1
  simp only [workD,e]
  have hw : wk (.mk k n l) = 1 + reps k n * wks l:=by simp only [wk]
  rw [hw]
  by_cases c : 1 + reps k n * wks l ≤ 121
  ·have:=h3 c
   rw [if_neg (by omega)]; omega
  ·have:=h4 (by omega)
   rw [if_pos (by omega)]; omega
theorem Qoe (q : Nat) (hq : q ≤ 4) : ∀ l,QjD l → ∀ s : Nat,1 ≤ s → l.length ≤ 3 → s + 484 * l.length ≤ 1453 → ∃ w : Nat,works q l s = w ∧ (s + q * wks l ≤ 121 → w = s + q * wks l) ∧ (121 < s + q * wks l → 121 < w)
 | [],_,s,_,_,_=>⟨s,rfl,fun _=>by simp [wks],fun h=>by simpa [wks] using h⟩
 | t :: l,hr,s,h1s,hl,hs=>by
  have et:=Qqd t hr.1
  have b1 : q * min (wk t) 121 ≤ 4 * 121:=Nat.mul_le_mul hq (Nat.min_le_right _ _)
  simp only [List.length_cons] at hl hs
  obtain ⟨w,h1,h3,h4⟩:=Qoe q hq l hr.2 (s + q * min (wk t) 121) (by omega) (by omega) (by omega)
  refine ⟨w,?_,fun hh=>?_,fun hh=>?_⟩
  ·simp only [works]
   rw [et,show (q : Int) * ((min (wk t) 121 : Nat) : Int) = ((q * min (wk t) 121 : Nat) : Int) by simp,QkH (x:=((q * min (wk t) 121 : Nat) : Int)) (by omega) (by omega),QkH (by omega) (by omega)]
   rw [show ((s : Int) + ((q * min (wk t) 121 : Nat) : Int)) = ((s + q * min (wk t) 121 : Nat) : Int) by omega]
   exact h1
  ·simp only [wks,Nat.mul_add] at hh ⊢
   have hmv : q * min (wk t) 121 = q * wk t:=by
    rcases Nat.eq_zero_or_pos q with rfl | h1'
    ·simp
    ·have : wk t ≤ q * wk t:=Nat.le_mul_of_pos_left _ h1'
     rw [Nat.min_eq_left (by omega)]
   rw [hmv] at h3
   rw [h3 (by omega)]
   omega
  ·simp only [wks,Nat.mul_add] at hh
   by_cases c : wk t ≤ 121
   ·rw [Nat.min_eq_left c] at h4
    exact h4 (by omega)
   ·rcases Nat.eq_zero_or_pos q with rfl | h1'
    ·simp at hh
     exact h4 (by simp; omega)
    ·rw [Nat.min_eq_right (by omega)] at h4
     exact h4 (by have : 121 ≤ q * 121:=Nat.le_mul_of_pos_left _ h1'; omega)
end
theorem check_ok {st env : Int} {T : LT} (e : Qbz st env T = 0) : Right T ∧ wk T ≤ 120:=by
 unfold Qbz at e
 by_cases c1 : (if env > st then env else st) > 999
 ·rw [if_pos c1] at e; omega
 rw [if_neg c1] at e
 by_cases c2 : (if env < st then env else st) < -999
 ·rw [if_pos c2] at e; omega
 rw [if_neg c2] at e
 by_cases c3 : Qgj T 40 < 0
 ·rw [if_pos c3] at e; omega
 rw [if_neg c3] at e
 by_cases c4 : (Qbq T ≠ 0)
 ·rw [if_pos c4] at e; exact absurd e c4
 rw [if_neg c4] at e
 have hr:=Qon T (Decidable.not_not.1 c4)
 by_cases c5 : (workD T > 120)
 ·rw [if_pos c5] at e; omega
 rw [Qqd T hr] at c5
 exact ⟨hr,by omega⟩
end Go.Ab.L22
namespace Go.Ab.L22
open Go Go.Ab
theorem put_put (h : AH) (b : Nat) (o o' : AO) : (h.put b o).put b o' = h.put b o':=by
 unfold AH.put
 congr 1
 funext x
 by_cases c : x = b <;> simp [c]
theorem Qoc {h : AH} {ev : AOpd → AV} {m k x : AOpd} {b : Nat} {kk : Int} {v : AV} {cl : Nat} {es : List (AV × AV × Nat)} (hk : ev k = .int .i64 kk) (hm : ev m = .map b) (hx : ev x = v) (hg : h.get b = some (.map es cl)) (hf : findA (.int .i64 kk) es 0 = some none) :
  exec h ev (.mapUpdate 0 m k x) = some (.undef,h.put b (.map (es ++ [(.int .i64 kk,v,cl)]) (cl + 1))):=by
 simp [exec,hk,hm,hx,hg,hf,AV.keyKind]
theorem Qb6 {h : AH} {ev : AOpd → AV} {m k x : AOpd} {b : Nat} {kk : Int} {v : AV} {cl : Nat} {es : List (AV × AV × Nat)} (hk : ev k = .int .i64 kk) (hm : ev m = .map b) (hx : ev x = v) (hf : findA (.int .i64 kk) es 0 = some none) :
  exec (h.put b (.map es cl)) ev (.mapUpdate 0 m k x) = some (.undef,h.put b (.map (es ++ [(.int .i64 kk,v,cl)]) (cl + 1))):=by
 rw [Qoc hk hm hx (get_put h b _) hf,put_put]
section
variable {F : FuncId → Option AFun} {M : Memo}
theorem QrE (H : Fns2 F M) {st env : Int} {out : Bool} {rk rn rl : AV} (ho : [rk,rn,rl].all AV.one = true) {N : Nat} {h : AH} (u : Up h h) (hN : N ≤ h.next) :
  Ctr F M QnC [.agg [.int .i64 st,.int .i64 env,.bool out,rk,rn,rl]] h (fun v h'=>∃ bm bd,v = .ptr bm 0 ∧ Mst ⟨N,bm,bd,out,rk,rn,rl⟩ env ⟨st,[]⟩ h' ∧ Up h h' ∧ h.next ≤ bm) (fun _ _=>False):=by
 refine Ctr.intro H.begun fun caller cs G hk _=>?_
 have hF:=H.begun
 simp only [QeX,fn25,List.length_cons,List.length_nil,Nat.reduceAdd,Nat.reduceSub,rZ,rS,pN,pC]
 refine R_seq (Qaa (R_op rfl rfl rfl (R_op rfl rfl rfl (R_nil ?_))))
 simp only [sN,s0,sS,a0,aS,aC,AV.cells]
 obtain ⟨u1,u1',g1,n1⟩:=grown u (.cells [.int .i64 st,.int .i64 env,.bool out,rk,rn,rl] (some 55) 0 [])
 generalize h.alloc (.cells [.int .i64 st,.int .i64 env,.bool out,rk,rn,rl] (some 55) 0 []) = h1 at u1 u1' g1 n1 ⊢
 refine R_seq (Qaa (R_op rfl rfl (Qbk rfl g1 (by simp)) (R_op (v:=.agg [.int .i64 st,.int .i64 env,.bool out,rk,rn,rl,.nilslice,.nilmap]) (h1:=h1) rfl rfl rfl (R_op rfl rfl rfl (R_op rfl rfl rfl (R_nil ?_))))))
 simp only [sN,s0,sS,a0,aS,aC,AV.cells]
 obtain ⟨u2,u2',g2,n2⟩:=grown u1' (.cells [.int .i64 st,.int .i64 env,.bool out,rk,rn,rl,.nilslice,.nilmap] (some 155) 0 [])
 generalize h1.alloc (.cells [.int .i64 st,.int .i64 env,.bool out,rk,rn,rl,.nilslice,.nilmap] (some 155) 0 []) = h2 at u2 u2' g2 n2 ⊢
 refine R_seq (Qaa (R_op rfl rfl rfl (R_op rfl rfl rfl ?_)))
 simp only [sN,s0,sS,a0,aS,aC]
 obtain ⟨u3,u3',g3,n3⟩:=grown u2' (.map [] 0)
 have g23:=u3.keep h1.next (by omega)
 rw [g2] at g23
 generalize h2.alloc (.map [] 0) = h3 at u3 u3' g3 n3 g23 ⊢
 refine R_op rfl rfl rfl (R_op (v:=.func i_put [.ptr h1.next 0] []) rfl rfl rfl (R_op rfl rfl (Qoc (kk:=2) (v:=.func i_put [.ptr h1.next 0] []) rfl rfl rfl g3 rfl) ?_))
 simp only [sN,s0,sS,a0,aS,aC,List.nil_append]
 refine R_op rfl rfl rfl (R_op (v:=.func Qf8 [.ptr h1.next 0] []) rfl rfl rfl (R_op rfl rfl (Qb6 (kk:=4) (v:=.func Qf8 [.ptr h1.next 0] []) rfl rfl rfl rfl) ?_))
 simp only [sN,s0,sS,a0,aS,aC,List.cons_append,List.nil_append]
 refine R_op rfl rfl rfl (R_op (v:=.func Qdo [.ptr h1.next 0] []) rfl rfl rfl (R_op rfl rfl (Qb6 (kk:=5) (v:=.func Qdo [.ptr h1.next 0] []) rfl rfl rfl rfl) ?_))
 simp only [sN,s0,sS,a0,aS,aC,List.cons_append,List.nil_append]
 refine R_op rfl rfl rfl (R_op (v:=.func i_try [.ptr h1.next 0] []) rfl rfl rfl (R_op rfl rfl (Qb6 (kk:=6) (v:=.func i_try [.ptr h1.next 0] []) rfl rfl rfl rfl) ?_))
 simp only [sN,s0,sS,a0,aS,aC,List.cons_append,List.nil_append]
 refine R_op rfl rfl rfl (R_op (v:=.func Qf9 [.ptr h1.next 0] []) rfl rfl rfl (R_op rfl rfl (Qb6 (kk:=7) (v:=.func Qf9 [.ptr h1.next 0] []) rfl rfl rfl rfl) ?_))
 simp only [sN,s0,sS,a0,aS,aC,List.cons_append,List.nil_append]
 refine R_op rfl rfl rfl (R_op (v:=.func Qdp [.ptr h1.next 0] []) rfl rfl rfl (R_op rfl rfl (Qb6 (kk:=8) (v:=.func Qdp [.ptr h1.next 0] []) rfl rfl rfl rfl) ?_))
 simp only [sN,s0,sS,a0,aS,aC,List.cons_append,List.nil_append]
 refine R_op rfl rfl rfl (R_op (v:=.func i_add [.ptr h1.next 0] []) rfl rfl rfl (R_op rfl rfl (Qb6 (kk:=9) (v:=.func i_add [.ptr h1.next 0] []) rfl rfl rfl rfl) ?_))
 simp only [sN,s0,sS,a0,aS,aC,List.cons_append,List.nil_append]
 refine R_op rfl rfl rfl (R_op (v:=.func Qfc [.ptr h1.next 0] []) rfl rfl rfl (R_op rfl rfl (Qb6 (kk:=10) (v:=.func Qfc [.ptr h1.next 0] []) rfl rfl rfl rfl) ?_))
 simp only [sN,s0,sS,a0,aS,aC,List.cons_append,List.nil_append]
 refine R_op rfl rfl rfl (R_op (v:=.func i_iff [.ptr h1.next 0] []) rfl rfl rfl (R_op rfl rfl (Qb6 (kk:=11) (v:=.func i_iff [.ptr h1.next 0] []) rfl rfl rfl rfl) ?_))
 simp only [sN,s0,sS,a0,aS,aC,List.cons_append,List.nil_append]
 refine R_op rfl rfl rfl (R_op (v:=.func Qfd [.ptr h1.next 0] []) rfl rfl rfl (R_op rfl rfl (Qb6 (kk:=12) (v:=.func Qfd [.ptr h1.next 0] []) rfl rfl rfl rfl) ?_))
 simp only [sN,s0,sS,a0,aS,aC,List.cons_append,List.nil_append]
 have u4:=u3.put (b:=h2.next) (Nat.le_refl _) (by omega) (.map (Qgi h1.next) 10)
 have g4:=get_put h3 h2.next (.map (Qgi h1.next) 10)
 have g24 : (h3.put h2.next (.map (Qgi h1.next) 10)).get h1.next = _:=(Qaj h3 _ (by omega)).trans g23
 have n4 : (h3.put h2.next (.map (Qgi h1.next) 10)).next = h2.next + 1:=n3
 change Reach F M (Ctx.at _ _ _ (h3.put h2.next (.map (Qgi h1.next) 10))) G
 generalize h3.put h2.next (.map (Qgi h1.next) 10) = h4 at u4 g4 g24 n4 ⊢
 refine R_op rfl rfl rfl (R_op rfl rfl rfl (R_op rfl rfl rfl (R_op rfl rfl (Qbd rfl rfl rfl rfl rfl g24 (by simp)) (R_nil ?_))))
 simp only [sN,s0,sS,a0,aS,aC]
 have u04:=(u1.trans u2).trans u4
 have u5:=u04.put (b:=h1.next) (by omega) (by omega) (.cells [.int .i64 st,.int .i64 env,.bool out,rk,rn,rl,.nilslice,.map h2.next] (some 155) 0 [])
 have g5:=get_put h4 h1.next (.cells [.int .i64 st,.int .i64 env,.bool out,rk,rn,rl,.nilslice,.map h2.next] (some 155) 0 [])
 have g45 : (h4.put h1.next (.cells [.int .i64 st,.int .i64 env,.bool out,rk,rn,rl,.nilslice,.map h2.next] (some 155) 0 [])).get h2.next = _:=(Qaj h4 _ (by omega)).trans g4
 change Reach F M (Ctx.at _ _ _ (h4.put h1.next (.cells [.int .i64 st,.int .i64 env,.bool out,rk,rn,rl,.nilslice,.map h2.next] (some 155) 0 []))) G
 generalize h4.put h1.next (.cells [.int .i64 st,.int .i64 env,.bool out,rk,rn,rl,.nilslice,.map h2.next] (some 155) 0 []) = h5 at u5 g5 g45 ⊢
 refine R_seq (Qaa (R_op rfl rfl rfl (R_op rfl rfl rfl (R_nil ?_))))
 simp only [sN,s0,sS,a0,aS,aC]
 obtain ⟨fr',e1,e2⟩:=hk (.ptr h1.next 0) _ ⟨h1.next,h2.next,rfl,⟨⟨.nilslice,some 155,g5,.inl ⟨rfl,rfl⟩⟩,g45,u5.wf,by show N ≤ h1.next; omega,by show N ≤ h2.next; omega⟩,u5,by omega⟩
 exact R_ret ⟨rfl,rfl,rfl,rfl⟩ hF rfl e1 e2
end
end Go.Ab.L22
namespace Go.Ab.L22
open Go Go.Ab
/-- (*strings.Builder).WriteString -/
def b60 : AC :=
 .seq (.region [⟨some 4,.op (.mov (.const (.int .i64 0))),none⟩,⟨some 5,.op (.mov (.const (.nilIface))),none⟩])
 (.seq (.region [⟨some 6,.op (.mov (.tmp 0)),none⟩,⟨some 7,.call (.const (.func 92 [] [])) [(.tmp 6)],none⟩])
 (.seq (.region [⟨some 8,.op (.mov (.tmp 0)),none⟩,⟨some 9,.op (.mov (.tmp 0)),none⟩,⟨some 10,.op (.nilCheck (.tmp 9)),none⟩,⟨some 11,.op (.fieldAddr 1 (.tmp 10)),none⟩,⟨some 12,.op (.load1 (.tmp 11)),none⟩,⟨some 13,.op (.mov (.tmp 1)),none⟩,⟨some 14,.op (.append 1 1 10 (.tmp 12) (.tmp 13)),none⟩,⟨some 15,.op (.nilCheck (.tmp 8)),none⟩,⟨some 16,.op (.fieldAddr 1 (.tmp 15)),none⟩,⟨none,.op (.store 1 (.tmp 16) (.tmp 14)),none⟩])
 (.seq (.region [⟨some 17,.op (.mov (.tmp 1)),none⟩,⟨some 18,.op (.len 0 (.tmp 17)),none⟩,⟨some 4,.op (.mov (.tmp 18)),none⟩,⟨some 5,.op (.mov (.const (.nilIface))),none⟩])
 (.ret))))
def fn60 : AFun:=⟨19,[.tmp 4,.tmp 5],b60⟩

def b62 : AC :=
 .seq (.region [⟨some 2,.op (.mov (.const (.str 0 0))),none⟩])
 (.seq (.draw [⟨[⟨some 3,.op (.mov (.tmp 0)),none⟩,⟨some 4,.op (.nilCheck (.tmp 3)),none⟩,⟨some 5,.op (.fieldAddr 1 (.tmp 4)),none⟩,⟨some 6,.op (.load1 (.tmp 5)),none⟩,⟨some 7,.op (.sliceData (.tmp 6)),none⟩,⟨some 8,.op (.mov (.tmp 0)),none⟩,⟨some 9,.op (.nilCheck (.tmp 8)),none⟩,⟨some 10,.op (.fieldAddr 1 (.tmp 9)),none⟩,⟨some 11,.op (.load1 (.tmp 10)),none⟩,⟨some 12,.op (.len 1 (.tmp 11)),none⟩],some ⟨some 13,.op (.unsafeStr 5 (.tmp 7) (.tmp 12)),none⟩,[],[]⟩,⟨[⟨some 2,.op (.mov (.tmp 13)),none⟩],none,[],[]⟩] [])
 (.ret))
def fn62 : AFun:=⟨14,[.tmp 2],b62⟩

def b92 (ok : Nat → Nat → Nat → Bool) : AC :=
  .seq (.region [⟨some 2,.op (.mov (.tmp 0)),none⟩,⟨some 3,.op (.nilCheck (.tmp 2)),none⟩,⟨some 4,.op (.fieldAddr 0 (.tmp 3)),none⟩,⟨some 5,.op (.load1 (.tmp 4)),none⟩,⟨some 6,.op (.bin .eql 1 (.tmp 5) (.const (.nilptr))),none⟩])
  (.cond (.tmp 6)
   (.region [⟨some 7,.op (.mov (.tmp 0)),none⟩,⟨some 8,.op (.mov (.tmp 0)),none⟩,⟨some 9,.op (.toUnsafe (.tmp 8)),none⟩,⟨some 10,.call (.const (.func 149 [] [])) [(.tmp 9)],none⟩,⟨some 11,.op (.ofUnsafe ok (.tmp 10)),none⟩,⟨some 12,.op (.nilCheck (.tmp 7)),none⟩,⟨some 13,.op (.fieldAddr 0 (.tmp 12)),none⟩,⟨none,.op (.store 1 (.tmp 13) (.tmp 11)),none⟩])
   (.seq (.region [⟨some 14,.op (.mov (.tmp 0)),none⟩,⟨some 15,.op (.nilCheck (.tmp 14)),none⟩,⟨some 16,.op (.fieldAddr 0 (.tmp 15)),none⟩,⟨some 17,.op (.load1 (.tmp 16)),none⟩,⟨some 18,.op (.mov (.tmp 0)),none⟩,⟨some 19,.op (.bin .neq 1 (.tmp 17) (.tmp 18)),none⟩])
   (.cond (.tmp 19)
    (.stuck)
    (.skip))))
def fn92 (ok : Nat → Nat → Nat → Bool) : AFun:=⟨20,[],b92 ok⟩
abbrev QdE : FuncId:=58
abbrev Qlm : FuncId:=60
abbrev Qln : FuncId:=62
abbrev Qq9 : FuncId:=92
abbrev QcM : FuncId:=149
abbrev Str:=Nat × Nat
def sv (s : Str) : AV:=.str s.1 s.2
def cat (a b : Str) : Str:=(a.1 + b.1,appN a.1 a.2 b.2)
theorem x_cat {h : AH} {ev : AOpd → AV} {x y : AOpd} {a b : Str} (ha : ev x = sv a) (hb : ev y = sv b) (hl : a.1 + b.1 < 1000000000000) : exec h ev (.bin .add 9 x y) = some (sv (cat a b),h):=by
 simp only [exec,ha,hb,sv,binA,Qj2]
 rw [if_pos hl]
 rfl
def textD (ita : Int → Str) (n : Int) : Str:=if n < 0 then cat (cat (1,40) (ita n)) (1,41) else ita n
def pairD (a b : Str) : Str:=cat (cat (cat (cat (5,392761532752) a) (2,8236)) b) (1,93)
section
variable {F : FuncId → Option AFun} {M : Memo}

def inR (n : Int) : Prop:=-9223372036854775808 ≤ n ∧ n ≤ 9223372036854775807
structure Itoa (M : Memo) (ita : Int → Str) : Prop where
 memo : ∀ n,inR n → ∀ h,∃ c,M QdE [.int .i64 n] = some c ∧ c h = some (sv (ita n),h)
 short : ∀ n,(ita n).1 ≤ 30
theorem QfO {ita : Int → Str} (I : Itoa M ita) (n : Int) : (textD ita n).1 ≤ 32:=by
 have:=I.short n
 unfold textD cat
 split <;> simp <;> omega
theorem QdO (hF : F QoI = some QfD) {ita : Int → Str} (I : Itoa M ita) (n : Int) (hn : inR n) (h : AH) : Ctr F M QoI [.int .i64 n] h (fun v h'=>v = sv (textD ita n) ∧ h' = h) (fun _ _=>False):=by
 refine Ctr.intro hF fun caller cs G hk _=>?_
 simp only [QfD,fn27,List.length_cons,List.length_nil,Nat.reduceAdd,Nat.reduceSub,rZ,rS,pN,pC]
 have hs:=I.short n
 obtain ⟨c,hm,hc⟩:=I.memo n hn h
 refine R_seq (Qaa (R_op rfl rfl rfl (R_nil ?_)))
 simp only [sN,s0,sS,a0,aS,aC]
 refine R_seq (R_seq (Qaa (R_op rfl rfl rfl (R_op rfl rfl rfl (R_nil ?_)))))
 simp only [sN,s0,sS,a0,aS,aC]
 by_cases c1 : n < 0
 ·simp only [decide_eq_true c1]
  refine QaM rfl (R_seq (Qaa (R_op rfl rfl rfl (QdL rfl rfl rfl hm hc (R_op rfl rfl (x_cat (a:=(1,40)) (b:=ita n) rfl rfl (by simp; omega)) (R_op rfl rfl (x_cat (a:=cat (1,40) (ita n)) (b:=(1,41)) rfl rfl (by simp [cat]; omega)) (R_op rfl rfl rfl (R_nil ?_))))))))
  simp only [sN,s0,sS,a0,aS,aC]
  obtain ⟨fr',e1,e2⟩:=hk (sv (textD ita n)) h ⟨rfl,rfl⟩
  exact R_ret ⟨rfl,rfl,rfl,rfl⟩ hF (by unfold textD; rw [if_pos c1]; rfl) e1 e2
 ·simp only [decide_eq_false c1]
  refine Qaw rfl (QaF (R_seq (Qaa (R_op rfl rfl rfl (QdL rfl rfl rfl hm hc (R_op rfl rfl rfl (R_nil ?_)))))))
  simp only [sN,s0,sS,a0,aS,aC]
  obtain ⟨fr',e1,e2⟩:=hk (sv (textD ita n)) h ⟨rfl,rfl⟩
  exact R_ret ⟨rfl,rfl,rfl,rfl⟩ hF (by unfold textD; rw [if_neg c1]; rfl) e1 e2
theorem QeO (hF : F QoK = some QfG) (a b : Str) (hl : a.1 + b.1 < 100000000000) (h : AH) : Ctr F M QoK [sv a,sv b] h (fun v h'=>v = sv (pairD a b) ∧ h' = h) (fun _ _=>False):=by
 refine Ctr.intro hF fun caller cs G hk _=>?_
 simp only [QfG,fn28,List.length_cons,List.length_nil,Nat.reduceAdd,Nat.reduceSub,rZ,rS,pN,pC]
 refine R_seq (Qaa (R_op rfl rfl rfl (R_nil ?_)))
 simp only [sN,s0,sS,a0,aS,aC]
 refine R_seq (Qaa (R_op rfl rfl rfl (R_op rfl rfl (x_cat (a:=(5,392761532752)) (b:=a) rfl rfl (by simp; omega)) (R_op rfl rfl (x_cat (a:=cat (5,392761532752) a) (b:=(2,8236)) rfl rfl (by simp [cat]; omega)) (R_op rfl rfl rfl ?_)))))
 simp only [sN,s0,sS,a0,aS,aC]
 refine R_op rfl rfl (x_cat (a:=cat (cat (5,392761532752) a) (2,8236)) (b:=b) rfl rfl (by simp [cat]; omega)) (R_op rfl rfl (x_cat (a:=cat (cat (cat (5,392761532752) a) (2,8236)) b) (b:=(1,93)) rfl rfl (by simp [cat]; omega)) (R_op rfl rfl rfl (R_nil ?_)))
 simp only [sN,s0,sS,a0,aS,aC]
 obtain ⟨fr',e1,e2⟩:=hk (sv (pairD a b)) h ⟨rfl,rfl⟩
 exact R_ret ⟨rfl,rfl,rfl,rfl⟩ hF rfl e1 e2
end
end Go.Ab.L22
namespace Go.Ab.L22
open Go Go.Ab
/-- What a builder's row is. -/
def BRow (lo bB : Nat) (l : List AV) (h : AH) (tv : AV) : Prop :=
 (tv = .nilslice ∧ l = []) ∨ ∃ b pre anc,tv = .slop b 0 l.length 1 ∧ h.get b = some (.cells l (some 10) pre anc) ∧ lo ≤ b ∧ b ≠ bB ∧ ∀ x ∈ anc,lo ≤ x

structure Buf (lo bB : Nat) (l : List AV) (h : AH) : Prop where
 obj : ∃ p tv,h.get bB = some (.cells [p,tv] (some 209) 0 []) ∧ (p = .nilptr ∨ p = .ptr bB 0) ∧ BRow lo bB l h tv
 low : 0 ≤ bB

structure UpS (S : Nat → Prop) (h h' : AH) : Prop where
 next : h.next ≤ h'.next
 keep : ∀ b,b < h.next → ¬ S b → h'.get b = h.get b
 wf : ∀ b,h'.next ≤ b → h'.get b = none
theorem UpS.refl {S : Nat → Prop} {h : AH} (wf : ∀ b,h.next ≤ b → h.get b = none) : UpS S h h:=⟨Nat.le_refl _,fun _ _ _=>rfl,wf⟩
theorem UpS.up {S : Nat → Prop} {h0 h h' : AH} (u0 : Up h0 h) (u : UpS S h h') (hS : ∀ b,S b → h0.next ≤ b) : Up h0 h' :=
 ⟨Nat.le_trans u0.next u.next,fun b hb=>by rw [u.keep b (Nat.lt_of_lt_of_le hb u0.next) (fun e=>by have:=hS b e; omega),u0.keep b hb],u.wf⟩
theorem UpS.alloc {S : Nat → Prop} {h0 h : AH} (u : UpS S h0 h) (o : AO) : UpS S h0 (h.alloc o):=by
 refine ⟨Nat.le_trans u.next (Nat.le_succ _),fun b hb hn=>?_,fun b hb=>?_⟩
 ·rw [Qay h o (Nat.lt_of_lt_of_le hb u.next),u.keep b hb hn]
 ·have hb' : h.next + 1 ≤ b:=hb
  have hne : b ≠ h.next:=by omega
  show (if b = h.next then some o else h.get b) = none
  rw [if_neg hne]
  exact u.wf b (by omega)
theorem UpS.put {S : Nat → Prop} {h0 h : AH} (u : UpS S h0 h) {b : Nat} (hb : h0.next ≤ b ∨ S b) (hl : b < h.next) (o : AO) : UpS S h0 (h.put b o):=by
 refine ⟨u.next,fun x hx hn=>?_,fun x hx=>?_⟩
 ·rw [Qaj _ _ (fun e=>by subst e; rcases hb with hb | hb; omega; exact hn hb),u.keep x hx hn]
 ·have hx' : h.next ≤ x:=hx
  rw [Qaj _ _ (by omega)]
  exact u.wf x hx'
theorem QbJ : ∀ (n b : Nat),(Qa8 n b).all AV.one = true ∧ (Qa8 n b).length = n
 | 0,_=>⟨rfl,rfl⟩
 | n + 1,b=>by
  obtain ⟨h1,h2⟩:=QbJ n (b / 256)
  constructor
  ·simp only [Qa8,List.all_cons,h1,Bool.and_true]; rfl
  ·simp only [Qa8,List.length_cons,h2]
theorem x_appS0 {h : AH} {ev : AOpd → AV} {sl x : AOpd} {n b : Nat} (hx : ev x = .str n b) (hs : ev sl = .nilslice) (h0 : n ≠ 0) (hn : n < 100000000000) :
  exec h ev (.append 1 1 10 sl x) = some (.slop h.next 0 n 1,h.alloc (.cells (Qa8 n b) (some 10) 0 [])):=by
 obtain ⟨b1,b2⟩:=QbJ n b
 have e : QbV 1 1 10 h n (Qa8 n b) .nilslice = some (.slop h.next 0 n 1,h.alloc (.cells (Qa8 n b) (some 10) 0 [])):=by
  unfold QbV
  rw [if_pos ⟨by omega,by decide,by decide,by decide,by omega,b1⟩,if_neg h0]
 simp [exec,hx,hs,lenA,Qbj,e]
theorem x_appS {h : AH} {ev : AOpd → AV} {sl x : AOpd} {n b b' : Nat} {l : List AV} {pre : Nat} {anc : List Nat} (hx : ev x = .str n b) (hs : ev sl = .slop b' 0 l.length 1) (h0 : n ≠ 0) (hn : n < 100000000000) (hl : h.get b' = some (.cells l (some 10) pre anc)) (hb : l.length < 100000000000) :
  exec h ev (.append 1 1 10 sl x) = some (.slop h.next 0 (l.length + n) 1,(h.put b' (.old l)).alloc (.cells (l ++ Qa8 n b) (some 10) (l.length * 1) (b' :: anc))):=by
 obtain ⟨b1,b2⟩:=QbJ n b
 have e : QbV 1 1 10 h n (Qa8 n b) (.slop b' 0 l.length 1) = some (.slop h.next 0 (l.length + n) 1,(h.put b' (.old l)).alloc (.cells (l ++ Qa8 n b) (some 10) (l.length * 1) (b' :: anc))):=by
  unfold QbV
  rw [if_pos ⟨by omega,by decide,by decide,by decide,by omega,b1⟩,if_neg h0]
  simp only [hl]
  rw [if_pos (by refine ⟨by omega,by omega,?_⟩; simp),if_neg (by omega),if_pos (by omega)]
  rfl
 simp only [exec,hx,hs,lenA,Qbj]
 simp [e]
section
variable {F : FuncId → Option AFun} {M : Memo}
structure Fns3 (F : FuncId → Option AFun) (M : Memo) : Prop where
 ok : ∃ ok : Nat → Nat → Nat → Bool,ok 104 2 0 = true ∧ F Qq9 = some (fn92 ok)
 write : F Qlm = some fn60
 string : F Qln = some fn62
 mcopy : ∀ as,M Qq9 as = none
 mwrite : ∀ as,M Qlm as = none
 mstring : ∀ as,M Qln as = none
 same : ∀ b o h,∃ c,M QcM [.ptr b o] = some c ∧ c h = some (.ptr b o,h)
theorem Qo1 (H : Fns3 F M) {lo bB : Nat} {l : List AV} {h0 h : AH} {S : Nat → Prop} (hS : S bB) (u : UpS S h0 h) (hlo : h0.next ≤ lo) (B : Buf lo bB l h) :
  Ctr F M Qq9 [.ptr bB 0] h (fun v h'=>v = .tuple [] ∧ UpS S h0 h' ∧ Buf lo bB l h' ∧ h'.next = h.next) (fun _ _=>False):=by
 obtain ⟨ok,hok,hF⟩:=H.ok
 refine Ctr.intro hF fun caller cs G hk _=>?_
 simp only [fn92,b92,List.length_cons,List.length_nil,Nat.reduceAdd,Nat.reduceSub,rZ,rS,pN,pC]
 obtain ⟨⟨p,tv,g,hp,hr⟩,hlow⟩:=B
 have hlt:=Qbi u.wf g
 refine R_seq (Qaa (R_op rfl rfl rfl (R_op rfl rfl rfl (R_op rfl rfl rfl (R_op rfl rfl (Qal (v:=p) rfl g rfl) ?_)))))
 simp only [sN,s0,sS,a0,aS,aC]
 rcases hp with rfl | rfl
 ·refine R_op rfl rfl rfl (R_nil (QaM rfl ?_))
  simp only [sN,s0,sS,a0,aS,aC]
  obtain ⟨c,hm,hc⟩:=H.same bB 0 h
  refine Qaa (R_op rfl rfl rfl (R_op rfl rfl rfl (R_op (v:=.ptr bB 0) (h1:=h) rfl rfl ?_ (QdL rfl rfl rfl hm hc (R_op (v:=.ptr bB 0) (h1:=h) rfl rfl ?_ (R_op rfl rfl rfl (R_op rfl rfl rfl (R_op rfl rfl (Qbd rfl rfl rfl rfl rfl g (by simp)) (R_nil ?_)))))))))
  ·simp only [sN,s0,sS,a0,aS,aC,exec,g]
   simp [AH.cellsAt,g]
  ·simp only [sN,s0,sS,a0,aS,aC,exec,g]
   simp [hok]
  simp only [sN,s0,sS,a0,aS,aC]
  have hr' : BRow lo bB l (h.put bB (.cells [.ptr bB 0,tv] (some 209) 0 [])) tv:=by
   rcases hr with hr | ⟨b,pre,anc,e,h3,h4,h5⟩
   ·exact .inl hr
   ·exact .inr ⟨b,pre,anc,e,by rw [Qaj _ _ h5.1]; exact h3,h4,h5⟩
  obtain ⟨fr',e1,e2⟩:=hk (.tuple []) _ ⟨rfl,u.put (b:=bB) (.inr hS) hlt (.cells [.ptr bB 0,tv] (some 209) 0 []),⟨⟨.ptr bB 0,tv,get_put _ _ _,.inr rfl,hr'⟩,hlow⟩,rfl⟩
  exact R_end ⟨rfl,rfl,rfl,rfl⟩ hF rfl e1 e2
 ·refine R_op rfl rfl rfl (R_nil (Qaw rfl ?_))
  simp only [sN,s0,sS,a0,aS,aC]
  refine R_seq (Qaa (R_op rfl rfl rfl (R_op rfl rfl rfl (R_op rfl rfl rfl (R_op rfl rfl (Qal (v:=.ptr bB 0) rfl g rfl) (R_op rfl rfl rfl ?_))))))
  simp only [sN,s0,sS,a0,aS,aC]
  refine R_op (v:=.bool false) (h1:=h) rfl rfl ?_ (R_nil ?_)
  ·simp [exec,binA,eqOne,a0,aS]
  simp only [sN,s0,sS,a0,aS,aC]
  refine Qaw rfl (QaF ?_)
  obtain ⟨fr',e1,e2⟩:=hk (.tuple []) h ⟨rfl,u,⟨⟨_,tv,g,.inr rfl,hr⟩,hlow⟩,rfl⟩
  exact R_end ⟨rfl,rfl,rfl,rfl⟩ hF rfl e1 e2
theorem QhB (H : Fns3 F M) {lo bB : Nat} {l : List AV} {h0 h : AH} {S : Nat → Prop} (hS : S bB) (u : UpS S h0 h) (hlo : h0.next ≤ lo) (hN : lo ≤ h.next) (B : Buf lo bB l h) {s : Str} (hs0 : s.1 ≠ 0) (hs : s.1 < 100000000000) (hl : l.length < 100000000000) :
  Ctr F M Qlm [.ptr bB 0,sv s] h (fun _ h'=>UpS S h0 h' ∧ Buf lo bB (l ++ Qa8 s.1 s.2) h' ∧ h.next ≤ h'.next) (fun _ _=>False):=by
 refine Ctr.intro H.write fun caller cs G hk _=>?_
 have hF:=H.write
 simp only [fn60,b60,List.length_cons,List.length_nil,Nat.reduceAdd,Nat.reduceSub,rZ,rS,pN,pC]
 refine R_seq (Qaa (R_op rfl rfl rfl (R_op rfl rfl rfl (R_nil ?_))))
 simp only [sN,s0,sS,a0,aS,aC]
 refine R_seq (Qaa (R_op rfl rfl rfl (Qau rfl rfl rfl (H.mcopy _) (Qo1 H hS u hlo B) ?_ (fun _ _ e=>e.elim))))
 rintro v h1 ⟨rfl,u1,B1,n1⟩
 refine R_nil ?_
 simp only [sN,s0,sS,a0,aS,aC]
 obtain ⟨⟨p,tv,g,hp,hr⟩,hlow⟩:=B1
 have hlt:=Qbi u1.wf g
 refine R_seq (Qaa (R_op rfl rfl rfl (R_op rfl rfl rfl (R_op rfl rfl rfl (R_op rfl rfl rfl (R_op rfl rfl (Qal (v:=tv) rfl g rfl) (R_op rfl rfl rfl ?_)))))))
 simp only [sN,s0,sS,a0,aS,aC]
 rcases hr with ⟨rfl,rfl⟩ | ⟨b,pre,anc,rfl,h3,h4,h5⟩
 ·refine R_op rfl rfl (x_appS0 rfl rfl hs0 hs) ?_
  have u2:=u1.alloc (.cells (Qa8 s.1 s.2) (some 10) 0 [])
  have g2:=(Qay h1 (.cells (Qa8 s.1 s.2) (some 10) 0 []) hlt).trans g
  have k2:=QaV h1 (.cells (Qa8 s.1 s.2) (some 10) 0 [])
  have n2 : (h1.alloc (.cells (Qa8 s.1 s.2) (some 10) 0 [])).next = h1.next + 1:=rfl
  generalize h1.alloc (.cells (Qa8 s.1 s.2) (some 10) 0 []) = h2 at u2 g2 k2 n2 ⊢
  refine R_op rfl rfl rfl (R_op rfl rfl rfl (R_op rfl rfl (Qbd (v:=.slop h1.next 0 s.1 1) rfl rfl rfl rfl rfl g2 (by simp)) (R_nil ?_)))
  simp only [sN,s0,sS,a0,aS,aC]
  have u3:=u2.put (b:=bB) (.inr hS) (by omega) (.cells [p,.slop h1.next 0 s.1 1] (some 209) 0 [])
  have g3:=get_put h2 bB (.cells [p,.slop h1.next 0 s.1 1] (some 209) 0 [])
  have k3 : (h2.put bB (.cells [p,.slop h1.next 0 s.1 1] (some 209) 0 [])).get h1.next = _:=(Qaj h2 _ (by omega)).trans k2
  have n3 : (h2.put bB (.cells [p,.slop h1.next 0 s.1 1] (some 209) 0 [])).next = h1.next + 1:=n2
  change Reach F M (Ctx.at _ _ _ (h2.put bB (.cells [p,.slop h1.next 0 s.1 1] (some 209) 0 []))) G
  generalize h2.put bB (.cells [p,.slop h1.next 0 s.1 1] (some 209) 0 []) = h9 at u3 g3 k3 n3 ⊢
  refine R_seq (Qaa (R_op rfl rfl rfl (R_op rfl rfl (x_len rfl rfl) (R_op rfl rfl rfl (R_op rfl rfl rfl (R_nil ?_))))))
  simp only [sN,s0,sS,a0,aS,aC]
  obtain ⟨fr',e1,e2⟩:=hk (.tuple [.int .i64 s.1,.nilIface]) h9 ⟨u3,⟨⟨p,_,g3,hp,.inr ⟨h1.next,0,[],by rw [List.nil_append,(QbJ s.1 s.2).2],k3,by omega,by omega,by simp⟩⟩,hlow⟩,by omega⟩
  exact R_ret ⟨rfl,rfl,rfl,rfl⟩ hF rfl e1 e2
 ·obtain ⟨h5,h6⟩:=h5
  refine R_op rfl rfl (x_appS rfl rfl hs0 hs h3 hl) ?_
  have hbl:=Qbi u1.wf h3
  have u2:=(u1.put (b:=b) (.inl (by omega)) hbl (.old l)).alloc (.cells (l ++ Qa8 s.1 s.2) (some 10) (l.length * 1) (b :: anc))
  have g2:=(Qay (h1.put b (.old l)) (.cells (l ++ Qa8 s.1 s.2) (some 10) (l.length * 1) (b :: anc)) (b:=bB) hlt).trans ((Qaj h1 _ (Ne.symm h5)).trans g)
  have k2:=QaV (h1.put b (.old l)) (.cells (l ++ Qa8 s.1 s.2) (some 10) (l.length * 1) (b :: anc))
  rw [QeQ] at k2
  have n2 : ((h1.put b (.old l)).alloc (.cells (l ++ Qa8 s.1 s.2) (some 10) (l.length * 1) (b :: anc))).next = h1.next + 1:=rfl
  generalize (h1.put b (.old l)).alloc (.cells (l ++ Qa8 s.1 s.2) (some 10) (l.length * 1) (b :: anc)) = h2 at u2 g2 k2 n2 ⊢
  refine R_op rfl rfl rfl (R_op rfl rfl rfl (R_op rfl rfl (Qbd (v:=.slop h1.next 0 (l.length + s.1) 1) rfl rfl rfl rfl rfl g2 (by simp)) (R_nil ?_)))
  simp only [sN,s0,sS,a0,aS,aC]
  have u3:=u2.put (b:=bB) (.inr hS) (by omega) (.cells [p,.slop h1.next 0 (l.length + s.1) 1] (some 209) 0 [])
  have g3:=get_put h2 bB (.cells [p,.slop h1.next 0 (l.length + s.1) 1] (some 209) 0 [])
  have k3 : (h2.put bB (.cells [p,.slop h1.next 0 (l.length + s.1) 1] (some 209) 0 [])).get h1.next = _:=(Qaj h2 _ (by omega)).trans k2
  have n3 : (h2.put bB (.cells [p,.slop h1.next 0 (l.length + s.1) 1] (some 209) 0 [])).next = h1.next + 1:=n2
  change Reach F M (Ctx.at _ _ _ (h2.put bB (.cells [p,.slop h1.next 0 (l.length + s.1) 1] (some 209) 0 []))) G
  generalize h2.put bB (.cells [p,.slop h1.next 0 (l.length + s.1) 1] (some 209) 0 []) = h9 at u3 g3 k3 n3 ⊢
  refine R_seq (Qaa (R_op rfl rfl rfl (R_op rfl rfl (x_len rfl rfl) (R_op rfl rfl rfl (R_op rfl rfl rfl (R_nil ?_))))))
  simp only [sN,s0,sS,a0,aS,aC]
  obtain ⟨fr',e1,e2⟩:=hk (.tuple [.int .i64 s.1,.nilIface]) h9 ⟨u3,⟨⟨p,_,g3,hp,.inr ⟨h1.next,_,_,by rw [List.length_append,(QbJ s.1 s.2).2],k3,by omega,by omega,fun x hx=>by rcases List.mem_cons.1 hx with rfl | hx; exact h4; exact h6 x hx⟩⟩,hlow⟩,by omega⟩
  exact R_ret ⟨rfl,rfl,rfl,rfl⟩ hF rfl e1 e2
theorem x_appZ {h : AH} {ev : AOpd → AV} {sl x : AOpd} {b lo bB : Nat} {l : List AV} {tv : AV} (hx : ev x = .str 0 b) (hs : ev sl = tv) (hr : BRow lo bB l h tv) : exec h ev (.append 1 1 10 sl x) = some (tv,h):=by
 have e : QbV 1 1 10 h 0 [] tv = some (tv,h):=by
  unfold QbV
  rw [if_pos ⟨rfl,by decide,by decide,by decide,by decide,rfl⟩,if_pos rfl]
  rcases hr with ⟨rfl,_⟩ | ⟨b,pre,anc,rfl,_⟩ <;> rfl
 simp [exec,hx,hs,lenA,Qbj,Qa8,e]
theorem BRow.shape {lo bB : Nat} {l : List AV} {h : AH} {tv : AV} (hr : BRow lo bB l h tv) : tv.known = true ∧ tv.cells = [tv] ∧ tv.one = true:=by
 rcases hr with ⟨rfl,_⟩ | ⟨b,pre,anc,rfl,_⟩ <;> exact ⟨rfl,rfl,rfl⟩
theorem Qpg (H : Fns3 F M) {lo bB : Nat} {l : List AV} {h0 h : AH} {S : Nat → Prop} (hS : S bB) (u : UpS S h0 h) (hlo : h0.next ≤ lo) (hN : lo ≤ h.next) (B : Buf lo bB l h) {b : Nat} :
  Ctr F M Qlm [.ptr bB 0,.str 0 b] h (fun _ h'=>UpS S h0 h' ∧ Buf lo bB l h' ∧ h.next ≤ h'.next) (fun _ _=>False):=by
 refine Ctr.intro H.write fun caller cs G hk _=>?_
 have hF:=H.write
 simp only [fn60,b60,List.length_cons,List.length_nil,Nat.reduceAdd,Nat.reduceSub,rZ,rS,pN,pC]
 refine R_seq (Qaa (R_op rfl rfl rfl (R_op rfl rfl rfl (R_nil ?_))))
 simp only [sN,s0,sS,a0,aS,aC]
 refine R_seq (Qaa (R_op rfl rfl rfl (Qau rfl rfl rfl (H.mcopy _) (Qo1 H hS u hlo B) ?_ (fun _ _ e=>e.elim))))
 rintro v h1 ⟨rfl,u1,B1,n1⟩
 refine R_nil ?_
 simp only [sN,s0,sS,a0,aS,aC]
 obtain ⟨⟨p,tv,g,hp,hr⟩,hlow⟩:=B1
 have hlt:=Qbi u1.wf g
 refine R_seq (Qaa (R_op rfl rfl rfl (R_op rfl rfl rfl (R_op rfl rfl rfl (R_op rfl rfl rfl (R_op rfl rfl (Qal (v:=tv) rfl g rfl) (R_op rfl rfl rfl ?_)))))))
 simp only [sN,s0,sS,a0,aS,aC]
 obtain ⟨t1,t2,t3⟩:=hr.shape
 refine R_op rfl rfl (x_appZ rfl rfl hr) (R_op rfl rfl rfl (R_op rfl rfl rfl (R_op rfl rfl (Qob (v:=tv) (w:=tv) rfl rfl t1 t2 t3 g (by simp)) (R_nil ?_))))
 simp only [sN,s0,sS,a0,aS,aC]
 have hr' : BRow lo bB l (h1.put bB (.cells (splice [p,tv] (0 + 1) [tv]) (some 209) 0 [])) tv:=by
  rcases hr with hr | ⟨b,pre,anc,e,h3,h4,h5⟩
  ·exact .inl hr
  ·exact .inr ⟨b,pre,anc,e,by rw [Qaj _ _ h5.1]; exact h3,h4,h5⟩
 have u3:=u1.put (b:=bB) (.inr hS) (by omega) (.cells (splice [p,tv] (0 + 1) [tv]) (some 209) 0 [])
 have g3:=get_put h1 bB (.cells (splice [p,tv] (0 + 1) [tv]) (some 209) 0 [])
 have n3 : (h1.put bB (.cells (splice [p,tv] (0 + 1) [tv]) (some 209) 0 [])).next = h1.next:=rfl
 generalize h1.put bB (.cells (splice [p,tv] (0 + 1) [tv]) (some 209) 0 []) = h9 at u3 g3 hr' n3 ⊢
 refine R_seq (Qaa (R_op rfl rfl rfl (R_op rfl rfl (x_len rfl rfl) (R_op rfl rfl rfl (R_op rfl rfl rfl (R_nil ?_))))))
 simp only [sN,s0,sS,a0,aS,aC]
 obtain ⟨fr',e1,e2⟩:=hk (.tuple [.int .i64 (0 : Nat),.nilIface]) h9 ⟨u3,⟨⟨p,tv,g3,hp,hr'⟩,hlow⟩,by omega⟩
 exact R_ret ⟨rfl,rfl,rfl,rfl⟩ hF rfl e1 e2
theorem UpS.kill {S : Nat → Prop} {h0 h : AH} (u : UpS S h0 h) {l : List Nat} (hl : ∀ x ∈ l,h0.next ≤ x) : UpS S h0 (h.kill l):=by
 refine ⟨u.next,fun b hb hn=>?_,fun b hb=>?_⟩
 ·show (if b ∈ l then none else h.get b) = _
  rw [if_neg (fun e=>by have:=hl b e; omega),u.keep b hb hn]
 ·show (if b ∈ l then none else h.get b) = _
  have hb' : h.next ≤ b:=hb
  split
  ·rfl
  ·exact u.wf b hb'
theorem Qpn (H : Fns3 F M) {lo bB : Nat} {l : List AV} {h0 h : AH} {S : Nat → Prop} (hS : S bB) (u : UpS S h0 h) (hlo : h0.next ≤ lo) (B : Buf lo bB l h) {v : Nat} (hv : numOf l = some v) (hl0 : l.length ≠ 0) (hl : l.length < 100000000000) :
  Ctr F M Qln [.ptr bB 0] h (fun r h'=>r = .str l.length v ∧ UpS S h0 h' ∧ h'.next = h.next) (fun _ _=>False):=by
 refine Ctr.intro H.string fun caller cs G hk _=>?_
 have hF:=H.string
 simp only [fn62,b62,List.length_cons,List.length_nil,Nat.reduceAdd,Nat.reduceSub,rZ,rS,pN,pC]
 obtain ⟨⟨p,tv,g,hp,hr⟩,hlow⟩:=B
 rcases hr with ⟨rfl,rfl⟩ | ⟨b,pre,anc,rfl,h3,h4,h5,h6⟩
 ·exact absurd rfl hl0
 refine R_seq (Qaa (R_op rfl rfl rfl (R_nil ?_)))
 simp only [sN,s0,sS,a0,aS,aC]
 refine R_seq (QaY (Qaf (Qab rfl rfl rfl rfl (Qab rfl rfl rfl rfl (Qab rfl rfl rfl rfl (Qab rfl rfl (Qal (v:=.slop b 0 l.length 1) rfl g rfl) rfl ?_))))))
 simp only [sN,s0,sS,a0,aS,aC]
 refine Qab (v:=.ptr b 0) (h1:=h) rfl rfl ?_ rfl ?_
 ·simp [exec,a0,aS,hl0]
 simp only [sN,s0,sS,a0,aS,aC]
 refine Qab rfl rfl rfl rfl (Qab rfl rfl rfl rfl (Qab rfl rfl rfl rfl (Qab rfl rfl (Qal (v:=.slop b 0 l.length 1) rfl g rfl) rfl (Qab rfl rfl (x_len rfl rfl) rfl (Qac ?_)))))
 simp only [sN,s0,sS,a0,aS,aC]
 refine QaD (v:=.str l.length v) (h1:=h.kill (b :: anc)) rfl rfl ?_ rfl ?_
 ·have hr : h.read b 0 l.length = some l:=by
   simp [AH.read,AH.cellsAt,h3]
  have hl' : l.length < 1000000000000:=by omega
  have hl1 : l ≠ []:=fun e=>hl0 (by rw [e]; rfl)
  simp [exec,a0,aS,asNat,hl1,hl',h3,hr,hv]
 simp only [sN,s0,sS,a0,aS,aC]
 refine Qaf (Qab rfl rfl rfl rfl (Qap (Qat (QaX ?_))))
 simp only [sN,s0,sS,a0,aS,aC]
 obtain ⟨fr',e1,e2⟩:=hk (.str l.length v) _ ⟨rfl,u.kill (l:=b :: anc) (fun x hx=>by rcases List.mem_cons.1 hx with rfl | hx; omega; have:=h6 x hx; omega),rfl⟩
 exact R_ret ⟨rfl,rfl,rfl,rfl⟩ hF rfl e1 e2
end
end Go.Ab.L22
/-
 Rules: loops over functions.
-/
namespace Go.Ab
open Go
section
variable {F : FuncId → Option AFun} {M : Memo} {G : AS → Prop} {x : Ctx} {t : List AV} {k : List AItem} {h : AH}

def Ctx.wait (x : Ctx) (t : List AV) (k : List AItem) (b l : Nat) : AF:={ fn:=x.fn,tmps:=t,todo:=.inRangeFunc l :: k,defers:=.collected b :: x.defers,mode:=.run,kind:=x.kind,roundOf:=x.roundOf }
theorem Qn8 {f : AOpd} {params : List Nat} {assign body : AC} {fid : FuncId} {first cap : List AV} {fn : AFun} (hro : x.roundOf = none) (hf : aev t f = .func fid first cap) (hm : ∀ as,M fid as = none) (hF : F fid = some fn)
  (hr : Reach F M ((⟨fid,[],.normal,none,x.wait t k h.next (h.next + 1) :: x.cs⟩ : Ctx).at ((first ++ [AV.yield (h.next + 1)] ++ cap) ++ List.replicate (fn.ntmps - (first ++ [AV.yield (h.next + 1)] ++ cap).length) .undef) [.code fn.body]
   ((h.alloc (.deferred (some []))).alloc (.loop .ready none x.fn t params assign body h.next))) G) : Reach F M (x.at t (.code (.rangeFunc f params assign body) :: k) h) G:=by
 obtain ⟨fn',d,kd,ro,c'⟩:=x
 obtain rfl:=hro
 refine .step ?_ hr
 show (match QbT (aev t f) [AV.yield (h.next + 1)] with | some (.enter f args)=>_ | _=>_) = _
 rw [hf]
 show (match M fid (first ++ [AV.yield (h.next + 1)] ++ cap) with | some c=>_ | none=>_) = _
 rw [hm]
 show Option.map _ (AF.enter F fid _ .normal) = _
 unfold AF.enter
 rw [hF]
 rfl
theorem R_round {o : AOper} {rest : List AOper} {f : AOpd} {args : List AOpd} {l : Nat} {pend : Option AC} {fn : FuncId} {fn0 : AFun} {tmps : List AV} {params : List Nat} {assign body : AC} {d : Nat} {st : LoopState} (hw : Qav t o = some true) (ha : o.act = .call f args) (hf : aev t f = .yield l)
  (hg : h.get l = some (.loop st pend fn tmps params assign body d)) (hl : args.length = params.length) (hF : F fn = some fn0)
  (hr : Reach F M ((⟨fn,[],.normal,some l,x.fr t (.inRegion (o :: rest) :: k) :: x.cs⟩ : Ctx).at ((params.zip (args.map (aev t))).foldl (fun t x=>t.set x.1 x.2) tmps) [.code assign,.beginRound,.code body] h) G) : Reach F M (x.at t (.inRegion (o :: rest) :: k) h) G:=by
 refine .step ?_ hr
 show aone F M (x.at t (.inRegion (o :: rest) :: k) h) o = _
 unfold aone
 rw [show Qav (x.at t (.inRegion (o :: rest) :: k) h).fr.tmps o = some true from hw]
 show aoper F M _ o = _
 unfold aoper
 rw [ha]
 show (match QbT (aev t f) (args.map (aev t)) with | some t=>_ | none=>_) = _
 rw [hf]
 show (match h.get l with | some (.loop _ _ fn tmps params assign body _)=>_ | _=>_) = _
 rw [hg]
 show (if (args.map (aev t)).length = params.length ∧ (F fn).isSome then _ else _) = _
 rw [if_pos ⟨by simpa using hl,by rw [hF]; rfl⟩]
 rfl
theorem QmV {l : Nat} {pend : Option AC} {fn : FuncId} {tmps : List AV} {params : List Nat} {assign body : AC} {d : Nat} (hro : x.roundOf = some l) (hg : h.get l = some (.loop .ready pend fn tmps params assign body d))
  (hr : Reach F M (x.at t k (h.put l (.loop .busy pend fn tmps params assign body d))) G) : Reach F M (x.at t (.beginRound :: k) h) G:=by
 obtain ⟨fn',d',kd,ro,c'⟩:=x
 obtain rfl:=hro
 refine .step ?_ hr
 show (match h.get l with | some (.loop .ready pend fn tmps params assign body d)=>_ | _=>_) = _
 rw [hg]
 rfl
theorem Qp6 {l : Nat} {pend : Option AC} {fn : FuncId} {tmps : List AV} {params : List Nat} {assign body : AC} {d : Nat} {st : LoopState} {caller fr' : AF} {cs : List AF} (hx : x.kind = .normal ∧ x.roundOf = some l ∧ x.cs = caller :: cs) (hg : h.get l = some (.loop st pend fn tmps params assign body d))
  (hfin : caller.finish (h.put l (.loop .ready none fn tmps params assign body d)) (.bool true) = some fr') (hr : Reach F M ⟨fr',cs,h.put l (.loop .ready none fn tmps params assign body d)⟩ G) : Reach F M (x.at t [] h) G:=by
 obtain ⟨fn',d',kd,ro,c'⟩:=x
 obtain ⟨rfl,rfl,rfl⟩:=hx
 refine .step ?_ hr
 show (match CallKind.normal,h.get l with | .normal,some (.loop _ _ fn tmps params assign body d)=>_ | _,_=>none) = _
 rw [hg]
 show Option.map _ (caller.finish (h.put l (.loop .ready none fn tmps params assign body d)) (.bool true)) = _
 rw [hfin]
 rfl
theorem QjX {l : Nat} {fn : FuncId} {tmps : List AV} {params : List Nat} {assign body : AC} {d : Nat} (hg : h.get l = some (.loop .ready none fn tmps params assign body d))
  (hr : Reach F M (x.at t k (h.put l (.loop .exhausted none fn tmps params assign body d))) G) : Reach F M (x.at t (.endRangeFunc l :: k) h) G:=by
 refine .step ?_ hr
 show (match h.get l with | some (.loop st pend fn tmps params assign body d)=>_ | _=>_) = _
 rw [hg]
 rfl
theorem Qn9 {b : Nat} {ds : List ADef} (hd : x.defers = .collected b :: ds) (hg : h.get b = some (.deferred (some []))) (hr : Reach F M ⟨({ x with defers:=ds } : Ctx).out t k .returning,x.cs,h.put b (.deferred none)⟩ G) : Reach F M ⟨x.out t k .returning,x.cs,h⟩ G:=by
 obtain ⟨fn',d',kd,ro,c'⟩:=x
 obtain rfl:=hd
 refine .step ?_ hr
 show (match h.get b with | some (.deferred (some calls))=>_ | _=>_) = _
 rw [hg]
 rfl
end
end Go.Ab
namespace Go.Ab.L22
open Go Go.Ab
abbrev QbQ : FuncId:=61
structure Rept (M : Memo) (rep : Nat → Str) : Prop where
 memo : ∀ (k : Nat),k < 1000000 → ∀ h,∃ c,M QbQ [.str 1 93,.int .i64 k] = some c ∧ c h = some (sv (rep k),h)
 len : ∀ k,(rep k).1 = k
theorem Up.toS {S : Nat → Prop} {h h' : AH} (u : Up h h') : UpS S h h':=⟨u.next,fun b hb _=>u.keep b hb,u.wf⟩
theorem Mst.up {c : Cx} {env : Int} {s : Sg} {h h' : AH} (m : Mst c env s h) (u : Up h h') : Mst c env s h':=by
 obtain ⟨tv,sp,h1,h2⟩:=m.obj
 refine ⟨⟨tv,sp,by rw [u.keep _ (Qbi m.wf h1)]; exact h1,?_⟩,by rw [u.keep _ (Qbi m.wf m.does)]; exact m.does,u.wf,m.lo,m.lod⟩
 rcases h2 with h2 | ⟨b,pre,anc,e,h3,h4,h5⟩
 ·exact .inl h2
 ·exact .inr ⟨b,pre,anc,e,by rw [u.keep _ (Qbi m.wf h3)]; exact h3,h4,h5⟩
theorem Mst.toldAt {c : Cx} {env : Int} {s : Sg} {h : AH} (m : Mst c env s h) : ∃ l sp tv,h.get c.bm = some (.cells l sp 0 []) ∧ l[6]? = some tv ∧ lenK h 1 tv = some s.told.length ∧
  ∀ i (hi : i < s.told.length),∃ b pre anc,Qew 1 tv (.int .i64 (i : Nat)) = some (.ptr b (0 + i * 1)) ∧ h.get b = some (.cells (s.told.map (.int .i64)) (some 6) pre anc) ∧ b ≠ c.bm:=by
 obtain ⟨tv,sp,h1,h2⟩:=m.obj
 refine ⟨_,sp,tv,h1,rfl,?_,?_⟩
 ·rcases h2 with ⟨rfl,ht⟩ | ⟨b,pre,anc,rfl,_⟩
  ·rw [ht]; rfl
  ·rfl
 ·intro i hi
  rcases h2 with ⟨rfl,ht⟩ | ⟨b,pre,anc,rfl,h3,h4,h5⟩
  ·rw [ht] at hi; exact absurd hi (by simp)
  ·exact ⟨b,pre,anc,by simp [Qew,asNat,hi],h3,h5⟩
theorem UpS.toPut {b0 l : Nat} {h h' : AH} {o : AO} (u : UpS (fun x=>x = b0 ∨ x = l) h h') (hl : l < h'.next) : UpS (fun x=>x = b0) (h.put l o) (h'.put l o):=by
 refine ⟨u.next,fun b hb hn=>?_,fun b hb=>?_⟩
 ·by_cases e : b = l
  ·rw [e,get_put,get_put]
  ·rw [Qaj _ _ e,Qaj _ _ e]
   exact u.keep b hb (fun e'=>by rcases e' with e' | e'; exact hn e'; exact e e')
 ·have hb' : h'.next ≤ b:=hb
  rw [Qaj _ _ (by omega)]
  exact u.wf b hb'
theorem UpS.ofPut {b0 l : Nat} {h h' : AH} {o : AO} (u : UpS (fun x=>x = b0) (h.put l o) h') : UpS (fun x=>x = b0 ∨ x = l) h h' :=
 ⟨u.next,fun b hb hn=>by rw [u.keep b hb (fun e=>hn (.inl e)),Qaj _ _ (fun e=>hn (.inr e))],u.wf⟩
theorem Buf.put {lo bB b' : Nat} {l : List AV} {h : AH} {o : AO} (B : Buf lo bB l h) (h1 : b' < lo) (h2 : b' ≠ bB) : Buf lo bB l (h.put b' o):=by
 obtain ⟨⟨p,tvv,g,hp,hr⟩,_⟩:=B
 refine ⟨⟨p,tvv,by rw [Qaj _ _ (Ne.symm h2)]; exact g,hp,?_⟩,Nat.zero_le _⟩
 rcases hr with hr | ⟨b,pre,anc,e,k3,k4,k5⟩
 ·exact .inl hr
 ·exact .inr ⟨b,pre,anc,e,by rw [Qaj _ _ (by omega)]; exact k3,k4,k5⟩
def item (ita : Int → Str) (n : Int) : Str:=cat (cat (5,392778641219) (textD ita n)) (2,8236)
def listB (ita : Int → Str) : List Int → List AV
 | []=>[]
 | n :: l=>Qa8 (item ita n).1 (item ita n).2 ++ listB ita l
def Qcn (ita : Int → Str) (rep : Nat → Str) (l : List Int) : List AV:=listB ita l ++ Qa8 3 7104846 ++ Qa8 (rep l.length).1 (rep l.length).2
def listD (ita : Int → Str) (rep : Nat → Str) (l : List Int) : Str:=((Qcn ita rep l).length,(numOf (Qcn ita rep l)).getD 0)
theorem QbY : ∀ (n b : Nat) (l : List AV),(numOf l).isSome → (numOf (Qa8 n b ++ l)).isSome
 | 0,_,_,h=>h
 | n + 1,b,l,h=>by
  have:=QbY n (b / 256) l h
  show (numOf (.int .u8 ((b % 256 : Nat) : Int) :: (Qa8 n (b / 256) ++ l))).isSome
  show (if b % 256 < 256 then _ else none : Option Nat).isSome
  rw [if_pos (Nat.mod_lt _ (by decide))]
  simpa using this
theorem Qkd (ita : Int → Str) : ∀ (t : List Int) (l : List AV),(numOf l).isSome → (numOf (listB ita t ++ l)).isSome
 | [],_,h=>h
 | n :: t,l,h=>by
  show (numOf (Qa8 _ _ ++ listB ita t ++ l)).isSome
  rw [List.append_assoc]
  exact QbY _ _ _ (Qkd ita t l h)
theorem QqP (ita : Int → Str) (rep : Nat → Str) (t : List Int) : numOf (Qcn ita rep t) = some ((numOf (Qcn ita rep t)).getD 0):=by
 have : (numOf (Qcn ita rep t)).isSome:=by
  unfold Qcn
  rw [List.append_assoc]
  refine Qkd ita t _ (QbY _ _ _ ?_)
  have:=QbY (rep t.length).1 (rep t.length).2 [] rfl
  simpa using this
 obtain ⟨v,hv⟩:=Option.isSome_iff_exists.1 this
 rw [hv]; rfl
section
variable {F : FuncId → Option AFun} {M : Memo}
structure Fns4 (F : FuncId → Option AFun) (M : Memo) (ita : Int → Str) (rep : Nat → Str) : Prop where
 all : F i_all = some Qkt
 all1 : F Qga = some fn_all1
 list : F Qb2 = some fn_list
 text : F QoI = some QfD
 pair : F QoK = some QfG
 mall : ∀ as,M i_all as = none
 mall1 : ∀ as,M Qga as = none
 mlist : ∀ as,M Qb2 as = none
 mtext : ∀ as,M QoI as = none
 mpair : ∀ as,M QoK as = none
 itoa : Itoa M ita
 rept : Rept M rep
 builder : Fns3 F M
theorem QoF {ita : Int → Str} (I : Itoa M ita) (n : Int) : (item ita n).1 ≤ 39 ∧ (item ita n).1 ≠ 0:=by
 have:=QfO I n
 simp [item,cat]; omega
theorem Qik {ita : Int → Str} (I : Itoa M ita) : ∀ l,(listB ita l).length ≤ 39 * l.length
 | []=>by simp [listB]
 | n :: l=>by
  have h1:=Qik I l
  have h2:=(QoF I n).1
  simp only [listB,List.length_append,(QbJ _ _).2,List.length_cons]
  omega
def t0L (bm bB bx : Nat) : List AV:=[.ptr bm 0,.undef,.str 0 0,.ptr bB 0,.undef,.ptr bm 0,.func Qga [] [.ptr bx 0],.undef,.undef,.undef,.undef,.undef,.undef,.undef,.undef,.undef,.undef,.undef,.undef,.undef,.undef,.undef]
theorem all_ctr {ita : Int → Str} {rep : Nat → Str} (H : Fns4 F M ita rep) {bm : Nat} {h : AH} (u : Up h h) :
  Ctr F M i_all [.ptr bm 0] h (fun v h'=>∃ bx sp,v = .func Qga [] [.ptr bx 0] ∧ h'.get bx = some (.cells [.ptr bm 0] sp 0 []) ∧ Up h h' ∧ h.next ≤ bx ∧ bx < h'.next) (fun _ _=>False):=by
 refine Ctr.intro H.all fun caller cs G hk _=>?_
 have hF:=H.all
 simp only [Qkt,fn59,List.length_cons,List.length_nil,Nat.reduceAdd,Nat.reduceSub,rZ,rS,pN,pC]
 refine R_seq (Qaa (R_op rfl rfl rfl (R_op rfl rfl rfl (R_nil ?_))))
 simp only [sN,s0,sS,a0,aS,aC,AV.cells]
 obtain ⟨u1,u1',g1,n1⟩:=grown u (.cells [.ptr bm 0] (some 137) 0 [])
 generalize h.alloc (.cells [.ptr bm 0] (some 137) 0 []) = h1 at u1 u1' g1 n1 ⊢
 refine R_seq (Qaa (R_op (v:=.func Qga [] [.ptr h.next 0]) (h1:=h1) rfl rfl rfl (R_op rfl rfl rfl (R_nil ?_))))
 simp only [sN,s0,sS,a0,aS,aC]
 obtain ⟨fr',e1,e2⟩:=hk (.func Qga [] [.ptr h.next 0]) h1 ⟨h.next,_,rfl,g1,u1,Nat.le_refl _,by omega⟩
 exact R_ret ⟨rfl,rfl,rfl,rfl⟩ hF rfl e1 e2
def Qbs : AC:=match fn_list.body with | .seq _ (.seq _ (.seq (.seq _ (.block _ (.rangeFunc _ _ a _))) _))=>a | _=>.skip
def Qcb : AC:=match fn_list.body with | .seq _ (.seq _ (.seq (.seq _ (.block _ (.rangeFunc _ _ _ b))) _))=>b | _=>.skip
def Qf5 : AC:=match fn_list.body with | .seq _ (.seq _ (.seq _ b))=>b | _=>.skip
def Qpb : AC:=match fn_all1.body with | .seq _ (.block _ (.loop b))=>b | _=>.skip
theorem Qk0 {ita : Int → Str} {rep : Nat → Str} (H : Fns4 F M ita rep) {c : Cx} {env : Int} {s : Sg} {h : AH} (m : Mst c env s h) (hbd : s.told.length < 1000000) (hrt : ∀ x ∈ s.told,inR x) :
  Ctr F M Qb2 [.ptr c.bm 0] h (fun v h'=>v = sv (listD ita rep s.told) ∧ Up h h') (fun _ _=>False):=by
 refine Ctr.intro H.list fun caller cs G hk _=>?_
 have hF:=H.list
 have u : Up h h:=.refl m.wf
 simp only [fn_list,fn29,List.length_cons,List.length_nil,Nat.reduceAdd,Nat.reduceSub,rZ,rS,pN,pC]
 refine R_seq (Qaa (R_op rfl rfl rfl (R_nil ?_)))
 simp only [sN,s0,sS,a0,aS,aC]
 refine R_seq (Qaa (R_op rfl rfl rfl (R_nil ?_)))
 simp only [sN,s0,sS,a0,aS,aC]
 obtain ⟨u1,u1',g1,n1⟩:=grown u (.cells [.nilptr,.nilslice] (some 209) 0 [])
 generalize h.alloc (.cells [.nilptr,.nilslice] (some 209) 0 []) = h1 at u1 u1' g1 n1 ⊢
 refine R_seq (R_seq (Qaa (R_op rfl rfl rfl (Qau rfl rfl rfl (H.mall _) (all_ctr H u1') ?_ (fun _ _ e=>e.elim)))))
 rintro v h2 ⟨bx,spx,rfl,gx,u2,bx1,bx2⟩
 refine R_nil ?_
 simp only [sN,s0,sS,a0,aS,aC]
 refine QaS (Qn8 rfl rfl H.mall1 H.all1 ?_)
 have gB2:=u2.keep h.next (by omega)
 rw [g1] at gB2
 have un2:=u2.next
 generalize hh : (h2.alloc (.deferred (some []))).alloc _ = h3
 have n3 : h3.next = h2.next + 2:=by rw [← hh]; rfl
 have u3 : Up h2 h3:=by rw [← hh]; exact ((Up.refl u2.wf).alloc _).alloc _
 have gl : h3.get (h2.next + 1) = some (.loop .ready none Qb2 (t0L c.bm h.next bx) [7] Qbs Qcb h2.next):=by rw [← hh]; exact QaV _ _
 have gd : h3.get h2.next = some (.deferred (some [])):=by rw [← hh,Qay _ _ (by show h2.next < h2.next + 1; omega)]; exact QaV _ _
 have gB : h3.get h.next = some (.cells [.nilptr,.nilslice] (some 209) 0 []):=by rw [u3.keep _ (by omega)]; exact gB2
 have gx3 : h3.get bx = some (.cells [.ptr c.bm 0] spx 0 []):=by rw [u3.keep _ bx2]; exact gx
 have u03:=(u1.trans u2).trans u3
 have m3:=m.up u03
 clear hh
 have ul : Up h h2:=u1.trans u2
 have nl : h.next + 1 ≤ h2.next:=by omega
 have done : ∀ h6,UpS (fun x=>x = h.next ∨ x = h2.next + 1) h3 h6 → Buf h3.next h.next (listB ita s.told) h6 →
   Reach F M ((⟨Qb2,[.collected h2.next],.normal,none,caller :: cs⟩ : Ctx).at (t0L c.bm h.next bx) [.code Qf5] h6) G:=by
  intro h6 u6 B6
  have hSB : (fun x=>x = h.next ∨ x = h2.next + 1) h.next:=.inl rfl
  have lb:=Qik H.itoa s.told
  have un6:=u6.next
  refine R_seq (Qaa (Qau rfl rfl rfl (H.builder.mwrite _) (QhB H.builder hSB u6 (Nat.le_refl _) un6 B6 (s:=(3,7104846)) (by decide) (by decide) (by omega)) ?_ (fun _ _ e=>e.elim)))
  rintro v h7 ⟨u7,B7,n7⟩
  refine R_nil ?_
  simp only [sN,s0,sS,a0,aS,aC]
  have u07:=UpS.up u03 u7 (fun b hb=>by rcases hb with rfl | rfl <;> omega)
  obtain ⟨lt,spt,tvt,q1,q2,q3,_⟩:=(m.up u07).toldAt
  obtain ⟨mc,mc1,mc2⟩:=H.rept.memo s.told.length hbd h7
  have rl:=H.rept.len s.told.length
  refine R_seq (Qaa (R_op rfl rfl rfl (R_op rfl rfl rfl (R_op rfl rfl rfl (R_op rfl rfl (Qal rfl q1 q2) (R_op rfl rfl (x_len rfl q3) (QdL rfl rfl rfl mc1 mc2 ?_)))))))
  simp only [sN,s0,sS,a0,aS,aC]
  have un7:=u7.next
  have fin : ∀ h8,UpS (fun x=>x = h.next ∨ x = h2.next + 1) h3 h8 → Buf h3.next h.next (Qcn ita rep s.told) h8 → ∀ {x19 x20 : AV},
    Reach F M ((⟨Qb2,[.collected h2.next],.normal,none,caller :: cs⟩ : Ctx).at [.ptr c.bm 0,.undef,.str 0 0,.ptr h.next 0,.undef,.ptr c.bm 0,.func Qga [] [.ptr bx 0],.undef,.undef,.undef,.undef,.undef,.undef,v,.ptr c.bm 0,.ptr c.bm 0,.ptr c.bm (0 + 6),tvt,.int .i64 (s.told.length : Nat),x19,x20,.undef]
     [.code (match Qf5 with | .seq _ (.seq _ b)=>b | _=>.skip)] h8) G:=by
   intro h8 u8 B8 x19 x20
   have hlen : (Qcn ita rep s.told).length = (listB ita s.told).length + 3 + s.told.length:=by simp [Qcn,(QbJ _ _).2,rl]; omega
   refine R_seq (Qaa (Qau rfl rfl rfl (H.builder.mstring _) (Qpn H.builder hSB u8 (Nat.le_refl _) B8 (QqP ita rep s.told) (by omega) (by omega)) ?_ (fun _ _ e=>e.elim)))
   rintro v9 h9 ⟨rfl,u9,n9⟩
   refine R_op rfl rfl rfl (R_nil ?_)
   simp only [sN,s0,sS,a0,aS,aC]
   have gd9 : h9.get h2.next = some (.deferred (some [])):=by rw [u9.keep _ (by omega) (by intro e; rcases e with e | e <;> omega)]; exact gd
   have un9:=u9.next
   have u09:=UpS.up u03 u9 (fun b hb=>by rcases hb with rfl | rfl <;> omega)
   have u10:=u09.put (b:=h2.next) (by omega) (by omega) (.deferred none)
   refine QrN rfl (Qn9 rfl gd9 ?_)
   obtain ⟨fr',e1,e2⟩:=hk (sv (listD ita rep s.told)) _ ⟨rfl,u10⟩
   exact QlJ (x:=⟨Qb2,[],.normal,none,caller :: cs⟩) ⟨rfl,rfl,rfl⟩ hF rfl e1 e2
  by_cases z : s.told.length = 0
  ·have e0 : sv (rep s.told.length) = .str 0 (rep s.told.length).2:=by unfold sv; rw [rl,z]
   have e1 : listB ita s.told ++ Qa8 3 7104846 = Qcn ita rep s.told:=by unfold Qcn; rw [rl,z]; simp [Qa8]
   rw [e1] at B7
   refine Qau rfl rfl (by rw [e0]; rfl) (H.builder.mwrite _) (Qpg H.builder hSB u7 (Nat.le_refl _) un7 B7) ?_ (fun _ _ e=>e.elim)
   rintro v8 h8 ⟨u8,B8,n8⟩
   refine R_nil ?_
   simp only [sN,s0,sS,a0,aS,aC]
   exact fin h8 u8 B8
  ·refine Qau rfl rfl rfl (H.builder.mwrite _) (QhB H.builder hSB u7 (Nat.le_refl _) un7 B7 (s:=rep s.told.length) (by omega) (by omega) (by simp [(QbJ _ _).2]; omega)) ?_ (fun _ _ e=>e.elim)
   rintro v8 h8 ⟨u8,B8,n8⟩
   refine R_nil ?_
   simp only [sN,s0,sS,a0,aS,aC]
   exact fin h8 u8 B8
 simp only [fn_all1,fn91,List.length_cons,List.length_nil,Nat.reduceAdd,Nat.reduceSub,rZ,rS,pN,pC]
 obtain ⟨lt,spt,tv,q1,q2,q3,q4⟩:=m3.toldAt
 refine R_seq (Qaa (R_op rfl rfl (Qal rfl gx3 rfl) (R_op rfl rfl rfl (R_op rfl rfl rfl (R_op rfl rfl (Qal rfl q1 q2) (R_op rfl rfl (x_len rfl q3) (R_op rfl rfl rfl (R_nil ?_))))))))
 simp only [sN,s0,sS,a0,aS,aC]
 refine QaS (QeH ?_)
 have loop : ∀ (j i : Nat) (L : List AV) (h5 : AH) {x2 x3 x4 x5 x6 x7 x11 x12 x13 x14 x15 x16 x17 x18 : AV},i + j = s.told.length → UpS (fun x=>x = h.next ∨ x = h2.next + 1) h3 h5 → Buf h3.next h.next L h5 → L.length ≤ 39 * i →
   h5.get (h2.next + 1) = some (.loop .ready none Qb2 (t0L c.bm h.next bx) [7] Qbs Qcb h2.next) → L ++ listB ita (s.told.drop i) = listB ita s.told →
   Reach F M ((⟨Qga,[],.normal,none,(⟨Qb2,[],.normal,none,caller :: cs⟩ : Ctx).wait (t0L c.bm h.next bx) [.inBlock 0,.code Qf5] h2.next (h2.next + 1) :: caller :: cs⟩ : Ctx).at [.yield (h2.next + 1),.ptr bx 0,x2,x3,x4,x5,x6,x7,tv,.int .i64 (s.told.length : Nat),.int .i64 (i : Nat),x11,x12,x13,x14,x15,x16,x17,x18] [.code Qpb,.inLoop Qpb,.inBlock 0] h5) G:=by
  intro j
  induction j with
  | zero =>
   intro i L h5 x2 x3 x4 x5 x6 x7 x11 x12 x13 x14 x15 x16 x17 x18 hij u5 B5 hL gl5 hw
   have hlt : ¬ (i : Int) < s.told.length:=by omega
   refine R_seq (Qaa (R_op rfl rfl rfl (R_nil ?_)))
   simp only [sN,s0,sS,a0,aS,aC,decide_eq_false hlt]
   refine R_seq (Qaw rfl (Qfj rfl ?_))
   have : s.told.drop i = []:=by simp; omega
   rw [this] at hw
   have hw' : L = listB ita s.told:=by simpa [listB] using hw
   subst hw'
   refine R_end ⟨rfl,rfl,rfl,rfl⟩ H.all1 rfl rfl ?_
   show Reach F M ((⟨Qb2,[.collected h2.next],.normal,none,caller :: cs⟩ : Ctx).at (t0L c.bm h.next bx) (.endRangeFunc (h2.next + 1) :: [.inBlock 0,.code Qf5]) h5) G
   have un5:=u5.next
   refine QjX gl5 (QaQ ?_)
   obtain ⟨⟨p,tvv,g,hp,hr⟩,_⟩:=B5
   refine done _ (u5.put (b:=h2.next + 1) (.inr (.inr rfl)) (by omega) _) ⟨⟨p,tvv,by rw [Qaj _ _ (by omega)]; exact g,hp,?_⟩,Nat.zero_le _⟩
   rcases hr with hr | ⟨b,pre,anc,e,k3,k4,k5⟩
   ·exact .inl hr
   ·exact .inr ⟨b,pre,anc,e,by rw [Qaj _ _ (by omega)]; exact k3,k4,k5⟩
  | succ j ihj =>
   intro i L h5 x2 x3 x4 x5 x6 x7 x11 x12 x13 x14 x15 x16 x17 x18 hij u5 B5 hL gl5 hw
   have hi : i < s.told.length:=by omega
   have hlt : (i : Int) < s.told.length:=by omega
   have hup : IntKind.i64.wrap ((i : Int) + 1) = ((i + 1 : Nat) : Int):=QkG (by omega)
   rw [List.drop_eq_getElem_cons hi] at hw
   obtain ⟨bt,pret,anct,w1,w2,w3⟩:=q4 i hi
   have hbt:=Qbi u3.wf w2
   have un5:=u5.next
   have hne : ¬ (bt = h.next ∨ bt = h2.next + 1):=by
    rintro (e | e)
    ·rw [e,gB] at w2; simp at w2
    ·rw [e,gl] at w2; simp at w2
   have w2':=u5.keep bt hbt hne
   rw [w2] at w2'
   refine R_seq (Qaa (R_op rfl rfl rfl (R_nil ?_)))
   simp only [sN,s0,sS,a0,aS,aC,decide_eq_true hlt]
   refine R_seq (QaM rfl (QaF ?_))
   refine R_seq (QaS (R_seq (Qaa (R_op rfl rfl (Qbl rfl rfl w1) (R_op rfl rfl (Qal (v:=.int .i64 s.told[i]) rfl w2' (by simp [hi])) (R_op rfl rfl rfl (R_nil ?_)))))))
   simp only [sN,s0,sS,a0,aS,aC]
   refine R_seq (Qaa (R_op rfl rfl rfl (R_op rfl rfl rfl (R_round rfl rfl rfl gl5 rfl hF ?_))))
   simp only [sN,s0,sS,a0,aS,aC,t0L,List.map_cons,List.map_nil,List.zip_cons_cons,List.zip_nil_right,List.foldl_cons,List.foldl_nil,List.set_cons_succ,List.set_cons_zero]
   refine Qaa (R_op rfl rfl rfl (R_nil (QmV rfl gl5 ?_)))
   simp only [sN,s0,sS,a0,aS,aC]
   have u6:=u5.toPut (o:=.loop .busy none Qb2 (t0L c.bm h.next bx) [7] Qbs Qcb h2.next) (by omega)
   have B6:=B5.put (b':=h2.next + 1) (o:=.loop .busy none Qb2 (t0L c.bm h.next bx) [7] Qbs Qcb h2.next) (by omega) (by omega)
   have n6 : (h5.put (h2.next + 1) (.loop .busy none Qb2 (t0L c.bm h.next bx) [7] Qbs Qcb h2.next)).next = h5.next:=rfl
   change Reach F M (Ctx.at _ _ _ (h5.put (h2.next + 1) (.loop .busy none Qb2 (t0L c.bm h.next bx) [7] Qbs Qcb h2.next))) G
   generalize h5.put (h2.next + 1) (.loop .busy none Qb2 (t0L c.bm h.next bx) [7] Qbs Qcb h2.next) = h6 at u6 B6 n6 ⊢
   have tl:=QfO H.itoa s.told[i]
   have il:=QoF H.itoa s.told[i]
   refine QaS (Qaa (R_op rfl rfl rfl (Qau rfl rfl rfl (H.mtext _) (QdO H.text H.itoa s.told[i] (hrt _ (List.getElem_mem _)) h6) ?_ (fun _ _ e=>e.elim))))
   rintro v h7 ⟨rfl,rfl⟩
   refine R_op rfl rfl (x_cat (a:=(5,392778641219)) (b:=textD ita s.told[i]) rfl rfl (by simp; omega)) (R_op rfl rfl (x_cat (a:=cat (5,392778641219) (textD ita s.told[i])) (b:=(2,8236)) rfl rfl (by simp [cat]; omega)) ?_)
   simp only [sN,s0,sS,a0,aS,aC]
   refine Qau rfl rfl rfl (H.builder.mwrite _) (QhB (s:=item ita s.told[i]) H.builder (S:=fun x=>x = h.next) rfl u6 (Nat.le_refl _) (by rw [n6]; exact un5) B6 il.2 (by omega) (by omega)) ?_ (fun _ _ e=>e.elim)
   rintro v h8 ⟨u8,B8,n8⟩
   have gl8:=u8.keep (h2.next + 1) (by rw [QeQ]; omega) (by omega)
   rw [get_put] at gl8
   have u8':=u8.ofPut
   have B9:=B8.put (b':=h2.next + 1) (o:=.loop .ready none Qb2 (t0L c.bm h.next bx) [7] Qbs Qcb h2.next) (by rw [QeQ]; omega) (by omega)
   have u9:=u8'.put (b:=h2.next + 1) (.inr (.inr rfl)) (by omega) (.loop .ready none Qb2 (t0L c.bm h.next bx) [7] Qbs Qcb h2.next)
   have gl9:=get_put h8 (h2.next + 1) (.loop .ready none Qb2 (t0L c.bm h.next bx) [7] Qbs Qcb h2.next)
   refine R_nil (QaQ (Qp6 ⟨rfl,rfl,rfl⟩ gl8 rfl ?_))
   show Reach F M ((⟨Qga,[],.normal,none,(⟨Qb2,[],.normal,none,caller :: cs⟩ : Ctx).wait (t0L c.bm h.next bx) [.inBlock 0,.code Qf5] h2.next (h2.next + 1) :: caller :: cs⟩ : Ctx).at (setDst _ _ _) (.inRegion _ :: _) _) G
   generalize h8.put (h2.next + 1) (.loop .ready none Qb2 (t0L c.bm h.next bx) [7] Qbs Qcb h2.next) = h9 at u9 B9 gl9 ⊢
   refine R_op rfl rfl rfl (R_nil ?_)
   simp only [sN,s0,sS,a0,aS,aC]
   refine Qaw rfl (QaF (QaQ (Qaa (R_op rfl rfl rfl (R_op rfl rfl rfl (R_nil ?_))))))
   simp only [sN,s0,sS,a0,aS,aC]
   refine Qbo ?_
   rw [hup]
   refine ihj (i + 1) _ h9 (by omega) u9 B9 (by simp [(QbJ _ _).2]; omega) gl9 ?_
   rw [← hw,List.append_assoc]
   rfl
 exact loop s.told.length 0 [] h3 (by omega) (.refl u3.wf) ⟨⟨.nilptr,.nilslice,gB,.inl rfl,.inl ⟨rfl,rfl⟩⟩,Nat.zero_le _⟩ (by simp) gl rfl
end
end Go.Ab.L22
namespace Go.Ab.L22
open Go Go.Ab
/-! The numbers of a scene that Check lets through are ints. -/
mutual
def Rng : LT → Prop
 | .mk _ n l=>inR n ∧ Rngs l
def Rngs : List LT → Prop
 | []=>True
 | t :: l=>Rng t ∧ Rngs l
end
theorem above_le (k : Int) : QcD k ≤ 999:=by
 unfold QcD
 split
 ·omega
 ·split <;> omega
theorem below_ge (k : Int) : -999 ≤ IntKind.i64.wrap (0 - belowD k):=by
 unfold belowD
 split
 ·exact Int.le_refl _
 ·exact (by decide : (-999 : Int) ≤ IntKind.i64.wrap (0 - 0))
mutual
theorem rng_of : ∀ T,Qbq T = 0 → Rng T
 | .mk k n l=>by
  intro e
  simp only [Qbq] at e
  by_cases c1 : k < 0
  ·rw [if_pos c1] at e; omega
  rw [if_neg c1] at e
  by_cases c2 : 13 ≤ k
  ·rw [if_pos c2] at e; omega
  rw [if_neg c2] at e
  by_cases c3 : n < IntKind.i64.wrap (0 - belowD k)
  ·rw [if_pos c3] at e; omega
  rw [if_neg c3] at e
  by_cases c4 : QcD k < n
  ·rw [if_pos c4] at e; omega
  rw [if_neg c4] at e
  by_cases c5 : (l.length : Int) ≠ parts k
  ·rw [if_pos c5] at e; omega
  rw [if_neg c5] at e
  have h1:=above_le k
  have h2:=below_ge k
  exact ⟨⟨by omega,by omega⟩,Qqt l e⟩
theorem Qqt : ∀ l,Qei l = 0 → Rngs l
 | [],_=>trivial
 | t :: l,e=>by
  simp only [Qei] at e
  by_cases c : (Qbq t ≠ 0)
  ·rw [if_pos c] at e; exact absurd e c
  ·rw [if_neg c] at e
   exact ⟨rng_of t (Decidable.not_not.1 c),Qqt l e⟩
end
theorem Qrx {st env : Int} {T : LT} (e : Qbz st env T = 0) : inR st ∧ inR env ∧ Rng T:=by
 unfold Qbz at e
 by_cases c1 : (if env > st then env else st) > 999
 ·rw [if_pos c1] at e; omega
 rw [if_neg c1] at e
 by_cases c2 : (if env < st then env else st) < -999
 ·rw [if_pos c2] at e; omega
 rw [if_neg c2] at e
 by_cases c3 : Qgj T 40 < 0
 ·rw [if_pos c3] at e; omega
 rw [if_neg c3] at e
 by_cases c4 : (Qbq T ≠ 0)
 ·rw [if_pos c4] at e; exact absurd e c4
 have a1 : st ≤ 999 ∧ env ≤ 999:=by split at c1 <;> omega
 have a2 : -999 ≤ st ∧ -999 ≤ env:=by split at c2 <;> omega
 exact ⟨⟨by omega,by omega⟩,⟨by omega,by omega⟩,rng_of T (Decidable.not_not.1 c4)⟩
def SgR (s : Sg) : Prop:=inR s.st ∧ ∀ x ∈ s.told,inR x
def OutR : Out × Sg → Prop
 | (.ret n,s)=>inR n ∧ SgR s
 | (.thr n,s)=>inR n ∧ SgR s
def DenR (d : Den) : Prop:=∀ env s,inR env → SgR s → OutR (d env s)
theorem wrap_in (x : Int) : inR (IntKind.i64.wrap x):=by
 unfold inR IntKind.wrap
 simp [IntKind.signed,IntKind.bits]
 omega
theorem Qho (n : Int) : inR (wrapS n):=by
 unfold wrapS
 have h1:=Int.tmod_lt_of_pos n (b:=1999999999) (by decide)
 have h2:=Int.lt_tmod_of_pos n (b:=1999999999) (by decide)
 split
 ·exact wrap_in _
 split
 ·exact wrap_in _
 ·exact ⟨by omega,by omega⟩
theorem Qce {r : Out × Sg} {f : Int → Sg → Out × Sg} (h : OutR r) (hf : ∀ a s,inR a → SgR s → OutR (f a s)) : OutR (bindD r f):=by
 obtain ⟨o,s⟩:=r
 cases o with
 | ret a=>exact hf a s h.1 h.2
 | thr a=>exact h
theorem QmK {r : Out × Sg} {f : Int → Sg → Out × Sg} (h : OutR r) (hf : ∀ a s,inR a → SgR s → OutR (f a s)) : OutR (QdI r f):=by
 obtain ⟨o,s⟩:=r
 cases o with
 | ret a=>exact h
 | thr a=>exact hf a s h.1 h.2
theorem QoY {d : Den} (hd : DenR d) : ∀ (m : Nat) (i sum : Int) (s : Sg),inR sum → SgR s → OutR (eachD d m i sum s)
 | 0,_,_,_,h1,h2=>⟨h1,h2⟩
 | m + 1,i,sum,s,_,h2=>Qce (hd _ s (wrap_in _) h2) fun _ s _ hs=>QoY hd m _ _ s (Qho _) hs
theorem denK_rng {k n : Int} {ds : List Den} (hn : inR n) (h : ∀ d ∈ ds,DenR d) : DenR (denK k n ds):=by
 intro env s he hs
 unfold denK
 split
 ·exact ⟨hs.1,hs⟩
 ·exact Qce (h _ (by simp) env s he hs) fun a s ha hs=>⟨ha,ha,hs.2⟩
 ·exact ⟨he,hs⟩
 ·exact Qce (h _ (by simp) env s he hs) fun a s ha hs=>⟨ha,hs.1,fun x hx=>by
   rcases List.mem_append.1 hx with hx | hx
   ·exact hs.2 x hx
   ·rw [List.mem_singleton.1 hx]; exact ha⟩
 ·exact Qce (h _ (by simp) env s he hs) fun a s ha hs=>⟨ha,hs⟩
 ·exact QmK (h _ (by simp) env s he hs) fun a s ha hs=>Qce (h _ (by simp) env s he hs) fun b s hb hs=>⟨Qho _,hs⟩
 ·exact QmK (h _ (by simp) env s he hs) fun a s' ha hs'=>Qce (h _ (by simp) env _ he ⟨hs.1,hs'.2⟩) fun b s hb hs=>⟨Qho _,hs⟩
 ·exact Qce (h _ (by simp) env s he hs) fun a s ha hs=>h _ (by simp) a s ha hs
 ·exact Qce (h _ (by simp) env s he hs) fun a s ha hs=>Qce (h _ (by simp) env s he hs) fun b s hb hs=>⟨Qho _,hs⟩
 ·exact Qce (h _ (by simp) env s he hs) fun a s ha hs=>h _ (by simp) env s he hs
 ·exact Qce (h _ (by simp) env s he hs) fun a s ha hs=>by
   split
   ·exact h _ (by simp) env s he hs
   ·exact h _ (by simp) env s he hs
 ·exact QoY (h _ (by simp)) _ _ _ s ⟨by decide,by decide⟩ hs
 ·exact ⟨hn,hs⟩
mutual
theorem Qru : ∀ T,Rng T → DenR (den T)
 | .mk k n l,h=>by
  have:=denK_rng (k:=k) h.1 (Qo0 l h.2)
  simpa only [den] using this
theorem Qo0 : ∀ l,Rngs l → ∀ d ∈ dens l,DenR d
 | [],_,d,hd=>by simp [dens] at hd
 | t :: l,h,d,hd=>by
  simp only [dens,List.mem_cons] at hd
  rcases hd with rfl | hd
  ·exact Qru t h.1
  ·exact Qo0 l h.2 d hd
end
end Go.Ab.L22
namespace Go.Ab.L22
open Go Go.Ab
def failD (ita : Int → Str) (n : Int) : Str:=cat (cat (4,1534227013) (textD ita n)) (1,93)
def okD (x : Str) : Str:=cat (cat (3,5991247) x) (1,93)
/-- The value of a scene. -/
def valD (ita : Int → Str) (rep : Nat → Str) : Bool → Out × Sg → Str
 | true,(.thr n,_)=>failD ita n
 | true,(.ret n,s)=>okD (pairD (pairD (textD ita n) (listD ita rep s.told)) (textD ita s.st))
 | false,(.thr n,s)=>pairD (pairD (failD ita n) (listD ita rep s.told)) (textD ita s.st)
 | false,(.ret n,s)=>pairD (pairD (okD (textD ita n)) (listD ita rep s.told)) (textD ita s.st)
def Qbr (ita : Int → Str) (rep : Nat → Str) (st env : Int) (out : Bool) (T : LT) : Str × Int :=
 if Qbz st env T ≠ 0 then ((0,0),Qbz st env T) else (valD ita rep out (den T env ⟨st,[]⟩),0)
theorem Qng {N N' : Nat} (h : N ≤ N') {p : AV} (hp : Ql1 N p) : Ql1 N' p:=by
 cases p with
 | ptr b o=>exact Nat.lt_of_lt_of_le hp h
 | iptr l=>trivial
 | _=>exact hp.elim
theorem Rep.mono {N N' : Nat} {h : AH} (hN : N ≤ N') {T : LT} {row : List AV} (H : Rep N h T row) : Rep N' h T row:=by
 induction H with
 | mk k n l lv p r hl hp hr ih=>exact .mk k n l lv p r hl (fun i hi=>⟨(hp i hi).1,Qng hN (hp i hi).2.1,(hp i hi).2.2⟩) ih
section
variable {F : FuncId → Option AFun} {M : Memo}
theorem QqX {ita : Int → Str} {rep : Nat → Str} (H : Fns4 F M ita rep) {t : List Int} (ht : t.length ≤ 120) : (listD ita rep t).1 ≤ 5000:=by
 have h1:=Qik H.itoa t
 have h2:=H.rept.len t.length
 show (Qcn ita rep t).length ≤ 5000
 simp [Qcn,(QbJ _ _).2,h2]; omega
theorem QqT {ita : Int → Str} {rep : Nat → Str} (hF : F QfA = some Qd8) (H2 : Fns2 F M) (H4 : Fns4 F M ita rep) (hMc : ∀ as,M QbK as = none) {T : LT} (hs : Short T) (hcau : Right T → QjE F M T) {st env : Int} {out : Bool} {rk rn rl : AV} {N : Nat} {h : AH} (u : Up h h) (hN : N ≤ h.next) (hrep : Rep N h T [rk,rn,rl]) :
  Ctr F M QfA [.agg [.int .i64 st,.int .i64 env,.bool out,rk,rn,rl]] h (fun v h'=>v = .tuple [sv (Qbr ita rep st env out T).1,.int .i64 (Qbr ita rep st env out T).2] ∧ Up h h') (fun _ _=>False):=by
 refine Ctr.intro hF fun caller cs G hk _=>?_
 simp only [Qd8,fn16,List.length_cons,List.length_nil,Nat.reduceAdd,Nat.reduceSub,rZ,rS,pN,pC]
 refine R_seq (Qaa (R_op rfl rfl rfl (R_op rfl rfl rfl (R_op rfl rfl rfl (R_nil ?_)))))
 simp only [sN,s0,sS,a0,aS,aC,AV.cells]
 obtain ⟨u1,u1',g1,n1⟩:=grown u (.cells [.int .i64 st,.int .i64 env,.bool out,rk,rn,rl] (some 55) 0 [])
 generalize h.alloc (.cells [.int .i64 st,.int .i64 env,.bool out,rk,rn,rl] (some 55) 0 []) = h1 at u1 u1' g1 n1 ⊢
 refine R_seq (R_seq (Qaa (R_op rfl rfl (Qbk rfl g1 (by simp)) (Qau rfl rfl rfl (H2.mcheck _) (Qry H2 hs u1' (Nat.le_trans hN u1.next) (hrep.low (u1.low hN))) ?_ (fun _ _ e=>e.elim)))))
 rintro v h2 ⟨rfl,u2⟩
 refine R_op rfl rfl rfl (R_nil ?_)
 simp only [sN,s0,sS,a0,aS,aC]
 have u02:=u1.trans u2
 have g2:=u2.keep h.next (by omega)
 rw [g1] at g2
 refine R_seq (Qaa (R_op rfl rfl rfl (R_op rfl rfl rfl (R_nil ?_))))
 simp only [sN,s0,sS,a0,aS,aC]
 by_cases ce : (Qbz st env T ≠ 0)
 ·simp only [show (Qbz st env T != 0) = true by simpa using ce]
  refine QaM rfl (R_seq (Qaa (R_op rfl rfl rfl (R_op rfl rfl rfl (R_op rfl rfl rfl (R_nil ?_))))))
  simp only [sN,s0,sS,a0,aS,aC]
  obtain ⟨fr',e1,e2⟩:=hk (.tuple [.str 0 0,.int .i64 (Qbz st env T)]) _ ⟨by unfold Qbr; rw [if_pos ce]; rfl,u02⟩
  exact R_ret ⟨rfl,rfl,rfl,rfl⟩ hF rfl e1 e2
 simp only [show (Qbz st env T != 0) = false by simpa using ce]
 refine Qaw rfl (QaF ?_)
 obtain ⟨hright,hwk⟩:=check_ok (Decidable.not_not.1 ce)
 have e0 : Qbr ita rep st env out T = (valD ita rep out (den T env ⟨st,[]⟩),0):=by unfold Qbr; rw [if_neg ce]
 refine R_seq (Qaa (R_op rfl rfl (Qbk rfl g2 (by simp)) (Qau rfl rfl rfl (H2.mbegun _) (QrE H2 (QcV hrep) (Up.refl u2.wf) (N:=h2.next) (Nat.le_refl _)) ?_ (fun _ _ e=>e.elim))))
 rintro v h3 ⟨bm,bd,rfl,m3,u3,hbm⟩
 refine R_op rfl rfl rfl (R_nil ?_)
 simp only [sN,s0,sS,a0,aS,aC]
 have u03:=u02.trans u3
 have g3:=u3.keep h.next (by have:=u2.next; omega)
 rw [g2] at g3
 refine R_seq (Qaa (R_op rfl rfl rfl (R_op rfl rfl rfl (R_op rfl rfl (Qbk rfl g3 (by simp)) (Qau rfl rfl rfl (hMc _) (hcau hright ⟨h2.next,bm,bd,out,rk,rn,rl⟩ env ⟨st,[]⟩ h3 [rk,rn,rl] m3 ((hrep.low (u03.low hN)).mono (Nat.le_trans hN u02.next)) rfl (by simp; omega)) ?_ (fun _ _ e=>e.elim))))))
 rintro v h4 ⟨n,z,s',hden,rfl,m4,f4⟩
 refine R_op rfl rfl rfl (R_op rfl rfl rfl (R_op rfl rfl rfl (R_op rfl rfl rfl (R_op rfl rfl rfl (R_nil ?_)))))
 simp only [sN,s0,sS,a0,aS,aC]
 have L4:=m3.low f4
 have u4 : Up h2 h4:=⟨Nat.le_trans u3.next f4.next,fun b hb=>by rw [L4 b hb,u3.keep b hb],m4.wf⟩
 have u04:=u02.trans u4
 have g4:=u4.keep h.next (by have:=u2.next; omega)
 rw [g2] at g4
 have hlen : s'.told.length ≤ 120:=by
  rcases hden with ⟨hd,_⟩ | ⟨hd,_⟩
  all_goals
   have:=Qdr hd
   simp at this
   omega
 obtain ⟨rst,renv,rT⟩:=Qrx (Decidable.not_not.1 ce)
 have rout:=Qru T rT env ⟨st,[]⟩ renv ⟨rst,fun x hx=>by cases hx⟩
 obtain ⟨hn,hst,hto⟩ : inR n ∧ inR s'.st ∧ ∀ x ∈ s'.told,inR x:=by
  rcases hden with ⟨hd,_⟩ | ⟨hd,_⟩ <;> (rw [hd] at rout; exact rout)
 have tn:=QfO H4.itoa n
 have ts:=QfO H4.itoa s'.st
 have ll:=QqX H4 hlen
 refine R_seq (Qaa (R_op rfl rfl rfl (Qau rfl rfl rfl (H4.mtext _) (QdO H4.text H4.itoa n hn h4) ?_ (fun _ _ e=>e.elim))))
 rintro v h4 ⟨rfl,rfl⟩
 refine R_op rfl rfl (x_cat (a:=(4,1534227013)) (b:=textD ita n) rfl rfl (by simp; omega)) (R_op rfl rfl (x_cat (a:=cat (4,1534227013) (textD ita n)) (b:=(1,93)) rfl rfl (by simp [cat]; omega)) (R_op rfl rfl rfl (R_nil ?_)))
 simp only [sN,s0,sS,a0,aS,aC]
 have fl : (failD ita n).1 ≤ 40:=by simp [failD,cat]; omega
 have ol : (okD (textD ita n)).1 ≤ 40:=by simp [okD,cat]; omega
 refine R_seq (QaS (R_seq (Qaa (R_op rfl rfl rfl (R_op rfl rfl (Qal rfl g4 rfl) (R_op rfl rfl rfl ?_))))))
 simp only [sN,s0,sS,a0,aS,aC]
 cases out with
 | true =>
  refine R_op rfl rfl rfl (R_op rfl rfl rfl (R_op rfl rfl rfl (R_nil ?_)))
  simp only [sN,s0,sS,a0,aS,aC]
  cases z with
  | true =>
   refine QaM rfl (R_seq (Qaa (R_op rfl rfl rfl (R_op rfl rfl rfl (R_op rfl rfl rfl (R_nil ?_))))))
   simp only [sN,s0,sS,a0,aS,aC]
   have hd : den T env ⟨st,[]⟩ = (.thr n,s'):=by
    rcases hden with ⟨_,hz⟩ | ⟨hd,_⟩
    ·cases hz
    ·exact hd
   obtain ⟨fr',e1,e2⟩:=hk (.tuple [sv (failD ita n),.int .i64 0]) _ ⟨by rw [e0,hd]; rfl,u04⟩
   exact R_ret ⟨rfl,rfl,rfl,rfl⟩ hF rfl e1 e2
  | false =>
   have hd : den T env ⟨st,[]⟩ = (.ret n,s'):=by
    rcases hden with ⟨hd,_⟩ | ⟨_,hz⟩
    ·exact hd
    ·cases hz
   refine Qaw rfl (R_seq (Qaa (R_op rfl rfl rfl (R_op rfl rfl (Qal rfl g4 rfl) (R_op rfl rfl rfl (R_nil ?_))))))
   simp only [sN,s0,sS,a0,aS,aC]
   obtain ⟨ls,sps,gs,_,hvs⟩:=m4.stAt
   refine QaM rfl (R_seq (QaY (Qaf (Qab rfl rfl rfl rfl (Qab rfl rfl rfl rfl (Qab rfl rfl rfl rfl (Qab rfl rfl rfl rfl (Qab rfl rfl rfl rfl (Qab rfl rfl rfl rfl (Qab rfl rfl (Qal rfl gs hvs) rfl (Qac ?_)))))))))))
   simp only [sN,s0,sS,a0,aS,aC]
   refine Qae rfl rfl rfl (H4.mtext _) (QdO H4.text H4.itoa n hn h4) ?_ (fun _ _ e=>e.elim)
   rintro v h5 ⟨rfl,rfl⟩
   refine ⟨?_,?_⟩
   ·simp only [sN,s0,sS,a0,aS,aC,List.all_cons,List.all_nil,Bool.and_true]
    exact Qak rfl rfl rfl rfl (Qal rfl gs hvs) rfl
   simp only [sN,s0,sS,a0,aS,aC]
   refine Qaf (Qac (Qae rfl rfl rfl (H4.mlist _) (Qk0 H4 m4 (by omega) hto) ?_ (fun _ _ e=>e.elim)))
   rintro v h6 ⟨rfl,u6⟩
   obtain ⟨ls6,sps6,gs6,_,hvs6⟩:=(m4.up u6).stAt
   refine ⟨?_,?_⟩
   ·simp only [sN,s0,sS,a0,aS,aC,List.all_cons,List.all_nil,Bool.and_true]
    exact Qak rfl rfl rfl rfl (Qal rfl gs6 hvs6) rfl
   simp only [sN,s0,sS,a0,aS,aC]
   refine Qaf (Qac (Qae rfl rfl rfl (H4.mpair _) (QeO H4.pair (textD ita n) (listD ita rep s'.told) (by omega) h6) ?_ (fun _ _ e=>e.elim)))
   rintro v h7 ⟨rfl,rfl⟩
   refine ⟨?_,?_⟩
   ·simp only [sN,s0,sS,a0,aS,aC,List.all_cons,List.all_nil,Bool.and_true]
    exact Qak rfl rfl rfl rfl (Qal rfl gs6 hvs6) rfl
   simp only [sN,s0,sS,a0,aS,aC]
   refine Qaf (Qac (Qae rfl rfl rfl (H4.mtext _) (QdO H4.text H4.itoa s'.st hst h7) ?_ (fun _ _ e=>e.elim)))
   rintro v h8 ⟨rfl,rfl⟩
   refine ⟨rfl,?_⟩
   simp only [sN,s0,sS,a0,aS,aC]
   refine Qaf (Qac (Qae rfl rfl rfl (H4.mpair _) (QeO H4.pair (pairD (textD ita n) (listD ita rep s'.told)) (textD ita s'.st) (by simp [pairD,cat]; omega) h8) ?_ (fun _ _ e=>e.elim)))
   rintro v h9 ⟨rfl,rfl⟩
   refine ⟨rfl,?_⟩
   simp only [sN,s0,sS,a0,aS,aC]
   refine Qaf (Qab rfl rfl (x_cat (a:=(3,5991247)) (b:=pairD (pairD (textD ita n) (listD ita rep s'.told)) (textD ita s'.st)) rfl rfl (by simp [pairD,cat]; omega)) rfl (Qab rfl rfl (x_cat (a:=cat (3,5991247) (pairD (pairD (textD ita n) (listD ita rep s'.told)) (textD ita s'.st))) (b:=(1,93)) rfl rfl (by simp [pairD,cat]; omega)) rfl (Qab rfl rfl rfl rfl (Qab rfl rfl rfl rfl (Qap (Qat (QaX ?_)))))))
   simp only [sN,s0,sS,a0,aS,aC]
   obtain ⟨fr',e1,e2⟩:=hk (.tuple [sv (okD (pairD (pairD (textD ita n) (listD ita rep s'.told)) (textD ita s'.st))),.int .i64 0]) _ ⟨by rw [e0,hd]; rfl,u04.trans u6⟩
   exact R_ret ⟨rfl,rfl,rfl,rfl⟩ hF rfl e1 e2
 | false =>
  refine R_not rfl (R_op rfl rfl rfl (R_op rfl rfl rfl (R_nil ?_)))
  simp only [sN,s0,sS,a0,aS,aC]
  refine Qaw rfl (R_seq (Qaa (R_op rfl rfl rfl (R_op rfl rfl (Qal rfl g4 rfl) (R_op rfl rfl rfl (R_nil ?_))))))
  simp only [sN,s0,sS,a0,aS,aC]
  refine Qaw rfl (R_seq (Qaa (R_op rfl rfl rfl (R_op rfl rfl rfl (R_nil ?_)))))
  simp only [sN,s0,sS,a0,aS,aC]
  obtain ⟨ls,sps,gs,_,hvs⟩:=m4.stAt
  cases z with
  | true =>
   have hd : den T env ⟨st,[]⟩ = (.thr n,s'):=by
    rcases hden with ⟨_,hz⟩ | ⟨hd,_⟩
    ·cases hz
    ·exact hd
   refine QaM rfl (R_seq (QaY (Qaf (Qab rfl rfl rfl rfl (Qab rfl rfl rfl rfl (Qab rfl rfl rfl rfl (Qab rfl rfl rfl rfl (Qab rfl rfl rfl rfl (Qab rfl rfl rfl rfl (Qab rfl rfl (Qal rfl gs hvs) rfl (Qac ?_)))))))))))
   simp only [sN,s0,sS,a0,aS,aC]
   refine Qae rfl rfl rfl (H4.mlist _) (Qk0 H4 m4 (by omega) hto) ?_ (fun _ _ e=>e.elim)
   rintro v h6 ⟨rfl,u6⟩
   obtain ⟨ls6,sps6,gs6,_,hvs6⟩:=(m4.up u6).stAt
   refine ⟨?_,?_⟩
   ·simp only [sN,s0,sS,a0,aS,aC,List.all_cons,List.all_nil,Bool.and_true]
    exact Qak rfl rfl rfl rfl (Qal rfl gs6 hvs6) rfl
   simp only [sN,s0,sS,a0,aS,aC]
   refine Qaf (Qac (Qae rfl rfl rfl (H4.mpair _) (QeO H4.pair (failD ita n) (listD ita rep s'.told) (by omega) h6) ?_ (fun _ _ e=>e.elim)))
   rintro v h7 ⟨rfl,rfl⟩
   refine ⟨?_,?_⟩
   ·simp only [sN,s0,sS,a0,aS,aC,List.all_cons,List.all_nil,Bool.and_true]
    exact Qak rfl rfl rfl rfl (Qal rfl gs6 hvs6) rfl
   simp only [sN,s0,sS,a0,aS,aC]
   refine Qaf (Qac (Qae rfl rfl rfl (H4.mtext _) (QdO H4.text H4.itoa s'.st hst h7) ?_ (fun _ _ e=>e.elim)))
   rintro v h8 ⟨rfl,rfl⟩
   refine ⟨rfl,?_⟩
   simp only [sN,s0,sS,a0,aS,aC]
   refine Qaf (Qac (Qae rfl rfl rfl (H4.mpair _) (QeO H4.pair (pairD (failD ita n) (listD ita rep s'.told)) (textD ita s'.st) (by simp [pairD,cat]; omega) h8) ?_ (fun _ _ e=>e.elim)))
   rintro v h9 ⟨rfl,rfl⟩
   refine ⟨rfl,?_⟩
   simp only [sN,s0,sS,a0,aS,aC]
   refine Qaf (Qab rfl rfl rfl rfl (Qab rfl rfl rfl rfl (Qap (Qat (QaX ?_)))))
   simp only [sN,s0,sS,a0,aS,aC]
   obtain ⟨fr',e1,e2⟩:=hk (.tuple [sv (pairD (pairD (failD ita n) (listD ita rep s'.told)) (textD ita s'.st)),.int .i64 0]) _ ⟨by rw [e0,hd]; rfl,u04.trans u6⟩
   exact R_ret ⟨rfl,rfl,rfl,rfl⟩ hF rfl e1 e2
  | false =>
   have hd : den T env ⟨st,[]⟩ = (.ret n,s'):=by
    rcases hden with ⟨hd,_⟩ | ⟨_,hz⟩
    ·exact hd
    ·cases hz
   refine Qaw rfl (QaF (QaQ ?_))
   refine R_seq (QaY (Qaf (Qab rfl rfl rfl rfl (Qab rfl rfl rfl rfl (Qab rfl rfl rfl rfl (Qab rfl rfl rfl rfl (Qab rfl rfl rfl rfl (Qab rfl rfl rfl rfl (Qab rfl rfl (Qal rfl gs hvs) rfl (Qac ?_))))))))))
   simp only [sN,s0,sS,a0,aS,aC]
   refine Qae rfl rfl rfl (H4.mtext _) (QdO H4.text H4.itoa n hn h4) ?_ (fun _ _ e=>e.elim)
   rintro v h5 ⟨rfl,rfl⟩
   refine ⟨?_,?_⟩
   ·simp only [sN,s0,sS,a0,aS,aC,List.all_cons,List.all_nil,Bool.and_true]
    exact Qak rfl rfl rfl rfl (Qal rfl gs hvs) rfl
   simp only [sN,s0,sS,a0,aS,aC]
   refine Qaf (Qab rfl rfl (x_cat (a:=(3,5991247)) (b:=textD ita n) rfl rfl (by simp; omega)) rfl (Qab rfl rfl (x_cat (a:=cat (3,5991247) (textD ita n)) (b:=(1,93)) rfl rfl (by simp [cat]; omega)) rfl (Qac ?_)))
   simp only [sN,s0,sS,a0,aS,aC]
   refine Qae rfl rfl rfl (H4.mlist _) (Qk0 H4 m4 (by omega) hto) ?_ (fun _ _ e=>e.elim)
   rintro v h6 ⟨rfl,u6⟩
   obtain ⟨ls6,sps6,gs6,_,hvs6⟩:=(m4.up u6).stAt
   refine ⟨?_,?_⟩
   ·simp only [sN,s0,sS,a0,aS,aC,List.all_cons,List.all_nil,Bool.and_true]
    exact Qak rfl rfl rfl rfl (Qal rfl gs6 hvs6) rfl
   simp only [sN,s0,sS,a0,aS,aC]
   refine Qaf (Qac (Qae rfl rfl rfl (H4.mpair _) (QeO H4.pair (okD (textD ita n)) (listD ita rep s'.told) (by omega) h6) ?_ (fun _ _ e=>e.elim)))
   rintro v h7 ⟨rfl,rfl⟩
   refine ⟨?_,?_⟩
   ·simp only [sN,s0,sS,a0,aS,aC,List.all_cons,List.all_nil,Bool.and_true]
    exact Qak rfl rfl rfl rfl (Qal rfl gs6 hvs6) rfl
   simp only [sN,s0,sS,a0,aS,aC]
   refine Qaf (Qac (Qae rfl rfl rfl (H4.mtext _) (QdO H4.text H4.itoa s'.st hst h7) ?_ (fun _ _ e=>e.elim)))
   rintro v h8 ⟨rfl,rfl⟩
   refine ⟨rfl,?_⟩
   simp only [sN,s0,sS,a0,aS,aC]
   refine Qaf (Qac (Qae rfl rfl rfl (H4.mpair _) (QeO H4.pair (pairD (okD (textD ita n)) (listD ita rep s'.told)) (textD ita s'.st) (by simp [pairD,cat]; omega) h8) ?_ (fun _ _ e=>e.elim)))
   rintro v h9 ⟨rfl,rfl⟩
   refine ⟨rfl,?_⟩
   simp only [sN,s0,sS,a0,aS,aC]
   refine Qaf (Qab rfl rfl rfl rfl (Qab rfl rfl rfl rfl (Qap (Qat (QaX ?_)))))
   simp only [sN,s0,sS,a0,aS,aC]
   obtain ⟨fr',e1,e2⟩:=hk (.tuple [sv (pairD (pairD (okD (textD ita n)) (listD ita rep s'.told)) (textD ita s'.st)),.int .i64 0]) _ ⟨by rw [e0,hd]; rfl,u04.trans u6⟩
   exact R_ret ⟨rfl,rfl,rfl,rfl⟩ hF rfl e1 e2
end
end Go.Ab.L22
namespace Go.Ab.L22
open Go Go.Ab
theorem QfM {h : AH} {ev : AOpd → AV} {n : Nat} {a x : AOpd} {b o : Nat} {l vs : List AV} {sp : Option Nat} (ha : ev a = .ptr b o) (hx : ev x = .agg vs) (hv : vs.length = n) (ho : vs.all AV.one = true) (hg : h.get b = some (.cells l sp 0 [])) (hn : o + n ≤ l.length) :
  exec h ev (.store n a x) = some (.undef,h.put b (.cells (splice l o vs) sp 0 [])):=by
 subst hv
 simp only [exec,ha,hx,AV.cells,storeA,AH.store,hg]
 rw [if_pos ⟨rfl,trivial⟩,if_pos ⟨hn,ho⟩,if_neg (by omega)]
 rfl
section
variable {F : FuncId → Option AFun} {M : Memo}
/-- Model, for all terms. -/
def Qpe (F : FuncId → Option AFun) (M : Memo) (ita : Int → Str) (rep : Nat → Str) : Prop :=
 ∀ (T : LT),Short T → ∀ (st env : Int) (out : Bool) (rk rn rl : AV) (N : Nat) (h : AH),Up h h → N ≤ h.next → Rep N h T [rk,rn,rl] →
  Ctr F M QfA [.agg [.int .i64 st,.int .i64 env,.bool out,rk,rn,rl]] h (fun v h'=>v = .tuple [sv (Qbr ita rep st env out T).1,.int .i64 (Qbr ita rep st env out T).2] ∧ Up h h') (fun _ _=>False)
theorem QeK {ita : Int → Str} {rep : Nat → Str} (hF : F Qdi = some QcA) (hM : ∀ as,M QfA as = none) (H : Qpe F M ita rep) {T : LT} (hs : Short T) {st env : Int} {out : Bool} {k0 n0 l0 rk rn rl : AV} {N : Nat} {h : AH} (u : Up h h) (hN : N ≤ h.next) (hrep : Rep N h T [rk,rn,rl]) :
  Ctr F M Qdi [.agg [.int .i64 st,.int .i64 env,.bool out,k0,n0,l0],.agg [rk,rn,rl]] h (fun v h'=>v = .tuple [sv (Qbr ita rep st env out T).1,.bool ((Qbr ita rep st env out T).2 == 0)] ∧ Up h h') (fun _ _=>False):=by
 refine Ctr.intro hF fun caller cs G hk _=>?_
 simp only [QcA,fn14,List.length_cons,List.length_nil,Nat.reduceAdd,Nat.reduceSub,rZ,rS,pN,pC]
 refine R_seq (Qaa (R_op rfl rfl rfl ?_))
 simp only [sN,s0,sS,a0,aS,aC,AV.cells]
 obtain ⟨u1,u1',g1,n1⟩:=grown u (.cells [.int .i64 st,.int .i64 env,.bool out,k0,n0,l0] (some 55) 0 [])
 generalize h.alloc (.cells [.int .i64 st,.int .i64 env,.bool out,k0,n0,l0] (some 55) 0 []) = h1 at u1 u1' g1 n1 ⊢
 refine R_op rfl rfl rfl ?_
 simp only [sN,s0,sS,a0,aS,aC,AV.cells]
 obtain ⟨u2,u2',g2,n2⟩:=grown u1' (.cells [rk,rn,rl] (some 51) 0 [])
 have g12:=u2.keep h.next (by omega)
 rw [g1] at g12
 generalize h1.alloc (.cells [rk,rn,rl] (some 51) 0 []) = h2 at u2 u2' g2 n2 g12 ⊢
 refine R_op rfl rfl rfl (R_op rfl rfl rfl (R_nil ?_))
 simp only [sN,s0,sS,a0,aS,aC]
 refine R_seq (Qaa (R_op rfl rfl (Qbk rfl g2 (by simp)) (R_op rfl rfl rfl (R_op rfl rfl (QfM (vs:=[rk,rn,rl]) rfl rfl rfl (QcV hrep) g12 (by simp)) (R_nil ?_)))))
 simp only [sN,s0,sS,a0,aS,aC]
 have u3:=(u1.trans u2).put (b:=h.next) (Nat.le_refl _) (by omega) (.cells [.int .i64 st,.int .i64 env,.bool out,rk,rn,rl] (some 55) 0 [])
 have g3:=get_put h2 h.next (.cells [.int .i64 st,.int .i64 env,.bool out,rk,rn,rl] (some 55) 0 [])
 change Reach F M (Ctx.at _ _ _ (h2.put h.next (.cells [.int .i64 st,.int .i64 env,.bool out,rk,rn,rl] (some 55) 0 []))) G
 generalize h2.put h.next (.cells [.int .i64 st,.int .i64 env,.bool out,rk,rn,rl] (some 55) 0 []) = h3 at u3 g3 ⊢
 refine R_seq (Qaa (R_op rfl rfl (Qbk rfl g3 (by simp)) (Qau rfl rfl rfl (hM _) (H T hs st env out rk rn rl N h3 (Up.refl u3.wf) (Nat.le_trans hN u3.next) (hrep.low (u3.low hN))) ?_ (fun _ _ e=>e.elim))))
 rintro v h4 ⟨rfl,u4⟩
 refine R_op rfl rfl rfl (R_op rfl rfl rfl (R_op rfl rfl rfl (R_op rfl rfl rfl (R_op rfl rfl rfl (R_nil ?_)))))
 simp only [sN,s0,sS,a0,aS,aC]
 refine R_seq (Qaa (R_op rfl rfl rfl (R_op rfl rfl rfl (R_op rfl rfl rfl (R_op rfl rfl rfl (R_op rfl rfl rfl (R_nil ?_)))))))
 simp only [sN,s0,sS,a0,aS,aC]
 obtain ⟨fr',e1,e2⟩:=hk (.tuple [sv (Qbr ita rep st env out T).1,.bool ((Qbr ita rep st env out T).2 == 0)]) h4 ⟨rfl,u3.trans u4⟩
 exact R_ret ⟨rfl,rfl,rfl,rfl⟩ hF rfl e1 e2

def eqV (a b : Str × Int) : Bool:=if (a.2 == 0) = false then true else if (b.2 == 0) = false then true else (a.1.1 == b.1.1 && a.1.2 == b.1.2)
theorem Qro {ita : Int → Str} {rep : Nat → Str} (hF : F QiB = some Qd6) (hFv : F Qdi = some QcA) (hM : ∀ as,M QfA as = none) (hMv : ∀ as,M Qdi as = none) (H : Qpe F M ita rep) {T U : LT} (hs : Short T) (hsu : Short U) {st env : Int} {out : Bool} {k0 n0 l0 rk rn rl qk qn ql : AV} {N : Nat} {h : AH}
  (u : Up h h) (hN : N ≤ h.next) (hrep : Rep N h T [rk,rn,rl]) (hrep' : Rep N h U [qk,qn,ql]) :
  Ctr F M QiB [.agg [.int .i64 st,.int .i64 env,.bool out,k0,n0,l0],.agg [rk,rn,rl],.agg [qk,qn,ql]] h (fun v h'=>v = .bool (eqV (Qbr ita rep st env out T) (Qbr ita rep st env out U)) ∧ Up h h') (fun _ _=>False):=by
 refine Ctr.intro hF fun caller cs G hk _=>?_
 simp only [Qd6,fn11,List.length_cons,List.length_nil,Nat.reduceAdd,Nat.reduceSub,rZ,rS,pN,pC]
 refine R_seq (Qaa (R_op rfl rfl rfl ?_))
 simp only [sN,s0,sS,a0,aS,aC,AV.cells]
 obtain ⟨u1,u1',g1,n1⟩:=grown u (.cells [.int .i64 st,.int .i64 env,.bool out,k0,n0,l0] (some 55) 0 [])
 generalize h.alloc (.cells [.int .i64 st,.int .i64 env,.bool out,k0,n0,l0] (some 55) 0 []) = h1 at u1 u1' g1 n1 ⊢
 refine R_op rfl rfl rfl ?_
 simp only [sN,s0,sS,a0,aS,aC,AV.cells]
 obtain ⟨u2,u2',g2,n2⟩:=grown u1' (.cells [rk,rn,rl] (some 51) 0 [])
 have g12:=u2.keep h.next (by omega)
 rw [g1] at g12
 generalize h1.alloc (.cells [rk,rn,rl] (some 51) 0 []) = h2 at u2 u2' g2 n2 g12 ⊢
 refine R_op rfl rfl rfl ?_
 simp only [sN,s0,sS,a0,aS,aC,AV.cells]
 obtain ⟨u3,u3',g3,n3⟩:=grown u2' (.cells [qk,qn,ql] (some 51) 0 [])
 have g13:=u3.keep h.next (by omega)
 rw [g12] at g13
 have g23:=u3.keep h1.next (by omega)
 rw [g2] at g23
 generalize h2.alloc (.cells [qk,qn,ql] (some 51) 0 []) = h3 at u3 u3' g3 n3 g13 g23 ⊢
 refine R_op rfl rfl rfl (R_nil ?_)
 simp only [sN,s0,sS,a0,aS,aC]
 have u03:=(u1.trans u2).trans u3
 refine R_seq (Qaa (R_op rfl rfl (Qbk rfl g13 (by simp)) (R_op rfl rfl (Qbk rfl g23 (by simp)) (Qau rfl rfl rfl (hMv _) (QeK hFv hM H hs u3' (Nat.le_trans hN u03.next) (hrep.low (u03.low hN))) ?_ (fun _ _ e=>e.elim)))))
 rintro v h4 ⟨rfl,u4⟩
 refine R_op rfl rfl rfl (R_op rfl rfl rfl (R_op rfl rfl rfl (R_op rfl rfl rfl (R_op rfl rfl rfl (R_nil ?_)))))
 simp only [sN,s0,sS,a0,aS,aC]
 have u04:=u03.trans u4
 have g14:=u4.keep h.next (by omega)
 rw [g13] at g14
 have g34:=u4.keep h2.next (by omega)
 rw [g3] at g34
 refine R_seq (Qaa (R_op rfl rfl (Qbk rfl g14 (by simp)) (R_op rfl rfl (Qbk rfl g34 (by simp)) (Qau rfl rfl rfl (hMv _) (QeK hFv hM H hsu (Up.refl u4.wf) (Nat.le_trans hN u04.next) (hrep'.low (u04.low hN))) ?_ (fun _ _ e=>e.elim)))))
 rintro v h5 ⟨rfl,u5⟩
 refine R_op rfl rfl rfl (R_op rfl rfl rfl (R_op rfl rfl rfl (R_op rfl rfl rfl (R_op rfl rfl rfl (R_nil ?_)))))
 simp only [sN,s0,sS,a0,aS,aC]
 refine R_seq (Qaa (R_op rfl rfl rfl (R_op rfl rfl rfl (R_op rfl rfl rfl ?_))))
 simp only [sN,s0,sS,a0,aS,aC]
 generalize Qbr ita rep st env out T = a at hk ⊢
 generalize Qbr ita rep st env out U = b at hk ⊢
 cases ea : (a.2 == 0) with
 | false =>
  refine R_not rfl (R_not rfl (R_op rfl rfl rfl (R_op rfl rfl rfl (R_not rfl (R_not rfl (R_not rfl (R_op rfl rfl rfl (R_op rfl rfl rfl (R_nil ?_)))))))))
  simp only [sN,s0,sS,a0,aS,aC]
  obtain ⟨fr',e1,e2⟩:=hk (.bool true) h5 ⟨by unfold eqV; rw [if_pos ea],u04.trans u5⟩
  exact R_ret ⟨rfl,rfl,rfl,rfl⟩ hF rfl e1 e2
 | true =>
  refine R_op rfl rfl rfl (R_op rfl rfl rfl ?_)
  simp only [sN,s0,sS,a0,aS,aC]
  cases eb : (b.2 == 0) with
  | false =>
   refine R_op rfl rfl rfl (R_op rfl rfl rfl (R_not rfl (R_not rfl (R_not rfl (R_op rfl rfl rfl (R_op rfl rfl rfl (R_nil ?_)))))))
   simp only [sN,s0,sS,a0,aS,aC]
   obtain ⟨fr',e1,e2⟩:=hk (.bool true) h5 ⟨by unfold eqV; rw [ea,eb]; rfl,u04.trans u5⟩
   exact R_ret ⟨rfl,rfl,rfl,rfl⟩ hF rfl e1 e2
  | true =>
   refine R_op rfl rfl rfl (R_op rfl rfl rfl (R_op rfl rfl rfl (R_op rfl rfl rfl (R_op (v:=.bool (a.1.1 == b.1.1 && a.1.2 == b.1.2)) (h1:=h5) rfl rfl rfl (R_op rfl rfl rfl (R_op rfl rfl rfl (R_nil ?_)))))))
   simp only [sN,s0,sS,a0,aS,aC]
   obtain ⟨fr',e1,e2⟩:=hk (.bool (a.1.1 == b.1.1 && a.1.2 == b.1.2)) h5 ⟨by unfold eqV; rw [ea,eb]; rfl,u04.trans u5⟩
   exact R_ret ⟨rfl,rfl,rfl,rfl⟩ hF rfl e1 e2

theorem Qba (hF : F i_num = some Qhc) {n : Int} {h : AH} (u : Up h h) : Ctr F M i_num [.int .i64 n] h (fun v h'=>v = .agg [.int .i64 0,.int .i64 n,.nilslice] ∧ Up h h') (fun _ _=>False):=by
 refine Ctr.intro hF fun caller cs G hk _=>?_
 simp only [Qhc,fn7,List.length_cons,List.length_nil,Nat.reduceAdd,Nat.reduceSub,rZ,rS,pN,pC]
 refine R_seq (Qaa (R_op rfl rfl rfl (R_nil ?_)))
 simp only [sN,s0,sS,a0,aS,aC]
 obtain ⟨u1,u1',g1,n1⟩:=grown u (.cells [.int .i64 0,.int .i64 0,.nilslice] (some 51) 0 [])
 generalize h.alloc (.cells [.int .i64 0,.int .i64 0,.nilslice] (some 51) 0 []) = h1 at u1 u1' g1 n1 ⊢
 refine R_seq (Qaa (R_op rfl rfl rfl (R_op (v:=.agg [.int .i64 0,.int .i64 n,.nilslice]) (h1:=h1) rfl rfl rfl (R_op rfl rfl (QfM (vs:=[.int .i64 0,.int .i64 n,.nilslice]) rfl rfl rfl rfl g1 (by simp)) (R_nil ?_)))))
 simp only [sN,s0,sS,a0,aS,aC]
 have u2:=u1.put (b:=h.next) (Nat.le_refl _) (by omega) (.cells [.int .i64 0,.int .i64 n,.nilslice] (some 51) 0 [])
 have g2:=get_put h1 h.next (.cells [.int .i64 0,.int .i64 n,.nilslice] (some 51) 0 [])
 change Reach F M (Ctx.at _ _ _ (h1.put h.next (.cells [.int .i64 0,.int .i64 n,.nilslice] (some 51) 0 []))) G
 generalize h1.put h.next (.cells [.int .i64 0,.int .i64 n,.nilslice] (some 51) 0 []) = h2 at u2 g2 ⊢
 obtain ⟨fr',e1,e2⟩:=hk (.agg [.int .i64 0,.int .i64 n,.nilslice]) h2 ⟨rfl,u2⟩
 refine R_ret ⟨rfl,rfl,rfl,rfl⟩ hF ?_ e1 e2
 simp [Qhc,fn7,QaE,QbU,loadA,AH.read,AH.cellsAt,g2]
theorem Qhw (hF : F QoL = some Qez) {k : Int} {h : AH} (u : Up h h) : Ctr F M QoL [.int .i64 k] h (fun v h'=>v = .agg [.int .i64 k,.int .i64 0,.nilslice] ∧ Up h h') (fun _ _=>False):=by
 refine Ctr.intro hF fun caller cs G hk _=>?_
 simp only [Qez,fn10,List.length_cons,List.length_nil,Nat.reduceAdd,Nat.reduceSub,rZ,rS,pN,pC]
 refine R_seq (Qaa (R_op rfl rfl rfl (R_nil ?_)))
 simp only [sN,s0,sS,a0,aS,aC]
 obtain ⟨u1,u1',g1,n1⟩:=grown u (.cells [.int .i64 0,.int .i64 0,.nilslice] (some 51) 0 [])
 generalize h.alloc (.cells [.int .i64 0,.int .i64 0,.nilslice] (some 51) 0 []) = h1 at u1 u1' g1 n1 ⊢
 refine R_seq (Qaa (R_op rfl rfl rfl (R_op (v:=.agg [.int .i64 k,.int .i64 0,.nilslice]) (h1:=h1) rfl rfl rfl (R_op rfl rfl (QfM (vs:=[.int .i64 k,.int .i64 0,.nilslice]) rfl rfl rfl rfl g1 (by simp)) (R_nil ?_)))))
 simp only [sN,s0,sS,a0,aS,aC]
 have u2:=u1.put (b:=h.next) (Nat.le_refl _) (by omega) (.cells [.int .i64 k,.int .i64 0,.nilslice] (some 51) 0 [])
 have g2:=get_put h1 h.next (.cells [.int .i64 k,.int .i64 0,.nilslice] (some 51) 0 [])
 change Reach F M (Ctx.at _ _ _ (h1.put h.next (.cells [.int .i64 k,.int .i64 0,.nilslice] (some 51) 0 []))) G
 generalize h1.put h.next (.cells [.int .i64 k,.int .i64 0,.nilslice] (some 51) 0 []) = h2 at u2 g2 ⊢
 obtain ⟨fr',e1,e2⟩:=hk (.agg [.int .i64 k,.int .i64 0,.nilslice]) h2 ⟨rfl,u2⟩
 refine R_ret ⟨rfl,rfl,rfl,rfl⟩ hF ?_ e1 e2
 simp [Qez,fn10,QaE,QbU,loadA,AH.read,AH.cellsAt,g2]
theorem Qan (hF : F QoJ = some Qey) {k : Int} {lv : AV} (hk0 : lv.known = true) (hc : lv.cells = [lv]) (ho : lv.one = true) {h : AH} (u : Up h h) : Ctr F M QoJ [.int .i64 k,lv] h (fun v h'=>v = .agg [.int .i64 k,.int .i64 0,lv] ∧ Up h h') (fun _ _=>False):=by
 refine Ctr.intro hF fun caller cs G hk _=>?_
 simp only [Qey,fn9,List.length_cons,List.length_nil,Nat.reduceAdd,Nat.reduceSub,rZ,rS,pN,pC]
 refine R_seq (Qaa (R_op rfl rfl rfl (R_nil ?_)))
 simp only [sN,s0,sS,a0,aS,aC]
 obtain ⟨u1,u1',g1,n1⟩:=grown u (.cells [.int .i64 0,.int .i64 0,.nilslice] (some 51) 0 [])
 generalize h.alloc (.cells [.int .i64 0,.int .i64 0,.nilslice] (some 51) 0 []) = h1 at u1 u1' g1 n1 ⊢
 refine R_seq (Qaa (R_op rfl rfl rfl (R_op rfl rfl rfl (R_op (v:=.agg [.int .i64 k,.int .i64 0,lv]) (h1:=h1) rfl rfl ?_ (R_op rfl rfl (QfM (vs:=[.int .i64 k,.int .i64 0,lv]) rfl rfl rfl (by simp [ho]; exact ⟨rfl,rfl⟩) g1 (by simp)) (R_nil ?_))))))
 ·have i1 : (AV.int .i64 k).known = true:=rfl
  have i2 : (AV.int .i64 k).cells = [.int .i64 k]:=rfl
  simp [exec,fillA,splice,a0,aS,s0,sS,i1,i2,hk0,hc]
 simp only [sN,s0,sS,a0,aS,aC]
 have u2:=u1.put (b:=h.next) (Nat.le_refl _) (by omega) (.cells [.int .i64 k,.int .i64 0,lv] (some 51) 0 [])
 have g2:=get_put h1 h.next (.cells [.int .i64 k,.int .i64 0,lv] (some 51) 0 [])
 change Reach F M (Ctx.at _ _ _ (h1.put h.next (.cells [.int .i64 k,.int .i64 0,lv] (some 51) 0 []))) G
 generalize h1.put h.next (.cells [.int .i64 k,.int .i64 0,lv] (some 51) 0 []) = h2 at u2 g2 ⊢
 obtain ⟨fr',e1,e2⟩:=hk (.agg [.int .i64 k,.int .i64 0,lv]) h2 ⟨rfl,u2⟩
 refine R_ret ⟨rfl,rfl,rfl,rfl⟩ hF ?_ e1 e2
 simp [Qey,fn9,QaE,QbU,loadA,AH.read,AH.cellsAt,g2]
end
end Go.Ab.L22
namespace Go.Ab.L22
open Go Go.Ab
/-! The plain laws. -/
def nm (a : Int) : LT:=.mk 0 a []
def lf (k : Int) : LT:=.mk k 0 []
def tm (k : Int) (l : List LT) : LT:=.mk k 0 l
theorem eqV_refl (a : Str × Int) : eqV a a = true:=by
 unfold eqV
 split
 ·rfl
 ·simp
theorem eqV_of {ita : Int → Str} {rep : Nat → Str} {st env : Int} {out : Bool} {T U : LT} (h : den T env ⟨st,[]⟩ = den U env ⟨st,[]⟩) : eqV (Qbr ita rep st env out T) (Qbr ita rep st env out U) = true:=by
 unfold Qbr
 by_cases a : (Qbz st env T ≠ 0)
 ·rw [if_pos a]
  unfold eqV
  have : (Qbz st env T == 0) = false:=by simpa using a
  rw [if_pos this]
 rw [if_neg a]
 by_cases b : (Qbz st env U ≠ 0)
 ·rw [if_pos b]
  unfold eqV
  have : (Qbz st env U == 0) = false:=by simpa using b
  rw [if_neg (by simp),if_pos this]
 rw [if_neg b,h]
 exact eqV_refl _
theorem Qe4 (A B : LT) (env : Int) (s : Sg) : den (tm 10 [A,B]) env s = bindD (den A env s) fun _ s=>den B env s:=by simp [tm,den,dens,denK]
theorem Qly (A : LT) (env : Int) (s : Sg) : den (tm 2 [A]) env s = bindD (den A env s) fun a s=>(.ret a,{ s with st:=a }):=by simp [tm,den,dens,denK]
theorem Qff (a : Int) (env : Int) (s : Sg) : den (nm a) env s = (.ret a,s):=by simp [nm,den,dens,denK]
theorem den_get (env : Int) (s : Sg) : den (lf 1) env s = (.ret s.st,s):=by simp [lf,den,dens,denK]
theorem QnU (env : Int) (s : Sg) : den (lf 3) env s = (.ret env,s):=by simp [lf,den,dens,denK]
theorem QeD (A : LT) (env : Int) (s : Sg) : den (tm 5 [A]) env s = bindD (den A env s) fun a s=>(.thr a,s):=by simp [tm,den,dens,denK]
theorem QnT (A B : LT) (env : Int) (s : Sg) : den (tm 6 [A,B]) env s = QdI (den A env s) fun a s=>bindD (den B env s) fun b s=>(.ret (addS a b),s):=by simp [tm,den,dens,denK]
theorem den_safe (A B : LT) (env : Int) (s : Sg) : den (tm 7 [A,B]) env s = QdI (den A env s) fun a s'=>bindD (den B env { s' with st:=s.st }) fun b s=>(.ret (addS a b),s):=by simp [tm,den,dens,denK]
theorem Qjj (A B : LT) (env : Int) (s : Sg) : den (tm 8 [A,B]) env s = bindD (den A env s) fun a s=>den B a s:=by simp [tm,den,dens,denK]
theorem Qlz (A B : LT) (env : Int) (s : Sg) : den (tm 9 [A,B]) env s = bindD (den A env s) fun a s=>bindD (den B env s) fun b s=>(.ret (addS a b),s):=by simp [tm,den,dens,denK]
theorem Qcv (a : Int) (s : Sg) (f : Int → Sg → Out × Sg) : bindD (.ret a,s) f = f a s:=rfl
theorem Qpa (a : Int) (s : Sg) (f : Int → Sg → Out × Sg) : bindD (.thr a,s) f = (.thr a,s):=rfl
theorem Qjt (a : Int) (s : Sg) (f : Int → Sg → Out × Sg) : QdI (.thr a,s) f = f a s:=rfl
theorem QrD (r : Out × Sg) (f g : Int → Sg → Out × Sg) : bindD (bindD r f) g = bindD r fun a s=>bindD (f a s) g:=by
 obtain ⟨o,s⟩:=r
 cases o <;> rfl
section
variable (T : LT) (a b env : Int) (s : Sg)

theorem state1 : den (tm 10 [T,tm 10 [tm 2 [nm a],lf 1]]) env s = den (tm 10 [T,tm 10 [tm 2 [nm a],nm a]]) env s:=by
 simp only [Qe4,Qly,Qff,den_get,Qcv]
theorem state2 : den (tm 10 [tm 2 [nm a],tm 10 [tm 2 [nm b],T]]) env s = den (tm 10 [tm 2 [nm b],T]) env s:=by
 simp only [Qe4,Qly,Qff,Qcv]
theorem state3 : den (tm 10 [tm 7 [tm 10 [tm 2 [nm a],tm 5 [nm b]],nm 0],T]) env s = den (tm 10 [nm b,T]) env s:=by
 simp only [Qe4,Qly,Qff,QeD,den_safe,Qcv,Qjt]
theorem state4 : den (tm 10 [tm 6 [tm 10 [tm 2 [nm a],tm 5 [nm b]],nm 0],T]) env s = den (tm 10 [tm 2 [nm a],T]) env s:=by
 simp only [Qe4,Qly,Qff,QeD,QnT,Qcv,Qjt]

theorem reader1 : den (tm 8 [lf 3,T]) env s = den T env s:=by simp only [Qjj,QnU,Qcv]
theorem reader2 : den (tm 10 [tm 8 [nm a,lf 3],T]) env s = den T env s:=by simp only [Qe4,Qjj,Qff,QnU,Qcv]
theorem reader3 : den (tm 10 [T,lf 3]) env s = den (tm 10 [T,nm env]) env s:=by simp only [Qe4,QnU,Qff]

def sumT (T : LT) : Nat → LT
 | 0=>nm 0
 | i + 1=>tm 9 [sumT T i,tm 8 [nm ((i + 1 : Nat) : Int),T]]
theorem Qgh (n : Nat) (hn : n ≤ 4) : den (.mk 12 n [T]) env s = den (sumT T n) env s:=by
 have h12 : den (.mk 12 n [T]) env s = eachD (den T) n 0 0 s:=by simp [den,dens,denK]
 rw [h12]
 have w1 : IntKind.i64.wrap (0 + 1) = 1:=rfl
 have w2 : IntKind.i64.wrap (1 + 1) = 2:=rfl
 have w3 : IntKind.i64.wrap (2 + 1) = 3:=rfl
 have w4 : IntKind.i64.wrap (3 + 1) = 4:=rfl
 have : n = 0 ∨ n = 1 ∨ n = 2 ∨ n = 3 ∨ n = 4:=by omega
 rcases this with rfl | rfl | rfl | rfl | rfl <;>
  simp only [sumT,eachD,Qlz,Qjj,Qff,Qcv,QrD,w1,w2,w3,w4] <;> rfl

theorem Qqj : den (tm 6 [tm 5 [nm a],T]) env s = den (tm 9 [nm a,T]) env s:=by simp only [QnT,QeD,Qff,Qcv,Qjt,Qlz]
theorem Qqi : den (tm 5 [tm 5 [nm a]]) env s = den (tm 5 [nm a]) env s:=by simp only [QeD,Qff,Qcv,Qpa]
theorem Qqh : den (tm 9 [tm 5 [nm a],T]) env s = den (tm 5 [nm a]) env s:=by simp only [Qlz,QeD,Qff,Qcv,Qpa]
end
end Go.Ab.L22
namespace Go.Ab.L22
open Go Go.Ab
/-! Terms that a law builds: their rows. -/
theorem Qas (N : Nat) (h : AH) (k n : Int) : Rep N h (.mk k n []) [.int .i64 k,.int .i64 n,.nilslice] :=
 .mk k n [] .nilslice (fun _=>.undef) (fun _=>[]) rfl (fun i hi=>absurd hi (by simp)) (fun i hi=>absurd hi (by simp))
theorem QaA {N : Nat} {h : AH} {k n : Int} {A B : LT} {x0 x1 x2 y0 y1 y2 : AV} {b : Nat} {sp : Option Nat} (hb : b < N) (hg : h.get b = some (.cells [x0,x1,x2,y0,y1,y2] sp 0 [])) (hA : Rep N h A [x0,x1,x2]) (hB : Rep N h B [y0,y1,y2]) :
  Rep N h (.mk k n [A,B]) [.int .i64 k,.int .i64 n,.slice b 0 2 2]:=by
 refine .mk k n [A,B] (.slice b 0 2 2) (fun i=>.ptr b (0 + i * 3)) (fun i=>if i = 0 then [x0,x1,x2] else [y0,y1,y2]) rfl (fun i hi=>?_) (fun i hi=>?_)
 ·have h2 : i < 2:=by simpa using hi
  have : i = 0 ∨ i = 1:=by omega
  rcases this with rfl | rfl <;> exact ⟨rfl,hb,by simp [loadA,AH.read,AH.cellsAt,hg]⟩
 ·have h2 : i < 2:=by simpa using hi
  have : i = 0 ∨ i = 1:=by omega
  rcases this with rfl | rfl
  ·exact hA
  ·exact hB
theorem QaJ {N : Nat} {h : AH} {k n : Int} {A : LT} {x0 x1 x2 : AV} {b : Nat} {sp : Option Nat} (hb : b < N) (hg : h.get b = some (.cells [x0,x1,x2] sp 0 [])) (hA : Rep N h A [x0,x1,x2]) : Rep N h (.mk k n [A]) [.int .i64 k,.int .i64 n,.slice b 0 1 1]:=by
 refine .mk k n [A] (.slice b 0 1 1) (fun i=>.ptr b (0 + i * 3)) (fun _=>[x0,x1,x2]) rfl (fun i hi=>?_) (fun i hi=>?_)
 ·have h2 : i < 1:=by simpa using hi
  have : i = 0:=by omega
  subst this
  exact ⟨rfl,hb,by simp [loadA,AH.read,AH.cellsAt,hg]⟩
 ·have h2 : i < 1:=by simpa using hi
  have : i = 0:=by omega
  subst this
  exact hA
theorem x_two {h : AH} {ev : AOpd → AV} {a b : AOpd} {x0 x1 x2 y0 y1 y2 : AV} (ha : ev a = .agg [x0,x1,x2]) (hb : ev b = .agg [y0,y1,y2]) :
  exec h ev (.buildSlice 2 [.int .i64 0,.int .i64 0,.nilslice,.int .i64 0,.int .i64 0,.nilslice] [(0,3,a),(3,3,b)]) = some (.slice h.next 0 2 2,h.alloc (.cells [x0,x1,x2,y0,y1,y2] none 0 [])):=by
 simp [exec,ha,hb,fillA,splice,AV.known,AV.cells]
theorem QbG {h : AH} {ev : AOpd → AV} {a : AOpd} {x0 x1 x2 : AV} (ha : ev a = .agg [x0,x1,x2]) :
  exec h ev (.buildSlice 1 [.int .i64 0,.int .i64 0,.nilslice] [(0,3,a)]) = some (.slice h.next 0 1 1,h.alloc (.cells [x0,x1,x2] none 0 [])):=by
 simp [exec,ha,fillA,splice,AV.known,AV.cells]
theorem Qam (k n : Int) : Short (.mk k n []):=⟨by simp,trivial⟩
theorem Qao {k n : Int} {A B : LT} (hA : Short A) (hB : Short B) : Short (.mk k n [A,B]):=⟨by simp,hA,hB,trivial⟩
theorem Qaz {k n : Int} {A : LT} (hA : Short A) : Short (.mk k n [A]):=⟨by simp,hA,trivial⟩

theorem Qf0 {F : FuncId → Option AFun} {M : Memo} {ita : Int → Str} {rep : Nat → Str} (hF : F QfA = some Qd8) (H2 : Fns2 F M) (H4 : Fns4 F M ita rep) (hMc : ∀ as,M QbK as = none) (hc : F QbK = some fn_caught) (hc1 : F QiC = some QbR) (hMe : ∀ as,M QaT as = none)
  (hev : ∀ T,Right T → EvalC F M QaT T) : Qpe F M ita rep :=
 fun _ hs _ _ _ _ _ _ _ _ u hN hrep=>QqT hF H2 H4 hMc hs (fun hr=>Qkx hc hc1 hMe (hev _ hr)) u hN hrep
end Go.Ab.L22
namespace Go.Ab.L22
open Go Go.Ab
/-! What a walk knows of the heap: a list of objects, the youngest first. -/
def Objs (N : Nat) (h : AH) : List (Nat × AO) → Prop
 | []=>True
 | x :: l=>h.get x.1 = some x.2 ∧ x.1 < h.next ∧ N ≤ x.1 ∧ (∀ p ∈ l,p.1 < x.1) ∧ Objs N h l
section
variable {N : Nat} {h h' : AH}
theorem Objs.at : ∀ {l : List (Nat × AO)} (i : Nat) {b : Nat} {o : AO},Objs N h l → l[i]? = some (b,o) → h.get b = some o ∧ b < h.next ∧ N ≤ b
 | [],_,_,_,_,e=>by simp at e
 | x :: l,0,b,o,H,e=>by
  obtain ⟨h1,h2,h3,_⟩:=H
  simp at e
  subst e
  exact ⟨h1,h2,h3⟩
 | x :: l,i + 1,b,o,H,e=>Objs.at i H.2.2.2.2 (by simpa using e)
theorem Objs.lt : ∀ {l : List (Nat × AO)},Objs N h l → ∀ p ∈ l,p.1 < h.next
 | [],_,p,hp=>by cases hp
 | x :: l,H,p,hp=>by
  rcases List.mem_cons.1 hp with rfl | hp
  ·exact H.2.1
  ·exact Objs.lt H.2.2.2.2 p hp
theorem Objs.up (u : Up h h') : ∀ {l : List (Nat × AO)},Objs N h l → Objs N h' l
 | [],_=>trivial
 | x :: l,H=>⟨by rw [u.keep _ H.2.1]; exact H.1,Nat.lt_of_lt_of_le H.2.1 u.next,H.2.2.1,H.2.2.2.1,Objs.up u H.2.2.2.2⟩
theorem Objs.put_ne {b : Nat} (o' : AO) : ∀ {l : List (Nat × AO)},(∀ p ∈ l,p.1 ≠ b) → Objs N h l → Objs N (h.put b o') l
 | [],_,_=>trivial
 | x :: l,hne,H=>⟨by rw [Qaj _ _ (hne x (List.mem_cons_self ..))]; exact H.1,H.2.1,H.2.2.1,H.2.2.2.1,Objs.put_ne o' (fun p hp=>hne p (List.mem_cons_of_mem _ hp)) H.2.2.2.2⟩
theorem Objs.put {b : Nat} {o : AO} (o' : AO) : ∀ {l : List (Nat × AO)} (i : Nat),Objs N h l → l[i]? = some (b,o) → Objs N (h.put b o') (l.set i (b,o'))
 | [],_,_,e=>by simp at e
 | x :: l,0,H,e=>by
  obtain ⟨h1,h2,h3,h4,h5⟩:=H
  simp at e
  subst e
  exact ⟨get_put h b o',h2,h3,h4,Objs.put_ne o' (fun p hp=>Nat.ne_of_lt (h4 p hp)) h5⟩
 | x :: l,i + 1,H,e=>by
  obtain ⟨h1,h2,h3,h4,h5⟩:=H
  have e' : l[i]? = some (b,o):=by simpa using e
  have hb : b < x.1:=h4 _ (List.mem_of_getElem? e')
  refine ⟨by rw [Qaj _ _ (by omega)]; exact h1,h2,h3,fun p hp=>?_,Objs.put o' i h5 e'⟩
  rcases List.mem_or_eq_of_mem_set hp with hp | rfl
  ·exact h4 p hp
  ·exact hb
theorem Objs.app {N' : Nat} (hN : N ≤ N') {l : List (Nat × AO)} (hl : ∀ p ∈ l,p.1 < N') (H : Objs N h l) : ∀ {l' : List (Nat × AO)},Objs N' h l' → Objs N h (l' ++ l)
 | [],_=>H
 | x :: l',K=>⟨K.1,K.2.1,Nat.le_trans hN K.2.2.1,fun p hp=>by
   rcases List.mem_append.1 hp with hp | hp
   ·exact K.2.2.2.1 p hp
   ·exact Nat.lt_of_lt_of_le (hl p hp) K.2.2.1,Objs.app hN hl H K.2.2.2.2⟩
theorem Objs.sub {l l' : List (Nat × AO)} (s : l'.Sublist l) (H : Objs N h l) : Objs N h l':=by
 induction s with
 | slnil=>trivial
 | cons x _ ih=>exact ih H.2.2.2.2
 | cons_cons x s ih=>exact ⟨H.1,H.2.1,H.2.2.1,fun p hp=>H.2.2.2.1 p (s.subset hp),ih H.2.2.2.2⟩
end
structure Wk (h0 h : AH) (l : List (Nat × AO)) : Prop where
 up : Up h0 h
 objs : Objs h0.next h l
section
variable {h0 h h' : AH} {l l' : List (Nat × AO)}
theorem Wk.start (u : Up h h) : Wk h h []:=⟨u,trivial⟩
theorem Wk.self (w : Wk h0 h l) : Up h h:=.refl w.up.wf
theorem Wk.alloc (w : Wk h0 h l) (o : AO) : Wk h0 (h.alloc o) ((h.next,o) :: l) :=
 ⟨w.up.alloc o,QaV h o,Nat.lt_succ_self _,w.up.next,w.objs.lt,w.objs.up (grown w.self o).1⟩
theorem Wk.put (w : Wk h0 h l) (i : Nat) {b : Nat} {o : AO} (hi : l[i]? = some (b,o)) (o' : AO) : Wk h0 (h.put b o') (l.set i (b,o')) :=
 ⟨w.up.put (w.objs.at i hi).2.2 (w.objs.at i hi).2.1 o',w.objs.put o' i hi⟩
theorem Wk.call (w : Wk h0 h l) (u : Up h h') : Wk h0 h' l:=⟨w.up.trans u,w.objs.up u⟩
theorem Wk.join (w : Wk h0 h l) (v : Wk h h' l') : Wk h0 h' (l' ++ l):=⟨w.up.trans v.up,Objs.app w.up.next w.objs.lt (w.objs.up v.up) v.objs⟩
theorem Wk.get (w : Wk h0 h l) (i : Nat) {b : Nat} {o : AO} (hi : l[i]? = some (b,o)) : h.get b = some o:=(w.objs.at i hi).1
theorem Wk.lt (w : Wk h0 h l) (i : Nat) {b : Nat} {o : AO} (hi : l[i]? = some (b,o)) : b < h.next:=(w.objs.at i hi).2.1
theorem Wk.sub (w : Wk h0 h l) (s : l'.Sublist l) : Wk h0 h l':=⟨w.up,w.objs.sub s⟩
theorem Wk.rep {N : Nat} {T : LT} {row : List AV} (w : Wk h0 h l) (hN : N ≤ h0.next) (r : Rep N h0 T row) : Rep h.next h T row:=(r.low (w.up.low hN)).mono (Nat.le_trans hN w.up.next)
end
theorem Qad {h : AH} {ev : AOpd → AV} {a : AOpd} {n b o : Nat} {l r : List AV} {sp : Option Nat} {pre : Nat} {anc : List Nat} (ha : ev a = .ptr b o) (hg : h.get b = some (.cells l sp pre anc)) (hn : o + n ≤ l.length) (hr : (l.drop o).take n = r) :
  exec h ev (.loadN n a) = some (.agg r,h):=by
 subst hr
 exact Qbk ha hg hn
theorem Qar {h : AH} {ev : AOpd → AV} {n : Nat} {a x : AOpd} {b o : Nat} {l vs l' : List AV} {sp : Option Nat} (ha : ev a = .ptr b o) (hx : ev x = .agg vs) (hv : vs.length = n) (ho : vs.all AV.one = true) (hg : h.get b = some (.cells l sp 0 [])) (hn : o + n ≤ l.length)
  (hs : splice l o vs = l') : exec h ev (.store n a x) = some (.undef,h.put b (.cells l' sp 0 [])):=by
 subst hs
 exact QfM ha hx hv ho hg hn
theorem Qdw {h : AH} {ev : AOpd → AV} {a x : AOpd} {b o : Nat} {l l' : List AV} {sp : Option Nat} {v : AV} (ha : ev a = .ptr b o) (hx : ev x = v) (hk : v.known = true) (hc : v.cells = [v]) (ho : v.one = true) (hg : h.get b = some (.cells l sp 0 [])) (hn : o + 1 ≤ l.length)
  (hs : splice l o [v] = l') : exec h ev (.store 1 a x) = some (.undef,h.put b (.cells l' sp 0 [])):=by
 subst hs
 exact Qbd ha hx hk hc ho hg hn
theorem Qgo {t : List AV} {h : AH} {o : AOper} (hw : Qav t o = some false) : again t h o = true:=by
 unfold again
 rw [hw]

structure Law (F : FuncId → Option AFun) (M : Memo) (ita : Int → Str) (rep : Nat → Str) : Prop where
 num : F i_num = some Qhc
 leaf : F QoL = some Qez
 term : F QoJ = some Qey
 after : F QnD = some Qd7
 equal : F QiB = some Qd6
 valued : F Qdi = some QcA
 mnum : ∀ as,M i_num as = none
 mleaf : ∀ as,M QoL as = none
 mterm : ∀ as,M QoJ as = none
 mafter : ∀ as,M QnD as = none
 mequal : ∀ as,M QiB as = none
 mvalued : ∀ as,M Qdi as = none
 mmodel : ∀ as,M QfA as = none
 model : Qpe F M ita rep
 awake : ∃ c,M 12 [] = some c ∧ ∀ h,c h = some (.bool true,h)

def Done (F : FuncId → Option AFun) (f : FuncId) (v : AV) (s : AS) : Prop :=
 s.cs = [] ∧ s.fr.mode = .returning ∧ s.fr.defers = [] ∧ s.fr.kind = .normal ∧ s.fr.fn = f ∧ ∃ fn,F f = some fn ∧ QaE s.h s.fr.tmps fn.results = some v
def Top (F : FuncId → Option AFun) (M : Memo) (f : FuncId) (args : List AV) (h : AH) (v : AV) : Prop:=∃ af,AF.enter F f args .normal = some af ∧ Reach F M ⟨af,[],h⟩ (Done F f v)
section
variable {F : FuncId → Option AFun} {M : Memo} {G : AS → Prop} {x : Ctx} {t : List AV} {k : List AItem} {h : AH}
theorem Top.intro {f : FuncId} {args : List AV} {v : AV} {fn : AFun} (hf : F f = some fn) (hr : Reach F M ((⟨f,[],.normal,none,[]⟩ : Ctx).at (args ++ List.replicate (fn.ntmps - args.length) .undef) [.code fn.body] h) (Done F f v)) : Top F M f args h v:=by
 refine ⟨_,?_,hr⟩
 unfold AF.enter
 rw [hf]
 rfl
theorem R_top {fn : AFun} {v : AV} (hx : x.defers = [] ∧ x.kind = .normal ∧ x.roundOf = none ∧ x.cs = []) (hf : F x.fn = some fn) (hv : QaE h t fn.results = some v) : Reach F M (x.at t (.code .ret :: k) h) (Done F x.fn v):=by
 obtain ⟨fn',d,kd,ro,c⟩:=x
 obtain ⟨rfl,rfl,rfl,rfl⟩:=hx
 exact .step (s1:=⟨{ fn:=fn',tmps:=t,todo:=.code .ret :: k,defers:=[],mode:=.returning,kind:=.normal,roundOf:=none },[],h⟩) rfl (.done ⟨rfl,rfl,rfl,rfl,rfl,fn,hf,hv⟩)
theorem QkF {o : AOper} {ag : List AOper} {mask : List Nat} {plan : List Stage} {f : AOpd} {args : List AOpd} {fid : FuncId} {as : List AV} {c : AH → Option (AV × AH)} {v : AV} {h' : AH} (hw : Qav t o = some true) (ha : o.act = .call f args) (ht : QbT (aev t f) (args.map (aev t)) = some (.enter fid as))
  (hm : M fid as = some c) (hc : c h = some (v,h')) (hg : ag.all (again (setDst t o.dst v) h') = true) (hr : Reach F M (x.at (setDst t o.dst v) (.drawRest plan :: k) h') G) : Reach F M (x.at t (.inMain o ag mask plan :: k) h) G:=by
 refine .step (s1:=x.at (setDst t o.dst v) (.drawRest plan :: k) h') ?_ hr
 show aone F M (x.at t (.inMain o ag mask plan :: k) h) o = _
 unfold aone
 rw [show Qav (x.at t (.inMain o ag mask plan :: k) h).fr.tmps o = some true from hw]
 show aoper F M _ o = _
 unfold aoper
 rw [ha]
 show (match QbT (aev t f) (args.map (aev t)) with | some t=>_ | none=>_) = _
 rw [ht]
 show (match M fid as with | some c=>_ | none=>_) = _
 rw [hm]
 show (match c h with | some (v,h)=>_ | none=>_) = _
 rw [hc]
 show Option.map _ (if ag.all (again (setDst t o.dst v) h') then _ else none) = _
 rw [hg]
 rfl
end
section
variable {F : FuncId → Option AFun} {M : Memo} {ita : Int → Str} {rep : Nat → Str}
theorem QaI (L : Law F M ita rep) {T U : LT} (hs : Short T) (hsu : Short U) {st env : Int} {out : Bool} {k0 n0 l0 rk rn rl qk qn ql : AV} {N : Nat} {h : AH}
  (u : Up h h) (hN : N ≤ h.next) (hrep : Rep N h T [rk,rn,rl]) (hrep' : Rep N h U [qk,qn,ql]) (e : den T env ⟨st,[]⟩ = den U env ⟨st,[]⟩) :
  Ctr F M QiB [.agg [.int .i64 st,.int .i64 env,.bool out,k0,n0,l0],.agg [rk,rn,rl],.agg [qk,qn,ql]] h (fun v h'=>v = .bool true ∧ Up h h') (fun _ _=>False) :=
 (Qro L.equal L.valued L.mmodel L.mvalued L.model hs hsu u hN hrep hrep').mono (fun _ _ ⟨a,b⟩=>⟨by rw [a,eqV_of e],b⟩) fun _ _ e=>e
theorem QmQ (L : Law F M ita rep) {t0 t1 t2 p0 p1 p2 q0 q1 q2 : AV} {h : AH} (u : Up h h) :
  Ctr F M QnD [.agg [t0,t1,t2],.agg [p0,p1,p2],.agg [q0,q1,q2]] h (fun v h'=>∃ c1 c2,v = .agg [.int .i64 10,.int .i64 0,.slice c2 0 2 2] ∧
   Wk h h' [(c2,.cells [t0,t1,t2,.int .i64 10,.int .i64 0,.slice c1 0 2 2] none 0 []),(c1,.cells [p0,p1,p2,q0,q1,q2] none 0 [])]) (fun _ _=>False):=by
 refine Ctr.intro L.after fun caller cs G hk _=>?_
 simp only [Qd7,fn8,List.length_cons,List.length_nil,Nat.reduceAdd,Nat.reduceSub,rZ,rS,pN,pC]
 have w:=Wk.start u
 refine R_seq (Qaa (R_op rfl rfl rfl ?_))
 simp only [sN,s0,sS,a0,aS,aC,AV.cells]
 have w1:=w.alloc (.cells [t0,t1,t2] (some 51) 0 [])
 generalize h.alloc (.cells [t0,t1,t2] (some 51) 0 []) = h1 at w1 ⊢
 generalize h.next = b1 at w1 ⊢
 clear w
 refine R_op rfl rfl rfl ?_
 simp only [sN,s0,sS,a0,aS,aC,AV.cells]
 have w2:=w1.alloc (.cells [p0,p1,p2] (some 51) 0 [])
 generalize h1.alloc (.cells [p0,p1,p2] (some 51) 0 []) = h2 at w2 ⊢
 generalize h1.next = b2 at w2 ⊢
 clear w1
 refine R_op rfl rfl rfl ?_
 simp only [sN,s0,sS,a0,aS,aC,AV.cells]
 have w3:=w2.alloc (.cells [q0,q1,q2] (some 51) 0 [])
 generalize h2.alloc (.cells [q0,q1,q2] (some 51) 0 []) = h3 at w3 ⊢
 generalize h2.next = b3 at w3 ⊢
 clear w2
 refine R_op rfl rfl rfl ?_
 simp only [sN,s0,sS,a0,aS,aC,AV.cells]
 have w4:=w3.alloc (.cells [.int .i64 0,.int .i64 0,.nilslice] (some 51) 0 [])
 generalize h3.alloc (.cells [.int .i64 0,.int .i64 0,.nilslice] (some 51) 0 []) = h4 at w4 ⊢
 generalize h3.next = b4 at w4 ⊢
 clear w3
 refine R_nil ?_
 refine R_seq (QaY (Qaf (Qab rfl rfl (Qad (r:=[t0,t1,t2]) rfl (w4.get 3 rfl) (by simp) rfl) rfl (Qab rfl rfl (Qad (r:=[p0,p1,p2]) rfl (w4.get 2 rfl) (by simp) rfl) rfl (Qab rfl rfl (Qad (r:=[q0,q1,q2]) rfl (w4.get 1 rfl) (by simp) rfl) rfl (Qab rfl rfl (x_two (x0:=p0) (x1:=p1) (x2:=p2) (y0:=q0) (y1:=q1) (y2:=q2) rfl rfl) rfl ?_))))))
 simp only [sN,s0,sS,a0,aS,aC,AV.cells]
 have w5:=w4.alloc (.cells [p0,p1,p2,q0,q1,q2] none 0 [])
 generalize h4.alloc (.cells [p0,p1,p2,q0,q1,q2] none 0 []) = h5 at w5 ⊢
 generalize h4.next = b5 at w5 ⊢
 clear w4
 refine Qac ?_
 refine Qae rfl rfl rfl (L.mterm _) (Qan L.term rfl rfl rfl w5.self) ?_ (fun _ _ e=>e.elim)
 rintro v h6 ⟨rfl,u6⟩
 have w6:=w5.call u6
 clear w5 u6
 refine ⟨?_,?_⟩
 ·simp only [sN,s0,sS,a0,aS,aC,List.all_cons,List.all_nil,Bool.and_true,Bool.and_eq_true]
  exact Qak rfl rfl rfl rfl (Qad (r:=[t0,t1,t2]) rfl (w6.get 4 rfl) (by simp) rfl) rfl
 simp only [sN,s0,sS,a0,aS,aC,AV.cells]
 refine Qaf (Qab rfl rfl (x_two (x0:=t0) (x1:=t1) (x2:=t2) (y0:=.int .i64 10) (y1:=.int .i64 0) (y2:=.slice b5 0 2 2) rfl rfl) rfl ?_)
 simp only [sN,s0,sS,a0,aS,aC,AV.cells]
 have w7:=w6.alloc (.cells [t0,t1,t2,.int .i64 10,.int .i64 0,.slice b5 0 2 2] none 0 [])
 generalize h6.alloc (.cells [t0,t1,t2,.int .i64 10,.int .i64 0,.slice b5 0 2 2] none 0 []) = h7 at w7 ⊢
 generalize h6.next = b6 at w7 ⊢
 clear w6
 refine Qac ?_
 refine Qae rfl rfl rfl (L.mterm _) (Qan L.term rfl rfl rfl w7.self) ?_ (fun _ _ e=>e.elim)
 rintro v h8 ⟨rfl,u8⟩
 have w8:=w7.call u8
 clear w7 u8
 refine ⟨?_,?_⟩
 ·rfl
 simp only [sN,s0,sS,a0,aS,aC,AV.cells]
 refine Qaf (Qac ?_)
 refine QaD rfl rfl (Qar (l':=[.int .i64 10,.int .i64 0,.slice b6 0 2 2]) (vs:=[.int .i64 10,.int .i64 0,.slice b6 0 2 2]) rfl rfl rfl rfl (w8.get 2 rfl) (by simp) rfl) rfl ?_
 simp only [sN,s0,sS,a0,aS,aC,AV.cells]
 have w9 : Wk _ (h8.put b4 (.cells [.int .i64 10,.int .i64 0,.slice b6 0 2 2] (some 51) 0 [])) [(b6,.cells [t0,t1,t2,.int .i64 10,.int .i64 0,.slice b5 0 2 2] none 0 []),(b5,.cells [p0,p1,p2,q0,q1,q2] none 0 []),(b4,.cells [.int .i64 10,.int .i64 0,.slice b6 0 2 2] (some 51) 0 []),(b3,.cells [q0,q1,q2] (some 51) 0 []),(b2,.cells [p0,p1,p2] (some 51) 0 []),(b1,.cells [t0,t1,t2] (some 51) 0 [])]:=w8.put 2 rfl _
 generalize h8.put b4 (.cells [.int .i64 10,.int .i64 0,.slice b6 0 2 2] (some 51) 0 []) = h9 at w9 ⊢
 clear w8
 refine Qaf (Qap (Qat (QaX ?_)))
 obtain ⟨fr',e1,e2⟩:=hk (.agg [.int .i64 10,.int .i64 0,.slice b6 0 2 2]) _ ⟨b5,b6,rfl,w9.sub (.cons_cons _ (.cons_cons _ (.cons _ (.cons _ (.cons _ (.cons _ .slnil))))))⟩
 refine R_ret ⟨rfl,rfl,rfl,rfl⟩ L.after ?_ e1 e2
 simp [Qd7,fn8,QaE,QbU,loadA,AH.read,AH.cellsAt,w9.get 2 rfl]
end
end Go.Ab.L22

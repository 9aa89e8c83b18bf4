/-
  A part of a proof: WTj22.
-/
import Derived.Test.YteikbgknibikmaaGreatDoorWTh22toWTp22
import Derived.Test.YteikbgknibikmaaGreatDoorWIt22
set_option linter.all false
namespace Go.Ab.L22
open Go Go.Ab
section
variable {F : FuncId → Option AFun} {M : Memo} {rep : Nat → Str}
theorem Qpk (n : Int) : (textD itaD n).1 ≤ 32:=by
 have:=Qkn n
 unfold textD
 split
 ·show 1 + (itaD n).1 + 1 ≤ 32
  omega
 ·omega
theorem Qp1 (L : Law F M itaD rep) (hF : F Qdj = some QcB) {a : Int} {T U : LT} (hs : Short T) (hsU : Short U) {st env : Int} {out : Bool} {t0 t1 t2 q0 q1 q2 : AV} {N : Nat} {h : AH} (u : Up h h) (hN : N ≤ h.next) (hrep : Rep N h T [t0,t1,t2]) (hrepU : Rep N h U [q0,q1,q2]) :
  Top F M Qdj [.agg [.int .i64 st,.int .i64 env,.bool out,t0,t1,t2],.agg [q0,q1,q2],.int .i16 a] h (.bool true):=by
 by_cases ce : Qbz st env T ≠ 0
 ·exact QrK L hF hs hsU u hN hrep hrepU ce
 ·have mk (o : Bool) : Qbr itaD rep st env o T = (valD itaD rep o (den T env ⟨st,[]⟩),0):=by
   unfold Qbr
   rw [if_neg ce]
  match hd : den T env ⟨st,[]⟩ with
  | (.thr n,s) =>
   have hV:=mk false
   have hW:=mk true
   rw [hd] at hV hW
   have hpre : failD itaD n = cat (4,1534227013) (cat (textD itaD n) (1,93)):=fail_pre itaD n
   obtain ⟨f1,f2,f3,f4,f5,f6⟩:=Qrk (L:=listD itaD rep s.told) (S:=textD itaD s.st) _ hpre (fail_wf itaD_wf n)
   refine Qp2 L hF hs hsU u hN hrep hrepU hV hW hd f1 f2 f3 f4 f5 f6 ?_
   have:=Qpk n
   show 4 + (textD itaD n).1 + 1 < 1000
   omega
  | (.ret n,s) =>
   have hV:=mk false
   have hW:=mk true
   rw [hd] at hV hW
   obtain ⟨f1,f2,f3,f4⟩:=Qrl (L:=listD itaD rep s.told) (S:=textD itaD s.st) _ _ (by show 1 ≤ _ + 1; omega) (by show 1 ≤ _ + 1; omega) (ok_pre (pairD (pairD (textD itaD n) (listD itaD rep s.told)) (textD itaD s.st))) (ok_pre (textD itaD n))
   exact Qp3 L hF hs hsU u hN hrep hrepU hV hW hd f1 f2 f3 f4
end
end Go.Ab.L22

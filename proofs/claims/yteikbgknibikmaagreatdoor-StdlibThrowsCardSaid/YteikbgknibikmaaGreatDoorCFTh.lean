/-
  A part of a proof: CFTh.
-/
import Derived.Test.YteikbgknibikmaaGreatDoorCBTh
import Derived.Test.YteikbgknibikmaaGreatDoorWIt22
import Derived.Test.YteikbgknibikmaaGreatDoorWTh22toWTp22
set_option linter.all false
namespace Go.Ab.L22
open Go Go.Ab Go.Proofs
noncomputable section
theorem fns : Fns F22 M22 where
 eval:=at22 28 rfl rfl
 put:=at22 17 rfl rfl
 tell:=at22 18 rfl rfl
 throw:=at22 19 rfl rfl
 try':=at22 20 rfl rfl
 safe:=at22 21 rfl rfl
 local':=at22 22 rfl rfl
 add:=at22 23 rfl rfl
 then':=at22 24 rfl rfl
 iff:=at22 25 rfl rfl
 each:=at22 26 rfl rfl
 with':=at22 35 rfl rfl
 with1:=at22 38 rfl rfl
 caught:=at22 10 rfl rfl
 caught1:=at22 27 rfl rfl
 wrap:=at22 34 rfl rfl
 mem:=by
  intro f h l
  rcases h with rfl | rfl | rfl | rfl | rfl | rfl | rfl | rfl | rfl | rfl | rfl | rfl | rfl | rfl <;> exact Qah (by decide) (by decide) (by decide) (by decide) l
theorem fns2 : Fns2 F22 M22 where
 needs:=at22 33 rfl rfl
 wrong:=at22 15 rfl rfl
 large:=at22 14 rfl rfl
 large1:=at22 32 rfl rfl
 work:=at22 16 rfl rfl
 check:=at22 8 rfl rfl
 begun:=at22 9 rfl rfl
 mneeds:=Qah (by decide) (by decide) (by decide) (by decide)
 mwrong:=Qah (by decide) (by decide) (by decide) (by decide)
 mlarge:=Qah (by decide) (by decide) (by decide) (by decide)
 mlarge1:=Qah (by decide) (by decide) (by decide) (by decide)
 mwork:=Qah (by decide) (by decide) (by decide) (by decide)
 mcheck:=Qah (by decide) (by decide) (by decide) (by decide)
 mbegun:=Qah (by decide) (by decide) (by decide) (by decide)
theorem fns3 : Fns3 F22 M22 where
 ok:=⟨liesT Tryz.prog 104,by kernel_rfl,at22 37 rfl rfl⟩
 write:=at22 30 rfl rfl
 string:=at22 31 rfl rfl
 mcopy:=Qah (by decide) (by decide) (by decide) (by decide)
 mwrite:=Qah (by decide) (by decide) (by decide) (by decide)
 mstring:=Qah (by decide) (by decide) (by decide) (by decide)
 same:=Qhr
theorem fns4 : Fns4 F22 M22 itaD repD where
 all:=at22 29 rfl rfl
 all1:=at22 36 rfl rfl
 list:=at22 13 rfl rfl
 text:=at22 11 rfl rfl
 pair:=at22 12 rfl rfl
 mall:=Qah (by decide) (by decide) (by decide) (by decide)
 mall1:=Qah (by decide) (by decide) (by decide) (by decide)
 mlist:=Qah (by decide) (by decide) (by decide) (by decide)
 mtext:=Qah (by decide) (by decide) (by decide) (by decide)
 mpair:=Qah (by decide) (by decide) (by decide) (by decide)
 itoa:=Qht
 rept:=Qhs
 builder:=fns3
theorem law22 : Law F22 M22 itaD repD where
 num:=at22 1 rfl rfl
 leaf:=at22 4 rfl rfl
 term:=at22 3 rfl rfl
 after:=at22 2 rfl rfl
 equal:=at22 5 rfl rfl
 valued:=at22 6 rfl rfl
 mnum:=Qah (by decide) (by decide) (by decide) (by decide)
 mleaf:=Qah (by decide) (by decide) (by decide) (by decide)
 mterm:=Qah (by decide) (by decide) (by decide) (by decide)
 mafter:=Qah (by decide) (by decide) (by decide) (by decide)
 mequal:=Qah (by decide) (by decide) (by decide) (by decide)
 mvalued:=Qah (by decide) (by decide) (by decide) (by decide)
 mmodel:=Qah (by decide) (by decide) (by decide) (by decide)
 model:=Qf0 (at22 7 rfl rfl) fns2 fns4 (Qah (by decide) (by decide) (by decide) (by decide)) fns.caught fns.caught1 (Qah (by decide) (by decide) (by decide) (by decide)) fun T hr=>Qgg fns T hr
 awake:=Qf4
end
end Go.Ab.L22

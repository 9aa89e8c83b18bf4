/-
  A part of a proof: CFNe KJNe.
-/
import Derived.Test.YthiiaehlmfbeoaaGreatDoorCBNe
import Derived.Test.YthiiaehlmfbeoaaGreatDoorKaGtoKJ0
import Derived.Test.YthiiaehlmfbeoaaGreatDoorYH26
import Derived.Test.YthiiaehlmfbeoaaGreatDoorKJ1
set_option linter.all false
namespace Go.Ab.L26
open Go Go.Ab Go.Proofs
noncomputable section
theorem fnA:FnA F26 M26 where
 f101:=at26 36 rfl rfl
 f102:=at26 37 rfl rfl
 f103:=at26 38 rfl rfl
 f157:=at26 42 rfl rfl
 f76:=at26 28 rfl rfl
 m101:=QaP (by decide)
 m102:=QaP (by decide)
 m103:=QaP (by decide)
 m157:=QaP (by decide)
theorem fnB:FnB F26 M26 where
 toFnA:=fnA
 f77:=at26 29 rfl rfl
 f41:=at26 19 rfl rfl
 f35:=at26 13 rfl rfl
 f34:=at26 12 rfl rfl
 f33:=at26 11 rfl rfl
 f36:=at26 14 rfl rfl
 f37:=at26 15 rfl rfl
 f38:=at26 16 rfl rfl
 f17:=at26 4 rfl rfl
 m:=Qbe (by decide)
theorem fnC:FnC F26 M26 where
 f42:=at26 20 rfl rfl
 f43:=at26 21 rfl rfl
 f44:=at26 22 rfl rfl
 f45:=at26 23 rfl rfl
 f46:=at26 24 rfl rfl
 f80:=at26 32 rfl rfl
 f81:=at26 33 rfl rfl
 f83:=at26 35 rfl rfl
 f48:=at26 26 rfl rfl
 m:=Qbe (by decide)
theorem fnD:FnD F26 M26 where
 f47:=at26 25 rfl rfl
 f82:=at26 34 rfl rfl
 f105:=at26 40 rfl rfl
 m:=Qbe (by decide)
theorem fnE:FnE F26 M26 where
 B:=fnB
 C:=fnC
 D:=fnD
 f22:=at26 9 rfl rfl
 f41:=at26 19 rfl rfl
 f23:=at26 10 rfl rfl
 f49:=at26 27 rfl rfl
 f8:=at26 1 rfl rfl
 f14:=at26 3 rfl rfl
 f13:=at26 2 rfl rfl
 m:=Qbe (by decide)
theorem fnR:FnR F26 M26 where
 f18:=at26 5 rfl rfl
 f39:=at26 17 rfl rfl
 f40:=at26 18 rfl rfl
 f78:=at26 30 rfl rfl
 f79:=at26 31 rfl rfl
 f20:=at26 7 rfl rfl
 f104:=at26 39 rfl rfl
 m:=Qbe (by decide)
theorem fnL:FnL F26 M26 where
 E:=fnE
 R:=fnR
 f19:=at26 6 rfl rfl
 f21:=at26 8 rfl rfl
 m:=Qbe (by decide)
 A:=QeA
def h00:AH:=⟨fun _=>none,0⟩
theorem Qnb {cells:List CT} {acts:List Act} {cv av:AV} {crows arows:List (List AV)} (hc:RepCs 0 h00 cells cv crows) (ha:RepAs 0 h00 acts av arows) {k:Nat} (hk:k<256):Top F26 M26 5 [.agg [cv,av],.int .u8 (k:Int)] h00 (.bool true) :=
 law5_top fnL (at26 0 rfl rfl) (Up.refl fun _ _=>rfl) (Nat.le_refl 0) hc ha hk
end
end Go.Ab.L26
/-! Chapter 26: the laws' calls, at arguments as a row reads them (Needed, Apart, Same). -/
namespace Go.Ab.L26
open Go Go.Ab Go.Proofs Go.RowKit Go.ChangeShapes Go.WideShapes
noncomputable section
set_option maxRecDepth 100000 in
theorem reads5:([25,5].all fun t=>Tryz.prog.readableRec t && decide (t<Tryz.prog.types.size))=true:=by kernel_rfl
section
variable {H:Type} {enc:TypeId × Value→H} {W:World} {base:Nat} {args:Array Value} {ds:List (DataW H)} {p:List MemPlace} (hM:Qao KK Tryz.prog G26 M26) (hl:laidOutB Tryz.prog=true) (hw:GlobW G26 W) (hlt:∀ x ∈ p,x.block<W.heap.size)
include hM hl hw hlt
set_option maxRecDepth 100000 in
theorem Needed_done (hval:∀ (j:Nat) t v,(#[25,5]:Array TypeId)[j]? = some t→args[j]? = some v→Value.okWide Tryz.prog W .any base t v)
  (hA:DataW.TrodAll enc Tryz.prog W 0 (fun _=>true) true [25,5] args.toList ds p) (hwt:(DataW.weightsEach Tryz.prog [25,5] ds).all (· ≤ reachBytes)=true) :
  Calls Tryz.prog 5 args W fun e W'=>e=.returned (.bool true)∧Below W.heap.size W W'∧DataW.TrodAll enc Tryz.prog W' 0 (fun b=>decide (b<W.heap.size)) true [25,5] args.toList ds p:=by
 have hA':=hA
 obtain ⟨v1,v2,d1,d2,p1,p2,rfl,rfl,rfl,h1,h2⟩:=trodAll_two hA
 obtain ⟨cs,rfl,_⟩:=okWide_struct Tryz.underlying25 (hval 0 25 v1 rfl rfl)
 obtain ⟨a,rfl,_,_,hwf⟩:=open_int Tryz.underlying5 (hval 1 5 v2 rfl rfl) h2
 obtain ⟨k,rfl,hk⟩:=byteOf hwf
 obtain ⟨cv,av,cells,acts,crows,arows,hh,hv⟩:=Qfe h1 rfl fun x hx=>of_decide_eq_true (List.all_eq_true.1 hwt x (DataW.weights_mem_each (j:=0) rfl rfl x hx))
 refine (Qcs Qg0 hM (Qnb (hh _).1 (hh _).2 hk) hw (vs:=#[.agg cs,.int .u8 k]) (VRs.cons hv (VRs.cons (.int .u8 k) (.nil _))) fun w' hb=>trivial).mono fun e w' ⟨u,g,e1,e2,e3⟩=>?_
 exact ⟨by rw [e1,e2.bool_eq],e3,QbK hl e3 reads5 hA' hlt⟩
end
end
end Go.Ab.L26

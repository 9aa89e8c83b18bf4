/-
  A part of a proof: CFSa KJSa.
-/
import Derived.Test.YthiiaehlmfbeoaaGreatDoorCBSa
import Derived.Test.YthiiaehlmfbeoaaGreatDoorKaGtoKJ0
import Derived.Test.YthiiaehlmfbeoaaGreatDoorYJ26
import Derived.Test.YthiiaehlmfbeoaaGreatDoorKJ1
set_option linter.all false
namespace Go.Ab.L26
open Go Go.Ab Go.Proofs
noncomputable section
theorem fnA:FnA F26 M26 where
 f101:=at26 36 rfl rfl
 f102:=at26 37 rfl rfl
 f103:=at26 38 rfl rfl
 f157:=at26 42 rfl rfl
 f76:=at26 28 rfl rfl
 m101:=QaP (by decide)
 m102:=QaP (by decide)
 m103:=QaP (by decide)
 m157:=QaP (by decide)
theorem fnB:FnB F26 M26 where
 toFnA:=fnA
 f77:=at26 29 rfl rfl
 f41:=at26 19 rfl rfl
 f35:=at26 13 rfl rfl
 f34:=at26 12 rfl rfl
 f33:=at26 11 rfl rfl
 f36:=at26 14 rfl rfl
 f37:=at26 15 rfl rfl
 f38:=at26 16 rfl rfl
 f17:=at26 4 rfl rfl
 m:=Qbe (by decide)
theorem fnC:FnC F26 M26 where
 f42:=at26 20 rfl rfl
 f43:=at26 21 rfl rfl
 f44:=at26 22 rfl rfl
 f45:=at26 23 rfl rfl
 f46:=at26 24 rfl rfl
 f80:=at26 32 rfl rfl
 f81:=at26 33 rfl rfl
 f83:=at26 35 rfl rfl
 f48:=at26 26 rfl rfl
 m:=Qbe (by decide)
theorem fnD:FnD F26 M26 where
 f47:=at26 25 rfl rfl
 f82:=at26 34 rfl rfl
 f105:=at26 40 rfl rfl
 m:=Qbe (by decide)
theorem fnE:FnE F26 M26 where
 B:=fnB
 C:=fnC
 D:=fnD
 f22:=at26 9 rfl rfl
 f41:=at26 19 rfl rfl
 f23:=at26 10 rfl rfl
 f49:=at26 27 rfl rfl
 f8:=at26 1 rfl rfl
 f14:=at26 3 rfl rfl
 f13:=at26 2 rfl rfl
 m:=Qbe (by decide)
theorem fnR:FnR F26 M26 where
 f18:=at26 5 rfl rfl
 f39:=at26 17 rfl rfl
 f40:=at26 18 rfl rfl
 f78:=at26 30 rfl rfl
 f79:=at26 31 rfl rfl
 f20:=at26 7 rfl rfl
 f104:=at26 39 rfl rfl
 m:=Qbe (by decide)
theorem fnL:FnL F26 M26 where
 E:=fnE
 R:=fnR
 f19:=at26 6 rfl rfl
 f21:=at26 8 rfl rfl
 m:=Qbe (by decide)
 A:=QeA
def h00:AH:=⟨fun _=>none,0⟩
theorem Same_top {cells:List CT} {acts:List Act} {cv av:AV} {crows arows:List (List AV)} (hc:RepCs 0 h00 cells cv crows) (ha:RepAs 0 h00 acts av arows) {k1 k2:Nat} (hk1:k1<256) (hk2:k2<256) :
  Top F26 M26 7 [.agg [cv,av],.agg [.int .u8 (k1:Int),.int .u8 (k2:Int)]] h00 (.bool true) :=
 law7_top fnL (at26 0 rfl rfl) (Up.refl fun _ _=>rfl) hc ha hk1 hk2
end
end Go.Ab.L26
/-! Chapter 26: the laws' calls, at arguments as a row reads them (Needed, Apart, Same). -/
namespace Go.Ab.L26
open Go Go.Ab Go.Proofs Go.RowKit Go.ChangeShapes Go.WideShapes
noncomputable section
set_option maxRecDepth 100000 in
theorem reads7:([25,52].all fun t=>Tryz.prog.readableRec t && decide (t<Tryz.prog.types.size))=true:=by kernel_rfl
section
variable {H:Type} {enc:TypeId × Value→H} {W:World} {base:Nat} {args:Array Value} {ds:List (DataW H)} {p:List MemPlace} (hM:Qao KK Tryz.prog G26 M26) (hl:laidOutB Tryz.prog=true) (hw:GlobW G26 W) (hlt:∀ x ∈ p,x.block<W.heap.size)
include hM hl hw hlt
set_option maxRecDepth 100000 in
theorem Same_done (hval:∀ (j:Nat) t v,(#[25,52]:Array TypeId)[j]? = some t→args[j]? = some v→Value.okWide Tryz.prog W .any base t v)
  (hA:DataW.TrodAll enc Tryz.prog W 0 (fun _=>true) true [25,52] args.toList ds p) (hwt:(DataW.weightsEach Tryz.prog [25,52] ds).all (· ≤ reachBytes)=true) :
  Calls Tryz.prog 7 args W fun e W'=>e=.returned (.bool true)∧Below W.heap.size W W'∧DataW.TrodAll enc Tryz.prog W' 0 (fun b=>decide (b<W.heap.size)) true [25,52] args.toList ds p:=by
 have hA':=hA
 obtain ⟨v1,v2,d1,d2,p1,p2,rfl,rfl,rfl,h1,h2⟩:=trodAll_two hA
 obtain ⟨cs,rfl,_⟩:=okWide_struct Tryz.underlying25 (hval 0 25 v1 rfl rfl)
 obtain ⟨xs,rfl,hxs⟩:∃ xs:Array Value,v2=.agg xs∧xs.size=2:=by
  have h:=hval 1 52 v2 rfl rfl
  simp only [Value.okWide,Tryz.underlying52] at h
  obtain ⟨cs,q1,q2,_⟩:=h
  exact ⟨cs,q1,q2.trans (by kernel_rfl)⟩
 obtain ⟨c0,c1,rfl⟩:∃ c0 c1,xs = #[c0,c1]:=by
  obtain ⟨l⟩:=xs
  match l,hxs with
  | [c0,c1],_=>exact ⟨c0,c1,rfl⟩
 obtain ⟨fuel,h2⟩:=h2
 obtain ⟨ys,m,_,ex,_,hyl,hel⟩:=DataW.trod_array Tryz.underlying52 h2
 have c5:Tryz.prog.cellsOf 5=1:=by kernel_rfl
 obtain ⟨y0,hy0⟩:∃ y,ys[0]? = some y:=⟨_,List.getElem?_eq_getElem (by omega)⟩
 obtain ⟨y1,hy1⟩:∃ y,ys[1]? = some y:=⟨_,List.getElem?_eq_getElem (by omega)⟩
 have e0:=hel 0 (by omega)
 have e1:=hel 1 (by omega)
 rw [c5,hy0] at e0
 rw [c5,hy1] at e1
 obtain ⟨a0,q0,_,wf0⟩:=DataW.trod_int Tryz.underlying5 e0
 obtain ⟨a1,q1,_,wf1⟩:=DataW.trod_int Tryz.underlying5 e1
 have q0':c0=.int .u8 a0:=by simpa [Value.cells] using q0
 have q1':c1=.int .u8 a1:=by simpa [Value.cells] using q1
 subst q0' q1'
 obtain ⟨k0,rfl,hk0⟩:=byteOf wf0
 obtain ⟨k1,rfl,hk1⟩:=byteOf wf1
 obtain ⟨cv,av,cells,acts,crows,arows,hh,hv⟩:=Qfe h1 rfl fun x hx=>of_decide_eq_true (List.all_eq_true.1 hwt x (DataW.weights_mem_each (j:=0) rfl rfl x hx))
 have hv2:VR (bareG (Qbf W)) (.agg [.int .u8 (k0:Int),.int .u8 (k1:Int)]) (.agg #[.int .u8 (k0:Int),.int .u8 (k1:Int)]):=(VRs.cons (.int .u8 k0) (VRs.cons (.int .u8 k1) (.nil _))).agg
 refine (Qcs Qg0 hM (Same_top (hh _).1 (hh _).2 hk0 hk1) hw (vs:=#[.agg cs,.agg #[.int .u8 k0,.int .u8 k1]]) (VRs.cons hv (VRs.cons hv2 (.nil _))) fun w' hb=>trivial).mono fun e w' ⟨u,g,e1,e2,e3⟩=>?_
 exact ⟨by rw [e1,e2.bool_eq],e3,QbK hl e3 reads7 hA' hlt⟩
end
end
end Go.Ab.L26

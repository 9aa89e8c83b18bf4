/-
  A part of a proof: CFAp KJAp.
-/
import Derived.Test.YthiiaehlmfbeoaaGreatDoorCBAp
import Derived.Test.YthiiaehlmfbeoaaGreatDoorKaGtoKJ0
import Derived.Test.YthiiaehlmfbeoaaGreatDoorYI26
import Derived.Test.YthiiaehlmfbeoaaGreatDoorKJ1
set_option linter.all false
namespace Go.Ab.L26
open Go Go.Ab Go.Proofs
noncomputable section
theorem fnA:FnA F26 M26 where
 f101:=at26 36 rfl rfl
 f102:=at26 37 rfl rfl
 f103:=at26 38 rfl rfl
 f157:=at26 42 rfl rfl
 f76:=at26 28 rfl rfl
 m101:=QaP (by decide)
 m102:=QaP (by decide)
 m103:=QaP (by decide)
 m157:=QaP (by decide)
theorem fnB:FnB F26 M26 where
 toFnA:=fnA
 f77:=at26 29 rfl rfl
 f41:=at26 19 rfl rfl
 f35:=at26 13 rfl rfl
 f34:=at26 12 rfl rfl
 f33:=at26 11 rfl rfl
 f36:=at26 14 rfl rfl
 f37:=at26 15 rfl rfl
 f38:=at26 16 rfl rfl
 f17:=at26 4 rfl rfl
 m:=Qbe (by decide)
theorem fnC:FnC F26 M26 where
 f42:=at26 20 rfl rfl
 f43:=at26 21 rfl rfl
 f44:=at26 22 rfl rfl
 f45:=at26 23 rfl rfl
 f46:=at26 24 rfl rfl
 f80:=at26 32 rfl rfl
 f81:=at26 33 rfl rfl
 f83:=at26 35 rfl rfl
 f48:=at26 26 rfl rfl
 m:=Qbe (by decide)
theorem fnD:FnD F26 M26 where
 f47:=at26 25 rfl rfl
 f82:=at26 34 rfl rfl
 f105:=at26 40 rfl rfl
 m:=Qbe (by decide)
theorem fnE:FnE F26 M26 where
 B:=fnB
 C:=fnC
 D:=fnD
 f22:=at26 9 rfl rfl
 f41:=at26 19 rfl rfl
 f23:=at26 10 rfl rfl
 f49:=at26 27 rfl rfl
 f8:=at26 1 rfl rfl
 f14:=at26 3 rfl rfl
 f13:=at26 2 rfl rfl
 m:=Qbe (by decide)
theorem fnR:FnR F26 M26 where
 f18:=at26 5 rfl rfl
 f39:=at26 17 rfl rfl
 f40:=at26 18 rfl rfl
 f78:=at26 30 rfl rfl
 f79:=at26 31 rfl rfl
 f20:=at26 7 rfl rfl
 f104:=at26 39 rfl rfl
 m:=Qbe (by decide)
theorem fnL:FnL F26 M26 where
 E:=fnE
 R:=fnR
 f19:=at26 6 rfl rfl
 f21:=at26 8 rfl rfl
 m:=Qbe (by decide)
 A:=QeA
def h00:AH:=⟨fun _=>none,0⟩
theorem QoK {cells:List CT} {T:CT} {cv x y z:AV} {crows:List (List AV)} (hc:RepCs 0 h00 cells cv crows) (hT:Rep 0 h00 T [x,y,z]) (sT:Short T) {k1 k2:Nat} (hk1:k1<256) (hk2:k2<256) :
  Top F26 M26 6 [cv,.agg [.int .u8 (k1:Int),.int .u8 (k2:Int),x,y,z]] h00 (.bool true) :=
 law6_top fnL (at26 0 rfl rfl) (Up.refl fun _ _=>rfl) (Nat.le_refl 0) hc hT sT hk1 hk2
end
end Go.Ab.L26
/-! Chapter 26: the laws' calls, at arguments as a row reads them (Needed, Apart, Same). -/
namespace Go.Ab.L26
open Go Go.Ab Go.Proofs Go.RowKit Go.ChangeShapes Go.WideShapes
noncomputable section

def tyC:List TypeId:=[49,5,39,37,3,22]
theorem Qjc:Qnx Tryz.prog tyC=true:=by kernel_rfl
set_option maxRecDepth 100000 in
theorem reads6:([22,49].all fun t=>Tryz.prog.readableRec t && decide (t<Tryz.prog.types.size))=true:=by kernel_rfl
section
variable {H:Type} {enc:TypeId × Value→H} {W:World} {base:Nat} {args:Array Value} {ds:List (DataW H)} {p:List MemPlace} (hM:Qao KK Tryz.prog G26 M26) (hl:laidOutB Tryz.prog=true) (hw:GlobW G26 W) (hlt:∀ x ∈ p,x.block<W.heap.size)
include hM hl hw hlt
set_option maxRecDepth 100000 in
theorem Apart_done (hval:∀ (j:Nat) t v,(#[22,49]:Array TypeId)[j]? = some t→args[j]? = some v→Value.okWide Tryz.prog W .any base t v)
  (hA:DataW.TrodAll enc Tryz.prog W 0 (fun _=>true) true [22,49] args.toList ds p) (hwt:(DataW.weightsEach Tryz.prog [22,49] ds).all (· ≤ reachBytes)=true) :
  Calls Tryz.prog 6 args W fun e W'=>e=.returned (.bool true)∧Below W.heap.size W W'∧DataW.TrodAll enc Tryz.prog W' 0 (fun b=>decide (b<W.heap.size)) true [22,49] args.toList ds p:=by
 have hA':=hA
 obtain ⟨v1,v2,d1,d2,p1,p2,rfl,rfl,rfl,h1,h2⟩:=trodAll_two hA
 obtain ⟨aa,ln,cp,rfl⟩:=okWide_slice Tryz.underlying22 (hval 0 22 v1 rfl rfl)
 obtain ⟨cs,rfl,_⟩:=okWide_struct Tryz.underlying49 (hval 1 49 v2 rfl rfl)
 have w1:∀ x ∈ d1.weights Tryz.prog 22,x≤reachBytes:=fun x hx=>of_decide_eq_true (List.all_eq_true.1 hwt x (DataW.weights_mem_each (j:=0) rfl rfl x hx))
 have w2:∀ x ∈ d2.weights Tryz.prog 49,x≤reachBytes:=fun x hx=>of_decide_eq_true (List.all_eq_true.1 hwt x (DataW.weights_mem_each (j:=1) rfl rfl x hx))
 obtain ⟨fuel1,h1⟩:=h1
 obtain ⟨row1,q1,q2,q3⟩:=QcH Qjc fuel1 22 _ _ (by decide) h1
 obtain ⟨cv,cells,crows,rfl,hh⟩:=(QfI Tryz.underlying39 Tryz.underlying37 Tryz.underlying3 rfl Tryz.underlying22 Qlr Qls q1).2 rfl w1
 obtain ⟨fuel2,h2⟩:=h2
 obtain ⟨row2,r1,r2,r3⟩:=QcH Qjc fuel2 49 _ _ (by decide) h2
 have r3':=r3 (bareG (Qbf W)) rfl
 obtain ⟨ds2,rows2,ed,er,hl1,hl2,hr⟩:=Qgg Tryz.underlying49 r1
 have ed':d2=.agg ds2:=ed
 subst ed'
 match rows2,hl2,hr,er with
 | [x0,x1,x2],_,hr,er =>
  match ds2,hl1,hr,w2 with
  | [e0,e1,e2],_,hr,w2 =>
   obtain ⟨a0,y0,wf0⟩:=Qjr Tryz.underlying5 (hr 0 (by simp) (by simp) (by simp))
   obtain ⟨a1,y1,wf1⟩:=Qjr Tryz.underlying5 (hr 1 (by simp) (by simp) (by simp))
   obtain ⟨T,sT,hT⟩:=(QfI Tryz.underlying39 Tryz.underlying37 Tryz.underlying3 rfl Tryz.underlying22 Qlr Qls (hr 2 (by simp) (by simp) (by simp))).1 rfl (fun x hx=>w2 x (by
    simp only [DataW.weights,Tryz.underlying49]
    exact DataW.weights_mem_each (j:=2) rfl rfl x hx))
   have y0':x0=[.int .u8 a0]:=y0
   have y1':x1=[.int .u8 a1]:=y1
   subst y0' y1'
   obtain ⟨k0,rfl,hk0⟩:=byteOf wf0
   obtain ⟨k1,rfl,hk1⟩:=byteOf wf1
   have hT':∀ h,Rep 0 h T x2:=hT
   obtain ⟨x,y,z,rfl,_⟩:=rep3 (hT' h00)
   have er':row2=[.int .u8 (k0:Int),.int .u8 (k1:Int),x,y,z]:=er
   subst er'
   have hv1:VR (bareG (Qbf W)) cv (.slice aa ln cp):=(q3 (bareG (Qbf W)) rfl).head
   have hv2:VR (bareG (Qbf W)) (.agg [.int .u8 (k0:Int),.int .u8 (k1:Int),x,y,z]) (.agg cs):=by
    have:=r3'.agg
    simpa [Value.cells] using this
   refine (Qcs Qg0 hM (QoK (hh _) (hT' _) sT hk0 hk1) hw (vs:=#[.slice aa ln cp,.agg cs]) (VRs.cons hv1 (VRs.cons hv2 (.nil _))) fun w' hb=>trivial).mono fun e w' ⟨u,g,e1,e2,e3⟩=>?_
   exact ⟨by rw [e1,e2.bool_eq],e3,QbK hl e3 reads6 hA' hlt⟩
end
end
end Go.Ab.L26

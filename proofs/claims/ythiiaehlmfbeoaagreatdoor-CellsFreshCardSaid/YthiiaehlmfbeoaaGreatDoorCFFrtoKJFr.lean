/-
  A part of a proof: CFFr KJFr.
-/
import Derived.Test.YthiiaehlmfbeoaaGreatDoorCBFr
import Derived.Test.YthiiaehlmfbeoaaGreatDoorKaGtoKJ0
import Derived.Test.YthiiaehlmfbeoaaGreatDoorXZw26toYD26
set_option linter.all false
namespace Go.Ab.L26
open Go Go.Ab Go.Proofs
noncomputable section
theorem fnA:FnA F26 M26 where
 f101:=at26 28 rfl rfl
 f102:=at26 29 rfl rfl
 f103:=at26 30 rfl rfl
 f157:=at26 33 rfl rfl
 f76:=at26 22 rfl rfl
 m101:=QaP (by decide)
 m102:=QaP (by decide)
 m103:=QaP (by decide)
 m157:=QaP (by decide)
theorem fnB:FnB F26 M26 where
 toFnA:=fnA
 f77:=at26 23 rfl rfl
 f41:=at26 13 rfl rfl
 f35:=at26 9 rfl rfl
 f34:=at26 8 rfl rfl
 f33:=at26 7 rfl rfl
 f36:=at26 10 rfl rfl
 f37:=at26 11 rfl rfl
 f38:=at26 12 rfl rfl
 f17:=at26 4 rfl rfl
 m:=Qbe (by decide)
theorem fnC:FnC F26 M26 where
 f42:=at26 14 rfl rfl
 f43:=at26 15 rfl rfl
 f44:=at26 16 rfl rfl
 f45:=at26 17 rfl rfl
 f46:=at26 18 rfl rfl
 f80:=at26 24 rfl rfl
 f81:=at26 25 rfl rfl
 f83:=at26 27 rfl rfl
 f48:=at26 20 rfl rfl
 m:=Qbe (by decide)
theorem fnD:FnD F26 M26 where
 f47:=at26 19 rfl rfl
 f82:=at26 26 rfl rfl
 f105:=at26 31 rfl rfl
 m:=Qbe (by decide)
theorem fnE:FnE F26 M26 where
 B:=fnB
 C:=fnC
 D:=fnD
 f22:=at26 5 rfl rfl
 f41:=at26 13 rfl rfl
 f23:=at26 6 rfl rfl
 f49:=at26 21 rfl rfl
 f8:=at26 1 rfl rfl
 f14:=at26 3 rfl rfl
 f13:=at26 2 rfl rfl
 m:=Qbe (by decide)
theorem QoJ {cells:List CT} {acts:List Act} {cv av:AV} {crows arows:List (List AV)} (hc:RepCs 0 ⟨fun _=>none,0⟩ cells cv crows) (ha:RepAs 0 ⟨fun _=>none,0⟩ acts av arows):Top F26 M26 4 [.agg [cv,av]] ⟨fun _=>none,0⟩ (.bool true) :=
 law4_top fnE (at26 0 rfl rfl) QeA (Up.refl fun _ _=>rfl) (Nat.le_refl 0) hc ha
end
end Go.Ab.L26
/-! Chapter 26: the laws' calls, at arguments as a row reads them. -/
namespace Go.Ab.L26
open Go Go.Ab Go.Proofs Go.RowKit Go.ChangeShapes Go.WideShapes
noncomputable section
theorem QlB (hM:Qao KK Tryz.prog G26 M26) {w:World} (hw:GlobW G26 w) {cv av:AV} {cells:List CT} {acts:List Act} {crows arows:List (List AV)} (hh:∀ h,RepCs 0 h cells cv crows∧RepAs 0 h acts av arows) {v:Value} (hv:VR (bareG (Qbf w)) (.agg [cv,av]) v) :
  Calls Tryz.prog 4 #[v] w fun e w'=>e=.returned (.bool true)∧Below w.heap.size w w':=by
 have ht:=QoJ (hh _).1 (hh _).2
 refine (Qcs Qg0 hM ht hw (vs:=#[v]) (VRs.cons hv (.nil _)) fun w' hb=>trivial).mono fun e w' ⟨u,g,e1,e2,e3⟩=>?_
 exact ⟨by rw [e1,e2.bool_eq],e3⟩
set_option maxRecDepth 100000 in
theorem reads4:([25].all fun t=>Tryz.prog.readableRec t && decide (t<Tryz.prog.types.size))=true:=by kernel_rfl
set_option maxRecDepth 100000 in
theorem Fresh_done {H:Type} {enc:TypeId × Value→H} {W:World} {base:Nat} {args:Array Value} {ds:List (DataW H)} {p:List MemPlace} (hM:Qao KK Tryz.prog G26 M26) (hl:laidOutB Tryz.prog=true) (hw:GlobW G26 W) (hlt:∀ x ∈ p,x.block<W.heap.size)
  (hval:∀ (j:Nat) t v,(#[25]:Array TypeId)[j]? = some t→args[j]? = some v→Value.okWide Tryz.prog W .any base t v)
  (hA:DataW.TrodAll enc Tryz.prog W 0 (fun _=>true) true [25] args.toList ds p) (hwt:(DataW.weightsEach Tryz.prog [25] ds).all (· ≤ reachBytes)=true) :
  Calls Tryz.prog 4 args W fun e W'=>e=.returned (.bool true)∧Below W.heap.size W W'∧DataW.TrodAll enc Tryz.prog W' 0 (fun b=>decide (b<W.heap.size)) true [25] args.toList ds p:=by
 have hA':=hA
 obtain ⟨v1,d1,rfl,rfl,h1⟩:=trodAll_one hA
 obtain ⟨cs,rfl,_⟩:=okWide_struct Tryz.underlying25 (hval 0 25 v1 rfl rfl)
 obtain ⟨cv,av,cells,acts,crows,arows,hh,hv⟩:=Qfe h1 rfl fun x hx=>of_decide_eq_true (List.all_eq_true.1 hwt x (DataW.weights_mem_each (j:=0) rfl rfl x hx))
 exact (QlB hM hw hh hv).mono fun e W' ⟨e1,e2⟩=>⟨e1,e2,QbK hl e2 reads4 hA' hlt⟩
end
end Go.Ab.L26

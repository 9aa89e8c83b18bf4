/- A part of a proof. -/
import Derived.Lay
import Derived.Test.YthiiaehlmfbeoaaGreatDoorRows
import Derived.JoinedOf
import Derived.KernelRfl
import GoSem.ClaimGoes
import Derived.Test.YthiiaehlmfbeoaaGreatDoorCards
import Derived.ProofKit
import Derived.LaidMore
import Derived.OpenShut
import Derived.SevenTiedAt
import Derived.Test.YthiiaehlmfbeoaaGreatDoorKYa
import Derived.Test.YthiiaehlmfbeoaaGreatDoorKTatoKTbMo
import Derived.Test.YthiiaehlmfbeoaaGreatDoorKLt26toKJzMo
import Derived.Test.YthiiaehlmfbeoaaGreatDoorKRow
import Derived.Test.YthiiaehlmfbeoaaGreatDoorKXaMotoKFa
import Derived.Test.YthiiaehlmfbeoaaGreatDoorKFeMo
set_option linter.all false
set_option maxRecDepth 100000
namespace Go.Proofs.YthiiaehlmfbeoaaGreatDoor
open Go
theorem stp {P : Program} {n m g : Nat} {t : TypeId} {x : String × DataW Unit} {r : List (String × DataW Unit)} {y : List Value × List Obj} {z : List (Nat × List Value) × List Obj}
    (hg:P.globalNamed x.1=some g)(hl:(P.globals[g]?).map (·.type)=some t)(hy:x.2.lay P t n=some y)(hm:n+y.2.length=m)(hz:Lay.layList P m r=some z) :
    Lay.layList P n (x::r)=some ((g,y.1)::z.1,y.2++z.2):=by
  subst hm;obtain⟨gl,h1,h2⟩:=Go.Ab.oM hl;subst h2;unfold Lay.layList;simp only[hg,h1,hy,hz]
noncomputable def yP(d:DataW Unit)(t n:Nat):List Value×List Obj:=(d.lay Tryz.prog t n).getD ([],[])
noncomputable def yS(d:DataW Unit)(n:Nat):List Value×List Obj:=
  match d.lay Tryz.prog 829 n with
  |some x=>(match Lay.pack Tryz.prog 829 x.1 with
    |some v=>([.iface 829 v],x.2)
    |none=>([],[]))
  |none=>([],[])
noncomputable def y0:List Value×List Obj:=yP (Rows.laid_math_bits_deBruijn32tab:DataW Unit) 851 16
theorem e0:(Rows.laid_math_bits_deBruijn32tab:DataW Unit).lay Tryz.prog 851 16=some y0:=by kernel_rfl
noncomputable def y1:List Value×List Obj:=yP (Rows.laid_math_bits_deBruijn64tab:DataW Unit) 852 16
theorem e1:(Rows.laid_math_bits_deBruijn64tab:DataW Unit).lay Tryz.prog 852 16=some y1:=by kernel_rfl
noncomputable def y2:List Value×List Obj:=yP (Rows.laid_internal_strconv_uint64pow10:DataW Unit) 823 16
theorem e2:(Rows.laid_internal_strconv_uint64pow10:DataW Unit).lay Tryz.prog 823 16=some y2:=by kernel_rfl
noncomputable def y3:List Value×List Obj:=yS (match (Rows.laid_strconv_ErrRange:DataW Unit) with|.iface _ x=>x|_=>.nil) 16
theorem e3:(Rows.laid_strconv_ErrRange:DataW Unit).lay Tryz.prog 601 16=some y3:=by
  unfold Rows.laid_strconv_ErrRange;rw[DataW.lay,fnd];kernel_rfl
noncomputable def y4:List Value×List Obj:=yS (match (Rows.laid_strconv_ErrSyntax:DataW Unit) with|.iface _ x=>x|_=>.nil) 17
theorem e4:(Rows.laid_strconv_ErrSyntax:DataW Unit).lay Tryz.prog 601 17=some y4:=by
  unfold Rows.laid_strconv_ErrSyntax;rw[DataW.lay,fnd];kernel_rfl
noncomputable def y5:List Value×List Obj:=yP (Rows.laid_unicode_White_Space:DataW Unit) 810 18
theorem e5:(Rows.laid_unicode_White_Space:DataW Unit).lay Tryz.prog 810 18=some y5:=by kernel_rfl
noncomputable def y6:List Value×List Obj:=yP (Rows.laid_strings_asciiSpace:DataW Unit) 759 20
theorem e6:(Rows.laid_strings_asciiSpace:DataW Unit).lay Tryz.prog 759 20=some y6:=by kernel_rfl
noncomputable def y7:List Value×List Obj:=yP (Rows.laid_reprise_syntax_shapes:DataW Unit) 475 20
theorem e7:(Rows.laid_reprise_syntax_shapes:DataW Unit).lay Tryz.prog 475 20=some y7:=by kernel_rfl
noncomputable def y8:List Value×List Obj:=yP (Rows.laid_reprise_linear_calm:DataW Unit) 813 20
theorem e8:(Rows.laid_reprise_linear_calm:DataW Unit).lay Tryz.prog 813 20=some y8:=by kernel_rfl
noncomputable def z9:List (Nat×List Value)×List Obj:=([],[])
noncomputable def z8:List (Nat×List Value)×List Obj:=((5,y8.1)::z9.1,y8.2++z9.2)
noncomputable def z7:List (Nat×List Value)×List Obj:=((0,y7.1)::z8.1,y7.2++z8.2)
noncomputable def z6:List (Nat×List Value)×List Obj:=((1,y6.1)::z7.1,y6.2++z7.2)
noncomputable def z5:List (Nat×List Value)×List Obj:=((4,y5.1)::z6.1,y5.2++z6.2)
noncomputable def z4:List (Nat×List Value)×List Obj:=((2,y4.1)::z5.1,y4.2++z5.2)
noncomputable def z3:List (Nat×List Value)×List Obj:=((3,y3.1)::z4.1,y3.2++z4.2)
noncomputable def z2:List (Nat×List Value)×List Obj:=((6,y2.1)::z3.1,y2.2++z3.2)
noncomputable def z1:List (Nat×List Value)×List Obj:=((9,y1.1)::z2.1,y1.2++z2.2)
noncomputable def z0:List (Nat×List Value)×List Obj:=((8,y0.1)::z1.1,y0.2++z1.2)
theorem laidL:Lay.layList Tryz.prog 16 Rows.cellsModelsRow.laid=some z0:=
  stp (g:=8) (t:=851) (m:=16) (y:=y0) (z:=z1) (by kernel_rfl) (by kernel_rfl) e0 (by kernel_rfl) (
  stp (g:=9) (t:=852) (m:=16) (y:=y1) (z:=z2) (by kernel_rfl) (by kernel_rfl) e1 (by kernel_rfl) (
  stp (g:=6) (t:=823) (m:=16) (y:=y2) (z:=z3) (by kernel_rfl) (by kernel_rfl) e2 (by kernel_rfl) (
  stp (g:=3) (t:=601) (m:=17) (y:=y3) (z:=z4) (by kernel_rfl) (by kernel_rfl) e3 (by kernel_rfl) (
  stp (g:=2) (t:=601) (m:=18) (y:=y4) (z:=z5) (by kernel_rfl) (by kernel_rfl) e4 (by kernel_rfl) (
  stp (g:=4) (t:=810) (m:=20) (y:=y5) (z:=z6) (by kernel_rfl) (by kernel_rfl) e5 (by kernel_rfl) (
  stp (g:=1) (t:=759) (m:=20) (y:=y6) (z:=z7) (by kernel_rfl) (by kernel_rfl) e6 (by kernel_rfl) (
  stp (g:=0) (t:=475) (m:=20) (y:=y7) (z:=z8) (by kernel_rfl) (by kernel_rfl) e7 (by kernel_rfl) (
  stp (g:=5) (t:=813) (m:=20) (y:=y8) (z:=z9) (by kernel_rfl) (by kernel_rfl) e8 (by kernel_rfl) (
  rfl)))))))))
end Go.Proofs.YthiiaehlmfbeoaaGreatDoor
namespace Go.Proofs.YthiiaehlmfbeoaaGreatDoor
open Go
def args0:Array Value:= #[.agg #[.slice none 0 0,.slice none 0 0]]
theorem QoO{P:Program}{w:World}{l:List (String×DataW Unit)}{y:List (Nat×List Value)×List Obj}(h:Lay.layList P w.heap.size l=some y):w.layVars P l={w with heap:=⟨Lay.setRows w.heap.toList y.1++y.2⟩}:=by
  unfold World.layVars;rw[h]
theorem QoP {P : Program} {w : World} {l : List (String × DataW Unit)} {B : List Nat} {y : List (Nat × List Value) × List Obj} (h : Lay.layList P w.heap.size l = some y)
    (k:(decide (y.1.map (·.1)).Nodup&&(y.1.all fun r=>Lay.isRow w.heap.toList[r.1]? && !B.contains r.1)&&B.all (· < w.heap.size))=true):w.layFits P l B=true:=by
  unfold World.layFits;rw[h];exact k
theorem QoM {P : Program} {w w' : World} {l : List (String × DataW Unit)} {y : List (Nat × List Value) × List Obj} (h : Lay.layList P w.heap.size l = some y)
    (k:((y.1.all fun r=>r.2.all (Lay.okV P w'))&&y.2.all (Lay.okO P w'))=true):w.layIfaces P l w'=true:=by
  unfold World.layIfaces;rw[h];exact k
noncomputable abbrev hd(os:Os):World:=World.holding Tryz.prog os ⟨#[], #[],[]⟩
noncomputable abbrev LD:List (String×DataW Unit):=Rows.cellsModelsRow.laid
theorem hsize(os:Os):(hd os).heap.size=16:=by kernel_rfl
theorem laidH(os:Os):Lay.layList Tryz.prog (hd os).heap.size LD=some z0:=
  (congrArg (fun n=>Lay.layList Tryz.prog n LD) (hsize os)).trans laidL
noncomputable def w2(os:Os):World:={hd os with heap:=⟨Lay.setRows (hd os).heap.toList z0.1++z0.2⟩}
theorem QoL(os:Os):World.laidAll Tryz.prog os LD=w2 os:=QoO (laidH os)
theorem fits(os:Os):(hd os).layFits Tryz.prog LD []=true:=QoP (laidH os) (by kernel_rfl)
theorem ifcs2(os:Os):(hd os).layIfaces Tryz.prog LD (w2 os)=true:=QoM (laidH os) (by kernel_rfl)
theorem ifcs(os:Os):(hd os).layIfaces Tryz.prog LD (World.laidAll Tryz.prog os LD)=true:=(QoL os) ▸ ifcs2 os
theorem zipd2(os:Os):World.variablesZipB Tryz.checked.prog ((w2 os).forCall (fun _ _=>0) {blocks := #[],args:=args0})=true:=by kernel_rfl
theorem zipd(os:Os):World.variablesZipB Tryz.checked.prog ((World.laidAll Tryz.prog os LD).forCall (fun _ _=>0) {blocks := #[],args:=args0})=true:=(QoL os) ▸ zipd2 os
theorem rest2(os:Os):List.take ((begin Tryz.checked.prog (fun _ _=>0) default).world.heap.size-Tryz.checked.prog.globals.size) (List.drop Tryz.checked.prog.globals.size ((w2 os).forCall (fun _ _=>0) {blocks := #[],args:=args0}).heap.toList)=List.drop Tryz.checked.prog.globals.size (begin Tryz.checked.prog (fun _ _=>0) default).world.heap.toList:=by kernel_rfl
theorem rest(os:Os):List.take ((begin Tryz.checked.prog (fun _ _=>0) default).world.heap.size-Tryz.checked.prog.globals.size) (List.drop Tryz.checked.prog.globals.size ((World.laidAll Tryz.prog os LD).forCall (fun _ _=>0) {blocks := #[],args:=args0}).heap.toList)=List.drop Tryz.checked.prog.globals.size (begin Tryz.checked.prog (fun _ _=>0) default).world.heap.toList:=(QoL os) ▸ rest2 os
end Go.Proofs.YthiiaehlmfbeoaaGreatDoor
namespace Go.Proofs.YthiiaehlmfbeoaaGreatDoor
open Go
theorem Qpl:(fun(P:Program)(f:FuncId)(fn:Func)(s:ChangeSpec)(c:OpenClaim)=>((c.maps == (fn.params.toList++s.plain.varTypes P).any (P.mapsRec ·)):Bool)) Tryz.prog 3 Tryz.f3 Rows.cellsModelsSpec Rows.cellsModelsRow=true:=by kernel_rfl
theorem Qpk:(fun(P:Program)(f:FuncId)(fn:Func)(s:ChangeSpec)(c:OpenClaim)=>((c.ifaces == (fn.params.toList++s.plain.varTypes P).any (P.ifacesRec ·)):Bool)) Tryz.prog 3 Tryz.f3 Rows.cellsModelsSpec Rows.cellsModelsRow=true:=by kernel_rfl
theorem Qpj:(fun(P:Program)(f:FuncId)(fn:Func)(s:ChangeSpec)(c:OpenClaim)=>((c.mapsOut == P.mapsAmong fn.resultTypes.toList):Bool)) Tryz.prog 3 Tryz.f3 Rows.cellsModelsSpec Rows.cellsModelsRow=true:=by kernel_rfl
theorem Qpi:(fun(P:Program)(f:FuncId)(fn:Func)(s:ChangeSpec)(c:OpenClaim)=>((c.loops == (fn.params.toList++s.plain.varTypes P).any (P.loopsFrom ·)):Bool)) Tryz.prog 3 Tryz.f3 Rows.cellsModelsSpec Rows.cellsModelsRow=true:=by kernel_rfl
theorem Qph:(fun(P:Program)(f:FuncId)(fn:Func)(s:ChangeSpec)(c:OpenClaim)=>((c.wideKeys == (fn.params.toList++s.plain.varTypes P++fn.resultTypes.toList).any (P.wideKeysFrom ·)):Bool)) Tryz.prog 3 Tryz.f3 Rows.cellsModelsSpec Rows.cellsModelsRow=true:=by kernel_rfl
theorem Qpg:(fun(P:Program)(f:FuncId)(fn:Func)(s:ChangeSpec)(c:OpenClaim)=>(s.vars.all (P.varReadable ·):Bool)) Tryz.prog 3 Tryz.f3 Rows.cellsModelsSpec Rows.cellsModelsRow=true:=by kernel_rfl
theorem Qpf:(fun(P:Program)(f:FuncId)(fn:Func)(s:ChangeSpec)(c:OpenClaim)=>(fn.resultTypes.all (fun t=>P.readableRec t&&decide (t<P.types.size)):Bool)) Tryz.prog 3 Tryz.f3 Rows.cellsModelsSpec Rows.cellsModelsRow=true:=by kernel_rfl
theorem Qpe:(fun(P:Program)(f:FuncId)(fn:Func)(s:ChangeSpec)(c:OpenClaim)=>((c.ifacesOut == fn.resultTypes.toList.any (P.ifacesRec ·)):Bool)) Tryz.prog 3 Tryz.f3 Rows.cellsModelsSpec Rows.cellsModelsRow=true:=by kernel_rfl
theorem Qpd:(fun(P:Program)(f:FuncId)(fn:Func)(s:ChangeSpec)(c:OpenClaim)=>((c.loopsOut == fn.resultTypes.toList.any (P.loopsFrom ·)):Bool)) Tryz.prog 3 Tryz.f3 Rows.cellsModelsSpec Rows.cellsModelsRow=true:=by kernel_rfl
theorem Qpc:(fun(P:Program)(f:FuncId)(fn:Func)(s:ChangeSpec)(c:OpenClaim)=>((c.plainKeys == P.plainKeys):Bool)) Tryz.prog 3 Tryz.f3 Rows.cellsModelsSpec Rows.cellsModelsRow=true:=by kernel_rfl
theorem Qpb:(fun(P:Program)(f:FuncId)(fn:Func)(s:ChangeSpec)(c:OpenClaim)=>(c.shortTexts.isNone:Bool)) Tryz.prog 3 Tryz.f3 Rows.cellsModelsSpec Rows.cellsModelsRow=true:=by kernel_rfl
theorem Qpa:(fun(P:Program)(f:FuncId)(fn:Func)(s:ChangeSpec)(c:OpenClaim)=>(P.stopsHeard:Bool)) Tryz.prog 3 Tryz.f3 Rows.cellsModelsSpec Rows.cellsModelsRow=true:=by kernel_rfl
theorem Qo9:(fun(P:Program)(f:FuncId)(fn:Func)(s:ChangeSpec)(c:OpenClaim)=>(P.mayEnter:Bool)) Tryz.prog 3 Tryz.f3 Rows.cellsModelsSpec Rows.cellsModelsRow=true:=by kernel_rfl
theorem Qo8:(fun(P:Program)(f:FuncId)(fn:Func)(s:ChangeSpec)(c:OpenClaim)=>((c.lifted == P.liftsFinal):Bool)) Tryz.prog 3 Tryz.f3 Rows.cellsModelsSpec Rows.cellsModelsRow=true:=by kernel_rfl
theorem Qo7:(fun(P:Program)(f:FuncId)(fn:Func)(s:ChangeSpec)(c:OpenClaim)=>((P.make == some c.make):Bool)) Tryz.prog 3 Tryz.f3 Rows.cellsModelsSpec Rows.cellsModelsRow=true:=by kernel_rfl
theorem Qo6:(fun(P:Program)(f:FuncId)(fn:Func)(s:ChangeSpec)(c:OpenClaim)=>((c.kinds == (if c.domain.isEmpty then [] else fn.params.toList.map fun t=>match P.underlying t with|some (.int k)=>some k|_=>none)):Bool)) Tryz.prog 3 Tryz.f3 Rows.cellsModelsSpec Rows.cellsModelsRow=true:=by kernel_rfl
theorem Qo5:(fun(P:Program)(f:FuncId)(fn:Func)(s:ChangeSpec)(c:OpenClaim)=>((c.pinned == c.pinnedBy):Bool)) Tryz.prog 3 Tryz.f3 Rows.cellsModelsSpec Rows.cellsModelsRow=true:=by kernel_rfl
theorem Qo4:(fun(P:Program)(f:FuncId)(fn:Func)(s:ChangeSpec)(c:OpenClaim)=>((c.veiled == (fn.params.toList++s.plain.varTypes P++fn.resultTypes.toList).any (P.veiledRec ·)):Bool)) Tryz.prog 3 Tryz.f3 Rows.cellsModelsSpec Rows.cellsModelsRow=true:=by kernel_rfl
theorem Qo3:(fun(P:Program)(f:FuncId)(fn:Func)(s:ChangeSpec)(c:OpenClaim)=>(c.veiledFits P fn.params.toList (fn.params.toList++s.plain.varTypes P++fn.resultTypes.toList):Bool)) Tryz.prog 3 Tryz.f3 Rows.cellsModelsSpec Rows.cellsModelsRow=true:=by kernel_rfl
end Go.Proofs.YthiiaehlmfbeoaaGreatDoor
namespace Go.Proofs.YthiiaehlmfbeoaaGreatDoor
open Go
theorem QoT{P:Program}{f:FuncId}(h:P.funcs.toList.any Func.goes=false):P.goes f=false:=by
  have h0:P.funcs.any Func.goes=false:=by rw[←Array.any_toList];exact h
  have h1:∀g:FuncId,(P.funcs[g]?).any Func.goes=false:=fun g=>by
    cases e:P.funcs[g]? with
    |none=>rfl
    |some fn =>
      have hm:fn∈P.funcs.toList:=Array.mem_toList_iff.2 (Array.mem_of_getElem? e);have:=List.any_eq_false.1 h fn hm;simpa using this
  unfold Program.goes;rw[h0,Bool.and_false,Bool.or_false];exact List.any_eq_false.2 fun g _=>by rw[h1 g];exact Bool.false_ne_true
theorem QoN{c:OpenClaim}{P:Program}(h:P.funcs.toList.any Func.goes=false)(hs:c.start=.entering):false=c.goesBy P:=by
  unfold OpenClaim.goesBy Program.goesAt Program.goesFrom;rw[hs];cases P.funcNamed c.func with
  |none=>rfl
  |some f =>
    show false=(P.goes f||false);rw[QoT h];rfl
theorem QoW:Tryz.prog.funcs.toList.any Func.goes=false:=by kernel_rfl
theorem stays:false=Rows.cellsModelsRow.goesBy Tryz.pinned.checked.prog:=QoN QoW rfl
theorem nmF : Tryz.prog.funcNamed "reprise/repriselaw26.CellsModels" = some 3 := QoR (by kernel_rfl)
end Go.Proofs.YthiiaehlmfbeoaaGreatDoor
namespace Go.Proofs.YthiiaehlmfbeoaaGreatDoor
open Go
open Go.ChangeShapes Go.WideShapes Go.ChangeAt Go.RowKit
theorem own:ownKnob Tryz.prog.godebug=none:=by kernel_rfl
theorem QoU{w:World}(h:laidMetH Tryz.prog Rows.cellsModelsRow.laid w):Go.Ab.GlobW Go.Ab.L26.G26 w:=by
  rw[MakeChecks.laidMetH_plain _ _ _ (by kernel_rfl)]at h;intro n l hl;unfold Go.Ab.L26.G26 at hl;split at hl
  · cases hl;exact Go.Ab.glob_of_laid h 7 rfl (gv:=0) (t:=((Tryz.prog.globals[0]?).map (·.type)).getD 0) (m:=8) (m':=8) (by kernel_rfl) (by kernel_rfl) (by kernel_rfl) (by kernel_rfl) (by kernel_rfl)
  · cases hl;exact Go.Ab.glob_of_laid h 6 rfl (gv:=1) (t:=((Tryz.prog.globals[1]?).map (·.type)).getD 0) (m:=8) (m':=8) (by kernel_rfl) (by kernel_rfl) (by kernel_rfl) (by kernel_rfl) (by kernel_rfl)
  · cases hl;exact Go.Ab.glob_of_laid h 8 rfl (gv:=5) (t:=((Tryz.prog.globals[5]?).map (·.type)).getD 0) (m:=8) (m':=8) (by kernel_rfl) (by kernel_rfl) (by kernel_rfl) (by kernel_rfl) (by kernel_rfl)
  · cases hl;exact Go.Ab.glob_of_laid h 2 rfl (gv:=6) (t:=((Tryz.prog.globals[6]?).map (·.type)).getD 0) (m:=8) (m':=8) (by kernel_rfl) (by kernel_rfl) (by kernel_rfl) (by kernel_rfl) (by kernel_rfl)
  · cases hl;exact Go.Ab.glob_of_laid h 0 rfl (gv:=8) (t:=((Tryz.prog.globals[8]?).map (·.type)).getD 0) (m:=8) (m':=8) (by kernel_rfl) (by kernel_rfl) (by kernel_rfl) (by kernel_rfl) (by kernel_rfl)
  · cases hl;exact Go.Ab.glob_of_laid h 1 rfl (gv:=9) (t:=((Tryz.prog.globals[9]?).map (·.type)).getD 0) (m:=8) (m':=8) (by kernel_rfl) (by kernel_rfl) (by kernel_rfl) (by kernel_rfl) (by kernel_rfl)
  · cases hl
theorem lifted (os : Os) (started : os.Started) (H : Type) (enc : TypeId × Value → H) :
    ReturnsInHanded {} Tryz.checked os 3 .any (fun w args=>(Rows.cellsModelsSpec.pre enc Tryz.prog Tryz.f3 [] false w args∧laidMetH Tryz.prog Rows.cellsModelsRow.laid w)∧sizedMet enc Tryz.prog Tryz.f3 (OpenSpec.ofChange Rows.cellsModelsSpec) false w args)
      (Rows.cellsModelsSpec.post enc Tryz.prog Tryz.f3 false true false false):=by
  refine returnsInHanded_of_change_and (C:=Tryz.checked) (X:=fun w _=>laidMetH Tryz.prog Rows.cellsModelsRow.laid w) (fun _ _ _ hh h=>h.of_heap hh) own started (by kernel_rfl) Tryz.func3
    (ChangeSpec.witness_shaped (enc:=enc) (C:=Tryz.checked) (os:=os) (X:=fun w _=>laidMetH Tryz.prog Rows.cellsModelsRow.laid w) false (World.laidAll Tryz.prog os Rows.cellsModelsRow.laid) args0 8 (World.laidAll_os _ _ _)
      (World.shaped_of_ZipB (zipd os) (rest os)) (by kernel_rfl) (by kernel_rfl) (by kernel_rfl)
      (by rw[MakeChecks.laidMetH_plain _ _ _ (by kernel_rfl)];exact laidMet_laidAll _ (fits os) (ifcs os))) ?_
  intro W base args ds gs before hval0 hW _ hwt hL _;have hval:∀(j:Nat) t v,Tryz.f3.params[j]? = some t→args[j]? = some v→Value.okWide Tryz.prog W .any base t v:=hval0;have hW':=hW;obtain⟨p,q,hA0,hV,rfl,_,_⟩:=hW;have hA:DataW.TrodAll enc Tryz.prog W 0 (fun _=>true) true Tryz.f3.params.toList args.toList ds p:=hA0;obtain⟨rfl,rfl⟩:=trodVars_none hV;have hwt:(DataW.weightsEach Tryz.prog Tryz.f3.params.toList ds).all (· ≤ reachBytes)=true:=by
    rw[←List.append_nil ds, ←List.append_nil Tryz.f3.params.toList];exact hwt
  rw[Tryz.params3]at hA hval hwt;have hA1:DataW.TrodAll enc Tryz.prog W 0 (fun _=>true) true [25] args.toList ds p:=hA;clear hA0 hval0;refine(Go.Ab.L26.Models_done (base:=base) Go.Ab.L26.m26_ok lob (QoU hL) hA.lt hval hA hwt).mono fun e W' ⟨he,hb,ht⟩=>?_
  subst he;simp only[List.append_nil]at hW';obtain⟨v1,d1,rfl,rfl,_⟩:=trodAll_one hA1;exact⟨_,rfl,_,_,_,[],_,[],hW',trodAll_mk1 (shut_bool Tryz.underlying4 _),ht,rfl,hb.frame _,fun h=>by cases h⟩
theorem band{a b:Bool}(ha:a=true)(hb:b=true):(a&&b)=true:=by rw[ha,hb];rfl
theorem facts:joinedFacts Tryz.prog 3 Tryz.f3 Rows.cellsModelsSpec Rows.cellsModelsRow=true:=by
  unfold joinedFacts;exact band (band (band (band (band (band (band (band (band (band (band (band (band (band (band (band (band (band (band (band (band (band (band (band (band (band (band (band (band (band (band fact1 fact2) fact3) fact4) fact5) fact6) fact7) fact8) fact9) Qpp) Qpo) Qpn) Qpm) Qpl) Qpk) Qpj) Qpi) Qph) Qpg) Qpf) Qpe) Qpd) Qpc) Qpb) Qpa) Qo9) Qo8) Qo7) Qo6) Qo5) Qo4) Qo3
theorem lk:true=Tryz.prog.looks []:=by
  symm
  unfold Program.looks;exact List.any_eq_true.2 ⟨57,List.mem_range.2 (Nat.le_of_ble_eq_true (by kernel_rfl)),by kernel_rfl⟩
theorem holds:Rows.CellsModelsSaid:=
  OpenClaim.holds_of_wide 3 Tryz.f3 rfl rfl rfl rfl rfl rfl rfl ⟨rfl,rfl,rfl,rfl,rfl⟩ rfl rfl rfl rfl rfl (by kernel_rfl) Tryz.func3 facts
    (of_decide_eq_true (by kernel_rfl)) (by unfold Func.isWrapper;first|(rw[if_pos (by decide+kernel)];kernel_rfl)|(rw[if_neg (by decide+kernel)];exact⟨rfl,rfl⟩))
    (fun os started H enc _=>lifted os started H enc)
theorem wsA:(([25]:List TypeId).all fun t => !Tryz.prog.wantsStandIn t)=true:=by kernel_rfl
theorem card_holds:Rows.CellsModelsCardSaid:=
  Claim7.holds_tied_plain_at .later [] [.data, .data, .data, .sentinel, .sentinel, .listed, .data, .data, .widerDeep] true (true, "e9962111e4a2cd2f2b211f21164bfb422ae112a9921c83805859907c558ccd40") true holds (fun _ h => by cases h) (by kernel_rfl) (fun _ h => by cases h) Qo1 rfl ⟨rfl, rfl⟩ (by kernel_rfl) rfl
    (fun f fn hf hfn=>by
      obtain rfl:f=3:=Option.some.inj (nmF.symm.trans hf) |>.symm
      obtain rfl:fn=Tryz.f3:=(Option.some.inj (Tryz.func3.symm.trans hfn)).symm;exact⟨lk,fun j t ht=>by
        rw[Tryz.params3]at ht;exact(Bool.not_eq_true' _).mp (List.all_eq_true.1 wsA t (Array.mem_toList_iff.2 (Array.mem_of_getElem? ht)))⟩)
    stays
#print axioms card_holds
end Go.Proofs.YthiiaehlmfbeoaaGreatDoor

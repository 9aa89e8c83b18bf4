/- A part of a proof. -/
import Derived.Test.YthiiaehlmfbeoaaGreatDoorRows
import Derived.LaidByTextLater
import Derived.SevenTiedAt
import Derived.LaidSub
import Derived.LaidOnce
import Derived.KernelRfl
set_option linter.all false
set_option maxRecDepth 100000
noncomputable section
namespace Go.Proofs.YthiiaehlmfbeoaaGreatDoor
open Go
def idxs{α:Type}(p:α→Bool):List α→Nat→List Nat
  | [],_=>[]
  |a::l,k=>cond (p a) (k::idxs p l (k+1)) (idxs p l (k+1))
theorem Qo2{α:Type}(p:α→Bool):∀(l:List α)(k:Nat),(List.range' k l.length).filter (fun i=>(l[i-k]?).any p)=idxs p l k
  | [],_=>rfl
  |a::l,k=>by
    rw[List.length_cons,List.range'_succ];have e:(List.range' (k+1) l.length).filter (fun i=>((a::l)[i-k]?).any p)=(List.range' (k+1) l.length).filter (fun i=>(l[i-(k+1)]?).any p):=by
      refine List.filter_congr fun i hi=>?_
      have h1:k+1≤i:=(List.mem_range'_1.1 hi).1;obtain⟨j,rfl⟩:∃j,i=k+1+j:=⟨i-(k+1),by omega⟩
      rw[show k+1+j-k=j+1 by omega,show k+1+j-(k+1)=j by omega,List.getElem?_cons_succ]
    unfold idxs;rw[List.filter_cons,e,Qo2 p l (k+1)];simp only[Nat.sub_self,List.getElem?_cons_zero,Option.any_some];cases p a<;>rfl
theorem QoR{P:Program}{name:String}{i:FuncId}(h:idxs (fun f:Func=>f.name == name) P.funcs.toList 0=[i]):P.funcNamed name=some i:=by
  unfold Program.funcNamed;have e:(List.range P.funcs.size).filter (fun i=>(P.funcs[i]?).any (·.name == name))=[i]:=by
    rw[←h, ←Qo2,List.range_eq_range',Array.length_toList];refine List.filter_congr fun j _=>?_
    rw[Nat.sub_zero,Array.getElem?_toList]
  rw[e]
theorem Qo0{P:Program}{w:String}{b:Bool}(h:(P.funcs.toList.any fun fn=>fn.body.isNone&&fn.name == w)=b):P.worded w=b:=by
  unfold Program.worded;rw[←Array.any_toList];exact h
def QoY(P:Program)(n fuel M:Nat)(laid:List (String×DataW Unit))(os:Os)(tape:Tape):{F:FuncId→Option (List (String×DataW Unit)×List (DataW (List UInt8))) // doorLeaves P n fuel M laid os tape=F (varsId P)}:=by
  refine⟨?F,?h⟩
  case h =>
    unfold doorLeaves;generalize varsId P=v;rfl
theorem QoX{P:Program}{n fuel M:Nat}{laid:List (String×DataW Unit)}{os:Os}{tape:Tape}{v:FuncId}(hv:varsId P=v):doorLeaves P n fuel M laid os tape=(QoY P n fuel M laid os tape).1 v:=hv ▸ (QoY P n fuel M laid os tape).2
theorem QoZ{P:Program}{laid:List (String×DataW Unit)}{v:FuncId}(hv:varsId P=v)(h:varsNamedLaterB P v laid=true):varsNamedLaterB P (varsId P) laid=true:=by rw[hv];exact h
theorem nmV : Tryz.prog.funcNamed "gosem.cut.vars" = some 807 := QoR (by kernel_rfl)
theorem idV:varsId Tryz.prog=807:=by
  unfold varsId;rw[nmV];rfl
def laidT : List (String × DataW Unit) := [("math/bits.deBruijn32tab", Rows.laid_math_bits_deBruijn32tab), ("math/bits.deBruijn64tab", Rows.laid_math_bits_deBruijn64tab), ("internal/strconv.uint64pow10", Rows.laid_internal_strconv_uint64pow10), ("strconv.ErrRange", Rows.laid_strconv_ErrRange), ("strconv.ErrSyntax", Rows.laid_strconv_ErrSyntax), ("unicode.White_Space", Rows.laid_unicode_White_Space), ("strings.asciiSpace", Rows.laid_strings_asciiSpace), ("reprise/syntax.shapes", Rows.laid_reprise_syntax_shapes), ("reprise/linear.calm", Rows.laid_reprise_linear_calm)]
theorem tie1:Tryz.prog.worded (varsWordLater true)=true:=Qo0 (by kernel_rfl)
theorem tie2:Tryz.prog.worded (varsWordLater !true)=false:=Qo0 (by kernel_rfl)
theorem tie3:Tryz.prog.worded rootWordLater=true:=Qo0 (by kernel_rfl)
theorem tie4:laidT.map (fun x=>Tryz.prog.kindOfLater x.1)=([.data,.data,.data,.sentinel,.sentinel,.listed,.data,.data,.widerDeep]:List LaidKind).map some:=by kernel_rfl
theorem tie6:varsNamedLaterB Tryz.prog 807 laidT=true:=by kernel_rfl
end Go.Proofs.YthiiaehlmfbeoaaGreatDoor
namespace Go.Proofs.YthiiaehlmfbeoaaGreatDoor
open Go
theorem tie7:∀(os:Os)(tape:Tape),(QoY Tryz.prog 116 8 257 laidT os tape).1 807=some (laidT.filter fun x=>x.2.handleName?.isNone,(funcsListed laidT).map (·.2.funcsOut)):=fun _ _=>by kernel_rfl
theorem seatT:Tryz.prog.laidByTextLater laidT [.data,.data,.data,.sentinel,.sentinel,.listed,.data,.data,.widerDeep] true:=
  Program.laidByTextLater_by_one 116 8 257 tie1 tie2 tie3 tie4 (by rw[nmV];rfl) (QoZ idV tie6) (fun os tape=>(QoX idV).trans (tie7 os tape))
theorem noOwn : Tryz.pinned.checked.prog.headLifts.contains "ownunsafe" = false := by kernel_rfl
theorem Qo1:Rows.cellsModelsRow.laidByTextAt .later Tryz.pinned [.data,.data,.data,.sentinel,.sentinel,.listed,.data,.data,.widerDeep] true:=
  OpenClaim.laidByTextAt_later rfl rfl seatT noOwn
end Go.Proofs.YthiiaehlmfbeoaaGreatDoor

/- A part of a proof. -/
import Derived.Test.YthiiaehlmfbeoaaGreatDoorRows
import Derived.JoinedOf
import Derived.KernelRfl
import GoSem.ClaimFn
import GoSem.ClaimDataLaid
set_option linter.all false
set_option maxRecDepth 100000
noncomputable section
namespace Go.Proofs.YthiiaehlmfbeoaaGreatDoor
open Go
theorem fact1:(fun(P:Program)(f:FuncId)(fn:Func)(s:ChangeSpec)(c:OpenClaim)=>(c.wf (OpenSpec.ofChange s):Bool)) Tryz.prog 3 Tryz.f3 Rows.cellsModelsSpec Rows.cellsModelsRow=true:=by kernel_rfl
theorem fact3:(fun(P:Program)(f:FuncId)(fn:Func)(s:ChangeSpec)(c:OpenClaim)=>(mapsRowed P:Bool)) Tryz.prog 3 Tryz.f3 Rows.cellsModelsSpec Rows.cellsModelsRow=true:=by kernel_rfl
theorem fact4:(fun(P:Program)(f:FuncId)(fn:Func)(s:ChangeSpec)(c:OpenClaim)=>(fn.params.all (P.readableRec ·):Bool)) Tryz.prog 3 Tryz.f3 Rows.cellsModelsSpec Rows.cellsModelsRow=true:=by kernel_rfl
theorem fact5:(fun(P:Program)(f:FuncId)(fn:Func)(s:ChangeSpec)(c:OpenClaim)=>(namedTie P c.named s.vars:Bool)) Tryz.prog 3 Tryz.f3 Rows.cellsModelsSpec Rows.cellsModelsRow=true:=by kernel_rfl
theorem fact6:(fun(P:Program)(f:FuncId)(fn:Func)(s:ChangeSpec)(c:OpenClaim)=>((c.stops == []):Bool)) Tryz.prog 3 Tryz.f3 Rows.cellsModelsSpec Rows.cellsModelsRow=true:=by kernel_rfl
theorem fact7:(fun(P:Program)(f:FuncId)(fn:Func)(s:ChangeSpec)(c:OpenClaim)=>((P.stops == []):Bool)) Tryz.prog 3 Tryz.f3 Rows.cellsModelsSpec Rows.cellsModelsRow=true:=by kernel_rfl
theorem fact8:(fun(P:Program)(f:FuncId)(fn:Func)(s:ChangeSpec)(c:OpenClaim)=>((c.knobs == []):Bool)) Tryz.prog 3 Tryz.f3 Rows.cellsModelsSpec Rows.cellsModelsRow=true:=by kernel_rfl
theorem fact9:(fun(P:Program)(f:FuncId)(fn:Func)(s:ChangeSpec)(c:OpenClaim)=>((P.stopKnobs == []):Bool)) Tryz.prog 3 Tryz.f3 Rows.cellsModelsSpec Rows.cellsModelsRow=true:=by kernel_rfl
end Go.Proofs.YthiiaehlmfbeoaaGreatDoor
namespace Go.Ab
open Go
abbrev Inf:=List FuncId×Option String×List Nat×Option String
def QoV(P:Program)(fn:Func):Inf:=
  (P.leadsTo fn,(if fn.ours || fn.body.isNone || fn.name == "runtime.NumGoroutine" then some fn.name else none),(fn.body.elim [] Code.globalsNamed),(if fn.body.isNone then entryReads.lookup fn.name else none))
theorem chunk{α β:Type}{f:α→β}{g:Nat→β}{xs:List α}{a b c n:Nat}(hc:a+b=c)(h:((xs.drop a).take b).map f=(List.range' a b).map g)(r:(xs.drop c).map f=(List.range' c n).map g) :
  (xs.drop a).map f=(List.range' a (b+n)).map g:=by
 subst hc;have e:xs.drop a=(xs.drop a).take b++xs.drop (a+b):=by
  rw[←List.drop_drop];exact(List.take_append_drop b (xs.drop a)).symm
 rw[e,List.map_append,h,r,←List.map_append,List.range'_append_1]
theorem Qpy{α:Type}{p:α→Bool}{xs:List α}{a b c:Nat}(hc:a+b=c)(h:((xs.drop a).take b).all p=true)(r:(xs.drop c).all p=true):(xs.drop a).all p=true:=by
 subst hc;have e:xs.drop a=(xs.drop a).take b++xs.drop (a+b):=by
  rw[←List.drop_drop];exact(List.take_append_drop b (xs.drop a)).symm
 rw[e,List.all_append,h,r];rfl
section
variable{P:Program}{M:Nat→Inf}{N:Nat}
def Qpt(M:Nat→Inf)(N:Nat)(f:Nat):List FuncId:=@Bool.rec (fun _=>List FuncId) [] (M f).1 (Nat.blt f N)
theorem Qpz(h:P.funcs.toList.map (QoV P)=(List.range' 0 N).map M)(g:Nat):(P.funcs[g]?).map (QoV P)=if g<N then some (M g) else none:=by
 have:=congrArg (·[g]?) h;simp only[List.getElem?_map,Array.getElem?_toList]at this;rw[this];by_cases c:g<N
 ·rw[if_pos c,List.getElem?_range' c];simp
 ·rw[if_neg c,List.getElem?_eq_none (by simp;omega)];rfl
theorem at_leads(h:P.funcs.toList.map (QoV P)=(List.range' 0 N).map M)(g:Nat):(P.funcs[g]?).elim [] P.leadsTo=Qpt M N g:=by
 have:=Qpz h g;unfold Qpt;cases e:P.funcs[g]? with
 |none =>
  rw[e]at this;have c:¬g<N:=fun c=>by rw[if_pos c]at this;cases this
  have:Nat.blt g N=false:=by
   cases hb:Nat.blt g N with
   |false=>rfl
   |true=>exact absurd (Nat.le_of_ble_eq_true hb) (by omega)
  rw[this];rfl
 |some fn =>
  rw[e]at this;have c:g<N:=Classical.byContradiction fun c=>by rw[if_neg c]at this;cases this
  rw[if_pos c]at this;have hm:QoV P fn=M g:=Option.some.inj this;have:Nat.blt g N=true:=Nat.ble_eq_true_of_le c;rw[this];show P.leadsTo fn=(M g).1;rw[←hm];rfl
def cloM(L:Nat→List FuncId):Nat→List FuncId→Nat→List FuncId→List FuncId:=
 @Nat.rec (fun _=>List FuncId→Nat→List FuncId→List FuncId) (fun _ _ seen=>seen.reverse) fun _ ih todo m seen =>
  @List.rec FuncId (fun _=>List FuncId) seen.reverse (fun f todo _=>@Bool.rec (fun _=>List FuncId) (ih (L f++todo) (m ||| 1 <<< f) (f::seen)) (ih todo m seen) (Nat.testBit m f)) todo
theorem QpA{L:Nat→List FuncId}(hL:∀g,(P.funcs[g]?).elim [] P.leadsTo=L g):∀(n:Nat)(todo:List FuncId)(m:Nat)(seen:List FuncId),(∀x,m.testBit x=seen.contains x)→P.closureVia n todo seen=cloM L n todo m seen
 |0,_,_,_,_=>by unfold Program.closureVia;rfl
 |n+1,[],_,_,_=>by unfold Program.closureVia;rfl
 |n+1,f::todo,m,seen,h=>by
  unfold Program.closureVia;show _=@Bool.rec (fun _=>List FuncId) (cloM L n (L f++todo) (m ||| 1 <<< f) (f::seen)) (cloM L n todo m seen) (Nat.testBit m f);rw[h f];cases c:seen.contains f with
  |true=>exact QpA hL n todo m seen h
  |false =>
   show P.closureVia n ((P.funcs[f]?).elim [] P.leadsTo++todo) (f::seen)=cloM L n (L f++todo) (m ||| 1 <<< f) (f::seen);rw[hL f];refine QpA hL n _ _ _ fun x=>?_
   rw[Nat.testBit_or,h x,Nat.one_shiftLeft,Nat.testBit_two_pow,List.contains_cons];by_cases e:f=x
   ·subst e;simp
   ·have e':¬x=f:=fun h=>e h.symm
    simp[e,e']
theorem Qpx(h:P.funcs.toList.map (QoV P)=(List.range' 0 N).map M){f n:Nat}{cl:List FuncId}(hn:1+((List.range' 0 N).map fun i=>(M i).1.length+1).sum=n)(hc:cloM (Qpt M N) n [f] 0 []=cl):P.closure f=cl:=by
 unfold Program.closure;have e:(P.funcs.toList.map fun g=>(P.leadsTo g).length+1)=(List.range' 0 N).map fun i=>(M i).1.length+1:=by
  have:=congrArg (List.map fun x:Inf=>x.1.length+1) h;simp only[List.map_map]at this;exact this
 rw[e,hn,QpA (at_leads h) n [f] 0 [] fun x=>by simp];exact hc
theorem Qpw(h:P.funcs.toList.map (QoV P)=(List.range' 0 N).map M){f:Nat}{cl:List FuncId}(hc:P.closure f=cl):P.inPlace f=cl.filterMap fun g=>if g<N then (M g).2.1 else none:=by
 unfold Program.inPlace;rw[hc];refine congrArg (fun p=>cl.filterMap p) (funext fun g=>?_);have:=Qpz h g;cases e:P.funcs[g]? with
 |none =>
  rw[e]at this;have c:¬g<N:=fun c=>by rw[if_pos c]at this;cases this
  rw[if_neg c];rfl
 |some fn =>
  rw[e]at this;have c:g<N:=Classical.byContradiction fun c=>by rw[if_neg c]at this;cases this
  rw[if_pos c]at this ⊢;have hm:QoV P fn=M g:=Option.some.inj this;rw[←hm];rfl
theorem Qpu(h:P.funcs.toList.map (QoV P)=(List.range' 0 N).map M){f:Nat}{cl:List FuncId}(hc:P.closure f=cl) :
  P.varsNamed f=(((cl.flatMap fun g=>if g<N then (M g).2.2.1 else []).eraseDups).filterMap (fun g=>(P.globals[g]?).map (·.name))++cl.filterMap fun g=>if g<N then (M g).2.2.2 else none).eraseDups:=by
 unfold Program.varsNamed;rw[hc];have e1:(fun g=>((P.funcs[g]?).bind (·.body)).elim [] Code.globalsNamed)=fun g=>if g<N then (M g).2.2.1 else []:=funext fun g=>by
  have:=Qpz h g;cases e:P.funcs[g]? with
  |none =>
   rw[e]at this;have c:¬g<N:=fun c=>by rw[if_pos c]at this;cases this
   rw[if_neg c];rfl
  |some fn =>
   rw[e]at this;have c:g<N:=Classical.byContradiction fun c=>by rw[if_neg c]at this;cases this
   rw[if_pos c]at this ⊢;have hm:QoV P fn=M g:=Option.some.inj this;rw[←hm];rfl
 have e2:(fun g=>(P.funcs[g]?).bind fun fn=>if fn.body.isNone then entryReads.lookup fn.name else none)=fun g=>if g<N then (M g).2.2.2 else none:=funext fun g=>by
  have:=Qpz h g;cases e:P.funcs[g]? with
  |none =>
   rw[e]at this;have c:¬g<N:=fun c=>by rw[if_pos c]at this;cases this
   rw[if_neg c];rfl
  |some fn =>
   rw[e]at this;have c:g<N:=Classical.byContradiction fun c=>by rw[if_neg c]at this;cases this
   rw[if_pos c]at this ⊢;have hm:QoV P fn=M g:=Option.some.inj this;rw[←hm];rfl
 rw[e1,e2]
theorem Qpv{n:Nat}(hn:P.types.size=n)(h1:(List.range n).all (rowFine P)=true)(h2:(P.globals.toList.all fun g=>decide (g.type<P.types.size))=true)(h3:(P.funcs.toList.all fun f=>f.params.all fun t=>decide (t<P.types.size))=true):laidOutB P=true:=by
 unfold laidOutB;rw[Array.all_toList]at h2 h3;rw[h2,h3,hn,h1];rfl
end
end Go.Ab

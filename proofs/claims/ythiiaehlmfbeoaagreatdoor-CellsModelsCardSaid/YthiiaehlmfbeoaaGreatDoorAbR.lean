/-
 exec is sound: the whole.
-/
import Derived.Test.YthiiaehlmfbeoaaGreatDoorAbTtoAbQ
set_option linter.all false
set_option maxHeartbeats 2000000
namespace Go.Ab
open Go Go.RowKit
section
variable{CR:AC→Code→Prop}{B:Nat}{w0:Anchor}{g g':Gam}{h h':AH}{w w':World}{P:Program}{G:Nat→Option (List AV)}
def Sound(P:Program)(G:Nat→Option (List AV))(op:Op):Prop:=
 ∀(CR:AC→Code→Prop) (B:Nat) (w0:Anchor) (g:Gam) (h h':AH) (w:World) (ρ:Operand→Value) (ev:AOpd→AV) (aop:AOp) (r:AV) (o:Oper),HR CR B w0 g h w→(∀x ax,Qaa G x=some ax→VR g (ev ax) (ρ x))→(∀v,ev (.const v)=v) →
  QaD P G op=some aop→exec h ev aop=some (r,h')→o.op=op→Done CR B w0 g r h' ((execOp ρ o).run P w)
theorem Qmv(x:Operand):Sound P G (.move x):=by
 intro CR B w0 g h h' w ρ ev aop r o H hev hcon hc he ho;obtain⟨dst,op,type,pos,after,guard⟩:=o;simp only at ho;subst ho;simp only[QaD]at hc;obtain⟨ax,hx,rfl⟩:=oM hc;cases he;exact Done.value H (hev _ _ hx) rfl
theorem Qjh(x:Operand):Sound P G (.assign x):=by
 intro CR B w0 g h h' w ρ ev aop r o H hev hcon hc he ho;obtain⟨dst,op,type,pos,after,guard⟩:=o;simp only at ho;subst ho;simp only[QaD]at hc;obtain⟨ax,hx,rfl⟩:=oM hc;cases he;exact Done.value H (hev _ _ hx) rfl
theorem Qmt(c a b:Operand):Sound P G (.pick c a b):=by
 intro CR B w0 g h h' w ρ ev aop r o H hev hcon hc he ho;obtain⟨dst,op,type,pos,after,guard⟩:=o;simp only at ho;subst ho;simp only[QaD]at hc;split at hc
 ·rename_i c a b hcc ha hb;cases hc;simp only[exec]at he;split at he
  ·rename_i t ht;cases he;have hv:=hev _ _ hcc;rw[ht]at hv;have hv':=hv.bool_eq;cases t
   ·exact Done.value H (hev _ _ hb) (by simp[execOp,hv',asBool])
   ·exact Done.value H (hev _ _ ha) (by simp[execOp,hv',asBool])
  ·cases he
 ·cases hc
theorem QkD(t:TypeId):Sound P G (.alloc t):=by
 intro CR B w0 g h h' w ρ ev aop r o H hev hcon hc he ho;obtain⟨dst,op,type,pos,after,guard⟩:=o;simp only at ho;subst ho;simp only[QaD]at hc;obtain⟨l,hl,rfl⟩:=oM hc;cases he;obtain⟨i,z,hi,hz,_,hzr⟩:=Qba hl;exact Done.gives (Qlc H _ hi hz _ (hzr g))
theorem Qnn(t:TypeId)(x:Operand):Sound P G (.box t x):=by
 intro CR B w0 g h h' w ρ ev aop r o H hev hcon hc he ho;obtain⟨dst,op,type,pos,after,guard⟩:=o;simp only at ho;subst ho;simp only[QaD]at hc;obtain⟨ax,hx,rfl⟩:=oM hc;simp only[exec]at he;split at he
 ·rename_i hk;cases he;exact Done.gives (Qn9 H _ (hev _ _ hx) hk)
 ·cases he
theorem QkB(t:TypeId)(parts:Array (Nat×Operand)):Sound P G (.build t parts):=by
 intro CR B w0 g h h' w ρ ev aop r o H hev hcon hc he ho;obtain⟨dst,op,type,pos,after,guard⟩:=o;simp only at ho;subst ho;simp only[QaD]at hc;split at hc
 ·rename_i fs z ht hz;split at hc
  ·rename_i hall;obtain⟨l,hl,rfl⟩:=oM hc;simp only[exec,Option.map_eq_some_iff,Prod.mk.injEq]at he;obtain⟨m,hm,rfl,rfl⟩:=he;obtain⟨i,zv,hi,hzv,hzr⟩:=Qcz hz;obtain⟨zs,rfl⟩:=(hzr g).agg_eq;obtain⟨h1,h2⟩:=partsT_spec' hev hl;have hplaces:=Qes (P:=P) (w:=w) (fun f:Field=>(Prod.mk f.offset <$> sizeOf f.type:Sem (Nat×Nat))) (fun f=>(f.offset,(sizeT P f.type).getD 0)) fs.toList (fun f hf=>by
    obtain⟨n,hn⟩:=Option.isSome_iff_exists.1 (List.all_eq_true.1 hall f hf);simp[run_sizeOf hn,hn])
   have hz0:=(hzr g).cells (by rfl);obtain⟨vs,hfill,hvs⟩:=QeF (place:=fun i=>(fs.map fun f=>(f.offset,(sizeT P f.type).getD 0))[i]?) (parts.map fun(i,x)=>(i,ρ x)).toList _ _ _ zs (by simpa[AV.cells,Value.cells] using hz0) hm (by simpa using h1) (by
    intro j hj1 hj2;have hj1':j<l.length:=by simpa using hj1
    have hj2':j<parts.toList.length:=by rw[←h1];exact hj1'
    obtain⟨q1,q2⟩:=h2 j hj1' hj2';have e1:((parts.map fun(i,x)=>(i,ρ x)).toList[j]'hj2)=(parts.toList[j].1,ρ parts.toList[j].2):=by simp
    have e2:((l.map fun(o,s,x)=>(o,s,ev x))[j]'hj1)=(l[j].1,l[j].2.1,ev l[j].2.2):=by simp
    rw[e1,e2];refine⟨?_,q2⟩;have q1':(fs[parts.toList[j].1]?.bind fun f=>Option.map (fun s=>(f.offset,s)) (sizeT P f.type))=some (l[j].1,l[j].2.1):=q1;show (fs.map fun f=>(f.offset,(sizeT P f.type).getD 0))[parts.toList[j].1]? = some (l[j].1,l[j].2.1);generalize parts.toList[j].1=ix at q1';rw[Array.getElem?_map];cases hf:fs[ix]? with
    |none=>rw[hf]at q1';cases q1'
    |some f =>
     rw[hf]at q1';simp only[Option.bind_some,Option.map_eq_some_iff]at q1';obtain⟨n,hn,e⟩:=q1';simp[hn,e])
   refine Done.v H (v:=.agg vs) ?_ hvs.agg;simp[Instr.build,run_underlying ht,zeroValue,typeInfo,hi,hzv,Array.mapM_eq_mapM_toList,hplaces,Value.cells];have hfill':Instr.fill (fun i=>(fs.map fun f=>(f.offset,(sizeT P f.type).getD 0))[i]?) zs (List.map (fun x=>(x.fst,ρ x.snd)) parts.toList)=some vs:=by simpa using hfill
   simp only[Array.getElem?_map]at hfill';simp[hfill']
  ·cases hc
 ·rename_i n e z ht hz;split at hc
  ·rename_i sz hsz;obtain⟨l,hl,rfl⟩:=oM hc;simp only[exec,Option.map_eq_some_iff,Prod.mk.injEq]at he;obtain⟨m,hm,rfl,rfl⟩:=he;obtain⟨i,zv,hi,hzv,hzr⟩:=Qcz hz;obtain⟨zs,rfl⟩:=(hzr g).agg_eq;obtain⟨h1,h2⟩:=partsT_spec' hev hl;have hz0:=(hzr g).cells (by rfl);obtain⟨vs,hfill,hvs⟩:=QeF (place:=fun i=>some (i*sz,sz)) (parts.map fun(i,x)=>(i,ρ x)).toList _ _ _ zs (by simpa[AV.cells,Value.cells] using hz0) hm (by simpa using h1) (by
    intro j hj1 hj2;have hj1':j<l.length:=by simpa using hj1
    have hj2':j<parts.toList.length:=by rw[←h1];exact hj1'
    obtain⟨q1,q2⟩:=h2 j hj1' hj2';have e1:((parts.map fun(i,x)=>(i,ρ x)).toList[j]'hj2)=(parts.toList[j].1,ρ parts.toList[j].2):=by simp
    have e2:((l.map fun(o,s,x)=>(o,s,ev x))[j]'hj1)=(l[j].1,l[j].2.1,ev l[j].2.2):=by simp
    rw[e1,e2];exact⟨q1,q2⟩)
   refine Done.v H (v:=.agg vs) ?_ hvs.agg;simp[Instr.build,run_underlying ht,zeroValue,typeInfo,hi,hzv,run_sizeOf hsz,Value.cells];have hfill':Instr.fill (fun i=>some (i*sz,sz)) zs (List.map (fun x=>(x.fst,ρ x.snd)) parts.toList)=some vs:=by simpa using hfill
   simp[hfill']
  ·cases hc
 ·cases hc
theorem QfF(t:TypeId)(len:Nat)(parts:Array (Nat×Operand)):Sound P G (.buildSlice t len parts):=by
 intro CR B w0 g h h' w ρ ev aop r o H hev hcon hc he ho;obtain⟨dst,op,type,pos,after,guard⟩:=o;simp only at ho;subst ho;simp only[QaD]at hc;split at hc
 ·rename_i e ht;split at hc
  ·rename_i zl hz;split at hc
   ·rename_i hle;obtain⟨l,hl,rfl⟩:=oM hc;simp only[exec,Option.map_eq_some_iff,Prod.mk.injEq]at he;obtain⟨m,hm,rfl,rfl⟩:=he;obtain⟨i,z,hi,hz',hzl,hzr⟩:=Qba hz;obtain⟨h1,h2⟩:=partsT_spec' hev hl;refine Done.gives (QfH (parts:=parts.map fun(i,x)=>(i,ρ x)) H ht hi hz' (hzr g) hzl (by rw[←hzl];exact hle) hm (by simpa using h1) ?_);intro j hj1 hj2;have hj1':j<l.length:=by simpa using hj1
    have hj2':j<parts.toList.length:=by rw[←h1];exact hj1'
    obtain⟨q1,q2⟩:=h2 j hj1' hj2';have e1:((parts.map fun(i,x)=>(i,ρ x)).toList[j]'hj2)=(parts.toList[j].1,ρ parts.toList[j].2):=by simp
    have e2:((l.map fun(o,s,x)=>(o,s,ev x))[j]'hj1)=(l[j].1,l[j].2.1,ev l[j].2.2):=by simp
    rw[e1,e2,←hzl];exact⟨q1,q2⟩
   ·cases hc
  ·cases hc
 ·cases hc
theorem Qmw(t:TypeId)(a:Operand):Sound P G (.load t a):=by
 intro CR B w0 g h h' w ρ ev aop r o H hev hcon hc he ho;obtain⟨dst,op,type,pos,after,guard⟩:=o;simp only at ho;subst ho;simp only[QaD]at hc;split at hc
 ·rename_i n ax ha hn hx;cases hc;simp only[exec,Option.map_eq_some_iff,Prod.mk.injEq]at he;obtain⟨m,hm,rfl,rfl⟩:=he;exact Done.gives (Qk8 H ha hn hm (hev _ _ hx))
 ·rename_i n ax ha hn hx;cases hc;simp only[exec]at he;split at he
  ·rename_i v hl;cases he;exact Done.gives (Qk9 H ha hl (hev _ _ hx))
  ·cases he
 ·cases hc
theorem Qkw(t:TypeId)(a x:Operand):Sound P G (.store t a x):=by
 intro CR B w0 g h h' w ρ ev aop r o H hev hcon hc he ho;obtain⟨dst,op,type,pos,after,guard⟩:=o;simp only at ho;subst ho;simp only[QaD]at hc;split at hc
 ·rename_i n a x hn ha hx;cases hc;simp only[exec]at he;split at he
  ·rename_i hcond;simp only[Option.map_eq_some_iff,Prod.mk.injEq]at he;obtain⟨h1,hs,rfl,rfl⟩:=he;obtain⟨w',hw',H'⟩:=Qk6 (P:=P) H hn hcond.1 hcond.2 hs (hev _ _ hx) (hev _ _ ha);exact Done.u hw' H'
  ·cases he
 ·cases hc
theorem Qhn(x:Operand):Sound P G (.nilCheck x):=by
 intro CR B w0 g h h' w ρ ev aop r o H hev hcon hc he ho;obtain⟨dst,op,type,pos,after,guard⟩:=o;simp only at ho;subst ho;simp only[QaD]at hc;obtain⟨ax,hx,rfl⟩:=oM hc;have hv:=hev _ _ hx;simp only[exec]at he;generalize ev ax=a at he hv;generalize hu:ρ _=u at hv;cases hv<;>simp only[reduceCtorEq,oI,Prod.mk.injEq]at he
 all_goals
  obtain⟨rfl,rfl⟩:=he;refine Done.value H (v:=ρ _) (by rw[hu];first|(constructor;done)|(constructor<;>assumption)) ?_;simp only[execOp,hu];rfl
theorem QkC(bop:BinOp)(t:TypeId)(x y:Operand)(yt:TypeId):Sound P G (.binOp bop t x y yt):=by
 intro CR B w0 g h h' w ρ ev aop r o H hev hcon hc he ho;obtain⟨dst,op,type,pos,after,guard⟩:=o;simp only at ho;subst ho;simp only[QaD]at hc;split at hc
 ·rename_i q ax ay hq hx hy;cases hc;simp only[exec,Option.map_eq_some_iff,Prod.mk.injEq]at he;obtain⟨v,hv,rfl,rfl⟩:=he;obtain⟨u,hu,hvu⟩:=Qoa (P:=P) H hq hv (hev _ _ hx) (hev _ _ hy);exact Done.v H hu hvu
 ·cases hc
theorem Qms(uop:UnOp)(t:TypeId)(x:Operand):Sound P G (.unOp uop t x):=by
 intro CR B w0 g h h' w ρ ev aop r o H hev hcon hc he ho;obtain⟨dst,op,type,pos,after,guard⟩:=o;simp only at ho;subst ho;simp only[QaD]at hc;obtain⟨ax,hx,rfl⟩:=oM hc;simp only[exec,Option.map_eq_some_iff,Prod.mk.injEq]at he;obtain⟨v,hv,rfl,rfl⟩:=he;obtain⟨u,hu,hvu⟩:=gives_un (P:=P) (w:=w) hv (hev _ _ hx);exact Done.v H hu hvu
end
end Go.Ab

/- A part of a proof. -/
import Derived.Deep.Slices
import Derived.DeepKeys2
import Derived.Test.YthiiaehlmfbeoaaGreatDoorAbMmtoAbCl
import Derived.Test.YthiiaehlmfbeoaaGreatDoorWAtoXC
set_option linter.all false
noncomputable section
namespace Go.Ab
open Go Go.WideShapes Go.RowKit
def Qbf(w:World):Nat→Nat→Option Value:=fun β o=>w.cell? ⟨β,o,none⟩
theorem Qn8{G:Nat→Option (List AV)}{w:World}(hw:GlobW G w):GlobR G (bareG (Qbf w)):=by
 intro n l hl;obtain⟨vs,h1,h2⟩:=hw n l hl;have hv:=h1 (bareG (Qbf w));refine .iptr l vs n 0 hv.len hv.val fun i hi=>?_
 show Qbf w n (0+i)=_;unfold Qbf;rw[Nat.zero_add];exact h2 i hi
theorem hr_all(CR:AC→Code→Prop)(w:World):HR CR w.heap.size ⟨w,fun _=>False⟩ (bareG (Qbf w)) ⟨fun _=>none,0⟩ w:=
  ⟨fun _ _=>rfl,fun _ _=>rfl,fun b x hx=>(by cases hx),fun b β base o hr _=>(by cases hr),fun b b' β base base' o o' hr _ _ _ _=>(by cases hr),
   fun β o v hm=>hm,
   fun b β base ob o hr _=>(by cases hr),fun b β base o hr _=>(by cases hr),Below.refl _ _,Nat.le_refl _,fun b hb=>hb.elim⟩
def Qnx(P:Program)(S:List TypeId):Bool:=S.all fun t =>
 match P.underlying t with
 |some .bool|some (.int _)|some .string=>P.cellsOf t == 1
 |some (.slice e)=>S.contains e&&P.cellsOf t == 1&&decide (0<P.cellsOf e)
 |some (.struct fs)=>fs.toList.all (fun f=>S.contains f.type)&&P.runs 0 fs.toList == some (P.cellsOf t)
 |_=>false
inductive Rd (P:Program){H:Type}:TypeId→DataW H→List AV→Prop
 |bool {t:TypeId}(b:Bool)(hu:P.underlying t=some .bool):Rd P t (.lit (.bool b)) [.bool b]
 |int {t:TypeId}(k:IntKind)(n:Int)(hu:P.underlying t=some (.int k))(hw:(Lit.int k n).wf=true):Rd P t (.lit (.int k n)) [.int k n]
 |str {t:TypeId}(s:ByteArray)(hu:P.underlying t=some .string)(hs:s.size≤maxLen):Rd P t (.lit (.string s.data.toList)) [.str s.size (natOf s)]
 |nils {t e:TypeId}(hu:P.underlying t=some (.slice e)):Rd P t .nil [.nilslice]
 |empty {t e:TypeId}(sp:List (DataW H))(hu:P.underlying t=some (.slice e)):Rd P t (.slice [] sp) [.empty]
 |vec {t e:TypeId}(ds sp:List (DataW H))(rows:List (List AV))(hu:P.underlying t=some (.slice e))(hl:ds.length=rows.length)(hm:ds.length≤maxLen)(hr:∀i (h1:i<ds.length)(h2:i<rows.length),Rd P e ds[i] rows[i])
   (hz:∀r∈rows,r.length=P.cellsOf e):Rd P t (.slice ds sp) [.vec rows]
 |struct {t:TypeId}(fs:Array Field)(ds:List (DataW H))(rows:List (List AV))(hu:P.underlying t=some (.struct fs))(hl:ds.length=fs.size)(hl2:rows.length=fs.size)
   (hr:∀i (h:i<fs.size)(h1:i<ds.length)(h2:i<rows.length),Rd P fs[i].type ds[i] rows[i]):Rd P t (.agg ds) rows.flatten
theorem QcK{α:Type}{p:Nat→α→Prop}:∀(m:Nat),(∀i,i<m→∃r,p i r)→∃l:List α,l.length=m∧∀i (h:i<l.length),p i l[i]
 |0,_=>⟨[],rfl,fun i h=>absurd h (by simp)⟩
 |m+1,h=>by
  obtain⟨l,h1,h2⟩:=QcK m fun i hi=>h i (by omega)
  obtain⟨r,hr⟩:=h m (by omega);refine⟨l++[r],by simp[h1],fun i hi=>?_⟩;rw[List.getElem_append];split
  ·exact h2 i _
  ·have:i=m:=by simp at hi;omega
   subst this;simpa[h1] using hr
theorem VRs.app{g:Gam}{a b:List AV}{x y:List Value}(h:VRs g a x)(k:VRs g b y):VRs g (a++b) (x++y):=by
 refine⟨by simp[h.len,k.len],fun i h1 h2=>?_⟩;rw[List.getElem_append,List.getElem_append];by_cases c:i<a.length
 ·rw[dif_pos c,dif_pos (by rw[←h.len];exact c)];exact h.val i _ _
 ·rw[dif_neg c,dif_neg (by rw[←h.len];exact c)];have e:i-a.length=i-x.length:=by rw[h.len]
  have:=k.val (i-a.length) (by simp at h1;omega) (by rw[e];simp at h2;have:=h.len;omega);simpa[e] using this
theorem VRs.flat{g:Gam}:∀(l:List (List AV))(m:List (List Value)),l.length=m.length→(∀i (h1:i<l.length)(h2:i<m.length),VRs g l[i] m[i])→VRs g l.flatten m.flatten
 | [],[],_,_=>⟨rfl,fun i h1=>absurd h1 (by simp)⟩
 |a::l,x::m,hl,h=>by
  rw[List.flatten_cons,List.flatten_cons];exact(h 0 (by simp) (by simp)).app (VRs.flat l m (by simpa using hl) fun i h1 h2=>by
   have:=h (i+1) (by simpa using h1) (by simpa using h2)
   rwa [List.getElem_cons_succ,List.getElem_cons_succ]at this)
 | [],_::_,hl,_=>by simp at hl
 |_::_,[],hl,_=>by simp at hl
theorem mapM_at{α β:Type}{f:α→Option β}:∀{L:List α}{r:List β},L.mapM f=some r→r.length=L.length∧∀i (h:i<L.length)(h':i<r.length),f L[i]=some r[i]
 | [],r,h=>by
  simp at h;subst h;exact⟨rfl,fun i h=>absurd h (by simp)⟩
 |x::L,r,h=>by
  rw[List.mapM_cons]at h;simp only[bind,Option.bind_eq_some_iff,pure,oI]at h;obtain⟨y,hy,ys,hys,rfl⟩:=h;obtain⟨i1,i2⟩:=mapM_at hys;refine⟨by simp[i1],fun i h h'=>?_⟩;cases i with
  |zero=>exact hy
  |succ i=>simpa using i2 i (by simpa using h) (by simpa using h')
theorem Qi5{w:World}{base n:Nat}{a:Addr}{cs:List Value}(h:w.cells? base a n=some cs):cs.length=n∧∀j (h':j<cs.length),w.cell? (a.add j)=some cs[j]:=by
 unfold World.cells? at h;split at h
 ·obtain⟨h1,h2⟩:=mapM_at h;refine⟨by simpa using h1,fun j hj=>?_⟩;have:=h2 j (by simpa[h1] using hj) hj;simpa using this
 ·cases h
theorem Qnm{w:World}{a:Addr}{v:Value}(hv:w.cell? a=some v):a.spot=none:=by
 cases hsp:a.spot with
 |none=>rfl
 |some s =>
  simp only[World.cell?]at hv;split at hv
  ·simp[hsp]at hv
  ·cases hv
theorem add_zero'(a:Addr):a.add 0=a:=by unfold Addr.add;simp
theorem add_plain(β o i j:Nat):((⟨β,o,none⟩:Addr).add i).add j=⟨β,o+i+j,none⟩:=by
 unfold Addr.add;by_cases h0:i=0<;>by_cases h1:j=0<;>simp[h0,h1]
theorem QcH{P:Program}{S:List TypeId}(hS:Qnx P S=true){H:Type}{enc:TypeId×Value→H}{w:World}{held:Bool} :
  ∀(n:Nat)(t:TypeId)(cs:List Value)(x:DataW H×List MemPlace),S.contains t=true→DataW.trod enc P w 0 (fun _=>true) held n t cs=some x →
  ∃row,Rd P t x.1 row∧row.length=P.cellsOf t∧∀g:Gam,g.mem=Qbf w→VRs g row cs
 |0,t,cs,x,_,h=>by simp[DataW.trod]at h
 |n+1,t,cs,x,ht,h=>by
  have hc:=List.all_eq_true.1 hS t (List.contains_iff_mem.1 ht);cases hu:P.underlying t with
  |none=>simp[hu]at hc
  |some kd =>
   cases kd
   case bool =>
    simp only[hu,beq_iff_eq]at hc;obtain⟨b,rfl,rfl⟩:=DataW.trod_bool hu h;exact⟨_,.bool b hu,hc.symm,fun g _=>⟨rfl,fun i h1 h2=>by
     have:i=0:=by simp at h1;omega
     subst this;exact .bool b⟩⟩
   case int k =>
    simp only[hu,beq_iff_eq]at hc;obtain⟨z,rfl,rfl,hw⟩:=DataW.trod_int hu h;exact⟨_,.int k z hu hw,hc.symm,fun g _=>⟨rfl,fun i h1 h2=>by
     have:i=0:=by simp at h1;omega
     subst this;exact .int k z⟩⟩
   case string =>
    simp only[hu,beq_iff_eq]at hc;obtain⟨s,rfl,rfl,hs⟩:=DataW.trod_string hu h;exact⟨_,.str s hu hs,hc.symm,fun g _=>⟨rfl,fun i h1 h2=>by
     have:i=0:=by simp at h1;omega
     subst this;have:=VR.str (g:=g) s.size (natOf s) (QlT s);rw[Qid]at this;exact this⟩⟩
   case slice e =>
    simp only[hu,Bool.and_eq_true,beq_iff_eq,decide_eq_true_eq]at hc;obtain⟨⟨he,hc1⟩,hz⟩:=hc;rcases DataW.trod_slice hu h with⟨rfl,rfl⟩|⟨a,len,cap,elems,rest,n',hf,rfl,rfl,_,hl,hm,hlen,hel,hsp,_⟩
    ·exact⟨_,.nils hu,hc1.symm,fun g _=>⟨rfl,fun i h1 h2=>by
      have:i=0:=by simp at h1;omega
      subst this;exact .nilslice⟩⟩
    obtain rfl:n=n':=by omega
    by_cases c0:cap=0
    ·have e0:elems=[]:=List.eq_nil_of_length_eq_zero (by omega);subst e0;obtain rfl:len=0:=by omega
     subst c0;refine⟨[.empty],.empty _ hu,hc1.symm,fun g _=>⟨rfl,fun i h1 h2=>?_⟩⟩;have:i=0:=by simp at h1;omega
     subst this;exact .empty a
    have hcell:∃v,w.cell? a=some v:=by
     have key:∃z:DataW H×List MemPlace,(w.cells? 0 (a.add (0*P.cellsOf e)) (P.cellsOf e)).bind (DataW.trod enc P w 0 (fun _=>true) held n e)=some z:=by
      by_cases l0:0<len
      ·exact⟨elems[0],by rw[hel 0 l0,gE]⟩
      ·obtain⟨k1,k2⟩:=hsp rfl;obtain rfl:len=0:=by omega
       have:=k2 0 (by omega);rw[Nat.zero_add]at this;exact⟨rest[0]'(by omega),by rw[this,gE]⟩
     obtain⟨z,hz'⟩:=key;obtain⟨cs',k1,_⟩:=Option.bind_eq_some_iff.1 hz';rw[Nat.zero_mul,add_zero']at k1;obtain⟨k2,k3⟩:=Qi5 k1;have:=k3 0 (by omega);rw[add_zero']at this;exact⟨_,this⟩
    obtain⟨v0,hv0⟩:=hcell;have hsp0:=Qnm hv0;obtain⟨β,o,sp⟩:=a;have hsp1:sp=none:=hsp0;subst hsp1;obtain⟨L,hL,hp⟩:=QcK (p:=fun i (r:List AV×List Value)=>∀(h':i<elems.length),w.cells? 0 ((⟨β,o,none⟩:Addr).add (i*P.cellsOf e)) (P.cellsOf e)=some r.2∧Rd P e elems[i].1 r.1∧r.1.length=P.cellsOf e∧∀g:Gam,g.mem=Qbf w→VRs g r.1 r.2) len fun i hi=>by
     have key:=hel i hi;rw[gE (by omega)]at key;obtain⟨cs',k1,k2⟩:=Option.bind_eq_some_iff.1 key;obtain⟨row,r1,r2,r3⟩:=QcH hS n e cs' _ he k2;exact⟨(row,cs'),fun _=>⟨k1,r1,r2,r3⟩⟩
    refine⟨[.vec (L.map (·.1))],.vec _ _ _ hu (by simp[hL,hlen]) (by simp;omega) (fun i h1 h2=>?_) (fun r hr=>?_),hc1.symm,fun g hg=>⟨rfl,fun i h1 h2=>?_⟩⟩
    ·have h3:i<elems.length:=by simpa using h1
     simpa using(hp i (by simpa using h2) h3).2.1
    ·obtain⟨x,hx,rfl⟩:=List.mem_map.1 hr;obtain⟨i,hi,rfl⟩:=List.getElem_of_mem hx;exact(hp i hi (by omega)).2.2.1
    ·have:i=0:=by simp at h1;omega
     subst this;have hlen':(L.map (·.1)).length=len:=by simp[hL]
     have hcs:∀i (h:i<L.length),L[i].2.length=P.cellsOf e:=fun i h=>(Qi5 (hp i h (by omega)).1).1
     have:=VR.vec (g:=g) (L.map (·.1)) (L.map (·.2)) β o cap (P.cellsOf e) (by simp) (by omega) (fun i h1=>by
       have h1':i<L.length:=by simpa using h1
       simpa using(hp i h1' (by omega)).2.2.1) (fun i h1=>by
       have h1':i<L.length:=by simpa using h1
       simpa using hcs i h1') (fun i h1 h2 j h3 h4=>by
       have h1':i<L.length:=by simpa using h1
       have:=((hp i h1' (by omega)).2.2.2 g hg).val j (by simpa using h3) (by simpa using h4);simpa using this) (fun i h2 j h4=>by
       have h1':i<L.length:=by simpa using h2
       obtain⟨k1,k2⟩:=Qi5 (hp i h1' (by omega)).1;have h4':j<L[i].2.length:=by simpa using h4
       have:=k2 j h4';rw[add_plain]at this;rw[hg];simpa[Qbf] using this)
     rw[hlen']at this;exact this
   case struct fs =>
    simp only[hu,Bool.and_eq_true,beq_iff_eq,List.all_eq_true]at hc;obtain⟨hin,hrun⟩:=hc;obtain⟨xs,n',hf,rfl,hcl,hxl,hel⟩:=DataW.trod_struct hu h;obtain rfl:n=n':=by omega
    obtain⟨R,hR,hp⟩:=QcK (p:=fun i (r:List AV)=>∀(h:i<fs.size) (h':i<xs.length),Rd P fs[i].type xs[i].1 r∧∀g:Gam,g.mem=Qbf w→VRs g r ((cs.drop fs[i].offset).take (P.cellsOf fs[i].type))) fs.size fun i hi=>by
     have key:=hel i fs[i] (Array.getElem?_eq_getElem hi);rw[gE (by omega)]at key;obtain⟨row,r1,_,r3⟩:=QcH hS n _ _ _ (hin fs[i] (by simp)) key;exact⟨row,fun _ _=>⟨r1,r3⟩⟩
    have hv:∀g:Gam,g.mem=Qbf w→VRs g R.flatten cs:=fun g hg=>by
     have hfl:=fields_flatten cs fs.toList 0 _ hrun hcl;rw[List.drop_zero]at hfl;rw[←hfl];refine VRs.flat _ _ (by simp[hR]) fun i h1 h2=>?_
     have hi:i<fs.size:=by omega
     simpa using(hp i h1 hi (by omega)).2 g hg
    refine⟨R.flatten,.struct fs _ R hu (by simp[hxl]) hR (fun i h0 h1 h2=>?_),?_,hv⟩
    ·simpa using(hp i h2 h0 (by omega)).1
    ·rw[(hv (bareG (Qbf w)) rfl).len,hcl]
   all_goals (simp[hu]at hc;done)
end Go.Ab
namespace Go.Ab.L26
namespace B
abbrev t(n:Nat):AOpd:=.tmp n
abbrev i(n:Int):AOpd:=.const (.int .i64 n)
abbrev o(d:Nat)(a:AOp):AOper:=⟨some d,.op a,none⟩
abbrev n(a:AOp):AOper:=⟨none,.op a,none⟩
abbrev y(d g:Nat)(a:AOp):AOper:=⟨some d,.op a,some (g,true)⟩
abbrev z(d g:Nat)(a:AOp):AOper:=⟨some d,.op a,some (g,false)⟩
abbrev m(d s:Nat):AOper:=⟨some d,.op (.mov (.tmp s)),none⟩
abbrev l(d s:Nat):AOper:=⟨some d,.op (.load1 (.tmp s)),none⟩
abbrev f(d k s:Nat):AOper:=⟨some d,.op (.fieldAddr k (.tmp s)),none⟩
abbrev x(d n a b:Nat):AOper:=⟨some d,.op (.indexAddr n (.tmp a) (.tmp b)),none⟩
abbrev k(d f:Nat)(a:List AOpd):AOper:=⟨some d,.call (.const (.func f [] [])) a,none⟩
end B
open B
open Go Go.Ab AV AO AC AOp AOpd AAct
def b8:AC:=
  .seq (.region [o 1 (.box 51 (t 0)),o 2 (.mov (.const (.nilslice))),o 3 (.mov (i 0))])
  (.seq (.seq (.region [o 9 (.loadN 2 (t 1)),k 10 17 [(t 9)],m 4 10])
  (.seq (.region [m 11 4,o 12 (.bin .neq 9 (t 11) (i 0))])
  (.cond (t 12)
   (.seq (.region [m 13 4,o 2 (.mov (.const (.nilslice))),m 3 13])
   (.ret))
   (.skip))))
  (.seq (.region [f 14 0 1,l 15 14,k 16 22 [(t 15)],m 5 16])
  (.seq (.region [o 6 (.mov (.const (.nilslice)))])
  (.seq (.seq (.region [f 17 1 1,l 18 17,o 19 (.len 1 (t 18)),o 20 (.mov (i 0))])
  (.block 0 (.loop (.seq (.region [o 21 (.bin .lss 9 (t 20) (t 19))])
    (.seq (.cond (t 21)
     (.skip)
     (.exit 0))
    (.seq (.block 1 (.seq (.region [x 22 5 18 20,o 23 (.loadN 5 (t 22)),o 8 (.alloc 83 [.bool false,.int .i64 0,.int .i64 0,.int .i64 0,.nilslice]),n (.store 5 (t 8) (t 23))])
     (.region [m 24 6,m 25 5,o 26 (.loadN 5 (t 8)),k 27 23 [(t 25),(t 26)],o 28 (.buildSlice 1 [.nilslice,.int .i64 0] [(0,2,(t 27))]),o 29 (.append 2 32 86 (t 24) (t 28)),m 6 29])))
    (.region [o 30 (.bin .add 9 (t 20) (i 1)),m 20 30])))))))
  (.seq (.region [m 31 6,m 2 31,o 3 (.mov (i 0))])
  (.ret))))))
def fn8:AFun:=⟨32,[.tmp 2,.tmp 3],b8⟩
def b13:AC:=
  .seq (.region [o 4 (.mov (.const (.bool false)))])
  (.seq (.seq (.region [m 6 0,o 7 (.len 1 (t 6)),m 8 1,o 9 (.len 1 (t 8)),o 10 (.bin .neq 9 (t 7) (t 9))])
  (.cond (t 10)
   (.seq (.region [o 4 (.mov (.const (.bool false)))])
   (.ret))
   (.skip)))
  (.seq (.seq (.region [o 5 (.mov (i 0))])
  (.block 0 (.loop (.seq (.seq (.region [m 11 5,m 12 0,o 13 (.len 1 (t 12)),o 14 (.bin .lss 9 (t 11) (t 13))])
    (.cond (t 14)
     (.skip)
     (.exit 0)))
    (.seq (.block 1 (.seq (.draw [⟨[m 17 0,m 18 5,x 19 1 17 18,l 20 19,m 21 1,m 22 5,x 23 1 21 22,l 24 23,o 25 (.bin .neq 9 (t 20) (t 24))],none,[],[]⟩] [])
     (.cond (t 25)
      (.seq (.region [o 4 (.mov (.const (.bool false)))])
      (.ret))
      (.skip))))
    (.region [m 15 5,o 16 (.bin .add 9 (t 15) (i 1)),m 5 16]))))))
  (.seq (.region [o 4 (.mov (.const (.bool true)))])
  (.ret))))
def fn13:AFun:=⟨26,[.tmp 4],b13⟩
def b14:AC:=
  .seq (.region [o 1 (.box 51 (t 0)),o 2 (.mov (.const (.nilslice))),o 3 (.mov (i 0))])
  (.seq (.seq (.region [o 10 (.loadN 2 (t 1)),k 11 17 [(t 10)],m 4 11])
  (.seq (.region [m 12 4,o 13 (.bin .neq 9 (t 12) (i 0))])
  (.cond (t 13)
   (.seq (.region [m 14 4,o 2 (.mov (.const (.nilslice))),m 3 14])
   (.ret))
   (.skip))))
  (.seq (.region [f 15 0 1,l 16 15,k 17 22 [(t 16)],m 5 17])
  (.seq (.region [o 6 (.mov (.const (.nilslice)))])
  (.seq (.seq (.region [f 18 1 1,l 19 18,o 20 (.len 1 (t 19)),o 21 (.mov (i 0))])
  (.block 0 (.loop (.seq (.region [o 22 (.bin .lss 9 (t 21) (t 20))])
    (.seq (.cond (t 22)
     (.skip)
     (.exit 0))
    (.seq (.block 1 (.seq (.region [x 23 5 19 21,o 24 (.loadN 5 (t 23)),o 8 (.alloc 83 [.bool false,.int .i64 0,.int .i64 0,.int .i64 0,.nilslice]),n (.store 5 (t 8) (t 24))])
     (.seq (.region [m 25 5,o 26 (.build [.bool false,.bool false,.bool false,.bool false,.bool false,.bool false] []),o 27 (.nilCheck (t 25)),f 28 0 27,f 29 7 28,n (.store 6 (t 29) (t 26))])
     (.seq (.region [m 30 5,o 31 (.loadN 5 (t 8)),k 32 23 [(t 30),(t 31)],o 9 (.alloc 87 [.nilslice,.int .i64 0]),n (.store 2 (t 9) (t 32))])
     (.seq (.region [f 33 0 8,l 34 33,o 35 (.un .not (t 34))])
     (.cond (t 35)
      (.region [m 36 6,f 37 1 9,l 38 37,o 39 (.buildSlice 1 [.int .i64 0] [(0,1,(t 38))]),o 40 (.append 1 8 6 (t 36) (t 39)),m 6 40])
      (.skip)))))))
    (.region [o 41 (.bin .add 9 (t 21) (i 1)),m 21 41])))))))
  (.seq (.region [m 42 6,m 2 42,o 3 (.mov (i 0))])
  (.ret))))))
def fn14:AFun:=⟨43,[.tmp 2,.tmp 3],b14⟩
def b17:AC:=
  .seq (.region [o 1 (.box 51 (t 0)),o 2 (.mov (i 0))])
  (.seq (.block 0 (.seq (.region [f 5 0 1,l 6 5,o 7 (.len 1 (t 6)),o 8 (.bin .gtr 9 (t 7) (i 6)),m 9 8,z 10 9 (.fieldAddr 1 (t 1)),z 11 9 (.load1 (t 10)),z 12 9 (.len 1 (t 11)),z 13 9 (.bin .gtr 9 (t 12) (i 10)),o 14 (.pick (t 9) (.const (.bool true)) (t 13)),m 4 14])
   (.cond (t 4)
    (.seq (.region [o 2 (.mov (i 3))])
    (.ret))
    (.seq (.region [f 16 0 1,l 17 16,o 18 (.len 1 (t 17)),o 19 (.bin .eql 9 (t 18) (i 0)),m 15 19])
    (.cond (t 15)
     (.seq (.region [o 2 (.mov (i 6))])
     (.ret))
     (.skip))))))
  (.seq (.seq (.region [f 20 0 1,l 21 20,k 22 33 [(t 21),(.const (.func 34 [] []))],m 3 22])
  (.seq (.region [m 23 3,o 24 (.bin .neq 9 (t 23) (i 0))])
  (.cond (t 24)
   (.seq (.region [m 25 3,m 2 25])
   (.ret))
   (.skip))))
  (.seq (.region [f 26 1 1,l 27 26,o 28 (.makeFunc 37 [] [(t 1)]),k 29 36 [(t 27),(t 28)],m 2 29])
  (.ret))))
def fn17:AFun:=⟨30,[.tmp 2],b17⟩
def b22:AC:=
 .seq (.region [o 2 (.mov (.const (.nilptr)))])
 (.seq (.region [m 4 0,k 5 41 [(t 4)],o 6 (.build [.nilslice,.int .i64 0,.int .i64 0,.int .i64 0,.int .i64 0,.int .i64 0,.int .i64 0,.bool false,.bool false,.bool false,.bool false,.bool false,.bool false,.bool false,.bool false,.bool false,.bool false,.bool false,.bool false,.bool false,.bool false,.bool false,.bool false,.bool false,.bool false,.bool false,.bool false,.bool false,.bool false,.bool false,.bool false,.bool false,.bool false,.bool false,.bool false,.bool false,.bool false,.bool false,.bool false,.bool false,.bool false,.bool false,.bool false,.bool false,.bool false,.bool false,.bool false,.bool false,.bool false] [(0,1,(t 5))]),o 7 (.build [.nilslice,.int .i64 0,.int .i64 0,.int .i64 0,.int .i64 0,.int .i64 0,.int .i64 0,.bool false,.bool false,.bool false,.bool false,.bool false,.bool false,.bool false,.bool false,.bool false,.bool false,.bool false,.bool false,.bool false,.bool false,.bool false,.bool false,.bool false,.bool false,.bool false,.bool false,.bool false,.bool false,.bool false,.bool false,.bool false,.bool false,.bool false,.bool false,.bool false,.bool false,.bool false,.bool false,.bool false,.bool false,.bool false,.bool false,.bool false,.bool false,.bool false,.bool false,.bool false,.bool false,.nilslice,.nilmap] [(0,49,(t 6))]),o 8 (.box 133 (t 7)),m 3 8])
 (.seq (.region [m 9 3,o 10 (.makeMap),m 11 3,o 12 (.makeFunc 42 [(t 11)] []),n (.mapUpdate 0 (t 10) (i 0) (t 12)),m 13 3,o 14 (.makeFunc 43 [(t 13)] []),n (.mapUpdate 0 (t 10) (i 1) (t 14)),m 15 3,o 16 (.makeFunc 44 [(t 15)] []),n (.mapUpdate 0 (t 10) (i 2) (t 16)),m 17 3,o 18 (.makeFunc 45 [(t 17)] []),n (.mapUpdate 0 (t 10) (i 3) (t 18)),m 19 3,o 20 (.makeFunc 46 [(t 19)] []),n (.mapUpdate 0 (t 10) (i 4) (t 20)),m 21 10,o 22 (.nilCheck (t 9)),f 23 50 22,n (.store 1 (t 23) (t 21))])
 (.seq (.region [m 24 3,m 2 24])
 (.ret))))
def fn22:AFun:=⟨25,[.tmp 2],b22⟩
def b23:AC:=
  .seq (.region [o 3 (.box 83 (t 1)),o 4 (.alloc 87 [.nilslice,.int .i64 0])])
  (.seq (.seq (.region [f 6 0 3,l 7 6])
  (.cond (t 7)
   (.seq (.region [m 8 0,f 9 1 3,l 10 9,k 11 47 [(t 8),(t 10)]])
   (.seq (.draw [⟨[m 12 0,o 13 (.nilCheck (t 12)),f 14 0 13,f 15 0 14,l 16 15,f 17 1 3,l 18 17,f 19 2 3,o 20 (.loadN 3 (t 19)),x 21 3 16 18],some (n (.store 3 (t 21) (t 20))),[],[]⟩,⟨[],none,[],[]⟩] [])
   (.seq (.region [o 22 (.build [.nilslice,.int .i64 0] []),n (.store 2 (t 4) (t 22))])
   (.ret))))
   (.skip)))
  (.seq (.region [m 23 0,o 24 (.nilCheck (t 23)),f 25 49 24,n (.store 1 (t 25) (.const (.nilslice)))])
  (.seq (.region [m 26 0,f 27 1 3,l 28 27,k 29 48 [(t 26),(t 28)],m 5 29])
  (.seq (.region [m 30 0,o 31 (.nilCheck (t 30)),f 32 49 31,l 33 32,k 34 49 [(t 33)],m 35 5,o 36 (.build [.nilslice,.int .i64 0] [(0,1,(t 34)),(1,1,(t 35))]),n (.store 2 (t 4) (t 36))])
  (.ret)))))
def fn23:AFun:=⟨37,[.cell 4 true 2],b23⟩
def b33:AC:=
  .seq (.region [o 4 (.mov (i 0))])
  (.seq (.seq (.region [m 8 0,o 9 (.len 1 (t 8)),o 10 (.mov (i 0))])
  (.block 0 (.loop (.seq (.region [o 11 (.bin .lss 9 (t 10) (t 9))])
    (.seq (.cond (t 11)
     (.skip)
     (.exit 0))
    (.seq (.block 1 (.seq (.region [m 12 10,x 13 3 8 10,o 14 (.loadN 3 (t 13)),o 6 (.alloc 79 [.int .i64 0,.int .i64 0,.nilslice]),m 5 12,n (.store 3 (t 6) (t 14))])
     (.seq (.region [m 15 1,m 16 5,o 17 (.loadN 3 (t 6)),⟨some 18,.call (t 15) [(t 16),(t 17)],none⟩,m 7 18])
     (.seq (.region [m 19 7,o 20 (.bin .neq 9 (t 19) (i 0))])
     (.cond (t 20)
      (.seq (.region [m 21 7,m 4 21])
      (.ret))
      (.skip))))))
    (.region [o 22 (.bin .add 9 (t 10) (i 1)),m 10 22])))))))
  (.seq (.region [o 4 (.mov (i 0))])
  (.ret)))
def fn33:AFun:=⟨23,[.tmp 4],b33⟩
def b34:AC:=
 .seq (.region [o 3 (.box 79 (t 1)),o 4 (.mov (i 0))])
 (.seq (.region [o 5 (.loadN 3 (t 3)),m 6 0,k 7 35 [(t 5),(t 6)],m 4 7])
 (.ret))
def fn34:AFun:=⟨8,[.tmp 4],b34⟩
def b35:AC:=
  .seq (.region [o 2 (.box 79 (t 0)),o 4 (.mov (i 0))])
  (.scope (.seq (.seq (.region [o 8 (.loadN 3 (t 2)),k 9 76 [(t 8)],o 10 (.un .not (t 9))])
  (.cond (t 10)
   (.seq (.region [o 4 (.mov (i 3))])
   (.ret))
   (.skip)))
  (.seq (.region [o 11 (.loadN 3 (t 2)),o 12 (.buildSlice 1 [.int .i64 0,.int .i64 0,.nilslice] [(0,3,(t 11))]),m 5 12])
  (.seq (.label 0)
  (.seq (.block 0 (.loop (.seq (.seq (.region [m 13 5,o 14 (.len 1 (t 13)),o 15 (.bin .gtr 9 (t 14) (i 0))])
    (.cond (t 15)
     (.skip)
     (.exit 0)))
    (.block 1 (.seq (.region [m 16 5,o 17 (.indexAddr 3 (t 16) (i 0)),o 18 (.loadN 3 (t 17)),o 6 (.alloc 79 [.int .i64 0,.int .i64 0,.nilslice]),n (.store 3 (t 6) (t 18))])
     (.seq (.seq (.region [o 19 (.loadN 3 (t 6)),m 20 1,k 21 77 [(t 19),(t 20)],m 7 21])
     (.seq (.region [m 22 7,o 23 (.bin .neq 9 (t 22) (i 0))])
     (.cond (t 23)
      (.seq (.region [m 24 7,m 4 24])
      (.ret))
      (.skip))))
     (.seq (.seq (.region [f 25 2 6,l 26 25,o 27 (.len 1 (t 26)),o 28 (.bin .eql 9 (t 27) (i 0))])
     (.cond (t 28)
      (.seq (.region [m 29 5,o 30 (.slice 3 (t 29) (some (i 1)) none none),m 5 30])
      (.exit 1))
      (.skip)))
     (.draw [⟨[f 31 2 6,l 32 31,m 34 5,o 35 (.slice 3 (t 34) (some (i 1)) none none)],some (k 33 41 [(t 32)]),[],[34,35]⟩,⟨[],some (o 36 (.append 3 40 78 (t 33) (t 35))),[],[]⟩,⟨[],some (m 5 36),[],[]⟩,⟨[],none,[],[]⟩] []))))))))
  (.seq (.region [o 4 (.mov (i 0))])
  (.ret)))))))
def fn35:AFun:=⟨37,[.tmp 4],b35⟩
def b36:AC:=
  .seq (.region [o 4 (.mov (i 0))])
  (.seq (.seq (.region [m 8 0,o 9 (.len 1 (t 8)),o 10 (.mov (i 0))])
  (.block 0 (.loop (.seq (.region [o 11 (.bin .lss 9 (t 10) (t 9))])
    (.seq (.cond (t 11)
     (.skip)
     (.exit 0))
    (.seq (.block 1 (.seq (.region [m 12 10,x 13 5 8 10,o 14 (.loadN 5 (t 13)),o 6 (.alloc 83 [.bool false,.int .i64 0,.int .i64 0,.int .i64 0,.nilslice]),m 5 12,n (.store 5 (t 6) (t 14))])
     (.seq (.region [m 15 1,m 16 5,o 17 (.loadN 5 (t 6)),⟨some 18,.call (t 15) [(t 16),(t 17)],none⟩,m 7 18])
     (.seq (.region [m 19 7,o 20 (.bin .neq 9 (t 19) (i 0))])
     (.cond (t 20)
      (.seq (.region [m 21 7,m 4 21])
      (.ret))
      (.skip))))))
    (.region [o 22 (.bin .add 9 (t 10) (i 1)),m 10 22])))))))
  (.seq (.region [o 4 (.mov (i 0))])
  (.ret)))
def fn36:AFun:=⟨23,[.tmp 4],b36⟩
def b37:AC:=
  .seq (.region [o 4 (.box 83 (t 1)),o 5 (.mov (i 0))])
  (.seq (.block 0 (.seq (.region [f 7 1 4,l 8 7,o 9 (.bin .lss 9 (t 8) (i 0)),m 10 9,z 11 10 (.fieldAddr 1 (t 4)),z 12 10 (.load1 (t 11)),z 13 10 (.fieldAddr 0 (t 2)),z 14 10 (.load1 (t 13)),z 15 10 (.len 1 (t 14)),z 16 10 (.bin .geq 9 (t 12) (t 15)),o 17 (.pick (t 10) (.const (.bool true)) (t 16)),m 6 17])
   (.cond (t 6)
    (.seq (.region [o 5 (.mov (i 6))])
    (.ret))
    (.seq (.region [f 19 0 4,l 20 19,m 18 20])
    (.cond (t 18)
     (.seq (.region [f 21 2 4,o 22 (.loadN 3 (t 21)),f 23 1 4,l 24 23,k 25 35 [(t 22),(t 24)],m 5 25])
     (.ret))
     (.seq (.region [f 27 2 4,o 28 (.loadN 3 (t 27)),k 29 38 [(t 28)],o 30 (.un .not (t 29)),m 26 30])
     (.cond (t 26)
      (.seq (.region [o 5 (.mov (i 1))])
      (.ret))
      (.skip))))))))
  (.seq (.region [o 5 (.mov (i 0))])
  (.ret)))
def fn37:AFun:=⟨31,[.tmp 5],b37⟩
def b38:AC:=
 .seq (.region [o 1 (.box 79 (t 0)),o 2 (.mov (.const (.bool false)))])
 (.seq (.region [f 3 0 1,l 4 3,o 5 (.bin .eql 9 (t 4) (i 0)),m 6 5,y 7 6 (.fieldAddr 1 (t 1)),y 8 6 (.load1 (t 7)),y 9 6 (.bin .eql 9 (t 8) (i 0)),o 10 (.pick (t 6) (t 9) (.const (.bool false))),m 11 10,y 12 11 (.fieldAddr 2 (t 1)),y 13 11 (.load1 (t 12)),y 14 11 (.len 1 (t 13)),y 15 11 (.bin .eql 9 (t 14) (i 0)),o 16 (.pick (t 11) (t 15) (.const (.bool false))),m 2 16])
 (.ret))
def fn38:AFun:=⟨17,[.tmp 2],b38⟩
def b41:AC:=
  .seq (.region [o 2 (.mov (.const (.nilslice)))])
  (.seq (.seq (.region [m 3 0,o 4 (.bin .eql 2 (t 3) (.const (.nilslice)))])
  (.cond (t 4)
   (.seq (.region [o 2 (.mov (.const (.nilslice)))])
   (.ret))
   (.skip)))
  (.seq (.region [o 5 (.buildSlice 0 [] []),m 6 0,o 7 (.append 3 40 78 (t 5) (t 6)),m 2 7])
  (.ret)))
def fn41:AFun:=⟨8,[.tmp 2],b41⟩
def b42:AC:=
 .seq (.region [o 4 (.box 79 (t 1)),o 6 (.mov (i 0))])
 (.seq (.region [f 7 1 4,l 8 7,m 6 8])
 (.ret))
def fn42:AFun:=⟨9,[.tmp 6],b42⟩
def b43:AC:=
 .seq (.region [o 4 (.box 79 (t 1)),o 6 (.mov (i 0))])
 (.seq (.region [m 7 2,f 8 1 4,l 9 8,⟨some 10,.call (t 7) [(t 9)],none⟩,m 6 10])
 (.ret))
def fn43:AFun:=⟨11,[.tmp 6],b43⟩
def b44:AC:=
 .seq (.region [o 4 (.box 79 (t 1)),o 6 (.mov (i 0))])
 (.seq (.region [m 9 0,f 10 2 4,l 11 10,o 12 (.indexAddr 3 (t 11) (i 0)),o 13 (.loadN 3 (t 12)),m 14 2,k 15 80 [(t 9),(t 13),(t 14)],m 7 15])
 (.seq (.region [m 16 0,f 17 2 4,l 18 17,o 19 (.indexAddr 3 (t 18) (i 1)),o 20 (.loadN 3 (t 19)),m 21 2,k 22 80 [(t 16),(t 20),(t 21)],m 8 22])
 (.seq (.region [m 23 7,m 24 8,o 25 (.bin .add 9 (t 23) (t 24)),k 26 81 [(t 25)],m 6 26])
 (.ret))))
def fn44:AFun:=⟨27,[.tmp 6],b44⟩
def b45:AC:=
 .seq (.region [o 4 (.box 79 (t 1)),o 6 (.mov (i 0))])
 (.seq (.region [m 9 0,f 10 2 4,l 11 10,o 12 (.indexAddr 3 (t 11) (i 0)),o 13 (.loadN 3 (t 12)),m 14 2,k 15 80 [(t 9),(t 13),(t 14)],m 7 15])
 (.seq (.region [m 16 0,f 17 2 4,l 18 17,o 19 (.indexAddr 3 (t 18) (i 1)),o 20 (.loadN 3 (t 19)),m 21 2,k 22 80 [(t 16),(t 20),(t 21)],m 8 22])
 (.seq (.region [m 23 7,m 24 8,o 25 (.bin .mul 9 (t 23) (t 24)),k 26 81 [(t 25)],m 6 26])
 (.ret))))
def fn45:AFun:=⟨27,[.tmp 6],b45⟩
def b46:AC:=
  .seq (.region [o 4 (.box 79 (t 1)),o 6 (.mov (i 0))])
  (.seq (.seq (.region [m 7 0,f 8 2 4,l 9 8,o 10 (.indexAddr 3 (t 9) (i 0)),o 11 (.loadN 3 (t 10)),m 12 2,k 13 80 [(t 7),(t 11),(t 12)],o 14 (.bin .lss 9 (t 13) (i 0))])
  (.cond (t 14)
   (.seq (.region [m 15 0,f 16 2 4,l 17 16,o 18 (.indexAddr 3 (t 17) (i 1)),o 19 (.loadN 3 (t 18)),m 20 2,k 21 80 [(t 15),(t 19),(t 20)],m 6 21])
   (.ret))
   (.skip)))
  (.seq (.region [m 22 0,f 23 2 4,l 24 23,o 25 (.indexAddr 3 (t 24) (i 2)),o 26 (.loadN 3 (t 25)),m 27 2,k 28 80 [(t 22),(t 26),(t 27)],m 6 28])
  (.ret)))
def fn46:AFun:=⟨29,[.tmp 6],b46⟩
def b47:AC:=
  .seq (.region [o 2 (.box 109 (t 0))])
  (.seq (.seq (.region [l 5 2,o 6 (.nilCheck (t 5)),f 7 0 6,f 8 7 7,o 9 (.loadN 6 (t 8)),o 10 (.build [.bool false,.bool false,.bool false,.bool false,.bool false,.bool false] []),o 11 (.bin .eql 4105 (t 9) (t 10))])
  (.cond (t 11)
   (.ret)
   (.skip)))
  (.seq (.region [l 12 2,m 13 1,o 14 (.nilCheck (t 12)),f 15 0 14,f 16 7 15,o 17 (.indexArr 6 1 (t 16) (t 13)),n (.store 1 (t 17) (.const (.bool false)))])
  (.seq (.region [l 18 2,m 19 1,k 20 82 [(t 18),(t 19)]])
  (.block 0 (.rangeFunc (t 20) [21] (.region [m 4 21])
    (.block 1 (.region [l 22 2,m 23 4,k 24 47 [(t 22),(t 23)]])))))))
def fn47:AFun:=⟨25,[],b47⟩
def b48:AC:=
  .seq (.region [o 2 (.box 109 (t 0)),o 4 (.mov (i 0))])
  (.seq (.seq (.region [l 8 2,m 9 1,o 10 (.nilCheck (t 8)),f 11 0 10,f 12 7 11,o 13 (.indexArr 6 1 (t 12) (t 9)),l 14 13])
  (.cond (t 14)
   (.seq (.region [l 15 2,m 16 1,o 17 (.nilCheck (t 15)),f 18 0 17,f 19 1 18,o 20 (.indexArr 6 1 (t 19) (t 16)),l 21 20,m 4 21])
   (.ret))
   (.skip)))
  (.seq (.draw [⟨[l 22 2,l 23 2,o 24 (.nilCheck (t 23)),f 25 49 24,l 26 25,m 27 1,o 28 (.buildSlice 1 [.int .i64 0] [(0,1,(t 27))])],some (o 29 (.append 1 8 6 (t 26) (t 28))),[l 22 2],[22]⟩,⟨[o 30 (.nilCheck (t 22)),f 31 49 30],some (n (.store 1 (t 31) (t 29))),[],[]⟩,⟨[],none,[],[]⟩] [])
  (.seq (.region [o 5 (.alloc 119 [.bool false,.bool false,.bool false,.bool false,.bool false,.bool false])])
  (.seq (.region [o 6 (.mov (.const (.nilFunc)))])
  (.seq (.region [o 32 (.makeFunc 83 [] [(t 5),(t 2)]),m 6 32])
  (.seq (.draw [⟨[l 33 2,l 34 2,o 35 (.nilCheck (t 34)),f 36 0 35,f 37 0 36,l 38 37,m 39 1,x 40 3 38 39,o 41 (.loadN 3 (t 40)),m 42 6],some (k 43 80 [(t 33),(t 41),(t 42)]),[],[]⟩,⟨[m 7 43],none,[],[]⟩] [])
  (.seq (.draw [⟨[l 44 2,m 45 1,l 46 2,m 47 1,l 48 2,m 49 1,m 50 7,o 51 (.loadN 6 (t 5)),o 52 (.nilCheck (t 44)),f 53 0 52,f 54 1 53,o 55 (.indexArr 6 1 (t 54) (t 45)),o 56 (.nilCheck (t 46)),f 57 0 56,f 58 7 57,o 60 (.nilCheck (t 48)),f 61 0 60,f 62 13 61],some (n (.store 1 (t 55) (t 50))),[l 46 2,l 48 2,o 51 (.loadN 6 (t 5))],[46,47,48,49,51,56,57,58,60,61,62]⟩,⟨[o 59 (.indexArr 6 1 (t 58) (t 47))],some (n (.store 1 (t 59) (.const (.bool true)))),[l 48 2,o 51 (.loadN 6 (t 5))],[48,49,51,60,61,62]⟩,⟨[o 63 (.indexArr 6 6 (t 62) (t 49))],some (n (.store 6 (t 63) (t 51))),[],[]⟩,⟨[],none,[],[]⟩] [])
  (.seq (.region [m 64 7,m 4 64])
  (.ret)))))))))
def fn48:AFun:=⟨65,[.tmp 4],b48⟩
def b49:AC:=
  .seq (.region [o 2 (.mov (.const (.nilslice)))])
  (.seq (.seq (.region [m 3 0,o 4 (.bin .eql 2 (t 3) (.const (.nilslice)))])
  (.cond (t 4)
   (.seq (.region [o 2 (.mov (.const (.nilslice)))])
   (.ret))
   (.skip)))
  (.seq (.region [o 5 (.buildSlice 0 [] []),m 6 0,o 7 (.append 1 8 6 (t 5) (t 6)),m 2 7])
  (.ret)))
def fn49:AFun:=⟨8,[.tmp 2],b49⟩
def b76:AC:=
 .seq (.region [o 1 (.box 79 (t 0)),o 2 (.mov (.const (.bool false)))])
 (.seq (.region [o 3 (.alloc 7 [.int .i64 0]),n (.store 1 (t 3) (i 12))])
 (.seq (.region [o 4 (.alloc 189 [.nilFunc])])
 (.seq (.region [o 5 (.makeFunc 101 [] [(t 3),(t 4)]),n (.store 1 (t 4) (t 5))])
 (.seq (.region [l 6 4,o 7 (.loadN 3 (t 1)),⟨some 8,.call (t 6) [(t 7)],none⟩,m 2 8])
 (.ret)))))
def fn76:AFun:=⟨9,[.tmp 2],b76⟩
def b77:AC:=
  .seq (.region [o 2 (.box 79 (t 0)),o 4 (.mov (i 0))])
  (.seq (.region [o 5 (.mov (i 2)),o 6 (.mov (i 0)),o 7 (.mov (i 0))])
  (.seq (.seq (.region [f 8 0 2,l 9 8])
  (.block 0 (.seq (.region [o 11 (.bin .eql 9 (t 9) (i 0)),m 10 11])
   (.cond (t 10)
    (.region [o 5 (.mov (i 0)),o 6 (.mov (.const (.int .i64 (-99)))),o 7 (.mov (i 99))])
    (.seq (.region [o 13 (.bin .eql 9 (t 9) (i 1)),m 12 13])
    (.cond (t 12)
     (.draw [⟨[f 14 1 2,l 15 14,o 16 (.minMax true [(t 15),(i 0)]),o 5 (.mov (i 0)),m 7 16],none,[],[]⟩] [])
     (.seq (.region [o 18 (.bin .eql 9 (t 9) (i 4)),m 17 18])
     (.cond (t 17)
      (.region [o 5 (.mov (i 3))])
      (.seq (.seq (.region [o 20 (.bin .eql 9 (t 9) (i 2)),m 19 20])
      (.cond (t 19)
       (.skip)
       (.region [o 21 (.bin .eql 9 (t 9) (i 3)),m 19 21])))
      (.cond (t 19)
       (.skip)
       (.seq (.region [o 4 (.mov (i 1))])
       (.ret))))))))))))
  (.seq (.block 1 (.seq (.region [f 23 1 2,l 24 23,m 25 6,o 26 (.bin .lss 9 (t 24) (t 25)),m 27 26,z 28 27 (.fieldAddr 1 (t 2)),z 29 27 (.load1 (t 28)),z 30 27 (.mov (t 7)),z 31 27 (.bin .gtr 9 (t 29) (t 30)),o 32 (.pick (t 27) (.const (.bool true)) (t 31)),m 22 32])
   (.cond (t 22)
    (.seq (.region [o 4 (.mov (i 1))])
    (.ret))
    (.seq (.region [f 34 2 2,l 35 34,o 36 (.len 1 (t 35)),m 37 5,o 38 (.bin .neq 9 (t 36) (t 37)),m 33 38])
    (.cond (t 33)
     (.seq (.region [o 4 (.mov (i 7))])
     (.ret))
     (.seq (.region [f 40 0 2,l 41 40,o 42 (.bin .eql 9 (t 41) (i 1)),m 43 42,y 44 43 (.fieldAddr 1 (t 2)),y 45 43 (.load1 (t 44)),y 46 43 (.mov (t 1)),y 47 43 (.bin .geq 9 (t 45) (t 46)),o 48 (.pick (t 43) (t 47) (.const (.bool false))),m 39 48])
     (.cond (t 39)
      (.seq (.region [o 4 (.mov (i 6))])
      (.ret))
      (.skip))))))))
  (.seq (.region [o 4 (.mov (i 0))])
  (.ret)))))
def fn77:AFun:=⟨49,[.tmp 4],b77⟩
def b80:AC:=
 .seq (.region [o 4 (.box 79 (t 1)),o 6 (.mov (i 0))])
 (.seq (.draw [⟨[m 7 0,o 8 (.nilCheck (t 7)),f 9 50 8,l 10 9,f 11 0 4,l 12 11,o 13 (.lookup 0 (.nilFunc) (t 10) (t 12) false),o 14 (.loadN 3 (t 4)),m 15 2],some ⟨some 16,.call (t 13) [(t 14),(t 15)],none⟩,[],[]⟩,⟨[m 6 16],none,[],[]⟩] [])
 (.ret))
def fn80:AFun:=⟨17,[.tmp 6],b80⟩
def b81:AC:=
  .seq (.region [o 2 (.mov (i 0))])
  (.seq (.region [m 3 0,o 4 (.bin .rem 9 (t 3) (i 1999999999)),m 0 4])
  (.seq (.seq (.region [m 5 0,o 6 (.bin .lss 9 (t 5) (.const (.int .i64 (-999999999))))])
  (.cond (t 6)
   (.seq (.region [m 7 0,o 8 (.bin .add 9 (t 7) (i 1999999999)),m 2 8])
   (.ret))
   (.skip)))
  (.seq (.seq (.region [m 9 0,o 10 (.bin .gtr 9 (t 9) (i 999999999))])
  (.cond (t 10)
   (.seq (.region [m 11 0,o 12 (.bin .sub 9 (t 11) (i 1999999999)),m 2 12])
   (.ret))
   (.skip)))
  (.seq (.region [m 13 0,m 2 13])
  (.ret)))))
def fn81:AFun:=⟨14,[.tmp 2],b81⟩
def b82:AC:=
 .seq (.region [o 2 (.box 109 (t 0)),o 3 (.box 7 (t 1)),o 4 (.mov (.const (.nilFunc)))])
 (.seq (.region [o 5 (.makeFunc 105 [] [(t 2),(t 3)]),m 4 5])
 (.ret))
def fn82:AFun:=⟨6,[.tmp 4],b82⟩
def b83:AC:=
 .seq (.region [o 4 (.mov (i 0))])
 (.seq (.region [m 5 0,o 6 (.indexArr 6 1 (t 1) (t 5)),n (.store 1 (t 6) (.const (.bool true)))])
 (.seq (.region [l 7 2,m 8 0,k 9 48 [(t 7),(t 8)],m 4 9])
 (.ret)))
def fn83:AFun:=⟨10,[.tmp 4],b83⟩
def b101:AC:=
 .seq (.region [o 3 (.box 79 (t 0)),o 4 (.mov (.const (.bool false)))])
 (.seq (.region [l 5 1,o 6 (.bin .sub 9 (t 5) (i 1)),n (.store 1 (t 1) (t 6))])
 (.seq (.region [l 7 1,o 8 (.bin .geq 9 (t 7) (i 0)),m 9 8,y 10 9 (.fieldAddr 2 (t 3)),y 11 9 (.load1 (t 10)),y 12 9 (.makeFunc 103 [] [(t 2)]),⟨some 13,.call (.const (.func 102 [] [])) [(t 11),(t 12)],some (9,true)⟩,y 14 9 (.un .not (t 13)),o 15 (.pick (t 9) (t 14) (.const (.bool false))),m 4 15])
 (.ret)))
def fn101:AFun:=⟨16,[.tmp 4],b101⟩
def b102:AC:=
 .seq (.region [o 4 (.mov (.const (.bool false)))])
 (.seq (.region [m 5 0,m 6 1,k 7 157 [(t 5),(t 6)],o 8 (.bin .geq 9 (t 7) (i 0)),m 4 8])
 (.ret))
def fn102:AFun:=⟨9,[.tmp 4],b102⟩
def b103:AC:=
 .seq (.region [o 2 (.box 79 (t 0)),o 3 (.mov (.const (.bool false)))])
 (.seq (.region [l 4 1,o 5 (.loadN 3 (t 2)),⟨some 6,.call (t 4) [(t 5)],none⟩,o 7 (.un .not (t 6)),m 3 7])
 (.ret))
def fn103:AFun:=⟨8,[.tmp 3],b103⟩
def b105:AC:=
  .seq (.region [l 5 1,o 6 (.nilCheck (t 5)),f 7 0 6,f 8 0 7,l 9 8,o 10 (.len 1 (t 9)),o 11 (.mov (i 0))])
  (.block 0 (.loop (.seq (.region [o 12 (.bin .lss 9 (t 11) (t 10))])
    (.seq (.cond (t 12)
     (.skip)
     (.exit 0))
    (.seq (.block 1 (.seq (.region [m 13 11,m 4 13])
     (.seq (.draw [⟨[l 14 1,m 15 4,o 16 (.nilCheck (t 14)),f 17 0 16,f 18 7 17,o 19 (.indexArr 6 1 (t 18) (t 15)),l 20 19,m 21 20,y 22 21 (.load1 (t 1)),y 23 21 (.mov (t 4)),y 24 21 (.load1 (t 2)),y 25 21 (.nilCheck (t 22)),y 26 21 (.fieldAddr 0 (t 25)),y 27 21 (.fieldAddr 13 (t 26)),y 28 21 (.indexArr 6 6 (t 27) (t 23)),y 29 21 (.indexArr 6 1 (t 28) (t 24)),y 30 21 (.load1 (t 29)),o 31 (.pick (t 21) (t 30) (.const (.bool false))),m 32 31,y 33 32 (.mov (t 0)),y 34 32 (.mov (t 4))],some ⟨some 35,.call (t 33) [(t 34)],some (32,true)⟩,[],[]⟩,⟨[y 36 32 (.un .not (t 35)),o 37 (.pick (t 32) (t 36) (.const (.bool false)))],none,[],[]⟩] [])
     (.cond (t 37)
      (.ret)
      (.skip)))))
    (.region [o 38 (.bin .add 9 (t 11) (i 1)),m 11 38]))))))
def fn105:AFun:=⟨39,[],b105⟩
def b106:AC:=
  .seq (.region [o 2 (.mov (i 0))])
  (.seq (.region [m 4 0,o 5 (.bin .rem 9 (t 4) (i 1999999999)),m 3 5])
  (.seq (.seq (.region [m 6 3,o 7 (.bin .gtr 9 (t 6) (i 999999999))])
  (.cond (t 7)
   (.seq (.region [m 8 3,o 9 (.bin .sub 9 (t 8) (i 1999999999)),m 2 9])
   (.ret))
   (.skip)))
  (.seq (.seq (.region [m 10 3,o 11 (.bin .lss 9 (t 10) (.const (.int .i64 (-999999999))))])
  (.cond (t 11)
   (.seq (.region [m 12 3,o 13 (.bin .add 9 (t 12) (i 1999999999)),m 2 13])
   (.ret))
   (.skip)))
  (.seq (.region [m 14 3,m 2 14])
  (.ret)))))
def fn106:AFun:=⟨15,[.tmp 2],b106⟩
def b157:AC:=
  .seq (.region [o 4 (.mov (i 0))])
  (.seq (.seq (.region [m 6 0,o 7 (.len 1 (t 6)),o 8 (.mov (i 0))])
  (.block 0 (.loop (.seq (.region [o 9 (.bin .lss 9 (t 8) (t 7))])
    (.seq (.cond (t 9)
     (.skip)
     (.exit 0))
    (.seq (.block 1 (.seq (.region [m 10 8,m 5 10])
     (.seq (.region [m 11 1,m 12 0,m 13 5,x 14 3 12 13,o 15 (.loadN 3 (t 14)),⟨some 16,.call (t 11) [(t 15)],none⟩])
     (.cond (t 16)
      (.seq (.region [m 17 5,m 4 17])
      (.ret))
      (.skip)))))
    (.region [o 18 (.bin .add 9 (t 8) (i 1)),m 8 18])))))))
  (.seq (.region [o 4 (.mov (.const (.int .i64 (-1))))])
  (.ret)))
def fn157:AFun:=⟨19,[.tmp 4],b157⟩
end Go.Ab.L26
namespace Go.Ab.L26
open Go Go.Ab
inductive CT where
 |mk (k n:Int)(l:List CT)
instance:Inhabited CT:=⟨.mk 0 0 []⟩
inductive Rep (N:Nat)(h:AH):CT→List AV→Prop
 |mk (k n:Int)(l:List CT)(lv:AV)(rows:List (List AV))(hs:Sl N h 3 lv rows)(hl:l.length=rows.length)(hr:∀i (h1:i<l.length)(h2:i<rows.length),Rep N h l[i] rows[i]):Rep N h (.mk k n l) [.int .i64 k,.int .i64 n,lv]
theorem Rep.low{N:Nat}{h h':AH}(hL:Low N h h'){T:CT}{row:List AV}(H:Rep N h T row):Rep N h' T row:=by
 induction H with
 |mk k n l lv rows hs hl hr ih=>exact .mk k n l lv rows (hs.low hL) hl ih
theorem Rep.mono{N M:Nat}{h:AH}(hN:N≤M){T:CT}{row:List AV}(H:Rep N h T row):Rep M h T row:=by
 induction H with
 |mk k n l lv rows hs hl hr ih=>exact .mk k n l lv rows (hs.mono hN) hl ih
theorem Rep.inv{N:Nat}{h:AH}{k n:Int}{l:List CT}{row:List AV}(H:Rep N h (.mk k n l) row):∃lv rows,row=[.int .i64 k,.int .i64 n,lv]∧Sl N h 3 lv rows∧l.length=rows.length∧∀i (h1:i<l.length)(h2:i<rows.length),Rep N h l[i] rows[i]:=by
 cases H with
 |mk _ _ _ lv rows hs hl hr=>exact⟨lv,rows,rfl,hs,hl,hr⟩
theorem Rep.row3{N:Nat}{h:AH}{T:CT}{row:List AV}(H:Rep N h T row):∃k n l lv,T=.mk k n l∧row=[.int .i64 k,.int .i64 n,lv]∧lenS lv=some l.length∧lv.one=true:=by
 cases H with
 |mk k n l lv rows hs hl hr =>
  refine⟨k,n,l,lv,rfl,rfl,by rw[hl];exact hs.len,?_⟩;have:=hs.len;cases lv<;>first|rfl|(simp[lenS]at this)
def wrapS(n:Int):Int:=
 if n.tmod 1999999999 < -999999999 then IntKind.i64.wrap (n.tmod 1999999999+1999999999) else if n.tmod 1999999999>999999999 then IntKind.i64.wrap (n.tmod 1999999999-1999999999) else n.tmod 1999999999
def nodeD(k n:Int)(len:Nat)(cell:Int):Int:=
 if k=0 then (if n < -99∨99<n then 1 else if len≠0 then 7 else 0)
 else if k=1 then (if n<0 then 1 else if len≠0 then 7 else if cell≤n then 6 else 0)
 else if k=4 then (if n≠0 then 1 else if len≠3 then 7 else 0)
 else if k=2∨k=3 then (if n≠0 then 1 else if len≠2 then 7 else 0)
 else 1
section
variable{F:FuncId→Option AFun}{M:Memo}
theorem bRem{h:AH}{q:Nat}{j:IntKind}{m n:Int}(hn:n≠0):binF h .rem q (.int j m) (.int j n)=some (.int j (m.tmod n),h):=by simp[binF,binA,Qcp,hn]
theorem QlD(hF:F 81=some fn81)(n:Int)(h:AH):Ctr F M 81 [.int .i64 n] h (fun v h'=>v=.int .i64 (wrapS n)∧h'=h) (fun _ _=>False):=by
 refine Ctr.intro hF fun caller cs G hk _=>W_ok 300 _ _ _ ?_
 simp only[fn81,b81,Nat.reduceAdd,Nat.reduceSub,wS,bRem (show (1999999999:Int)≠0 by decide)];refine wcD (fun c1=>?_) (fun c1=>?_)
 ·simp only[c1,decide_true,wS,Nat.reduceAdd];exact Qag ⟨rfl,rfl,rfl,rfl⟩ hF rfl (hk _ _ ⟨by simp[wrapS,c1],rfl⟩)
 ·simp only[c1,decide_false,wS,Nat.reduceAdd];refine wcD (fun c2=>?_) (fun c2=>?_)<;>simp only[c2,decide_true,decide_false,wS,Nat.reduceAdd] <;>
   exact Qag ⟨rfl,rfl,rfl,rfl⟩ hF rfl (hk _ _ ⟨by simp[wrapS,c1,c2],rfl⟩)
theorem QpP(hF:F 106=some fn106)(n:Int)(h:AH):Ctr F M 106 [.int .i64 n] h (fun v h'=>v=.int .i64 (wrapS n)∧h'=h) (fun _ _=>False):=by
 refine Ctr.intro hF fun caller cs G hk _=>W_ok 300 _ _ _ ?_
 simp only[fn106,b106,Nat.reduceAdd,Nat.reduceSub,wS,bRem (show (1999999999:Int)≠0 by decide)];refine wcD (fun c1=>?_) (fun c1=>?_)
 ·have c3:¬n.tmod 1999999999 < -999999999:=by omega
  simp only[c1,decide_true,wS,Nat.reduceAdd];exact Qag ⟨rfl,rfl,rfl,rfl⟩ hF rfl (hk _ _ ⟨by simp[wrapS,c1,c3],rfl⟩)
 ·simp only[c1,decide_false,wS,Nat.reduceAdd];refine wcD (fun c2=>?_) (fun c2=>?_)<;>simp only[c2,decide_true,decide_false,wS,Nat.reduceAdd] <;>
   exact Qag ⟨rfl,rfl,rfl,rfl⟩ hF rfl (hk _ _ ⟨by simp[wrapS,c1,c2],rfl⟩)
theorem node_ctr(hF:F 77=some fn77){k n cell:Int}{lv:AV}{len:Nat}{h:AH}(u:Up h h)(hl:lenS lv=some len) :
  Ctr F M 77 [.agg [.int .i64 k,.int .i64 n,lv],.int .i64 cell] h (fun v h'=>v=.int .i64 (nodeD k n len cell)∧Up h h') (fun _ _=>False):=by
 refine Ctr.intro hF fun caller cs G hk _=>W_ok 300 _ _ _ ?_
 simp only[fn77,b77,Nat.reduceAdd,Nat.reduceSub,wS];refine wBoxA (Wk.start u) fun b1 h1 w1=>?_
 have g1:=w1.get 0 rfl;simp only[wS,Nat.reduceAdd,ldP g1,rdC,Nat.reduceLeDiff,if_true];have hz:∀m:Nat,((len:Int)≠(m:Int))=(len≠m):=fun m=>by simp only[ne_eq,Int.natCast_inj]
 have h0:=hz 0;have h2:=hz 2;have h3:=hz 3;simp only[Int.ofNat_zero,Int.cast_ofNat_Int]at h0 h2 h3;have fin:∀{t:List AV} {ki:List AItem} {e:Int},aev t (.tmp 4)=.int .i64 e→e=nodeD k n len cell→Reach F M ((⟨77,[],.normal,none,caller::cs⟩:Ctx).at t (.code .ret::ki) h1) G:=fun {t ki e} e1 e2 =>
  Qag ⟨rfl,rfl,rfl,rfl⟩ hF (show QaA h1 t [.tmp 4]=some (.int .i64 (nodeD k n len cell)) by rw[←e2,←e1];rfl) (hk _ _ ⟨rfl,w1.up⟩)
 have e4:((len:Int)=0)=(len=0):=by simp
 have e5:((len:Int)=3)=(len=3):=by simp;omega
 have e6:((len:Int)=2)=(len=2):=by simp;omega
 have nt:(¬True)=False:=by simp
 have nf:(¬False)=True:=by simp
 have hm:¬(max n 0<n)∨n<0:=by omega
 by_cases c0:k=0
 ·rcases Classical.propComplete (len=0) with c3|c3<;>by_cases c1:n < -99<;>by_cases c2:99<n <;>
   simp only[c0,c1,c2,c3,hl,e4,nt,nf,ne_eq,Int.reduceEq,decide_true,decide_false,wS,Nat.reduceAdd,ldP g1,rdC,Nat.reduceLeDiff,if_true]<;>exact fin rfl (by simp[nodeD,c0,c1,c2,c3])
 by_cases k1:k=1
 ·by_cases c1:n<0
  ·simp only[c0,k1,c1,hl,e4,nt,nf,ne_eq,Int.reduceEq,eMM,mmMax,List.map,decide_true,decide_false,wS,AOp.makes,Nat.reduceAdd,ldP g1,rdC,Nat.reduceLeDiff,if_true];exact fin rfl (by simp[nodeD,c0,k1,c1])
  have hm':¬max n 0<n:=by omega
  rcases Classical.propComplete (len=0) with c3|c3<;>by_cases c4:cell≤n <;>
   simp only[c0,k1,c1,c3,c4,hm',hl,e4,nt,nf,ne_eq,Int.reduceEq,eMM,mmMax,List.map,decide_true,decide_false,wS,AOp.makes,Nat.reduceAdd,ldP g1,rdC,Nat.reduceLeDiff,if_true]<;>exact fin rfl (by simp[nodeD,c0,k1,c1,c3,c4])
 by_cases c1:n<0
 ·have c2:n≠0:=by omega
  by_cases k4:k=4<;>by_cases k2:k=2<;>by_cases k3:k=3 <;>
   simp only[c0,k1,k2,k3,k4,c1,hl,e4,nt,nf,ne_eq,Int.reduceEq,decide_true,decide_false,wS,Nat.reduceAdd,ldP g1,rdC,Nat.reduceLeDiff,if_true]<;>exact fin rfl (by simp[nodeD,c0,k1,k2,k3,k4,c2])
 by_cases c2:0<n
 ·have c3:n≠0:=by omega
  by_cases k4:k=4<;>by_cases k2:k=2<;>by_cases k3:k=3 <;>
   simp only[c0,k1,k2,k3,k4,c1,c2,hl,e4,nt,nf,ne_eq,Int.reduceEq,decide_true,decide_false,wS,Nat.reduceAdd,ldP g1,rdC,Nat.reduceLeDiff,if_true]<;>exact fin rfl (by simp[nodeD,c0,k1,k2,k3,k4,c3])
 have c3:n=0:=by omega
 by_cases k4:k=4
 ·rcases Classical.propComplete (len=3) with c4|c4 <;>
   simp only[c0,k1,k4,c1,c2,c4,e5,hl,nt,nf,ne_eq,Int.reduceEq,decide_true,decide_false,wS,Nat.reduceAdd,ldP g1,rdC,Nat.reduceLeDiff,if_true]<;>exact fin rfl (by simp[nodeD,c0,k1,k4,c3,c4])
 by_cases k2:k=2
 ·rcases Classical.propComplete (len=2) with c4|c4 <;>
   simp only[c0,k1,k4,k2,c1,c2,c4,e6,hl,nt,nf,ne_eq,Int.reduceEq,decide_true,decide_false,wS,Nat.reduceAdd,ldP g1,rdC,Nat.reduceLeDiff,if_true]<;>exact fin rfl (by simp[nodeD,c0,k1,k4,k2,c3,c4])
 by_cases k3:k=3
 ·rcases Classical.propComplete (len=2) with c4|c4 <;>
   simp only[c0,k1,k4,k2,k3,c1,c2,c4,e6,hl,nt,nf,ne_eq,Int.reduceEq,decide_true,decide_false,wS,Nat.reduceAdd,ldP g1,rdC,Nat.reduceLeDiff,if_true]<;>exact fin rfl (by simp[nodeD,c0,k1,k4,k2,k3,c3,c4])
 simp only[c0,k1,k4,k2,k3,hl,nt,nf,ne_eq,Int.reduceEq,decide_true,decide_false,wS,Nat.reduceAdd,ldP g1,rdC,Nat.reduceLeDiff,if_true];exact fin rfl (by simp[nodeD,c0,k1,k4,k2,k3])
end
mutual
def sizeC:CT→Nat
 | .mk _ _ l=>1+sizes l
def sizes:List CT→Nat
 | []=>0
 |t::l=>sizeC t+sizes l
end
theorem QcR{n:Int}(h1 : -9223372036854775808≤n)(h2:n≤9223372036854775807):IntKind.i64.wrap n=n:=by
 unfold IntKind.wrap;simp[IntKind.signed,IntKind.bits];omega
theorem QaW{i:Nat}(h:i<4611686018427387904):IntKind.i64.wrap ((i:Int)+1)=((i+1:Nat):Int):=by
 rw[QcR (by omega) (by omega)];omega
def Qhl(F:FuncId→Option AFun)(M:Memo)(T:CT):Prop:=
 ∀(N bc bf:Nat) (left:Nat) (h:AH) (row:List AV),Up h h→N≤h.next→N≤bc→bc<h.next→bf<h.next→bf≠bc→left≤12→h.get bc=some (.cells [.int .i64 left] (some 7) 0 [])→h.get bf=some (.cells [.func 101 [] [.ptr bc 0,.ptr bf 0]] (some 189) 0 [])→Rep N h T row →
  Ctr F M 101 [.agg row,.ptr bc 0,.ptr bf 0] h (fun v h'=>v=.bool (decide (sizeC T≤left))∧UpS (· = bc) h h'∧∃e:Int,h'.get bc=some (.cells [.int .i64 e] (some 7) 0 [])∧(sizeC T≤left→e=left-sizeC T)) (fun _ _=>False)
section
variable{F:FuncId→Option AFun}{M:Memo}
theorem rep3{N:Nat}{h:AH}{T:CT}{row:List AV}(H:Rep N h T row):∃x y z,row=[x,y,z]∧row.all AV.one=true:=by
 obtain⟨k,n,l,lv,_,rfl,_,ho⟩:=H.row3;exact⟨_,_,_,rfl,by show (true&&(true&&(lv.one&&true)))=true;rw[ho];rfl⟩
theorem QmZ(hF:F 103=some fn103)(hM:∀as,M 101 as=none){T:CT}(ih:Qhl F M T)(N bc bf:Nat)(left:Nat)(h:AH)(row:List AV)(u:Up h h)(hN:N≤h.next)(hNc:N≤bc)(hbc:bc<h.next)(hbf:bf<h.next)(hne:bf≠bc)(hl:left≤12)(gc:h.get bc=some (.cells [.int .i64 left] (some 7) 0 []))
  (gf:h.get bf=some (.cells [.func 101 [] [.ptr bc 0,.ptr bf 0]] (some 189) 0 []))(hr:Rep N h T row) :
  Ctr F M 103 [.agg row,.ptr bf 0] h (fun v h'=>v=.bool (!decide (sizeC T≤left))∧UpS (· = bc) h h'∧∃e:Int,h'.get bc=some (.cells [.int .i64 e] (some 7) 0 [])∧(sizeC T≤left→e=left-sizeC T)) (fun _ _=>False):=by
 refine Ctr.intro hF fun caller cs G hk _=>W_ok 300 _ _ _ ?_
 obtain⟨x,y,z,rfl,ho⟩:=rep3 hr;simp only[fn103,b103,Nat.reduceAdd,Nat.reduceSub,wS];refine wBoxA (Wk.start u) fun b1 h1 w1=>?_
 have g1:=w1.get 0 rfl;have gf1:=w1.up.keep bf hbf;rw[gf]at gf1;have gc1:=w1.up.keep bc hbc;rw[gc]at gc1;simp only[wS,wC,Nat.reduceAdd,ldP g1,ldP gf1,rdC,Nat.reduceLeDiff,if_true];have hc:=w1.up.next
 refine cCall 300 (hM _) (ih N bc bf left h1 _ ⟨Nat.le_refl _,fun _ _=>rfl,w1.up.wf⟩ (by omega) hNc (by omega) (by omega) hne hl gc1 gf1 (hr.low (w1.up.low hN))) fun v h' hv=>?_
 obtain⟨rfl,u2,e,g2,he⟩:=hv;simp only[wS,wC,Nat.reduceAdd];exact Qag ⟨rfl,rfl,rfl,rfl⟩ hF rfl (hk _ _ ⟨rfl,w1.up.s.trans u2,e,g2,he⟩)
theorem QdC{l:List CT}{i:Nat}(hi:i<l.length):sizes (l.drop i)=sizeC l[i]+sizes (l.drop (i+1)):=by
 rw[List.drop_eq_getElem_cons hi,sizes]
theorem idx_ctr(hF:F 157=some fn157)(hF1:F 103=some fn103)(hM:∀as,M 101 as=none)(hM1:∀as,M 103 as=none){l:List CT}(ih:∀i (hi:i<l.length),Qhl F M l[i])(N bc bf:Nat)(left:Nat)(h:AH)(lv:AV)(rows:List (List AV))(u:Up h h)(hN:N≤h.next)(hNc:N≤bc)(hbc:bc<h.next)(hbf:bf<h.next)(hne:bf≠bc)(hle:left≤12)
  (gc:h.get bc=some (.cells [.int .i64 left] (some 7) 0 []))(gf:h.get bf=some (.cells [.func 101 [] [.ptr bc 0,.ptr bf 0]] (some 189) 0 []))(hs:Sl N h 3 lv rows)(hl:l.length=rows.length)(hlt:l.length<4611686018427387904)(hr:∀i (h1:i<l.length)(h2:i<rows.length),Rep N h l[i] rows[i]) :
  Ctr F M 157 [lv,.func 103 [] [.ptr bf 0]] h (fun v h'=>∃i:Int,v=.int .i64 i∧(i≥0↔¬sizes l≤left)∧UpS (· = bc) h h'∧∃e:Int,h'.get bc=some (.cells [.int .i64 e] (some 7) 0 [])∧(sizes l≤left→e=left-sizes l)) (fun _ _=>False):=by
 refine Ctr.intro hF fun caller cs G hk _=>W_ok 300 _ _ _ ?_
 simp only[fn157,b157,Nat.reduceAdd,Nat.reduceSub,wS,hs.len];refine Qbv (fun m t h5=>∃(i:Nat) (lf:Nat) (x5 x10 x11 x12 x13 x14 x15 x16 x17 x19:AV),m=l.length-i∧i≤l.length∧UpS (· = bc) h h5∧h5.get bc=some (.cells [.int .i64 lf] (some 7) 0 [])∧lf≤left∧(sizes l≤left↔sizes (l.drop i)≤lf)∧(sizes l≤left→(lf:Int)-sizes (l.drop i)=left-sizes l) ∧
   t=[lv,.func 103 [] [.ptr bf 0],.undef,.undef,.int .i64 0,x5,lv,.int .i64 (rows.length:Nat),.int .i64 (i:Nat),x10,x11,x12,x13,x14,x15,x16,x17,.undef,x19]) (l.length-0) ?_ ?_
 ·exact⟨0,left,_,_,_,_,_,_,_,_,_,_,rfl,Nat.zero_le _,.refl u.wf,gc,Nat.le_refl _,Iff.rfl,fun _=>rfl,rfl⟩
 ·rintro m t h5 ⟨i,lf,x5,x10,x11,x12,x13,x14,x15,x16,x17,x19,rfl,hi,u5,gc5,hlf,hiff,heq,rfl⟩ ih5;refine W_ok 300 _ _ _ ?_;have L5:=u5.low hN fun b e=>e ▸ hNc
  have hn5:=u5.next
  by_cases c:i<l.length
  ·have hd:decide ((i:Int)<(rows.length:Int))=true:=decide_eq_true (by omega);obtain⟨p,q1,q2,q3⟩:=hs.row i (by omega);have q4:=(QaH L5 q2 3).trans q3;simp only[wS,wC,hd,q1,q4,Nat.reduceAdd];have gf5:=u5.keep bf hbf hne;rw[gf]at gf5;refine cCall 300 (hM1 _) (QmZ hF1 hM (ih i c) N bc bf lf h5 rows[i] ⟨Nat.le_refl _,fun _ _=>rfl,u5.wf⟩ (by omega) hNc (by omega) (by omega) hne (by omega) gc5 gf5 ((hr i c (by omega)).low L5)) fun v h6 hv=>?_
   obtain⟨rfl,u6,e,g6,he⟩:=hv;rw[QdC c]at hiff heq;by_cases c2:sizeC l[i]≤lf
   ·simp only[wS,wC,Nat.reduceAdd,c2,decide_true,Bool.not_true,QaW (show i<4611686018427387904 by omega)];have he':e=((lf-sizeC l[i]:Nat):Int):=by rw[he c2];omega
    subst he';exact ih5 _ _ _ (by omega) ⟨i+1,lf-sizeC l[i],_,_,_,_,_,_,_,_,_,_,rfl,c,u5.trans u6,g6,by omega,by omega,by omega,rfl⟩
   ·simp only[wS,wC,Nat.reduceAdd,c2,decide_false,Bool.not_false];exact Qag ⟨rfl,rfl,rfl,rfl⟩ hF rfl (hk _ _ ⟨i,rfl,by omega,u5.trans u6,e,g6,by omega⟩)
  ·have hd:decide ((i:Int)<(rows.length:Int))=false:=decide_eq_false (by omega);have hz:l.drop i=[]:=by simp;omega
   rw[hz]at hiff heq;simp only[sizes]at hiff heq;simp only[wS,wC,hd,Nat.reduceAdd];exact Qag ⟨rfl,rfl,rfl,rfl⟩ hF rfl (hk _ _ ⟨-1,rfl,by omega,u5,lf,gc5,by omega⟩)
theorem cont_ctr(hF2:F 102=some fn102)(hF:F 157=some fn157)(hF1:F 103=some fn103)(hM:∀as,M 101 as=none)(hM1:∀as,M 103 as=none)(hM2:∀as,M 157 as=none){l:List CT}(ih:∀i (hi:i<l.length),Qhl F M l[i])(N bc bf:Nat)(left:Nat)(h:AH)(lv:AV)(rows:List (List AV))(u:Up h h)(hN:N≤h.next)(hNc:N≤bc)(hbc:bc<h.next)(hbf:bf<h.next)(hne:bf≠bc)(hle:left≤12)
  (gc:h.get bc=some (.cells [.int .i64 left] (some 7) 0 []))(gf:h.get bf=some (.cells [.func 101 [] [.ptr bc 0,.ptr bf 0]] (some 189) 0 []))(hs:Sl N h 3 lv rows)(hl:l.length=rows.length)(hlt:l.length<4611686018427387904)(hr:∀i (h1:i<l.length)(h2:i<rows.length),Rep N h l[i] rows[i]) :
  Ctr F M 102 [lv,.func 103 [] [.ptr bf 0]] h (fun v h'=>v=.bool (!decide (sizes l≤left))∧UpS (· = bc) h h'∧∃e:Int,h'.get bc=some (.cells [.int .i64 e] (some 7) 0 [])∧(sizes l≤left→e=left-sizes l)) (fun _ _=>False):=by
 refine Ctr.intro hF2 fun caller cs G hk _=>W_ok 300 _ _ _ ?_
 simp only[fn102,b102,Nat.reduceAdd,Nat.reduceSub,wS,wC];refine cCall 300 (hM2 _) (idx_ctr hF hF1 hM hM1 ih N bc bf left h lv rows u hN hNc hbc hbf hne hle gc gf hs hl hlt hr) fun v h1 hv=>?_
 obtain⟨i,rfl,hi,u1,e,g1,he⟩:=hv;simp only[wS,wC,Nat.reduceAdd];exact Qag ⟨rfl,rfl,rfl,rfl⟩ hF2 rfl (hk _ _ ⟨show AV.bool (decide (0≤i))=_ by rw[←decide_not];congr 1;exact decide_eq_decide.2 hi,u1,e,g1,he⟩)
structure FnA (F:FuncId→Option AFun)(M:Memo):Prop where
 f101:F 101=some fn101
 f102:F 102=some fn102
 f103:F 103=some fn103
 f157:F 157=some fn157
 f76:F 76=some fn76
 m101:∀as,M 101 as=none
 m102:∀as,M 102 as=none
 m103:∀as,M 103 as=none
 m157:∀as,M 157 as=none
mutual
def Short:CT→Prop
 | .mk _ _ l=>l.length<4611686018427387904∧Shorts l
def Shorts:List CT→Prop
 | []=>True
 |t::l=>Short t∧Shorts l
end
theorem Shorts.at:∀{l:List CT},Shorts l→∀i (hi:i<l.length),Short l[i]
 |_::_,h,0,_=>h.1
 |_::_,h,i+1,hi=>Shorts.at h.2 i (by simpa using hi)
theorem count_mk(H:FnA F M){k n:Int}{l:List CT}(hlt:l.length<4611686018427387904)(ih:∀i (hi:i<l.length),Qhl F M l[i]):Qhl F M (.mk k n l):=by
 intro N bc bf left h row u hN hNc hbc hbf hne hle gc gf hr;refine Ctr.intro H.f101 fun caller cs G hk _=>W_ok 300 _ _ _ ?_
 obtain⟨lv,rows,rfl,hs,hl,hrr⟩:=hr.inv;simp only[fn101,b101,Nat.reduceAdd,Nat.reduceSub,wS];refine wBoxA (Wk.start u) fun b1 h1 w1=>?_
 have g1:=w1.get 0 rfl;have hn1:=w1.up.next
 have gf1:=w1.up.keep bf hbf;rw[gf]at gf1;have gc1:=w1.up.keep bc hbc;rw[gc]at gc1;have hb1:=(w1.objs.at 0 rfl).2.2;simp only[wS,wC,Nat.reduceAdd,ldP gc1,rdC,Nat.reduceLeDiff,if_true,QcR (show -9223372036854775808≤(left:Int)-1 by omega) (show (left:Int)-1≤9223372036854775807 by omega)];refine wStA (l':=[.int .i64 (left-1)]) gc1 rfl ?_;have hbc1:bc<h1.next:=by omega
 have u2:UpS (· = bc) h (h1.put bc (.cells [.int .i64 (left-1)] (some 7) 0 [])):=(w1.up.s (S:=(· = bc))).put (.inr rfl) hbc1 _;have g2:=get_put h1 bc (.cells [.int .i64 (left-1)] (some 7) 0 []);have g12:=(Qab h1 (.cells [.int .i64 (left-1)] (some 7) 0 []) (show b1≠bc by omega)).trans g1;have gf2:=(Qab h1 (.cells [.int .i64 (left-1)] (some 7) 0 []) hne).trans gf1;have n2:(h1.put bc (.cells [.int .i64 (left-1)] (some 7) 0 [])).next=h1.next:=rfl
 generalize h1.put bc (.cells [.int .i64 (left-1)] (some 7) 0 [])=h2 at u2 g2 g12 gf2 n2 ⊢;simp only[wS,wC,Nat.reduceAdd,ldP g2,rdC,Nat.reduceLeDiff,if_true];have hsz:sizeC (.mk k n l)=1+sizes l:=by rw[sizeC]
 rw[hsz]at hk;by_cases c:(0:Int)≤(left:Int)-1
 ·simp only[wS,wC,Nat.reduceAdd,c,decide_true,ldP g12,rdC,Nat.reduceLeDiff,if_true,List.map];have L2:=u2.low hN fun b e=>e ▸ hNc
  have e1:((left:Int)-1)=((left-1:Nat):Int):=by omega
  rw[e1]at g2;refine cCall 300 (H.m102 _) (cont_ctr H.f102 H.f157 H.f103 H.m101 H.m103 H.m157 ih N bc bf (left-1) h2 lv rows ⟨Nat.le_refl _,fun _ _=>rfl,u2.wf⟩ (by omega) hNc (by omega) (by omega) hne (by omega) g2 gf2 (hs.low L2) hl hlt fun i h1 h2=>(hrr i h1 h2).low L2) fun v h3 hv=>?_
  obtain⟨rfl,u3,e,g3,he⟩:=hv;simp only[wS,wC,Nat.reduceAdd];exact Qag ⟨rfl,rfl,rfl,rfl⟩ H.f101 rfl (hk _ _ ⟨show AV.bool (!!decide (sizes l≤left-1))=.bool (decide (1+sizes l≤left)) by rw[Bool.not_not];congr 1;exact decide_eq_decide.2 (by omega),u2.trans u3,e,g3,by omega⟩)
 ·simp only[wS,wC,Nat.reduceAdd,c,decide_false];exact Qag ⟨rfl,rfl,rfl,rfl⟩ H.f101 rfl (hk _ _ ⟨show AV.bool false=.bool (decide (1+sizes l≤left)) by rw[decide_eq_false (show ¬1+sizes l≤left by omega)],u2,_,g2,by omega⟩)
mutual
theorem Qkc(H:FnA F M):∀T:CT,Short T→Qhl F M T
 | .mk k n l,hs=>count_mk H hs.1 (Qia H l hs.2)
theorem Qia(H:FnA F M):∀l:List CT,Shorts l→∀i (hi:i<l.length),Qhl F M l[i]
 |t::l,hs,0,_=>Qkc H t hs.1
 |t::l,hs,i+1,hi=>Qia H l hs.2 i (by simpa using hi)
end
theorem Qno(H:FnA F M){T:CT}(hsT:Short T){N:Nat}{h:AH}{row:List AV}(u:Up h h)(hN:N≤h.next)(hr:Rep N h T row) :
  Ctr F M 76 [.agg row] h (fun v h'=>v=.bool (decide (sizeC T≤12))∧Up h h') (fun _ _=>False):=by
 refine Ctr.intro H.f76 fun caller cs G hk _=>W_ok 300 _ _ _ ?_
 obtain⟨x,y,z,rfl,ho⟩:=rep3 hr;simp only[fn76,b76,Nat.reduceAdd,Nat.reduceSub,wS];refine wBoxA (Wk.start u) fun b1 h1 w1=>?_
 simp only[wS,wC,Nat.reduceAdd];refine Qfj w1 fun b2 h2 w2=>?_
 simp only[wS,wC,Nat.reduceAdd];refine wSt (l':=[.int .i64 12]) w2 0 rfl rfl fun h3 w3=>?_
 simp only[wS,wC,Nat.reduceAdd];refine Qfj w3 fun b4 h4 w4=>?_
 simp only[wS,wC,Nat.reduceAdd,List.map];refine wSt (l':=[.func 101 [] [.ptr b2 0,.ptr b4 0]]) w4 0 rfl rfl fun h5 w5=>?_
 have g5:=w5.get 0 rfl;have g52:=w5.get 1 rfl;have g51:=w5.get 2 rfl;have k1:=(w5.objs.at 0 rfl)
 have k2:=(w5.objs.at 1 rfl)
 have k3:=w5.objs.2.2.2.1 (b2,_) (List.mem_cons_self ..);simp only[wS,wC,Nat.reduceAdd,ldP g5,ldP g51,rdC,Nat.reduceLeDiff,if_true];refine cCall 300 (H.m101 _) (Qkc H T hsT N b2 b4 12 h5 _ ⟨Nat.le_refl _,fun _ _=>rfl,w5.up.wf⟩ (by have:=w5.up.next;omega) (by omega) k2.2.1 k1.2.1 (by simp only at k3;omega) (by omega) g52 g5 (hr.low (w5.up.low hN))) fun v h6 hv=>?_
 obtain⟨rfl,u6,e,g6,he⟩:=hv;simp only[wS,wC,Nat.reduceAdd];refine Qag ⟨rfl,rfl,rfl,rfl⟩ H.f76 rfl (hk _ _ ⟨rfl,⟨Nat.le_trans w5.up.next u6.next,fun c hc=>?_,u6.wf⟩⟩);rw[u6.keep c (Nat.lt_of_lt_of_le hc w5.up.next) (by omega),w5.up.keep c hc]
end
section
variable{F:FuncId→Option AFun}{M:Memo}{x:Ctx}{G:AS→Prop}{n:Nat}{k:List AItem}{t:List AV}{h h0:AH}{d:Option Nat}{L:List (Nat×AO)}
theorem wBS{m:Nat}{zero l:List AV}{parts:List (Nat×Nat×AV)}(w:Wk h0 h L)(hf:fillA zero parts=some l)(hr:∀b h1,Wk h0 h1 ((b,.cells l none 0 [])::L)→W F M x G n k (setDst t d (.slice b 0 m m)) h1):WP F M x G n k t d (bsF h m zero parts):=by
 have e:bsF h m zero parts=some (.slice h.next 0 m m,h.alloc (.cells l none 0 [])):=by simp only[bsF,hf,Option.map_some]
 rw[e];exact hr h.next _ (w.alloc _)
theorem neNil{lv:AV}{m:Nat}(hl:lenS lv=some m)(hm:m≠0):binF h .eql 2 lv .nilslice=some (.bool false,h):=by
 cases lv<;>simp_all [lenS,binF,binA,eqOne]
theorem Qkf(hF:F 41=some fn41){N:Nat}{lv:AV}{rows:List (List AV)}(u:Up h h)(hN:N≤h.next)(s:Sl N h 3 lv rows)(hrow:∀r∈rows,r.length=3∧r.all AV.one=true)(hn:rows.length≠0)(hlt:rows.length<10000000000) :
  Ctr F M 41 [lv] h (fun v h'=>∃b,v=.slop b 0 rows.length 3∧Up h h'∧h.next≤b∧b<h'.next∧h'.get b=some (.cells rows.flatten (some 78) 0 [])) (fun _ _=>False):=by
 refine Ctr.intro hF fun caller cs G hk _=>W_ok 300 _ _ _ ?_
 simp only[fn41,b41,Nat.reduceAdd,Nat.reduceSub,wS,wC,neNil s.len hn,List.map];refine wBS (Wk.start u) rfl fun b1 h1 w1=>?_
 have L1:=w1.up.low hN;simp only[wS,wC,Nat.reduceAdd,Qkg (tg:=78) (bytes:=40) (s.low L1) hrow (by decide) (by decide) (by decide) (by omega) (w1.get 0 rfl) (s.low L1).els,if_neg hn];exact Qag ⟨rfl,rfl,rfl,rfl⟩ hF rfl (hk _ _ ⟨h1.next,rfl,w1.up.alloc _,w1.up.next,Nat.lt_succ_self _,Qam h1 _⟩)
end
mutual
def Qa3(cell:Int):CT→Int
 | .mk k n l=>if nodeD k n l.length cell≠0 then nodeD k n l.length cell else Qbc cell l
def Qbc(cell:Int):List CT→Int
 | []=>0
 |t::l=>if Qa3 cell t≠0 then Qa3 cell t else Qbc cell l
end
theorem QhV(cell:Int):∀(a b:List CT),Qbc cell (a++b)=if Qbc cell a≠0 then Qbc cell a else Qbc cell b
 | [],b=>by simp[Qbc]
 |t::a,b=>by
  simp only[List.cons_append,Qbc];by_cases c:Qa3 cell t=0
  ·simp only[c,ne_eq,not_true,if_false];exact QhV cell a b
  ·simp[c]
def Qat(T:CT)(cell:Int):Int:=if sizeC T≤12 then Qa3 cell T else 3
theorem Qdc:∀(a b:List CT),sizes (a++b)=sizes a+sizes b
 | [],b=>by simp[sizes]
 |t::a,b=>by simp[sizes,Qdc a b,Nat.add_assoc]
theorem QgC:∀l:List CT,l.length≤sizes l
 | []=>by simp[sizes]
 | .mk _ _ _::l=>by have:=QgC l;simp only[sizes,sizeC,List.length_cons];omega
inductive Todo (lo:Nat)(h:AH):AV→List (List AV)→Prop
 |one (b:Nat)(r:List AV)(hg:h.get b=some (.cells r none 0 []))(hr:r.length=3)(h1:lo≤b)(h2:b<h.next):Todo lo h (.slice b 0 1 1) [r]
 |zero:Todo lo h .empty []
 |slop (b o:Nat)(l:List AV)(rows:List (List AV))(pre:Nat)(anc:List Nat)(hg:h.get b=some (.cells l (some 78) pre anc))(hl:l.drop (o*3)=rows.flatten)(ho:o*3≤l.length)(hr:∀r∈rows,r.length=3)(h1:lo≤b)(h2:b<h.next):Todo lo h (.slop b (o*3) rows.length 3) rows
theorem Todo.up{lo:Nat}{h h':AH}{v:AV}{rows:List (List AV)}(t:Todo lo h v rows)(u:Up h h'):Todo lo h' v rows:=by
 cases t with
 |one b r hg hr h1 h2=>exact .one b r (by rw[u.keep b h2];exact hg) hr h1 (Nat.lt_of_lt_of_le h2 u.next)
 |zero=>exact .zero
 |slop b o l rows pre anc hg hl ho hr h1 h2=>exact .slop b o l rows pre anc (by rw[u.keep b h2];exact hg) hl ho hr h1 (Nat.lt_of_lt_of_le h2 u.next)
theorem Todo.len{lo:Nat}{h:AH}{v:AV}{rows:List (List AV)}(t:Todo lo h v rows):lenS v=some rows.length:=by
 cases t<;>rfl
theorem Todo.els{lo:Nat}{h:AH}{v:AV}{rows:List (List AV)}(t:Todo lo h v rows):Qar h 3 rows.length v=some rows.flatten:=by
 cases t with
 |one b r hg hr h1 h2 =>
  simp only[Qar,AH.read,AH.cellsAt,hg,List.length_cons,List.length_nil];rw[if_pos (by omega),if_pos (by omega)];simp[←hr]
 |zero=>rfl
 |slop b o l rows pre anc hg hl ho hr h1 h2 =>
  have e:=congrArg List.length hl;rw[Qa9 hr,List.length_drop]at e;simp only[Qar,AH.read,AH.cellsAt,hg];rw[if_pos (Nat.le_refl _),if_pos (by omega),hl,←Qa9 hr,List.take_length]
theorem Todo.first{lo:Nat}{h:AH}{v:AV}{r:List AV}{rows:List (List AV)}(t:Todo lo h v (r::rows)) :
  (∃p,Qbs 3 v (.int .i64 0)=some p∧loadA h 3 p=some r)∧∃v',QbL 3 (some (.int .i64 1)) none none v=some v'∧Todo lo h v' rows∧Qar h 3 rows.length v'=some rows.flatten:=by
 cases t with
 |one b r hg hr h1 h2 =>
  refine⟨⟨.ptr b 0,rfl,?_⟩,.empty,rfl,.zero,rfl⟩;simp only[loadA,AH.read,AH.cellsAt,hg];rw[if_pos (by omega),List.drop_zero,←hr,List.take_length]
 |slop b o l rows' pre anc hg hl ho hr h1 h2 =>
  have hr0:=hr r (List.mem_cons_self ..);have hlen:l.length=o*3+(rows.length+1)*3:=by
   have e1:=congrArg List.length hl;rw[Qa9 hr,List.length_drop,List.length_cons]at e1;omega
  have hd:l.drop ((o+1)*3)=rows.flatten:=by
   rw[Nat.succ_mul,←List.drop_drop,hl,List.flatten_cons,←hr0,List.drop_left]
  refine⟨⟨.ptr b (o*3),?_,?_⟩,.slop b ((o+1)*3) rows.length 3,?_,.slop b (o+1) l rows pre anc hg hd (by omega) (fun r' h'=>hr r' (List.mem_cons_of_mem _ h')) h1 h2,?_⟩
  ·simp[Qbs,asNat]
  ·simp only[loadA,AH.read,AH.cellsAt,hg];rw[if_pos (by omega),hl,List.flatten_cons,←hr0,List.take_left]
  ·simp[QbL,Qaz,asNat,Nat.succ_mul]
  ·simp only[Qar,AH.read,AH.cellsAt,hg];rw[if_pos (Nat.le_refl _),if_pos (by omega),hd,←Qa9 fun r' h'=>hr r' (List.mem_cons_of_mem _ h'),List.take_length]
section
variable{F:FuncId→Option AFun}{M:Memo}
def slF(h:AH)(size:Nat)(lo hi mx:Option AV)(v:AV):Option (AV×AH):=(QbL size lo hi mx v).map (·,h)
theorem eSl{h:AH}{ev:AOpd→AV}{size:Nat}{x:AOpd}{lo hi mx:Option AOpd}:exec h ev (.slice size x lo hi mx)=slF h size (lo.map ev) (hi.map ev) (mx.map ev) (ev x):=id rfl
theorem omS{ev:AOpd→AV}{x:AOpd}:(some x).map ev=some (ev x):=id rfl
theorem omN{ev:AOpd→AV}:(none:Option AOpd).map ev=none:=id rfl
theorem appSlop{h:AH}{b n:Nat}{rows rows':List (List AV)}{v':AV}(hn:n=rows.length)(hn0:rows.length≠0)(hg:h.get b=some (.cells rows.flatten (some 78) 0 []))(hr:∀r∈rows,r.length=3)(hr':∀r∈rows',r.length=3∧r.all AV.one=true)
  (hl:lenS v'=some rows'.length)(he:Qar h 3 rows'.length v'=some rows'.flatten)(h1:rows.length<10000000000)(h2:rows'.length<10000000000) :
  ∃v h',appF h 3 40 78 (.slop b 0 n 3) v'=some (v,h')∧((v=.slop b 0 rows.length 3∧h'=h∧rows'=[])∨(v=.slop h.next 0 (rows.length+rows'.length) 3∧h'=(h.put b (.old rows.flatten)).alloc (.cells (rows.flatten++rows'.flatten) (some 78) (rows.length*3) [b]))):=by
 subst hn;have hl':lenA v'=some rows'.length:=by
  cases v'<;>first|exact hl|(simp[lenS]at hl)
 have hfl:=Qa9 hr;have hfl':=Qa9 fun r hr=>(hr' r hr).1
 have hall:rows'.flatten.all AV.one=true:=by
  rw[List.all_eq_true];intro x hx';obtain⟨r,h1,h2⟩:=List.mem_flatten.1 hx';exact List.all_eq_true.1 (hr' r h1).2 x h2
 simp only[appF,hl',he];unfold QbU;rw[if_pos ⟨hfl',by decide,by decide,by decide,by omega,hall⟩];by_cases c:rows'.length=0
 ·rw[if_pos c];exact⟨_,_,rfl,.inl ⟨rfl,rfl,List.eq_nil_of_length_eq_zero c⟩⟩
 ·rw[if_neg c];simp only[hg];rw[if_pos ⟨by omega,by omega,trivial,trivial⟩,if_neg (by omega),if_pos (by omega),List.drop_zero];exact⟨_,_,rfl,.inr ⟨rfl,rfl⟩⟩
structure FnB (F:FuncId→Option AFun)(M:Memo):Prop extends FnA F M where
 f77:F 77=some fn77
 f41:F 41=some fn41
 f35:F 35=some fn35
 f34:F 34=some fn34
 f33:F 33=some fn33
 f36:F 36=some fn36
 f37:F 37=some fn37
 f38:F 38=some fn38
 f17:F 17=some fn17
 m:∀f∈[76,77,41,35,34,33,36,37,38,17],∀as,M f as=none
theorem lenPos{n:Nat}:decide ((0:Int)<((n+1:Nat):Int))=true:=decide_eq_true (by omega)
theorem QgX(H:FnB F M){T:CT}(hsT:Short T){cell:Int}{N:Nat}{h:AH}{row:List AV}(u:Up h h)(hN:N≤h.next)(hr:Rep N h T row) :
  Ctr F M 35 [.agg row,.int .i64 cell] h (fun v h'=>v=.int .i64 (Qat T cell)∧Up h h') (fun _ _=>False):=by
 refine Ctr.intro H.f35 fun caller cs G hk _=>W_ok 300 _ _ _ ?_
 obtain⟨x,y,z,rfl,ho⟩:=rep3 hr;simp only[fn35,b35,Nat.reduceAdd,Nat.reduceSub,wS];refine wBoxA (Wk.start u) fun b1 h1 w1=>?_
 have g1:=w1.get 0 rfl;simp only[wS,wC,Nat.reduceAdd,ldP g1,rdC,Nat.reduceLeDiff,if_true];refine cCall 300 (H.m 76 (by simp) _) (Qno H.toFnA hsT ⟨Nat.le_refl _,fun _ _=>rfl,w1.up.wf⟩ (by have:=w1.up.next;omega) (hr.low (w1.up.low hN))) fun v h2 hv=>?_
 obtain⟨rfl,u2⟩:=hv;have w2:=w1.call u2;have g2:=w2.get 0 rfl;by_cases c:sizeC T≤12
 ·simp only[wS,wC,Nat.reduceAdd,c,decide_true,Bool.not_true,ldP g2,rdC,Nat.reduceLeDiff,if_true,List.map];have e12:fillA [.int .i64 0,.int .i64 0,.nilslice] [(0,3,.agg [x,y,z])]=some [x,y,z]:=rfl;refine wBS w2 e12 fun b3 h3 w3=>?_
  simp only[wS,wC,Nat.reduceAdd];have k3:=w3.objs.at 0 rfl;refine Qbv (fun m t h5=>∃(ts:List CT) (rows:List (List AV)) (tv x6 x7 x8 x9 x10 x11 x12 x13 x14 x15 x16 x17 x18 x19 x20 x21 x22 x23 x24 x25 x26 x27 x28 x29 x30 x31 x32 x33 x34 x35 x36:AV),m=sizes ts∧sizes ts≤12∧Up h3 h5∧Todo 0 h5 tv rows∧ts.length=rows.length∧(∀i (i1:i<ts.length) (i2:i<rows.length),Rep N h ts[i] rows[i])∧Qbc cell ts=Qa3 cell T ∧
   t=[.agg [x,y,z],.int .i64 cell,.ptr b1 0,.undef,.int .i64 0,tv,x6,x7,x8,x9,x10,x11,x12,x13,x14,x15,x16,x17,x18,x19,x20,x21,x22,x23,x24,x25,x26,x27,x28,x29,x30,x31,x32,x33,x34,x35,x36]) (sizes [T]) ?_ ?_
  ·exact⟨[T],[[x,y,z]],_,_,_,_,_,_,_,_,_,_,_,_,_,_,_,_,_,_,_,_,_,_,_,_,_,_,_,_,_,_,_,_,rfl,by simp[sizes];omega,⟨Nat.le_refl _,fun _ _=>rfl,w3.up.wf⟩,.one b3 _ k3.1 rfl (Nat.zero_le _) k3.2.1,rfl,fun i i1 i2=>by
    have:i=0:=by simp at i1;omega
    subst this;exact hr,by by_cases z0:Qa3 cell T=0<;>simp[Qbc,z0],rfl⟩
  ·rintro m t h5 ⟨ts,rows,tv,x6,x7,x8,x9,x10,x11,x12,x13,x14,x15,x16,x17,x18,x19,x20,x21,x22,x23,x24,x25,x26,x27,x28,x29,x30,x31,x32,x33,x34,x35,x36,rfl,hm,u5,td,hlen,hrr,hnd,rfl⟩ ih5;refine W_ok 300 _ _ _ ?_;have uh5:=w3.up.trans u5;have hfd:Qat T cell=Qbc cell ts:=by simp[Qat,c,hnd]
   match ts,rows,hlen,hrr,td,hm,hnd,hfd with
   | [],[],_,_,td,_,_,hfd =>
    have hl0:=td.len;simp only[wS,wC,Nat.reduceAdd,hl0,List.length_nil,Int.ofNat_zero,Int.cast_ofNat_Int,Int.reduceLT,decide_false,decide_true];exact Qag ⟨rfl,rfl,rfl,rfl⟩ H.f35 rfl (hk _ _ ⟨by rw[hfd];rfl,uh5⟩)
   | .mk k' n' l'::ts,r::rows,hlen,hrr,td,hm,hnd,hfd =>
    have hl0:=td.len;obtain⟨⟨p,q1,q2⟩,v',s1,td',e1⟩:=td.first
    have hr0:=hrr 0 (by simp) (by simp);simp only[List.getElem_cons_zero]at hr0;obtain⟨lv',rows',rfl,hs',hl',hrr'⟩:=hr0.inv;have h1v:(lv'.one=true):=by have:=hs'.len;cases lv'<;>first|rfl|(simp[lenS]at this)
    have hx1:[AV.int .i64 k',.int .i64 n',lv'].all AV.one=true:=by show (true&&(true&&(lv'.one&&true)))=true;rw[h1v];rfl
    simp only[wS,wC,Nat.reduceAdd,hl0,List.length_cons,lenPos,q1,q2];refine Qfj (Wk.start ⟨Nat.le_refl _,fun _ _=>rfl,u5.wf⟩) fun b6 h6 w6=>?_
    simp only[wS,wC,Nat.reduceAdd];refine wSt (l':=[.int .i64 k',.int .i64 n',lv']) w6 0 rfl rfl (fun h7 w7=>?_) (ho:=hx1);have g7:=w7.get 0 rfl;simp only[wS,wC,Nat.reduceAdd,ldP g7,rdC,Nat.reduceLeDiff,if_true];refine cCall 300 (H.m 77 (by simp) _) (node_ctr H.f77 (len:=l'.length) ⟨Nat.le_refl _,fun _ _=>rfl,w7.up.wf⟩ (by rw[hl'];exact hs'.len)) fun v h8 hv=>?_
    obtain⟨rfl,u8⟩:=hv;have w8:=w7.call u8;have g8:=w8.get 0 rfl;have hsz:sizes (.mk k' n' l'::ts)=1+sizes l'+sizes ts:=by simp only[sizes,sizeC]
    have ne1:∀e:Int,decide (e≠0) = !decide (e=0):=fun e=>by simp
    by_cases z:nodeD k' n' l'.length cell=0
    ·have hnd':Qbc cell (.mk k' n' l'::ts)=Qbc cell (l'++ts):=by
      rw[QhV];simp only[Qbc,Qa3,z,ne_eq,not_true,if_false]
     simp only[wS,wC,Nat.reduceAdd,ne1,z,decide_true,Bool.not_true,ldP g8,rdC,Nat.reduceLeDiff,if_true,hs'.len,←hl'];by_cases z2:l'.length=0
     ·have d0:decide ((l'.length:Int)=0)=true:=by simp[z2]
      have l0:l'=[]:=List.eq_nil_of_length_eq_zero z2;simp only[wS,wC,Nat.reduceAdd,d0,eSl,omS,omN,slF,s1,Option.map_some];refine ih5 _ _ _ ?_ ⟨ts,rows,v',_,_,_,_,_,_,_,_,_,_,_,_,_,_,_,_,_,_,_,_,_,_,_,_,_,_,_,_,_,_,_,rfl,by omega,u5.trans w8.up,td'.up w8.up,by simpa using hlen,fun i i1 i2=>hrr (i+1) (by simpa using i1) (by simpa using i2),by rw[←hnd,hnd',l0];rfl,rfl⟩;omega
     ·have d0:decide ((l'.length:Int)=0)=false:=by simp[z2]
      have L8:Low N h h8:=(uh5.trans w8.up).low hN;have hle':=QgC l';have hlets:=QgC ts;have hrow':∀r∈rows',r.length=3∧r.all AV.one=true:=fun r hr=>by
       obtain⟨i,hi,rfl⟩:=List.getElem_of_mem hr;obtain⟨_,_,_,e,o⟩:=rep3 (hrr' i (by omega) hi);exact⟨by rw[e];rfl,o⟩
      have hrow:∀r∈rows,r.length=3∧r.all AV.one=true:=fun r hr=>by
       obtain⟨i,hi,rfl⟩:=List.getElem_of_mem hr;obtain⟨_,_,_,e,o⟩:=rep3 (hrr (i+1) (by simp at hlen ⊢;omega) (by simpa using hi));simp only[List.getElem_cons_succ]at e o;exact⟨by rw[e];rfl,o⟩
      simp only[wS,wC,Nat.reduceAdd,d0,AOp.makes,ldP g8,rdC,Nat.reduceLeDiff,if_true,eSl,omS,omN,slF,s1,Option.map_some];refine cMain 300 (H.m 41 (by simp) _) (Qkf H.f41 ⟨Nat.le_refl _,fun _ _=>rfl,w8.up.wf⟩ (by have:=uh5.next;have:=w8.up.next;omega) (hs'.low L8) hrow' (by omega) (by omega)) fun v h9 hv=>⟨rfl,?_⟩
      obtain⟨bc,rfl,u9,hbc1,hbc2,gbc⟩:=hv;have uu:=w8.up.trans u9;obtain⟨v9,h10,ha,hcase⟩:=appSlop rfl (by omega) gbc (fun r hr=>(hrow' r hr).1) hrow (td'.up uu).len (td'.up uu).els (by omega) (by simp at hlen;omega);simp only[wS,wC,Nat.reduceAdd,ha];have hall:∀r∈rows'++rows,r.length=3:=fun r hr=>by
       rcases List.mem_append.1 hr with h'|h'
       ·exact(hrow' r h').1
       ·exact(hrow r h').1
      have hrall:∀i (i1:i<(l'++ts).length) (i2:i<(rows'++rows).length),Rep N h (l'++ts)[i] (rows'++rows)[i]:=fun i i1 i2=>by
       by_cases ci:i<l'.length
       ·rw[List.getElem_append_left ci,List.getElem_append_left (by omega)];exact hrr' i ci (by omega)
       ·rw[List.getElem_append_right (by omega),List.getElem_append_right (by omega)];have:=hrr (i-l'.length+1) (by simp at i1 ⊢;omega) (by simp at i2 ⊢;omega);simp only[List.getElem_cons_succ]at this;simpa[hl'] using this
      refine ih5 (sizes (l'++ts)) _ _ ?_ ⟨l'++ts,rows'++rows,v9,_,_,_,_,_,_,_,_,_,_,_,_,_,_,_,_,_,_,_,_,_,_,_,_,_,_,_,_,_,_,_,rfl,?_,?_,?_,?_,hrall,?_,rfl⟩
      ·rw[Qdc];omega
      ·rw[Qdc];omega
      ·rcases hcase with⟨_,rfl,_⟩|⟨_,rfl⟩
       ·exact u5.trans uu
       ·exact((u5.trans uu).put (by have:=u5.next;have:=w8.up.next;omega) hbc2 _).alloc _
      ·rcases hcase with⟨rfl,rfl,rfl⟩|⟨rfl,rfl⟩
       ·rw[List.append_nil];exact .slop bc 0 rows'.flatten rows' 0 [] gbc (by simp) (Nat.zero_le _) (fun r hr=>(hrow' r hr).1) (Nat.zero_le _) hbc2
       ·have:=Todo.slop (lo:=0) (h:=(h9.put bc (.old rows'.flatten)).alloc (.cells (rows'.flatten++rows.flatten) (some 78) (rows'.length*3) [bc])) h9.next 0 (rows'.flatten++rows.flatten) (rows'++rows) _ _ (Qam _ _) (by simp) (Nat.zero_le _) hall (Nat.zero_le _) (Nat.lt_succ_self _)
        simpa using this
      ·simp at hlen ⊢;omega
      ·rw[←hnd,hnd']
    ·simp only[wS,wC,Nat.reduceAdd,ne1,z,decide_false,Bool.not_false];exact Qag ⟨rfl,rfl,rfl,rfl⟩ H.f35 rfl (hk _ _ ⟨by rw[hfd];simp[Qbc,Qa3,z],uh5.trans w8.up⟩)
 ·simp only[wS,wC,Nat.reduceAdd,c,decide_false,Bool.not_false];exact Qag ⟨rfl,rfl,rfl,rfl⟩ H.f35 rfl (hk _ _ ⟨by simp[Qat,c],w2.up⟩)
end
def Qbt:List Int→Int
 | []=>0
 |e::l=>if e=0 then Qbt l else e
section
variable{F:FuncId→Option AFun}{M:Memo}
theorem Qoh(hF:F 33=some fn33){g:FuncId}{caps:List AV}(hMg:∀as,M g as=none){N:Nat}{h:AH}{lv:AV}{rows:List (List AV)}(u:Up h h)(hN:N≤h.next)(s:Sl N h 3 lv rows)(hrow:∀r∈rows,r.length=3∧r.all AV.one=true)(hlt:rows.length<4611686018427387904)(e:Nat→Int)
  (hg:∀i (hi:i<rows.length) h',Up h h'→Ctr F M g ([.int .i64 (i:Nat),.agg rows[i]]++caps) h' (fun v h2=>v=.int .i64 (e i)∧Up h' h2) (fun _ _=>False)) :
  Ctr F M 33 [lv,.func g [] caps] h (fun v h'=>v=.int .i64 (Qbt ((List.range rows.length).map e))∧Up h h') (fun _ _=>False):=by
 refine Ctr.intro hF fun caller cs G hk _=>W_ok 300 _ _ _ ?_
 simp only[fn33,b33,Nat.reduceAdd,Nat.reduceSub,wS,wC,s.len];have ne1:∀e:Int,decide (e≠0) = !decide (e=0):=fun e=>by simp
 refine Qbv (fun m t h5=>∃(i:Nat) (x5 x6 x7 x11 x12 x13 x14 x15 x16 x17 x18 x19 x20 x21 x22:AV),m=rows.length-i∧i≤rows.length∧Up h h5∧Qbt ((List.range rows.length).map e)=Qbt (((List.range rows.length).drop i).map e) ∧
   t=[lv,.func g [] caps,.undef,.undef,.int .i64 0,x5,x6,x7,lv,.int .i64 (rows.length:Nat),.int .i64 (i:Nat),x11,x12,x13,x14,x15,x16,x17,x18,x19,x20,x21,x22]) (rows.length-0) ?_ ?_
 ·exact⟨0,_,_,_,_,_,_,_,_,_,_,_,_,_,_,_,rfl,Nat.zero_le _,u,rfl,rfl⟩
 ·rintro m t h5 ⟨i,x5,x6,x7,x11,x12,x13,x14,x15,x16,x17,x18,x19,x20,x21,x22,rfl,hi,u5,heq,rfl⟩ ih5;refine W_ok 300 _ _ _ ?_;by_cases c:i<rows.length
  ·have hd:decide ((i:Int)<(rows.length:Int))=true:=decide_eq_true (by omega);obtain⟨p,q1,q2,q3⟩:=s.row i c;have q4:=(QaH (u5.low hN) q2 3).trans q3;obtain⟨r1,r2⟩:=hrow _ (List.getElem_mem c);have hdr:(List.range rows.length).drop i=i::(List.range rows.length).drop (i+1):=by
    rw[List.drop_eq_getElem_cons (by simpa using c)];simp
   rw[hdr,List.map_cons,Qbt]at heq;have hgi:=hg i c;generalize rows[i]=row at q4 r1 r2 hgi;simp only[wS,wC,hd,q1,q4,Nat.reduceAdd];refine Qfj (Wk.start ⟨Nat.le_refl _,fun _ _=>rfl,u5.wf⟩) fun b6 h6 w6=>?_
   simp only[wS,wC,Nat.reduceAdd];have hsp:splice [.int .i64 0,.int .i64 0,.nilslice] 0 row=row:=by
    unfold splice;simp[r1]
   refine wSt (l':=row) w6 0 rfl hsp (fun h7 w7=>?_) (hl:=r1) (ho:=r2);have g7:=w7.get 0 rfl;have ld:loadA h7 3 (.ptr b6 0)=some row:=by rw[ldP g7,Qnw (by omega),List.drop_zero,←r1,List.take_length]
   simp only[wS,wC,Nat.reduceAdd,ld];refine cCall 300 (hMg _) (hgi h7 (u5.trans w7.up)) fun v h8 hv=>?_
   obtain⟨rfl,u8⟩:=hv;have uu:=(u5.trans w7.up).trans u8;by_cases z:e i=0
   ·simp only[wS,wC,Nat.reduceAdd,ne1,z,decide_true,Bool.not_true,QaW (show i<4611686018427387904 by omega)];refine ih5 _ _ _ (by omega) ⟨i+1,_,_,_,_,_,_,_,_,_,_,_,_,_,_,_,rfl,c,uu,by rw[heq,if_pos z],rfl⟩
   ·simp only[wS,wC,Nat.reduceAdd,ne1,z,decide_false,Bool.not_false];exact Qag ⟨rfl,rfl,rfl,rfl⟩ hF rfl (hk _ _ ⟨by rw[heq,if_neg z];rfl,uu⟩)
  ·have hd:decide ((i:Int)<(rows.length:Int))=false:=decide_eq_false (by omega);have hz:(List.range rows.length).drop i=[]:=by simp;omega
   simp only[wS,wC,hd,Nat.reduceAdd];exact Qag ⟨rfl,rfl,rfl,rfl⟩ hF rfl (hk _ _ ⟨by rw[heq,hz];rfl,u5⟩)
theorem Qoi(hF:F 36=some fn36){g:FuncId}{caps:List AV}(hMg:∀as,M g as=none){N:Nat}{h:AH}{lv:AV}{rows:List (List AV)}(u:Up h h)(hN:N≤h.next)(s:Sl N h 5 lv rows)(hrow:∀r∈rows,r.length=5∧r.all AV.one=true)(hlt:rows.length<4611686018427387904)(e:Nat→Int)
  (hg:∀i (hi:i<rows.length) h',Up h h'→Ctr F M g ([.int .i64 (i:Nat),.agg rows[i]]++caps) h' (fun v h2=>v=.int .i64 (e i)∧Up h' h2) (fun _ _=>False)) :
  Ctr F M 36 [lv,.func g [] caps] h (fun v h'=>v=.int .i64 (Qbt ((List.range rows.length).map e))∧Up h h') (fun _ _=>False):=by
 refine Ctr.intro hF fun caller cs G hk _=>W_ok 300 _ _ _ ?_
 simp only[fn36,b36,Nat.reduceAdd,Nat.reduceSub,wS,wC,s.len];have ne1:∀e:Int,decide (e≠0) = !decide (e=0):=fun e=>by simp
 refine Qbv (fun m t h5=>∃(i:Nat) (x5 x6 x7 x11 x12 x13 x14 x15 x16 x17 x18 x19 x20 x21 x22:AV),m=rows.length-i∧i≤rows.length∧Up h h5∧Qbt ((List.range rows.length).map e)=Qbt (((List.range rows.length).drop i).map e) ∧
   t=[lv,.func g [] caps,.undef,.undef,.int .i64 0,x5,x6,x7,lv,.int .i64 (rows.length:Nat),.int .i64 (i:Nat),x11,x12,x13,x14,x15,x16,x17,x18,x19,x20,x21,x22]) (rows.length-0) ?_ ?_
 ·exact⟨0,_,_,_,_,_,_,_,_,_,_,_,_,_,_,_,rfl,Nat.zero_le _,u,rfl,rfl⟩
 ·rintro m t h5 ⟨i,x5,x6,x7,x11,x12,x13,x14,x15,x16,x17,x18,x19,x20,x21,x22,rfl,hi,u5,heq,rfl⟩ ih5;refine W_ok 300 _ _ _ ?_;by_cases c:i<rows.length
  ·have hd:decide ((i:Int)<(rows.length:Int))=true:=decide_eq_true (by omega);obtain⟨p,q1,q2,q3⟩:=s.row i c;have q4:=(QaH (u5.low hN) q2 5).trans q3;obtain⟨r1,r2⟩:=hrow _ (List.getElem_mem c);have hdr:(List.range rows.length).drop i=i::(List.range rows.length).drop (i+1):=by
    rw[List.drop_eq_getElem_cons (by simpa using c)];simp
   rw[hdr,List.map_cons,Qbt]at heq;have hgi:=hg i c;generalize rows[i]=row at q4 r1 r2 hgi;simp only[wS,wC,hd,q1,q4,Nat.reduceAdd];refine Qfj (Wk.start ⟨Nat.le_refl _,fun _ _=>rfl,u5.wf⟩) fun b6 h6 w6=>?_
   simp only[wS,wC,Nat.reduceAdd];have hsp:splice [.bool false,.int .i64 0,.int .i64 0,.int .i64 0,.nilslice] 0 row=row:=by
    unfold splice;simp[r1]
   refine wSt (l':=row) w6 0 rfl hsp (fun h7 w7=>?_) (hl:=r1) (ho:=r2);have g7:=w7.get 0 rfl;have ld:loadA h7 5 (.ptr b6 0)=some row:=by rw[ldP g7,Qnw (by omega),List.drop_zero,←r1,List.take_length]
   simp only[wS,wC,Nat.reduceAdd,ld];refine cCall 300 (hMg _) (hgi h7 (u5.trans w7.up)) fun v h8 hv=>?_
   obtain⟨rfl,u8⟩:=hv;have uu:=(u5.trans w7.up).trans u8;by_cases z:e i=0
   ·simp only[wS,wC,Nat.reduceAdd,ne1,z,decide_true,Bool.not_true,QaW (show i<4611686018427387904 by omega)];refine ih5 _ _ _ (by omega) ⟨i+1,_,_,_,_,_,_,_,_,_,_,_,_,_,_,_,rfl,c,uu,by rw[heq,if_pos z],rfl⟩
   ·simp only[wS,wC,Nat.reduceAdd,ne1,z,decide_false,Bool.not_false];exact Qag ⟨rfl,rfl,rfl,rfl⟩ hF rfl (hk _ _ ⟨by rw[heq,if_neg z];rfl,uu⟩)
  ·have hd:decide ((i:Int)<(rows.length:Int))=false:=decide_eq_false (by omega);have hz:(List.range rows.length).drop i=[]:=by simp;omega
   simp only[wS,wC,hd,Nat.reduceAdd];exact Qag ⟨rfl,rfl,rfl,rfl⟩ hF rfl (hk _ _ ⟨by rw[heq,hz];rfl,u5⟩)
end
structure Act where
 set:Bool
 cell:Int
 term:CT
instance:Inhabited Act:=⟨⟨false,0,default⟩⟩
structure RepA (N:Nat)(h:AH)(a:Act)(row:List AV):Prop where
 ex:∃r,row=.bool a.set::.int .i64 a.cell::r∧Rep N h a.term r
structure RepCs (N:Nat)(h:AH)(l:List CT)(v:AV)(rows:List (List AV)):Prop where
 sl:Sl N h 3 v rows
 len:l.length=rows.length
 rep:∀i (h1:i<l.length)(h2:i<rows.length),Rep N h l[i] rows[i]
 short:∀t∈l,Short t
 lt:l.length<4611686018427387904
structure RepAs (N:Nat)(h:AH)(l:List Act)(v:AV)(rows:List (List AV)):Prop where
 sl:Sl N h 5 v rows
 len:l.length=rows.length
 rep:∀i (h1:i<l.length)(h2:i<rows.length),RepA N h l[i] rows[i]
 short:∀t∈l,Short t.term
 lt:l.length<4611686018427387904
theorem RepA.low{N:Nat}{h h':AH}(hL:Low N h h'){a:Act}{row:List AV}(H:RepA N h a row):RepA N h' a row:=by
 obtain⟨r,e,hr⟩:=H.ex;exact⟨r,e,hr.low hL⟩
theorem RepA.mono{N M:Nat}{h:AH}(hN:N≤M){a:Act}{row:List AV}(H:RepA N h a row):RepA M h a row:=by
 obtain⟨r,e,hr⟩:=H.ex;exact⟨r,e,hr.mono hN⟩
theorem RepCs.low{N:Nat}{h h':AH}(hL:Low N h h'){l:List CT}{v:AV}{rows:List (List AV)}(H:RepCs N h l v rows):RepCs N h' l v rows:=⟨H.sl.low hL,H.len,fun i h1 h2=>(H.rep i h1 h2).low hL,H.short,H.lt⟩
theorem RepAs.low{N:Nat}{h h':AH}(hL:Low N h h'){l:List Act}{v:AV}{rows:List (List AV)}(H:RepAs N h l v rows):RepAs N h' l v rows:=⟨H.sl.low hL,H.len,fun i h1 h2=>(H.rep i h1 h2).low hL,H.short,H.lt⟩
theorem RepCs.mono{N M:Nat}{h:AH}(hN:N≤M){l:List CT}{v:AV}{rows:List (List AV)}(H:RepCs N h l v rows):RepCs M h l v rows:=⟨H.sl.mono hN,H.len,fun i h1 h2=>(H.rep i h1 h2).mono hN,H.short,H.lt⟩
theorem RepAs.mono{N M:Nat}{h:AH}(hN:N≤M){l:List Act}{v:AV}{rows:List (List AV)}(H:RepAs N h l v rows):RepAs M h l v rows:=⟨H.sl.mono hN,H.len,fun i h1 h2=>(H.rep i h1 h2).mono hN,H.short,H.lt⟩
theorem RepCs.rows{N:Nat}{h:AH}{l:List CT}{v:AV}{rows:List (List AV)}(H:RepCs N h l v rows):∀r∈rows,r.length=3∧r.all AV.one=true:=fun r hr=>by
 obtain⟨i,hi,rfl⟩:=List.getElem_of_mem hr;obtain⟨_,_,_,e,o⟩:=rep3 (H.rep i (by have:=H.len;omega) hi);exact⟨by rw[e];rfl,o⟩
theorem repA5{N:Nat}{h:AH}{a:Act}{row:List AV}(H:RepA N h a row):∃x y z,row=[.bool a.set,.int .i64 a.cell,x,y,z]∧row.all AV.one=true∧Rep N h a.term [x,y,z]:=by
 obtain⟨r,rfl,hr⟩:=H.ex;obtain⟨x,y,z,rfl,o⟩:=rep3 hr;exact⟨x,y,z,rfl,o,hr⟩
theorem RepAs.rows{N:Nat}{h:AH}{l:List Act}{v:AV}{rows:List (List AV)}(H:RepAs N h l v rows):∀r∈rows,r.length=5∧r.all AV.one=true:=fun r hr=>by
 obtain⟨i,hi,rfl⟩:=List.getElem_of_mem hr;obtain⟨_,_,_,e,o,_⟩:=repA5 (H.rep i (by have:=H.len;omega) hi);exact⟨by rw[e];rfl,o⟩
def zeroD:CT→Bool
 | .mk k n l=>decide (k=0)&&decide (n=0)&&decide (l.length=0)
def actD(nc:Nat)(a:Act):Int:=if a.cell<0∨(nc:Int)≤a.cell then 6 else if a.set then Qat a.term a.cell else if zeroD a.term then 0 else 1
def cellsE(l:List CT):Int:=Qbt ((List.range l.length).map fun i=>Qat (l.getD i default) i)
def actsE(nc:Nat)(l:List Act):Int:=Qbt ((List.range l.length).map fun i=>actD nc (l.getD i default))
def Qak(cs:List CT)(as:List Act):Int:=
 if 6<cs.length∨10<as.length then 3 else if cs.length=0 then 6 else if cellsE cs=0 then actsE cs.length as else cellsE cs
section
variable{F:FuncId→Option AFun}{M:Memo}
theorem zero_ctr(hF:F 38=some fn38){T:CT}{N:Nat}{h:AH}{row:List AV}(u:Up h h)(hr:Rep N h T row):Ctr F M 38 [.agg row] h (fun v h'=>v=.bool (zeroD T)∧Up h h') (fun _ _=>False):=by
 refine Ctr.intro hF fun caller cs G hk _=>W_ok 300 _ _ _ ?_
 obtain⟨k,n,l,lv,rfl,rfl,hl,_⟩:=hr.row3;simp only[fn38,b38,Nat.reduceAdd,Nat.reduceSub,wS,wC];refine wBoxA (Wk.start u) fun b1 h1 w1=>?_
 have g1:=w1.get 0 rfl;have e0:decide ((l.length:Int)=0)=decide (l.length=0):=by simp
 simp only[wS,wC,Nat.reduceAdd,ldP g1,rdC,Nat.reduceLeDiff,if_true];by_cases c1:k=0
 ·by_cases c2:n=0
  ·simp only[wS,wC,Nat.reduceAdd,ldP g1,rdC,Nat.reduceLeDiff,if_true,c1,c2,decide_true,hl,e0];exact Qag ⟨rfl,rfl,rfl,rfl⟩ hF rfl (hk _ _ ⟨by simp[zeroD,c1,c2],w1.up⟩)
  ·simp only[wS,wC,Nat.reduceAdd,ldP g1,rdC,Nat.reduceLeDiff,if_true,c1,c2,decide_true,decide_false];exact Qag ⟨rfl,rfl,rfl,rfl⟩ hF rfl (hk _ _ ⟨by simp[zeroD,c1,c2],w1.up⟩)
 ·simp only[wS,wC,Nat.reduceAdd,c1,decide_false];exact Qag ⟨rfl,rfl,rfl,rfl⟩ hF rfl (hk _ _ ⟨by simp[zeroD,c1],w1.up⟩)
theorem chk1_ctr(H:FnB F M){T:CT}(hsT:Short T){cell:Int}{N:Nat}{h:AH}{row:List AV}(u:Up h h)(hN:N≤h.next)(hr:Rep N h T row) :
  Ctr F M 34 [.int .i64 cell,.agg row] h (fun v h'=>v=.int .i64 (Qat T cell)∧Up h h') (fun _ _=>False):=by
 refine Ctr.intro H.f34 fun caller cs G hk _=>W_ok 300 _ _ _ ?_
 obtain⟨x,y,z,rfl,ho⟩:=rep3 hr;simp only[fn34,b34,Nat.reduceAdd,Nat.reduceSub,wS,wC];refine wBoxA (Wk.start u) fun b1 h1 w1=>?_
 have g1:=w1.get 0 rfl;simp only[wS,wC,Nat.reduceAdd,ldP g1,rdC,Nat.reduceLeDiff,if_true];refine cCall 300 (H.m 35 (by simp) _) (QgX H hsT ⟨Nat.le_refl _,fun _ _=>rfl,w1.up.wf⟩ (by have:=w1.up.next;omega) (hr.low (w1.up.low hN))) fun v h2 hv=>?_
 obtain⟨rfl,u2⟩:=hv;simp only[wS,wC,Nat.reduceAdd];exact Qag ⟨rfl,rfl,rfl,rfl⟩ H.f34 rfl (hk _ _ ⟨rfl,w1.up.trans u2⟩)
theorem chk2_ctr(H:FnB F M){a:Act}(hsT:Short a.term){i:Int}{nc bs:Nat}{cv av:AV}{sp:Option Nat}{N:Nat}{h:AH}{row:List AV}(u:Up h h)(hN:N≤h.next)(hr:RepA N h a row)(hbs:bs<h.next)(gs:h.get bs=some (.cells [cv,av] sp 0 []))(hcv:lenS cv=some nc) :
  Ctr F M 37 [.int .i64 i,.agg row,.ptr bs 0] h (fun v h'=>v=.int .i64 (actD nc a)∧Up h h') (fun _ _=>False):=by
 refine Ctr.intro H.f37 fun caller cs G hk _=>W_ok 300 _ _ _ ?_
 obtain⟨x,y,z,rfl,ho,hrt⟩:=repA5 hr;simp only[fn37,b37,Nat.reduceAdd,Nat.reduceSub,wS,wC];refine wBoxA (Wk.start u) fun b1 h1 w1=>?_
 have g1:=w1.get 0 rfl;have gs1:=w1.up.keep bs hbs;rw[gs]at gs1;simp only[wS,wC,Nat.reduceAdd,ldP g1,rdC,Nat.reduceLeDiff,if_true];have hn1:=w1.up.next
 by_cases c1:a.cell<0
 ·simp only[wS,wC,Nat.reduceAdd,c1,decide_true];exact Qag ⟨rfl,rfl,rfl,rfl⟩ H.f37 rfl (hk _ _ ⟨by simp[actD,c1],w1.up⟩)
 by_cases c2:(nc:Int)≤a.cell
 ·simp only[wS,wC,Nat.reduceAdd,c1,c2,decide_true,decide_false,ldP g1,ldP gs1,rdC,Nat.reduceLeDiff,if_true,hcv];exact Qag ⟨rfl,rfl,rfl,rfl⟩ H.f37 rfl (hk _ _ ⟨by simp[actD,c1,c2],w1.up⟩)
 simp only[wS,wC,Nat.reduceAdd,c1,c2,decide_true,decide_false,ldP g1,ldP gs1,rdC,Nat.reduceLeDiff,if_true,hcv];cases hset:a.set with
 |true =>
  simp only[wS,wC,Nat.reduceAdd,ldP g1,rdC,Nat.reduceLeDiff,if_true,hset];refine cCall 300 (H.m 35 (by simp) _) (QgX H hsT ⟨Nat.le_refl _,fun _ _=>rfl,w1.up.wf⟩ (by omega) (hrt.low (w1.up.low hN))) fun v h2 hv=>?_
  obtain⟨rfl,u2⟩:=hv;simp only[wS,wC,Nat.reduceAdd];exact Qag ⟨rfl,rfl,rfl,rfl⟩ H.f37 rfl (hk _ _ ⟨by simp[actD,c1,c2,hset],w1.up.trans u2⟩)
 |false =>
  simp only[wS,wC,Nat.reduceAdd,ldP g1,rdC,Nat.reduceLeDiff,if_true,hset];refine cCall 300 (H.m 38 (by simp) _) (zero_ctr H.f38 ⟨Nat.le_refl _,fun _ _=>rfl,w1.up.wf⟩ (hrt.low (w1.up.low hN))) fun v h2 hv=>?_
  obtain⟨rfl,u2⟩:=hv;cases hz:zeroD a.term with
  |true =>
   simp only[wS,wC,Nat.reduceAdd,hz,Bool.not_true];exact Qag ⟨rfl,rfl,rfl,rfl⟩ H.f37 rfl (hk _ _ ⟨by simp[actD,c1,c2,hset,hz],w1.up.trans u2⟩)
  |false =>
   simp only[wS,wC,Nat.reduceAdd,hz,Bool.not_false];exact Qag ⟨rfl,rfl,rfl,rfl⟩ H.f37 rfl (hk _ _ ⟨by simp[actD,c1,c2,hset,hz],w1.up.trans u2⟩)
theorem QcO(H:FnB F M){cells:List CT}{acts:List Act}{N:Nat}{h:AH}{cv av:AV}{crows arows:List (List AV)}(u:Up h h)(hN:N≤h.next)(hc:RepCs N h cells cv crows)(ha:RepAs N h acts av arows) :
  Ctr F M 17 [.agg [cv,av]] h (fun v h'=>v=.int .i64 (Qak cells acts)∧Up h h') (fun _ _=>False):=by
 refine Ctr.intro H.f17 fun caller cs G hk _=>W_ok 300 _ _ _ ?_
 simp only[fn17,b17,Nat.reduceAdd,Nat.reduceSub,wS,wC];refine wBoxA (Wk.start u) fun b1 h1 w1=>?_
 have g1:=w1.get 0 rfl;have lc:lenS cv=some cells.length:=by rw[hc.len];exact hc.sl.len
 have la:lenS av=some acts.length:=by rw[ha.len];exact ha.sl.len
 have e6:decide ((6:Int)<(cells.length:Int))=decide (6<cells.length):=by apply decide_eq_decide.2;omega
 have e10:decide ((10:Int)<(acts.length:Int))=decide (10<acts.length):=by apply decide_eq_decide.2;omega
 have e0:decide ((cells.length:Int)=0)=decide (cells.length=0):=by simp
 have ne1:∀e:Int,decide (e≠0) = !decide (e=0):=fun e=>by simp
 simp only[wS,wC,Nat.reduceAdd,ldP g1,rdC,Nat.reduceLeDiff,if_true,lc,e6];by_cases c1:6<cells.length
 ·simp only[wS,wC,Nat.reduceAdd,c1,decide_true];exact Qag ⟨rfl,rfl,rfl,rfl⟩ H.f17 rfl (hk _ _ ⟨by simp[Qak,c1],w1.up⟩)
 simp only[wS,wC,Nat.reduceAdd,c1,decide_false,ldP g1,rdC,Nat.reduceLeDiff,if_true,la,e10];by_cases c2:10<acts.length
 ·simp only[wS,wC,Nat.reduceAdd,c2,decide_true];exact Qag ⟨rfl,rfl,rfl,rfl⟩ H.f17 rfl (hk _ _ ⟨by simp[Qak,c2],w1.up⟩)
 simp only[wS,wC,Nat.reduceAdd,c2,decide_false,ldP g1,rdC,Nat.reduceLeDiff,if_true,lc,e0];rcases Classical.propComplete (cells.length=0) with c3|c3
 ·simp only[wS,wC,Nat.reduceAdd,c3,decide_true];exact Qag ⟨rfl,rfl,rfl,rfl⟩ H.f17 rfl (hk _ _ ⟨by simp[Qak,c1,c2,c3],w1.up⟩)
 simp only[wS,wC,Nat.reduceAdd,c3,decide_false,ldP g1,rdC,Nat.reduceLeDiff,if_true];have L1:=w1.up.low hN;have hc1:=hc.low L1;refine cCall 300 (H.m 33 (by simp) _) (Qoh (caps:=[]) H.f33 (H.m 34 (by simp)) (N:=N) ⟨Nat.le_refl _,fun _ _=>rfl,w1.up.wf⟩ (by have:=w1.up.next;omega) hc1.sl hc.rows (by rw[←hc.len];exact hc.lt) (fun i=>Qat (cells.getD i default) i) fun i hi h' u'=>?_) fun v h2 hv=>?_
 ·have hi':i<cells.length:=by rw[hc.len];exact hi
  have eg:cells.getD i default=cells[i]:=by simp[List.getD,gE hi']
  rw[eg];exact chk1_ctr H (hc.short _ (List.getElem_mem hi')) ⟨Nat.le_refl _,fun _ _=>rfl,u'.wf⟩ (by have:=w1.up.next;have:=u'.next;omega) ((hc1.rep i hi' hi).low (u'.low (by have:=w1.up.next;omega)))
 obtain⟨rfl,u2⟩:=hv;have w2:=w1.call u2;have g2:=w2.get 0 rfl;have hce:Qbt ((List.range crows.length).map fun i=>Qat (cells.getD i default) i)=cellsE cells:=by rw[←hc.len];rfl
 rw[hce];by_cases c4:cellsE cells=0
 ·simp only[wS,wC,Nat.reduceAdd,ne1,c4,decide_true,Bool.not_true,ldP g2,rdC,Nat.reduceLeDiff,if_true,List.map];have L2:=w2.up.low hN;have ha2:=ha.low L2;have hb1:=(w2.objs.at 0 rfl).2.1;refine cCall 300 (H.m 36 (by simp) _) (Qoi (caps:=[.ptr b1 0]) H.f36 (H.m 37 (by simp)) (N:=N) ⟨Nat.le_refl _,fun _ _=>rfl,w2.up.wf⟩ (by have:=w2.up.next;omega) ha2.sl ha.rows (by rw[←ha.len];exact ha.lt) (fun i=>actD cells.length (acts.getD i default)) fun i hi h' u'=>?_) fun v h3 hv=>?_
  ·have hi':i<acts.length:=by rw[ha.len];exact hi
   have eg:acts.getD i default=acts[i]:=by simp[List.getD,gE hi']
   rw[eg];have hn2:=w2.up.next
   have hn3:=u'.next
   exact chk2_ctr H (bs:=b1) (ha.short _ (List.getElem_mem hi')) ⟨Nat.le_refl _,fun _ _=>rfl,u'.wf⟩ (by omega) ((ha2.rep i hi' hi).low (u'.low (by omega))) (by omega) ((u'.keep b1 hb1).trans g2) lc
  obtain⟨rfl,u3⟩:=hv;have hae:Qbt ((List.range arows.length).map fun i=>actD cells.length (acts.getD i default))=actsE cells.length acts:=by rw[←ha.len];rfl
  rw[hae];simp only[wS,wC,Nat.reduceAdd];exact Qag ⟨rfl,rfl,rfl,rfl⟩ H.f17 rfl (hk _ _ ⟨by simp[Qak,c1,c2,c3,c4],w2.up.trans u3⟩)
 ·simp only[wS,wC,Nat.reduceAdd,ne1,c4,decide_false,Bool.not_false];exact Qag ⟨rfl,rfl,rfl,rfl⟩ H.f17 rfl (hk _ _ ⟨by simp[Qak,c1,c2,c3,c4],w2.up⟩)
end
structure St where
 vals:Nat→Int
 known:Nat→Bool
 stands:Nat→Nat→Bool
 comp:List Int
def upd{α:Type}(f:Nat→α)(i:Nat)(a:α):Nat→α:=fun j=>if j=i then a else f j
abbrev Ask:=Nat→St→Int×St
abbrev On:=Nat→Bool
def comb(ask:Ask)(k n:Int)(ds:List (On→St→Int×On×St))(on:On)(s:St):Int×On×St:=
 match k,ds with
 |1,_=>((ask n.toNat s).1,upd on n.toNat true,(ask n.toNat s).2)
 |2,[a,b] =>
  let x:=a on s
  let y:=b x.2.1 x.2.2
  (wrapS (IntKind.i64.wrap (x.1+y.1)),y.2.1,y.2.2)
 |3,[a,b] =>
  let x:=a on s
  let y:=b x.2.1 x.2.2
  (wrapS (IntKind.i64.wrap (x.1*y.1)),y.2.1,y.2.2)
 |4,[a,b,c] =>
  let x:=a on s
  if x.1<0 then b x.2.1 x.2.2 else c x.2.1 x.2.2
 |_,_=>(n,on,s)
mutual
def evalT(ask:Ask):CT→On→St→Int×On×St
 | .mk k n l=>comb ask k n (evals ask l)
def evals(ask:Ask):List CT→List (On→St→Int×On×St)
 | []=>[]
 |t::l=>evalT ask t::evals ask l
end
def Qaj(forms:Nat→CT):Nat→Ask
 |0,_,s=>(0,s)
 |f+1,c,s =>
  if s.known c then (s.vals c,s) else
   let r:=evalT (Qaj forms f) (forms c) (fun _=>false) {s with comp:=s.comp++[(c:Int)]}
   (r.1,{r.2.2 with vals:=upd r.2.2.vals c r.1,known:=upd r.2.2.known c true,stands:=upd r.2.2.stands c r.2.1})
structure MC (s:St)(fv cv yv:AV)(L:List AV):Prop where
 len:L.length=51
 f:L[0]? = some fv
 v:∀i,i<6→L[1+i]? = some (.int .i64 (s.vals i))
 kn:∀i,i<6→L[7+i]? = some (.bool (s.known i))
 st:∀i j,i<6→j<6→L[13+i*6+j]? = some (.bool (s.stands i j))
 c:L[49]? = some cv
 y:L[50]? = some yv
section
variable{s:St}{fv cv yv:AV}{L:List AV}
theorem MC.setV(m:MC s fv cv yv L){i:Nat}(hi:i<6)(a:Int):MC {s with vals:=upd s.vals i a} fv cv yv (splice L (1+i) [.int .i64 a]):=by
 have hl:=m.len;have hg:=fun j=>Qbz (l:=L) (xs:=[AV.int .i64 a]) (o:=1+i) (by simp;omega) j
 simp only[List.length_cons,List.length_nil]at hg;refine⟨by rw[Qb0 (by simp;omega)];exact hl,?_,fun j hj=>?_,fun j hj=>?_,fun j q hj hq=>?_,?_,?_⟩
 ·rw[hg,if_pos (by omega)];exact m.f
 ·rw[hg];by_cases c:j=i
  ·subst c;rw[if_neg (by omega),if_pos (by omega)];simp[upd]
  ·have:=m.v j hj;simp only[upd,if_neg c];split
   ·exact this
   ·rw[if_neg (by omega)];exact this
 ·rw[hg,if_neg (by omega),if_neg (by omega)];exact m.kn j hj
 ·rw[hg,if_neg (by omega),if_neg (by omega)];exact m.st j q hj hq
 ·rw[hg,if_neg (by omega),if_neg (by omega)];exact m.c
 ·rw[hg,if_neg (by omega),if_neg (by omega)];exact m.y
theorem MC.setK(m:MC s fv cv yv L){i:Nat}(hi:i<6)(a:Bool):MC {s with known:=upd s.known i a} fv cv yv (splice L (7+i) [.bool a]):=by
 have hl:=m.len;have hg:=fun j=>Qbz (l:=L) (xs:=[AV.bool a]) (o:=7+i) (by simp;omega) j
 simp only[List.length_cons,List.length_nil]at hg;refine⟨by rw[Qb0 (by simp;omega)];exact hl,?_,fun j hj=>?_,fun j hj=>?_,fun j q hj hq=>?_,?_,?_⟩
 ·rw[hg,if_pos (by omega)];exact m.f
 ·rw[hg,if_pos (by omega)];exact m.v j hj
 ·rw[hg];by_cases c:j=i
  ·subst c;rw[if_neg (by omega),if_pos (by omega)];simp[upd]
  ·have:=m.kn j hj;simp only[upd,if_neg c];split
   ·exact this
   ·rw[if_neg (by omega)];exact this
 ·rw[hg,if_neg (by omega),if_neg (by omega)];exact m.st j q hj hq
 ·rw[hg,if_neg (by omega),if_neg (by omega)];exact m.c
 ·rw[hg,if_neg (by omega),if_neg (by omega)];exact m.y
def onC(on:On):List AV:=[.bool (on 0),.bool (on 1),.bool (on 2),.bool (on 3),.bool (on 4),.bool (on 5)]
theorem QkO(on:On){i:Nat}(hi:i<6):(onC on)[i]? = some (.bool (on i)):=by
 have:i=0∨i=1∨i=2∨i=3∨i=4∨i=5:=by omega
 rcases this with rfl|rfl|rfl|rfl|rfl|rfl<;>rfl
theorem onC_set(on:On){i:Nat}(hi:i<6)(b:Bool):splice (onC on) i [.bool b]=onC (upd on i b):=by
 have:i=0∨i=1∨i=2∨i=3∨i=4∨i=5:=by omega
 rcases this with rfl|rfl|rfl|rfl|rfl|rfl<;>simp[onC,splice,upd]
theorem MC.setS(m:MC s fv cv yv L){i:Nat}(hi:i<6)(on:On):MC {s with stands:=upd s.stands i on} fv cv yv (splice L (13+i*6) (onC on)):=by
 have hl:=m.len;have ho:(onC on).length=6:=rfl;have hg:=fun j=>Qbz (l:=L) (xs:=onC on) (o:=13+i*6) (by omega) j
 rw[ho]at hg;refine⟨by rw[Qb0 (by omega)];exact hl,?_,fun j hj=>?_,fun j hj=>?_,fun j q hj hq=>?_,?_,?_⟩
 ·rw[hg,if_pos (by omega)];exact m.f
 ·rw[hg,if_pos (by omega)];exact m.v j hj
 ·rw[hg,if_pos (by omega)];exact m.kn j hj
 ·rw[hg];by_cases c:j=i
  ·subst c;rw[if_neg (by omega),if_pos (by omega),show 13+j*6+q-(13+j*6)=q by omega,QkO on hq];simp[upd]
  ·have:=m.st j q hj hq;simp only[upd,if_neg c];split
   ·exact this
   ·rw[if_neg (by omega)];exact this
 ·rw[hg,if_neg (by omega),if_neg (by omega)];exact m.c
 ·rw[hg,if_neg (by omega),if_neg (by omega)];exact m.y
theorem MC.setC(m:MC s fv cv yv L)(cv':AV)(l:List Int):MC {s with comp:=l} fv cv' yv (splice L 49 [cv']):=by
 have hl:=m.len;have hg:=fun j=>Qbz (l:=L) (xs:=[cv']) (o:=49) (by simp;omega) j
 simp only[List.length_cons,List.length_nil]at hg;refine⟨by rw[Qb0 (by simp;omega)];exact hl,?_,fun j hj=>?_,fun j hj=>?_,fun j q hj hq=>?_,?_,?_⟩
 ·rw[hg,if_pos (by omega)];exact m.f
 ·rw[hg,if_pos (by omega)];exact m.v j hj
 ·rw[hg,if_pos (by omega)];exact m.kn j hj
 ·rw[hg,if_pos (by omega)];exact m.st j q hj hq
 ·rw[hg,if_neg (by omega),if_pos (by omega)];rfl
 ·rw[hg,if_neg (by omega),if_neg (by omega)];exact m.y
end
structure Cx where
 N:Nat
 bm:Nat
 bd:Nat
 bf:Nat
 nc:Nat
def meths(bm:Nat):List (AV×AV×Nat):=
 [(.int .i64 0,.func 42 [.ptr bm 0] [],0),(.int .i64 1,.func 43 [.ptr bm 0] [],1),(.int .i64 2,.func 44 [.ptr bm 0] [],2),(.int .i64 3,.func 45 [.ptr bm 0] [],3),(.int .i64 4,.func 46 [.ptr bm 0] [],4)]
def sbOf:Option AV→Option Nat
 |some (AV.slop b _ _ _)=>some b
 |_=>none
def compOf(h:AH)(bm:Nat):Option Nat:=
 match h.get bm with
 |some (AO.cells l _ _ _)=>sbOf l[49]?
 |_=>none
def ints(l:List Int):List (List AV):=l.map fun n=>[.int .i64 n]
structure Forms (c:Cx)(forms:Nat→CT)(h:AH):Prop where
 ex:∃FL sp,h.get c.bf=some (.cells FL sp 0 [])∧FL.length=c.nc*3∧∀i,i<c.nc→Rep c.N h (forms i) ((FL.drop (i*3)).take 3)
structure Mst (c:Cx)(forms:Nat→CT)(s:St)(h:AH):Prop where
 obj:∃L sp cv,h.get c.bm=some (.cells L sp 0 [])∧MC s (.slop c.bf 0 c.nc 3) cv (.map c.bd) L∧GL c.N h 6 1 cv (ints s.comp)∧(∀b n e,cv=.slop b 0 n e→b≠c.bm∧b≠c.bf)
 fm:Forms c forms h
 does:h.get c.bd=some (.map (meths c.bm) 5)
 wf:∀b,h.next≤b→h.get b=none
 lm:c.N≤c.bm
 lf:c.N≤c.bf
 ne:c.bf≠c.bm
 nc:c.nc≤6
 hN:c.N≤h.next
structure Fr (S:Nat→Prop)(c:Cx)(h h':AH):Prop where
 next:h.next≤h'.next
 keep:∀b,b<h.next→b≠c.bm→¬S b→compOf h c.bm≠some b→h'.get b=h.get b
 comp:∀b,compOf h' c.bm=some b→compOf h c.bm=some b∨h.next≤b
section
variable{S:Nat→Prop}{c:Cx}{h h1 h2:AH}
theorem Fr.refl:Fr S c h h:=⟨Nat.le_refl _,fun _ _ _ _ _=>rfl,fun _ h=>.inl h⟩
theorem Fr.trans(a:Fr S c h h1)(b:Fr S c h1 h2):Fr S c h h2:=by
 refine⟨Nat.le_trans a.next b.next,fun x hx hne hs ht=>?_,fun x hx=>?_⟩
 ·have k1:compOf h1 c.bm≠some x:=fun e=>by
   rcases a.comp x e with h|h
   ·exact ht h
   ·omega
  rw[b.keep x (Nat.lt_of_lt_of_le hx a.next) hne hs k1,a.keep x hx hne hs ht]
 ·rcases b.comp x hx with h|h
  ·exact a.comp x h
  ·exact .inr (Nat.le_trans a.next h)
theorem Fr.mono{S':Nat→Prop}(a:Fr S c h h1)(hS:∀b,S b→S' b∨h.next≤b):Fr S' c h h1:=
 ⟨a.next,fun b hb hn hs ht=>a.keep b hb hn (fun e=>by rcases hS b e with h|h;exact hs h;omega) ht,a.comp⟩
end
theorem lt_of_get{h:AH}(wf:∀b,h.next≤b→h.get b=none){b:Nat}{o:AO}(hg:h.get b=some o):b<h.next:=by
 rcases Nat.lt_or_ge b h.next with hl|hl
 ·exact hl
 ·rw[wf b hl]at hg;cases hg
section
variable{S:Nat→Prop}{c:Cx}{forms:Nat→CT}{s:St}{h h':AH}
theorem Mst.bm_lt(m:Mst c forms s h):c.bm<h.next:=by
 obtain⟨L,sp,cv,h1,_⟩:=m.obj;exact lt_of_get m.wf h1
theorem Mst.bf_lt(m:Mst c forms s h):c.bf<h.next:=by
 obtain⟨FL,sp,h1,_⟩:=m.fm.ex;exact lt_of_get m.wf h1
theorem Mst.bd_lt(m:Mst c forms s h):c.bd<h.next:=lt_of_get m.wf m.does
theorem Mst.compOf(m:Mst c forms s h){b:Nat}(hb:compOf h c.bm=some b):c.N≤b∧b<h.next∧b≠c.bm∧b≠c.bf∧∃l sp pre anc,h.get b=some (.cells l sp pre anc):=by
 obtain⟨L,sp,cv,h1,h2,h3,h4⟩:=m.obj;unfold L26.compOf at hb;rw[h1]at hb;have hb':sbOf L[49]? = some b:=hb;rw[h2.c]at hb';rcases h3.val with⟨rfl,_⟩|⟨b',pre,anc,rfl,e1,e2,e3⟩
 ·cases hb'
 ·cases hb';exact⟨e2,e3,(h4 _ _ _ rfl).1,(h4 _ _ _ rfl).2,_,_,_,_,e1⟩
theorem Mst.low(m:Mst c forms s h)(f:Fr S c h h')(hS:∀b,S b→c.N≤b):Low c.N h h':=fun b hb =>
 f.keep b (by have:=m.hN;omega) (by have:=m.lm;omega) (fun e=>by have:=hS b e;omega) fun e=>by have:=(m.compOf e).1;omega
theorem Qau(hb:h'.get c.bm=h.get c.bm):L26.compOf h' c.bm=L26.compOf h c.bm:=by unfold L26.compOf;rw[hb]
theorem Fr.alloc(m:Mst c forms s h)(o:AO):Fr S c h (h.alloc o):=by
 refine⟨Nat.le_succ _,fun b hb _ _ _=>Qad h o hb,fun b hb=>.inl ?_⟩;rw[Qau (Qad h o m.bm_lt)]at hb;exact hb
theorem GL.keep{lo tg es:Nat}{v:AV}{rows:List (List AV)}(g:GL lo h tg es v rows)(hn:h.next≤h'.next)(hk:∀b n e,v=.slop b 0 n e→h'.get b=h.get b):GL lo h' tg es v rows:=by
 refine⟨?_,g.row⟩;rcases g.val with h1|⟨b,pre,anc,h1,h2,h3,h4⟩
 ·exact .inl h1
 ·exact .inr ⟨b,pre,anc,h1,by rw[hk b _ _ h1];exact h2,h3,Nat.lt_of_lt_of_le h4 hn⟩
theorem Mst.alloc(m:Mst c forms s h)(o:AO):Mst c forms s (h.alloc o):=by
 obtain⟨L,sp,cv,h1,h2,h3,h4⟩:=m.obj;have hL:Low c.N h (h.alloc o):=fun b hb=>Qad h o (by have:=m.hN;omega)
 refine⟨⟨L,sp,cv,by rw[Qad h o m.bm_lt];exact h1,h2,GL.keep h3 (Nat.le_succ _) fun b n e ev=>?_,h4⟩,?_,by rw[Qad h o m.bd_lt];exact m.does,fun b hb=>?_,m.lm,m.lf,m.ne,m.nc,by have:=m.hN;rw[QeY];omega⟩
 ·rcases h3.val with⟨rfl,_⟩|⟨b',pre,anc,rfl,e1,e2,e3⟩
  ·cases ev
  ·cases ev;exact Qad h o e3
 ·obtain⟨FL,sp,e1,e2,e3⟩:=m.fm.ex;exact⟨FL,sp,by rw[Qad h o m.bf_lt];exact e1,e2,fun i hi=>(e3 i hi).low hL⟩
 ·have hb':h.next+1≤b:=hb
  show (if b=h.next then some o else h.get b)=none;rw[if_neg (by omega)];exact m.wf b (by omega)
theorem Mst.putObj(m:Mst c forms s h){s':St}{L:List AV}{sp:Option Nat}{cv:AV}(hg:h.get c.bm=some (.cells L sp 0 [])){L':List AV}(hm:MC s' (.slop c.bf 0 c.nc 3) cv (.map c.bd) L')(hl:GL c.N h 6 1 cv (ints s'.comp))(hc:∀b n e,cv=.slop b 0 n e→b≠c.bm∧b≠c.bf) :
  Mst c forms s' (h.put c.bm (.cells L' sp 0 [])):=by
 have hL:Low c.N h (h.put c.bm (.cells L' sp 0 [])):=fun b hb=>Qab h _ (by have:=m.lm;omega)
 refine⟨⟨L',sp,cv,get_put _ _ _,hm,GL.keep hl (Nat.le_refl _) fun b n e ev=>Qab _ _ (hc b n e ev).1,hc⟩,?_,?_,fun b hb=>?_,m.lm,m.lf,m.ne,m.nc,m.hN⟩
 ·obtain⟨FL,sp,e1,e2,e3⟩:=m.fm.ex;exact⟨FL,sp,by rw[Qab _ _ m.ne];exact e1,e2,fun i hi=>(e3 i hi).low hL⟩
 ·rw[Qab _ _ (fun e=>by have:=m.does;rw[e,hg]at this;cases this)];exact m.does
 ·have hb':h.next≤b:=hb
  rw[Qab _ _ (by have:=m.bm_lt;omega)];exact m.wf b hb'
theorem Fr.putObj{L L':List AV}{sp:Option Nat}(hg:h.get c.bm=some (.cells L sp 0 []))(hc:∀b,sbOf L'[49]? = some b→sbOf L[49]? = some b∨h.next≤b):Fr S c h (h.put c.bm (.cells L' sp 0 [])):=by
 refine⟨Nat.le_refl _,fun b _ hne _ _=>Qab _ _ hne,fun b hb=>?_⟩;unfold L26.compOf at hb ⊢;rw[get_put]at hb;rw[hg];exact hc b hb
end
structure Ext (c:Cx)(h:AH)(bo bb:Nat)(on:On):Prop where
 on:h.get bo=some (.cells (onC on) (some 119) 0 [])
 box:h.get bb=some (.cells [.ptr c.bm 0] (some 109) 0 [])
 lo:bo<h.next
 lb:bb<h.next
 nm:bo≠c.bm
 nf:bo≠c.bf
 nb:bb≠c.bm
 nob:bb≠bo
 No:c.N≤bo
 co:compOf h c.bm≠some bo
 cb:compOf h c.bm≠some bb
section
variable{c:Cx}{forms:Nat→CT}{s:St}{h h':AH}{bo bb:Nat}{on:On}
theorem Ext.alloc(x:Ext c h bo bb on)(m:Mst c forms s h)(o:AO):Ext c (h.alloc o) bo bb on:=by
 have e:=Qau (c:=c) (Qad h o m.bm_lt);exact⟨by rw[Qad h o x.lo];exact x.on,by rw[Qad h o x.lb];exact x.box,Nat.lt_succ_of_lt x.lo,Nat.lt_succ_of_lt x.lb,x.nm,x.nf,x.nb,x.nob,x.No,by rw[e];exact x.co,by rw[e];exact x.cb⟩
theorem Ext.fr{on':On}(x:Ext c h bo bb on)(f:Fr (· = bo) c h h')(ho:h'.get bo=some (.cells (onC on') (some 119) 0 [])):Ext c h' bo bb on':=by
 refine⟨ho,by rw[f.keep bb x.lb x.nb x.nob x.cb];exact x.box,Nat.lt_of_lt_of_le x.lo f.next,Nat.lt_of_lt_of_le x.lb f.next,x.nm,x.nf,x.nb,x.nob,x.No,fun e=>?_,fun e=>?_⟩
 ·rcases f.comp _ e with h|h
  ·exact x.co h
  ·have:=x.lo;omega
 ·rcases f.comp _ e with h|h
  ·exact x.cb h
  ·have:=x.lb;omega
theorem Qi8(m:Mst c forms s h)(x:Ext c h bo bb on)(o:AO){h2:AH}(f:Fr (· = bo) c (h.alloc o) h2):h2.get h.next=some o:=by
 rw[f.keep h.next (Nat.lt_succ_self _) (by have:=m.bm_lt;omega) (by have:=x.lo;omega) (fun e=>?_),Qam];rw[Qau (Qad h o m.bm_lt)]at e;have:=(m.compOf e).2.1;omega
end
section
variable{c:Cx}{forms:Nat→CT}{s:St}{h:AH}
theorem Mst.app(m:Mst c forms s h){L:List AV}{sp:Option Nat}{cv:AV}(hg:h.get c.bm=some (.cells L sp 0 []))(mc:MC s (.slop c.bf 0 c.nc 3) cv (.map c.bd) L)(gl:GL c.N h 6 1 cv (ints s.comp))(hc:∀b n e,cv=.slop b 0 n e→b≠c.bm∧b≠c.bf)
  {b':Nat}{j:Int}{sp':Option Nat}(hb':h.get b'=some (.cells [.int .i64 j] sp' 0 []))(hn:s.comp.length<100000000000) :
  ∃v' h3,appF h 1 8 6 cv (.slice b' 0 1 1)=some (v',h3)∧v'.one=true∧v'.known=true∧v'.cells=[v']∧h3.get c.bm=some (.cells L sp 0 [])∧(∀x,x<h.next→L26.compOf h c.bm≠some x→h3.get x=h.get x)∧h3.next=h3.next∧h.next≤h3.next ∧
   Mst c forms {s with comp:=s.comp++[j]} (h3.put c.bm (.cells (splice L 49 [v']) sp 0 []))∧∀S,Fr S c h (h3.put c.bm (.cells (splice L 49 [v']) sp 0 [])):=by
 obtain⟨v',h3,e1,e2,e3,e4,e5,e6,e7,e8⟩:=gl.app m.wf m.hN hb' rfl rfl (by decide) (show (8:Nat)≠0 by decide) (by decide) (by simp[ints];omega);have hcb:L26.compOf h c.bm=sbOf (some cv):=by
  unfold L26.compOf;rw[hg];show sbOf L[49]? = _;rw[mc.c]
 have key:∀x,x<h.next→L26.compOf h c.bm≠some x→h3.get x=h.get x:=fun x hx hn=>e7 x hx fun b n e ev he=>hn (by rw[hcb,ev,he];rfl)
 have kbm:h3.get c.bm=h.get c.bm:=e7 _ m.bm_lt fun b n e ev=>(hc b n e ev).1.symm
 have kbf:h3.get c.bf=h.get c.bf:=e7 _ m.bf_lt fun b n e ev=>(hc b n e ev).2.symm
 have kbd:h3.get c.bd=h.get c.bd:=key _ m.bd_lt fun e=>by
  obtain⟨_,_,_,_,l,sp,pre,anc,hh⟩:=m.compOf e;rw[m.does]at hh;cases hh
 have hne:h.next≠c.bm∧h.next≠c.bf:=⟨by have:=m.bm_lt;omega,by have:=m.bf_lt;omega⟩
 have hv':∀b n e,v'=.slop b 0 n e→b≠c.bm∧b≠c.bf:=fun b n e ev=>by
  rw[e8]at ev;cases ev;exact hne
 have hL:Low c.N h (h3.put c.bm (.cells (splice L 49 [v']) sp 0 [])):=fun b hb=>by
  have:=m.lm;have:=m.hN;rw[Qab _ _ (by omega)];exact e4 b (by omega) hb
 refine⟨v',h3,e1,e6,by rw[e8];rfl,by rw[e8];rfl,kbm.trans hg,key,rfl,e3,⟨⟨splice L 49 [v'],sp,v',get_put _ _ _,mc.setC v' _,GL.keep (h:=h3) ?_ (Nat.le_refl _) fun b n e ev=>Qab _ _ (hv' b n e ev).1,hv'⟩,?_,?_,fun b hb=>?_,m.lm,m.lf,m.ne,m.nc,Nat.le_trans m.hN e3⟩,fun S=>⟨e3,fun b hb hn _ ht=>?_,fun b hb=>.inr ?_⟩⟩
 ·have:ints (s.comp++[j])=ints s.comp++[[.int .i64 j]]:=by simp[ints]
  show GL c.N h3 6 1 v' (ints (s.comp++[j]));rw[this];exact e2
 ·obtain⟨FL,sp2,q1,q2,q3⟩:=m.fm.ex;exact⟨FL,sp2,by rw[Qab _ _ m.ne,kbf];exact q1,q2,fun i hi=>(q3 i hi).low hL⟩
 ·rw[Qab _ _ (fun e=>by have:=m.does;rw[e,hg]at this;cases this),kbd];exact m.does
 ·have hb2:h3.next≤b:=hb
  rw[Qab _ _ (by have:=m.bm_lt;omega)];exact e5 b hb2
 ·rw[Qab _ _ hn];exact key b hb ht
 ·unfold L26.compOf at hb;rw[get_put]at hb;have hb2:sbOf (splice L 49 [v'])[49]? = some b:=hb;have hl:=mc.len;rw[Qbz (by simp;omega),if_neg (by omega),if_pos (by simp),e8]at hb2;have hb3:some h.next=some b:=hb2
  cases hb3;exact Nat.le_refl _
theorem Mst.putOn(m:Mst c forms s h){bo bb:Nat}{on:On}(x:Ext c h bo bb on)(on':On):Mst c forms s (h.put bo (.cells (onC on') (some 119) 0 []))∧Ext c (h.put bo (.cells (onC on') (some 119) 0 [])) bo bb on'∧Fr (· = bo) c h (h.put bo (.cells (onC on') (some 119) 0 [])):=by
 obtain⟨L,sp,cv,h1,h2,h3,h4⟩:=m.obj;have hL:Low c.N h (h.put bo (.cells (onC on') (some 119) 0 [])):=fun b hb=>Qab h _ (by have:=x.No;omega)
 have hcv:∀b n e,cv=.slop b 0 n e→b≠bo:=fun b n e ev he=>x.co (by
  unfold L26.compOf;rw[h1];show sbOf L[49]? = _;rw[h2.c,ev,he];rfl)
 have kbm:=Qab h (.cells (onC on') (some 119) 0 []) x.nm.symm;have hco:L26.compOf (h.put bo (.cells (onC on') (some 119) 0 [])) c.bm=L26.compOf h c.bm:=Qau kbm;refine⟨⟨⟨L,sp,cv,kbm.trans h1,h2,GL.keep h3 (Nat.le_refl _) fun b n e ev=>Qab _ _ (hcv b n e ev),h4⟩,?_,?_,fun b hb=>?_,m.lm,m.lf,m.ne,m.nc,m.hN⟩,⟨get_put _ _ _,(Qab h _ x.nob).trans x.box,x.lo,x.lb,x.nm,x.nf,x.nb,x.nob,x.No,by rw[hco];exact x.co,by rw[hco];exact x.cb⟩,⟨Nat.le_refl _,fun b _ _ hn _=>Qab _ _ hn,fun b hb=>.inl (by rw[hco]at hb;exact hb)⟩⟩
 ·obtain⟨FL,sp2,q1,q2,q3⟩:=m.fm.ex;exact⟨FL,sp2,by rw[Qab _ _ x.nf.symm];exact q1,q2,fun i hi=>(q3 i hi).low hL⟩
 ·rw[Qab _ _ (fun e=>by have:=m.does;rw[e,x.on]at this;cases this)];exact m.does
 ·have hb2:h.next≤b:=hb
  rw[Qab _ _ (by have:=x.lo;omega)];exact m.wf b hb2
end
def B:Nat→Nat
 |0=>0
 |f+1=>1+12*B f
section
variable{ask:Ask}{K:Nat}
theorem comb_len(ha:∀j s,(ask j s).2.comp.length≤s.comp.length+K){k n:Int}{l:List CT}{ds:List (On→St→Int×On×St)}(hd:ds.length=l.length)(h:∀i (h1:i<ds.length)(h2:i<l.length) on s,(ds[i] on s).2.2.comp.length≤s.comp.length+sizeC l[i]*K)(on:On)(s:St) :
  (comb ask k n ds on s).2.2.comp.length≤s.comp.length+(1+sizes l)*K:=by
 have big:s.comp.length≤s.comp.length+(1+sizes l)*K:=Nat.le_add_right _ _;by_cases k1:k=1
 ·subst k1;have:=ha n.toNat s;simp only[comb,Nat.add_mul];omega
 match ds,l,hd,h with
 | [],[],_,_=>unfold comb;split<;>first|exact big|contradiction|simp_all
 | [a],[t],_,_=>unfold comb;split<;>first|exact big|contradiction|simp_all
 | [a,b],[t,u],_,h =>
  have h0:=h 0 (by simp) (by simp) on s;simp only[List.getElem_cons_zero]at h0;have h1:=h 1 (by simp) (by simp) (a on s).2.1 (a on s).2.2;simp only[List.getElem_cons_succ,List.getElem_cons_zero]at h1;by_cases k2:k=2
  ·subst k2;simp only[comb,sizes,Nat.add_mul];omega
  by_cases k3:k=3
  ·subst k3;simp only[comb,sizes,Nat.add_mul];omega
  unfold comb;split<;>first|exact big|contradiction|simp_all
 | [a,b,d],[t,u,w],_,h =>
  have h0:=h 0 (by simp) (by simp) on s;have h1:=h 1 (by simp) (by simp) (a on s).2.1 (a on s).2.2;have h2:=h 2 (by simp) (by simp) (a on s).2.1 (a on s).2.2;simp only[List.getElem_cons_succ,List.getElem_cons_zero]at h0 h1 h2;by_cases k4:k=4
  ·subst k4;simp only[comb,sizes,Nat.add_mul];split<;>omega
  unfold comb;split<;>first|exact big|contradiction|simp_all
 |_::_::_::_::_,_::_::_::_::_,_,_=>unfold comb;split<;>first|exact big|contradiction|simp_all
mutual
theorem Qds(ha:∀j s,(ask j s).2.comp.length≤s.comp.length+K):∀(T:CT)(on:On)(s:St),(evalT ask T on s).2.2.comp.length≤s.comp.length+sizeC T*K
 | .mk k n l=>fun on s=>by
  simp only[evalT,sizeC];exact comb_len ha (QeG ha l).1 (QeG ha l).2 on s
theorem QeG(ha:∀j s,(ask j s).2.comp.length≤s.comp.length+K):∀l:List CT,(evals ask l).length=l.length∧∀i (h1:i<(evals ask l).length)(h2:i<l.length) on s,((evals ask l)[i] on s).2.2.comp.length≤s.comp.length+sizeC l[i]*K
 | []=>⟨rfl,fun i h1=>absurd h1 (by simp[evals])⟩
 |t::l=>⟨by simp[evals,(QeG ha l).1],fun i h1 h2 on s=>by
  cases i with
  |zero=>exact Qds ha t on s
  |succ i=>exact(QeG ha l).2 i (by simpa[evals] using h1) (by simpa using h2) on s⟩
end
end
theorem QbZ{forms:Nat→CT}(hf:∀c,sizeC (forms c)≤12):∀(f c:Nat)(s:St),(Qaj forms f c s).2.comp.length≤s.comp.length+B f
 |0,_,_=>by simp[Qaj]
 |f+1,c,s=>by
  unfold Qaj;split
  ·simp
  ·have:=Qds (QbZ hf f) (forms c) (fun _=>false) {s with comp:=s.comp++[(c:Int)]};simp only[List.length_append,List.length_cons,List.length_nil]at this;have h2:=Nat.mul_le_mul_right (B f) (hf c);simp only[B];omega
def RightT(cell:Nat)(T:CT):Prop:=Qa3 cell T=0
theorem RightT.inv{cell:Nat}{k n:Int}{l:List CT}(h:RightT cell (.mk k n l)) :
  (k=0∧l=[])∨(∃j:Nat,k=1∧n=(j:Int)∧j<cell∧l=[])∨((k=2∨k=3)∧∃a b,l=[a,b]∧RightT cell a∧RightT cell b)∨(k=4∧∃a b d,l=[a,b,d]∧RightT cell a∧RightT cell b∧RightT cell d):=by
 unfold RightT at h;simp only[Qa3]at h;have h1:nodeD k n l.length cell=0:=by
  by_cases z:nodeD k n l.length cell=0
  ·exact z
  ·rw[if_pos z]at h;exact h
 rw[h1]at h;simp only[ne_eq,not_true,if_false]at h;have parts:∀(m:List CT),Qbc cell m=0→∀t∈m,RightT cell t:=by
  intro m
  induction m with
  |nil=>intro _ t ht;cases ht
  |cons a m ih =>
   intro hm t ht;simp only[Qbc]at hm;have ha:Qa3 cell a=0:=by
    by_cases z:Qa3 cell a=0
    ·exact z
    ·rw[if_pos z]at hm;exact hm
   rw[ha]at hm;simp only[ne_eq,not_true,if_false]at hm;rcases List.mem_cons.1 ht with rfl|ht
   ·exact ha
   ·exact ih hm t ht
 have hp:=parts l h;unfold nodeD at h1;split at h1
 ·rename_i k0;refine .inl ⟨k0,?_⟩;split at h1
  ·omega
  ·split at h1
   ·omega
   ·rename_i z;exact List.eq_nil_of_length_eq_zero (by omega)
 split at h1
 ·rename_i k1;split at h1
  ·omega
  ·split at h1
   ·omega
   ·split at h1
    ·omega
    ·rename_i z1 z2 z3;exact .inr (.inl ⟨n.toNat,k1,by omega,by omega,List.eq_nil_of_length_eq_zero (by omega)⟩)
 split at h1
 ·rename_i k4;split at h1
  ·omega
  ·split at h1
   ·omega
   ·rename_i z
    match l,z,hp with
    | [a,b,d],_,hp=>exact .inr (.inr (.inr ⟨k4,a,b,d,rfl,hp a (by simp),hp b (by simp),hp d (by simp)⟩))
    | [],z,_=>simp at z
    | [_],z,_=>simp at z
    | [_,_],z,_=>simp at z
    |_::_::_::_::_,z,_=>simp at z
 split at h1
 ·rename_i k23;split at h1
  ·omega
  ·split at h1
   ·omega
   ·rename_i z
    match l,z,hp with
    | [a,b],_,hp=>exact .inr (.inr (.inl ⟨k23,a,b,rfl,hp a (by simp),hp b (by simp)⟩))
    | [],z,_=>simp at z
    | [_],z,_=>simp at z
    |_::_::_::_,z,_=>simp at z
 ·omega
def askV(bo bb:Nat):AV:=.func 83 [] [.ptr bo 0,.ptr bb 0]
structure PostE (c:Cx)(forms:Nat→CT)(r:Int×On×St)(h:AH)(bo:Nat)(v:AV)(h':AH):Prop where
 val:v=.int .i64 r.1
 mst:Mst c forms r.2.2 h'
 fr:Fr (· = bo) c h h'
 on:h'.get bo=some (.cells (onC r.2.1) (some 119) 0 [])
def AskC(F:FuncId→Option AFun)(M:Memo)(c:Cx)(forms:Nat→CT)(f cell:Nat):Prop:=
 ∀(j:Nat) (s:St) (h:AH) (bo bb:Nat) (on:On),j<cell→Mst c forms s h→Ext c h bo bb on→s.comp.length+B f≤1000000000 →
  Ctr F M 83 [.int .i64 (j:Int),.ptr bo 0,.ptr bb 0] h (PostE c forms ((Qaj forms f j s).1,upd on j true,(Qaj forms f j s).2) h bo) (fun _ _=>False)
def EvalC(F:FuncId→Option AFun)(M:Memo)(c:Cx)(forms:Nat→CT)(f:Nat)(g:FuncId)(pre:List AV)(T:CT):Prop:=
 ∀(s:St) (h:AH) (bo bb:Nat) (on:On) (row:List AV),Mst c forms s h→Ext c h bo bb on→Rep c.N h T row→s.comp.length+sizeC T*B f≤1000000000 →
  Ctr F M g (pre++[.agg row,askV bo bb]) h (PostE c forms (evalT (Qaj forms f) T on s) h bo) (fun _ _=>False)
structure FnC (F:FuncId→Option AFun)(M:Memo):Prop where
 f42:F 42=some fn42
 f43:F 43=some fn43
 f44:F 44=some fn44
 f45:F 45=some fn45
 f46:F 46=some fn46
 f80:F 80=some fn80
 f81:F 81=some fn81
 f83:F 83=some fn83
 f48:F 48=some fn48
 m:∀f∈[42,43,44,45,46,80,81,83,48],∀as,M f as=none
theorem boxA{h:AH}{tg:Nat}{cs:List AV}:boxF h tg (.agg cs)=some (.ptr h.next 0,h.alloc (.cells cs (some tg) 0 [])):=id rfl
section
variable{F:FuncId→Option AFun}{M:Memo}{c:Cx}{forms:Nat→CT}{f cell:Nat}
theorem num_eval(H:FnC F M){n:Int}{l:List CT}:EvalC F M c forms f 42 [.ptr c.bm 0] (.mk 0 n l):=by
 intro s h bo bb on row m x hr hb;refine Ctr.intro H.f42 fun caller cs G hk _=>W_ok 300 _ _ _ ?_
 obtain⟨k',n',l',lv,e,rfl,_,_⟩:=hr.row3;cases e;have m1:=m.alloc (.cells [.int .i64 0,.int .i64 n,lv] (some 79) 0 []);have x1:=x.alloc m (.cells [.int .i64 0,.int .i64 n,lv] (some 79) 0 []);have f1:=Fr.alloc (S:=(· = bo)) m (.cells [.int .i64 0,.int .i64 n,lv] (some 79) 0 []);have g1:=Qam h (.cells [.int .i64 0,.int .i64 n,lv] (some 79) 0 []);simp only[fn42,b42,askV,Nat.reduceAdd,Nat.reduceSub,wS,wC,boxA,ldP g1,rdC,Nat.reduceLeDiff,if_true];exact Qag ⟨rfl,rfl,rfl,rfl⟩ H.f42 rfl (hk _ _ ⟨rfl,m1,f1,x1.on⟩)
theorem Qor(H:FnC F M)(ha:AskC F M c forms f cell){j:Nat}(hj:j<cell){l:List CT}:EvalC F M c forms f 43 [.ptr c.bm 0] (.mk 1 (j:Int) l):=by
 intro s h bo bb on row m x hr hb;refine Ctr.intro H.f43 fun caller cs G hk _=>W_ok 300 _ _ _ ?_
 obtain⟨k',n',l',lv,e,rfl,_,_⟩:=hr.row3;cases e;have m1:=m.alloc (.cells [.int .i64 1,.int .i64 (j:Int),lv] (some 79) 0 []);have x1:=x.alloc m (.cells [.int .i64 1,.int .i64 (j:Int),lv] (some 79) 0 []);have f1:=Fr.alloc (S:=(· = bo)) m (.cells [.int .i64 1,.int .i64 (j:Int),lv] (some 79) 0 []);have g1:=Qam h (.cells [.int .i64 1,.int .i64 (j:Int),lv] (some 79) 0 []);simp only[fn43,b43,askV,Nat.reduceAdd,Nat.reduceSub,wS,wC,boxA,ldP g1,rdC,Nat.reduceLeDiff,if_true];refine cCall 300 (H.m 83 (by simp) _) (ha j s _ bo bb on hj m1 x1 (by simp only[sizeC,Nat.add_mul]at hb;omega)) fun v h2 hv=>?_
 obtain⟨rfl,m2,f2,o2⟩:=hv;simp only[wS,wC,Nat.reduceAdd];exact Qag ⟨rfl,rfl,rfl,rfl⟩ H.f43 rfl (hk _ _ ⟨rfl,m2,f1.trans f2,o2⟩)
theorem add_eval(H:FnC F M)(hs:∀c,sizeC (forms c)≤12){n:Int}{a b:CT}(iha:EvalC F M c forms f 80 [.ptr c.bm 0] a)(ihb:EvalC F M c forms f 80 [.ptr c.bm 0] b):EvalC F M c forms f 44 [.ptr c.bm 0] (.mk 2 n [a,b]):=by
 intro s h bo bb on row m x hr hb;refine Ctr.intro H.f44 fun caller cs G hk _=>W_ok 300 _ _ _ ?_
 obtain⟨lv,rows,rfl,hsl,hl,hrr⟩:=hr.inv;have m1:=m.alloc (.cells [.int .i64 2,.int .i64 n,lv] (some 79) 0 []);have x1:=x.alloc m (.cells [.int .i64 2,.int .i64 n,lv] (some 79) 0 []);have f1:=Fr.alloc (S:=(· = bo)) m (.cells [.int .i64 2,.int .i64 n,lv] (some 79) 0 []);have g1:=Qam h (.cells [.int .i64 2,.int .i64 n,lv] (some 79) 0 []);have kb:=fun {h2} (f2:Fr (· = bo) c _ h2)=>Qi8 (h2:=h2) m x (.cells [.int .i64 2,.int .i64 n,lv] (some 79) 0 []) f2
 simp only[fn44,b44,askV,Nat.reduceAdd,Nat.reduceSub,wS,wC,boxA,ldP g1,rdC,Nat.reduceLeDiff,if_true];have SS:∀b,b=bo→c.N≤b:=fun b e=>e ▸ x.No
 have hl2:rows.length=2:=by simpa using hl.symm
 obtain⟨p0,q0,r0,s0⟩:=hsl.row 0 (by omega);obtain⟨p1,q1,r1,s1⟩:=hsl.row 1 (by omega);have ra:=hrr 0 (by simp) (by omega);have rb:=hrr 1 (by simp) (by omega);simp only[List.getElem_cons_zero,List.getElem_cons_succ]at ra rb;simp only[Int.ofNat_zero,Int.cast_ofNat_Int]at q0 q1;generalize rows[0]=w0 at s0 ra;generalize rows[1]=w1 at s1 rb;generalize h.alloc (.cells [.int .i64 2,.int .i64 n,lv] (some 79) 0 [])=h1 at m1 x1 f1 g1 kb ⊢;have L1:=m.low f1 SS;have s0':=(QaH L1 r0 3).trans s0;simp only[wS,wC,Nat.reduceAdd,q0,s0'];simp only[sizeC,sizes,Nat.add_mul]at hb;refine cCall 300 (H.m 80 (by simp) _) (iha s h1 bo bb on w0 m1 x1 (ra.low L1) (by omega)) fun v h2 hv=>?_
 obtain⟨rfl,m2,f2,o2⟩:=hv;have x2:=x1.fr f2 o2;have g2:=kb f2;have L2:=m.low (f1.trans f2) SS;have s1':=(QaH L2 r1 3).trans s1;have hlen:=Qds (QbZ hs f) a on s;simp only[wS,wC,Nat.reduceAdd,ldP g2,rdC,Nat.reduceLeDiff,if_true,q1,s1'];refine cCall 300 (H.m 80 (by simp) _) (ihb _ h2 bo bb _ w1 m2 x2 (rb.low L2) (by omega)) fun v h3 hv=>?_
 obtain⟨rfl,m3,f3,o3⟩:=hv;simp only[wS,wC,Nat.reduceAdd];refine cCall 300 (H.m 81 (by simp) _) (QlD H.f81 _ h3) fun v h4 hv=>?_
 obtain⟨rfl,rfl⟩:=hv;simp only[wS,wC,Nat.reduceAdd];exact Qag ⟨rfl,rfl,rfl,rfl⟩ H.f44 rfl (hk _ _ ⟨rfl,m3,(f1.trans f2).trans f3,o3⟩)
theorem mul_eval(H:FnC F M)(hs:∀c,sizeC (forms c)≤12){n:Int}{a b:CT}(iha:EvalC F M c forms f 80 [.ptr c.bm 0] a)(ihb:EvalC F M c forms f 80 [.ptr c.bm 0] b):EvalC F M c forms f 45 [.ptr c.bm 0] (.mk 3 n [a,b]):=by
 intro s h bo bb on row m x hr hb;refine Ctr.intro H.f45 fun caller cs G hk _=>W_ok 300 _ _ _ ?_
 obtain⟨lv,rows,rfl,hsl,hl,hrr⟩:=hr.inv;have m1:=m.alloc (.cells [.int .i64 3,.int .i64 n,lv] (some 79) 0 []);have x1:=x.alloc m (.cells [.int .i64 3,.int .i64 n,lv] (some 79) 0 []);have f1:=Fr.alloc (S:=(· = bo)) m (.cells [.int .i64 3,.int .i64 n,lv] (some 79) 0 []);have g1:=Qam h (.cells [.int .i64 3,.int .i64 n,lv] (some 79) 0 []);have kb:=fun {h2} (f2:Fr (· = bo) c _ h2)=>Qi8 (h2:=h2) m x (.cells [.int .i64 3,.int .i64 n,lv] (some 79) 0 []) f2
 simp only[fn45,b45,askV,Nat.reduceAdd,Nat.reduceSub,wS,wC,boxA,ldP g1,rdC,Nat.reduceLeDiff,if_true];have SS:∀b,b=bo→c.N≤b:=fun b e=>e ▸ x.No
 have hl2:rows.length=2:=by simpa using hl.symm
 obtain⟨p0,q0,r0,s0⟩:=hsl.row 0 (by omega);obtain⟨p1,q1,r1,s1⟩:=hsl.row 1 (by omega);have ra:=hrr 0 (by simp) (by omega);have rb:=hrr 1 (by simp) (by omega);simp only[List.getElem_cons_zero,List.getElem_cons_succ]at ra rb;simp only[Int.ofNat_zero,Int.cast_ofNat_Int]at q0 q1;generalize rows[0]=w0 at s0 ra;generalize rows[1]=w1 at s1 rb;generalize h.alloc (.cells [.int .i64 3,.int .i64 n,lv] (some 79) 0 [])=h1 at m1 x1 f1 g1 kb ⊢;have L1:=m.low f1 SS;have s0':=(QaH L1 r0 3).trans s0;simp only[wS,wC,Nat.reduceAdd,q0,s0'];simp only[sizeC,sizes,Nat.add_mul]at hb;refine cCall 300 (H.m 80 (by simp) _) (iha s h1 bo bb on w0 m1 x1 (ra.low L1) (by omega)) fun v h2 hv=>?_
 obtain⟨rfl,m2,f2,o2⟩:=hv;have x2:=x1.fr f2 o2;have g2:=kb f2;have L2:=m.low (f1.trans f2) SS;have s1':=(QaH L2 r1 3).trans s1;have hlen:=Qds (QbZ hs f) a on s;simp only[wS,wC,Nat.reduceAdd,ldP g2,rdC,Nat.reduceLeDiff,if_true,q1,s1'];refine cCall 300 (H.m 80 (by simp) _) (ihb _ h2 bo bb _ w1 m2 x2 (rb.low L2) (by omega)) fun v h3 hv=>?_
 obtain⟨rfl,m3,f3,o3⟩:=hv;simp only[wS,wC,Nat.reduceAdd];refine cCall 300 (H.m 81 (by simp) _) (QlD H.f81 _ h3) fun v h4 hv=>?_
 obtain⟨rfl,rfl⟩:=hv;simp only[wS,wC,Nat.reduceAdd];exact Qag ⟨rfl,rfl,rfl,rfl⟩ H.f45 rfl (hk _ _ ⟨rfl,m3,(f1.trans f2).trans f3,o3⟩)
theorem iff_eval(H:FnC F M)(hs:∀c,sizeC (forms c)≤12){n:Int}{a b d:CT}(iha:EvalC F M c forms f 80 [.ptr c.bm 0] a)(ihb:EvalC F M c forms f 80 [.ptr c.bm 0] b)(ihd:EvalC F M c forms f 80 [.ptr c.bm 0] d):EvalC F M c forms f 46 [.ptr c.bm 0] (.mk 4 n [a,b,d]):=by
 intro s h bo bb on row m x hr hb;refine Ctr.intro H.f46 fun caller cs G hk _=>W_ok 300 _ _ _ ?_
 obtain⟨lv,rows,rfl,hsl,hl,hrr⟩:=hr.inv;have m1:=m.alloc (.cells [.int .i64 4,.int .i64 n,lv] (some 79) 0 []);have x1:=x.alloc m (.cells [.int .i64 4,.int .i64 n,lv] (some 79) 0 []);have f1:=Fr.alloc (S:=(· = bo)) m (.cells [.int .i64 4,.int .i64 n,lv] (some 79) 0 []);have g1:=Qam h (.cells [.int .i64 4,.int .i64 n,lv] (some 79) 0 []);have kb:=fun {h2} (f2:Fr (· = bo) c _ h2)=>Qi8 (h2:=h2) m x (.cells [.int .i64 4,.int .i64 n,lv] (some 79) 0 []) f2
 simp only[fn46,b46,askV,Nat.reduceAdd,Nat.reduceSub,wS,wC,boxA,ldP g1,rdC,Nat.reduceLeDiff,if_true];have SS:∀b,b=bo→c.N≤b:=fun b e=>e ▸ x.No
 have hl2:rows.length=3:=by simpa using hl.symm
 obtain⟨p0,q0,r0,s0⟩:=hsl.row 0 (by omega);obtain⟨p1,q1,r1,s1⟩:=hsl.row 1 (by omega);obtain⟨p2,q2,r2,s2⟩:=hsl.row 2 (by omega);have ra:=hrr 0 (by simp) (by omega);have rb:=hrr 1 (by simp) (by omega);have rd:=hrr 2 (by simp) (by omega);simp only[List.getElem_cons_zero,List.getElem_cons_succ]at ra rb rd;simp only[Int.ofNat_zero,Int.cast_ofNat_Int]at q0 q1 q2;generalize rows[0]=w0 at s0 ra;generalize rows[1]=w1 at s1 rb;generalize rows[2]=w2 at s2 rd;generalize h.alloc (.cells [.int .i64 4,.int .i64 n,lv] (some 79) 0 [])=h1 at m1 x1 f1 g1 kb ⊢;have L1:=m.low f1 SS;have s0':=(QaH L1 r0 3).trans s0;simp only[wS,wC,Nat.reduceAdd,q0,s0'];simp only[sizeC,sizes,Nat.add_mul]at hb;refine cCall 300 (H.m 80 (by simp) _) (iha s h1 bo bb on w0 m1 x1 (ra.low L1) (by omega)) fun v h2 hv=>?_
 obtain⟨rfl,m2,f2,o2⟩:=hv;have x2:=x1.fr f2 o2;have g2:=kb f2;have L2:=m.low (f1.trans f2) SS;have s1':=(QaH L2 r1 3).trans s1;have s2':=(QaH L2 r2 3).trans s2;have hlen:=Qds (QbZ hs f) a on s;simp only[wS,wC,Nat.reduceAdd];have ev:evalT (Qaj forms f) (.mk 4 n [a,b,d]) on s=if (evalT (Qaj forms f) a on s).1<0 then evalT (Qaj forms f) b (evalT (Qaj forms f) a on s).2.1 (evalT (Qaj forms f) a on s).2.2 else evalT (Qaj forms f) d (evalT (Qaj forms f) a on s).2.1 (evalT (Qaj forms f) a on s).2.2:=by
  simp only[evalT,evals,comb]
 rw[ev]at hk;by_cases z:(evalT (Qaj forms f) a on s).1<0
 ·rw[if_pos z]at hk;simp only[wS,wC,Nat.reduceAdd,z,decide_true,ldP g2,rdC,Nat.reduceLeDiff,if_true,q1,s1'];refine cCall 300 (H.m 80 (by simp) _) (ihb _ h2 bo bb _ w1 m2 x2 (rb.low L2) (by omega)) fun v h3 hv=>?_
  obtain⟨rfl,m3,f3,o3⟩:=hv;simp only[wS,wC,Nat.reduceAdd];exact Qag ⟨rfl,rfl,rfl,rfl⟩ H.f46 rfl (hk _ _ ⟨rfl,m3,(f1.trans f2).trans f3,o3⟩)
 ·rw[if_neg z]at hk;simp only[wS,wC,Nat.reduceAdd,z,decide_false,ldP g2,rdC,Nat.reduceLeDiff,if_true,q2,s2'];refine cCall 300 (H.m 80 (by simp) _) (ihd _ h2 bo bb _ w2 m2 x2 (rd.low L2) (by omega)) fun v h3 hv=>?_
  obtain⟨rfl,m3,f3,o3⟩:=hv;simp only[wS,wC,Nat.reduceAdd];exact Qag ⟨rfl,rfl,rfl,rfl⟩ H.f46 rfl (hk _ _ ⟨rfl,m3,(f1.trans f2).trans f3,o3⟩)
def lkF(h:AH)(kk:Nat)(zero m k:AV)(ok:Bool):Option (AV×AH):=exec h (aev [zero,m,k]) (.lookup kk zero (.tmp 1) (.tmp 2) ok)
theorem eLk{h:AH}{ev:AOpd→AV}{kk:Nat}{zero:AV}{m k:AOpd}{ok:Bool}:exec h ev (.lookup kk zero m k ok)=lkF h kk zero (ev m) (ev k) ok:=id rfl
theorem lkM{h:AH}{bd bm:Nat}(hd:h.get bd=some (.map (meths bm) 5)){k:Nat}(hk:k<5):lkF h 0 .nilFunc (.map bd) (.int .i64 (k:Int)) false=some (.func (42+k) [.ptr bm 0] [],h):=by
 have:k=0∨k=1∨k=2∨k=3∨k=4:=by omega
 rcases this with rfl|rfl|rfl|rfl|rfl<;>simp[lkF,exec,aev,AV.keyKind,hd,meths,findA,sameKey]
theorem Qj8(H:FnC F M){k:Nat}(hk5:k<5){n:Int}{l:List CT}(hm:∀as,M (42+k) as=none)(ih:EvalC F M c forms f (42+k) [.ptr c.bm 0] (.mk (k:Int) n l)):EvalC F M c forms f 80 [.ptr c.bm 0] (.mk (k:Int) n l):=by
 intro s h bo bb on row m x hr hb;refine Ctr.intro H.f80 fun caller cs G hk _=>W_ok 300 _ _ _ ?_
 obtain⟨lv,rows,rfl,hsl,hl,hrr⟩:=hr.inv;have m1:=m.alloc (.cells [.int .i64 (k:Int),.int .i64 n,lv] (some 79) 0 []);have x1:=x.alloc m (.cells [.int .i64 (k:Int),.int .i64 n,lv] (some 79) 0 []);have f1:=Fr.alloc (S:=(· = bo)) m (.cells [.int .i64 (k:Int),.int .i64 n,lv] (some 79) 0 []);have g1:=Qam h (.cells [.int .i64 (k:Int),.int .i64 n,lv] (some 79) 0 []);have SS:∀b,b=bo→c.N≤b:=fun b e=>e ▸ x.No
 have L1:=m.low f1 SS;obtain⟨L,sp,cv,gm,mc,_,_⟩:=m1.obj;have hlk:=lkM m1.does hk5;have ly:loadA (h.alloc (.cells [.int .i64 (k:Int),.int .i64 n,lv] (some 79) 0 [])) 1 (.ptr c.bm 50)=some [.map c.bd]:=by rw[ldP gm,rdC1 mc.y]
 simp only[fn80,b80,askV,AOp.makes,Nat.reduceAdd,Nat.reduceSub,wS,wC,boxA,ldP g1,ly,rdC,Nat.reduceLeDiff,if_true,eLk,hlk];refine cMain 300 (hm _) (ih s _ bo bb on _ m1 x1 (hr.low L1) hb) fun v h2 hv=>⟨rfl,?_⟩
 obtain⟨rfl,m2,f2,o2⟩:=hv;simp only[wS,wC,Nat.reduceAdd,AOp.makes];exact Qag ⟨rfl,rfl,rfl,rfl⟩ H.f80 rfl (hk _ _ ⟨rfl,m2,f1.trans f2,o2⟩)
theorem QdM(H:FnC F M)(hs:∀c,sizeC (forms c)≤12)(ha:AskC F M c forms f cell):∀(z:Nat)(T:CT),sizeC T≤z→RightT cell T→EvalC F M c forms f 80 [.ptr c.bm 0] T
 |0,.mk k n l,hz,_=>by simp[sizeC]at hz
 |z+1,.mk k n l,hz,hr=>by
  rcases hr.inv with⟨rfl,rfl⟩|⟨j,rfl,rfl,hj,rfl⟩|⟨hk,a,b,rfl,ra,rb⟩|⟨rfl,a,b,d,rfl,ra,rb,rd⟩
  ·exact Qj8 (k:=0) H (by decide) (H.m 42 (by simp)) (num_eval H)
  ·exact Qj8 (k:=1) H (by decide) (H.m 43 (by simp)) (Qor H ha hj)
  ·simp only[sizeC,sizes]at hz;have ia:=QdM H hs ha z a (by omega) ra;have ib:=QdM H hs ha z b (by omega) rb;rcases hk with rfl|rfl
   ·exact Qj8 (k:=2) H (by decide) (H.m 44 (by simp)) (add_eval H hs ia ib)
   ·exact Qj8 (k:=3) H (by decide) (H.m 45 (by simp)) (mul_eval H hs ia ib)
  ·simp only[sizeC,sizes]at hz;exact Qj8 (k:=4) H (by decide) (H.m 46 (by simp)) (iff_eval H hs (QdM H hs ha z a (by omega) ra) (QdM H hs ha z b (by omega) rb) (QdM H hs ha z d (by omega) rd))
end
end Go.Ab.L26
namespace Go.Ab
open Go
section
variable{F:FuncId→Option AFun}{M:Memo}{x:Ctx}{G:AS→Prop}{n:Nat}{k:List AItem}{t:List AV}{h:AH}{d:Option Nat}
theorem wPM1{ag:List AOper}{v:AV}{h':AH}:WPM F M x G n k t d ag (some (v,h'))=(ag.all (again (setDst t d v) h')=true∧W F M x G n k (setDst t d v) h'):=id rfl
theorem stE{m b o:Nat}{l vs:List AV}{sp:Option Nat}{v:AV}(hg:h.get b=some (.cells l sp 0 []))(hn:o+m≤l.length)
  (hk:v.known=true:=by rfl)(hv:v.cells=vs:=by rfl)(hl:vs.length=m:=by rfl)(ho:vs.all AV.one=true:=by rfl):stF h m (.ptr b o) v=some (.undef,h.put b (.cells (splice l o vs) sp 0 [])):=by
 subst hv hl;simp only[stF,storeA,AH.store,hg];rw[if_pos ⟨hk,trivial⟩,if_pos ⟨hn,ho⟩,if_neg (by omega)];rfl
theorem ld_put{m b b' o:Nat}{ob:AO}(hb:b'≠b):loadA (h.put b ob) m (.ptr b' o)=loadA h m (.ptr b' o):=by
 simp only[loadA,AH.read,AH.cellsAt,Qab _ _ hb]
theorem alE{ev:AOpd→AV}{tg:Nat}{cs:List AV}:exec h ev (.alloc tg cs)=some (.ptr h.next 0,h.alloc (.cells cs (some tg) 0 [])):=id rfl
theorem box1{tg b o:Nat}:boxF h tg (.ptr b o)=some (.ptr h.next 0,h.alloc (.cells [.ptr b o] (some tg) 0 [])):=id rfl
theorem bs1{j:Int}:bsF h 1 [.int .i64 0] [(0,1,.int .i64 j)]=some (.slice h.next 0 1 1,h.alloc (.cells [.int .i64 j] none 0 [])):=id rfl
end
namespace L26
structure PostV (c:Cx)(forms:Nat→CT)(r:Int×St)(h:AH)(v:AV)(h':AH):Prop where
 val:v=.int .i64 r.1
 mst:Mst c forms r.2 h'
 fr:Fr (fun _=>False) c h h'
def ValueC(F:FuncId→Option AFun)(M:Memo)(c:Cx)(forms:Nat→CT)(f j:Nat):Prop:=
 ∀(s:St) (h:AH),Mst c forms s h→s.comp.length+B f≤1000000000→Ctr F M 48 [.ptr c.bm 0,.int .i64 (j:Int)] h (PostV c forms (Qaj forms f j s) h) (fun _ _=>False)
section
variable{F:FuncId→Option AFun}{M:Memo}{c:Cx}{forms:Nat→CT}{f cell:Nat}
theorem ask_ctr(H:FnC F M)(hc:cell≤6)(hv:∀j,j<cell→ValueC F M c forms f j):AskC F M c forms f cell:=by
 intro j s h bo bb on hj m x hb;refine Ctr.intro H.f83 fun caller cs G hk _=>W_ok 300 _ _ _ ?_
 obtain⟨m1,x1,f1⟩:=m.putOn x (upd on j true);have st:=stE (v:=.bool true) (vs:=[.bool true]) (m:=1) (o:=j) x.on (by simp[onC];omega);rw[onC_set on (by omega) true]at st;simp only[fn83,b83,Nat.reduceAdd,Nat.reduceSub,wS,wC,iarP (show j<6 by omega),Nat.zero_add,Nat.mul_one,st,ldP x1.box,rdC,Nat.reduceLeDiff,if_true];refine cCall 300 (H.m 48 (by simp) _) (hv j hj s _ m1 hb) fun v h2 hp=>?_
 obtain⟨rfl,m2,f2⟩:=hp;simp only[wS,wC,Nat.reduceAdd];refine Qag ⟨rfl,rfl,rfl,rfl⟩ H.f83 rfl (hk _ _ ⟨rfl,m2,f1.trans (f2.mono fun _ e=>e.elim),?_⟩);rw[f2.keep bo x1.lo x.nm (fun e=>e) x1.co];exact x1.on
theorem idxO{b n m i:Nat}(hi:i<n):Qbs 3 (.slop b 0 n m) (.int .i64 (i:Int))=some (.ptr b (i*3)):=by simp[Qbs,asNat,hi]
theorem Mst.objOf{s:St}{h:AH}(m:Mst c forms s h){L:List AV}{sp:Option Nat}{cv:AV}(hg:h.get c.bm=some (.cells L sp 0 []))(hc:L[49]? = some cv):MC s (.slop c.bf 0 c.nc 3) cv (.map c.bd) L∧GL c.N h 6 1 cv (ints s.comp)∧(∀b n e,cv=.slop b 0 n e→b≠c.bm∧b≠c.bf):=by
 obtain⟨L',sp',cv',q,mc2,gl2,hc2⟩:=m.obj;rw[hg]at q;cases q;have e:=mc2.c;rw[hc]at e;cases e;exact⟨mc2,gl2,hc2⟩
theorem Qjb(H:FnC F M)(hs:∀c,sizeC (forms c)≤12)(hr:∀i,i<c.nc→RightT i (forms i)):∀f j,j<f→j<c.nc→ValueC F M c forms f j
 |0,j,hj,_=>by omega
 |f+1,j,hjf,hj=>by
  intro s h m hb;have hj6:j<6:=Nat.lt_of_lt_of_le hj m.nc;have ask:AskC F M c forms f j:=ask_ctr H (by omega) fun i hi=>Qjb H hs hr f i (by omega) (by omega)
  have ev:EvalC F M c forms f 80 [.ptr c.bm 0] (forms j):=QdM H hs ask _ _ (Nat.le_refl _) (hr j hj);refine Ctr.intro H.f48 fun caller cs G hk _=>W_ok 300 _ _ _ ?_
  obtain⟨L,sp,cv,gm,mc,_,_⟩:=m.obj;have gm1:=(Qad h (.cells [.ptr c.bm 0] (some 109) 0 []) m.bm_lt).trans gm;have m1:=m.alloc (.cells [.ptr c.bm 0] (some 109) 0 []);have f1:=Fr.alloc (S:=fun _=>False) m (.cells [.ptr c.bm 0] (some 109) 0 []);have g1:=Qam h (.cells [.ptr c.bm 0] (some 109) 0 []);simp only[fn48,b48,Nat.reduceAdd,Nat.reduceSub,wS,wC,box1];have n1:(h.alloc (.cells [.ptr c.bm 0] (some 109) 0 [])).next=h.next+1:=rfl
  generalize h.alloc (.cells [.ptr c.bm 0] (some 109) 0 [])=h1 at m1 f1 g1 n1 gm1 ⊢;have hl:=mc.len;have l1:loadA h1 1 (.ptr h.next 0)=some [.ptr c.bm 0]:=by rw[ldP g1];rfl
  have lk:loadA h1 1 (.ptr c.bm (7+j))=some [.bool (s.known j)]:=by rw[ldP gm1,rdC1 (mc.kn j hj6)]
  have lv:loadA h1 1 (.ptr c.bm (1+j))=some [.int .i64 (s.vals j)]:=by rw[ldP gm1,rdC1 (mc.v j hj6)]
  have lc:loadA h1 1 (.ptr c.bm 49)=some [cv]:=by rw[ldP gm1,rdC1 mc.c]
  have ev0:Qaj forms (f+1) j s=if s.known j then (s.vals j,s) else
   ((evalT (Qaj forms f) (forms j) (fun _=>false) {s with comp:=s.comp++[(j:Int)]}).1,{(evalT (Qaj forms f) (forms j) (fun _=>false) {s with comp:=s.comp++[(j:Int)]}).2.2 with vals:=upd (evalT (Qaj forms f) (forms j) (fun _=>false) {s with comp:=s.comp++[(j:Int)]}).2.2.vals j (evalT (Qaj forms f) (forms j) (fun _=>false) {s with comp:=s.comp++[(j:Int)]}).1,known:=upd (evalT (Qaj forms f) (forms j) (fun _=>false) {s with comp:=s.comp++[(j:Int)]}).2.2.known j true,stands:=upd (evalT (Qaj forms f) (forms j) (fun _=>false) {s with comp:=s.comp++[(j:Int)]}).2.2.stands j (evalT (Qaj forms f) (forms j) (fun _=>false) {s with comp:=s.comp++[(j:Int)]}).2.1}):=rfl
  rw[ev0]at hk;by_cases kn:s.known j=true
  ·rw[if_pos kn]at hk;rw[kn]at lk;simp only[wS,wC,Nat.reduceAdd,l1,ncP,faP,iarP hj6,Nat.mul_one,Nat.zero_add,lk,lv];exact Qag ⟨rfl,rfl,rfl,rfl⟩ H.f48 rfl (hk _ _ ⟨rfl,m1,f1⟩)
  ·rw[if_neg kn]at hk;rw[Bool.eq_false_iff.2 kn]at lk;simp only[wS,wC,Nat.reduceAdd,l1,ncP,faP,iarP hj6,Nat.mul_one,Nat.zero_add,lk,lc,AOp.makes,List.map,bs1];simp only[wPDm,wPD,wS,wC,List.getElem?_set,List.length_set,Nat.reduceAdd,Option.isSome_some];have m2:=m1.alloc (.cells [.int .i64 (j:Int)] none 0 []);have f2:=f1.trans (Fr.alloc m1 (.cells [.int .i64 (j:Int)] none 0 []));have g2:=(Qad h1 (.cells [.int .i64 (j:Int)] none 0 []) (show h.next<h1.next by omega)).trans g1;have b2:=Qam h1 (.cells [.int .i64 (j:Int)] none 0 []);have gm2:=(Qad h1 (.cells [.int .i64 (j:Int)] none 0 []) m1.bm_lt).trans gm1;have n2:(h1.alloc (.cells [.int .i64 (j:Int)] none 0 [])).next=h1.next+1:=rfl
   generalize h1.alloc (.cells [.int .i64 (j:Int)] none 0 [])=h2 at m2 f2 g2 b2 gm2 n2 ⊢;obtain⟨mc2,gl2,hc2⟩:=m2.objOf gm2 mc.c;simp only[B]at hb;obtain⟨v',h3,e1,e2,e3,e4,gm3,key,_,hn3,m4,f4⟩:=m2.app gm2 mc2 gl2 hc2 b2 (by omega);have nb:compOf h2 c.bm≠some h.next:=fun e=>by
    rw[Qau (gm2.trans gm.symm)]at e;have:=(m.compOf e).2.1;omega
   have g3:=(key h.next (by omega) nb).trans g2;have l3:loadA h3 1 (.ptr h.next 0)=some [.ptr c.bm 0]:=by rw[ldP g3];rfl
   have st:=stE (v:=v') (vs:=[v']) (m:=1) (o:=49) gm3 (by omega) e3 e4 rfl (by simp[e2]);simp only[e1,wPM1];refine⟨?_,?_⟩
   ·simp only[List.all_cons,List.all_nil,Bool.and_true];refine Qbk rfl rfl rfl rfl (v':=.ptr c.bm 0) (h2:=h3) ?_ rfl;simp only[wS,l3]
   simp only[wS,wC,Nat.reduceAdd,ncP,faP,Nat.zero_add,st,alE,AOp.makes,List.map];have f4':=f2.trans (f4 fun _=>False);have hbm3:h.next≠c.bm:=by have:=m.bm_lt;omega
   have g4:=(Qab h3 (.cells (splice L 49 [v']) sp 0 []) hbm3).trans g3;have n4:h2.next≤(h3.put c.bm (.cells (splice L 49 [v']) sp 0 [])).next:=hn3
   have nb4:compOf (h3.put c.bm (.cells (splice L 49 [v']) sp 0 [])) c.bm≠some h.next:=fun e=>by
    rcases(f4 fun _=>False).comp _ e with e|e
    ·exact nb e
    ·omega
   generalize h3.put c.bm (.cells (splice L 49 [v']) sp 0 [])=h4 at m4 f4 f4' g4 n4 nb4 ⊢;have m5:=m4.alloc (.cells (onC fun _=>false) (some 119) 0 []);have f5:=f4'.trans (Fr.alloc m4 (.cells (onC fun _=>false) (some 119) 0 []));have e45:=Qau (c:=c) (Qad h4 (.cells (onC fun _=>false) (some 119) 0 []) m4.bm_lt);have x5:Ext c (h4.alloc (.cells (onC fun _=>false) (some 119) 0 [])) h4.next h.next fun _=>false:=by
    refine⟨Qam _ _,(Qad _ _ (by omega)).trans g4,Nat.lt_succ_self _,?_,?_,?_,hbm3,by omega,m4.hN,?_,?_⟩
    ·rw[QeY];omega
    ·have:=m4.bm_lt;omega
    ·have:=m4.bf_lt;omega
    ·rw[e45];intro e;have:=(m4.compOf e).2.1;omega
    ·rw[e45];exact nb4
   have no:h.next≤h4.next:=by omega
   have e5:h4.alloc (.cells [.bool false,.bool false,.bool false,.bool false,.bool false,.bool false] (some 119) 0 [])=h4.alloc (.cells (onC fun _=>false) (some 119) 0 []):=rfl;simp only[e5];generalize h4.alloc (.cells (onC fun _=>false) (some 119) 0 [])=h5 at m5 f5 x5 ⊢;generalize h4.next=bo at x5 no ⊢
   obtain⟨L5,sp5,cv5,gm5,mc5,_,_⟩:=m5.obj;obtain⟨FL,sf,q1,q2,q3⟩:=m5.fm.ex;have l5:loadA h5 1 (.ptr h.next 0)=some [.ptr c.bm 0]:=by rw[ldP x5.box];rfl
   have lf:loadA h5 1 (.ptr c.bm 0)=some [.slop c.bf 0 c.nc 3]:=by rw[ldP gm5,rdC1 mc5.f]
   have lr:loadA h5 3 (.ptr c.bf (j*3))=some ((FL.drop (j*3)).take 3):=by
    rw[ldP q1];simp only[rdC];rw[if_pos (by omega)]
   simp only[wS,wC,Nat.reduceAdd,l5,ncP,faP,lf,idxO hj,lr,AOp.makes];have hev:=ev _ h5 bo h.next _ _ m5 x5 (q3 j hj) (by
    have:=Nat.mul_le_mul_right (B f) (hs j);simp only[List.length_append,List.length_cons,List.length_nil];omega)
   refine cMain 300 (H.m 80 (by simp) _) hev fun v h6 hp=>⟨rfl,?_⟩
   obtain⟨rfl,m6,f6,o6⟩:=hp;have x6:=x5.fr f6 o6;generalize evalT (Qaj forms f) (forms j) (fun _=>false) {s with comp:=s.comp++[(j:Int)]}=R at *;obtain⟨L6,sp6,cv6,gm6,mc6,gl6,hc6⟩:=m6.obj;have a1:=mc6.setV hj6 R.1;have a2:=a1.setK hj6 true;have a3:=a2.setS hj6 R.2.1;have k1:=mc6.len;have k2:=a1.len;have k3:=a2.len;have m7:=m6.putObj gm6 a1 gl6 hc6;have m8:=m7.putObj (get_put _ _ _) a2 (GL.keep gl6 (Nat.le_refl _) fun b n e ev=>Qab _ _ (hc6 b n e ev).1) hc6;have m9:=m8.putObj (get_put _ _ _) a3 (GL.keep gl6 (Nat.le_refl _) fun b n e ev=>(Qab _ _ (hc6 b n e ev).1).trans (Qab _ _ (hc6 b n e ev).1)) hc6;have sV:=stE (v:=.int .i64 R.1) (vs:=[.int .i64 R.1]) (m:=1) (o:=1+j) gm6 (by omega);have n7:(h6.put c.bm (.cells (splice L6 (1+j) [.int .i64 R.1]) sp6 0 [])).next=h6.next:=rfl
   have gm7:=get_put h6 c.bm (.cells (splice L6 (1+j) [.int .i64 R.1]) sp6 0 []);have bb6:loadA h6 1 (.ptr h.next 0)=some [.ptr c.bm 0]:=by rw[ldP x6.box];rfl
   have bo6:loadA h6 6 (.ptr bo 0)=some (onC R.2.1):=by rw[ldP x6.on];rfl
   have bb7:loadA (h6.put c.bm (.cells (splice L6 (1+j) [.int .i64 R.1]) sp6 0 [])) 1 (.ptr h.next 0)=some [.ptr c.bm 0]:=by rw[ldP ((Qab _ _ x6.nb).trans x6.box)];rfl
   have bo7:loadA (h6.put c.bm (.cells (splice L6 (1+j) [.int .i64 R.1]) sp6 0 [])) 6 (.ptr bo 0)=some (onC R.2.1):=by rw[ldP ((Qab _ _ x6.nm).trans x6.on)];rfl
   simp only[wS,wC,Nat.reduceAdd,ncP,faP,AOp.makes,bb6,bo6,iarP hj6,Nat.mul_one,Nat.zero_add,sV,wPM1];have fr6:Fr (fun _=>False) c h h6:=((f5.mono (S':=(· = bo)) fun b e=>e.elim).trans f6).mono fun b e=>.inr (show h.next≤b by rw[show b=bo from e];exact no)
   have fr7:=fr6.trans (Fr.putObj gm6 (L':=splice L6 (1+j) [.int .i64 R.1]) fun b hb=>.inl (by rw[a1.c]at hb;rw[mc6.c];exact hb));have fr8:=fr7.trans (Fr.putObj gm7 (L':=splice (splice L6 (1+j) [.int .i64 R.1]) (7+j) [.bool true]) fun b hb=>.inl (by rw[a2.c]at hb;rw[a1.c];exact hb));generalize h6.put c.bm (.cells (splice L6 (1+j) [.int .i64 R.1]) sp6 0 [])=h7 at *;have gm8:=get_put h7 c.bm (.cells (splice (splice L6 (1+j) [.int .i64 R.1]) (7+j) [.bool true]) sp6 0 []);have fr9:=fr8.trans (Fr.putObj gm8 (L':=splice (splice (splice L6 (1+j) [.int .i64 R.1]) (7+j) [.bool true]) (13+j*6) (onC R.2.1)) fun b hb=>.inl (by rw[a3.c]at hb;rw[a2.c];exact hb));have sK:=stE (v:=.bool true) (vs:=[.bool true]) (m:=1) (o:=7+j) gm7 (by omega);have sS:=stE (v:=.agg (onC R.2.1)) (vs:=onC R.2.1) (m:=6) (o:=13+j*6) gm8 (by omega);have bb8:loadA (h7.put c.bm (.cells (splice (splice L6 (1+j) [.int .i64 R.1]) (7+j) [.bool true]) sp6 0 [])) 1 (.ptr h.next 0)=some [.ptr c.bm 0]:=(ld_put x6.nb).trans bb7;have bo8:loadA (h7.put c.bm (.cells (splice (splice L6 (1+j) [.int .i64 R.1]) (7+j) [.bool true]) sp6 0 [])) 6 (.ptr bo 0)=some (onC R.2.1):=(ld_put x6.nm).trans bo7;refine⟨?_,?_⟩
   ·simp only[List.all_cons,List.all_nil,Bool.and_true,Bool.and_eq_true];exact⟨Qbk rfl rfl rfl rfl (v':=.ptr c.bm 0) (h2:=h7) (by simp only[wS,bb7]) rfl,Qbk rfl rfl rfl rfl (v':=.ptr c.bm 0) (h2:=h7) (by simp only[wS,bb7]) rfl,Qbk rfl rfl rfl rfl (v':=.agg (onC R.2.1)) (h2:=h7) (by simp only[wS,bo7]) rfl⟩
   simp only[wS,wC,Nat.reduceAdd,ncP,faP,AOp.makes,iarP hj6,Nat.mul_one,Nat.zero_add,sK,wPM1];refine⟨?_,?_⟩
   ·simp only[List.all_cons,List.all_nil,Bool.and_true,Bool.and_eq_true];exact⟨Qbk rfl rfl rfl rfl (v':=.ptr c.bm 0) (by simp only[wS,bb8];rfl) rfl,Qbk rfl rfl rfl rfl (v':=.agg (onC R.2.1)) (by simp only[wS,bo8];rfl) rfl⟩
   simp only[wS,wC,Nat.reduceAdd,ncP,faP,AOp.makes,iarP hj6,Nat.mul_one,Nat.zero_add,sS];exact Qag ⟨rfl,rfl,rfl,rfl⟩ H.f48 rfl (hk _ _ ⟨rfl,m9,fr9⟩)
end
end L26
section
variable{F:FuncId→Option AFun}{M:Memo}{G:AS→Prop}{x:Ctx}{t:List AV}{k:List AItem}{h:AH}
theorem Qlz{o:AOper}{ag:List AOper}{mask:List Nat}{plan:List Stage}{f:AOpd}{args:List AOpd}{l:Nat}{pend:Option AC}{fn:FuncId}{fn0:AFun}{tmps:List AV}{params:List Nat}{assign body:AC}{d:Nat}{st:LoopState}
  (hg:h.get l=some (.loop st pend fn tmps params assign body d))(hF:F fn=some fn0)
  (hr:Reach F M ((⟨fn,[],.normal,some l,x.fr t (.inMain o ag mask plan::k)::x.cs⟩:Ctx).at ((params.zip (args.map (aev t))).foldl (fun t x=>t.set x.1 x.2) tmps) [.code assign,.beginRound,.code body] h) G)
  (hw:Qai t o=some true:=by rfl)(ha:o.act=.call f args:=by rfl)(hf:aev t f=.yield l:=by rfl)(hl:args.length=params.length:=by rfl):Reach F M (x.at t (.inMain o ag mask plan::k) h) G:=by
 refine .step ?_ hr;show aone F M (x.at t (.inMain o ag mask plan::k) h) o=_;unfold aone;rw[show Qai (x.at t (.inMain o ag mask plan::k) h).fr.tmps o=some true from hw];show aoper F M _ o=_;unfold aoper;rw[ha];show (match QaR (aev t f) (args.map (aev t)) with|some t=>_|none=>_)=_;rw[hf];show (match h.get l with|some (.loop _ _ fn tmps params assign body _)=>_|_=>_)=_;rw[hg];show (if (args.map (aev t)).length=params.length∧(F fn).isSome then _ else _)=_;rw[if_pos ⟨by simpa using hl,by rw[hF];rfl⟩];rfl
end
namespace L26
structure Own (c:Cx)(h:AH)(b:Nat)(o:AO):Prop where
 get:h.get b=some o
 lt:b<h.next
 N:c.N≤b
 m:b≠c.bm
 f:b≠c.bf
 d:b≠c.bd
 c:compOf h c.bm≠some b
section
variable{c:Cx}{forms:Nat→CT}{s:St}{h h' h0:AH}{b b':Nat}{o o':AO}
theorem Own.new(m:Mst c forms s h)(o:AO):Own c (h.alloc o) h.next o:=by
 refine⟨Qam _ _,Nat.lt_succ_self _,m.hN,by have:=m.bm_lt;omega,by have:=m.bf_lt;omega,by have:=m.bd_lt;omega,fun e=>?_⟩;rw[Qau (Qad h o m.bm_lt)]at e;have:=(m.compOf e).2.1;omega
theorem Own.alloc(w:Own c h b o)(m:Mst c forms s h)(o':AO):Own c (h.alloc o') b o:=by
 refine⟨(Qad _ _ w.lt).trans w.get,Nat.lt_succ_of_lt w.lt,w.N,w.m,w.f,w.d,?_⟩;rw[Qau (Qad h o' m.bm_lt)];exact w.c
theorem Own.fr(w:Own c h b o)(f:Fr (fun _=>False) c h h'):Own c h' b o:=by
 refine⟨(f.keep b w.lt w.m (fun e=>e) w.c).trans w.get,Nat.lt_of_lt_of_le w.lt f.next,w.N,w.m,w.f,w.d,fun e=>?_⟩;rcases f.comp _ e with h|h
 ·exact w.c h
 ·have:=w.lt;omega
theorem Own.put(w:Own c h b o)(hb:b≠b')(hm:b'≠c.bm)(o':AO):Own c (h.put b' o') b o:=
 ⟨(Qab _ _ hb).trans w.get,w.lt,w.N,w.m,w.f,w.d,by rw[Qau (Qab h o' hm.symm)];exact w.c⟩
theorem Own.set(w:Own c h b o)(o':AO):Own c (h.put b o') b o':=
 ⟨get_put _ _ _,w.lt,w.N,w.m,w.f,w.d,by rw[Qau (Qab h o' w.m.symm)];exact w.c⟩
theorem Mst.putOwn(m:Mst c forms s h)(w:Own c h b o)(o':AO):Mst c forms s (h.put b o'):=by
 obtain⟨L,sp,cv,h1,h2,h3,h4⟩:=m.obj;have hL:Low c.N h (h.put b o'):=fun b' hb=>Qab h _ (by have:=w.N;omega)
 have hcv:∀b' n e,cv=.slop b' 0 n e→b'≠b:=fun b' n e ev he=>w.c (by
  unfold L26.compOf;rw[h1];show sbOf L[49]? = _;rw[h2.c,ev,he];rfl)
 refine⟨⟨L,sp,cv,(Qab _ _ w.m.symm).trans h1,h2,GL.keep h3 (Nat.le_refl _) fun b n e ev=>Qab _ _ (hcv b n e ev),h4⟩,?_,(Qab _ _ w.d.symm).trans m.does,fun b' hb=>?_,m.lm,m.lf,m.ne,m.nc,m.hN⟩
 ·obtain⟨FL,sp2,q1,q2,q3⟩:=m.fm.ex;exact⟨FL,sp2,(Qab _ _ w.f.symm).trans q1,q2,fun i hi=>(q3 i hi).low hL⟩
 ·have hb2:h.next≤b':=hb
  rw[Qab _ _ (by have:=w.lt;omega)];exact m.wf b' hb2
theorem Fr.putOwn{S:Nat→Prop}(f:Fr S c h0 h)(w:Own c h b o)(hb:h0.next≤b)(o':AO):Fr S c h0 (h.put b o'):=by
 refine⟨f.next,fun b' hb' hn hs ht=>(Qab _ _ (by omega)).trans (f.keep b' hb' hn hs ht),fun b' e=>?_⟩;rw[Qau (Qab h o' w.m.symm)]at e;exact f.comp b' e
end
def anyK(kn:On):Bool:=kn 0||kn 1||kn 2||kn 3||kn 4||kn 5
def cnt(kn:On):Nat:=(kn 0).toNat+(kn 1).toNat+(kn 2).toNat+(kn 3).toNat+(kn 4).toNat+(kn 5).toNat
def QaI(nc:Nat)(st:Nat→Nat→Bool):Nat→Nat→On→On
 |0,_,kn=>kn
 |f+1,c,kn=>if anyK kn then (List.range nc).foldl (fun kn d=>if kn d&&st d c then QaI nc st f d kn else kn) (upd kn c false) else kn
theorem eqK{h:AH}(kn:On):binF h .eql 4105 (.agg (onC kn)) (.agg [.bool false,.bool false,.bool false,.bool false,.bool false,.bool false])=some (.bool (!anyK kn),h):=by
 unfold onC anyK;generalize kn 0=a;generalize kn 1=b;generalize kn 2=c;generalize kn 3=d;generalize kn 4=e;generalize kn 5=f;cases a<;>cases b<;>cases c<;>cases d<;>cases e<;>cases f<;>rfl
theorem MC.knA{s:St}{fv cv yv:AV}{L:List AV}(m:MC s fv cv yv L):rdC L 7 6=some (onC s.known):=by
 have hl:=m.len;rw[Qnw (by omega)]
 congr 1
 refine List.ext_getElem? fun i=>?_
 rw[List.getElem?_take,List.getElem?_drop];split
 ·rename_i hi;rw[m.kn i hi,QkO _ hi]
 ·rename_i hi;rw[List.getElem?_eq_none (by simp[onC];omega)]
theorem Qlm{kn:On}{j:Nat}(hj:j<6):cnt (upd kn j false)+(kn j).toNat=cnt kn:=by
 have:j=0∨j=1∨j=2∨j=3∨j=4∨j=5:=by omega
 rcases this with rfl|rfl|rfl|rfl|rfl|rfl<;>simp[cnt,upd]<;>omega
theorem cnt_any{kn:On}(h:anyK kn=true):1≤cnt kn:=by
 unfold anyK at h;unfold cnt;generalize kn 0=a at *;generalize kn 1=b at *;generalize kn 2=c at *;generalize kn 3=d at *;generalize kn 4=e at *;generalize kn 5=f at *;revert h;cases a<;>cases b<;>cases c<;>cases d<;>cases e<;>cases f<;>decide
theorem Qp5{a b:On}(h:∀i,a i=true→b i=true):cnt a≤cnt b:=by
 have t:∀i,(a i).toNat≤(b i).toNat:=fun i=>by
  have:=h i;cases e1:a i<;>cases e2:b i<;>simp_all
 have h0:=t 0;have h1:=t 1;have h2:=t 2;have h3:=t 3;have h4:=t 4;have h5:=t 5;unfold cnt;omega
theorem Qh7(nc:Nat)(st:Nat→Nat→Bool):∀(f c:Nat)(kn:On)(i:Nat),QaI nc st f c kn i=true→kn i=true
 |0,_,_,_,h=>h
 |f+1,c,kn,i,h=>by
  unfold QaI at h;split at h
  ·have:∀(l:List Nat)(k2:On),(∀i,k2 i=true→kn i=true)→∀i,l.foldl (fun kn d=>if kn d&&st d c then QaI nc st f d kn else kn) k2 i=true→kn i=true:=by
    intro l
    induction l with
    |nil=>exact fun k2 h2=>h2
    |cons d l ih =>
     intro k2 h2;refine ih _ fun i hi=>?_
     dsimp only at hi;split at hi
     ·exact h2 i (Qh7 nc st f d k2 i hi)
     ·exact h2 i hi
   refine this _ _ (fun i hi=>?_) i h;unfold upd at hi;split at hi
   ·cases hi
   ·exact hi
  ·exact h
structure PostF (c:Cx)(forms:Nat→CT)(s:St)(h:AH)(v:AV)(h':AH):Prop where
 val:v=.tuple []
 mst:Mst c forms s h'
 fr:Fr (fun _=>False) c h h'
def QlC(F:FuncId→Option AFun)(M:Memo)(c:Cx)(forms:Nat→CT)(f:Nat):Prop:=
 ∀(s:St) (h:AH) (j:Nat),j<c.nc→cnt s.known+(1-(s.known j).toNat)≤f→Mst c forms s h →
  Ctr F M 47 [.ptr c.bm 0,.int .i64 (j:Int)] h (PostF c forms {s with known:=QaI c.nc s.stands f j s.known} h) (fun _ _=>False)
end L26
end Go.Ab
namespace Go.Ab.L26
open Go Go.Ab
structure FnD (F:FuncId→Option AFun)(M:Memo):Prop where
 f47:F 47=some fn47
 f82:F 82=some fn82
 f105:F 105=some fn105
 m:∀f∈[47,82,105],∀as,M f as=none
section
variable{F:FuncId→Option AFun}{M:Memo}{c:Cx}{forms:Nat→CT}
theorem boxI{h:AH}{tg:Nat}{j:IntKind}{n:Int}:boxF h tg (.int j n)=some (.ptr h.next 0,h.alloc (.cells [.int j n] (some tg) 0 [])):=id rfl
theorem dep_ctr(H:FnD F M)(h:AH)(j:Int):Ctr F M 82 [.ptr c.bm 0,.int .i64 j] h (fun v h'=>v=.func 105 [] [.ptr h.next 0,.ptr (h.next+1) 0]∧h'=(h.alloc (.cells [.ptr c.bm 0] (some 109) 0 [])).alloc (.cells [.int .i64 j] (some 7) 0 [])) (fun _ _=>False):=by
 refine Ctr.intro H.f82 fun caller cs G hk _=>W_ok 300 _ _ _ ?_
 simp only[fn82,b82,Nat.reduceAdd,Nat.reduceSub,wS,wC,box1,boxI,List.map];exact Qag ⟨rfl,rfl,rfl,rfl⟩ H.f82 rfl (hk _ _ ⟨rfl,rfl⟩)
theorem Own.putM{h:AH}{b:Nat}{o:AO}(w:Own c h b o){L L':List AV}{sp:Option Nat}(hg:h.get c.bm=some (.cells L sp 0 []))(he:L'[49]? = L[49]?):Own c (h.put c.bm (.cells L' sp 0 [])) b o:=by
 refine⟨(Qab _ _ w.m).trans w.get,w.lt,w.N,w.m,w.f,w.d,fun e=>w.c ?_⟩;unfold L26.compOf at e ⊢;rw[get_put]at e;rw[hg];exact(congrArg sbOf he.symm).trans e
def stepF(nc:Nat)(st:Nat→Nat→Bool)(f c:Nat)(kn:On)(d:Nat):On:=if kn d&&st d c then QaI nc st f d kn else kn
theorem Qeh{nc:Nat}{st:Nat→Nat→Bool}{f j:Nat}{kn:On}(h:anyK kn=true):QaI nc st (f+1) j kn=(List.range nc).foldl (stepF nc st f j) (upd kn j false):=by
 rw[QaI,if_pos h];rfl
theorem Qoe{nc i:Nat}(hi:i<nc){α:Type}{g:α→Nat→α}{a:α}:(List.range' i (nc-i)).foldl g a=(List.range' (i+1) (nc-(i+1))).foldl g (g a i):=by
 obtain⟨n,hn⟩:∃n,nc-i=n+1:=⟨nc-i-1,by omega⟩
 rw[hn,List.range'_succ,show nc-(i+1)=n by omega];rfl
def t0F(bm j b kn:AV)(p q:AV):List AV:=[bm,j,b,.undef,.undef,bm,bm,bm,p,kn,.agg [.bool false,.bool false,.bool false,.bool false,.bool false,.bool false],.bool false,bm,j,bm,bm,p,q,bm,j]
def bodyR:AC:=.block 1 (.region [⟨some 22,.op (.load1 (.tmp 2)),none⟩,⟨some 23,.op (.mov (.tmp 4)),none⟩,⟨some 24,.call (.const (.func 47 [] [])) [(.tmp 22),(.tmp 23)],none⟩])
def asgR:AC:=.region [⟨some 4,.op (.mov (.tmp 21)),none⟩]
theorem QgY(H:FnD F M)(f:Nat)(ihf:∀g,f=g+1→QlC F M c forms g):QlC F M c forms f:=by
  intro s h j hj hc m;have hj6:j<6:=Nat.lt_of_lt_of_le hj m.nc;refine Ctr.intro H.f47 fun caller cs G hk _=>W_ok 300 _ _ _ ?_
  obtain⟨L,sp,cv,gm,mc,_,_⟩:=m.obj;have gm1:=(Qad h (.cells [.ptr c.bm 0] (some 109) 0 []) m.bm_lt).trans gm;have m1:=m.alloc (.cells [.ptr c.bm 0] (some 109) 0 []);have f1:=Fr.alloc (S:=fun _=>False) m (.cells [.ptr c.bm 0] (some 109) 0 []);have w1:=Own.new m (.cells [.ptr c.bm 0] (some 109) 0 []);simp only[fn47,b47,Nat.reduceAdd,Nat.reduceSub,wS,wC,box1];have n1:(h.alloc (.cells [.ptr c.bm 0] (some 109) 0 [])).next=h.next+1:=rfl
  generalize h.alloc (.cells [.ptr c.bm 0] (some 109) 0 [])=h1 at m1 f1 w1 n1 gm1 ⊢;have l1:loadA h1 1 (.ptr h.next 0)=some [.ptr c.bm 0]:=by rw[ldP w1.get];rfl
  have lk:loadA h1 6 (.ptr c.bm 7)=some (onC s.known):=by rw[ldP gm1,mc.knA]
  simp only[wS,wC,Nat.reduceAdd,l1,ncP,faP,Nat.zero_add,lk,eqK,List.map_nil];by_cases an:anyK s.known=true
  ·have hlen:=mc.len;obtain⟨g,rfl⟩:∃g,f=g+1:=⟨f-1,by have:=cnt_any an;omega⟩
   have ih:=ihf g rfl;have st:=stE (v:=.bool false) (vs:=[.bool false]) (m:=1) (o:=7+j) gm1 (by omega);simp only[wS,wC,Nat.reduceAdd,an,Bool.not_true,l1,ncP,faP,Nat.zero_add,iarP hj6,Nat.mul_one,st];have a1:=mc.setK hj6 false;obtain⟨_,gl1,hc1⟩:=m1.objOf gm1 mc.c;have m2:=m1.putObj gm1 a1 gl1 hc1;have f2:=f1.trans (Fr.putObj gm1 (L':=splice L (7+j) [.bool false]) fun b hb=>.inl (by rw[a1.c]at hb;rw[mc.c];exact hb));have w2:Own c (h1.put c.bm (.cells (splice L (7+j) [.bool false]) sp 0 [])) h.next (.cells [.ptr c.bm 0] (some 109) 0 []):=w1.putM gm1 (by rw[a1.c,mc.c])
   have n2:h.next+1≤(h1.put c.bm (.cells (splice L (7+j) [.bool false]) sp 0 [])).next:=by rw[Qew];omega
   have l2:loadA (h1.put c.bm (.cells (splice L (7+j) [.bool false]) sp 0 [])) 1 (.ptr h.next 0)=some [.ptr c.bm 0]:=by rw[ldP w2.get];rfl
   generalize h1.put c.bm (.cells (splice L (7+j) [.bool false]) sp 0 [])=h2 at m2 f2 w2 n2 l2 ⊢;simp only[wS,wC,Nat.reduceAdd,l2];refine cCall 300 (H.m 82 (by simp) _) (dep_ctr H h2 _) fun v h3 hp=>?_
   obtain⟨rfl,e3⟩:=hp;have m3a:=m2.alloc (.cells [.ptr c.bm 0] (some 109) 0 []);have m3:=m3a.alloc (.cells [.int .i64 (j:Int)] (some 7) 0 []);have f3:=(f2.trans (Fr.alloc m2 (.cells [.ptr c.bm 0] (some 109) 0 []))).trans (Fr.alloc m3a (.cells [.int .i64 (j:Int)] (some 7) 0 []));have w3:=(w2.alloc m2 (.cells [.ptr c.bm 0] (some 109) 0 [])).alloc m3a (.cells [.int .i64 (j:Int)] (some 7) 0 []);have wA3:=(Own.new m2 (.cells [.ptr c.bm 0] (some 109) 0 [])).alloc m3a (.cells [.int .i64 (j:Int)] (some 7) 0 []);have wB3:Own c ((h2.alloc (.cells [.ptr c.bm 0] (some 109) 0 [])).alloc (.cells [.int .i64 (j:Int)] (some 7) 0 [])) (h2.next+1) _:=Own.new m3a (.cells [.int .i64 (j:Int)] (some 7) 0 []);have n3:h3.next=h2.next+2:=by rw[e3];rfl
   rw[←e3]at m3 f3 w3 wA3 wB3;simp only[wS,wC,Nat.reduceAdd];refine Qly rfl rfl (H.m 105 (by simp)) H.f105 ?_;have e4:∀h4,(h3.alloc (.deferred (some []))).alloc (.loop .ready none 47 (t0F (.ptr c.bm 0) (.int .i64 (j:Int)) (.ptr h.next 0) (.agg (onC s.known)) (.ptr c.bm 7) (.ptr c.bm (7+j))++[.func 105 [] [.ptr h2.next 0,.ptr (h2.next+1) 0],.undef,.undef,.undef,.undef]) [21] asgR bodyR h3.next)=h4 →
     Mst c forms {s with known:=upd s.known j false} h4∧Fr (fun _=>False) c h h4∧Own c h4 h.next (.cells [.ptr c.bm 0] (some 109) 0 [])∧Own c h4 h2.next (.cells [.ptr c.bm 0] (some 109) 0 [])∧Own c h4 (h2.next+1) (.cells [.int .i64 (j:Int)] (some 7) 0 [])∧Own c h4 h3.next (.deferred (some [])) ∧
     Own c h4 (h3.next+1) (.loop .ready none 47 (t0F (.ptr c.bm 0) (.int .i64 (j:Int)) (.ptr h.next 0) (.agg (onC s.known)) (.ptr c.bm 7) (.ptr c.bm (7+j))++[.func 105 [] [.ptr h2.next 0,.ptr (h2.next+1) 0],.undef,.undef,.undef,.undef]) [21] asgR bodyR h3.next):=by
    intro h4 e;have ma:=m3.alloc (.deferred (some []));rw[←e];exact⟨ma.alloc _,(f3.trans (Fr.alloc m3 _)).trans (Fr.alloc ma _),(w3.alloc m3 _).alloc ma _,(wA3.alloc m3 _).alloc ma _,(wB3.alloc m3 _).alloc ma _,(Own.new m3 _).alloc ma _,Own.new ma _⟩
   generalize hh:(h3.alloc (.deferred (some []))).alloc _=h4;obtain⟨m4,f4,w4,wA4,wB4,wD4,wL4⟩:=e4 h4 hh;clear e4;generalize hT:(t0F (.ptr c.bm 0) (.int .i64 (j:Int)) (.ptr h.next 0) (.agg (onC s.known)) (.ptr c.bm 7) (.ptr c.bm (7+j))++[.func 105 [] [.ptr h2.next 0,.ptr (h2.next+1) 0],.undef,.undef,.undef,.undef])=T0 at wL4;refine W_ok 300 _ _ _ ?_;obtain⟨L4,sp4,cv4,gm4,mc4,_,_⟩:=m4.obj;have lA:loadA h4 1 (.ptr h2.next 0)=some [.ptr c.bm 0]:=by rw[ldP wA4.get];rfl
   have lf:loadA h4 1 (.ptr c.bm 0)=some [.slop c.bf 0 c.nc 3]:=by rw[ldP gm4,rdC1 mc4.f]
   simp only[fn105,b105,Nat.reduceAdd,Nat.reduceSub,wS,wC,lA,lf,ncP,faP];refine Qbv (fun mm t h5=>∃(i:Nat) (kn:On) (x4 x12 x13 x14 x15 x16 x17 x18 x19 x20 x21 x22 x23 x24 x25 x26 x27 x28 x29 x30 x31 x32 x33 x34 x35 x36 x37 x38:AV),mm=c.nc-i∧i≤c.nc∧Mst c forms {s with known:=kn} h5∧Fr (fun _=>False) c h h5 ∧
    Own c h5 h.next (.cells [.ptr c.bm 0] (some 109) 0 [])∧Own c h5 h2.next (.cells [.ptr c.bm 0] (some 109) 0 [])∧Own c h5 (h2.next+1) (.cells [.int .i64 (j:Int)] (some 7) 0 [])∧Own c h5 h3.next (.deferred (some []))∧Own c h5 (h3.next+1) (.loop .ready none 47 T0 [21] asgR bodyR h3.next) ∧
    (List.range' i (c.nc-i)).foldl (stepF c.nc s.stands g j) kn=(List.range c.nc).foldl (stepF c.nc s.stands g j) (upd s.known j false)∧(∀i,kn i=true→upd s.known j false i=true) ∧
    t=[.yield (h3.next+1),.ptr h2.next 0,.ptr (h2.next+1) 0,.undef,x4,.ptr c.bm 0,.ptr c.bm 0,.ptr c.bm 0,.ptr c.bm 0,.slop c.bf 0 c.nc 3,.int .i64 (c.nc:Nat),.int .i64 (i:Nat),x12,x13,x14,x15,x16,x17,x18,x19,x20,x21,x22,x23,x24,x25,x26,x27,x28,x29,x30,x31,x32,x33,x34,x35,x36,x37,x38]) (c.nc-0) ?_ ?_
   ·exact⟨0,upd s.known j false,_,_,_,_,_,_,_,_,_,_,_,_,_,_,_,_,_,_,_,_,_,_,_,_,_,_,_,_,rfl,Nat.zero_le _,m4,f4,w4,wA4,wB4,wD4,wL4,by rw[List.range_eq_range'];rfl,fun _ h=>h,rfl⟩
   ·rintro mm t h5 ⟨i,kn,x4,x12,x13,x14,x15,x16,x17,x18,x19,x20,x21,x22,x23,x24,x25,x26,x27,x28,x29,x30,x31,x32,x33,x34,x35,x36,x37,x38,rfl,hi,m5,f5,w5,wA5,wB5,wD5,wL5,hfold,hle,rfl⟩ ih5;refine W_ok 300 _ _ _ ?_;by_cases ci:i<c.nc
    ·have hd:decide ((i:Int)<(c.nc:Int))=true:=decide_eq_true (by omega);have hi6:i<6:=Nat.lt_of_lt_of_le ci m.nc;obtain⟨L5,sp5,cv5,gm5,mc5,_,_⟩:=m5.obj;have lA5:loadA h5 1 (.ptr h2.next 0)=some [.ptr c.bm 0]:=by rw[ldP wA5.get];rfl
     have lB5:loadA h5 1 (.ptr (h2.next+1) 0)=some [.int .i64 (j:Int)]:=by rw[ldP wB5.get];rfl
     have lk5:loadA h5 1 (.ptr c.bm (7+i))=some [.bool (kn i)]:=by rw[ldP gm5,rdC1 (mc5.kn i hi6)]
     have ls5:loadA h5 1 (.ptr c.bm (13+i*6+j))=some [.bool (s.stands i j)]:=by rw[ldP gm5,rdC1 (mc5.st i j hi6 hj6)]
     rw[Qoe ci]at hfold;have hw:IntKind.i64.wrap ((i:Int)+1)=((i+1:Nat):Int):=QaW (by omega);simp only[wS,wC,hd,Nat.reduceAdd,lA5,lB5,ncP,faP,Nat.zero_add,iarP hi6,iarP hj6,Nat.mul_one,lk5,AOp.makes];cases ek:kn i with
     |false =>
      have es:stepF c.nc s.stands g j kn i=kn:=by simp[stepF,ek]
      rw[es]at hfold;simp only[wS,wC,Nat.reduceAdd,AOp.makes,hw];exact ih5 _ _ _ (by omega) ⟨i+1,kn,_,_,_,_,_,_,_,_,_,_,_,_,_,_,_,_,_,_,_,_,_,_,_,_,_,_,_,_,rfl,ci,m5,f5,w5,wA5,wB5,wD5,wL5,hfold,hle,rfl⟩
     |true =>
      simp only[wS,wC,Nat.reduceAdd,lA5,lB5,ncP,faP,Nat.zero_add,iarP hi6,iarP hj6,Nat.mul_one,ls5,AOp.makes];cases es:s.stands i j with
      |false =>
       have es:stepF c.nc s.stands g j kn i=kn:=by simp[stepF,ek,es]
       rw[es]at hfold;simp only[wS,wC,Nat.reduceAdd,AOp.makes,hw];exact ih5 _ _ _ (by omega) ⟨i+1,kn,_,_,_,_,_,_,_,_,_,_,_,_,_,_,_,_,_,_,_,_,_,_,_,_,_,_,_,_,rfl,ci,m5,f5,w5,wA5,wB5,wD5,wL5,hfold,hle,rfl⟩
      |true =>
       have es:stepF c.nc s.stands g j kn i=QaI c.nc s.stands g i kn:=by simp[stepF,ek,es]
       rw[es]at hfold;simp only[wS,wC,Nat.reduceAdd,AOp.makes];refine Qlz wL5.get H.f47 ?_;refine W_ok 300 _ _ _ ?_;have hlt0:=wL5.lt;simp only[←hT,t0F,asgR,wS,wC,Nat.reduceAdd,List.map_cons,List.map_nil,List.zip_cons_cons,List.zip_nil_right,List.foldl_cons,List.foldl_nil,List.cons_append,List.nil_append,List.set_cons_succ,List.set_cons_zero];refine Qks rfl wL5.get ?_;have m6:=m5.putOwn wL5 (.loop .busy none 47 T0 [21] asgR bodyR h3.next);have f6:=f5.putOwn wL5 (by omega) (.loop .busy none 47 T0 [21] asgR bodyR h3.next);have w6:=w5.put (by omega) wL5.m (.loop .busy none 47 T0 [21] asgR bodyR h3.next);have wA6:=wA5.put (by omega) wL5.m (.loop .busy none 47 T0 [21] asgR bodyR h3.next);have wB6:=wB5.put (by omega) wL5.m (.loop .busy none 47 T0 [21] asgR bodyR h3.next);have wD6:=wD5.put (by omega) wL5.m (.loop .busy none 47 T0 [21] asgR bodyR h3.next);have wL6:=wL5.set (.loop .busy none 47 T0 [21] asgR bodyR h3.next);generalize h5.put (h3.next+1) (.loop .busy none 47 T0 [21] asgR bodyR h3.next)=h6 at m6 f6 w6 wA6 wB6 wD6 wL6 ⊢;have l6:loadA h6 1 (.ptr h.next 0)=some [.ptr c.bm 0]:=by rw[ldP w6.get];rfl
       refine W_ok 300 _ _ _ ?_;simp only[bodyR,wS,wC,Nat.reduceAdd,l6];have hcn:cnt kn+(1-(kn i).toNat)≤g:=by
        have q1:=Qp5 hle;have q2:=Qlm (kn:=s.known) hj6;have q3:(s.known j).toNat≤1:=by cases s.known j<;>decide
        rw[ek];simp only[Bool.toNat_true];omega
       refine cCall 300 (H.m 47 (by simp) _) (ih _ h6 i ci hcn m6) fun v h7 hv=>?_
       obtain⟨rfl,m7,f7⟩:=hv;have f7':=f6.trans f7;have w7:=w6.fr f7;have wA7:=wA6.fr f7;have wB7:=wB6.fr f7;have wD7:=wD6.fr f7;have wL7:=wL6.fr f7;simp only[wS,wC,Nat.reduceAdd];refine Qna ⟨rfl,rfl,rfl⟩ wL7.get rfl ?_;have m8:=m7.putOwn wL7 (.loop .ready none 47 T0 [21] asgR bodyR h3.next);have f8:=f7'.putOwn wL7 (by omega) (.loop .ready none 47 T0 [21] asgR bodyR h3.next);have w8:=w7.put (by omega) wL7.m (.loop .ready none 47 T0 [21] asgR bodyR h3.next);have wA8:=wA7.put (by omega) wL7.m (.loop .ready none 47 T0 [21] asgR bodyR h3.next);have wB8:=wB7.put (by omega) wL7.m (.loop .ready none 47 T0 [21] asgR bodyR h3.next);have wD8:=wD7.put (by omega) wL7.m (.loop .ready none 47 T0 [21] asgR bodyR h3.next);have wL8:=wL7.set (.loop .ready none 47 T0 [21] asgR bodyR h3.next);generalize h7.put (h3.next+1) (.loop .ready none 47 T0 [21] asgR bodyR h3.next)=h8 at m8 f8 w8 wA8 wB8 wD8 wL8 ⊢;refine W_ok (x:=⟨105,[],.normal,none,_⟩) 300 _ _ _ ?_;simp only[Ctx.fr,wS,wC,Nat.reduceAdd,AOp.makes,hw,Bool.not_true];exact ih5 _ _ _ (by omega) ⟨i+1,_,_,_,_,_,_,_,_,_,_,_,_,_,_,_,_,_,_,_,_,_,_,_,_,_,_,_,_,_,rfl,ci,m8,f8,w8,wA8,wB8,wD8,wL8,hfold,fun q hq=>hle q (Qh7 _ _ _ _ _ _ hq),rfl⟩
    ·have hd:decide ((i:Int)<(c.nc:Int))=false:=decide_eq_false (by omega);simp only[wS,wC,hd,Nat.reduceAdd];have hz:c.nc-i=0:=by omega
     rw[hz]at hfold;have hfold':kn=(List.range c.nc).foldl (stepF c.nc s.stands g j) (upd s.known j false):=hfold;refine R_end ⟨rfl,rfl,rfl,rfl⟩ H.f105 rfl rfl ?_;show Reach F M ((⟨47,[.collected h3.next],.normal,none,caller::cs⟩:Ctx).at _ (.endRangeFunc (h3.next+1)::[.inBlock 0]) h5) G;refine QhF wL5.get (Qkr ?_);have ne1:h3.next≠h3.next+1:=by omega
     have m6:=m5.putOwn wL5 (.loop .exhausted none 47 T0 [21] asgR bodyR h3.next);have f6:=f5.putOwn wL5 (by omega) (.loop .exhausted none 47 T0 [21] asgR bodyR h3.next);have wD6:=wD5.put ne1 wL5.m (.loop .exhausted none 47 T0 [21] asgR bodyR h3.next);refine R_endD rfl (QlA rfl wD6.get ?_);have m7:=m6.putOwn wD6 (.deferred none);have f7:=f6.putOwn wD6 (by omega) (.deferred none);obtain⟨fr',e1,e2⟩:=hk (.tuple []) _ ⟨rfl,by rw[Qeh an,←hfold'];exact m7,f7⟩;exact R_leave (x:=⟨47,[],.normal,none,caller::cs⟩) ⟨rfl,rfl,rfl⟩ H.f47 rfl e1 e2
  ·have an':=Bool.eq_false_iff.2 an;simp only[wS,wC,Nat.reduceAdd,an',Bool.not_false];refine Qag ⟨rfl,rfl,rfl,rfl⟩ H.f47 rfl (hk _ _ ⟨rfl,?_,f1⟩);have:QaI c.nc s.stands f j s.known=s.known:=by
    cases f with
    |zero=>rfl
    |succ f=>unfold QaI;rw[if_neg an]
   rw[this];exact m1
theorem Qh6(H:FnD F M):∀f,QlC F M c forms f
 |0=>QgY H 0 fun g e=>by cases e
 |f+1=>QgY H (f+1) fun g e=>by cases e;exact Qh6 H f
end
end Go.Ab.L26

/- A part of a proof. -/
import Derived.Laws.Externs
import Derived.Test.YthiiaehlmfbeoaaGreatDoorKaR
import Derived.Test.YthiiaehlmfbeoaaGreatDoorAbMmtoAbCl
import Derived.Test.YthiiaehlmfbeoaaGreatDoorAbR2toAbI7
import Derived.Test.YthiiaehlmfbeoaaGreatDoorKaTtoKaS
set_option linter.all false
noncomputable section
namespace Go.Ab
open Go Go.RowKit
noncomputable section
def renF:Nat→(Nat→Option Nat)→AV→Option AV
 |0,_,_=>none
 |_,_,.undef=>some .undef
 |_,_,.bool b=>some (.bool b)
 |_,_,.int k n=>some (.int k n)
 |_,_,.str n b=>some (.str n b)
 |_,_,.nilptr=>some .nilptr
 |_,r,.ptr b o=>(r b).map fun c=>.ptr c o
 |_,_,.nilslice=>some .nilslice
 |_,_,.empty=>some .empty
 |_,r,.slice b o n k=>(r b).map fun c=>.slice c o n k
 |_,r,.slop b o n es=>(r b).map fun c=>.slop c o n es
 |_,_,.nilmap=>some .nilmap
 |_,r,.map b=>(r b).map .map
 |n+1,r,.func f a b=>match a.mapM (renF n r),b.mapM (renF n r) with|some a,some b=>some (.func f a b)|_,_=>none
 |_,_,.nilFunc=>some .nilFunc
 |n+1,r,.iface t v=>(renF n r v).map (.iface t)
 |_,_,.nilIface=>some .nilIface
 |n+1,r,.agg l=>(l.mapM (renF n r)).map .agg
 |n+1,r,.tuple l=>(l.mapM (renF n r)).map .tuple
 |_,_,_=>none
theorem Qca{r:Nat→Option Nat}{f:AV→Option AV}(hf:∀a b,f a=some b→Ren r a b):∀{l m:List AV},l.mapM f=some m→Rens r l m
 | [],m,h=>by
  simp at h;subst h;exact .nil
 |a::l,m,h=>by
  rw[List.mapM_cons]at h;cases ha:f a with
  |none=>simp[ha]at h
  |some b =>
   cases hl:l.mapM f with
   |none=>simp[ha,hl]at h
   |some k=>simp[ha,hl]at h;subst h;exact .cons (hf a b ha) (Qca hf hl)
theorem Qgf{r:Nat→Option Nat}:∀(n:Nat)(a b:AV),renF n r a=some b→Ren r a b:=by
 intro n
 induction n with
 |zero=>intro a b h;simp[renF]at h
 |succ n ih =>
  intro a b h;cases a with
  |undef=>simp[renF]at h;subst h;exact .undef
  |bool x=>simp[renF]at h;subst h;exact .bool x
  |int k x=>simp[renF]at h;subst h;exact .int k x
  |str x y=>simp[renF]at h;subst h;exact .str x y
  |nilptr=>simp[renF]at h;subst h;exact .nilptr
  |ptr x o=>simp only[renF,Option.map_eq_some_iff]at h;obtain⟨c,hc,rfl⟩:=h;exact .ptr x o c hc
  |iptr l=>simp[renF]at h
  |nilslice=>simp[renF]at h;subst h;exact .nilslice
  |empty=>simp[renF]at h;subst h;exact .empty
  |slice x o m k=>simp only[renF,Option.map_eq_some_iff]at h;obtain⟨c,hc,rfl⟩:=h;exact .slice x o m k c hc
  |slop x o m es=>simp only[renF,Option.map_eq_some_iff]at h;obtain⟨c,hc,rfl⟩:=h;exact .slop x o m es c hc
  |vec l=>simp[renF]at h
  |nilmap=>simp[renF]at h;subst h;exact .nilmap
  |map x=>simp only[renF,Option.map_eq_some_iff]at h;obtain⟨c,hc,rfl⟩:=h;exact .map x c hc
  |func f fs cs =>
   simp only[renF]at h;split at h
   ·rename_i a' b' ha hb;cases h;have h1:=Qca ih ha;have h2:=Qca ih hb;exact .func f fs cs a' b' h1.len h2.len h1.val h2.val
   ·cases h
  |yield l=>simp[renF]at h
  |nilFunc=>simp[renF]at h;subst h;exact .nilFunc
  |iface t v=>simp only[renF,Option.map_eq_some_iff]at h;obtain⟨c,hc,rfl⟩:=h;exact .iface t v c (ih _ _ hc)
  |nilIface=>simp[renF]at h;subst h;exact .nilIface
  |agg l=>simp only[renF,Option.map_eq_some_iff]at h;obtain⟨c,hc,rfl⟩:=h;have:=Qca ih hc;exact .agg l c this.len this.val
  |tuple l=>simp only[renF,Option.map_eq_some_iff]at h;obtain⟨c,hc,rfl⟩:=h;have:=Qca ih hc;exact .tuple l c this.len this.val
def renE(r:Nat→Option Nat)(e:AV×AV×Nat):Option (AV×AV×Nat):=
 match renF 20 r e.1,renF 20 r e.2.1 with
 |some k,some v=>if AV.same 20 k e.1 then some (e.1,v,e.2.2) else none
 |_,_=>none
def renOF(r:Nat→Option Nat):AO→Option AO
 | .cells l sp pre anc=>(l.mapM (renF 20 r)).map fun l=>.cells l sp pre (anc.filterMap r)
 | .old l=>(l.mapM (renF 20 r)).map .old
 | .map es c=>(es.mapM (renE r)).map fun es=>.map es c
 |_=>none
theorem Qiz{α β:Type}{f:α→Option β}:∀{l:List α}{m:List β},l.mapM f=some m→l.length=m.length∧∀i (h1:i<l.length)(h2:i<m.length),f l[i]=some m[i]
 | [],m,h=>by
  simp at h;subst h;exact⟨rfl,fun i h=>absurd h (by simp)⟩
 |a::l,m,h=>by
  rw[List.mapM_cons]at h;cases ha:f a with
  |none=>simp[ha]at h
  |some b =>
   cases hl:l.mapM f with
   |none=>simp[ha,hl]at h
   |some k =>
    simp[ha,hl]at h;subst h;obtain⟨h1,h2⟩:=Qiz hl;refine⟨by simp[h1],fun i k1 k2=>?_⟩;cases i with
    |zero=>exact ha
    |succ i=>exact h2 i (by simpa using k1) (by simpa using k2)
theorem renOF_ok{r:Nat→Option Nat}{o o':AO}(h:renOF r o=some o'):RenO r o o':=by
 cases o with
 |cells l sp pre anc=>simp only[renOF,Option.map_eq_some_iff]at h;obtain⟨c,hc,rfl⟩:=h;exact .cells l c sp pre anc (Qca (Qgf 20) hc)
 |old l=>simp only[renOF,Option.map_eq_some_iff]at h;obtain⟨c,hc,rfl⟩:=h;exact .old l c (Qca (Qgf 20) hc)
 |map es c =>
  simp only[renOF,Option.map_eq_some_iff]at h;obtain⟨es',hc,rfl⟩:=h;obtain⟨h1,h2⟩:=Qiz hc;refine .map es es' c h1 fun i k1 k2=>?_
  have h3:=h2 i k1 k2;unfold renE at h3;split at h3
  ·rename_i k v hk hv;split at h3
   ·rename_i hs;have e:=AV.same_eq _ _ _ hs;simp only[oI]at h3;rw[←h3];exact⟨rfl,by rw[e]at hk;exact Qgf 20 _ _ hk,Qgf 20 _ _ hv,rfl⟩
   ·cases h3
  ·cases h3
 |iter=>simp[renOF]at h
 |loop=>simp[renOF]at h
 |deferred=>simp[renOF]at h
def takeF(sel:List Nat)(n:Nat)(v:AV)(os:List AO):Option (AV×List AO):=
 match renF 20 (selR sel n) v,os.mapM (renOF (selR sel n)) with
 |some v,some os=>some (v,os)
 |_,_=>none
def AO.eqv:AO→AO→Bool
 | .cells l sp pre anc,.cells l' sp' pre' anc'=>sp == sp'&&pre == pre'&&anc == anc'&&l.length == l'.length&&(l.zip l').all fun x=>AV.same 20 x.1 x.2
 | .old l,.old l'=>l.length == l'.length&&(l.zip l').all fun x=>AV.same 20 x.1 x.2
 | .map es c,.map es' c'=>c == c'&&es.length == es'.length&&(es.zip es').all fun x=>AV.same 20 (.tuple [x.1.1,x.1.2.1]) (.tuple [x.2.1,x.2.2.1])&&x.1.2.2 == x.2.2.2
 |_,_=>false
theorem all_eq{α:Type}{p:α×α→Bool}(hp:∀a b,p (a,b)=true→a=b):∀{l m:List α},l.length=m.length→(l.zip m).all p=true→l=m
 | [],[],_,_=>rfl
 | [],_::_,h,_=>by simp at h
 |_::_,[],h,_=>by simp at h
 |a::l,b::m,h,hs=>by
  simp only[List.zip_cons_cons,List.all_cons,Bool.and_eq_true]at hs;rw[hp a b hs.1,all_eq hp (by simpa using h) hs.2]
theorem AO.eqv_eq{a b:AO}(h:a.eqv b=true):a=b:=by
 unfold AO.eqv at h;split at h
 ·simp only[Bool.and_eq_true,beq_iff_eq]at h;obtain⟨⟨⟨⟨h1,h2⟩,h3⟩,h4⟩,h5⟩:=h;rw[h1,h2,h3,sameL (AV.same_eq 20) _ _ h4 h5]
 ·simp only[Bool.and_eq_true,beq_iff_eq]at h;rw[sameL (AV.same_eq 20) _ _ h.1 h.2]
 ·simp only[Bool.and_eq_true,beq_iff_eq]at h;obtain⟨⟨h1,h2⟩,h3⟩:=h;rw[h1]
  congr 1
  refine all_eq (fun a b hab=>?_) h2 h3;obtain⟨a1,a2,a3⟩:=a;obtain⟨b1,b2,b3⟩:=b;simp only[Bool.and_eq_true,beq_iff_eq]at hab;have:=AV.same_eq _ _ _ hab.1;simp only[AV.tuple.injEq,List.cons.injEq,and_true]at this;rw[this.1,this.2,hab.2]
 ·cases h
def AMode.isRet:AMode→Bool
 | .returning=>true
 |_=>false
def isNormal:CallKind→Bool
 | .normal=>true
 |_=>false
def endOk(F:FuncId→Option AFun)(f:FuncId)(v:AV)(sel:List Nat)(os:List AO)(s:KS):Bool:=
 s.cs.isEmpty&&s.fr.hd.mode.isRet&&s.fr.hd.defers.isEmpty&&isNormal s.fr.hd.kind&&s.fr.hd.fn == f &&
  (match F f with
   |some fn=>(match QaA (absH s.nx s.t) (rowL s.fr.n s.fr.tm) fn.results with
    |some u=>AV.same 20 u v
    |none=>false)
   |none=>false) &&
  os.length == sel.length&&(List.range sel.length).all fun i=>match sel[i]?,os[i]? with
   |some b,some o=>(match (absH s.nx s.t).get b with|some o'=>o'.eqv o|none=>false)
   |_,_=>false
theorem absH_nil:absH 0 .nil=⟨fun _=>none,0⟩:=by
 unfold absH
 congr 1
 funext b
 rw[T8.get_nil];rfl
section
variable{P:Program}{G:Nat→Option (List AV)}
variable{K:World→Prop}
theorem Qfv {F:FuncId→Option AFun} {M:KMemo} (hF:FunOk P G F) (hM:Qao K P G (absM M)) {f:FuncId} {args:List AV} {v:AV} {sel:List Nat} {os:List AO} {fuel:Nat} {fin:KS→Bool} (hfinok:∀ ks,fin ks=true→endOk F f v sel os ks=true)
    (hrun:Qan F f args .normal [] 0 .nil (loopK F M fin fuel)=true)(hd:sel.Nodup){c:Nat→AV×List AO}(hc:∀n,takeF sel n v os=some (c n))
    {B:Nat}{w0:Anchor}{g g0:Gam}{h:AH}{w:World}{vs:Array Value}(H:HR (CodeR P G) B w0 g h w)(H0:HR (CodeR P G) w.heap.size ⟨w,fun _=>False⟩ g0 ⟨fun _=>none,0⟩ w)(hG0:GlobR G g0)(hvs0:VRs g0 args vs.toList)(hK:∀w',Below w.heap.size w w'→K w') :
    (∃ fn,P.funcs[f]? = some fn∧fn.body.isSome=true∧fn.name ≠ "runtime.NumGoroutine") ∧
      Calls P f vs w fun e w'=>∃v g',e=.returned v∧VR g' (c h.next).1 v∧HR (CodeR P G) B w0 g' (h.allocs (c h.next).2) w'∧g.le g':=by
  obtain⟨af,ha,hgood⟩:=Qdv (QfL fuel) (fun x hx=>by cases hx) hrun;rw[absH_nil]at hgood;obtain⟨m,s',hst,ks,hfin0,rfl⟩:=hgood;have hfin:=hfinok ks hfin0;simp only[endOk,Bool.and_eq_true,beq_iff_eq]at hfin;obtain⟨⟨⟨⟨⟨⟨⟨h1,h2⟩,h3⟩,h4⟩,h5⟩,h6⟩,h7⟩,h8⟩:=hfin;cases hfn:F f with
  |none=>rw[hfn]at h6;cases h6
  |some fn =>
    rw[hfn]at h6;simp only at h6;cases hu:QaA (absH ks.nx ks.t) (rowL ks.fr.n ks.fr.tm) fn.results with
    |none=>rw[hu]at h6;cases h6
    |some u =>
      rw[hu]at h6;have hv:QaA ks.abs.h ks.abs.fr.tmps fn.results=some v:=by
        rw[←AV.same_eq _ _ _ h6];exact hu
      have hcs:ks.abs.cs=[]:=by
        show ks.cs.map KF.abs=[];rw[List.isEmpty_iff.1 h1];rfl
      have hmd:ks.abs.fr.mode=.returning:=by
        show ks.fr.hd.mode=_;generalize ks.fr.hd.mode=z at h2;cases z<;>first|rfl|cases h2
      have hdf:ks.abs.fr.defers=[]:=List.isEmpty_iff.1 h3;have hk:ks.abs.fr.kind=.normal:=by
        show ks.fr.hd.kind=_;generalize ks.fr.hd.kind=z at h4;cases z<;>first|rfl|cases h4
      have hfe:ks.abs.fr.fn=f:=h5;refine QjD hF hM ha (m:=m) (s:=ks.abs) hst hcs hmd hdf hk (fn:=fn) (by rw[hfe];exact hfn) hv hfe hd (c:=c) (fun n=>?_) H H0 hG0 hvs0 hK;have hcn:=hc n;unfold takeF at hcn;split at hcn
      · rename_i v' os' hv' hos;simp only[oI]at hcn;rw[←hcn];obtain⟨k1,k2⟩:=Qiz hos;refine⟨Qgf 20 _ _ hv',by simp only;omega,fun i b hb=>?_⟩;obtain⟨hlt,hb'⟩:=List.getElem?_eq_some_iff.1 hb;have h9:=List.all_eq_true.1 h8 i (List.mem_range.2 hlt);rw[hb]at h9;have hlt2:i<os.length:=by omega
        rw[gE hlt2]at h9;simp only at h9;cases ho:(absH ks.nx ks.t).get b with
        |none=>rw[ho]at h9;cases h9
        |some o =>
          rw[ho]at h9;have e:=AO.eqv_eq h9;refine⟨o,os'[i]'(by omega),ho,gE (show i<os'.length by omega),?_⟩;rw[e];exact renOF_ok (k2 i hlt2 (by omega))
      · cases hcn
theorem Qgt {F:FuncId→Option AFun} {M:KMemo} (hF:FunOk P G F) (hM:Qao K P G (absM M)) (hGc:Qen G) {f:FuncId} {args:List AV} {v:AV} {sel:List Nat} {os:List AO} {fuel:Nat} {fin:KS→Bool} (hfinok:∀ ks,fin ks=true→endOk F f v sel os ks=true)
    (hrun:Qan F f args .normal [] 0 .nil (loopK F M fin fuel)=true)(hargs:∀i (h1:i<args.length),Closed args[i])(hd:sel.Nodup){c:Nat→AV×List AO}(hc:∀n,takeF sel n v os=some (c n))
    {B:Nat}{w0:Anchor}{g:Gam}{h:AH}{w:World}{vs:Array Value}(H:HR (CodeR P G) B w0 g h w)(hG:GlobR G g)(hvs:VRs g args vs.toList)(hK:∀w',Below w.heap.size w w'→K w') :
    (∃ fn,P.funcs[f]? = some fn∧fn.body.isSome=true∧fn.name ≠ "runtime.NumGoroutine") ∧
      Calls P f vs w fun e w'=>∃v g',e=.returned v∧VR g' (c h.next).1 v∧HR (CodeR P G) B w0 g' (h.allocs (c h.next).2) w'∧g.le g':=by
  have hmem:(Go.Ab.bareG g.mem).mem=g.mem:=rfl;have hG0:GlobR G (Go.Ab.bareG g.mem):=fun n l hl=>(hG n l hl).closed hmem (hGc n l hl)
  have hvs0:VRs (Go.Ab.bareG g.mem) args vs.toList:=⟨hvs.len,fun i h1 h2=>(hvs.val i h1 h2).closed hmem (hargs i h1)⟩
  exact Qfv hF hM hfinok hrun hd hc H H.bareG hG0 hvs0 hK
theorem Qfu {F:FuncId→Option AFun} {M:KMemo} (hF:FunOk P G F) (hM:Qao K P G (absM M)) (hGc:Qen G) {f:FuncId} {args:List AV} {v:AV} {sel:List Nat} {os:List AO} {fuel:Nat}
    (hrun:Qan F f args .normal [] 0 .nil (loopK F M (endOk F f v sel os) fuel)=true)(hargs:∀i (h1:i<args.length),Closed args[i])(hd:sel.Nodup){c:Nat→AV×List AO}(hc:∀n,takeF sel n v os=some (c n))
    {B:Nat}{w0:Anchor}{g:Gam}{h:AH}{w:World}{vs:Array Value}(H:HR (CodeR P G) B w0 g h w)(hG:GlobR G g)(hvs:VRs g args vs.toList)(hK:∀w',Below w.heap.size w w'→K w') :
    (∃ fn,P.funcs[f]? = some fn∧fn.body.isSome=true∧fn.name ≠ "runtime.NumGoroutine") ∧
      Calls P f vs w fun e w'=>∃v g',e=.returned v∧VR g' (c h.next).1 v∧HR (CodeR P G) B w0 g' (h.allocs (c h.next).2) w'∧g.le g':=
  Qgt hF hM hGc (fun _ h=>h) hrun hargs hd hc H hG hvs hK
theorem Qey {F:FuncId→Option AFun} {M:KMemo} (hF:FunOk P G F) (hM:Qao K P G (absM M)) (hGc:Qen G) {f:FuncId} {args:List AV} {v:AV} {sel:List Nat} {os:List AO} {fuel:Nat}
    (hrun:∀x:Bool,Qan F f args .normal [] 0 .nil (loopK F M (fun ks=>iteF (endOk F f v sel os ks) x false) fuel)=x)(hargs:∀i (h1:i<args.length),Closed args[i])(hd:sel.Nodup){c:Nat→AV×List AO}(hc:∀n,takeF sel n v os=some (c n))
    {B:Nat}{w0:Anchor}{g:Gam}{h:AH}{w:World}{vs:Array Value}(H:HR (CodeR P G) B w0 g h w)(hG:GlobR G g)(hvs:VRs g args vs.toList)(hK:∀w',Below w.heap.size w w'→K w') :
    (∃ fn,P.funcs[f]? = some fn∧fn.body.isSome=true∧fn.name ≠ "runtime.NumGoroutine") ∧
      Calls P f vs w fun e w'=>∃v g',e=.returned v∧VR g' (c h.next).1 v∧HR (CodeR P G) B w0 g' (h.allocs (c h.next).2) w'∧g.le g':=by
  have h1:=hrun true;have e:(fun ks=>iteF (endOk F f v sel os ks) true false)=endOk F f v sel os:=by
    funext ks
    cases endOk F f v sel os ks<;>rfl
  rw[e]at h1;exact Qfu hF hM hGc h1 hargs hd hc H hG hvs hK
def newsK(c:Nat→AV×List KO):KCall:=fun nx t k=>Qfg (c nx).2 nx t fun nx' t'=>k (c nx).1 nx' t'
def newsA(c:Nat→AV×List KO):AH→Option (AV×AH):=fun h=>some ((c h.next).1,h.allocs ((c h.next).2.map KO.abs))
theorem newsK_ok(c:Nat→AV×List KO):QbV (newsK c) (newsA c):=by
 intro nx t k he;obtain⟨nx',t',h1,h2⟩:=Qih (c nx).2 nx t fun nx' t'=>k (c nx).1 nx' t'
 have he':(Qfg (c nx).2 nx t fun nx' t'=>k (c nx).1 nx' t')=true:=he;rw[h1]at he';exact⟨(c nx).1,nx',t',by rw[h2];rfl,he'⟩
def Qgp{α:Type}(f:FuncId)(args:List AV)(x:α)(no:Option α)(f':FuncId)(a':List AV):Option α:=
 @Bool.rec (fun _=>Option α) no (@Bool.rec (fun _=>Option α) no (some x) (QcT a' args)) (Nat.beq f' f)
def hasOr(f:FuncId)(o:Bool)(f':FuncId):Bool:=@Bool.rec (fun _=>Bool) o true (Nat.beq f' f)
theorem QaZ{f:FuncId}{o:Bool}{f':FuncId}(h:hasOr f o f'=false):Nat.beq f' f=false∧o=false:=by
 unfold hasOr at h;cases hb:Nat.beq f' f with
 |true=>rw[hb]at h;cases h
 |false=>rw[hb]at h;exact⟨rfl,h⟩
def kmAdd(f:FuncId)(args:List AV)(c:Nat→AV×List KO)(M:KMemo):KMemo:={
 has:=fun f'=>hasOr f (M.has f') f'
 hasNot:=fun f' h args'=>by
  obtain⟨h1,h2⟩:=QaZ h;have h3:(Qgp f args (newsA c) (M.abs f' args') f' args')=M.abs f' args':=by unfold Qgp;rw[h1]
  show Qgp f args (newsA c) (M.abs f' args') f' args'=none;rw[h3];exact M.hasNot f' h2 args'
 run:=fun f' a'=>Qgp f args (newsK c) (M.run f' a') f' a'
 abs:=fun f' a'=>Qgp f args (newsA c) (M.abs f' a') f' a'
 ok:=by
  intro f' a';unfold Qgp;cases Nat.beq f' f with
  |false=>exact M.ok f' a'
  |true =>
   cases QcT a' args with
   |false=>exact M.ok f' a'
   |true =>
    refine⟨fun h=>(by cases h),fun kc h=>?_⟩;have h':some (newsK c)=some kc:=h;cases h';exact⟨_,rfl,newsK_ok c⟩}
theorem QjF {M:KMemo} (hM:Qao K P G (absM M)) {f:FuncId} {args:List AV} {c:Nat→AV × List KO}
    (hc:∀(B:Nat)(w0:Anchor)(g:Gam)(h:AH)(w:World)(vs:Array Value),HR (CodeR P G) B w0 g h w→GlobR G g→VRs g args vs.toList→(∀w',Below w.heap.size w w'→K w') →
      (∃ fn,P.funcs[f]? = some fn∧fn.body.isSome=true∧fn.name ≠ "runtime.NumGoroutine") ∧
        Calls P f vs w fun e w'=>∃v g',e=.returned v∧VR g' (c h.next).1 v∧HR (CodeR P G) B w0 g' (h.allocs ((c h.next).2.map KO.abs)) w'∧g.le g'):Qao K P G (absM (kmAdd f args c M)):=by
  intro f' args' c' hm B w0 g h w vs v h' hv H hG hvs hK;unfold absM kmAdd at hm;simp only[Qgp]at hm;cases hf:Nat.beq f' f with
  |false =>
    rw[hf]at hm;exact hM f' args' c' hm B w0 g h w vs v h' hv H hG hvs hK
  |true =>
    rw[hf]at hm;cases hs:QcT args' args with
    |false =>
      rw[hs]at hm;exact hM f' args' c' hm B w0 g h w vs v h' hv H hG hvs hK
    |true =>
      rw[hs]at hm;have e:=Nat.eq_of_beq_eq_true hf;subst e;obtain⟨h1,h2⟩:=Qd4 hs;have e:=sameL (AV.same_eq 20) _ _ h1 h2;subst e;have hm':some (newsA c)=some c':=hm;cases hm';have hv':some ((c h.next).1,h.allocs ((c h.next).2.map KO.abs))=some (v,h'):=hv;cases hv';exact .inl (hc B w0 g h w vs H hG hvs hK)
def km0:KMemo:={
 has:=fun _=>false
 hasNot:=fun _ _ _=>rfl
 run:=fun _ _=>none
 abs:=fun _ _=>none
 ok:=fun _ _=>⟨fun _=>rfl,fun _ h=>(by cases h)⟩}
theorem QmH:Qao K P G (absM km0):=fun _ _ _ h=>by cases h
end
end
end Go.Ab
namespace Go.Ab
open Go Go.RowKit
noncomputable section
section
variable{P:Program}{G:Nat→Option (List AV)}
variable{K:World→Prop}
def QdX(b:Nat)(t:TypeId):AH→Option (AV×AH):=fun h =>
 match h.get b with
 |some (.map es clock)=>some (.iface t (.map h.next),h.alloc (.map es clock))
 |_=>none
theorem Qlo {CR : AC → Code → Prop} {B : Nat} {w0 : Anchor} {g : Gam} {h : AH} {w : World} (H : HR CR B w0 g h w) {b : Nat} {t : TypeId} {vs : Array Value} (hvs : VRs g [.iface t (.map b)] vs.toList) {v : AV} {h' : AH} (hc : QdX b t h = some (v, h')) :
    ∃u g' w',(Extern.MapsClone.clone vs).run P w=.ok u w'∧VR g' v u∧HR CR B w0 g' h' w'∧g.le g':=by
  obtain⟨l⟩:=vs;obtain⟨x,rfl⟩:∃x,l=[x]:=by
    have:=hvs.len;simp only[List.length_cons,List.length_nil]at this
    match l,this with
    | [x],_=>exact⟨x,rfl⟩
  have hx:VR g (.iface t (.map b)) x:=hvs.head;cases hx with
  |iface _ _ x' hx' =>
    cases hx' with
    |map _ β hb =>
      unfold QdX at hc;split at hc
      · rename_i es clock hget;cases hc;have hobj:=H.obj b β 0 _ hb hget;cases hobj with
        |map _ _ entries hw hb0 hl hent =>
          have hle:g.le (g.bind h.next w.heap.size 0 0 0):=Gam.le_bind (H.rhoNext _ (Nat.le_refl _));obtain⟨H',hle'⟩:=H.alloc (.map entries clock) 0 0 (.map es clock) (.map es clock entries (by show (w.heap.push _)[w.heap.size]? = _;simp) rfl hl fun i h1 h2 =>
            ⟨(hent i h1 h2).key.mono hle,(hent i h1 h2).val.mono hle,(hent i h1 h2).born,(hent i h1 h2).isKey⟩)
          refine⟨.iface t (.map (some w.heap.size)),_,_,?_,?_,H',hle'⟩
          · obtain ⟨r1, e⟩ : ∃ r1, Extern.MapsClone.clone #[Value.iface t (Value.map (some β))] = (do
                let .map entries clock ←getObj β|r1
                pure (.iface t (.map (some (←newObj (.map entries clock)))))):=⟨_,rfl⟩
            show (Extern.MapsClone.clone #[Value.iface t (Value.map (some β))]).run P w=_;rw[e];simp[getObj,newObj,Sem.run,hw]
          · exact .iface t _ _ (.map h.next w.heap.size Gam.bind_rho_same)
      · cases hc
def Qmg(b:Nat)(t:TypeId):KCall:=fun nx tr k=>objK b tr fun o=>mapoD o fun es clock=>Qbm (.map es clock) nx tr fun nx' tr'=>k (.iface t (.map nx)) nx' tr'
theorem Qoq(b:Nat)(t:TypeId):QbV (Qmg b t) (QdX b t):=by
 intro nx tr k he;simp only[Qmg,QaG,QcZ,QaT]at he;split at he
 ·rename_i o ho;split at he
  ·rename_i es clock;refine⟨_,nx+1,tr.set nx (.map es clock),?_,he⟩;have hget:(absH nx tr).get b=some (.map es clock):=by
    show (tr.get b).map KO.abs=_;rw[ho];rfl
   unfold QdX;rw[hget,QaN];rfl
  ·cases he
 ·cases he
def QbT{α:Type}(f:FuncId)(yes:Nat→TypeId→α)(no:Option α)(f':FuncId)(a':List AV):Option α:=
 @Bool.rec (fun _=>Option α) no (match a' with|[.iface t (.map b)]=>some (yes b t)|_=>no) (Nat.beq f' f)
theorem QcW{α:Type}(f:FuncId)(yes:Nat→TypeId→α)(no:Option α)(f':FuncId)(a':List AV):QbT f yes no f' a'=no∨∃b t,f'=f∧a'=[.iface t (.map b)]:=by
 unfold QbT;cases hf:Nat.beq f' f with
 |false=>exact .inl rfl
 |true =>
  show (match a' with|[.iface t (.map b)]=>some (yes b t)|_=>no)=no∨_;split
  ·rename_i t b;exact .inr ⟨b,t,Nat.eq_of_beq_eq_true hf,rfl⟩
  ·exact .inl rfl
theorem Qd8{α:Type}(f:FuncId)(yes:Nat→TypeId→α)(no:Option α)(b:Nat)(t:TypeId):QbT f yes no f [.iface t (.map b)]=some (yes b t):=by
 unfold QbT;have:Nat.beq f f=true:=by simp
 rw[this]
theorem QmE{α β:Type}{f:FuncId}{yes:Nat→TypeId→α}{yes':Nat→TypeId→β}{no:Option α}{no':Option β}{f':FuncId}{a':List AV} :
  (QbT f yes no f' a'=no∧QbT f yes' no' f' a'=no')∨∃b t,f'=f∧a'=[.iface t (.map b)]:=by
 rcases QcW f yes no f' a' with h1|h1
 ·rcases QcW f yes' no' f' a' with h2|h2
  ·exact .inl ⟨h1,h2⟩
  ·exact .inr h2
 ·exact .inr h1
def QnV(f:FuncId)(M:KMemo):KMemo:={
 has:=fun f'=>hasOr f (M.has f') f'
 hasNot:=fun f' h args'=>by
  obtain⟨h1,h2⟩:=QaZ h;have h3:QbT f QdX (M.abs f' args') f' args'=M.abs f' args':=by unfold QbT;rw[h1]
  show QbT f QdX (M.abs f' args') f' args'=none;rw[h3];exact M.hasNot f' h2 args'
 run:=fun f' a'=>QbT f Qmg (M.run f' a') f' a'
 abs:=fun f' a'=>QbT f QdX (M.abs f' a') f' a'
 ok:=by
  intro f' a';rcases QmE (f:=f) (yes:=Qmg) (yes':=QdX) (no:=M.run f' a') (no':=M.abs f' a') (f':=f') (a':=a') with⟨h1,h2⟩|⟨b,t,rfl,rfl⟩
  ·rw[h1,h2];exact M.ok f' a'
  ·rw[Qd8,Qd8];exact⟨fun h=>(by cases h),fun kc h=>(by cases h;exact⟨_,rfl,Qoq b t⟩)⟩}
theorem Qhq {M:KMemo} (hM:Qao K P G (absM M)) {f:FuncId} {fn:Func} (hf:P.funcs[f]? = some fn) (hname:(fn.name == "runtime.NumGoroutine")=false) (hb:fn.body.isNone=true) (hn:Extern.findNext fn=none)
    (he:Extern.find fn=some Extern.MapsClone.clone):Qao K P G (absM (QnV f M)):=by
  intro f' args' c' hm B w0 g h w vs v h' hv H hG hvs hK;have hm':QbT f QdX (M.abs f' args') f' args'=some c':=hm;rcases QcW f QdX (M.abs f' args') f' args' with h1|⟨b,t,rfl,rfl⟩
  · rw[h1]at hm';exact hM f' args' c' hm' B w0 g h w vs v h' hv H hG hvs hK
  · rw[Qd8]at hm';cases hm';obtain⟨u,g',w',hrun,hu,H',hle⟩:=Qlo (P:=P) H hvs hv;refine .inr ⟨u,g',w',?_,hu,H',hle⟩;rw[run_callFunc_extern hf hname hb hn he,hrun];rfl
end
end
end Go.Ab
namespace Go.Ab
open Go Go.RowKit
noncomputable section
def findB(c:Nat):Nat→Nat→Nat→Option Nat:=
 @Nat.rec (fun _=>Nat→Nat→Option Nat) (fun _ _=>none) (fun _ ih i b=>@Bool.rec (fun _=>Option Nat) (ih (Nat.succ i) (Nat.div b 256)) (some i) (Nat.beq (Nat.mod b 256) c))
theorem Ql8(c b0:Nat):∀n i,findB c n i (b0 / 256^i)=(List.range' i n).find? fun j=>byteN b0 j == c
 |0,i=>rfl
 |n+1,i=>by
  show @Bool.rec (fun _=>Option Nat) (findB c n (Nat.succ i) (Nat.div (b0 / 256^i) 256)) (some i) (Nat.beq (Nat.mod (b0 / 256^i) 256) c)=_;rw[List.range'_succ,List.find?_cons];have h1:Nat.mod (b0 / 256^i) 256=byteN b0 i:=(Qmi b0 i).symm;have h2:Nat.div (b0 / 256^i) 256=b0 / 256^(i+1):=by
   show b0 / 256^i / 256=_;rw[Nat.div_div_eq_div_mul,Nat.pow_succ]
  rw[h1,h2];have h3:(byteN b0 i == c)=Nat.beq (byteN b0 i) c:=(Qhh _ _).symm;rw[h3];cases Nat.beq (byteN b0 i) c with
  |true=>rfl
  |false=>exact Ql8 c b0 n (i+1)
section
variable{P:Program}{G:Nat→Option (List AV)}
variable{K:World→Prop}
def Qfq(n b:Nat)(z:Int):AH→Option (AV×AH):=fun h=>some (.int .i64 (match findB (z.toNat%256) n 0 b with|some i=>(i:Int)|none=>-1),h)
theorem get_bsOf{n b i:Nat}(h:i<n):(bsOf n b)[i]! = UInt8.ofNat (byteN b i):=by
 have h1:i<(bsOf n b).size:=by rw[QaO];exact h
 have h2:=bsOf_get? (b:=b) h;rw[getElem?_pos (bsOf n b) i h1]at h2;rw[getElem!_pos (bsOf n b) i h1];exact Option.some.inj h2
theorem QnP(a c:Nat)(ha:a<256):(UInt8.ofNat a == UInt8.ofNat c)=(a == c%256):=by
 rw[Bool.eq_iff_iff,beq_iff_eq,beq_iff_eq];constructor
 ·intro h;have:=congrArg UInt8.toNat h;rw[QaB,QaB]at this;omega
 ·intro h;exact Qb9 (by omega)
theorem QkM{n b:Nat}{z:Int}{g:Gam}{w:World}{vs:Array Value}(hvs:VRs g [.str n b,.int .u8 z] vs.toList) :
  (Extern.BytealgIndexByte.indexByte vs).run P w=.ok (.int .i64 (match findB (z.toNat%256) n 0 b with|some i=>(i:Int)|none=>-1)) w:=by
 obtain⟨l⟩:=vs;obtain⟨x,y,rfl⟩:∃x y,l=[x,y]:=by
  have:=hvs.len;simp only[List.length_cons,List.length_nil]at this
  match l,this with
  | [x,y],_=>exact⟨x,y,rfl⟩
 have hx:VR g (.str n b) x:=hvs.head;have hy:VR g (.int .u8 z) y:=hvs.tail.head;rw[hx.str_eq.1,hy.int_eq];have hfind:((List.range (bsOf n b).size).find? fun i=>(bsOf n b)[i]! == z.toNat.toUInt8)=findB (z.toNat%256) n 0 b:=by
  rw[QaO];have h0:=Ql8 (z.toNat%256) b n 0;simp only[Nat.pow_zero,Nat.div_one]at h0;rw[h0,List.range_eq_range'];have:∀(l:List Nat),(∀i∈l,i<n)→(l.find? fun i=>(bsOf n b)[i]! == z.toNat.toUInt8)=l.find? fun j=>byteN b j == z.toNat%256:=by
   intro l
   induction l with
   |nil=>intro _;rfl
   |cons i l ih =>
    intro hl;rw[List.find?_cons,List.find?_cons,ih fun j hj=>hl j (List.mem_cons_of_mem _ hj),get_bsOf (hl i (by simp))];have:(UInt8.ofNat (byteN b i) == z.toNat.toUInt8)=(byteN b i == z.toNat%256):=QnP _ _ (Qi6 b i);rw[this]
  exact this _ fun i hi=>by simpa using hi
 have e:Extern.BytealgIndexByte.indexByte #[Value.string (bsOf n b),Value.int .u8 z]=(do
   let s ←Extern.Bytes.bytesOf (Value.string (bsOf n b))
   let c ←Extern.Bytes.asByte (Value.int .u8 z)
   match (List.range s.size).find? fun i=>s[i]! == c with
   |some i=>pure (goInt i)
   |none=>pure (goInt (-1))):=rfl
 show (Extern.BytealgIndexByte.indexByte #[Value.string (bsOf n b),Value.int .u8 z]).run P w=_;rw[e];simp only[Extern.Bytes.bytesOf,Extern.Bytes.asByte];simp only[pure_bind];rw[hfind];cases findB (z.toNat%256) n 0 b<;>rfl
def Qnz(n b:Nat)(z:Int):KCall:=fun nx t k =>
 @Int.rec (fun _=>Bool) (fun c=>@Option.rec Nat (fun _=>Bool) (k (.int .i64 (Int.negSucc 0)) nx t) (fun i=>natF i fun i=>k (.int .i64 (Int.ofNat i)) nx t) (findB (Nat.mod c 256) n 0 b)) (fun _=>false) z
theorem Qny(n b:Nat)(z:Int):QbV (Qnz n b z) (Qfq n b z):=by
 intro nx t k he;cases z with
 |negSucc c=>cases he
 |ofNat c =>
  have he':@Option.rec Nat (fun _=>Bool) (k (.int .i64 (Int.negSucc 0)) nx t) (fun i=>natF i fun i=>k (.int .i64 (Int.ofNat i)) nx t) (findB (Nat.mod c 256) n 0 b)=true:=he;unfold Qfq;have e:(Int.ofNat c).toNat%256=Nat.mod c 256:=rfl;rw[e];cases hf:findB (Nat.mod c 256) n 0 b with
  |none=>rw[hf]at he';exact⟨_,nx,t,rfl,he'⟩
  |some i =>
   rw[hf]at he';have he2:(natF i fun i=>k (.int .i64 (Int.ofNat i)) nx t)=true:=he';rw[Qas]at he2;exact⟨_,nx,t,rfl,he2⟩
def QbS{α:Type}(f:FuncId)(yes:Nat→Nat→Int→α)(no:Option α)(f':FuncId)(a':List AV):Option α:=
 @Bool.rec (fun _=>Option α) no (match a' with|[.str n b,.int .u8 z]=>some (yes n b z)|_=>no) (Nat.beq f' f)
theorem QcV{α:Type}(f:FuncId)(yes:Nat→Nat→Int→α)(no:Option α)(f':FuncId)(a':List AV):QbS f yes no f' a'=no∨∃n b z,f'=f∧a'=[.str n b,.int .u8 z]:=by
 unfold QbS;cases hf:Nat.beq f' f with
 |false=>exact .inl rfl
 |true =>
  show (match a' with|[.str n b,.int .u8 z]=>some (yes n b z)|_=>no)=no∨_;split
  ·rename_i n b z;exact .inr ⟨n,b,z,Nat.eq_of_beq_eq_true hf,rfl⟩
  ·exact .inl rfl
theorem Qd7{α:Type}(f:FuncId)(yes:Nat→Nat→Int→α)(no:Option α)(n b:Nat)(z:Int):QbS f yes no f [.str n b,.int .u8 z]=some (yes n b z):=by
 unfold QbS;have:Nat.beq f f=true:=by simp
 rw[this]
theorem QmD{α β:Type}{f:FuncId}{yes:Nat→Nat→Int→α}{yes':Nat→Nat→Int→β}{no:Option α}{no':Option β}{f':FuncId}{a':List AV} :
  (QbS f yes no f' a'=no∧QbS f yes' no' f' a'=no')∨∃n b z,f'=f∧a'=[.str n b,.int .u8 z]:=by
 rcases QcV f yes no f' a' with h1|h1
 ·rcases QcV f yes' no' f' a' with h2|h2
  ·exact .inl ⟨h1,h2⟩
  ·exact .inr h2
 ·exact .inr h1
def QnU(f:FuncId)(M:KMemo):KMemo:={
 has:=fun f'=>hasOr f (M.has f') f'
 hasNot:=fun f' h args'=>by
  obtain⟨h1,h2⟩:=QaZ h;have h3:QbS f Qfq (M.abs f' args') f' args'=M.abs f' args':=by unfold QbS;rw[h1]
  show QbS f Qfq (M.abs f' args') f' args'=none;rw[h3];exact M.hasNot f' h2 args'
 run:=fun f' a'=>QbS f Qnz (M.run f' a') f' a'
 abs:=fun f' a'=>QbS f Qfq (M.abs f' a') f' a'
 ok:=by
  intro f' a';rcases QmD (f:=f) (yes:=Qnz) (yes':=Qfq) (no:=M.run f' a') (no':=M.abs f' a') (f':=f') (a':=a') with⟨h1,h2⟩|⟨n,b,z,rfl,rfl⟩
  ·rw[h1,h2];exact M.ok f' a'
  ·rw[Qd7,Qd7];exact⟨fun h=>(by cases h),fun kc h=>(by cases h;exact⟨_,rfl,Qny n b z⟩)⟩}
theorem Qhp {M:KMemo} (hM:Qao K P G (absM M)) {f:FuncId} {fn:Func} (hf:P.funcs[f]? = some fn) (hname:(fn.name == "runtime.NumGoroutine")=false) (hb:fn.body.isNone=true) (hn:Extern.findNext fn=none)
    (he:Extern.find fn=some Extern.BytealgIndexByte.indexByte):Qao K P G (absM (QnU f M)):=by
  intro f' args' c' hm B w0 g h w vs v h' hv H hG hvs hK;have hm':QbS f Qfq (M.abs f' args') f' args'=some c':=hm;rcases QcV f Qfq (M.abs f' args') f' args' with h1|⟨n,b,z,rfl,rfl⟩
  · rw[h1]at hm';exact hM f' args' c' hm' B w0 g h w vs v h' hv H hG hvs hK
  · rw[Qd7]at hm';cases hm';cases hv;refine .inr ⟨_,g,w,?_,.int _ _,H,Gam.le_refl g⟩;rw[run_callFunc_extern hf hname hb hn he,QkM hvs];rfl
end
end
end Go.Ab
namespace Go.Ab
open Go
abbrev Tab:Type:=TypeId→Option TypeInfo
def undI(I:Tab)(t:TypeId):Option TypeDesc:=
 match I t with
 |some {desc:=.named _ u,..}=>(I u).map (·.desc)
 |some i=>some i.desc
 |none=>none
section
variable(P:Program)(I:Tab)(G:Nat→Option (List AV))
def QlZ(t:TypeId):Option Bool:=
 match undI I t with
 |some (.struct _)=>some true
 |some (.array _ _)=>some true
 |some _=>some false
 |none=>none
def sizeI(t:TypeId):Option Nat:=(I t).map (·.size)
def zeroI(t:TypeId):Option AV:=((I t).bind (·.zero)).bind (toAV 4)
def QcA(t:TypeId):Option (List AV):=
 match zeroI I t,sizeI I t with
 |some z,some n=>if z.cells.length=n then some z.cells else none
 |_,_=>none
def QiC(t:TypeId):Option Nat:=
 match undI I t with
 |some (.int _)=>some 0
 |some .string=>some 1
 |some .bool=>some 2
 |_=>none
def plainI(t:TypeId):Option Nat:=
 match undI I t with
 |some (.int _)=>some 1
 |some .string=>some 2
 |some .bool=>some 3
 |_=>none
def eqKindI(t:TypeId)(x y:Operand):Option Nat:=
 match undI I t with
 |some .bool=>some 0
 |some (.pointer e)=>if (sizeI I e).any (· != 0) then some 1 else none
 |some (.slice _)=>some 2
 |some (.map ..)=>some 3
 |some (.func ..)=>some 4
 |some (.interface _)=>if isConstO x||isConstO y then some 5 else none
 |some (.int _)|some .string=>some 9
 |some (.struct fs)=>match fs.toList.mapM fun f=>plainI I f.type with
  |some ks=>if !P.stoodInHeld t && !P.eqGuardType P.depth t&&QdJ 0 fs.toList then some (10+codeOf ks) else none
  |none=>none
 |some (.array n e)=>match plainI I e,sizeI I e with
  |some k,some 1=>if !P.eqGuardType P.depth t then some (10+codeOf (List.replicate n k)) else none
  |_,_=>none
 |_=>none
def b_len(t:TypeId)(x:Operand):Option AOp:=match undI I t,Qaa G x with
  |some .string,some x=>some (.len 0 x)
  |some (.slice _),some x=>some (.len 1 x)
  |some (.map ..),some x=>some (.len 2 x)
  |some (.array n _),some _=>some (.lenArr n)
  |some (.pointer a),some _=>match undI I a with|some (.array n _)=>some (.lenArr n)|_=>none
  |_,_=>none
def b_append(t u:TypeId)(s x:Operand):Option AOp:=match undI I t,undI I u,Qaa G s,Qaa G x with
  |some (.slice _),some (.int _),_,_=>none
  |some (.slice e),some _,some s,some x=>match I e,QcA I e with
   |some i,some _=>some (.append i.size i.bytes (2*e) s x)
   |_,_=>none
  |_,_,_,_=>none
def b_copy(t:TypeId)(d s:Operand):Option AOp:=match undI I t,Qaa G d,Qaa G s with
  |some (.slice e),some d,some s=>(sizeI I e).map fun n=>.copy n d s
  |_,_,_=>none
def b_delete(t:TypeId)(m k:Operand):Option AOp:=match undI I t,Qaa G m,Qaa G k with
  |some (.map kt _),some m,some k=>(QiC I kt).map fun kk=>.delete kk m k
  |_,_,_=>none
def b_clear(t:TypeId)(m:Operand):Option AOp:=match undI I t,Qaa G m with
  |some (.map ..),some m=>some (.clearMap m)
  |some (.slice e),some m=>(QcA I e).map fun z=>.clearSl z m
  |_,_=>none
def b_cap(t:TypeId)(x:Operand):Option AOp:=match undI I t,Qaa G x with
  |some (.slice _),some x=>some (.cap x)
  |_,_=>none
def QhE(pt:TypeId)(p n:Operand):Option AOp:=match undI I pt,Qaa G p,Qaa G n with
  |some (.pointer e),some p,some n=>if sizeI I e == some 1 then some (.unsafeStr e p n) else none
  |_,_,_=>none
def builtinI(b:Builtin)(ts:Array TypeId)(args:Array Operand):Option AOp:=
 match b,ts.toList,args.toList with
 | .len,[t],[x]=>b_len I G t x
 | .append,[t,u],[s,x]=>b_append I G t u s x
 | .copy,[t,_],[d,s]=>b_copy I G t d s
 | .max,_,_=>(Qa1 G args).map (.minMax true)
 | .min,_,_=>(Qa1 G args).map (.minMax false)
 | .delete,[t,_],[m,k]=>b_delete I G t m k
 | .clear,[t],[m]=>b_clear I G t m
 | .unsafeSliceData,[_],[s]=>(Qaa G s).map .sliceData
 | .cap,[t],[x]=>b_cap I G t x
 | .unsafeString,[pt,_],[p,n]=>QhE I G pt p n
 |_,_,_=>none
def QlP(x:Operand):Option AOp:=(Qaa G x).map .mov
def p_pick(c a b:Operand):Option AOp:=match Qaa G c,Qaa G a,Qaa G b with|some c,some a,some b=>some (.pick c a b)|_,_,_=>none
def QnJ(t:TypeId):Option AOp:=(QcA I t).map (.alloc (2*t+1))
def p_box(t:TypeId)(x:Operand):Option AOp:=(Qaa G x).map (.box (2*t+1))
def QnH(t:TypeId)(parts:Array (Nat×Operand)):Option AOp:=
 match undI I t,zeroI I t with
 |some (.struct fs),some (.agg z)=>if fs.toList.all (fun f=>(sizeI I f.type).isSome) then (Qgj G (fun i=>(fs[i]?).bind fun f=>(sizeI I f.type).map fun s=>(f.offset,s)) parts).map (.build z) else none
 |some (.array _ e),some (.agg z)=>match sizeI I e with|some s=>(Qgj G (fun i=>some (i*s,s)) parts).map (.build z)|none=>none
 |_,_=>none
def Qfs(t:TypeId)(len:Nat)(parts:Array (Nat×Operand)):Option AOp:=
 match undI I t with
 |some (.slice e)=>match QcA I e with
  |some z=>if len*z.length≤16777216 then
    (Qgj G (fun i=>some (i*z.length,z.length)) parts).map (.buildSlice len ((List.range (len*z.length)).map fun i=>z.getD (i%z.length) .undef)) else none
  |none=>none
 |_=>none
def QcU(t:TypeId)(m k x:Operand):Option AOp:=
 match undI I t,Qaa G m,Qaa G k,Qaa G x with
 |some (.map kt _),some m,some k,some x=>(QiC I kt).map fun kk=>.mapUpdate kk m k x
 |_,_,_,_=>none
def p_load(t:TypeId)(a:Operand):Option AOp:=
 match QlZ I t,sizeI I t,Qaa G a with
 |some true,some n,some a=>some (.loadN n a)
 |some false,some _,some a=>some (.load1 a)
 |_,_,_=>none
def QnC(t:TypeId)(a x:Operand):Option AOp:=match sizeI I t,Qaa G a,Qaa G x with|some n,some a,some x=>some (.store n a x)|_,_,_=>none
def QhR(x:Operand):Option AOp:=(Qaa G x).map .nilCheck
def QnI(op:BinOp)(t:TypeId)(x y:Operand)(_:TypeId):Option AOp:=
 match eqKindI P I t x y,Qaa G x,Qaa G y with
 |some q,some x,some y=>some (.bin op q x y)
 |_,_,_=>none
def p_unOp(op:UnOp)(_:TypeId)(x:Operand):Option AOp:=(Qaa G x).map (.un op)
def Qjw(s d:TypeId)(x:Operand):Option AOp:=
 match undI I s,undI I d,Qaa G x with
 |some (.int _),some (.int k),some x=>some (.convInt k x)
 |some (.int _),some .string,some x=>some (.convRune x)
 |some .string,some .string,some x=>some (.convStr x)
 |some (.slice e),some .string,some x=>(match undI I e with|some (.int .u8)=>some (.bytesStr x)|_=>none)
 |some (.pointer t),some .unsafePointer,some x=>(match sizeI I t with|some (_+1)=>some (.toUnsafe x)|_=>none)
 |some .unsafePointer,some (.pointer u),some x=>(match sizeI I u with|some (_+1)=>some (.ofUnsafe (liesT P u) x)|_=>none)
 |_,_,_=>none
def Qdj(t:TypeId)(x:Operand):Option AOp:=
 match undI I t,Qaa G x with
 |some (.interface _),_=>none
 |some _,some x=>some (.makeInterface t x)
 |_,_=>none
def QhS(f:Fn)(first captured:Array Operand):Option AOp:=
 match f with
 | .func f=>(match Qa1 G first,Qa1 G captured with|some a,some b=>some (.makeFunc f a b)|_,_=>none)
 |_=>none
def Qju(t:TypeId)(r:Option Operand):Option AOp:=
 match r with
 |none=>some .makeMap
 |some (.const (.int _ _))=>(match undI I t with|some (.map ..)=>some .makeMap|_=>none)
 |_=>none
def Qgk(t:TypeId)(l c:Operand):Option AOp:=
 match undI I t,Qaa G l,Qaa G c with
 |some (.slice e),some l,some c=>match I e,QcA I e with
  |some i,some z=>some (.makeSlice i.size i.bytes z l c)
  |_,_=>none
 |_,_,_=>none
def QnD(t:TypeId)(x:Operand)(lo hi mx:Option Operand):Option AOp:=
 match undI I t,Qaa G x,Qc5 G lo,Qc5 G hi,Qc5 G mx with
 |some (.array n e),some x,some lo,some hi,some mx=>(sizeI I e).map fun s=>.sliceArr n s x lo hi mx
 |some .string,some x,some lo,some hi,some none=>some (.sliceStr x lo hi)
 |some (.slice e),some x,some lo,some hi,some mx=>(sizeI I e).map fun s=>.slice s x lo hi mx
 |_,_,_,_,_=>none
def Qgm(t:TypeId)(x:Operand)(f:Nat):Option AOp:=
 match undI I t,Qaa G x with
 |some (.struct fs),some x=>match fs[f]? with
  |some f=>if (sizeI I f.type).any (· != 0) then some (.fieldAddr f.offset x) else none
  |none=>none
 |_,_=>none
def QnG(t:TypeId)(x:Operand)(f:Nat):Option AOp:=
 match undI I t,Qaa G x with
 |some (.struct fs),some x=>match fs[f]? with
  |some f=>match QlZ I f.type,sizeI I f.type with|some a,some s=>some (.field a f.offset s x)|_,_=>none
  |none=>none
 |_,_=>none
def Qgl(t:TypeId)(x i:Operand):Option AOp:=
 match undI I t,Qaa G x,Qaa G i with
 |some (.slice e),some x,some i=>(sizeI I e).map fun s=>.indexAddr s x i
 |some (.array n e),some x,some i=>(sizeI I e).map fun s=>.indexArr n s x i
 |_,_,_=>none
def QnF(t:TypeId)(x i:Operand):Option AOp:=
 match undI I t,Qaa G x,Qaa G i with
 |some .string,some x,some i=>some (.indexStr x i)
 |some (.array n e),some x,some i=>match QlZ I e,sizeI I e with|some a,some s=>some (.index a n s x i)|_,_=>none
 |_,_,_=>none
def QlQ(t:TypeId)(x i:Operand)(ok:Bool):Option AOp:=
 match undI I t,Qaa G x,Qaa G i with
 |some (.map k e),some x,some i=>match QiC I k,zeroI I e with|some kk,some z=>some (.lookup kk z x i ok)|_,_=>none
 |_,_,_=>none
def QnE(t:TypeId)(x:Operand):Option AOp:=
 match undI I t,Qaa G x with
 |some .string,some x=>some (.rangeStr x)
 |_,_=>none
def p_next(x:Operand)(s:Bool):Option AOp:=match s with|true=>(Qaa G x).map .nextStr|false=>none
def Qfr(x:Operand)(_ t:TypeId)(ok:Bool):Option AOp:=
 match undI I t,Qaa G x with
 |some (.interface _),_=>none
 |some _,some x=>(zeroI I t).map fun z=>.typeAssert t z x ok
 |_,_=>none
def Qjv(x:Operand)(i:Nat):Option AOp:=(Qaa G x).map fun x=>.extract x i
def p_call(c:Call):Option AOp:=match c.callee with|.builtin b=>builtinI I G b c.argTypes c.args|_=>none
def compOpK:Op→Option AOp:=
 @Op.rec (fun _=>Option AOp) (QlP G) (QlP G) (p_pick G) (QnJ I) (p_box G) (QnH I G) (Qfs I G) (QcU I G) (p_load I G) (QnC I G) (fun _=>none) (fun _=>none) (QhR G) (QnI P I G)
  (p_unOp G) (Qjw P I G) (fun _ _=>none) (Qdj I G) (QhS G) (Qju I) (fun _ _=>none) (Qgk I G) (QnD I G) (Qgm I G) (QnG I G) (Qgl I G) (QnF I G) (QlQ I G) (QcU I G)
  (fun _ _ _=>none) (fun _ _ _ _=>none) (QnE I G) (p_next G) (fun _=>none) (Qfr I G) (Qjv G) (p_call I G) (fun _=>none) (fun _=>none) (fun _=>none) (fun _ _=>none) (fun _ _ _=>none) (fun _ _=>none)
theorem Qm0(op:Op):compOpK P P.info? G op=QaD P G op:=by
 cases op with
 |makeFunc f a b=>cases f<;>rfl
 |makeMap t r =>
  cases r with
  |none=>rfl
  |some x =>
   cases x with
   |const v=>cases v<;>rfl
   |_=>rfl
 |next x s=>cases s<;>rfl
 |call c =>
  obtain⟨ce,a,t⟩:=c;cases ce<;>rfl
 |_=>rfl
def actOf(a:Option AOp):Option AAct:=a.map .op
def p_callA(c:Call):Option AAct:=
 match c.callee with
 | .value f=>(match Qaa G f,Qa1 G c.args with|some f,some l=>some (.call f l)|_,_=>none)
 | .builtin b=>(match b with|.recover=>some .recover|_=>actOf (p_call I G c))
 |_=>none
def p_deferA(c:Call):Option AAct:=
 match c.callee with
 | .value f=>(match Qaa G f,Qa1 G c.args with|some f,some l=>some (.defer f l)|_,_=>none)
 |_=>none
def p_panicA(x:Operand):Option AAct:=(Qaa G x).map .panic
def Qmd(op:Op):Option AAct:=
 @Op.rec (fun _=>Option AAct) (fun x=>actOf (QlP G x)) (fun x=>actOf (QlP G x)) (fun c a b=>actOf (p_pick G c a b)) (fun t=>actOf (QnJ I t)) (fun t x=>actOf (p_box G t x)) (fun t x=>actOf (QnH I G t x)) (fun t n x=>actOf (Qfs I G t n x))
  (fun t m k x=>actOf (QcU I G t m k x)) (fun t a=>actOf (p_load I G t a)) (fun t a x=>actOf (QnC I G t a x)) (fun _=>none) (fun _=>none) (fun x=>actOf (QhR G x)) (fun o t x y u=>actOf (QnI P I G o t x y u))
  (fun o t x=>actOf (p_unOp G o t x)) (fun s d x=>actOf (Qjw P I G s d x)) (fun _ _=>none) (fun t x=>actOf (Qdj I G t x)) (fun f a b=>actOf (QhS G f a b)) (fun t r=>actOf (Qju I t r)) (fun _ _=>none)
  (fun t l c=>actOf (Qgk I G t l c)) (fun t x l h m=>actOf (QnD I G t x l h m)) (fun t x f=>actOf (Qgm I G t x f)) (fun t x f=>actOf (QnG I G t x f)) (fun t x i=>actOf (Qgl I G t x i)) (fun t x i=>actOf (QnF I G t x i))
  (fun t x i ok=>actOf (QlQ I G t x i ok)) (fun t m k x=>actOf (QcU I G t m k x)) (fun _ _ _=>none) (fun _ _ _ _=>none) (fun t x=>actOf (QnE I G t x)) (fun x s=>actOf (p_next G x s)) (fun _=>none)
  (fun x t u ok=>actOf (Qfr I G x t u ok)) (fun x i=>actOf (Qjv G x i)) (p_callA I G) (fun _=>none) (p_deferA G) (p_panicA G) (fun _ _=>none) (fun _ _ _=>none) (fun _ _=>none) op
theorem Qll(op:Op):Qmd P P.info? G op=Qbu P G op:=by
 have h:=Qm0 P G op;cases op with
 |makeFunc f a b=>cases f<;>rfl
 |makeMap t r =>
  cases r with
  |none=>rfl
  |some x =>
   cases x with
   |const v=>cases v<;>rfl
   |_=>rfl
 |next x s=>cases s<;>rfl
 |call c =>
  obtain⟨ce,a,t⟩:=c;cases ce with
  |builtin b=>cases b<;>rfl
  |_=>rfl
 |defer c =>
  obtain⟨ce,a,t⟩:=c;cases ce<;>rfl
 |_=>rfl
def operOf(ops:Array Oper)(o:Oper)(a:Option AAct):Option AOper:=
 match a,QcN ops o.guard with
 |some a,some gd=>some {dst:=o.dst,act:=a,guard:=gd}
 |_,_=>none
def mapOK{α β:Type}(f:α→Option β):List α→Option (List β):=
 @List.rec α (fun _=>Option (List β)) (some []) (fun x _ ih=>@Option.rec β (fun _=>Option (List β)) none (fun y=>@Option.rec (List β) (fun _=>Option (List β)) none (fun l=>some (y::l)) ih) (f x))
theorem Qiy{α β:Type}(f:α→Option β):∀l:List α,mapOK f l=l.mapM f
 | []=>rfl
 |x::l=>by
  show @Option.rec β (fun _=>Option (List β)) none (fun y=>@Option.rec (List β) (fun _=>Option (List β)) none (fun l=>some (y::l)) (mapOK f l)) (f x)=_;rw[Qiy f l,List.mapM_cons];cases f x with
  |none=>rfl
  |some y=>cases l.mapM f<;>rfl
def operK(ops:Array Oper)(o:Oper):Option AOper:=operOf ops o (Qmd P I G o.op)
theorem operK_eq(ops:Array Oper)(o:Oper):operK P P.info? G ops o=Qcr P G ops o:=by
 unfold operK;rw[Qll];rfl
def draw1(ops:Array Oper)(l:List AOper)(bs:List Nat):AC:=.draw (Qbo l bs (QhP l bs) []) ((QfW l bs).map (opAt l))
def QkK(ops:Array Oper)(draw:Bool):Option AC:=
 @Option.rec (List AOper) (fun _=>Option AC) none (fun l=>@Bool.rec (fun _=>Option AC) (some (.region l)) (some (draw1 ops l (Region.before ops).toList)) draw) (mapOK (operK P I G ops) ops.toList)
def Qg9(ops:Array Oper)(draw:Bool):Bool:=
 @Bool.rec (fun _=>Bool) true (@Option.rec (List AOper) (fun _=>Bool) true (fun l=>(!(Region.departs ops && !P.follows .mixedOrders))&&QlO l (Region.before ops).toList (QhP l (Region.before ops).toList) (QfW l (Region.before ops).toList)) (mapOK (operK P I G ops) ops.toList)) draw
theorem QmB(ops:Array Oper)(draw:Bool)(h:Qg9 P P.info? G ops draw=true):QkK P P.info? G ops draw=QcM P G ops draw:=by
 unfold QkK QcM;unfold Qg9 at h;rw[Qiy,show operK P P.info? G ops=Qcr P G ops from funext fun o=>operK_eq P G ops o]at h ⊢;cases hm:ops.toList.mapM (Qcr P G ops) with
 |none=>rfl
 |some l =>
  rw[hm]at h;cases draw with
  |false=>rfl
  |true =>
   have h':((!(Region.departs ops && !P.follows .mixedOrders))&&QlO l (Region.before ops).toList (QhP l (Region.before ops).toList) (QfW l (Region.before ops).toList))=true:=h;rw[Bool.and_eq_true]at h';have h1:(Region.departs ops && !P.follows .mixedOrders)=false:=by
    have:=h'.1;rw[Bool.not_eq_true']at this;exact this
   show some (draw1 ops l (Region.before ops).toList)=if true=true then (if (Region.departs ops && !P.follows .mixedOrders)=true then none else Qfp l (Region.before ops).toList) else some (.region l)
   rw[if_pos rfl,h1,if_neg (by simp)];unfold Qfp;simp only;rw[if_pos h'.2];rfl
def opt2{α β γ:Type}(a:Option α)(b:Option β)(f:α→β→γ):Option γ:=
 @Option.rec α (fun _=>Option γ) none (fun x=>@Option.rec β (fun _=>Option γ) none (fun y=>some (f x y)) b) a
def opt1{α γ:Type}(a:Option α)(f:α→γ):Option γ:=@Option.rec α (fun _=>Option γ) none (fun x=>some (f x)) a
def codeU:Code→Option AC:=
 @Code.rec (fun _=>Option AC) (some .skip) (fun _ ops draw=>QkK P I G ops draw) (fun _ _ a b=>opt2 a b AC.seq) (fun c _ _ a b=>@Option.rec AOpd (fun _=>Option AC) none (fun c=>opt2 a b (AC.cond c)) (Qaa G c))
  (fun id _ a=>opt1 a (AC.block id)) (fun _ a=>opt1 a AC.loop) (fun f ps _ _ a b=>@Option.rec AOpd (fun _=>Option AC) none (fun f=>opt2 a b (AC.rangeFunc f ps.toList)) (Qaa G f)) (fun id=>some (.exit id))
  (fun _ a=>opt1 a AC.scope) (fun l=>some (.label l)) (fun l=>some (.goto l)) (some .ret) (fun _=>some .stuck)
def andK(a b:Bool):Bool:=@Bool.rec (fun _=>Bool) false b a
theorem Qdw{a b:Bool}(h:andK a b=true):a=true∧b=true:=by cases a<;>first|exact⟨rfl,h⟩|cases h
def Qc6:Code→Bool:=
 @Code.rec (fun _=>Bool) true (fun _ ops draw=>Qg9 P I G ops draw) (fun _ _ a b=>andK a b) (fun _ _ _ a b=>andK a b) (fun _ _ a=>a) (fun _ a=>a) (fun _ _ _ _ a b=>andK a b) (fun _=>true) (fun _ a=>a) (fun _=>true) (fun _=>true) true (fun _=>true)
theorem codeU_eq:∀c:Code,Qc6 P P.info? G c=true→codeU P P.info? G c=Qah P G c:=by
 intro c
 induction c with
 |skip=>intro _;rfl
 |region id ops draw=>intro h;exact QmB P G ops draw h
 |seq a b iha ihb =>
  intro h;obtain⟨h1,h2⟩:=Qdw (a:=Qc6 P P.info? G a) (b:=Qc6 P P.info? G b) h;show opt2 (codeU P P.info? G a) (codeU P P.info? G b) AC.seq=_;rw[iha h1,ihb h2];simp only[Qah];cases Qah P G a<;>cases Qah P G b<;>rfl
 |cond c a b iha ihb =>
  intro h;obtain⟨h1,h2⟩:=Qdw (a:=Qc6 P P.info? G a) (b:=Qc6 P P.info? G b) h;show @Option.rec AOpd (fun _=>Option AC) none (fun c=>opt2 (codeU P P.info? G a) (codeU P P.info? G b) (AC.cond c)) (Qaa G c)=_;rw[iha h1,ihb h2];simp only[Qah];cases Qaa G c<;>cases Qah P G a<;>cases Qah P G b<;>rfl
 |block id a iha =>
  intro h;show opt1 (codeU P P.info? G a) (AC.block id)=_;rw[iha h];simp only[Qah];cases Qah P G a<;>rfl
 |loop a iha =>
  intro h;show opt1 (codeU P P.info? G a) AC.loop=_;rw[iha h];simp only[Qah];cases Qah P G a<;>rfl
 |rangeFunc f ps a b iha ihb =>
  intro h;obtain⟨h1,h2⟩:=Qdw (a:=Qc6 P P.info? G a) (b:=Qc6 P P.info? G b) h;show @Option.rec AOpd (fun _=>Option AC) none (fun f=>opt2 (codeU P P.info? G a) (codeU P P.info? G b) (AC.rangeFunc f ps.toList)) (Qaa G f)=_;rw[iha h1,ihb h2];simp only[Qah];cases Qaa G f<;>cases Qah P G a<;>cases Qah P G b<;>rfl
 |exit id=>intro _;rfl
 |scope a iha =>
  intro h;show opt1 (codeU P P.info? G a) AC.scope=_;rw[iha h];simp only[Qah];cases Qah P G a<;>rfl
 |label l=>intro _;rfl
 |goto l=>intro _;rfl
 |ret=>intro _;rfl
 |refuse w=>intro _;rfl
def resU:ResultVar→Option ARes:=
 @ResultVar.rec (fun _=>Option ARes) (fun t=>some (.tmp t)) (fun a t=>match QlZ I t,sizeI I t with|some b,some n=>some (.cell a b n)|_,_=>none)
theorem resU_eq(r:ResultVar):resU P.info? r=Qcw P r:=by cases r<;>rfl
def funOU(fn:Func):Option AFun:=
 @Option.rec Code (fun _=>Option AFun) none (fun c=>@Option.rec (List ARes) (fun _=>Option AFun) none
  (fun rs=>opt1 (codeU P I G c) fun body=>{ntmps:=fn.ntmps,results:=rs,body}) (mapOK (resU I) fn.results.toList)) fn.body
def chkFun (fn:Func):Bool:=andK (!(fn.name == "runtime.NumGoroutine")) (@Option.rec Code (fun _=>Bool) true (fun c=>Qc6 P I G c) fn.body)
variable(FS:FuncId→Option Func)
def funU(f:FuncId):Option AFun:=@Option.rec Func (fun _=>Option AFun) none (funOU P I G) (FS f)
def chkF(f:FuncId):Bool:=@Option.rec Func (fun _=>Bool) true (chkFun P I G) (FS f)
theorem funU_eq(f:FuncId)(h:chkF P P.info? G (fun f=>P.funcs[f]?) f=true):funU P P.info? G (fun f=>P.funcs[f]?) f=Qg6 P G f:=by
  unfold funU Qg6;unfold chkF at h;simp only at h ⊢;cases hf:P.funcs[f]? with
  |none=>rfl
  |some fn =>
    rw[hf]at h
    obtain ⟨h1,h2⟩:=Qdw (a:=(!(fn.name == "runtime.NumGoroutine"))) h
    rw[Bool.not_eq_true']at h1;show funOU P P.info? G fn=_;unfold funOU;rw[Qiy,show resU P.info? = Qcw P from funext fun r=>resU_eq P r];simp only[h1];cases hb:fn.body with
    |none=>rfl
    |some c =>
      rw[hb]at h2;have h3:Qc6 P P.info? G c=true:=h2;cases fn.results.toList.mapM (Qcw P) with
      |none=>rfl
      |some rs =>
        simp only[codeU_eq P G c h3];cases Qah P G c<;>rfl
end
def rowT{α:Type}:Nat→List α→T8 α→T8 α
 |_,[],t=>t
 |i,x::l,t=>rowT (i+1) l (t.set i x)
theorem QlJ{α:Type}:∀(l:List α)(i:Nat)(t:T8 α)(j:Nat),(rowT i l t).get j=if i≤j∧j<i+l.length then l[j-i]? else t.get j
 | [],i,t,j=>by
  have:¬(i≤j∧j<i+([]:List α).length):=by simp only[List.length_nil];omega
  rw[if_neg this];rfl
 |x::l,i,t,j=>by
  rw[rowT,QlJ l (i+1) (t.set i x) j,T8.get_set];by_cases h1:j=i
  ·subst h1;have h2:¬(j+1≤j∧j<j+1+l.length):=by omega
   have h3:j≤j∧j<j+(x::l).length:=by simp
   rw[if_neg h2,if_pos h3];simp
  ·by_cases h2:i+1≤j∧j<i+1+l.length
   ·have h3:i≤j∧j<i+(x::l).length:=by simp only[List.length_cons];omega
    rw[if_pos h2,if_pos h3];obtain⟨d,rfl⟩:∃d,j=i+1+d:=⟨j-(i+1),by omega⟩
    have e1:i+1+d-(i+1)=d:=by omega
    have e2:i+1+d-i=d+1:=by omega
    rw[e1,e2];rfl
   ·have h3:¬(i≤j∧j<i+(x::l).length):=by simp only[List.length_cons];omega
    rw[if_neg h2,if_neg h3,if_neg h1]
def Qio(α:Type):List α→Nat→T8 α→(T8 α→Bool)→Bool:=
 @List.rec α (fun _=>Nat→T8 α→(T8 α→Bool)→Bool) (fun _ t k=>k t) (fun x _ ih i t k=>setK α (some x) (path i) t fun t=>ih (Nat.succ i) t k)
theorem QeP{α:Type}:∀(l:List α)(i:Nat)(t:T8 α)(k:T8 α→Bool),Qio α l i t k=k (rowT i l t)
 | [],_,_,_=>rfl
 |x::l,i,t,k=>by
  show setK α (some x) (path i) t (fun t=>Qio α l (Nat.succ i) t k)=_;rw[Qf6,QeP l];rfl
def lookP(α:Type):List D8→T8 α→Option α:=
 @List.rec D8 (fun _=>T8 α→Option α) (fun t=>@T8.rec α (fun _=>Option α) none (fun v _ _ _ _ _ _ _ _ _ _ _ _ _ _ _ _=>v) t)
  (fun x _ ih t=>@T8.rec α (fun _=>Option α) none (fun _ a b c e f g h i _ _ _ _ _ _ _ _=>@D8.rec (fun _=>Option α) (ih a) (ih b) (ih c) (ih e) (ih f) (ih g) (ih h) (ih i) x) t)
theorem lookP_eq{α:Type}(p:List D8):∀t:T8 α,lookP α p t=T8.getP p t:=by
 induction p with
 |nil=>intro t;cases t<;>rfl
 |cons x p ih =>
  intro t;cases t with
  |nil=>rfl
  |node v a b c e f g h i =>
   show @D8.rec (fun _=>Option α) (lookP α p a) (lookP α p b) (lookP α p c) (lookP α p e) (lookP α p f) (lookP α p g) (lookP α p h) (lookP α p i) x=_;cases x<;>exact ih _
def lookT(α:Type)(t:T8 α)(i:Nat):Option α:=lookP α (path i) t
theorem QhX{α:Type}(l:List α):lookT α (rowT 0 l .nil)=fun i=>l[i]?:=by
 funext i
 unfold lookT;rw[lookP_eq];have:=QlJ l 0 .nil i;unfold T8.get at this;rw[this];split
 ·rfl
 ·rename_i h;have:l.length≤i:=by omega
  rw[List.getElem?_eq_none this];exact T8.getP_nil _
def infoT(P:Program)(ty:T8 TypeInfo)(t:TypeId):Option TypeInfo:=@Option.rec TypeInfo (fun _=>Option TypeInfo) (P.info? t) (fun i=>some i) (lookT TypeInfo ty t)
def Qaf(P:Program)(k:Tab→(FuncId→Option Func)→Bool):Bool:=
 Qio TypeInfo P.types.toList 0 .nil fun ty=>Qio Func P.funcs.toList 0 .nil fun fs=>k (infoT P ty) (lookT Func fs)
theorem Qae(P:Program)(k:Tab→(FuncId→Option Func)→Bool):Qaf P k=k P.info? (fun f=>P.funcs[f]?):=by
 unfold Qaf;rw[QeP,QeP,QhX]
 congr 1
 ·funext t
  unfold infoT;rw[QhX];simp only[Array.getElem?_toList];by_cases h:t<P.types.size
  ·have e:P.info? t=P.types[t]?:=by unfold Tables.info?;rw[if_pos h]
   rw[e,Array.getElem?_eq_getElem h]
  ·have e:P.types[t]? = none:=Array.getElem?_eq_none (Nat.le_of_not_lt h);rw[e]
 ·funext f
  simp
def maskN:List Nat→Nat:=@List.rec Nat (fun _=>Nat) 0 fun f _ ih=>Nat.lor (Nat.shiftLeft 1 f) ih
def Qn5(m f:Nat):Bool:=Nat.beq (Nat.land (Nat.shiftRight m f) 1) 1
theorem Qn4(m f:Nat):Qn5 m f=m.testBit f:=by
 unfold Qn5 Nat.testBit;have e:Nat.land (Nat.shiftRight m f) 1=1 &&& (m >>> f):=Nat.and_comm _ _;rw[e];have h2:1 &&& (m >>> f)=0∨1 &&& (m >>> f)=1:=by
  rw[Nat.and_comm,Nat.and_one_is_mod];omega
 rcases h2 with h2|h2<;>rw[h2]<;>rfl
theorem QjH:∀(l:List Nat)(f:Nat),(maskN l).testBit f=decide (f∈l)
 | [],f=>by simp[maskN]
 |g::l,f=>by
  show (Nat.lor (Nat.shiftLeft 1 g) (maskN l)).testBit f=_;have e:Nat.lor (Nat.shiftLeft 1 g) (maskN l)=(1 <<< g) ||| maskN l:=rfl
  rw[e,Nat.testBit_or,QjH l f,Nat.one_shiftLeft,Nat.testBit_two_pow];by_cases h:g=f
  ·subst h;simp
  ·have:¬f=g:=fun e=>h e.symm
   simp[h,this]
def FU(P:Program)(G:Nat→Option (List AV))(m:Nat)(I:Tab)(FS:FuncId→Option Func):FuncId→Option AFun:=fun f=>@Bool.rec (fun _=>Option AFun) none (funU P I G FS f) (Qn5 m f)
def Qce(P:Program)(G:Nat→Option (List AV))(l:List Nat)(I:Tab)(FS:FuncId→Option Func):Bool:=@List.rec Nat (fun _=>Bool) true (fun f _ ih=>andK (chkF P I G FS f) ih) l
theorem Qib{P:Program}{G:Nat→Option (List AV)}{I:Tab}{FS:FuncId→Option Func}:∀{l:List Nat},Qce P G l I FS=true→∀f∈l,chkF P I G FS f=true
 |g::l,h,f,hf=>by
  obtain⟨h1,h2⟩:=Qdw (a:=chkF P I G FS g) (b:=Qce P G l I FS) h;rcases List.mem_cons.1 hf with rfl|hf
  ·exact h1
  ·exact Qib h2 f hf
theorem Qdb{P:Program}{G:Nat→Option (List AV)}{l:List Nat}(h:Qaf P (Qce P G l)=true):∀f∈l,chkF P P.info? G (fun f=>P.funcs[f]?) f=true:=by
 rw[Qae]at h;exact Qib h
theorem QdH{P:Program}{G:Nat→Option (List AV)}{l:List Nat}(h:∀f∈l,chkF P P.info? G (fun f=>P.funcs[f]?) f=true):FunOk P G (FU P G (maskN l) P.info? fun f=>P.funcs[f]?):=by
 intro f fn hf;unfold FU at hf;rw[Qn4,QjH]at hf;by_cases hm:f∈l
 ·rw[decide_eq_true hm]at hf;rw[←funU_eq P G f (h f hm)];exact hf
 ·rw[decide_eq_false hm]at hf;cases hf
end Go.Ab
namespace Go.Ab
open Go Go.RowKit
noncomputable section
def _root_.Go.Ab.AV.plain:AV→Bool
 | .bool _|.int .. | .str ..=>true
 |_=>false
theorem QfV{u:AV}(h:u.plain=true)(n:Nat):takeF [] n u []=some (u,[]):=by
 cases u<;>first|rfl|cases h
def tabOk(F:FuncId→Option AFun)(M:KMemo)(f:FuncId)(fuel:Nat)(tab:List AV)(i:Nat):Bool:=
 @List.rec AV (fun _=>Nat→Bool) (fun _=>true) (fun v _ ih i=>Qan F f [.int .u8 (Int.ofNat i)] .normal [] 0 .nil (loopK F M (fun ks=>iteF (endOk F f v [] [] ks) (ih (Nat.succ i)) false) fuel)) tab i
def pureK(v:AV):KCall:=fun nx t k=>k v nx t
def pureA(v:AV):AH→Option (AV×AH):=fun h=>some (v,h)
theorem pureK_ok(v:AV):QbV (pureK v) (pureA v):=fun nx t _ h=>⟨v,nx,t,rfl,h⟩
def nthO:Nat→List AV→Option AV:=
 @Nat.rec (fun _=>List AV→Option AV) (fun l=>@List.rec AV (fun _=>Option AV) none (fun x _ _=>some x) l) (fun _ ih l=>@List.rec AV (fun _=>Option AV) none (fun _ l _=>ih l) l)
theorem QnQ:∀(i:Nat)(l:List AV),nthO i l=l[i]?
 |0,[]=>rfl
 |0,_::_=>rfl
 |_+1,[]=>rfl
 |i+1,_::l=>by
  show nthO i l=_;rw[QnQ i l];rfl
def byteOf:List AV→Option Nat
 | [.int .u8 (.ofNat c)]=>some c
 |_=>none
theorem Qot{l:List AV}{c:Nat}(h:byteOf l=some c):l=[.int .u8 (Int.ofNat c)]:=by
 unfold byteOf at h;split at h
 ·cases h;rfl
 ·cases h
def onTab{α:Type}(f:FuncId)(tab:List AV)(yes:AV→α)(no:Option α)(f':FuncId)(a':List AV):Option α:=
 @Bool.rec (fun _=>Option α) no (@Option.rec Nat (fun _=>Option α) no (fun c=>@Option.rec AV (fun _=>Option α) no (fun v=>some (yes v)) (nthO c tab)) (byteOf a')) (Nat.beq f' f)
theorem Qgo{α β:Type}{f:FuncId}{tab:List AV}{yes:AV→α}{yes':AV→β}{no:Option α}{no':Option β}{f':FuncId}{a':List AV} :
  (onTab f tab yes no f' a'=no∧onTab f tab yes' no' f' a'=no')∨∃c v,f'=f∧a'=[.int .u8 (Int.ofNat c)]∧tab[c]? = some v∧onTab f tab yes no f' a'=some (yes v)∧onTab f tab yes' no' f' a'=some (yes' v):=by
 unfold onTab;cases hf:Nat.beq f' f with
 |false=>exact .inl ⟨rfl,rfl⟩
 |true =>
  cases hb:byteOf a' with
  |none=>exact .inl ⟨rfl,rfl⟩
  |some c =>
   cases hn:nthO c tab with
   |none=>exact .inl ⟨by simp only[hn],by simp only[hn]⟩
   |some v =>
    refine .inr ⟨c,v,Nat.eq_of_beq_eq_true hf,Qot hb,by rw[←QnQ];exact hn,?_,?_⟩
    ·simp only[hn]
    ·simp only[hn]
def kmTab(f:FuncId)(tab:List AV)(M:KMemo):KMemo:={
 has:=fun f'=>hasOr f (M.has f') f'
 run:=fun f' a'=>onTab f tab pureK (M.run f' a') f' a'
 abs:=fun f' a'=>onTab f tab pureA (M.abs f' a') f' a'
 hasNot:=fun f' h args'=>by
  obtain⟨h1,h2⟩:=QaZ h;have h3:onTab f tab pureA (M.abs f' args') f' args'=M.abs f' args':=by unfold onTab;rw[h1]
  show onTab f tab pureA (M.abs f' args') f' args'=none;rw[h3];exact M.hasNot f' h2 args'
 ok:=by
  intro f' a';rcases Qgo (f:=f) (tab:=tab) (yes:=pureK) (yes':=pureA) (no:=M.run f' a') (no':=M.abs f' a') (f':=f') (a':=a') with⟨h1,h2⟩|⟨c,v,_,_,_,h1,h2⟩
  ·rw[h1,h2];exact M.ok f' a'
  ·rw[h1,h2];exact⟨fun h=>(by cases h),fun kc h=>(by cases h;exact⟨_,rfl,pureK_ok v⟩)⟩}
section
variable{P:Program}{G:Nat→Option (List AV)}
variable{K:World→Prop}
theorem QhI{F:FuncId→Option AFun}{M:KMemo}{f:FuncId}{fuel:Nat}:∀{tab:List AV}{i:Nat},tabOk F M f fuel tab i=true→∀c v,tab[c]? = some v →
  ∃fin:KS→Bool,(∀ks,fin ks=true→endOk F f v [] [] ks=true)∧Qan F f [.int .u8 (Int.ofNat (i+c))] .normal [] 0 .nil (loopK F M fin fuel)=true
 |v::tab,i,h,c,u,hc=>by
  have h':Qan F f [.int .u8 (Int.ofNat i)] .normal [] 0 .nil (loopK F M (fun ks=>iteF (endOk F f v [] [] ks) (tabOk F M f fuel tab (Nat.succ i)) false) fuel)=true:=h;have hfin:∀ks,iteF (endOk F f v [] [] ks) (tabOk F M f fuel tab (Nat.succ i)) false=true→endOk F f v [] [] ks=true∧tabOk F M f fuel tab (Nat.succ i)=true:=by
   intro ks hk;rw[Qaw]at hk;split at hk
   ·rename_i h1;exact⟨h1,hk⟩
   ·cases hk
  cases c with
  |zero =>
   cases hc;exact⟨_,fun ks hk=>(hfin ks hk).1,h'⟩
  |succ c =>
   obtain⟨af,_,m,s',_,ks,hk,_⟩:=Qdv (QfL fuel) (fun x hx=>by cases hx) h';obtain⟨fin,h1,h2⟩:=QhI (hfin ks hk).2 c u (by simpa using hc);exact⟨fin,h1,by rw[show i+(c+1)=Nat.succ i+c by omega];exact h2⟩
 | [],i,h,c,u,hc=>by cases hc
theorem QjE{F:FuncId→Option AFun}{M M0:KMemo}(hF:FunOk P G F)(hGc:Qen G)(hM0:Qao K P G (absM M0))(hM:Qao K P G (absM M)){f:FuncId}{tab:List AV}{fuel:Nat}(htab:tab.all AV.plain=true)(h:tabOk F M0 f fuel tab 0=true):Qao K P G (absM (kmTab f tab M)):=by
 intro f' args' c' hm B w0 g hh w vs v h' hv H hG hvs hK;have hm':onTab f tab pureA (M.abs f' args') f' args'=some c':=hm;rcases Qgo (f:=f) (tab:=tab) (yes:=pureK) (yes':=pureA) (no:=M.run f' args') (no':=M.abs f' args') (f':=f') (a':=args') with⟨_,h2⟩|⟨c,u,rfl,rfl,htc,_,h2⟩
 ·rw[h2]at hm';exact hM f' args' c' hm' B w0 g hh w vs v h' hv H hG hvs hK
 ·rw[h2]at hm';cases hm';cases hv;obtain⟨fin,h3,h4⟩:=QhI h c v htc;rw[Nat.zero_add]at h4;have hpl:v.plain=true:=List.all_eq_true.1 htab v (List.mem_of_getElem? htc);refine .inl ?_;have:=Qgt hF hM0 hGc (sel:=[]) (os:=[]) (c:=fun _=>(v,[])) h3 h4 (fun i h1=>by
   have:i=0:=by simpa using h1
   subst this;exact Closed.int _ _) List.nodup_nil (fun n=>QfV hpl n) H hG hvs hK
  exact this
end
end
end Go.Ab
namespace Go.Ab
open Go Go.RowKit
noncomputable section
def QhG(w:World):Gam:={rho:=fun _=>none,es:=fun _=>0,top:=fun _=>0,mem:=fun β o=>w.cell? ⟨β,o,none⟩}
section
variable{CR:AC→Code→Prop}{B:Nat}{w0:Anchor}{g:Gam}{h:AH}{w:World}
theorem Ql1(w:World):HR CR w.heap.size ⟨w,fun _=>False⟩ (QhG w) ⟨fun _=>none,0⟩ w:=
 ⟨fun _ _=>rfl,fun _ _=>rfl,fun _ _ h=>(by cases h),fun _ _ _ _ h=>(by cases h),fun _ _ _ _ _ _ _ h=>(by cases h),fun _ _ _ h=>h,fun _ _ _ _ _ h=>(by cases h),fun _ _ _ _ h=>(by cases h),Below.refl _ _,Nat.le_refl _,fun _ h=>h.elim⟩
theorem VR.whole{g':Gam}(hm:∀β o v,g.mem β o=some v→g'.mem β o=some v){a:AV}(h:Closed a):∀{v:Value},VR g a v→VR g' a v:=by
 induction h with
 |undef=>intro v _;exact .undef v
 |bool b=>intro v hv;cases hv;exact .bool b
 |int k n=>intro v hv;cases hv;exact .int k n
 |str n b=>intro v hv;cases hv with|str _ _ h=>exact .str n b h
 |nilptr=>intro v hv;cases hv;exact .nilptr
 |iptr l h ih=>intro v hv;cases hv with|iptr _ vs β o hl hv' hmm=>exact .iptr l vs β o hl (fun i k1 k2=>ih i k1 (hv' i k1 k2)) fun i k=>hm _ _ _ (hmm i k)
 |nilslice=>intro v hv;cases hv;exact .nilslice
 |empty=>intro v hv;cases hv with|empty a=>exact .empty a
 |vec l h ih =>
  intro v hv;cases hv with
  |vec _ vs β o c sz hl hn hz hz' hv' hmm=>exact .vec l vs β o c sz hl hn hz hz' (fun i k1 k2 j k3 k4=>ih i k1 j k3 (hv' i k1 k2 j k3 k4)) fun i k j k'=>hm _ _ _ (hmm i k j k')
 |nilmap=>intro v hv;cases hv;exact .nilmap
 |func f fs cs h1 h2 ih1 ih2=>intro v hv;cases hv with|func _ _ _ fv cv hf hc hfv hcv=>exact .func f fs cs fv cv hf hc (fun i k1 k2=>ih1 i k1 (hfv i k1 k2)) fun i k1 k2=>ih2 i k1 (hcv i k1 k2)
 |nilFunc=>intro v hv;cases hv;exact .nilFunc
 |iface t v h ih=>intro u hu;cases hu with|iface _ _ u' h'=>exact .iface t v u' (ih h')
 |nilIface=>intro v hv;cases hv;exact .nilIface
 |agg l h ih=>intro v hv;cases hv with|agg _ vs hl hv'=>exact .agg l vs hl fun i k1 k2=>ih i k1 (hv' i k1 k2)
 |tuple l h ih=>intro v hv;cases hv with|tuple _ vs hl hv'=>exact .tuple l vs hl fun i k1 k2=>ih i k1 (hv' i k1 k2)
end
def Qkq(h:AH)(lit act:AV):Prop:=
 ∀(CR:AC→Code→Prop) (B:Nat) (w0:Anchor) (g:Gam) (w:World) (v:Value),HR CR B w0 g h w→VR g act v→VR (QhG w) lit v
def StandsL(h:AH)(ls as:List AV):Prop:=ls.length=as.length∧∀i (h1:i<ls.length) (h2:i<as.length),Qkq h ls[i] as[i]
theorem StandsL.nil(h:AH):StandsL h [] []:=⟨rfl,fun _ h1=>absurd h1 (by simp)⟩
theorem StandsL.cons{h:AH}{x a:AV}{ls as:List AV}(h1:Qkq h x a)(h2:StandsL h ls as):StandsL h (x::ls) (a::as):=by
 refine⟨by simp[h2.1],fun i k1 k2=>?_⟩;cases i with
 |zero=>exact h1
 |succ i=>exact h2.2 i (by simpa using k1) (by simpa using k2)
theorem StandsL.vrs{h:AH}{ls as:List AV}(hs:StandsL h ls as){CR:AC→Code→Prop}{B:Nat}{w0:Anchor}{g:Gam}{w:World}{vs:List Value}(H:HR CR B w0 g h w)(hv:VRs g as vs):VRs (QhG w) ls vs:=
 ⟨hs.1.trans hv.len,fun i h1 h2=>hs.2 i h1 (by rw[←hs.1];exact h1) CR B w0 g w _ H (hv.val i (by rw[←hs.1];exact h1) h2)⟩
theorem QaX{h:AH}{lit act:AV}(hc:Closed lit)(e:lit=act):Qkq h lit act:=by
 subst e;intro CR B w0 g w v H hv;exact VR.whole (fun β o v hm=>H.mem β o v hm) hc hv
def Qkp(l:List (List AV)):Bool:=@List.rec (List AV) (fun _=>Bool) true (fun x r _=>List.all r fun y=>Nat.beq (List.length y) (List.length x)) l
def vecAt(l:List (List AV))(ih:T8 KO→List AV→(List AV→Bool)→Bool)(t:T8 KO)(b o n:Nat):Bool:=
 ifF (Nat.beq n (List.length l)) (natF (List.length (List.flatten l)) fun k=>objK b t fun ob=>cellsD ob fun m r=>ifF (Nat.ble (Nat.add o k) m) (readK k o r fun xs=>ih t xs fun _=>true))
abbrev MLK:Type:=T8 KO→List AV→(List AV→Bool)→Bool
def mPtr(l:List AV)(ih:MLK)(t:T8 KO)(a:AV):Bool:=
 ptrD a (fun b o=>objK b t fun ob=>cellsD ob fun n r=>natF (List.length l) fun k=>ifF (Nat.ble (Nat.add o k) n) (readK k o r fun xs=>ih t xs fun _=>true)) (fun l'=>ih t l' fun rest=>nilD AV rest true)
def mVec(l:List (List AV))(ih:MLK)(t:T8 KO)(a:AV):Bool:=
 ifF (Qkp l) (QdU a false false (fun b o n _=>vecAt l ih t b o n) (fun b o n _=>ifF (Nat.blt 0 n) (vecAt l ih t b o n)) (fun l'=>ifF (Nat.beq (List.length l') (List.length l)) (ifF (Qkp (l++l')) (ih t (List.flatten l') fun rest=>nilD AV rest true))))
def mFunc(f:FuncId)(ih1 ih2:MLK)(t:T8 KO)(a:AV):Bool:=
 funcD a (fun f' fs' cs'=>ifF (Nat.beq f f') (ih1 t fs' fun rest=>nilD AV rest (ih2 t cs' fun rest=>nilD AV rest true))) (fun _=>false)
def QjK(ty:TypeId)(ih:T8 KO→AV→Bool)(t:T8 KO)(a:AV):Bool:=QjZ a (fun ty' v'=>ifF (Nat.beq ty ty') (ih t v')) false
def mAgg(ih:MLK)(t:T8 KO)(a:AV):Bool:=aggD a fun l'=>ih t l' fun rest=>nilD AV rest true
def QjJ(ih:MLK)(t:T8 KO)(a:AV):Bool:=Qnh a fun l'=>ih t l' fun rest=>nilD AV rest true
def mCons(ihx:T8 KO→AV→Bool)(ihl:MLK):MLK:=fun t xs k=>@List.rec AV (fun _=>Bool) false (fun y ys _=>ifF (ihx t y) (ihl t ys k)) xs
def QnT(ihx ihl:MLK):MLK:=fun t xs k=>ihx t xs fun rest=>ihl t rest k
def mNil:MLK:=fun _ xs k=>k xs
def QjG:AV→T8 KO→AV→Bool:=
 @AV.rec (fun _=>T8 KO→AV→Bool) (fun _=>MLK) (fun _=>MLK)
  (fun _ _=>true) (fun b _ a=>sameK (.bool b) a) (fun k n _ a=>sameK (.int k n) a) (fun n b _ a=>sameK (.str n b) a) (fun _ a=>sameK .nilptr a) (fun _ _ _ _=>false) (fun l ih=>mPtr l ih)
  (fun _ a=>sameK .nilslice a) (fun _ a=>sameK .empty a) (fun _ _ _ _ _ _=>false) (fun _ _ _ _ _ _=>false) (fun l ih=>mVec l ih) (fun _ a=>sameK .nilmap a) (fun _ _ _=>false)
  (fun f _ _ ih1 ih2=>mFunc f ih1 ih2) (fun _ _ _=>false) (fun _ a=>sameK .nilFunc a) (fun ty _ ih=>QjK ty ih) (fun _ a=>sameK .nilIface a) (fun _ ih=>mAgg ih) (fun _ ih=>QjJ ih)
  mNil (fun _ _ ihx ihl=>mCons ihx ihl) mNil (fun _ _ ihx ihl=>QnT ihx ihl)
def QbE:List AV→MLK:=
 @AV.rec_1 (fun _=>T8 KO→AV→Bool) (fun _=>MLK) (fun _=>MLK)
  (fun _ _=>true) (fun b _ a=>sameK (.bool b) a) (fun k n _ a=>sameK (.int k n) a) (fun n b _ a=>sameK (.str n b) a) (fun _ a=>sameK .nilptr a) (fun _ _ _ _=>false) (fun l ih=>mPtr l ih)
  (fun _ a=>sameK .nilslice a) (fun _ a=>sameK .empty a) (fun _ _ _ _ _ _=>false) (fun _ _ _ _ _ _=>false) (fun l ih=>mVec l ih) (fun _ a=>sameK .nilmap a) (fun _ _ _=>false)
  (fun f _ _ ih1 ih2=>mFunc f ih1 ih2) (fun _ _ _=>false) (fun _ a=>sameK .nilFunc a) (fun ty _ ih=>QjK ty ih) (fun _ a=>sameK .nilIface a) (fun _ ih=>mAgg ih) (fun _ ih=>QjJ ih)
  mNil (fun _ _ ihx ihl=>mCons ihx ihl) mNil (fun _ _ ihx ihl=>QnT ihx ihl)
def Qgw:List (List AV)→MLK:=
 @AV.rec_2 (fun _=>T8 KO→AV→Bool) (fun _=>MLK) (fun _=>MLK)
  (fun _ _=>true) (fun b _ a=>sameK (.bool b) a) (fun k n _ a=>sameK (.int k n) a) (fun n b _ a=>sameK (.str n b) a) (fun _ a=>sameK .nilptr a) (fun _ _ _ _=>false) (fun l ih=>mPtr l ih)
  (fun _ a=>sameK .nilslice a) (fun _ a=>sameK .empty a) (fun _ _ _ _ _ _=>false) (fun _ _ _ _ _ _=>false) (fun l ih=>mVec l ih) (fun _ a=>sameK .nilmap a) (fun _ _ _=>false)
  (fun f _ _ ih1 ih2=>mFunc f ih1 ih2) (fun _ _ _=>false) (fun _ a=>sameK .nilFunc a) (fun ty _ ih=>QjK ty ih) (fun _ a=>sameK .nilIface a) (fun _ ih=>mAgg ih) (fun _ ih=>QjJ ih)
  mNil (fun _ _ ihx ihl=>mCons ihx ihl) mNil (fun _ _ ihx ihl=>QnT ihx ihl)
theorem QbW{v w:AV}(h:sameK v w=true):v=w:=AV.same_eq 20 v w (Qir h)
theorem Qdl{l:List AV}{k:Bool}(h:nilD AV l k=true):l=[]∧k=true:=QbN h
theorem Qko{l:List (List AV)}(h:Qkp l=true):∃sz,∀i (h1:i<l.length),l[i].length=sz:=by
 cases l with
 |nil=>exact⟨0,fun i h1=>absurd h1 (by simp)⟩
 |cons x r =>
  refine⟨x.length,fun i h1=>?_⟩;cases i with
  |zero=>rfl
  |succ i =>
   have h':(List.all r fun y=>Nat.beq (List.length y) (List.length x))=true:=h;exact Nat.eq_of_beq_eq_true (List.all_eq_true.1 h' _ (List.getElem_mem (by simpa using h1)))
def LSays(h:AH)(ls:List AV)(f:MLK)(t:T8 KO):Prop:=∀xs k,f t xs k=true→∃ys rest,xs=ys++rest∧StandsL h ls ys∧k rest=true
def VSays(h:AH)(ls:List (List AV))(f:MLK)(t:T8 KO):Prop:=∀xs k,f t xs k=true→∃(yss:List (List AV)) (rest:List AV),xs=yss.flatten++rest∧yss.length=ls.length∧(∀i (h1:i<ls.length) (h2:i<yss.length),StandsL h ls[i] yss[i])∧k rest=true
theorem QdI{sz:Nat}:∀{yss:List (List AV)}(_:∀i (h1:i<yss.length),yss[i].length=sz)(i:Nat)(h1:i<yss.length)(j:Nat)(h2:j<yss[i].length),yss.flatten[i*sz+j]? = some yss[i][j]
 |y::yss,hz,0,_,j,h2=>by
  have h2':j<y.length:=h2;simp only[List.flatten_cons,Nat.zero_mul,Nat.zero_add];rw[List.getElem?_append_left h2',gE h2'];rfl
 |y::yss,hz,i+1,h1,j,h2=>by
  have hy:y.length=sz:=hz 0 (by simp);simp only[List.flatten_cons];rw[List.getElem?_append_right (by rw[hy,Nat.succ_mul];omega),hy,show (i+1)*sz+j-sz=i*sz+j by rw[Nat.succ_mul];omega];exact QdI (fun k hk=>hz (k+1) (by simpa using hk)) i (by simpa using h1) j h2
theorem Qc3{sz:Nat}:∀{yss:List (List AV)}(_:∀i (h1:i<yss.length),yss[i].length=sz),yss.flatten.length=yss.length*sz
 | [],_=>by simp
 |y::yss,hz=>by
  have hy:y.length=sz:=hz 0 (by simp);rw[List.flatten_cons,List.length_append,hy,Qc3 (fun k hk=>hz (k+1) (by simpa using hk)),List.length_cons,Nat.succ_mul];omega
theorem QlG{nx:Nat}{t:T8 KO}{l:List (List AV)}{ih:MLK}(hih:VSays (absH nx t) l ih t)(hl:Qkp l=true){b o n:Nat}(h:vecAt l ih t b o n=true) :
  n=l.length∧∀(CR:AC→Code→Prop)(B:Nat)(w0:Anchor)(g:Gam)(w:World)(β base c:Nat),HR CR B w0 g (absH nx t) w→g.rho b=some (β,base)→n≤c→VR (QhG w) (.vec l) (.slice (some ⟨β,base+o,none⟩) n c):=by
 unfold vecAt at h
 replace h:=Qac h;obtain⟨h1,h⟩:=h
 have hn:n=l.length:=Nat.eq_of_beq_eq_true h1;refine⟨hn,?_⟩;rw[Qas,QaG]at h;split at h
 case h_2=>cases h
 rename_i ob hob;rw[QbJ]at h;split at h
 case h_2=>cases h
 rename_i m r hrow
 replace h:=Qac h;obtain⟨h2,h⟩:=h
 rw[Qbd]at h;obtain⟨yss,rest,e1,e2,e3,_⟩:=hih _ _ h;have hrd:=Qcl (nx:=nx) hob hrow (i:=o) (k:=l.flatten.length) (Nat.le_of_ble_eq_true h2);obtain⟨sz,hsz⟩:=Qko hl;have hysz:∀i (k1:i<yss.length),yss[i].length=sz:=fun i k1=>by rw[←(e3 i (by rw[←e2];exact k1) k1).1];exact hsz i _
 have hlen:yss.flatten.length=l.flatten.length:=by rw[Qc3 hysz,Qc3 hsz,e2]
 have hrest:(readL l.flatten.length o r).length=l.flatten.length:=by simp[readL]
 have hr0:rest=[]:=by
  have:(yss.flatten++rest).length=l.flatten.length:=by rw[←e1];exact hrest
  rw[List.length_append,hlen]at this;exact List.length_eq_zero_iff.1 (by omega)
 subst hr0;rw[List.append_nil]at e1;intro CR B w0 g w β base c H hr hc;rw[e1]at hrd;obtain⟨vs,hvs,hvl,hcells⟩:=H.read hr hrd;subst hn;have hvslen:vs.length=l.length*sz:=by rw[hvl,Qc3 hsz]
 have hidx:∀i,i<l.length→∀j,j<sz→i*sz+j<vs.length:=by
  intro i hi j hj;rw[hvslen];have:(i+1)*sz≤l.length*sz:=Nat.mul_le_mul_right _ hi;rw[Nat.succ_mul]at this;omega
 refine .vec l ((List.range l.length).map fun i=>(vs.drop (i*sz)).take sz) β (base+o) c sz (by simp) hc hsz ?_ ?_ ?_
 ·intro i k1;simp only[List.length_map,List.length_range]at k1;simp only[List.getElem_map,List.getElem_range,List.length_take,List.length_drop];have:(i+1)*sz≤l.length*sz:=Nat.mul_le_mul_right _ k1;rw[Nat.succ_mul]at this;omega
 ·intro i k1 k2 j k3 k4;have hj:j<sz:=by rw[←hsz i k1];exact k3
  have hi2:i<yss.length:=by rw[e2];exact k1
  have hj2:j<yss[i].length:=by rw[hysz i hi2];exact hj
  have hst:=(e3 i k1 hi2).2 j k3 hj2;have hlt:=hidx i k1 j hj;have hfl:i*sz+j<yss.flatten.length:=by rw[hvs.len];exact hlt
  have hv:=hvs.val (i*sz+j) hfl hlt;have ev:yss.flatten[i*sz+j]=yss[i][j]:=by
   have:=QdI hysz i hi2 j hj2;rw[gE hfl]at this;exact Option.some.inj this
  rw[ev]at hv;have:=hst CR B w0 g w _ H hv;simpa using this
 ·intro i k1 j k4;simp only[List.length_map,List.length_range]at k1;simp only[List.getElem_map,List.getElem_range,List.length_take,List.length_drop]at k4;have hj:j<sz:=by omega
  have hlt:=hidx i k1 j hj;have:=hcells (i*sz+j) vs[i*sz+j] (gE hlt);show w.cell? _=_;rw[show base+o+i*sz+j=base+o+(i*sz+j) by omega,this];simp
theorem match_ok(nx:Nat)(t:T8 KO):∀lit act,QjG lit t act=true→Qkq (absH nx t) lit act:=by
 intro lit;refine @AV.rec (fun lit=>∀act,QjG lit t act=true→Qkq (absH nx t) lit act) (fun ls=>LSays (absH nx t) ls (QbE ls) t) (fun ls=>VSays (absH nx t) ls (Qgw ls) t)
  ?_ ?_ ?_ ?_ ?_ ?_ ?_ ?_ ?_ ?_ ?_ ?_ ?_ ?_ ?_ ?_ ?_ ?_ ?_ ?_ ?_ ?_ ?_ ?_ ?_ lit
 ·intro act _ CR B w0 g w v _ _;exact .undef v
 ·intro b act h;exact QaX (.bool b) (QbW h)
 ·intro k n act h;exact QaX (.int k n) (QbW h)
 ·intro n b act h;exact QaX (.str n b) (QbW h)
 ·intro act h;exact QaX .nilptr (QbW h)
 ·intro b o act h;cases h
 ·intro l ih act h;have h':mPtr l (QbE l) t act=true:=h;unfold mPtr at h';rw[Qct]at h';split at h'
  ·rename_i b o;rw[QaG]at h';split at h'
   case h_2=>cases h'
   rename_i ob hob;rw[QbJ]at h';split at h'
   case h_2=>cases h'
   rename_i m r hrow;rw[Qas]at h'
   replace h':=Qac h';obtain⟨h2,h'⟩:=h'
   rw[Qbd]at h';obtain⟨ys,rest,e1,e2,_⟩:=ih _ _ h';have hrd:=Qcl (nx:=nx) hob hrow (i:=o) (k:=l.length) (Nat.le_of_ble_eq_true h2);have hlen:(readL l.length o r).length=l.length:=by simp[readL]
   have hr0:rest=[]:=by
    have:(ys++rest).length=l.length:=by rw[←e1];exact hlen
    rw[List.length_append,←e2.1]at this;exact List.length_eq_zero_iff.1 (by omega)
   subst hr0;rw[List.append_nil]at e1;rw[e1]at hrd;intro CR B w0 g w v H hv;cases hv with
   |ptr _ _ β base hr =>
    obtain⟨vs,hvs,hvl,hcells⟩:=H.read hr hrd;have:=e2.vrs H hvs;refine .iptr l vs β (base+o) this.len this.val fun i h2=>?_
    have:=hcells i vs[i] (gE h2);exact this
  ·rename_i l';obtain⟨ys,rest,rfl,e2,h'⟩:=ih _ _ h';obtain⟨rfl,_⟩:=Qdl h';rw[List.append_nil];intro CR B w0 g w v H hv;cases hv with
   |iptr _ vs β o hl hv' hm =>
    have:=e2.vrs (vs:=vs) H ⟨hl,hv'⟩;exact .iptr l vs β o this.len this.val fun i h2=>H.mem _ _ _ (hm i h2)
  ·cases h'
 ·intro act h;exact QaX .nilslice (QbW h)
 ·intro act h;exact QaX .empty (QbW h)
 ·intro b o n c act h;cases h
 ·intro b o n es act h;cases h
 ·intro l ih act h;have h':mVec l (Qgw l) t act=true:=h;unfold mVec at h'
  replace h':=Qac h';obtain⟨h1,h'⟩:=h'
  rw[Qbp]at h';intro CR B w0 g w v H hv;cases hv with
  |sliceC b o n c β base hr hn =>
   obtain⟨rfl,h3⟩:=QlG ih h1 h';exact h3 CR B w0 g w β base c H hr hn
  |sliceN b o n es c β base a hr hn ha ht =>
   have h'':ifF (Nat.blt 0 n) (vecAt l (Qgw l) t b o n)=true:=h'
   replace h'':=Qac h'';obtain⟨h0,h''⟩:=h''
   obtain⟨rfl,h3⟩:=QlG ih h1 h'';have h0':0<l.length:=Nat.blt_eq.mp h0;rcases ha with rfl|rfl
   ·omega
   ·exact h3 CR B w0 g w β base c H hr hn
  |vec l' vs β o c sz0 hl hn hz hz' hv' hm =>
   have h'':ifF (Nat.beq (List.length l') (List.length l)) (ifF (Qkp (l++l')) (Qgw l t (List.flatten l') fun rest=>nilD AV rest true))=true:=h'
   replace h'':=Qac h'';obtain⟨h2,h''⟩:=h''
   replace h'':=Qac h'';obtain⟨h3,h''⟩:=h''
   have hll:l'.length=l.length:=Nat.eq_of_beq_eq_true h2;obtain⟨sz,hsz⟩:=Qko h3;have hszl:∀i (k1:i<l.length),l[i].length=sz:=fun i k1=>by
    have:=hsz i (by rw[List.length_append];omega)
    rwa [List.getElem_append_left k1]at this
   have hszl':∀i (k1:i<l'.length),l'[i].length=sz:=fun i k1=>by
    have:=hsz (l.length+i) (by rw[List.length_append];omega);rw[List.getElem_append_right (by omega)]at this;simpa using this
   obtain⟨yss,rest,e1,e2,e3,h''⟩:=ih _ _ h'';obtain⟨rfl,_⟩:=Qdl h'';rw[List.append_nil]at e1;have hysz:∀i (k1:i<yss.length),yss[i].length=sz:=fun i k1=>by rw[←(e3 i (by rw[←e2];exact k1) k1).1];exact hszl i _
   rw[hll];refine .vec l vs β o c sz (by omega) (by omega) hszl (fun i k1=>?_) (fun i k1 k2 j k3 k4=>?_) (fun i k1 j k4=>?_)
   ·rw[hz' i k1,←hz i (by omega)];exact hszl' i (by omega)
   ·have hj:j<sz:=by rw[←hszl i k1];exact k3
    have hi2:i<yss.length:=by omega
    have hi3:i<l'.length:=by omega
    have hj2:j<yss[i].length:=by rw[hysz i hi2];exact hj
    have hj3:j<l'[i].length:=by rw[hszl' i hi3];exact hj
    have hst:=(e3 i k1 hi2).2 j k3 hj2;have f1:=QdI hysz i hi2 j hj2;have f2:=QdI hszl' i hi3 j hj3;rw[←e1,f2]at f1;have f3:l'[i][j]=yss[i][j]:=Option.some.inj f1;rw[←f3]at hst;exact hst CR B w0 g w _ H (hv' i hi3 k2 j hj3 k4)
   ·have e4:sz0=sz:=by rw[←hz i (by omega)];exact hszl' i (by omega)
    have:=H.mem _ _ _ (hm i k1 j k4);rw[e4]at this;exact this
  |_=>cases h'
 ·intro act h;exact QaX .nilmap (QbW h)
 ·intro b act h;cases h
 ·intro f fs cs ih1 ih2 act h;have h':mFunc f (QbE fs) (QbE cs) t act=true:=h;unfold mFunc at h';rw[QfN]at h';split at h'
  ·rename_i f' fs' cs'
   replace h':=Qac h';obtain⟨h1,h'⟩:=h'
   obtain rfl:f=f':=Nat.eq_of_beq_eq_true h1;obtain⟨ys,rest,rfl,e2,h'⟩:=ih1 _ _ h';obtain⟨rfl,h'⟩:=Qdl h';obtain⟨zs,rest,rfl,e4,h'⟩:=ih2 _ _ h';obtain⟨rfl,_⟩:=Qdl h';rw[List.append_nil,List.append_nil];intro CR B w0 g w v H hv;cases hv with
   |func _ _ _ fv cv hf hc hfv hcv =>
    have a1:=e2.vrs (vs:=fv.toList) H ⟨by simpa using hf,fun i k1 k2=>by simpa using hfv i k1 (by simpa using k2)⟩;have a2:=e4.vrs (vs:=cv.toList) H ⟨by simpa using hc,fun i k1 k2=>by simpa using hcv i k1 (by simpa using k2)⟩;exact .func f fs cs fv cv (by simpa using a1.len) (by simpa using a2.len) (fun i k1 k2=>a1.val i k1 (by simpa using k2)) (fun i k1 k2=>a2.val i k1 (by simpa using k2))
  ·cases h'
  ·cases h'
 ·intro l act h;cases h
 ·intro act h;exact QaX .nilFunc (QbW h)
 ·intro ty v ih act h;have h':QjK ty (QjG v) t act=true:=h;unfold QjK at h';rw[QgP]at h';split at h'
  ·rename_i ty' v'
   replace h':=Qac h';obtain⟨h1,h'⟩:=h'
   obtain rfl:ty=ty':=Nat.eq_of_beq_eq_true h1;intro CR B w0 g w u H hv;cases hv with
   |iface _ _ u' hu=>exact .iface ty v u' (ih _ h' CR B w0 g w u' H hu)
  ·cases h'
  ·cases h'
 ·intro act h;exact QaX .nilIface (QbW h)
 ·intro l ih act h;have h':mAgg (QbE l) t act=true:=h;unfold mAgg at h';rw[Qlv]at h';split at h'
  ·rename_i l';obtain⟨ys,rest,rfl,e2,h'⟩:=ih _ _ h';obtain⟨rfl,_⟩:=Qdl h';rw[List.append_nil];intro CR B w0 g w u H hv;cases hv with
   |agg _ vs hl hv' =>
    have a1:=e2.vrs (vs:=vs.toList) H ⟨by simpa using hl,fun i k1 k2=>by simpa using hv' i k1 (by simpa using k2)⟩;exact .agg l vs (by simpa using a1.len) fun i k1 k2=>a1.val i k1 (by simpa using k2)
  ·cases h'
 ·intro l ih act h;have h':QjJ (QbE l) t act=true:=h;unfold QjJ at h';rw[Qjd]at h';split at h'
  ·rename_i l';obtain⟨ys,rest,rfl,e2,h'⟩:=ih _ _ h';obtain⟨rfl,_⟩:=Qdl h';rw[List.append_nil];intro CR B w0 g w u H hv;cases hv with
   |tuple _ vs hl hv' =>
    have a1:=e2.vrs (vs:=vs.toList) H ⟨by simpa using hl,fun i k1 k2=>by simpa using hv' i k1 (by simpa using k2)⟩;exact .tuple l vs (by simpa using a1.len) fun i k1 k2=>a1.val i k1 (by simpa using k2)
  ·cases h'
 ·intro xs k h;exact⟨[],xs,rfl,StandsL.nil _,h⟩
 ·intro x ls ihx ihl xs k h;cases xs with
  |nil=>cases h
  |cons y ys =>
   have h':ifF (QjG x t y) (QbE ls t ys k)=true:=h
   replace h':=Qac h';obtain⟨h1,h'⟩:=h'
   obtain⟨zs,rest,rfl,e2,e3⟩:=ihl _ _ h';exact⟨y::zs,rest,rfl,StandsL.cons (ihx _ h1) e2,e3⟩
 ·intro xs k h;exact⟨[],xs,rfl,rfl,fun i h1=>absurd h1 (by simp),h⟩
 ·intro x ls ihx ihl xs k h;have h':QbE x t xs (fun rest=>Qgw ls t rest k)=true:=h;obtain⟨ys,rest,rfl,e2,h'⟩:=ihx _ _ h';obtain⟨yss,rest',rfl,e3,e4,e5⟩:=ihl _ _ h';refine⟨ys::yss,rest',by simp,by simp[e3],fun i k1 k2=>?_,e5⟩;cases i with
  |zero=>exact e2
  |succ i=>exact e4 i (by simpa using k1) (by simpa using k2)
theorem Qgx(nx:Nat)(t:T8 KO):∀(ls xs:List AV)(k:List AV→Bool),QbE ls t xs k=true→∃ys rest,xs=ys++rest∧StandsL (absH nx t) ls ys∧k rest=true
 | [],xs,k,h=>⟨[],xs,rfl,StandsL.nil _,h⟩
 |x::ls,[],k,h=>by cases h
 |x::ls,y::ys,k,h=>by
  have h':ifF (QjG x t y) (QbE ls t ys k)=true:=h
  replace h':=Qac h';obtain⟨h1,h'⟩:=h'
  obtain⟨zs,rest,rfl,e2,e3⟩:=Qgx nx t ls ys k h';exact⟨y::zs,rest,rfl,StandsL.cons (match_ok nx t x y h1) e2,e3⟩
def Qi4:AV→Bool:=
 @AV.rec (fun _=>Bool) (fun _=>Bool) (fun _=>Bool) true (fun _=>true) (fun _ _=>true) (fun _ _=>true) true (fun _ _=>false) (fun _ ih=>ih) true true (fun _ _ _ _=>false) (fun _ _ _ _=>false) (fun _ ih=>ih)
  true (fun _=>false) (fun _ _ _ a b=>ifF a b) (fun _=>false) true (fun _ _ ih=>ih) true (fun _ ih=>ih) (fun _ ih=>ih) true (fun _ _ a b=>ifF a b) true (fun _ _ a b=>ifF a b)
def QbY:List AV→Bool:=
 @AV.rec_1 (fun _=>Bool) (fun _=>Bool) (fun _=>Bool) true (fun _=>true) (fun _ _=>true) (fun _ _=>true) true (fun _ _=>false) (fun _ ih=>ih) true true (fun _ _ _ _=>false) (fun _ _ _ _=>false) (fun _ ih=>ih)
  true (fun _=>false) (fun _ _ _ a b=>ifF a b) (fun _=>false) true (fun _ _ ih=>ih) true (fun _ ih=>ih) (fun _ ih=>ih) true (fun _ _ a b=>ifF a b) true (fun _ _ a b=>ifF a b)
def Qmf:List (List AV)→Bool:=
 @AV.rec_2 (fun _=>Bool) (fun _=>Bool) (fun _=>Bool) true (fun _=>true) (fun _ _=>true) (fun _ _=>true) true (fun _ _=>false) (fun _ ih=>ih) true true (fun _ _ _ _=>false) (fun _ _ _ _=>false) (fun _ ih=>ih)
  true (fun _=>false) (fun _ _ _ a b=>ifF a b) (fun _=>false) true (fun _ _ ih=>ih) true (fun _ ih=>ih) (fun _ ih=>ih) true (fun _ _ a b=>ifF a b) true (fun _ _ a b=>ifF a b)
theorem Qm1(a:AV):Qi4 a=true→Closed a:=by
 refine @AV.rec (fun a=>Qi4 a=true→Closed a) (fun l=>QbY l=true→∀i (h1:i<l.length),Closed l[i]) (fun l=>Qmf l=true→∀i (h1:i<l.length) j (h2:j<l[i].length),Closed l[i][j])
  ?_ ?_ ?_ ?_ ?_ ?_ ?_ ?_ ?_ ?_ ?_ ?_ ?_ ?_ ?_ ?_ ?_ ?_ ?_ ?_ ?_ ?_ ?_ ?_ ?_ a
 ·exact fun _=>.undef
 ·exact fun b _=>.bool b
 ·exact fun k n _=>.int k n
 ·exact fun n b _=>.str n b
 ·exact fun _=>.nilptr
 ·intro b o h;cases h
 ·exact fun l ih h=>.iptr l (ih h)
 ·exact fun _=>.nilslice
 ·exact fun _=>.empty
 ·intro b o n c h;cases h
 ·intro b o n c h;cases h
 ·exact fun l ih h=>.vec l (ih h)
 ·exact fun _=>.nilmap
 ·intro b h;cases h
 ·intro f a b iha ihb h;obtain⟨h1,h2⟩:=Qac (b:=QbY a) (k:=QbY b) h;exact .func f a b (iha h1) (ihb h2)
 ·intro b h;cases h
 ·exact fun _=>.nilFunc
 ·exact fun t v ih h=>.iface t v (ih h)
 ·exact fun _=>.nilIface
 ·exact fun l ih h=>.agg l (ih h)
 ·exact fun l ih h=>.tuple l (ih h)
 ·intro _ i h1;exact absurd h1 (by simp)
 ·intro x l ihx ihl h i h1;obtain⟨h2,h3⟩:=Qac (b:=Qi4 x) (k:=QbY l) h;cases i with
  |zero=>exact ihx h2
  |succ i=>exact ihl h3 i (by simpa using h1)
 ·intro _ i h1;exact absurd h1 (by simp)
 ·intro x l ihx ihl h i h1 j h2;obtain⟨h3,h4⟩:=Qac (b:=QbY x) (k:=Qmf l) h;cases i with
  |zero=>exact ihx h3 j h2
  |succ i=>exact ihl h4 i (by simpa using h1) j h2
theorem Qg8:∀{l:List AV},QbY l=true→∀i (h1:i<l.length),Closed l[i]
 |x::l,h,i,h1=>by
  obtain⟨h2,h3⟩:=Qac (b:=Qi4 x) (k:=QbY l) h;cases i with
  |zero=>exact Qm1 x h2
  |succ i=>exact Qg8 h3 i (by simpa using h1)
def inK(alts:List (List AV))(r:AV)(a':List AV):KCall:=fun nx t k =>
 @List.rec (List AV) (fun _=>Bool) false (fun x _ ih=>iteF (QbE x t a' fun rest=>nilD AV rest true) (k r nx t) ih) alts
open Classical in
def inA(alts:List (List AV))(r:AV)(a':List AV):AH→Option (AV×AH):=fun h=>if ∃x,x∈alts∧StandsL h x a' then some (r,h) else none
theorem inK_ok(alts:List (List AV))(r:AV)(a':List AV):QbV (inK alts r a') (inA alts r a'):=by
 intro nx t k he;have key:∀l:List (List AV),inK l r a' nx t k=true→(∃x,x∈l∧StandsL (absH nx t) x a')∧k r nx t=true:=by
  intro l
  induction l with
  |nil=>intro h;cases h
  |cons x l ih =>
   intro h;have h':iteF (QbE x t a' fun rest=>nilD AV rest true) (k r nx t) (inK l r a' nx t k)=true:=h;rw[Qaw]at h';split at h'
   ·rename_i hm;obtain⟨ys,rest,rfl,e2,e3⟩:=Qgx nx t x a' _ hm;obtain⟨rfl,_⟩:=Qdl e3;rw[List.append_nil];exact⟨⟨x,by simp,e2⟩,h'⟩
   ·obtain⟨⟨y,hy,e⟩,h2⟩:=ih h';exact⟨⟨y,by simp[hy],e⟩,h2⟩
 obtain⟨h1,h2⟩:=key alts he;refine⟨r,nx,t,?_,h2⟩;unfold inA;rw[if_pos h1]
def onFn{α:Type}(f:FuncId)(yes no:Option α)(f':FuncId):Option α:=@Bool.rec (fun _=>Option α) no yes (Nat.beq f' f)
def kmIn(f:FuncId)(alts:List (List AV))(r:AV)(M:KMemo):KMemo:={
 has:=fun f'=>hasOr f (M.has f') f'
 hasNot:=fun f' h args'=>by
  obtain⟨h1,h2⟩:=QaZ h;show onFn f (some (inA alts r args')) (M.abs f' args') f'=none;unfold onFn;rw[h1];exact M.hasNot f' h2 args'
 run:=fun f' a'=>onFn f (some (inK alts r a')) (M.run f' a') f'
 abs:=fun f' a'=>onFn f (some (inA alts r a')) (M.abs f' a') f'
 ok:=by
  intro f' a';unfold onFn;cases hf:Nat.beq f' f with
  |false=>exact M.ok f' a'
  |true=>exact⟨fun h=>(by cases h),fun kc h=>(by cases h;exact⟨_,rfl,inK_ok alts r a'⟩)⟩}
section
variable{P:Program}{G:Nat→Option (List AV)}
variable{K:World→Prop}
theorem Qd9{F:FuncId→Option AFun}{M M0:KMemo}(hF:FunOk P G F)(hGc:Qen G)(hM0:Qao K P G (absM M0))(hM:Qao K P G (absM M)){f:FuncId}{alts:List (List AV)}{r:AV}{fuel:Nat}(hr:r.plain=true)
  (hrun:∀x,x∈alts→QbY x=true∧∀z:Bool,Qan F f x .normal [] 0 .nil (loopK F M0 (fun ks=>iteF (endOk F f r [] [] ks) z false) fuel)=z):Qao K P G (absM (kmIn f alts r M)):=by
 intro f' args' c' hm B w0 g hh w vs v h' hv H hG hvs hK;have hm':onFn f (some (inA alts r args')) (M.abs f' args') f'=some c':=hm;unfold onFn at hm';cases hf:Nat.beq f' f with
 |false=>rw[hf]at hm';exact hM f' args' c' hm' B w0 g hh w vs v h' hv H hG hvs hK
 |true =>
  rw[hf]at hm';obtain rfl:f'=f:=Nat.eq_of_beq_eq_true hf;have hm2:some (inA alts r args')=some c':=hm';cases hm2;unfold inA at hv;split at hv
  ·rename_i hex;cases hv;obtain⟨x,hx,hst⟩:=hex;obtain⟨hcl,hrx⟩:=hrun x hx;have hG0:GlobR G (QhG w):=fun n l hl=>VR.whole (fun β o v hm=>H.mem β o v hm) (hGc n l hl) (hG n l hl)
   obtain⟨h1,h2⟩:=Qey hF hM0 hGc (sel:=[]) (os:=[]) (c:=fun _=>(r,[])) hrx (Qg8 hcl) List.nodup_nil (fun n=>QfV hr n) (Ql1 w) hG0 (hst.vrs H hvs) hK;refine .inl ⟨h1,fun C=>?_⟩;obtain⟨e,w',fr,⟨u,g',rfl,hu,H'⟩,rest⟩:=h2 C;refine⟨_,w',fr,⟨u,g,rfl,?_,H.grow H'.1.below,Gam.le_refl g⟩,rest⟩;cases r<;>first|(cases hr;done)|(cases hu;first|exact .bool _|exact .int _ _|exact .str _ _ ‹_›)
  ·cases hv
end
end
end Go.Ab

/- A part of a proof. -/
import Derived.Lib.MakeNoZero
import Derived.Sort.KeysCollected
import Derived.Maps.Own
import Derived.Sort.EncStr
import Derived.Test.YthiiaehlmfbeoaaGreatDoorKaFtoKaN
import Derived.Test.YthiiaehlmfbeoaaGreatDoorKD26
import Derived.Test.YthiiaehlmfbeoaaGreatDoorEB26
set_option linter.all false
namespace Go.Ab
open Go Go.RowKit
noncomputable section
section
variable{P:Program}{G:Nat→Option (List AV)}
variable{K:World→Prop}
def sameA(v:AV):AH→Option (AV×AH):=fun h=>some (v,h)
def sameC(v:AV):KCall:=fun nx t k=>k v nx t
theorem sameC_ok(v:AV):QbV (sameC v) (sameA v):=fun nx t _ he=>⟨_,nx,t,rfl,he⟩
def Qbw{α:Type}(f:FuncId)(yes:AV→α)(no:Option α)(f':FuncId)(a':List AV):Option α:=
 @Bool.rec (fun _=>Option α) no (match a' with|[v]=>some (yes v)|_=>no) (Nat.beq f' f)
theorem Qcm{α:Type}(f:FuncId)(yes:AV→α)(no:Option α)(f':FuncId)(a':List AV):Qbw f yes no f' a'=no∨∃v,f'=f∧a'=[v]:=by
 unfold Qbw;cases hf:Nat.beq f' f with
 |false=>exact .inl rfl
 |true =>
  show (match a' with|[v]=>some (yes v)|_=>no)=no∨_;split
  ·rename_i v;exact .inr ⟨v,Nat.eq_of_beq_eq_true hf,rfl⟩
  ·exact .inl rfl
theorem Qb2{α:Type}(f:FuncId)(yes:AV→α)(no:Option α)(v:AV):Qbw f yes no f [v]=some (yes v):=by
 unfold Qbw;have:Nat.beq f f=true:=by simp
 rw[this]
theorem Qjx{α β:Type}{f:FuncId}{yes:AV→α}{yes':AV→β}{no:Option α}{no':Option β}{f':FuncId}{a':List AV} :
  (Qbw f yes no f' a'=no∧Qbw f yes' no' f' a'=no')∨∃v,f'=f∧a'=[v]:=by
 rcases Qcm f yes no f' a' with h1|h1
 ·rcases Qcm f yes' no' f' a' with h2|h2
  ·exact .inl ⟨h1,h2⟩
  ·exact .inr h2
 ·exact .inr h1
def kmSame(f:FuncId)(M:KMemo):KMemo:={
 has:=fun f'=>hasOr f (M.has f') f'
 hasNot:=fun f' h args'=>by
  obtain⟨h1,h2⟩:=QaZ h;have h3:Qbw f sameA (M.abs f' args') f' args'=M.abs f' args':=by unfold Qbw;rw[h1]
  show Qbw f sameA (M.abs f' args') f' args'=none;rw[h3];exact M.hasNot f' h2 args'
 run:=fun f' a'=>Qbw f sameC (M.run f' a') f' a'
 abs:=fun f' a'=>Qbw f sameA (M.abs f' a') f' a'
 ok:=by
  intro f' a';rcases Qjx (f:=f) (yes:=sameC) (yes':=sameA) (no:=M.run f' a') (no':=M.abs f' a') (f':=f') (a':=a') with⟨h1,h2⟩|⟨v,rfl,rfl⟩
  ·rw[h1,h2];exact M.ok f' a'
  ·rw[Qb2,Qb2];exact⟨fun h=>(by cases h),fun kc h=>(by cases h;exact⟨_,rfl,sameC_ok v⟩)⟩}
theorem Qix {M:KMemo} (hM:Qao K P G (absM M)) {f:FuncId} {fn:Func} (hf:P.funcs[f]? = some fn) (hname:(fn.name == "runtime.NumGoroutine")=false) (hb:fn.body.isNone=true) (hn:Extern.findNext fn=none)
    (he:Extern.find fn=some Extern.AbiNoEscape.same):Qao K P G (absM (kmSame f M)):=by
  intro f' args' c' hm B w0 g h w vs v h' hv H hG hvs hK;have hm':Qbw f sameA (M.abs f' args') f' args'=some c':=hm;rcases Qcm f sameA (M.abs f' args') f' args' with h1|⟨x,rfl,rfl⟩
  · rw[h1]at hm';exact hM f' args' c' hm' B w0 g h w vs v h' hv H hG hvs hK
  · rw[Qb2]at hm';cases hm';cases hv;obtain⟨l⟩:=vs;obtain⟨y,rfl⟩:∃y,l=[y]:=by
      have:=hvs.len;simp only[List.length_cons,List.length_nil]at this
      match l,this with
      | [y],_=>exact⟨y,rfl⟩
    have hy:=hvs.head;refine .inr ⟨y,g,w,?_,hy,H,Gam.le_refl g⟩;rw[run_callFunc_extern hf hname hb hn he];rfl
end
end
end Go.Ab
namespace Go.Ab
open Go Go.RowKit
noncomputable section
section
variable{P:Program}{G:Nat→Option (List AV)}
variable{K:World→Prop}
def Qcv(e n:Nat):AH→Option (AV×AH):=fun h=>if n<1000000000000 then some (.slop h.next 0 n 1,h.alloc (.cells (List.replicate n .undef) (some (2*e)) 0 [])) else none
def Qiv(e n:Nat):KCall:=fun nx t k=>ifF (Nat.blt n 1000000000000) (QbD (List.replicate n .undef) (some (2*e)) 0 [] nx t fun nx' t'=>k (.slop nx 0 n 1) nx' t')
theorem QmF(e n:Nat):QbV (Qiv e n) (Qcv e n):=by
 intro nx t k he;unfold Qiv at he
 replace he:=Qac he;obtain⟨h1,he⟩:=he
 obtain⟨t',k1,k2⟩:=QbC (List.replicate n .undef) (some (2*e)) 0 [] nx t fun nx' t'=>k (.slop nx 0 n 1) nx' t'
 rw[k1]at he;refine⟨_,_,t',?_,he⟩;unfold Qcv;rw[if_pos (Nat.blt_eq.mp h1),k2];rfl
theorem QjA{CR:AC→Code→Prop}{B:Nat}{w0:Anchor}{g:Gam}{h:AH}{w:World}(H:HR CR B w0 g h w){ps:Array TypeId}{t e:TypeId}(ht:P.underlying t=some (.slice e)){n:Nat}{vs:Array Value}(hvs:VRs g [.int .i64 n] vs.toList){v:AV}{h':AH}
  (hc:Qcv e n h=some (v,h')) :
  ∃u g' w',(Extern.BytealgMakeNoZero.makeNoZero ps #[t] vs).run P w=.ok u w'∧VR g' v u∧HR CR B w0 g' h' w'∧g.le g':=by
 obtain⟨l⟩:=vs;obtain⟨x,rfl⟩:∃x,l=[x]:=by
  have:=hvs.len;simp only[List.length_cons,List.length_nil]at this
  match l,this with
  | [x],_=>exact⟨x,rfl⟩
 have hx:VR g (.int .i64 n) x:=hvs.head;obtain rfl:=hx.int_eq;unfold Qcv at hc;split at hc
 ·rename_i hn;cases hc;obtain⟨cs,hrun,hcs,_⟩:=Lib.run_makeNoZero (P:=P) w ps t e ht n (by omega);obtain⟨H',hle⟩:=H.drew.drew.allocCells (List.replicate n .undef) (cs.toList.take n) (cs.toList.drop n) e (some (2*e)) (by simp) 1 (fun x h=>by cases h;omega) (VRs.replicate_undef n _ (by simp;omega));rw[List.take_append_drop,Array.toArray_toList]at H';refine⟨_,_,_,hrun,?_,H',hle⟩;refine .sliceN _ _ _ _ _ _ _ _ Gam.bind_rho_same hcs (.inr rfl) ?_;rw[Gam.bind_top_same];simp;omega
 ·cases hc
def Qbh{α:Type}(f:FuncId)(yes:Nat→α)(no:Option α)(f':FuncId)(a':List AV):Option α:=
 @Bool.rec (fun _=>Option α) no (match a' with|[.int .i64 (.ofNat n)]=>some (yes n)|_=>no) (Nat.beq f' f)
theorem Qcu{α:Type}(f:FuncId)(yes:Nat→α)(no:Option α)(f':FuncId)(a':List AV):Qbh f yes no f' a'=no∨∃n:Nat,f'=f∧a'=[.int .i64 n]:=by
 unfold Qbh;cases hf:Nat.beq f' f with
 |false=>exact .inl rfl
 |true =>
  show (match a' with|[.int .i64 (.ofNat n)]=>some (yes n)|_=>no)=no∨_;split
  ·rename_i n;exact .inr ⟨n,Nat.eq_of_beq_eq_true hf,rfl⟩
  ·exact .inl rfl
theorem Qdk{α:Type}(f:FuncId)(yes:Nat→α)(no:Option α)(n:Nat):Qbh f yes no f [.int .i64 (n:Int)]=some (yes n):=by
 unfold Qbh;have:Nat.beq f f=true:=by simp
 rw[this]
theorem QkN{α β:Type}{f:FuncId}{yes:Nat→α}{yes':Nat→β}{no:Option α}{no':Option β}{f':FuncId}{a':List AV} :
  (Qbh f yes no f' a'=no∧Qbh f yes' no' f' a'=no')∨∃n:Nat,f'=f∧a'=[.int .i64 n]:=by
 rcases Qcu f yes no f' a' with h1|h1
 ·rcases Qcu f yes' no' f' a' with h2|h2
  ·exact .inl ⟨h1,h2⟩
  ·exact .inr h2
 ·exact .inr h1
def QlX(f:FuncId)(e:Nat)(M:KMemo):KMemo:={
 has:=fun f'=>hasOr f (M.has f') f'
 hasNot:=fun f' h args'=>by
  obtain⟨h1,h2⟩:=QaZ h;have h3:Qbh f (Qcv e) (M.abs f' args') f' args'=M.abs f' args':=by unfold Qbh;rw[h1]
  show Qbh f (Qcv e) (M.abs f' args') f' args'=none;rw[h3];exact M.hasNot f' h2 args'
 run:=fun f' a'=>Qbh f (Qiv e) (M.run f' a') f' a'
 abs:=fun f' a'=>Qbh f (Qcv e) (M.abs f' a') f' a'
 ok:=by
  intro f' a';rcases QkN (f:=f) (yes:=Qiv e) (yes':=Qcv e) (no:=M.run f' a') (no':=M.abs f' a') (f':=f') (a':=a') with⟨h1,h2⟩|⟨n,rfl,rfl⟩
  ·rw[h1,h2];exact M.ok f' a'
  ·rw[Qdk,Qdk];exact⟨fun h=>(by cases h),fun kc h=>(by cases h;exact⟨_,rfl,QmF e n⟩)⟩}
theorem Qgv {M:KMemo} (hM:Qao K P G (absM M)) {f:FuncId} {fn:Func} {ps:Array TypeId} {t e:TypeId} (ht:P.underlying t=some (.slice e)) (hf:P.funcs[f]? = some fn) (hname:(fn.name == "runtime.NumGoroutine")=false) (hb:fn.body.isNone=true)
    (hn:Extern.findNext fn=none)(he:Extern.find fn=some (Extern.BytealgMakeNoZero.makeNoZero ps #[t])):Qao K P G (absM (QlX f e M)):=by
  intro f' args' c' hm B w0 g h w vs v h' hv H hG hvs hK;have hm':Qbh f (Qcv e) (M.abs f' args') f' args'=some c':=hm;rcases Qcu f (Qcv e) (M.abs f' args') f' args' with h1|⟨n,rfl,rfl⟩
  · rw[h1]at hm';exact hM f' args' c' hm' B w0 g h w vs v h' hv H hG hvs hK
  · rw[Qdk]at hm';cases hm';obtain⟨u,g',w',hrun,hu,H',hle⟩:=QjA (P:=P) (ps:=ps) H ht hvs hv;refine .inr ⟨u,g',w',?_,hu,H',hle⟩;rw[run_callFunc_extern hf hname hb hn he,hrun];rfl
end
end
end Go.Ab
namespace Go.Ab
open Go Go.RowKit Go.Maps Go.Sort
open Go.WideElems (Fit rd rg rd_mk rg_of)
noncomputable section
def keysOf:List (AV×AV×Nat)→Option (List (Nat×Nat))
 | []=>some []
 |(.str n b,_,_)::l=>(keysOf l).map fun r=>(n,b)::r
 |_=>none
def insN(x:Nat×Nat):List (Nat×Nat)→List (Nat×Nat)
 | []=>[x]
 |y::l=>if lessN x.1 x.2 y.1 y.2 then x::y::l else y::insN x l
def sortN:List (Nat×Nat)→List (Nat×Nat)
 | []=>[]
 |x::l=>insN x (sortN l)
def ascN:List (Nat×Nat)→Bool
 |x::y::l=>lessN x.1 x.2 y.1 y.2&&ascN (y::l)
 |_=>true
def Qmj(clock:Nat):List (AV×AV×Nat)→Bool
 |x::y::l=>Nat.blt x.2.2 y.2.2&&Qmj clock (y::l)
 | [x]=>Nat.blt x.2.2 clock
 | []=>true
def QdA(es:List (AV×AV×Nat))(clock:Nat):Option (List (Nat×Nat)):=
 match keysOf es with
 |some l=>if ascN (sortN l)&&Qmj clock es&&l.all (fun x=>Nat.blt x.1 1000000)&&Nat.blt l.length 1000000 then some (sortN l) else none
 |none=>none
def strA(x:Nat×Nat):AV:=.str x.1 x.2
def sortedA(e:Nat)(a:AV):AH→Option (AV×AH):=fun h =>
 match a with
 | .nilmap=>some (.nilslice,h)
 | .map b=>match h.get b with
  |some (.map es clock)=>match QdA es clock with
   |some []=>some (.nilslice,h)
   |some (x::l)=>some (.slop h.next 0 (l.length+1) 1,h.alloc (.cells ((x::l).map strA) (some (2*e)) 0 []))
   |none=>none
  |_=>none
 |_=>none
def Ql6:List (Nat×Nat)→(List AV→Bool)→Bool:=
 @List.rec (Nat×Nat) (fun _=>(List AV→Bool)→Bool) (fun k=>k []) (fun x _ ih k=>natF x.1 fun n=>natF x.2 fun b=>ih fun l=>k (.str n b::l))
theorem Qj6:∀(l:List (Nat×Nat))(k:List AV→Bool),Ql6 l k=k (l.map strA)
 | [],k=>rfl
 |x::l,k=>by
  show (natF x.1 fun n=>natF x.2 fun b=>Ql6 l fun l=>k (.str n b::l))=_;rw[Qas,Qas,Qj6 l];rfl
def Qin(e:Nat)(a:AV):KCall:=fun nx t k =>
 mapD a (k .nilslice nx t) fun b=>objK b t fun o=>mapoD o fun es clock=>optF (QdA es clock) fun ks =>
  @List.rec (Nat×Nat) (fun _=>Bool) (k .nilslice nx t) (fun _ l' _=>natF (List.length l'+1) fun n=>Ql6 ks fun l=>QbD l (some (2*e)) 0 [] nx t fun nx' t'=>k (.slop nx 0 n 1) nx' t') ks
theorem Qmx(e:Nat)(a:AV):QbV (Qin e a) (sortedA e a):=by
 intro nx t k he;simp only[Qin,Qe1]at he;split at he
 ·exact⟨_,nx,t,rfl,he⟩
 ·rename_i b;simp only[QaG,QcZ,Qbq]at he;split at he
  ·rename_i o ho;split at he
   ·rename_i es clock;have hget:(absH nx t).get b=some (.map es clock):=by
     show (t.get b).map KO.abs=_;rw[ho];rfl
    split at he
    ·rename_i ks hks;cases ks with
     |nil=>exact⟨.nilslice,nx,t,by simp only[sortedA,hget,hks],he⟩
     |cons x l =>
      have he':(natF (List.length l+1) fun n=>Ql6 (x::l) fun l=>QbD l (some (2*e)) 0 [] nx t fun nx' t'=>k (.slop nx 0 n 1) nx' t')=true:=he;rw[Qas,Qj6]at he';obtain⟨t',k1,k2⟩:=QbC ((x::l).map strA) (some (2*e)) 0 [] nx t fun nx' t'=>k (.slop nx 0 (l.length+1) 1) nx' t'
      rw[k1]at he';exact⟨_,nx+1,t',by simp only[sortedA,hget,hks];rw[k2];rfl,he'⟩
    ·cases he
   ·cases he
  ·cases he
 ·cases he
def byt(x:Nat×Nat):List UInt8:=Qap x.1 x.2
theorem QjY(x:Nat×Nat):∀l:List (Nat×Nat),(insN x l).Perm (x::l)
 | []=>List.Perm.refl _
 |y::l=>by
  unfold insN;split
  ·exact List.Perm.refl _
  ·exact((QjY x l).cons y).trans (List.Perm.swap x y l)
theorem QdB:∀l:List (Nat×Nat),(sortN l).Perm l
 | []=>List.Perm.refl _
 |x::l=>(QjY x (sortN l)).trans ((QdB l).cons x)
theorem QfC:∀(a b:List UInt8),Op.bytesLess a b=true→a<b
 | [],[],h=>by simp[Op.bytesLess]at h
 | [],_::_,_=>by simp
 |_::_,[],h=>by simp[Op.bytesLess]at h
 |a::l,b::m,h=>by
  simp only[Op.bytesLess,Bool.or_eq_true,Bool.and_eq_true,decide_eq_true_iff,beq_iff_eq]at h;rw[List.cons_lt_cons_iff];rcases h with h|⟨h1,h2⟩
  ·exact .inl h
  ·exact .inr ⟨h1,QfC l m h2⟩
theorem Qc8:∀l:List (Nat×Nat),ascN l=true→(l.map byt).Pairwise (· < ·)
 | [],_=>.nil
 | [x],_=>by simp
 |x::y::l,h=>by
  simp only[ascN,Bool.and_eq_true]at h;have ih:=Qc8 (y::l) h.2;have h1:byt x<byt y:=QfC _ _ (by unfold byt;rw[←Qe2];exact h.1);rw[List.map_cons,List.pairwise_cons];refine⟨fun z hz=>?_,ih⟩;rw[List.map_cons,List.mem_cons]at hz;rcases hz with rfl|hz
  ·exact h1
  ·rw[List.map_cons,List.pairwise_cons]at ih;exact List.lt_trans h1 (ih.1 z hz)
theorem Qhe(clock:Nat):∀es:List (AV×AV×Nat),Qmj clock es=true→(∀x∈es,x.2.2<clock)∧(es.map (·.2.2)).Pairwise (· < ·)
 | [],_=>⟨fun x hx=>(by cases hx),.nil⟩
 | [x],h=>by
  have h':x.2.2<clock:=Nat.blt_eq.mp h;exact⟨fun y hy=>by simp at hy;subst hy;exact h',by simp⟩
 |x::y::l,h=>by
  simp only[Qmj,Bool.and_eq_true,Nat.blt_eq]at h;obtain⟨h1,h2⟩:=Qhe clock (y::l) h.2;refine⟨fun z hz=>?_,?_⟩
  ·rcases List.mem_cons.1 hz with rfl|hz
   ·exact Nat.lt_trans h.1 (h1 y (by simp))
   ·exact h1 z hz
  ·rw[List.map_cons,List.pairwise_cons];refine⟨fun z hz=>?_,h2⟩;rw[List.map_cons,List.mem_cons]at hz;rcases hz with rfl|hz
   ·exact h.1
   ·rw[List.map_cons,List.pairwise_cons]at h2;exact Nat.lt_trans h.1 (h2.1 z hz)
theorem QgF:∀{es:List (AV×AV×Nat)}{l:List (Nat×Nat)},keysOf es=some l→l.length=es.length∧∀i (h1:i<es.length)(h2:i<l.length),es[i].1=.str l[i].1 l[i].2
 | [],l,h=>by cases h;exact⟨rfl,fun i h1=>absurd h1 (by simp)⟩
 |x::es,l,h=>by
  unfold keysOf at h;split at h
  ·rename_i e;cases e
  ·rename_i n b q1 q2 l' e;cases e;obtain⟨r,hr,rfl⟩:=oM h;obtain⟨h1,h2⟩:=QgF hr;refine⟨by simp[h1],fun i k1 k2=>?_⟩;cases i with
   |zero=>rfl
   |succ i=>exact h2 i (by simpa using k1) (by simpa using k2)
  ·cases h
end
end Go.Ab
namespace Go.Ab
open Go Go.RowKit Go.Maps Go.Sort Go.Proofs
open Go.WideElems (Fit rd rg rd_mk rg_of)
noncomputable section
section
variable{P:Program}{G:Nat→Option (List AV)}
variable{K:World→Prop}
def Qlw(P:Program)(f:FuncId)(e:TypeId):Prop:=
 ∀(b nn:Nat) (D0:DataW Unit) (R:Value→Option (DataW Unit×List MemPlace)) (w:World),w.ownsMap P e R b nn D0→Maps.size D0≤maxLen→Maps.size D0*16≤140737488355328 →
  Calls P f #[.map (some b)] w fun x w'=>∃(v:Value) (ss:List (List UInt8)),x=.returned v∧ss.Perm (strKeys D0) ∧
   w'.ownsRow w.heap.size e 1 v ss.length ((ss.mergeSort (fun x y=>decide (x≤y))).map encStr)∧(v=.slice none 0 0↔ss=[])∧Below w.heap.size w w'
def QoF(P:Program)(f:FuncId):Prop:=∀w:World,Calls P f #[.map none] w fun x w'=>x=.returned (.slice none 0 0)∧Below w.heap.size w w'
theorem QbG{H:Type}:∀l:List (Lit×DataW H),(l.foldr DataW.insert []).Perm l
 | []=>List.Perm.refl _
 |x::l=>(WideShapes.insert_perm x _).trans ((QbG l).cons x)
theorem Qft{ss:List (List UInt8)}{l:List (Nat×Nat)}(hp:ss.Perm (l.map byt))(ha:ascN (sortN l)=true):ss.mergeSort (fun x y=>decide (x≤y))=(sortN l).map byt:=by
 have h1:List.Pairwise (fun a b:List UInt8=>a≤b) (ss.mergeSort fun x y=>decide (x≤y)):=by
  have:=List.pairwise_mergeSort (le:=fun x y:List UInt8=>decide (x≤y)) (fun a b c h1 h2=>by simp only[decide_eq_true_iff]at *;exact List.le_trans h1 h2) (fun a b=>by
   simp only[Bool.or_eq_true,decide_eq_true_iff];exact List.le_total a b) ss
  exact this.imp fun h=>by simpa using h
 have h2:List.Pairwise (fun a b:List UInt8=>a≤b) ((sortN l).map byt):=(Qc8 _ ha).imp fun h=>List.le_of_lt h
 exact List.Perm.eq_of_pairwise (fun a b _ _ h1 h2=>List.le_antisymm h1 h2) h1 h2 ((List.mergeSort_perm _ _).trans (hp.trans ((QdB l).map byt).symm))
theorem QnK{CR:AC→Code→Prop}{B:Nat}{w0:Anchor}{g:Gam}{h:AH}{w:World}(H:HR CR B w0 g h w){e:TypeId}(hk:P.underlying e=some .string){b β:Nat}(hb:g.rho b=some (β,0)){es:List (AV×AV×Nat)}{clock:Nat}(hg:h.get b=some (.map es clock))
  {ks:List (Nat×Nat)}(hs:QdA es clock=some ks):∃(D0:DataW Unit)(l:List (Nat×Nat)),w.ownsMap P e (fun _=>some (.nil,[])) β es.length D0∧Maps.size D0=es.length∧es.length<1000000∧(strKeys D0).Perm (l.map byt)∧ks=sortN l∧ascN (sortN l)=true∧∀x∈l,x.2<256^x.1:=by
 unfold QdA at hs;split at hs
 ·rename_i l hl;split at hs
  ·rename_i hc;simp only[Bool.and_eq_true,Nat.blt_eq]at hc;obtain⟨⟨⟨ha,hborn⟩,hsmall⟩,hlen⟩:=hc;cases hs;obtain⟨hll,hkey⟩:=QgF hl;have hobj:=H.obj b β 0 _ hb hg;cases hobj with
   |map _ _ entries hw _ hel hent =>
    have hk1:∀i (h1:i<entries.size) (h2:i<l.length),entries[i].key=encStr (byt l[i])∧l[i].2<256^l[i].1:=fun i h1 h2=>by
     have:=(hent i (by omega) h1).key;rw[hkey i (by omega) h2]at this;exact this.str_eq
    have hkeys:entries.toList.map (·.key)=(l.map byt).map encStr:=by
     refine List.ext_getElem (by simp;omega) fun i h1 h2=>?_
     simp only[List.getElem_map,Array.getElem_toList];exact(hk1 i (by simpa using h1) (by simpa using h2)).1
    have hsm:∀x∈l,x.1<1000000:=fun x hx=>by
     have:=List.all_eq_true.1 hsmall x hx;simpa using this
    have hread:∀i (h1:i<entries.size) (h2:i<l.length),rd P e (fun _=>some ((.nil:DataW Unit),[])) entries[i]=some (.string (byt l[i]),.nil):=fun i h1 h2=>by
     have hk2:=(hk1 i h1 h2).1;have hx:=hsm l[i] (List.getElem_mem h2);unfold rd;rw[hk2];have hlen:(byt l[i]).length≤maxLen:=by
      unfold byt;rw[Qax];unfold maxLen;omega
     have h3:keyOf P e (encStr (byt l[i]))=some (.string (byt l[i])):=by
      rw[Go.WideMaps.keyOf_string_mk hk (show (ByteArray.mk (byt l[i]).toArray).size≤maxLen from by show (byt l[i]).toArray.size≤maxLen;simpa using hlen)]
     simp[h3]
    have hborns:=Qhe clock es hborn;have hbb:entries.toList.map (·.born)=es.map (·.2.2):=by
     refine List.ext_getElem (by simp;omega) fun i h1 h2=>?_
     simp only[List.getElem_map,Array.getElem_toList];exact((hent i (by simpa using h2) (by simpa using h1)).born).symm
    have hstr:entries.toList.map (fun x=>strOf (rg P e (fun _=>some ((.nil:DataW Unit),[])) x).1)=l.map byt:=by
     refine List.ext_getElem (by simp;omega) fun i h1 h2=>?_
     simp only[List.getElem_map,Array.getElem_toList];rw[rg_of (hread i (by simpa using h1) (by simpa using h2))];rfl
    refine⟨.map ((entries.toList.map (rg P e fun _=>some (.nil,[]))).foldr DataW.insert []),l,⟨entries,clock,hw,⟨?_,⟨?_,?_,?_⟩,?_⟩,by omega,rfl⟩,?_,by omega,?_,rfl,ha,fun x hx=>?_⟩
    ·unfold maxLen;omega
    ·intro x hx;obtain⟨i,hi,rfl⟩:=List.getElem_of_mem hx;have h2:entries.toList[i].born=(es[i]'(by simp at hi;omega)).2.2:=by
      have:=(hent i (by simp at hi;omega) (by simpa using hi)).born;simpa using this.symm
     rw[h2];exact hborns.1 _ (List.getElem_mem _)
    ·rw[hbb];exact hborns.2.imp fun h=>Nat.ne_of_lt h
    ·rw[hkeys];have hnd:(l.map byt).Nodup:=by
      have h1:((sortN l).map byt).Nodup:=(Qc8 _ ha).imp fun {a b} h e=>by subst e;exact List.lt_irrefl a h
      exact(((QdB l).map byt).nodup_iff).1 h1
     exact List.Pairwise.map encStr (fun a b hab h=>hab (encStr_inj h)) hnd
    ·intro x hx;obtain⟨i,hi,rfl⟩:=List.getElem_of_mem hx;have hi':i<entries.size:=by simpa using hi
     exact⟨_,by simpa using hread i hi' (by omega)⟩
    ·show (List.foldr DataW.insert [] _).length=_;rw[(QbG _).length_eq];simp;omega
    ·show (List.map _ (List.foldr DataW.insert [] _)).Perm _;rw[←hstr];have:=(QbG (entries.toList.map (rg P e fun _=>some ((.nil:DataW Unit),[])))).map (fun p=>strOf p.1);simpa[List.map_map,Function.comp_def] using this
    ·obtain⟨i,hi,rfl⟩:=List.getElem_of_mem hx;exact(hk1 i (by omega) hi).2
  ·cases hs
 ·cases hs
theorem new_row{CR:AC→Code→Prop}{B:Nat}{w0:Anchor}{g:Gam}{h:AH}{w w':World}(H:HR CR B w0 g h w)(hbel:Below w.heap.size w w'){e β cap:Nat}{cur:Array Value}{l:List AV}(hβ:w.heap.size≤β)(hb:w'.heap[β]? = some (.cells cur e (0,0)))(hn:l.length≤cap)(hcap:cur.size=cap)
  (hv:∀i (h1:i<l.length),∃v,cur[i]? = some v∧∀g,VR g l[i] v)(hren:∀(r:Nat→Option Nat) i (h1:i<l.length),Ren r l[i] l[i]) :
  ∃g',VR g' (.slop h.next 0 l.length 1) (.slice (some ⟨β,0,none⟩) l.length cap)∧HR CR B w0 g' (h.alloc (.cells l (some (2*e)) 0 [])) w'∧g.le g':=by
 let g1:Gam:=⟨fun x=>if x=0 then some (β,0) else none,fun _=>0,fun _=>cap,fun _ _=>none⟩
 let h1:AH:=⟨fun x=>if x=0 then some (.cells l (some (2*e)) 0 []) else none,1⟩
 have hlt:β<w'.heap.size:=by
  rcases Nat.lt_or_ge β w'.heap.size with h2|h2
  ·exact h2
  ·rw[Array.getElem?_eq_none h2]at hb;cases hb
 have hrow:RowR g1 w' β 0 l cap:=⟨cur,e,hb,by omega,hn,fun i hi=>by
  obtain⟨v,h2,h3⟩:=hv i hi;exact⟨v,by rw[Nat.zero_add];exact h2,h3 g1⟩⟩
 have hobj:ObjR CR g1 w' 0 β 0 (.cells l (some (2*e)) 0 []):=.cells l _ 0 [] (Nat.zero_le _) (fun h=>by cases h) (fun e' he=>by
  cases he;exact⟨⟨cur,by rw[Nat.mul_div_cancel_left e (by omega:0<2)];exact hb⟩,fun _=>rfl⟩) hrow
 have H':HR CR w.heap.size ⟨w,fun _=>False⟩ g1 h1 w':=by
  refine⟨fun b hb2=>?_,fun b hb2=>?_,fun b x hx=>?_,fun b β' base o hr ho=>?_,fun b b' β1 base base' o o' hr hr' _ _ hne=>?_,fun _ _ _ hm=>(by cases hm),fun _ _ _ _ _ _ _=>rfl,fun b β' base o hr ho=>?_,hbel,Nat.le_refl _,fun _ hb2=>hb2.elim⟩
  ·have hb3:1≤b:=hb2;exact if_neg (by omega)
  ·have hb3:1≤b:=hb2;exact if_neg (by omega)
  ·have hx':(if b=0 then some (β,0) else none)=some x:=hx;split at hx'
   ·cases hx';exact hlt
   ·cases hx'
  ·have hr':(if b=0 then some (β,0) else none)=some (β',base):=hr;have ho':(if b=0 then some (AO.cells l (some (2*e)) 0 []) else none)=some o:=ho;split at hr'
   ·rename_i hb0;cases hr';rw[if_pos hb0]at ho';cases ho';subst hb0;exact hobj
   ·cases hr'
  ·have h2:(if b=0 then some (β,0) else none)=some (β1,base):=hr;have h3:(if b'=0 then some (β,0) else none)=some (β1,base'):=hr';split at h2
   ·split at h3
    ·omega
    ·cases h3
   ·cases h2
  ·have hr':(if b=0 then some (β,0) else none)=some (β',base):=hr;split at hr'
   ·cases hr';exact hβ
   ·cases hr'
 have hvr:VR g1 (.slop 0 0 l.length 1) (.slice (some ⟨β,0,none⟩) l.length cap):=.sliceN 0 0 l.length 1 cap β 0 ⟨β,0,none⟩ rfl hn (.inr rfl) (by show 0+cap*1=cap;omega);have hsel:selR [0] h.next 0=some h.next:=by
  have:=QeR (sel:=[0]) (by simp) (n:=h.next) (i:=0) (b:=0) rfl;simpa using this
 have ht:Taken [0] h.next h1 (.slop 0 0 l.length 1) (.slop h.next 0 l.length 1) [.cells l (some (2*e)) 0 []]:=by
  refine⟨.slop 0 0 l.length 1 h.next hsel,rfl,fun i b hi=>?_⟩
  match i,hi with
  |0,hi =>
   cases hi;exact⟨_,_,rfl,rfl,.cells l l (some (2*e)) 0 [] ⟨rfl,fun j k1 k2=>hren _ j k1⟩⟩
 obtain⟨j1,j2,j3⟩:=HR.join H H' (by simp) ht hvr;exact⟨_,j1,j2,j3⟩
def QlW(f:FuncId)(e:TypeId)(M:KMemo):KMemo:={
 has:=fun f'=>hasOr f (M.has f') f'
 hasNot:=fun f' h args'=>by
  obtain⟨h1,h2⟩:=QaZ h;have h3:Qbw f (sortedA e) (M.abs f' args') f' args'=M.abs f' args':=by unfold Qbw;rw[h1]
  show Qbw f (sortedA e) (M.abs f' args') f' args'=none;rw[h3];exact M.hasNot f' h2 args'
 run:=fun f' a'=>Qbw f (Qin e) (M.run f' a') f' a'
 abs:=fun f' a'=>Qbw f (sortedA e) (M.abs f' a') f' a'
 ok:=by
  intro f' a';rcases Qjx (f:=f) (yes:=Qin e) (yes':=sortedA e) (no:=M.run f' a') (no':=M.abs f' a') (f':=f') (a':=a') with⟨h1,h2⟩|⟨v,rfl,rfl⟩
  ·rw[h1,h2];exact M.ok f' a'
  ·rw[Qb2,Qb2];exact⟨fun h=>(by cases h),fun kc h=>(by cases h;exact⟨_,rfl,Qmx e v⟩)⟩}
theorem Qgu {M:KMemo} (hM:Qao K P G (absM M)) {f:FuncId} {e:TypeId} (hk:P.underlying e=some .string) (hbody:∃ fn,P.funcs[f]? = some fn∧fn.body.isSome=true∧fn.name ≠ "runtime.NumGoroutine") (hs:Qlw P f e) (hnil:QoF P f) :
    Qao K P G (absM (QlW f e M)):=by
  intro f' args' c' hm B w0 g h w vs v h' hv H hG hvs hK;have hm':Qbw f (sortedA e) (M.abs f' args') f' args'=some c':=hm;rcases Qcm f (sortedA e) (M.abs f' args') f' args' with h1|⟨x,rfl,rfl⟩
  · rw[h1]at hm';exact hM f' args' c' hm' B w0 g h w vs v h' hv H hG hvs hK
  · rw[Qb2]at hm';cases hm';obtain⟨lv⟩:=vs;obtain⟨y,rfl⟩:∃y,lv=[y]:=by
      have:=hvs.len;simp only[List.length_cons,List.length_nil]at this
      match lv,this with
      | [y],_=>exact⟨y,rfl⟩
    have hy:VR g x y:=hvs.head;refine .inl ⟨hbody,fun C=>?_⟩;unfold sortedA at hv;split at hv
    · cases hv;cases hy;obtain⟨x,w',fr,⟨rfl,hb⟩,rest⟩:=hnil w C;exact⟨_,w',fr,⟨_,g,rfl,.nilslice,H.grow hb,Gam.le_refl g⟩,rest⟩
    · rename_i b;split at hv
      · rename_i es clock hget;cases hy with
        |map _ β hb =>
        split at hv
        · rename_i hks;cases hv;obtain⟨D0,l,hown,hsz,hlt,hperm,hsort,hasc,hbd⟩:=QnK H hk hb hget hks;obtain⟨x,w',fr,⟨v,ss,rfl,hp,hrow,hv0,hbel⟩,rest⟩:=hs β es.length D0 _ w hown (by rw[hsz];unfold maxLen;omega) (by rw[hsz];omega) C;have hmu:=Qft (hp.trans hperm) hasc;rw[←hsort]at hmu;have hss:ss=[]:=by
            have h2:=(List.mergeSort_perm ss (fun x y=>decide (x≤y))).length_eq;rw[hmu]at h2;exact List.eq_nil_of_length_eq_zero (by simpa using h2.symm)
          rw[hv0.2 hss]at rest;exact⟨_,w',fr,⟨_,g,rfl,.nilslice,H.grow hbel,Gam.le_refl g⟩,rest⟩
        · rename_i x l0 hks;cases hv;obtain⟨D0,l,hown,hsz,hlt,hperm,hsort,hasc,hbd⟩:=QnK H hk hb hget hks;obtain⟨xx,w',fr,⟨v,ss,rfl,hp,hrow,hv0,hbel⟩,rest⟩:=hs β es.length D0 _ w hown (by rw[hsz];unfold maxLen;omega) (by rw[hsz];omega) C;have hmu:=Qft (hp.trans hperm) hasc;rw[←hsort]at hmu;have hlen:ss.length=l0.length+1:=by
            have h2:=(List.mergeSort_perm ss (fun x y=>decide (x≤y))).length_eq;rw[hmu]at h2;simpa using h2.symm
          rw[hmu]at hrow;obtain⟨hr1,hr2⟩:=hrow;rcases hr2 with⟨_,h0⟩|⟨γ,cap,cur,rfl,hγ,hcur,hncap,hcapm,hcsz,htake⟩
          · omega
          · rw[Nat.mul_one]at hcsz htake;have hbs:∀z,z∈x::l0→z.2<256^z.1:=fun z hz=>hbd z (by rw[hsort]at hz;exact(QdB l).mem_iff.1 hz)
            obtain⟨g',k1,k2,k3⟩:=new_row (e:=e) (cap:=cap) (l:=(x::l0).map strA) H hbel hγ hcur (by simp only[List.length_map,List.length_cons];omega) hcsz (fun i h1=>by
              refine⟨encStr (byt ((x::l0)[i]'(by simpa using h1))),?_,fun g=>?_⟩
              · have h2:i<ss.length:=by rw[hlen];simpa using h1
                have h3:cur.toList[i]? = (cur.toList.take ss.length)[i]?:=by rw[List.getElem?_take];simp[h2]
                rw[←Array.getElem?_toList,h3,htake];have h4:i<(List.map byt (x::l0)).length:=by simpa using h1
                rw[List.getElem?_map,List.getElem?_map,gE (by simpa using h1)];rfl
              · rw[List.getElem_map];exact .str _ _ (hbs _ (List.getElem_mem _))) (fun r i h1=>by rw[List.getElem_map];exact .str _ _)
            refine⟨_,w',fr,⟨_,g',rfl,?_,k2,k3⟩,rest⟩;rw[hlen];simpa using k1
        · cases hv
      · cases hv
    · cases hv
end
end
end Go.Ab
namespace Go.Ab.L26
open Go Go.Ab Go.Proofs
noncomputable section
def Er(M:KMemo)(f:Nat)(x:List AV)(v:AV)(s:List Nat)(o:List AO)(z:Bool):Bool:=Qaf Tryz.prog (fun I FS=>Qan (FE I FS) f x .normal [] 0 .nil (loopK (FE I FS) M (fun ks=>iteF (endOk (FE I FS) f v s o ks) z false) 5000000))
theorem Qaz{P:Program}{k:Tab→(FuncId→Option Func)→Bool}{b:Bool}(h:Qaf P k=b):k P.info? (fun f=>P.funcs[f]?)=b:=(Qae P k).symm.trans h
def Ez(M:KMemo)(f:Nat)(x:List AV)(z:Bool):Bool:=Er M f x (.int .i64 0) [] [] z
def M3:KMemo:=kmIn 93 [x0,x2,x3] (.int .i64 0) M2
def M4:KMemo:=kmIn 383 [x4,x6,x7,x8,x9,x10,x11,x12,x13,x14,x15,x16,x17,x18,x19,x20,x21,x22,x23,x24,x25,x26,x27,x28,x29,x30,x31,x32,x33,x34,x35,x36,x37,x38] (.int .i64 0) M3
def M5:KMemo:=kmInC 58 (fun _=>true) x1 c1 M4
def M6:KMemo:=QlX 692 5 (kmSame 691 M5)
def M7:KMemo:=QlW 640 9 M6
def M8:KMemo:=kmInC 115 (fun _=>true) x5 c5 M7
def M9:KMemo:=kmInC 88 (fun _=>true) x2 c39 M8
def M10:KMemo:=kmIn 99 [x40] (.int .i64 0) M9
def M11:KMemo:=kmInC 68 (fun _=>true) x41 c41 M10
end
end Go.Ab.L26

/-
  A part of a proof: XZ26 YB26 YC26 YD0.
-/
import Derived.Test.YthiiaehlmfbeoaaGreatDoorXS26toYE26
set_option linter.all false
/-! Chapter 26: the walk of Scratch. -/
namespace Go.Ab.L26
open Go Go.Ab
def noneK:On:=fun _=>false
def scrS (nc:Nat):(Nat→CT)→St→List Act→List Int
 | _,_,[]=>[]
 | forms,s,a::l=>(if a.set then [] else [(actS nc forms { s with known:=noneK } a).2.2.2])++scrS nc (actS nc forms { s with known:=noneK } a).1 (actS nc forms { s with known:=noneK } a).2.1 l
def QaJ (cs:List CT) (as:List Act):List Int × Int:=if Qak cs as=0 then (scrS cs.length (Qaq cs) s0 as,0) else ([],Qak cs as)
end Go.Ab.L26
/-! Chapter 26, plain: what is known is never stale. -/
namespace Go.Ab.L26
open Go Go.Ab
def combP (ask:Nat→Int) (k n:Int) (ds:List (On→Int × On)) (on:On):Int × On :=
 match k,ds with
 | 1,_=>(ask n.toNat,upd on n.toNat true)
 | 2,[a,b]=>(wrapS (IntKind.i64.wrap ((a on).1+(b (a on).2).1)),(b (a on).2).2)
 | 3,[a,b]=>(wrapS (IntKind.i64.wrap ((a on).1 * (b (a on).2).1)),(b (a on).2).2)
 | 4,[a,b,c]=>if (a on).1<0 then b (a on).2 else c (a on).2
 | _,_=>(n,on)
mutual
def evalP (ask:Nat→Int):CT→On→Int × On
 | .mk k n l=>combP ask k n (QcL ask l)
def QcL (ask:Nat→Int):List CT→List (On→Int × On)
 | []=>[]
 | t::l=>evalP ask t::QcL ask l
end
def noneO:On:=fun _=>false
theorem Qdz {on:On} {i j:Nat} (h:on j=true):upd on i true j=true:=by
 unfold upd
 split
 ·rfl
 ·exact h
theorem Qa8 {α:Type} {f:Nat→α} {i:Nat} {a:α}:upd f i a i=a:=if_pos rfl
theorem upd_ne {α:Type} {f:Nat→α} {i j:Nat} {a:α} (h:j ≠ i):upd f i a j=f j:=if_neg h

theorem Qa7 {ask:Nat→Int} {cell:Nat}:∀ (z:Nat) (T:CT),sizeC T≤z→RightT cell T→∀ on j,on j=true→(evalP ask T on).2 j=true
 | 0,.mk k n l,hz,_=>by simp [sizeC] at hz
 | z+1,.mk k n l,hz,hr=>fun on j h=>by
  rcases hr.inv with ⟨rfl,rfl⟩ | ⟨q,rfl,rfl,hq,rfl⟩ | ⟨hk,a,b,rfl,ra,rb⟩ | ⟨rfl,a,b,d,rfl,ra,rb,rd⟩
  ·exact h
  ·simp only [evalP,combP]
   exact Qdz h
  ·simp only [sizeC,sizes] at hz
   have ia:=Qa7 (ask:=ask) z a (by omega) ra
   have ib:=Qa7 (ask:=ask) z b (by omega) rb
   rcases hk with rfl | rfl <;> exact ib _ _ (ia _ _ h)
  ·simp only [sizeC,sizes] at hz
   have ia:=Qa7 (ask:=ask) z a (by omega) ra
   have ib:=Qa7 (ask:=ask) z b (by omega) rb
   have id:=Qa7 (ask:=ask) z d (by omega) rd
   simp only [evalP,QcL,combP]
   split
   ·exact ib _ _ (ia _ _ h)
   ·exact id _ _ (ia _ _ h)

theorem Qc4 {ask:Nat→Int} {cell:Nat}:∀ (z:Nat) (T:CT),sizeC T≤z→RightT cell T→∀ on j,(evalP ask T on).2 j=true→on j=true ∨ j<cell
 | 0,.mk k n l,hz,_=>by simp [sizeC] at hz
 | z+1,.mk k n l,hz,hr=>fun on j h=>by
  rcases hr.inv with ⟨rfl,rfl⟩ | ⟨q,rfl,rfl,hq,rfl⟩ | ⟨hk,a,b,rfl,ra,rb⟩ | ⟨rfl,a,b,d,rfl,ra,rb,rd⟩
  ·exact .inl h
  ·simp only [evalP,combP,Int.toNat_natCast] at h
   unfold upd at h
   split at h
   ·exact .inr (by omega)
   ·exact .inl h
  ·simp only [sizeC,sizes] at hz
   have ia:=Qc4 (ask:=ask) z a (by omega) ra
   have ib:=Qc4 (ask:=ask) z b (by omega) rb
   rcases hk with rfl | rfl
   ·rcases ib _ _ h with h | h
    ·exact ia _ _ h
    ·exact .inr h
   ·rcases ib _ _ h with h | h
    ·exact ia _ _ h
    ·exact .inr h
  ·simp only [sizeC,sizes] at hz
   have ia:=Qc4 (ask:=ask) z a (by omega) ra
   have ib:=Qc4 (ask:=ask) z b (by omega) rb
   have id:=Qc4 (ask:=ask) z d (by omega) rd
   simp only [evalP,QcL,combP] at h
   split at h
   ·rcases ib _ _ h with h | h
    ·exact ia _ _ h
    ·exact .inr h
   ·rcases id _ _ h with h | h
    ·exact ia _ _ h
    ·exact .inr h

theorem QaQ {a1 a2:Nat→Int} {cell:Nat}:∀ (z:Nat) (T:CT),sizeC T≤z→RightT cell T→∀ on,(∀ j,(evalP a1 T on).2 j=true→a1 j=a2 j)→evalP a2 T on=evalP a1 T on
 | 0,.mk k n l,hz,_=>by simp [sizeC] at hz
 | z+1,.mk k n l,hz,hr=>fun on h=>by
  rcases hr.inv with ⟨rfl,rfl⟩ | ⟨q,rfl,rfl,hq,rfl⟩ | ⟨hk,a,b,rfl,ra,rb⟩ | ⟨rfl,a,b,d,rfl,ra,rb,rd⟩
  ·rfl
  ·simp only [evalP,combP,Int.toNat_natCast] at h ⊢
   rw [h q Qa8]
  ·simp only [sizeC,sizes] at hz
   have mb:=Qa7 (ask:=a1) z b (by omega) rb
   rcases hk with rfl | rfl
   ·simp only [evalP,QcL,combP] at h ⊢
    have ea:=QaQ z a (by omega) ra on fun j hj=>h j (mb _ _ hj)
    rw [ea]
    have eb:=QaQ z b (by omega) rb (evalP a1 a on).2 h
    rw [eb]
   ·simp only [evalP,QcL,combP] at h ⊢
    have ea:=QaQ z a (by omega) ra on fun j hj=>h j (mb _ _ hj)
    rw [ea]
    have eb:=QaQ z b (by omega) rb (evalP a1 a on).2 h
    rw [eb]
  ·simp only [sizeC,sizes] at hz
   have mb:=Qa7 (ask:=a1) z b (by omega) rb
   have md:=Qa7 (ask:=a1) z d (by omega) rd
   simp only [evalP,QcL,combP] at h ⊢
   by_cases c:(evalP a1 a on).1<0
   ·simp only [if_pos c] at h
    have ea:=QaQ z a (by omega) ra on fun j hj=>h j (mb _ _ hj)
    rw [ea,if_pos c,if_pos c]
    exact QaQ z b (by omega) rb _ h
   ·simp only [if_neg c] at h
    have ea:=QaQ z a (by omega) ra on fun j hj=>h j (md _ _ hj)
    rw [ea,if_neg c,if_neg c]
    exact QaQ z d (by omega) rd _ h

def IsV (nc:Nat) (forms:Nat→CT) (V:Nat→Int):Prop:=∀ c,c<nc→V c=(evalP V (forms c) noneO).1
def valP (forms:Nat→CT):Nat→Nat→Int
 | 0,_=>0
 | f+1,c=>(evalP (valP forms f) (forms c) noneO).1
theorem Qne {nc:Nat} {forms:Nat→CT} (H:OkF nc forms):∀ f c,c<f→c<nc→valP forms (f+1) c=valP forms f c
 | 0,c,h,_=>by omega
 | f+1,c,h,hc=>by
  have:evalP (valP forms (f+1)) (forms c) noneO=evalP (valP forms f) (forms c) noneO:=QaQ _ _ (Nat.le_refl _) (H.rt c hc) _ fun j hj=>by
   rcases Qc4 _ _ (Nat.le_refl _) (H.rt c hc) _ _ hj with e | e
   ·cases e
   ·exact (Qne H f j (by omega) (by omega)).symm
  exact congrArg Prod.fst this
theorem exV {nc:Nat} {forms:Nat→CT} (H:OkF nc forms):IsV nc forms (valP forms nc):=fun c hc=>by
 have:valP forms (nc+1) c=(evalP (valP forms nc) (forms c) noneO).1:=rfl
 rw [← this]
 exact (Qne H nc c hc hc).symm

structure Inv (nc:Nat) (forms:Nat→CT) (V:Nat→Int) (s:St):Prop where
 lt:∀ c,s.known c=true→c<nc
 val:∀ c,s.known c=true→s.vals c=V c
 st:∀ c,s.known c=true→s.stands c=(evalP V (forms c) noneO).2
 cl:∀ c,s.known c=true→∀ j,s.stands c j=true→s.known j=true
def Good (nc:Nat) (forms:Nat→CT) (V:Nat→Int) (cell:Nat) (ask:Ask):Prop :=
 ∀ j s,j<cell→Inv nc forms V s→(ask j s).1=V j∧Inv nc forms V (ask j s).2∧(∀ i,s.known i=true→(ask j s).2.known i=true)∧(ask j s).2.known j=true
structure Ev (nc:Nat) (forms:Nat→CT) (V:Nat→Int) (p:Int × On) (on:On) (s:St) (r:Int × On × St):Prop where
 v:r.1=p.1
 o:r.2.1=p.2
 inv:Inv nc forms V r.2.2
 mono:∀ i,s.known i=true→r.2.2.known i=true
 ask:∀ j,p.2 j=true→on j=true ∨ r.2.2.known j=true
theorem Ev.then {nc:Nat} {forms:Nat→CT} {V:Nat→Int} {p q:Int × On} {on:On} {s:St} {r t:Int × On × St} (a:Ev nc forms V p on s r) (b:Ev nc forms V q p.2 r.2.2 t):(∀ i,s.known i=true→t.2.2.known i=true)∧∀ j,q.2 j=true→on j=true ∨ t.2.2.known j=true :=
 ⟨fun i h=>b.mono i (a.mono i h),fun j h=>by
  rcases b.ask j h with h | h
  ·rcases a.ask j h with h | h
   ·exact .inl h
   ·exact .inr (b.mono j h)
  ·exact .inr h⟩
theorem Qcq {nc:Nat} {forms:Nat→CT} {V:Nat→Int} {cell:Nat} {ask:Ask} (G:Good nc forms V cell ask):∀ (z:Nat) (T:CT),sizeC T≤z→RightT cell T→∀ on s,Inv nc forms V s→Ev nc forms V (evalP V T on) on s (evalT ask T on s)
 | 0,.mk k n l,hz,_=>by simp [sizeC] at hz
 | z+1,.mk k n l,hz,hr=>fun on s hi=>by
  rcases hr.inv with ⟨rfl,rfl⟩ | ⟨q,rfl,rfl,hq,rfl⟩ | ⟨hk,a,b,rfl,ra,rb⟩ | ⟨rfl,a,b,d,rfl,ra,rb,rd⟩
  ·exact ⟨rfl,rfl,hi,fun i h=>h,fun j h=>.inl h⟩
  ·obtain ⟨h1,h2,h3,h4⟩:=G q s hq hi
   simp only [evalP,evalT,combP,comb,Int.toNat_natCast]
   refine ⟨h1,rfl,h2,h3,fun j hj=>?_⟩
   by_cases e:j=q
   ·rw [e];exact .inr h4
   ·exact .inl (by have hj2:upd on q true j=true:=hj;rw [upd_ne e] at hj2;exact hj2)
  ·simp only [sizeC,sizes] at hz
   have ia:=Qcq G z a (by omega) ra on s hi
   have ib:=Qcq G z b (by omega) rb (evalP V a on).2 (evalT ask a on s).2.2 ia.inv
   obtain ⟨t1,t2⟩:=ia.then ib
   rcases hk with rfl | rfl
   ·simp only [evalP,QcL,evalT,evals,combP,comb,ia.o]
    exact ⟨by rw [ia.v,ib.v],ib.o,ib.inv,t1,t2⟩
   ·simp only [evalP,QcL,evalT,evals,combP,comb,ia.o]
    exact ⟨by rw [ia.v,ib.v],ib.o,ib.inv,t1,t2⟩
  ·simp only [sizeC,sizes] at hz
   have ia:=Qcq G z a (by omega) ra on s hi
   simp only [evalP,QcL,evalT,evals,combP,comb,ia.o,ia.v]
   split
   ·have ib:=Qcq G z b (by omega) rb (evalP V a on).2 (evalT ask a on s).2.2 ia.inv
    obtain ⟨t1,t2⟩:=ia.then ib
    exact ⟨ib.v,ib.o,ib.inv,t1,t2⟩
   ·have ib:=Qcq G z d (by omega) rd (evalP V a on).2 (evalT ask a on s).2.2 ia.inv
    obtain ⟨t1,t2⟩:=ia.then ib
    exact ⟨ib.v,ib.o,ib.inv,t1,t2⟩
theorem Inv.comp {nc:Nat} {forms:Nat→CT} {V:Nat→Int} {s:St} (h:Inv nc forms V s) (l:List Int):Inv nc forms V { s with comp:=l }:=⟨h.lt,h.val,h.st,h.cl⟩
theorem Qb5 {nc:Nat} {forms:Nat→CT} {V:Nat→Int} (H:OkF nc forms) (hV:IsV nc forms V):∀ f cell,cell≤f→cell≤nc→Good nc forms V cell (Qaj forms f)
 | 0,cell,hc,_=>fun j s hj=>by omega
 | f+1,cell,hc,hn=>fun j s hj hi=>by
  have hjn:j<nc:=by omega
  unfold Qaj
  by_cases k:s.known j=true
  ·simp only [if_pos k]
   exact ⟨hi.val j k,hi,fun i h=>h,k⟩
  ·simp only [if_neg k]
   have e:=Qcq (Qb5 H hV f j (by omega) (by omega)) _ (forms j) (Nat.le_refl _) (H.rt j hjn) noneO { s with comp:=s.comp++[(j:Int)] } (hi.comp _)
   have e':Ev nc forms V (evalP V (forms j) noneO) noneO { s with comp:=s.comp++[(j:Int)] } (evalT (Qaj forms f) (forms j) (fun _=>false) { s with comp:=s.comp++[(j:Int)] }):=e
   generalize evalT (Qaj forms f) (forms j) (fun _=>false) { s with comp:=s.comp++[(j:Int)] }=r at e' ⊢
   have hv:r.1=V j:=by rw [e'.v,← hV j hjn]
   refine ⟨hv,⟨fun c hc=>?_,fun c hc=>?_,fun c hc=>?_,fun c hc q hq=>?_⟩,fun i h=>Qdz (e'.mono i h),Qa8⟩
   ·by_cases cj:c=j
    ·omega
    ·exact e'.inv.lt c (by have h2:upd r.2.2.known j true c=true:=hc;rw [upd_ne cj] at h2;exact h2)
   ·show upd r.2.2.vals j r.1 c=V c
    by_cases cj:c=j
    ·rw [cj,Qa8];exact hv
    ·rw [upd_ne cj];exact e'.inv.val c (by have h2:upd r.2.2.known j true c=true:=hc;rw [upd_ne cj] at h2;exact h2)
   ·show upd r.2.2.stands j r.2.1 c=_
    by_cases cj:c=j
    ·rw [cj,Qa8];exact e'.o
    ·rw [upd_ne cj];exact e'.inv.st c (by have h2:upd r.2.2.known j true c=true:=hc;rw [upd_ne cj] at h2;exact h2)
   ·show upd r.2.2.known j true q=true
    have hq2:upd r.2.2.stands j r.2.1 c q=true:=hq
    by_cases cj:c=j
    ·rw [cj,Qa8,e'.o] at hq2
     rcases e'.ask q hq2 with h | h
     ·cases h
     ·exact Qdz h
    ·rw [upd_ne cj] at hq2
     exact Qdz (e'.inv.cl c (by have h2:upd r.2.2.known j true c=true:=hc;rw [upd_ne cj] at h2;exact h2) q hq2)
end Go.Ab.L26
/-! Chapter 26, plain: forgetting; Model's values are those of Scratch. -/
namespace Go.Ab.L26
open Go Go.Ab

structure Left (st:Nat→Nat→Bool) (x:Nat) (kn kn':On):Prop where
 sub:∀ i,kn' i=true→kn i=true
 gone:kn' x=false
 cl:∀ c,kn' c=true→∀ j,st c j=true→j ≠ x∧(kn j=true→kn' j=true)
theorem Qeg {nc:Nat} (h6:nc≤6) {st:Nat→Nat→Bool}:∀ f x kn,x<nc→cnt kn+(1 - (kn x).toNat)≤f→(∀ i,kn i=true→i<nc)→Left st x kn (QaI nc st f x kn)
 | 0,x,kn,hx,hc,_=>by
  have h1:=Qlm (kn:=kn) (j:=x) (by omega)
  have h2:(kn x).toNat≤1:=by cases kn x <;> decide
  omega
 | f+1,x,kn,hx,hc,hk=>by
  have h1:=Qlm (kn:=kn) (j:=x) (by omega)
  have h2:(kn x).toNat≤1:=by cases kn x <;> decide
  by_cases an:anyK kn=true
  ·rw [Qeh an]
   have loop:∀ n i (k2:On),i+n=nc→(∀ j,k2 j=true→upd kn x false j=true)→(∀ c,k2 c=true→∀ j,st c j=true→(j=x→i≤c)∧(j ≠ x→kn j=true→k2 j=true))→Left st x kn ((List.range' i n).foldl (stepF nc st f x) k2):=by
    intro n
    induction n with
    | zero =>
     intro i k2 hi hs hcl
     refine ⟨fun i hi=>?_,?_,fun c hc j hj=>?_⟩
     ·have:=hs i hi
      by_cases e:i=x
      ·rw [e,Qa8] at this;cases this
      ·rw [upd_ne e] at this;exact this
     ·cases e:k2 x
      ·exact e
      ·have:=hs x e
       rw [Qa8] at this
       cases this
     ·obtain ⟨a1,a2⟩:=hcl c hc j hj
      have hcn:c<nc:=by
       have:=hs c hc
       by_cases e:c=x
       ·rw [e,Qa8] at this;cases this
       ·rw [upd_ne e] at this;exact hk c this
      have hne:j ≠ x:=fun e=>by have:=a1 e;omega
      exact ⟨hne,a2 hne⟩
    | succ n ih =>
     intro i k2 hi hs hcl
     rw [List.range'_succ,List.foldl_cons]
     have hsx:∀ j,k2 j=true→kn j=true∧j ≠ x:=fun j hj=>by
      have:=hs j hj
      by_cases e:j=x
      ·rw [e,Qa8] at this;cases this
      ·rw [upd_ne e] at this;exact ⟨this,e⟩
     by_cases c1:(k2 i && st i x)=true
     ·have ek:k2 i=true:=by simp at c1;exact c1.1
      have e:stepF nc st f x k2 i=QaI nc st f i k2:=if_pos c1
      rw [e]
      have hcn:cnt k2≤f:=by
       have q:=cnt_le hs
       omega
      have lf:=Qeg h6 (st:=st) f i k2 (by omega) (by rw [ek];simpa using hcn) fun j hj=>hk j (hsx j hj).1
      refine ih (i+1) _ (by omega) (fun j hj=>hs j (lf.sub j hj)) fun c hc j hj=>?_
      obtain ⟨b1,b2⟩:=lf.cl c hc j hj
      obtain ⟨a1,a2⟩:=hcl c (lf.sub c hc) j hj
      refine ⟨fun e=>?_,fun hne hkj=>b2 (a2 hne hkj)⟩
      have:=a1 e
      have hci:c ≠ i:=fun e2=>by rw [e2,lf.gone] at hc;cases hc
      omega
     ·have e:stepF nc st f x k2 i=k2:=if_neg c1
      rw [e]
      refine ih (i+1) k2 (by omega) hs fun c hc j hj=>?_
      obtain ⟨a1,a2⟩:=hcl c hc j hj
      refine ⟨fun ex=>?_,a2⟩
      have:=a1 ex
      have hci:c ≠ i:=fun e2=>by
       rw [ex,e2] at hj
       rw [e2] at hc
       exact c1 (by rw [hc,hj];rfl)
      omega
   have:=loop nc 0 (upd kn x false) (by omega) (fun _ h=>h) fun c hc j hj=>⟨fun _=>Nat.zero_le _,fun hne hkj=>by rw [upd_ne hne];exact hkj⟩
   rw [List.range_eq_range']
   exact this
  ·have e:QaI nc st (f+1) x kn=kn:=by unfold QaI;rw [if_neg an]
   rw [e]
   have none:∀ i,kn i=false:=fun i=>by
    cases ei:kn i
    ·rfl
    ·have hi:=hk i ei
     have:i=0 ∨ i=1 ∨ i=2 ∨ i=3 ∨ i=4 ∨ i=5:=by omega
     exact absurd (by unfold anyK;rcases this with rfl | rfl | rfl | rfl | rfl | rfl <;> simp [ei]) an
   exact ⟨fun i h=>h,none x,fun c hc=>by rw [none c] at hc;cases hc⟩
theorem Inv.act {nc:Nat} (h6:nc≤6) {forms:Nat→CT} {V:Nat→Int} {s:St} {a:Act} (H:OkF nc forms) (hV:IsV nc forms V) (ha:OkA nc a) (hi:Inv nc forms V s) :
  ∃ V',IsV nc (actS nc forms s a).1 V'∧Inv nc (actS nc forms s a).1 V' (actS nc forms s a).2.1∧(a.set=false→V'=V∧(actS nc forms s a).2.2.2=V a.cell.toNat):=by
 have hx:a.cell.toNat<nc:=by have:=ha.lo;have:=ha.hi;omega
 cases es:a.set with
 | true =>
  have H':=H.act (s:=s) ha
  have e:actS nc forms s a=(upd forms a.cell.toNat a.term,{ s with known:=QaI nc s.stands 7 a.cell.toNat s.known },[],0):=by unfold actS;rw [if_pos es]
  rw [e] at H' ⊢
  have lf:=Qeg h6 (st:=s.stands) 7 a.cell.toNat s.known hx (by have:=Qln s.known;omega) hi.lt
  have hV':=exV H'
  generalize a.cell.toNat=x at *
  generalize QaI nc s.stands 7 x s.known=kn' at lf
  have same:∀ n c,c<n→kn' c=true→valP (upd forms x a.term) nc c=V c∧evalP (valP (upd forms x a.term) nc) (upd forms x a.term c) noneO=evalP V (forms c) noneO:=by
   intro n
   induction n with
   | zero=>intro c hc;omega
   | succ n ih =>
    intro c hc hk
    have hcx:c ≠ x:=fun e=>by rw [e,lf.gone] at hk;cases hk
    have hkc:=lf.sub c hk
    have hcn:=hi.lt c hkc
    have ef:upd forms x a.term c=forms c:=upd_ne hcx
    have ee:evalP (valP (upd forms x a.term) nc) (forms c) noneO=evalP V (forms c) noneO:=QaQ _ _ (Nat.le_refl _) (H.rt c hcn) _ fun j hj=>by
     rcases Qc4 _ _ (Nat.le_refl _) (H.rt c hcn) _ _ hj with e | e
     ·cases e
     ·have hst:s.stands c j=true:=by rw [hi.st c hkc];exact hj
      have hkj:=(lf.cl c hk j hst).2 (hi.cl c hkc j hst)
      exact (ih j (by omega) hkj).1.symm
    refine ⟨?_,by rw [ef];exact ee⟩
    rw [hV' c hcn]
    show (evalP _ (upd forms x a.term c) noneO).1=_
    rw [ef,ee]
    exact (hV c hcn).symm
  refine ⟨_,hV',⟨fun c hc=>hi.lt c (lf.sub c hc),fun c hc=>?_,fun c hc=>?_,fun c hc j hj=>(lf.cl c hc j hj).2 (hi.cl c (lf.sub c hc) j hj)⟩,fun h=>by cases h⟩
  ·rw [(same (c+1) c (Nat.lt_succ_self _) hc).1]
   exact hi.val c (lf.sub c hc)
  ·show s.stands c=_
   rw [(same (c+1) c (Nat.lt_succ_self _) hc).2]
   exact hi.st c (lf.sub c hc)
 | false =>
  have e:actS nc forms s a=(forms,(Qaj forms 6 a.cell.toNat { s with comp:=[] }).2,(Qaj forms 6 a.cell.toNat { s with comp:=[] }).2.comp,(Qaj forms 6 a.cell.toNat { s with comp:=[] }).1):=by unfold actS;rw [es];rfl
  rw [e]
  obtain ⟨g1,g2,g3,g4⟩:=Qb5 H hV 6 nc h6 (Nat.le_refl _) a.cell.toNat { s with comp:=[] } hx (hi.comp _)
  exact ⟨V,hV,g2,fun _=>⟨rfl,g1⟩⟩
theorem Inv.none {nc:Nat} {forms:Nat→CT} {V:Nat→Int} {s:St}:Inv nc forms V { s with known:=noneK }:=⟨(fun _ h=>by cases h),(fun _ h=>by cases h),(fun _ h=>by cases h),(fun _ h=>by cases h)⟩

def shown:List Act→List Told→List Int
 | a::as,d::ds=>(if a.set then [] else [d.2])++shown as ds
 | _,_=>[]
theorem Qj5 {nc:Nat} (h6:nc≤6):∀ (as:List Act) (forms:Nat→CT) (V:Nat→Int) (s s2:St),OkF nc forms→IsV nc forms V→(∀ a ∈ as,OkA nc a)→Inv nc forms V s→shown as (runS nc forms s as)=scrS nc forms s2 as
 | [],_,_,_,_,_,_,_,_=>rfl
 | a::as,forms,V,s,s2,H,hV,ha,hi=>by
  have oa:=ha a (by simp)
  have ef:∀ s s2,(actS nc forms s a).1=(actS nc forms s2 a).1:=fun s s2=>by unfold actS;split <;> rfl
  obtain ⟨V1,v1,i1,w1⟩:=Inv.act h6 H hV oa hi
  obtain ⟨V2,v2,i2,w2⟩:=Inv.act (s:={ s2 with known:=noneK }) h6 H hV oa Inv.none
  simp only [shown,runS,scrS]
  have rest:=Qj5 h6 as _ V1 _ (actS nc forms { s2 with known:=noneK } a).2.1 (H.act oa) v1 (fun b hb=>ha b (by simp [hb])) i1
  rw [rest,ef s { s2 with known:=noneK }]
  congr 1
  cases es:a.set with
  | true=>rfl
  | false =>
   simp only [Bool.false_eq_true,if_false]
   rw [(w1 es).2,(w2 es).2]
theorem QeS {nc:Nat}:∀ (as:List Act) (forms:Nat→CT) (s:St),(runS nc forms s as).length=as.length
 | [],_,_=>rfl
 | a::as,forms,s=>by simp [runS,QeS as]

theorem fresh {cs:List CT} {as:List Act} (h:Qak cs as=0):shown as (QaC cs as).1=(QaJ cs as).1:=by
 obtain ⟨z1,z2,z3,okF,okA⟩:=QbP h
 unfold QaC QaJ
 rw [if_pos h,if_pos h]
 exact Qj5 z2 as _ _ s0 s0 okF (exV okF) okA ⟨(fun _ h=>by cases h),(fun _ h=>by cases h),(fun _ h=>by cases h),(fun _ h=>by cases h)⟩
end Go.Ab.L26
/-! Chapter 26: the law CellsFresh. -/
namespace Go.Ab.L26
open Go Go.Ab
section
variable {F:FuncId→Option AFun} {M:Memo}
theorem RepD.low {N:Nat} {h h':AH} {l:List Told} {v:AV} (H:RepD N h l v) (hL:Low N h h'):RepD N h' l v:=by
 obtain ⟨rows,s,e,r⟩:=H.ex
 exact ⟨rows,s.low hL,e,fun i h1 h2=>by
  obtain ⟨w,e1,e2⟩:=r i h1 h2
  exact ⟨w,e1,e2.low hL⟩⟩
theorem QhL:∀ (as:List Act) (ds:List Told) (i:Nat) (h1:i<as.length) (h2:i<ds.length),shown (as.drop i) (ds.drop i)=(if as[i].set then [] else [ds[i].2])++shown (as.drop (i+1)) (ds.drop (i+1)):=fun as ds i h1 h2=>by
 rw [List.drop_eq_getElem_cons h1,List.drop_eq_getElem_cons h2]
 rfl
end
end Go.Ab.L26

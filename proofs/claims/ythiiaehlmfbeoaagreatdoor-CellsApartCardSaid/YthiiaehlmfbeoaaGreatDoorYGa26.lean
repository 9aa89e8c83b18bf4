/-
  A part of a proof: YGa26.
-/
import Derived.Test.YthiiaehlmfbeoaaGreatDoorXDrtoYF26
set_option linter.all false
/-! Chapter 26, plain: what the laws CellsNeeded, CellsApart and CellsSame say. -/
namespace Go.Ab.L26
open Go Go.Ab

structure Clo (nc:Nat) (forms:Nat→CT) (V:Nat→Int) (S:Nat→Prop):Prop where
 cl:∀ c i,c<nc→S c→(evalP V (forms c) noneO).2 i=true→S i
def Rea (nc:Nat) (forms:Nat→CT) (V:Nat→Int) (S:Nat→Prop) (cell:Nat) (ask:Ask):Prop :=
 ∀ j s,j<cell→Inv nc forms V s→S j→∀ c,(ask j s).2.known c=true→s.known c=false→S c
theorem Qdr {nc:Nat} {forms:Nat→CT} {V:Nat→Int} {S:Nat→Prop} {cell:Nat} {ask:Ask} (G:Good nc forms V cell ask) (R:Rea nc forms V S cell ask):∀ (z:Nat) (T:CT),sizeC T≤z→RightT cell T→∀ on s,Inv nc forms V s→(∀ i,(evalP V T on).2 i=true→S i) →
  ∀ c,(evalT ask T on s).2.2.known c=true→s.known c=false→S c
 | 0,.mk k n l,hz,_=>by simp [sizeC] at hz
 | z+1,.mk k n l,hz,hr=>fun on s hi hS c h1 h2=>by
  rcases hr.inv with ⟨rfl,rfl⟩ | ⟨q,rfl,rfl,hq,rfl⟩ | ⟨hk,a,b,rfl,ra,rb⟩ | ⟨rfl,a,b,d,rfl,ra,rb,rd⟩
  ·have h3:s.known c=true:=h1
   rw [h3] at h2;cases h2
  ·refine R q s hq hi (hS q ?_) c h1 h2
   simp only [evalP,combP,Int.toNat_natCast]
   exact Qa8
  ·simp only [sizeC,sizes] at hz
   have ia:=Qcq G z a (by omega) ra on s hi
   have two:(∀ i,(evalP V b (evalP V a on).2).2 i=true→S i)→(evalT ask b (evalT ask a on s).2.1 (evalT ask a on s).2.2).2.2.known c=true→S c:=fun hS h1=>by
    cases e:(evalT ask a on s).2.2.known c
    ·refine Qdr G R z b (by omega) rb _ _ ia.inv (fun i hi2=>hS i ?_) c h1 e
     rw [ia.o] at hi2
     exact hi2
    ·exact Qdr G R z a (by omega) ra on s hi (fun i hi2=>hS i (Qa7 z b (by omega) rb _ _ hi2)) c e h2
   rcases hk with rfl | rfl
   ·simp only [evalP,QcL,evalT,evals,combP,comb] at hS h1
    exact two hS h1
   ·simp only [evalP,QcL,evalT,evals,combP,comb] at hS h1
    exact two hS h1
  ·simp only [sizeC,sizes] at hz
   have ia:=Qcq G z a (by omega) ra on s hi
   have two:∀ b,sizeC b≤z→RightT cell b→(∀ i,(evalP V b (evalP V a on).2).2 i=true→S i)→(evalT ask b (evalT ask a on s).2.1 (evalT ask a on s).2.2).2.2.known c=true→S c:=fun b hb rb hS h1=>by
    cases e:(evalT ask a on s).2.2.known c
    ·refine Qdr G R z b hb rb _ _ ia.inv (fun i hi2=>hS i ?_) c h1 e
     rw [ia.o] at hi2
     exact hi2
    ·exact Qdr G R z a (by omega) ra on s hi (fun i hi2=>hS i (Qa7 z b hb rb _ _ hi2)) c e h2
   simp only [evalP,QcL,evalT,evals,combP,comb,ia.v] at hS h1
   by_cases c0:(evalP V a on).1<0
   ·rw [if_pos c0] at h1
    simp only [if_pos c0] at hS
    exact two b (by omega) rb hS h1
   ·rw [if_neg c0] at h1
    simp only [if_neg c0] at hS
    exact two d (by omega) rd hS h1
theorem QhH {nc:Nat} {forms:Nat→CT} {V:Nat→Int} {S:Nat→Prop} (H:OkF nc forms) (hV:IsV nc forms V) (C:Clo nc forms V S):∀ f cell,cell≤f→cell≤nc→Rea nc forms V S cell (Qaj forms f)
 | 0,cell,hc,_=>fun j s hj=>by omega
 | f+1,cell,hc,hn=>fun j s hj hi hS c h1 h2=>by
  have hjn:j<nc:=by omega
  unfold Qaj at h1
  by_cases k:s.known j=true
  ·simp only [if_pos k] at h1
   rw [h1] at h2;cases h2
  ·simp only [if_neg k] at h1
   by_cases e:c=j
   ·rw [e];exact hS
   ·have h3:upd (evalT (Qaj forms f) (forms j) (fun _=>false) { s with comp:=s.comp++[(j:Int)] }).2.2.known j true c=true:=h1
    rw [upd_ne e] at h3
    exact Qdr (Qb5 H hV f j (by omega) (by omega)) (QhH H hV C f j (by omega) (by omega)) _ (forms j) (Nat.le_refl _) (H.rt j hjn) noneO { s with comp:=s.comp++[(j:Int)] } (hi.comp _) (fun i hi2=>C.cl j i hjn hS hi2) c h3 h2
theorem Qlg {nc:Nat} {st:Nat→Nat→Bool} {f x:Nat} {kn:On} (hx:kn x=false) (hs:∀ c,kn c=true→st c x=false):QaI nc st f x kn=kn:=by
 cases f with
 | zero=>rfl
 | succ f =>
  have e:upd kn x false=kn:=funext fun i=>by
   by_cases e:i=x
   ·rw [e,Qa8,hx]
   ·rw [upd_ne e]
  by_cases an:anyK kn=true
  ·rw [Qeh an,e]
   have:∀ l:List Nat,l.foldl (stepF nc st f x) kn=kn:=fun l=>by
    induction l with
    | nil=>rfl
    | cons i l ih =>
     rw [List.foldl_cons]
     have:stepF nc st f x kn i=kn:=by
      unfold stepF
      rw [if_neg]
      intro h
      simp only [Bool.and_eq_true] at h
      rw [hs i h.1] at h
      cases h.2
     rw [this,ih]
   exact this _
  ·unfold QaI;rw [if_neg an]
theorem valueD_k {forms:Nat→CT} {f j:Nat} {s:St} (h:s.known j=true):Qaj forms (f+1) j s=(s.vals j,s):=by
 unfold Qaj;rw [if_pos h]
theorem valueD_n {forms:Nat→CT} {f j:Nat} {s:St} (h:s.known j=false):(Qaj forms (f+1) j s).2.comp=(evalT (Qaj forms f) (forms j) (fun _=>false) { s with comp:=s.comp++[(j:Int)] }).2.2.comp:=by
 unfold Qaj;rw [if_neg (by rw [h];simp)]

theorem apart {cs:List CT} {a b:Nat} {t:CT} (h:Qak cs [showA a,setA b t,showA a]=0) :
  ∃ d0 d1 d2,(QaC cs [showA a,setA b t,showA a]).1=[d0,d1,d2]∧((b:Int) ∉ d0.1→d2.1=[]∧d2.2=d0.2)∧((b:Int) ∈ d0.1→∃ l,d2.1=(a:Int)::l):=by
 obtain ⟨z1,z2,z3,okF,okA⟩:=QbP h
 have hm:(QaC cs [showA a,setA b t,showA a]).1=runS cs.length (Qaq cs) s0 [showA a,setA b t,showA a]:=by unfold QaC;rw [if_pos h]
 have oa:=okA (showA a) (by simp)
 have ob:=okA (setA b t) (by simp)
 have ha:a<cs.length:=by have:((a:Nat):Int)<cs.length:=oa.hi;omega
 have hb:b<cs.length:=by have:((b:Nat):Int)<cs.length:=ob.hi;omega
 have hV:=exV okF
 generalize valP (Qaq cs) cs.length=V at hV
 obtain ⟨g1,g2,g3,g4⟩:=Qb5 okF hV 6 cs.length z2 (Nat.le_refl _) a { s0 with comp:=[] } ha (Inv.start.comp _)
 obtain ⟨n,hn⟩:=Qdy okF 6 cs.length z2 (Nat.le_refl _) a { s0 with comp:=[] } ha
 have hr:=fun S C=>QhH (S:=S) okF hV C 6 cs.length z2 (Nat.le_refl _) a { s0 with comp:=[] } ha (Inv.start.comp _)
 have ea:actS cs.length (Qaq cs) s0 (showA a)=(Qaq cs,(Qaj (Qaq cs) 6 a { s0 with comp:=[] }).2,(Qaj (Qaq cs) 6 a { s0 with comp:=[] }).2.comp,(Qaj (Qaq cs) 6 a { s0 with comp:=[] }).1):=rfl
 generalize Qaj (Qaq cs) 6 a { s0 with comp:=[] }=r at *
 have hc:r.2.comp=n:=by rw [hn.comp];rfl
 have eb:∀ s,actS cs.length (Qaq cs) s (setA b t)=(upd (Qaq cs) b t,{ s with known:=QaI cs.length s.stands 7 b s.known },[],0):=fun s=>rfl
 have ec:∀ F s,actS cs.length F s (showA a)=(F,(Qaj F 6 a { s with comp:=[] }).2,(Qaj F 6 a { s with comp:=[] }).2.comp,(Qaj F 6 a { s with comp:=[] }).1):=fun F s=>rfl
 refine ⟨(r.2.comp,r.1),([],0),((Qaj (upd (Qaq cs) b t) 6 a { { r.2 with known:=QaI cs.length r.2.stands 7 b r.2.known } with comp:=[] }).2.comp,(Qaj (upd (Qaq cs) b t) 6 a { { r.2 with known:=QaI cs.length r.2.stands 7 b r.2.known } with comp:=[] }).1),?_,?_,?_⟩
 ·rw [hm]
  simp only [runS,ea,eb,ec]
 ·intro hnb
  have hnb:(b:Int) ∉ r.2.comp:=hnb
  rw [hc] at hnb
  have kb:r.2.known b=false:=by
   cases e:r.2.known b
   ·rfl
   ·exact absurd (hn.all b e rfl) hnb
  have ef:QaI cs.length r.2.stands 7 b r.2.known=r.2.known:=Qlg kb fun c hk=>by
   cases e:r.2.stands c b
   ·rfl
   ·have:=g2.cl c hk b e
    rw [this] at kb;cases kb
  simp only [ef]
  rw [valueD_k (s:={ vals:=r.2.vals,known:=r.2.known,stands:=r.2.stands,comp:=[] }) g4]
  exact ⟨rfl,by show r.2.vals a=r.1;rw [g2.val a g4,g1]⟩
 ·intro hnb
  have hnb:(b:Int) ∈ r.2.comp:=hnb
  rw [hc] at hnb
  have kb:r.2.known b=true:=by
   obtain ⟨k,e1,e2,e3,e4⟩:=hn.el _ hnb
   have:b=k:=by omega
   rw [this];exact e4
  have lf:=Qeg z2 (st:=r.2.stands) 7 b r.2.known hb (by have:=Qln r.2.known;omega) g2.lt
  generalize QaI cs.length r.2.stands 7 b r.2.known=kn' at lf
  have ka:kn' a=false:=by
   cases e:kn' a
   ·rfl
   ·have:=hr (fun c=>kn' c=true) ⟨fun c i hcn hk he=>by
     have hkc:=lf.sub c hk
     have hst:r.2.stands c i=true:=by rw [g2.st c hkc];exact he
     exact (lf.cl c hk i hst).2 (g2.cl c hkc i hst)⟩ e b kb rfl
    rw [lf.gone] at this
    cases this
  show ∃ l,(Qaj (upd (Qaq cs) b t) 6 a { { r.2 with known:=kn' } with comp:=[] }).2.comp=(a:Int)::l
  have okF2:OkF cs.length (upd (Qaq cs) b t):=okF.act (s:=s0) ob
  rw [valueD_n (s:={ vals:=r.2.vals,known:=kn',stands:=r.2.stands,comp:=[] }) ka]
  obtain ⟨n2,hn2⟩:=Qcc (Qdy okF2 5 a (by omega) (by omega)) _ (upd (Qaq cs) b t a) (Nat.le_refl _) (okF2.rt a ha) (fun _=>false) { { { r.2 with known:=kn' } with comp:=[] } with comp:=[]++[(a:Int)] }
  refine ⟨n2,?_⟩
  show (evalT _ _ _ _).2.2.comp=_
  rw [hn2.comp]
  rfl
end Go.Ab.L26

/- A part of a proof. -/
import Derived.Test.YthiiaehlmfbeoaaGreatDoorAbBtoAbS
set_option linter.all false
noncomputable section
namespace Go.Ab
open Go
noncomputable section
inductive D8 where
 |d0|d1|d2|d3|d4|d5|d6|d7
 deriving DecidableEq
def D8.of(n:Nat):D8:=
 Bool.rec (Bool.rec (Bool.rec .d7 .d6 (Nat.ble n 6)) (Bool.rec .d5 .d4 (Nat.ble n 4)) (Nat.ble n 5)) (Bool.rec (Bool.rec .d3 .d2 (Nat.ble n 2)) (Bool.rec .d1 .d0 (Nat.ble n 0)) (Nat.ble n 1)) (Nat.ble n 3)
def D8.val:D8→Nat
 | .d0=>0|.d1=>1|.d2=>2|.d3=>3|.d4=>4|.d5=>5|.d6=>6|.d7=>7
theorem D8.val_of{n:Nat}(h:n<8):(D8.of n).val=n:=by
 match n,h with
 |0,_=>rfl
 |1,_=>rfl
 |2,_=>rfl
 |3,_=>rfl
 |4,_=>rfl
 |5,_=>rfl
 |6,_=>rfl
 |7,_=>rfl
def QfY(α:Type)(n:Nat)(k:Nat→α):α:=@Nat.rec (fun _=>α) (k 0) (fun m _=>k (Nat.succ m)) n
theorem QhJ{α:Type}(n:Nat)(k:Nat→α):QfY α n k=k n:=by cases n<;>rfl
def pathF:Nat→Nat→List D8:=
 @Nat.rec (fun _=>Nat→List D8) (fun _=>[]) fun _ ih i=>@Bool.rec (fun _=>List D8) (List.cons (QfY D8 (Nat.mod (Nat.pred i) 8) D8.of) (QfY (List D8) (Nat.div (Nat.pred i) 8) ih)) [] (Nat.beq i 0)
def path(i:Nat):List D8:=@Bool.rec (fun _=>List D8) (pathF i i) (pathF 20 i) (Nat.blt i (8^20))
theorem QeV(f:Nat):pathF f 0=[]:=by cases f<;>rfl
theorem QcI(f i:Nat)(h:i≠0):pathF (f+1) i=D8.of ((i-1)%8)::pathF f ((i-1) / 8):=by
 show @Bool.rec (fun _=>List D8) (List.cons (QfY D8 (Nat.mod (Nat.pred i) 8) D8.of) (QfY (List D8) (Nat.div (Nat.pred i) 8) (pathF f))) [] (Nat.beq i 0)=_;have:Nat.beq i 0=false:=by
  cases hb:Nat.beq i 0 with
  |false=>rfl
  |true=>exact absurd (Nat.eq_of_beq_eq_true hb) h
 rw[this,QhJ,QhJ];rfl
theorem QnB:∀(f g i j:Nat),i<8^f→j<8^g→pathF f i=pathF g j→i=j:=by
 intro f
 induction f with
 |zero =>
  intro g i j hi hj h;have:i=0:=by simpa using hi
  subst this;by_cases hj0:j=0
  ·exact hj0.symm
  ·obtain⟨g',rfl⟩:∃g',g=g'+1:=⟨g-1,by
    cases g with
    |zero=>exact absurd (by simpa using hj) hj0
    |succ g=>rfl⟩
   rw[QeV,QcI _ _ hj0]at h;cases h
 |succ f ih =>
  intro g i j hi hj h;by_cases hi0:i=0
  ·subst hi0;by_cases hj0:j=0
   ·exact hj0.symm
   ·obtain⟨g',rfl⟩:∃g',g=g'+1:=⟨g-1,by
     cases g with
     |zero=>exact absurd (by simpa using hj) hj0
     |succ g=>rfl⟩
    rw[QeV,QcI _ _ hj0]at h;cases h
  ·by_cases hj0:j=0
   ·subst hj0;rw[QcI _ _ hi0,QeV]at h;cases h
   ·obtain⟨g',rfl⟩:∃g',g=g'+1:=⟨g-1,by
     cases g with
     |zero=>exact absurd (by simpa using hj) hj0
     |succ g=>rfl⟩
    rw[QcI _ _ hi0,QcI _ _ hj0]at h;simp only[List.cons.injEq]at h;have h1:=congrArg D8.val h.1;rw[D8.val_of (Nat.mod_lt _ (by omega)),D8.val_of (Nat.mod_lt _ (by omega))]at h1;rw[Nat.pow_succ]at hi hj;have h2:=ih g' ((i-1) / 8) ((j-1) / 8) (by omega) (by omega) h.2;omega
theorem QnA(i:Nat):∃f,path i=pathF f i∧i<8^f:=by
 unfold path;cases hb:Nat.blt i (8^20) with
 |false=>exact⟨i,rfl,Nat.lt_pow_self (by omega)⟩
 |true=>exact⟨20,rfl,Nat.blt_eq.mp hb⟩
theorem path_inj{i j:Nat}(h:path i=path j):i=j:=by
 obtain⟨f,h1,h2⟩:=QnA i;obtain⟨g,h3,h4⟩:=QnA j;exact QnB f g i j h2 h4 (by rw[←h1,←h3];exact h)
inductive T8 (α:Type) where
 |nil
 |node (v:Option α)(c0 c1 c2 c3 c4 c5 c6 c7:T8 α)
namespace T8
variable{α:Type}
def sel:D8→T8 α→T8 α→T8 α→T8 α→T8 α→T8 α→T8 α→T8 α→T8 α
 | .d0,a,_,_,_,_,_,_,_=>a
 | .d1,_,a,_,_,_,_,_,_=>a
 | .d2,_,_,a,_,_,_,_,_=>a
 | .d3,_,_,_,a,_,_,_,_=>a
 | .d4,_,_,_,_,a,_,_,_=>a
 | .d5,_,_,_,_,_,a,_,_=>a
 | .d6,_,_,_,_,_,_,a,_=>a
 | .d7,_,_,_,_,_,_,_,a=>a
def getP:List D8→T8 α→Option α
 | [],.node v _ _ _ _ _ _ _ _=>v
 |d::p,.node _ a b c e f g h i=>getP p (sel d a b c e f g h i)
 |_,.nil=>none
def put(v:Option α):D8→T8 α→T8 α→T8 α→T8 α→T8 α→T8 α→T8 α→T8 α→T8 α→T8 α
 | .d0,x,_,b,c,e,f,g,h,i=>.node v x b c e f g h i
 | .d1,x,a,_,c,e,f,g,h,i=>.node v a x c e f g h i
 | .d2,x,a,b,_,e,f,g,h,i=>.node v a b x e f g h i
 | .d3,x,a,b,c,_,f,g,h,i=>.node v a b c x f g h i
 | .d4,x,a,b,c,e,_,g,h,i=>.node v a b c e x g h i
 | .d5,x,a,b,c,e,f,_,h,i=>.node v a b c e f x h i
 | .d6,x,a,b,c,e,f,g,_,i=>.node v a b c e f g x i
 | .d7,x,a,b,c,e,f,g,h,_=>.node v a b c e f g h x
def setP(x:Option α):List D8→T8 α→T8 α
 | [],.node _ a b c e f g h i=>.node x a b c e f g h i
 | [],.nil=>.node x .nil .nil .nil .nil .nil .nil .nil .nil
 |d::p,.node v a b c e f g h i=>put v d (setP x p (sel d a b c e f g h i)) a b c e f g h i
 |d::p,.nil=>put none d (setP x p .nil) .nil .nil .nil .nil .nil .nil .nil .nil
theorem getP_nil(p:List D8):getP p (.nil:T8 α)=none:=by cases p<;>rfl
theorem Ql5(v:Option α)(d d':D8)(p:List D8)(x a b c e f g h i:T8 α):getP (d'::p) (put v d x a b c e f g h i)=if d'=d then getP p x else getP p (sel d' a b c e f g h i):=by
 cases d<;>cases d'<;>rfl
theorem QeE(v:Option α)(d:D8)(x a b c e f g h i:T8 α):getP [] (put v d x a b c e f g h i)=v:=by
 cases d<;>rfl
theorem Qob(x:Option α):∀(q p:List D8)(t:T8 α),getP p (setP x q t)=if p=q then x else getP p t:=by
 intro q
 induction q with
 |nil =>
  intro p t;cases p with
  |nil=>cases t<;>rfl
  |cons d p =>
   cases t with
   |nil =>
    simp only[setP,getP,getP_nil];cases d<;>simp[sel,getP_nil]
   |node v a b c e f g h i=>simp[setP,getP]
 |cons d q ih =>
  intro p t;cases p with
  |nil =>
   cases t with
   |nil=>simp only[setP,QeE];rfl
   |node v a b c e f g h i=>simp only[setP,QeE];rfl
  |cons d' p =>
   cases t with
   |nil =>
    simp only[setP,Ql5,ih,getP_nil];by_cases h1:d'=d
    ·simp[h1]
    ·have:¬(d'::p=d::q):=fun e=>h1 (List.cons.inj e).1
     simp only[h1,if_false,this];cases d'<;>simp[sel,getP_nil]
   |node v a b c e f g h i =>
    simp only[setP,Ql5,ih];by_cases h1:d'=d
    ·subst h1;by_cases h2:p=q
     ·simp[h2]
     ·have:¬(d'::p=d'::q):=fun e=>h2 (List.cons.inj e).2
      simp only[if_true,h2,if_false,this];rfl
    ·have:¬(d'::p=d::q):=fun e=>h1 (List.cons.inj e).1
     simp only[h1,if_false,this];rfl
def get(t:T8 α)(i:Nat):Option α:=getP (path i) t
def set(t:T8 α)(i:Nat)(x:α):T8 α:=setP (some x) (path i) t
def del(t:T8 α)(i:Nat):T8 α:=setP none (path i) t
theorem get_nil(i:Nat):(nil:T8 α).get i=none:=getP_nil _
theorem Ql4(t:T8 α)(x:Option α)(i j:Nat):(setP x (path i) t).get j=if j=i then x else t.get j:=by
 unfold get;rw[Qob];by_cases h:j=i
 ·subst h;simp
 ·have:¬path j=path i:=fun e=>h (path_inj e)
  simp[h,this]
theorem get_set(t:T8 α)(i j:Nat)(x:α):(t.set i x).get j=if j=i then some x else t.get j:=Ql4 t (some x) i j
theorem get_del(t:T8 α)(i j:Nat):(t.del i).get j=if j=i then none else t.get j:=Ql4 t none i j
end T8
def selC(α:Type):D8→T8 α→T8 α→T8 α→T8 α→T8 α→T8 α→T8 α→T8 α→(T8 α→Bool)→Bool:=
 @D8.rec (fun _=>T8 α→T8 α→T8 α→T8 α→T8 α→T8 α→T8 α→T8 α→(T8 α→Bool)→Bool) (fun a _ _ _ _ _ _ _ k=>k a) (fun _ a _ _ _ _ _ _ k=>k a) (fun _ _ a _ _ _ _ _ k=>k a) (fun _ _ _ a _ _ _ _ k=>k a) (fun _ _ _ _ a _ _ _ k=>k a)
  (fun _ _ _ _ _ a _ _ k=>k a) (fun _ _ _ _ _ _ a _ k=>k a) (fun _ _ _ _ _ _ _ a k=>k a)
theorem selC_eq{α:Type}(d:D8)(a b c e f g h i:T8 α)(k:T8 α→Bool):selC α d a b c e f g h i k=k (T8.sel d a b c e f g h i):=by cases d<;>rfl
def getK(α:Type):List D8→T8 α→(α→Bool)→Bool→Bool:=
 @List.rec D8 (fun _=>T8 α→(α→Bool)→Bool→Bool)
  (fun t k d=>@T8.rec α (fun _=>Bool) d (fun v _ _ _ _ _ _ _ _ _ _ _ _ _ _ _ _=>@Option.rec α (fun _=>Bool) d k v) t)
  (fun x _ ih t k d=>@T8.rec α (fun _=>Bool) d (fun _ a b c e f g h i _ _ _ _ _ _ _ _=>selC α x a b c e f g h i fun ch=>ih ch k d) t)
theorem Qdq{α:Type}(p:List D8):∀(t:T8 α)(k:α→Bool)(d:Bool),getK α p t k d=match T8.getP p t with|some v=>k v|none=>d:=by
 induction p with
 |nil =>
  intro t k d;cases t with
  |nil=>rfl
  |node v a b c e f g h i=>cases v<;>rfl
 |cons x p ih =>
  intro t k d;cases t with
  |nil=>rfl
  |node v a b c e f g h i =>
   show selC α x a b c e f g h i (fun ch=>getK α p ch k d)=_;rw[selC_eq,ih];rfl
abbrev Put8(α:Type):Type:=Option α→T8 α→T8 α→T8 α→T8 α→T8 α→T8 α→T8 α→T8 α→(T8 α→(T8 α→Bool)→Bool)→(T8 α→Bool)→Bool
def putK(α:Type):D8→Put8 α:=
 @D8.rec (fun _=>Put8 α)
  (fun v a b c e f g h i s k=>s a fun x=>k (.node v x b c e f g h i))
  (fun v a b c e f g h i s k=>s b fun x=>k (.node v a x c e f g h i))
  (fun v a b c e f g h i s k=>s c fun x=>k (.node v a b x e f g h i))
  (fun v a b c e f g h i s k=>s e fun x=>k (.node v a b c x f g h i))
  (fun v a b c e f g h i s k=>s f fun x=>k (.node v a b c e x g h i))
  (fun v a b c e f g h i s k=>s g fun x=>k (.node v a b c e f x h i))
  (fun v a b c e f g h i s k=>s h fun x=>k (.node v a b c e f g x i))
  (fun v a b c e f g h i s k=>s i fun x=>k (.node v a b c e f g h x))
def setK(α:Type)(x:Option α):List D8→T8 α→(T8 α→Bool)→Bool:=
 @List.rec D8 (fun _=>T8 α→(T8 α→Bool)→Bool)
  (fun t k=>@T8.rec α (fun _=>Bool) (k (.node x .nil .nil .nil .nil .nil .nil .nil .nil)) (fun _ a b c e f g h i _ _ _ _ _ _ _ _=>k (.node x a b c e f g h i)) t)
  (fun d _ ih t k=>@T8.rec α (fun _=>Bool) (putK α d none .nil .nil .nil .nil .nil .nil .nil .nil ih k) (fun v a b c e f g h i _ _ _ _ _ _ _ _=>putK α d v a b c e f g h i ih k) t)
theorem Qf6{α:Type}(x:Option α)(p:List D8):∀(t:T8 α)(k:T8 α→Bool),setK α x p t k=k (T8.setP x p t):=by
 induction p with
 |nil =>
  intro t k;cases t<;>rfl
 |cons d p ih =>
  have hput:∀(v:Option α) (a b c e f g h i:T8 α) (k:T8 α→Bool),putK α d v a b c e f g h i (setK α x p) k=k (T8.put v d (T8.setP x p (T8.sel d a b c e f g h i)) a b c e f g h i):=by
   intro v a b c e f g h i k;cases d<;>exact ih _ _
  intro t k;cases t with
  |nil=>exact(hput none .nil .nil .nil .nil .nil .nil .nil .nil k).trans (by cases d<;>rfl)
  |node v a b c e f g h i=>exact hput v a b c e f g h i k
end
end Go.Ab
namespace Go.Ab
open Go
noncomputable section
def boolD:AV→(Bool→Bool)→Bool:=
 @AV.rec (fun _=>(Bool→Bool)→Bool) (fun _=>Unit) (fun _=>Unit)
  (fun _=>false)
  (fun b kk=>kk b)
  (fun _ _ _=>false)
  (fun _ _ _=>false)
  (fun _=>false)
  (fun _ _ _=>false)
  (fun _ _ _=>false)
  (fun _=>false)
  (fun _=>false)
  (fun _ _ _ _ _=>false)
  (fun _ _ _ _ _=>false)
  (fun _ _ _=>false)
  (fun _=>false)
  (fun _ _=>false)
  (fun _ _ _ _ _ _=>false)
  (fun _ _=>false)
  (fun _=>false)
  (fun _ _ _ _=>false)
  (fun _=>false)
  (fun _ _ _=>false)
  (fun _ _ _=>false)
  () (fun _ _ _ _=>()) () (fun _ _ _ _=>())
theorem Qi9(v:AV)(kk:Bool→Bool):boolD v kk=match v with
  | .bool b=>kk b
  |_=>false:=by cases v<;>rfl
def intD:AV→(IntKind→Int→Bool)→Bool:=
 @AV.rec (fun _=>(IntKind→Int→Bool)→Bool) (fun _=>Unit) (fun _=>Unit)
  (fun _=>false)
  (fun _ _=>false)
  (fun k n kk=>kk k n)
  (fun _ _ _=>false)
  (fun _=>false)
  (fun _ _ _=>false)
  (fun _ _ _=>false)
  (fun _=>false)
  (fun _=>false)
  (fun _ _ _ _ _=>false)
  (fun _ _ _ _ _=>false)
  (fun _ _ _=>false)
  (fun _=>false)
  (fun _ _=>false)
  (fun _ _ _ _ _ _=>false)
  (fun _ _=>false)
  (fun _=>false)
  (fun _ _ _ _=>false)
  (fun _=>false)
  (fun _ _ _=>false)
  (fun _ _ _=>false)
  () (fun _ _ _ _=>()) () (fun _ _ _ _=>())
theorem Qk4(v:AV)(kk:IntKind→Int→Bool):intD v kk=match v with
  | .int k n=>kk k n
  |_=>false:=by cases v<;>rfl
def strD:AV→(Nat→Nat→Bool)→Bool:=
 @AV.rec (fun _=>(Nat→Nat→Bool)→Bool) (fun _=>Unit) (fun _=>Unit)
  (fun _=>false)
  (fun _ _=>false)
  (fun _ _ _=>false)
  (fun n b kk=>kk n b)
  (fun _=>false)
  (fun _ _ _=>false)
  (fun _ _ _=>false)
  (fun _=>false)
  (fun _=>false)
  (fun _ _ _ _ _=>false)
  (fun _ _ _ _ _=>false)
  (fun _ _ _=>false)
  (fun _=>false)
  (fun _ _=>false)
  (fun _ _ _ _ _ _=>false)
  (fun _ _=>false)
  (fun _=>false)
  (fun _ _ _ _=>false)
  (fun _=>false)
  (fun _ _ _=>false)
  (fun _ _ _=>false)
  () (fun _ _ _ _=>()) () (fun _ _ _ _=>())
theorem QfZ(v:AV)(kk:Nat→Nat→Bool):strD v kk=match v with
  | .str n b=>kk n b
  |_=>false:=by cases v<;>rfl
def ptrD:AV→(Nat→Nat→Bool)→(List AV→Bool)→Bool:=
 @AV.rec (fun _=>(Nat→Nat→Bool)→(List AV→Bool)→Bool) (fun _=>Unit) (fun _=>Unit)
  (fun _ _=>false)
  (fun _ _ _=>false)
  (fun _ _ _ _=>false)
  (fun _ _ _ _=>false)
  (fun _ _=>false)
  (fun b o kp _=>kp b o)
  (fun l _ _ ki=>ki l)
  (fun _ _=>false)
  (fun _ _=>false)
  (fun _ _ _ _ _ _=>false)
  (fun _ _ _ _ _ _=>false)
  (fun _ _ _ _=>false)
  (fun _ _=>false)
  (fun _ _ _=>false)
  (fun _ _ _ _ _ _ _=>false)
  (fun _ _ _=>false)
  (fun _ _=>false)
  (fun _ _ _ _ _=>false)
  (fun _ _=>false)
  (fun _ _ _ _=>false)
  (fun _ _ _ _=>false)
  () (fun _ _ _ _=>()) () (fun _ _ _ _=>())
theorem Qct(v:AV)(kp:Nat→Nat→Bool)(ki:List AV→Bool):ptrD v kp ki=match v with
  | .ptr b o=>kp b o
  | .iptr l=>ki l
  |_=>false:=by cases v<;>rfl
def aggD:AV→(List AV→Bool)→Bool:=
 @AV.rec (fun _=>(List AV→Bool)→Bool) (fun _=>Unit) (fun _=>Unit)
  (fun _=>false)
  (fun _ _=>false)
  (fun _ _ _=>false)
  (fun _ _ _=>false)
  (fun _=>false)
  (fun _ _ _=>false)
  (fun _ _ _=>false)
  (fun _=>false)
  (fun _=>false)
  (fun _ _ _ _ _=>false)
  (fun _ _ _ _ _=>false)
  (fun _ _ _=>false)
  (fun _=>false)
  (fun _ _=>false)
  (fun _ _ _ _ _ _=>false)
  (fun _ _=>false)
  (fun _=>false)
  (fun _ _ _ _=>false)
  (fun _=>false)
  (fun l _ kk=>kk l)
  (fun _ _ _=>false)
  () (fun _ _ _ _=>()) () (fun _ _ _ _=>())
theorem Qlv(v:AV)(kk:List AV→Bool):aggD v kk=match v with
  | .agg l=>kk l
  |_=>false:=by cases v<;>rfl
def Qnh:AV→(List AV→Bool)→Bool:=
 @AV.rec (fun _=>(List AV→Bool)→Bool) (fun _=>Unit) (fun _=>Unit)
  (fun _=>false)
  (fun _ _=>false)
  (fun _ _ _=>false)
  (fun _ _ _=>false)
  (fun _=>false)
  (fun _ _ _=>false)
  (fun _ _ _=>false)
  (fun _=>false)
  (fun _=>false)
  (fun _ _ _ _ _=>false)
  (fun _ _ _ _ _=>false)
  (fun _ _ _=>false)
  (fun _=>false)
  (fun _ _=>false)
  (fun _ _ _ _ _ _=>false)
  (fun _ _=>false)
  (fun _=>false)
  (fun _ _ _ _=>false)
  (fun _=>false)
  (fun _ _ _=>false)
  (fun l _ kk=>kk l)
  () (fun _ _ _ _=>()) () (fun _ _ _ _=>())
theorem Qjd(v:AV)(kk:List AV→Bool):Qnh v kk=match v with
  | .tuple l=>kk l
  |_=>false:=by cases v<;>rfl
def QdU:AV→(Bool)→(Bool)→(Nat→Nat→Nat→Nat→Bool)→(Nat→Nat→Nat→Nat→Bool)→(List (List AV)→Bool)→Bool:=
 @AV.rec (fun _=>(Bool)→(Bool)→(Nat→Nat→Nat→Nat→Bool)→(Nat→Nat→Nat→Nat→Bool)→(List (List AV)→Bool)→Bool) (fun _=>Unit) (fun _=>Unit)
  (fun _ _ _ _ _=>false)
  (fun _ _ _ _ _ _=>false)
  (fun _ _ _ _ _ _ _=>false)
  (fun _ _ _ _ _ _ _=>false)
  (fun _ _ _ _ _=>false)
  (fun _ _ _ _ _ _ _=>false)
  (fun _ _ _ _ _ _ _=>false)
  (fun kn _ _ _ _=>kn)
  (fun _ ke _ _ _=>ke)
  (fun b o n c _ _ ks _ _=>ks b o n c)
  (fun b o n e _ _ _ kl _=>kl b o n e)
  (fun l _ _ _ _ _ kv=>kv l)
  (fun _ _ _ _ _=>false)
  (fun _ _ _ _ _ _=>false)
  (fun _ _ _ _ _ _ _ _ _ _=>false)
  (fun _ _ _ _ _ _=>false)
  (fun _ _ _ _ _=>false)
  (fun _ _ _ _ _ _ _ _=>false)
  (fun _ _ _ _ _=>false)
  (fun _ _ _ _ _ _ _=>false)
  (fun _ _ _ _ _ _ _=>false)
  () (fun _ _ _ _=>()) () (fun _ _ _ _=>())
theorem Qbp(v:AV)(kn:Bool)(ke:Bool)(ks:Nat→Nat→Nat→Nat→Bool)(kl:Nat→Nat→Nat→Nat→Bool)(kv:List (List AV)→Bool):QdU v kn ke ks kl kv=match v with
  | .nilslice  => kn
  | .empty  => ke
  | .slice b o n c=>ks b o n c
  | .slop b o n e=>kl b o n e
  | .vec l=>kv l
  |_=>false:=by cases v<;>rfl
def mapD:AV→(Bool)→(Nat→Bool)→Bool:=
 @AV.rec (fun _=>(Bool)→(Nat→Bool)→Bool) (fun _=>Unit) (fun _=>Unit)
  (fun _ _=>false)
  (fun _ _ _=>false)
  (fun _ _ _ _=>false)
  (fun _ _ _ _=>false)
  (fun _ _=>false)
  (fun _ _ _ _=>false)
  (fun _ _ _ _=>false)
  (fun _ _=>false)
  (fun _ _=>false)
  (fun _ _ _ _ _ _=>false)
  (fun _ _ _ _ _ _=>false)
  (fun _ _ _ _=>false)
  (fun kn _=>kn)
  (fun b _ kk=>kk b)
  (fun _ _ _ _ _ _ _=>false)
  (fun _ _ _=>false)
  (fun _ _=>false)
  (fun _ _ _ _ _=>false)
  (fun _ _=>false)
  (fun _ _ _ _=>false)
  (fun _ _ _ _=>false)
  () (fun _ _ _ _=>()) () (fun _ _ _ _=>())
theorem Qe1(v:AV)(kn:Bool)(kk:Nat→Bool):mapD v kn kk=match v with
  | .nilmap  => kn
  | .map b=>kk b
  |_=>false:=by cases v<;>rfl
def funcD:AV→(FuncId→List AV→List AV→Bool)→(Nat→Bool)→Bool:=
 @AV.rec (fun _=>(FuncId→List AV→List AV→Bool)→(Nat→Bool)→Bool) (fun _=>Unit) (fun _=>Unit)
  (fun _ _=>false)
  (fun _ _ _=>false)
  (fun _ _ _ _=>false)
  (fun _ _ _ _=>false)
  (fun _ _=>false)
  (fun _ _ _ _=>false)
  (fun _ _ _ _=>false)
  (fun _ _=>false)
  (fun _ _=>false)
  (fun _ _ _ _ _ _=>false)
  (fun _ _ _ _ _ _=>false)
  (fun _ _ _ _=>false)
  (fun _ _=>false)
  (fun _ _ _=>false)
  (fun f x y _ _ kk _=>kk f x y)
  (fun l _ ky=>ky l)
  (fun _ _=>false)
  (fun _ _ _ _ _=>false)
  (fun _ _=>false)
  (fun _ _ _ _=>false)
  (fun _ _ _ _=>false)
  () (fun _ _ _ _=>()) () (fun _ _ _ _=>())
theorem QfN(v:AV)(kk:FuncId→List AV→List AV→Bool)(ky:Nat→Bool):funcD v kk ky=match v with
  | .func f x y=>kk f x y
  | .yield l=>ky l
  |_=>false:=by cases v<;>rfl
def QjZ:AV→(TypeId→AV→Bool)→(Bool)→Bool:=
 @AV.rec (fun _=>(TypeId→AV→Bool)→(Bool)→Bool) (fun _=>Unit) (fun _=>Unit)
  (fun _ _=>false)
  (fun _ _ _=>false)
  (fun _ _ _ _=>false)
  (fun _ _ _ _=>false)
  (fun _ _=>false)
  (fun _ _ _ _=>false)
  (fun _ _ _ _=>false)
  (fun _ _=>false)
  (fun _ _=>false)
  (fun _ _ _ _ _ _=>false)
  (fun _ _ _ _ _ _=>false)
  (fun _ _ _ _=>false)
  (fun _ _=>false)
  (fun _ _ _=>false)
  (fun _ _ _ _ _ _ _=>false)
  (fun _ _ _=>false)
  (fun _ _=>false)
  (fun t v _ kk _=>kk t v)
  (fun _ kn=>kn)
  (fun _ _ _ _=>false)
  (fun _ _ _ _=>false)
  () (fun _ _ _ _=>()) () (fun _ _ _ _=>())
theorem QgP(v:AV)(kk:TypeId→AV→Bool)(kn:Bool):QjZ v kk kn=match v with
  | .iface t v=>kk t v
  | .nilIface  => kn
  |_=>false:=by cases v<;>rfl
def binD:AV→(IntKind→Int→Bool)→(Nat→Nat→Bool)→(Bool)→Bool:=
 @AV.rec (fun _=>(IntKind→Int→Bool)→(Nat→Nat→Bool)→(Bool)→Bool) (fun _=>Unit) (fun _=>Unit)
  (fun _ _ ko=>ko)
  (fun _ _ _ ko=>ko)
  (fun k n ki _ _=>ki k n)
  (fun n b _ ks _=>ks n b)
  (fun _ _ ko=>ko)
  (fun _ _ _ _ ko=>ko)
  (fun _ _ _ _ ko=>ko)
  (fun _ _ ko=>ko)
  (fun _ _ ko=>ko)
  (fun _ _ _ _ _ _ ko=>ko)
  (fun _ _ _ _ _ _ ko=>ko)
  (fun _ _ _ _ ko=>ko)
  (fun _ _ ko=>ko)
  (fun _ _ _ ko=>ko)
  (fun _ _ _ _ _ _ _ ko=>ko)
  (fun _ _ _ ko=>ko)
  (fun _ _ ko=>ko)
  (fun _ _ _ _ _ ko=>ko)
  (fun _ _ ko=>ko)
  (fun _ _ _ _ ko=>ko)
  (fun _ _ _ _ ko=>ko)
  () (fun _ _ _ _=>()) () (fun _ _ _ _=>())
theorem Qhg(v:AV)(ki:IntKind→Int→Bool)(ks:Nat→Nat→Bool)(ko:Bool):binD v ki ks ko=match v with
  | .int k n=>ki k n
  | .str n b=>ks n b
  |_=>ko:=by cases v<;>rfl
def Qn7:AV→(Bool→Bool)→(List AV→Bool)→Bool:=
 @AV.rec (fun _=>(Bool→Bool)→(List AV→Bool)→Bool) (fun _=>Unit) (fun _=>Unit)
  (fun _ _=>false)
  (fun b kb _=>kb b)
  (fun _ _ _ _=>false)
  (fun _ _ _ _=>false)
  (fun _ _=>false)
  (fun _ _ _ _=>false)
  (fun _ _ _ _=>false)
  (fun _ _=>false)
  (fun _ _=>false)
  (fun _ _ _ _ _ _=>false)
  (fun _ _ _ _ _ _=>false)
  (fun _ _ _ _=>false)
  (fun _ _=>false)
  (fun _ _ _=>false)
  (fun _ _ _ _ _ _ _=>false)
  (fun _ _ _=>false)
  (fun _ _=>false)
  (fun _ _ _ _ _=>false)
  (fun _ _=>false)
  (fun _ _ _ _=>false)
  (fun l _ _ kt=>kt l)
  () (fun _ _ _ _=>()) () (fun _ _ _ _=>())
theorem Qn6(v:AV)(kb:Bool→Bool)(kt:List AV→Bool):Qn7 v kb kt=match v with
  | .bool b=>kb b
  | .tuple l=>kt l
  |_=>false:=by cases v<;>rfl
def cellsKD:AV→AV→(List AV→Bool)→Bool:=
 @AV.rec (fun _=>AV→(List AV→Bool)→Bool) (fun _=>Unit) (fun _=>Unit)
  (fun _ _=>false)
  (fun _ w k=>k (List.cons w []))
  (fun _ _ w k=>k (List.cons w []))
  (fun _ _ w k=>k (List.cons w []))
  (fun w k=>k (List.cons w []))
  (fun _ _ w k=>k (List.cons w []))
  (fun _ _ w k=>k (List.cons w []))
  (fun w k=>k (List.cons w []))
  (fun w k=>k (List.cons w []))
  (fun _ _ _ _ w k=>k (List.cons w []))
  (fun _ _ _ _ w k=>k (List.cons w []))
  (fun _ _ w k=>k (List.cons w []))
  (fun w k=>k (List.cons w []))
  (fun _ w k=>k (List.cons w []))
  (fun _ _ _ _ _ w k=>k (List.cons w []))
  (fun _ w k=>k (List.cons w []))
  (fun w k=>k (List.cons w []))
  (fun _ _ _ w k=>k (List.cons w []))
  (fun w k=>k (List.cons w []))
  (fun l _ _ k=>k l)
  (fun _ _ w k=>k (List.cons w []))
  () (fun _ _ _ _=>()) () (fun _ _ _ _=>())
def Qki(v:AV)(k:List AV→Bool):Bool:=cellsKD v v k
theorem Qhb(v:AV)(k:List AV→Bool):Qki v k=if v.known then k v.cells else false:=by cases v<;>rfl
def oneD:AV→Bool:=
 @AV.rec (fun _=>Bool) (fun _=>Unit) (fun _=>Unit)
  false
  (fun _=>true)
  (fun _ _=>true)
  (fun _ _=>true)
  true
  (fun _ _=>true)
  (fun _ _=>true)
  true
  true
  (fun _ _ _ _=>true)
  (fun _ _ _ _=>true)
  (fun _ _=>true)
  true
  (fun _=>true)
  (fun _ _ _ _ _=>true)
  (fun _=>true)
  true
  (fun _ _ _=>true)
  true
  (fun _ _=>false)
  (fun _ _=>false)
  () (fun _ _ _ _=>()) () (fun _ _ _ _=>())
theorem oneD_eq(v:AV):oneD v=v.one:=by cases v<;>rfl
def Qja:List AV→Bool:=@List.rec AV (fun _=>Bool) true (fun x _ ih=>@Bool.rec (fun _=>Bool) false ih (oneD x))
theorem Qfh:∀l:List AV,Qja l=l.all AV.one
 | []=>rfl
 |x::l=>by
  show @Bool.rec (fun _=>Bool) false (Qja l) (oneD x)=_;rw[Qfh l,oneD_eq,List.all_cons];cases x.one<;>rfl
def notNilD:AV→Bool:=
 @AV.rec (fun _=>Bool) (fun _=>Unit) (fun _=>Unit)
  false
  (fun _=>true)
  (fun _ _=>true)
  (fun _ _=>true)
  false
  (fun _ _=>true)
  (fun _ _=>true)
  true
  true
  (fun _ _ _ _=>true)
  (fun _ _ _ _=>true)
  (fun _ _=>true)
  true
  (fun _=>true)
  (fun _ _ _ _ _=>true)
  (fun _=>true)
  false
  (fun _ _ _=>true)
  false
  (fun _ _=>true)
  (fun _ _=>true)
  () (fun _ _ _ _=>()) () (fun _ _ _ _=>())
end
end Go.Ab
namespace Go.Ab
open Go
noncomputable section
def rowL(n:Nat)(t:T8 AV):List AV:=(List.range n).map fun i=>(t.get i).getD .undef
def rowFrom:Nat→List AV→T8 AV→T8 AV
 |_,[],t=>t
 |i,x::l,t=>rowFrom (i+1) l (t.set i x)
inductive KO where
 |cells (n:Nat)(r:T8 AV)(sp:Option Nat)(pre:Nat)(anc:List Nat)
 |old (n:Nat)(r:T8 AV)
 |map (es:List (AV×AV×Nat))(clock:Nat)
 |iter (n b pos:Nat)
 |loop (st:LoopState)(pending:Option AC)(fn:FuncId)(tmps:List AV)(params:List Nat)(assign body:AC)(defers:Nat)
 |deferred (ds:Option (List ADef))
def KO.abs:KO→AO
 | .cells n r sp pre anc=>.cells (rowL n r) sp pre anc
 | .old n r=>.old (rowL n r)
 | .map es clock=>.map es clock
 | .iter n b pos=>.iter n b pos
 | .loop st pend fn tmps ps a b d=>.loop st pend fn tmps ps a b d
 | .deferred ds=>.deferred ds
def absH(nx:Nat)(t:T8 KO):AH:=⟨fun b=>(t.get b).map KO.abs,nx⟩
theorem Qa2(nx:Nat)(t:T8 KO)(b:Nat)(o:KO):absH nx (t.set b o)=(absH nx t).put b o.abs:=by
 unfold absH AH.put
 congr 1
 funext x
 rw[T8.get_set];split<;>rfl
theorem QaN(nx:Nat)(t:T8 KO)(o:KO):absH (nx+1) (t.set nx o)=(absH nx t).alloc o.abs:=by
 unfold absH AH.alloc
 congr 1
 funext x
 rw[T8.get_set];split<;>rfl
def QdW:List Nat→T8 KO→T8 KO
 | [],t=>t
 |b::l,t=>QdW l (t.del b)
theorem Qh4:∀(l:List Nat)(t:T8 KO)(x:Nat),(QdW l t).get x=if x∈l then none else t.get x
 | [],t,x=>by simp[QdW]
 |b::l,t,x=>by
  rw[QdW,Qh4 l,T8.get_del];by_cases h1:x∈l
  ·simp[h1]
  ·by_cases h2:x=b<;>simp[h1,h2]
theorem Qhk(nx:Nat)(t:T8 KO)(l:List Nat):absH nx (QdW l t)=(absH nx t).kill l:=by
 unfold absH AH.kill
 congr 1
 funext x
 rw[Qh4];split<;>rfl
theorem QaK(n:Nat)(t:T8 AV):(rowL n t).length=n:=by simp[rowL]
theorem rowL_getElem? (n:Nat)(t:T8 AV)(i:Nat):(rowL n t)[i]? = if i<n then some ((t.get i).getD .undef) else none:=by
 unfold rowL;rw[List.getElem?_map];by_cases h:i<n
 ·simp[List.getElem?_range h,h]
 ·rw[List.getElem?_eq_none (by simpa using h)];simp[h]
theorem rowL_set(n:Nat)(t:T8 AV)(i:Nat)(x:AV):rowL n (t.set i x)=(rowL n t).set i x:=by
 apply List.ext_getElem?;intro j;rw[rowL_getElem?,List.getElem?_set,QaK,rowL_getElem?,T8.get_set];by_cases h:i=j
 ·subst h;by_cases hn:i<n<;>simp[hn]
 ·have:¬j=i:=fun e=>h e.symm
  simp[h,this]
def readL(n o:Nat)(t:T8 AV):List AV:=(List.range n).map fun i=>(t.get (o+i)).getD .undef
theorem Qgd{n o k:Nat}(t:T8 AV)(h:o+k≤n):((rowL n t).drop o).take k=readL k o t:=by
 apply List.ext_getElem?;intro j;rw[List.getElem?_take,List.getElem?_drop,rowL_getElem?];unfold readL;rw[List.getElem?_map];by_cases hj:j<k
 ·have:o+j<n:=by omega
  simp[hj,this,List.getElem?_range hj]
 ·rw[List.getElem?_eq_none (l:=List.range k) (by simpa using hj)];simp[hj]
theorem Qb6:∀(l:List AV)(i:Nat)(t:T8 AV)(j:Nat),(rowFrom i l t).get j=if i≤j∧j<i+l.length then l[j-i]? else t.get j
 | [],i,t,j=>by
  have:¬(i≤j∧j<i+([]:List AV).length):=by simp only[List.length_nil];omega
  rw[if_neg this];rfl
 |x::l,i,t,j=>by
  rw[rowFrom,Qb6 l (i+1) (t.set i x) j,T8.get_set];by_cases h1:j=i
  ·subst h1;have h2:¬(j+1≤j∧j<j+1+l.length):=by omega
   have h3:j≤j∧j<j+(x::l).length:=by simp
   rw[if_neg h2,if_pos h3];simp
  ·by_cases h2:i+1≤j∧j<i+1+l.length
   ·have h3:i≤j∧j<i+(x::l).length:=by simp only[List.length_cons];omega
    rw[if_pos h2,if_pos h3];obtain⟨d,rfl⟩:∃d,j=i+1+d:=⟨j-(i+1),by omega⟩
    have e1:i+1+d-(i+1)=d:=by omega
    have e2:i+1+d-i=d+1:=by omega
    rw[e1,e2];rfl
   ·have h3:¬(i≤j∧j<i+(x::l).length):=by simp only[List.length_cons];omega
    rw[if_neg h2,if_neg h3,if_neg h1]
theorem Qgc{n o:Nat}(t:T8 AV)(xs:List AV)(h:o+xs.length≤n):rowL n (rowFrom o xs t)=splice (rowL n t) o xs:=by
 apply List.ext_getElem?;intro j;rw[rowL_getElem?,Qb6];unfold splice;have hlt:((rowL n t).take o).length=o:=by rw[List.length_take,QaK];omega
 by_cases hj:j<n
 ·rw[if_pos hj];by_cases h1:j<o
  ·have h2:¬(o≤j∧j<o+xs.length):=by omega
   rw[if_neg h2,List.append_assoc,List.getElem?_append_left (by omega),List.getElem?_take_of_lt h1,rowL_getElem?,if_pos hj]
  ·by_cases h2:j<o+xs.length
   ·have h3:o≤j∧j<o+xs.length:=by omega
    rw[if_pos h3,List.append_assoc,List.getElem?_append_right (by omega),hlt,List.getElem?_append_left (by omega),gE (by omega)];rfl
   ·have h3:¬(o≤j∧j<o+xs.length):=by omega
    rw[if_neg h3,List.getElem?_append_right (by rw[List.length_append,hlt];omega),List.length_append,hlt,List.getElem?_drop,rowL_getElem?];have:o+xs.length+(j-(o+xs.length))=j:=by omega
    rw[this,if_pos hj]
 ·rw[if_neg hj,List.getElem?_eq_none];simp only[List.length_append,hlt,List.length_drop,QaK];omega
theorem Qge{n:Nat}(t:T8 AV)(xs:List AV):rowL (n+xs.length) (rowFrom n xs t)=rowL n t++xs:=by
 apply List.ext_getElem?;intro j;rw[rowL_getElem?,Qb6];by_cases h1:j<n
 ·have h2:¬(n≤j∧j<n+xs.length):=by omega
  rw[if_pos (by omega),if_neg h2,List.getElem?_append_left (by rw[QaK];exact h1),rowL_getElem?,if_pos h1]
 ·rw[List.getElem?_append_right (by rw[QaK];omega),QaK];by_cases h2:j<n+xs.length
  ·have h3:n≤j∧j<n+xs.length:=by omega
   rw[if_pos h2,if_pos h3,gE (by omega)];rfl
  ·rw[if_neg h2,List.getElem?_eq_none (by omega)]
theorem QbR(xs:List AV):rowL xs.length (rowFrom 0 xs .nil)=xs:=by
 have:=Qge (n:=0) .nil xs;simpa[rowL] using this
def natF(n:Nat)(k:Nat→Bool):Bool:=@Nat.rec (fun _=>Bool) (k 0) (fun m _=>k (Nat.succ m)) n
theorem Qas(n:Nat)(k:Nat→Bool):natF n k=k n:=by cases n<;>rfl
def intF(z:Int)(k:Int→Bool):Bool:=@Int.rec (fun _=>Bool) (fun n=>natF n fun n=>k (Int.ofNat n)) (fun n=>natF n fun n=>k (Int.negSucc n)) z
theorem Qc2(z:Int)(k:Int→Bool):intF z k=k z:=by
 cases z with
 |ofNat n=>exact Qas n fun n=>k (Int.ofNat n)
 |negSucc n=>exact Qas n fun n=>k (Int.negSucc n)
def optF{α:Type}(o:Option α)(k:α→Bool):Bool:=@Option.rec α (fun _=>Bool) false k o
theorem Qbq{α:Type}(o:Option α)(k:α→Bool):optF o k=match o with|some v=>k v|none=>false:=by cases o<;>rfl
def ifF(b:Bool)(k:Bool):Bool:=@Bool.rec (fun _=>Bool) false k b
theorem Qac{b k:Bool}(h:ifF b k=true):b=true∧k=true:=by cases b<;>simp_all [ifF]
def iteF(b:Bool)(x y:Bool):Bool:=@Bool.rec (fun _=>Bool) y x b
theorem Qaw(b x y:Bool):iteF b x y=if b then x else y:=by cases b<;>rfl
def QaL:List AV→Nat→T8 AV→(T8 AV→Bool)→Bool:=
 @List.rec AV (fun _=>Nat→T8 AV→(T8 AV→Bool)→Bool) (fun _ t k=>k t) (fun x _ ih i t k=>setK AV (some x) (path i) t fun t=>ih (Nat.succ i) t k)
theorem QaF:∀(l:List AV)(i:Nat)(t:T8 AV)(k:T8 AV→Bool),QaL l i t k=k (rowFrom i l t)
 | [],_,_,_=>rfl
 |x::l,i,t,k=>by
  show setK AV (some x) (path i) t (fun t=>QaL l (Nat.succ i) t k)=_;rw[Qf6,QaF l];rfl
def readK:Nat→Nat→T8 AV→(List AV→Bool)→Bool:=
 @Nat.rec (fun _=>Nat→T8 AV→(List AV→Bool)→Bool) (fun _ _ k=>k []) (fun _ ih o t k=>getK AV (path o) t (fun v=>ih (Nat.succ o) t fun l=>k (v::l)) (ih (Nat.succ o) t fun l=>k (.undef::l)))
theorem QmC(n o:Nat)(t:T8 AV):readL (n+1) o t=(t.get o).getD .undef::readL n (o+1) t:=by
 unfold readL;rw[List.range_succ_eq_map];simp only[List.map_cons,List.map_map,Nat.add_zero]
 congr 1
 apply List.map_congr_left;intro i _;simp only[Function.comp];rw[show o+(i+1)=o+1+i by omega]
theorem Qbd:∀(n o:Nat)(t:T8 AV)(k:List AV→Bool),readK n o t k=k (readL n o t)
 |0,_,_,_=>rfl
 |n+1,o,t,k=>by
  show getK AV (path o) t (fun v=>readK n (Nat.succ o) t fun l=>k (v::l)) (readK n (Nat.succ o) t fun l=>k (.undef::l))=_;rw[Qdq,QmC];unfold T8.get;cases T8.getP (path o) t with
  |none=>exact Qbd n (o+1) t _
  |some v=>exact Qbd n (o+1) t _
def kev(tm:T8 AV):AOpd→AV
 | .tmp s=>(tm.get s).getD .undef
 | .const v=>v
def opK:AOpd→T8 AV→(AV→Bool)→Bool:=
 @AOpd.rec (fun _=>T8 AV→(AV→Bool)→Bool) (fun s tm k=>getK AV (path s) tm k (k .undef)) (fun v _ k=>k v)
theorem Qav(x:AOpd)(tm:T8 AV)(k:AV→Bool):opK x tm k=k (kev tm x):=by
 cases x with
 |tmp s =>
  show getK AV (path s) tm k (k .undef)=_;rw[Qdq];show _=k ((T8.getP (path s) tm).getD .undef);cases T8.getP (path s) tm<;>rfl
 |const v=>rfl
def objK(b:Nat)(t:T8 KO)(k:KO→Bool):Bool:=getK KO (path b) t k false
theorem QaG(b:Nat)(t:T8 KO)(k:KO→Bool):objK b t k=match t.get b with|some o=>k o|none=>false:=by
 unfold objK;rw[Qdq];show _=match T8.getP (path b) t with|some o=>k o|none=>false
 cases T8.getP (path b) t<;>rfl
def cellsD:KO→(Nat→T8 AV→Bool)→Bool:=
 @KO.rec (fun _=>(Nat→T8 AV→Bool)→Bool) (fun n r _ _ _ k=>k n r) (fun n r k=>k n r) (fun _ _ _=>false) (fun _ _ _ _=>false) (fun _ _ _ _ _ _ _ _ _=>false) (fun _ _=>false)
def rowD:KO→(Nat→T8 AV→Option Nat→Nat→List Nat→Bool)→Bool:=
 @KO.rec (fun _=>(Nat→T8 AV→Option Nat→Nat→List Nat→Bool)→Bool) (fun n r sp pre anc k=>k n r sp pre anc) (fun _ _ _=>false) (fun _ _ _=>false) (fun _ _ _ _=>false) (fun _ _ _ _ _ _ _ _ _=>false) (fun _ _=>false)
def mapoD:KO→(List (AV×AV×Nat)→Nat→Bool)→Bool:=
 @KO.rec (fun _=>(List (AV×AV×Nat)→Nat→Bool)→Bool) (fun _ _ _ _ _ _=>false) (fun _ _ _=>false) (fun es c k=>k es c) (fun _ _ _ _=>false) (fun _ _ _ _ _ _ _ _ _=>false) (fun _ _=>false)
def iterD:KO→(Nat→Nat→Nat→Bool)→Bool:=
 @KO.rec (fun _=>(Nat→Nat→Nat→Bool)→Bool) (fun _ _ _ _ _ _=>false) (fun _ _ _=>false) (fun _ _ _=>false) (fun n b p k=>k n b p) (fun _ _ _ _ _ _ _ _ _=>false) (fun _ _=>false)
theorem Qis(o:KO)(k:Nat→T8 AV→Option Nat→Nat→List Nat→Bool):rowD o k=match o with|.cells n r sp pre anc=>k n r sp pre anc|_=>false:=by cases o<;>rfl
theorem QcZ(o:KO)(k:List (AV×AV×Nat)→Nat→Bool):mapoD o k=match o with|.map es c=>k es c|_=>false:=by cases o<;>rfl
theorem iterD_eq(o:KO)(k:Nat→Nat→Nat→Bool):iterD o k=match o with|.iter n b p=>k n b p|_=>false:=by cases o<;>rfl
def putK'(b:Nat)(o:KO)(t:T8 KO)(k:T8 KO→Bool):Bool:=setK KO (some o) (path b) t k
theorem putK'_eq(b:Nat)(o:KO)(t:T8 KO)(k:T8 KO→Bool):putK' b o t k=k (t.set b o):=Qf6 _ _ _ _
def Qbm(o:KO)(nx:Nat)(t:T8 KO)(k:Nat→T8 KO→Bool):Bool:=setK KO (some o) (path nx) t fun t=>natF (Nat.succ nx) fun nx=>k nx t
theorem QaT(o:KO)(nx:Nat)(t:T8 KO)(k:Nat→T8 KO→Bool):Qbm o nx t k=k (nx+1) (t.set nx o):=by
 unfold Qbm;rw[Qf6,Qas];rfl
end
end Go.Ab
namespace Go.Ab
open Go
noncomputable section
abbrev KX:Type:=T8 AV→Nat→T8 KO→(AV→Nat→T8 KO→Bool)→Bool
def KOk(f:KX)(a:AOp):Prop:=∀tm nx t c,f tm nx t c=true→∃v nx' t',exec (absH nx t) (kev tm) a=some (v,absH nx' t')∧c v nx' t'=true
def qK(f:T8 AV→Nat→T8 KO→Option AV):KX:=fun tm nx t c=>optF (f tm nx t) fun v=>c v nx t
theorem qK_ok{f:T8 AV→Nat→T8 KO→Option AV}{a:AOp}(hf:∀tm nx t v,f tm nx t=some v→exec (absH nx t) (kev tm) a=some (v,absH nx t)):KOk (qK f) a:=by
 intro tm nx t c h;unfold qK at h;rw[Qbq]at h;split at h
 ·rename_i v hv;exact⟨v,nx,t,hf tm nx t v hv,h⟩
 ·cases h
def k_mov(x:AOpd):KX:=fun tm nx t c=>opK x tm fun v=>c v nx t
theorem k_mov_ok(x:AOpd):KOk (k_mov x) (.mov x):=by
 intro tm nx t c h;simp only[k_mov,Qav]at h;exact⟨_,nx,t,rfl,h⟩
def QnZ(cnd a b:AOpd):KX:=fun tm nx t c=>opK cnd tm fun v=>boolD v fun z=>iteF z (opK a tm fun v=>c v nx t) (opK b tm fun v=>c v nx t)
theorem QnY(cnd a b:AOpd):KOk (QnZ cnd a b) (.pick cnd a b):=by
 intro tm nx t c h;simp only[QnZ,Qav,Qi9,Qaw]at h;split at h
 ·rename_i z hz;refine⟨_,nx,t,by simp only[exec,hz];rfl,?_⟩;cases z<;>exact h
 ·cases h
theorem Qdx(nx:Nat)(t:T8 KO):(absH nx t).next=nx:=rfl
def Qk3(tg:Nat)(cells:List AV):KX:=fun _ nx t c=>Qbm (.cells (List.length cells) (rowFrom 0 cells .nil) (some tg) 0 []) nx t fun nx' t'=>c (.ptr nx 0) nx' t'
theorem QmR(tg:Nat)(cells:List AV):KOk (Qk3 tg cells) (.alloc tg cells):=by
 intro tm nx t c h;simp only[Qk3,QaT]at h;refine⟨_,_,_,?_,h⟩;simp only[exec,QaN,KO.abs,QbR,Qdx]
def k_box(tg:Nat)(x:AOpd):KX:=fun tm nx t c=>opK x tm fun v=>Qki v fun xs=>QaL xs 0 .nil fun r=>Qbm (.cells (List.length xs) r (some tg) 0 []) nx t fun nx' t'=>c (.ptr nx 0) nx' t'
theorem k_box_ok(tg:Nat)(x:AOpd):KOk (k_box tg x) (.box tg x):=by
 intro tm nx t c h;simp only[k_box,Qav,Qhb,QaF,QaT]at h;split at h
 ·rename_i hk;refine⟨_,_,_,?_,h⟩;simp only[exec,hk,if_true,QaN,KO.abs,QbR,Qdx]
 ·cases h
def KO.row:KO→Option (Nat×T8 AV)
 | .cells n r _ _ _=>some (n,r)
 | .old n r=>some (n,r)
 |_=>none
theorem QbJ(o:KO)(k:Nat→T8 AV→Bool):cellsD o k=match o.row with|some (n,r)=>k n r|none=>false:=by cases o<;>rfl
theorem Qlq{nx:Nat}{t:T8 KO}{b:Nat}{o:KO}{n:Nat}{r:T8 AV}(h:t.get b=some o)(hr:o.row=some (n,r)):(absH nx t).cellsAt b=some (rowL n r):=by
 unfold AH.cellsAt absH;simp only[h,Option.map_some];cases o with
 |cells n' r' sp pre anc=>simp only[KO.row,oI,Prod.mk.injEq]at hr;obtain⟨rfl,rfl⟩:=hr;rfl
 |old n' r'=>simp only[KO.row,oI,Prod.mk.injEq]at hr;obtain⟨rfl,rfl⟩:=hr;rfl
 |_=>simp[KO.row]at hr
theorem Qcl{nx:Nat}{t:T8 KO}{b:Nat}{o:KO}{n:Nat}{r:T8 AV}(h:t.get b=some o)(hr:o.row=some (n,r)){i k:Nat}(hk:i+k≤n):(absH nx t).read b i k=some (readL k i r):=by
 unfold AH.read;rw[Qlq h hr];simp only[QaK,if_pos hk,Qgd _ hk]
theorem Qnv(o:Nat)(t:T8 AV):readL 1 o t=[(t.get o).getD .undef]:=by simp[readL]
def QkW(x:AOpd):KX:=fun tm nx t c=>opK x tm fun a=>ptrD a (fun b o=>objK b t fun ob=>cellsD ob fun n r=>ifF (Nat.blt o n) (getK AV (path o) r (fun v=>c v nx t) (c .undef nx t)))
 (fun l=>@List.rec AV (fun _=>Bool) false (fun v _ _=>c v nx t) l)
theorem QmN(x:AOpd):KOk (QkW x) (.load1 x):=by
 intro tm nx t c h;simp only[QkW,Qav,Qct,QaG,QbJ]at h;simp only[exec];generalize kev tm x=a at h ⊢;split at h
 ·rename_i b o;split at h
  ·rename_i ob hob;split at h
   ·rename_i n r hrow;obtain⟨hlt,h⟩:=Qac h;have hlt':o+1≤n:=Nat.blt_eq.mp hlt;rw[Qdq]at h;have hrd:=Qcl (nx:=nx) hob hrow hlt';rw[Qnv]at hrd;refine⟨(r.get o).getD .undef,nx,t,?_,?_⟩
    ·simp only[loadA,hrd]
    ·unfold T8.get;cases hg:T8.getP (path o) r with
     |none=>rw[hg]at h;exact h
     |some v=>rw[hg]at h;exact h
   ·cases h
  ·cases h
 ·rename_i l;cases l with
  |nil=>cases h
  |cons v l=>exact⟨v,nx,t,by simp[loadA],h⟩
 ·cases h
def QkV(n:Nat)(x:AOpd):KX:=fun tm nx t c=>opK x tm fun a=>ptrD a (fun b o=>objK b t fun ob=>cellsD ob fun m r=>ifF (Nat.ble (Nat.add o n) m) (readK n o r fun l=>c (.agg l) nx t))
 (fun l=>ifF (Nat.ble n (List.length l)) (c (.agg (List.take n l)) nx t))
theorem QmM(n:Nat)(x:AOpd):KOk (QkV n x) (.loadN n x):=by
 intro tm nx t c h;simp only[QkV,Qav,Qct,QaG,QbJ,Qbd]at h;simp only[exec];generalize kev tm x=a at h ⊢;split at h
 ·rename_i b o;split at h
  ·rename_i ob hob;split at h
   ·rename_i m r hrow;obtain⟨hle,h⟩:=Qac h;have hle':o+n≤m:=Nat.le_of_ble_eq_true hle;exact⟨_,nx,t,by simp only[loadA,Qcl (nx:=nx) hob hrow hle'];rfl,h⟩
   ·cases h
  ·cases h
 ·rename_i l;obtain⟨hle,h⟩:=Qac h;have hle':n≤l.length:=Nat.le_of_ble_eq_true hle;exact⟨_,nx,t,by simp only[loadA,if_pos hle'];rfl,h⟩
 ·cases h
def QdS(b o:Nat)(xs:List AV)(t:T8 KO)(k:T8 KO→Bool):Bool:=
 objK b t fun ob=>rowD ob fun m r sp pre anc=>ifF (Nat.ble (Nat.add o (List.length xs)) m) (ifF (Qja xs) (QaL xs o r fun r'=>iteF (Nat.blt o pre) (putK' b (.cells m r' sp 0 []) (QdW anc t) k) (putK' b (.cells m r' sp pre anc) t k)))
theorem QcB{b o:Nat}{xs:List AV}{nx:Nat}{t:T8 KO}{k:T8 KO→Bool}(h:QdS b o xs t k=true):∃t',(absH nx t).store b o xs=some (absH nx t')∧k t'=true:=by
 simp only[QdS,QaG,Qis,QaF,putK'_eq,Qfh]at h;split at h
 ·rename_i ob hob;split at h
  ·rename_i m r sp pre anc;obtain⟨h1,h⟩:=Qac h;obtain⟨h2,h⟩:=Qac h;have hle:o+xs.length≤m:=Nat.le_of_ble_eq_true h1;have hget:(absH nx t).get b=some (.cells (rowL m r) sp pre anc):=by unfold absH;simp only[hob,Option.map_some,KO.abs]
   rw[Qaw]at h;unfold AH.store;rw[hget];simp only[QaK];rw[if_pos ⟨hle,h2⟩];by_cases hp:o<pre
   ·have hb:Nat.blt o pre=true:=Nat.blt_eq.mpr hp;rw[hb]at h;refine⟨_,?_,h⟩;rw[if_pos hp,Qa2,Qhk];simp only[KO.abs,Qgc _ _ hle]
   ·have hb:Nat.blt o pre=false:=by
     cases hb:Nat.blt o pre with
     |false=>rfl
     |true=>exact absurd (Nat.blt_eq.mp hb) hp
    rw[hb]at h;refine⟨_,?_,h⟩;rw[if_neg hp,Qa2];simp only[KO.abs,Qgc _ _ hle]
  ·cases h
 ·cases h
def QkS(n:Nat)(a x:AOpd):KX:=fun tm nx t c=>opK a tm fun p=>ptrD p (fun b o=>opK x tm fun v=>Qki v fun xs=>ifF (Nat.beq (List.length xs) n) (QdS b o xs t fun t'=>c .undef nx t')) (fun _=>false)
theorem QmK(n:Nat)(a x:AOpd):KOk (QkS n a x) (.store n a x):=by
 intro tm nx t c h;simp only[QkS,Qav,Qct,Qhb]at h;simp only[exec];generalize kev tm x=v at h ⊢;generalize kev tm a=p at h ⊢;split at h
 ·rename_i b o;split at h
  ·rename_i hk;obtain⟨h1,h⟩:=Qac h;have hl:v.cells.length=n:=Nat.eq_of_beq_eq_true h1;obtain⟨t',hs,h⟩:=QcB (nx:=nx) h;refine⟨_,nx,t',?_,h⟩;rw[if_pos ⟨hk,hl⟩];simp only[storeA,hs];rfl
  ·cases h
 ·cases h
 ·cases h
def Qef(off:Nat)(x:AOpd):KX:=fun tm nx t c=>opK x tm fun a=>ptrD a (fun b o=>natF (Nat.add o off) fun o'=>c (.ptr b o') nx t) (fun l=>ifF (Nat.ble off (List.length l)) (c (.iptr (List.drop off l)) nx t))
theorem Qhx(off:Nat)(x:AOpd):KOk (Qef off x) (.fieldAddr off x):=by
 intro tm nx t c h;simp only[Qef,Qav,Qct,Qas]at h;simp only[exec];generalize kev tm x=a at h ⊢;split at h
 ·exact⟨_,nx,t,rfl,h⟩
 ·obtain⟨h1,h⟩:=Qac h;exact⟨_,nx,t,by simp only[if_pos (Nat.le_of_ble_eq_true h1)],h⟩
 ·cases h
def nthK(α:Type):Nat→List α→(α→Bool)→Bool:=
 @Nat.rec (fun _=>List α→(α→Bool)→Bool) (fun l k=>@List.rec α (fun _=>Bool) false (fun x _ _=>k x) l) (fun _ ih l k=>@List.rec α (fun _=>Bool) false (fun _ l _=>ih l k) l)
theorem Qiu{α:Type}:∀(i:Nat)(l:List α)(k:α→Bool),nthK α i l k=match l[i]? with|some x=>k x|none=>false
 |0,[],_=>rfl
 |0,_::_,_=>rfl
 |_+1,[],_=>rfl
 |i+1,_::l,k=>by
  show nthK α i l k=_;rw[Qiu i l];rfl
def Qk0(agg:Bool)(off size:Nat)(x:AOpd):KX:=fun tm nx t c=>opK x tm fun a=>aggD a fun l=>iteF agg (ifF (Nat.ble (Nat.add off size) (List.length l)) (c (.agg (List.take size (List.drop off l))) nx t)) (nthK AV off l fun v=>c v nx t)
theorem QmP(agg:Bool)(off size:Nat)(x:AOpd):KOk (Qk0 agg off size x) (.field agg off size x):=by
 intro tm nx t c h;simp only[Qk0,Qav,Qlv,Qaw,Qiu]at h;simp only[exec];generalize kev tm x=a at h ⊢;split at h
 ·rename_i l;unfold partA;cases agg with
  |true =>
   simp only[if_true]at h ⊢;obtain⟨h1,h⟩:=Qac h;exact⟨_,nx,t,by rw[if_pos (show off+size≤l.length from Nat.le_of_ble_eq_true h1)];rfl,h⟩
  |false =>
   simp only[Bool.false_eq_true,if_false]at h ⊢;split at h
   ·rename_i v hv;exact⟨v,nx,t,by rw[hv];rfl,h⟩
   ·cases h
 ·cases h
def QgK(x:AOpd)(i:Nat):KX:=fun tm nx t c=>opK x tm fun a=>Qnh a fun l=>nthK AV i l fun v=>c v nx t
theorem QjU(x:AOpd)(i:Nat):KOk (QgK x i) (.extract x i):=by
 intro tm nx t c h;simp only[QgK,Qav,Qjd,Qiu]at h;simp only[exec];generalize kev tm x=a at h ⊢;split at h
 ·rename_i l;split at h
  ·rename_i v hv;exact⟨v,nx,t,by simp only[hv];rfl,h⟩
  ·cases h
 ·cases h
def idxK(v:AV)(k:Nat→Bool):Bool:=intD v fun _ z=>@Int.rec (fun _=>Bool) (fun n=>k n) (fun _=>false) z
theorem Qfb(v:AV)(k:Nat→Bool):idxK v k=match asNat v with|some n=>k n|none=>false:=by
 unfold idxK;rw[Qk4];cases v with
 |int kd z =>
  cases z with
  |ofNat n=>simp[asNat]
  |negSucc n =>
   have:¬(0≤Int.negSucc n):=by omega
   simp[asNat,this]
 |_=>rfl
def Qee(size:Nat)(x i:AOpd):KX:=fun tm nx t c=>opK i tm fun vi=>idxK vi fun n=>opK x tm fun a =>
 QdU a false false (fun b o m _=>ifF (Nat.blt n m) (natF (Nat.add o (Nat.mul n size)) fun o'=>c (.ptr b o') nx t)) (fun b o m _=>ifF (Nat.blt n m) (natF (Nat.add o (Nat.mul n size)) fun o'=>c (.ptr b o') nx t))
  (fun l=>nthK (List AV) n l fun e=>ifF (Nat.beq (List.length e) size) (c (.iptr e) nx t))
theorem Qhw(size:Nat)(x i:AOpd):KOk (Qee size x i) (.indexAddr size x i):=by
 intro tm nx t c h;simp only[Qee,Qav,Qfb,Qbp,Qas,Qiu]at h;simp only[exec];generalize kev tm x=a at h ⊢;generalize kev tm i=vi at h ⊢;split at h
 ·rename_i n hn;unfold Qbs;rw[hn];split at h
  ·cases h
  ·cases h
  ·rename_i b o m cc;obtain⟨h1,h⟩:=Qac h;exact⟨_,nx,t,by simp only[if_pos (Nat.blt_eq.mp h1)];rfl,h⟩
  ·rename_i b o m cc;obtain⟨h1,h⟩:=Qac h;exact⟨_,nx,t,by simp only[if_pos (Nat.blt_eq.mp h1)];rfl,h⟩
  ·rename_i l;split at h
   ·rename_i e he;obtain⟨h1,h⟩:=Qac h;exact⟨_,nx,t,by simp only[he,if_pos (Nat.eq_of_beq_eq_true h1)];rfl,h⟩
   ·cases h
  ·cases h
 ·cases h
def Qe8(len size:Nat)(x i:AOpd):KX:=fun tm nx t c=>opK i tm fun vi=>idxK vi fun n=>opK x tm fun a =>
 ptrD a (fun b o=>ifF (Nat.blt n len) (natF (Nat.add o (Nat.mul n size)) fun o'=>c (.ptr b o') nx t)) (fun l=>ifF (Nat.blt n len) (ifF (Nat.ble (Nat.mul n size) (List.length l)) (c (.iptr (List.drop (Nat.mul n size) l)) nx t)))
theorem QiP(len size:Nat)(x i:AOpd):KOk (Qe8 len size x i) (.indexArr len size x i):=by
 intro tm nx t c h;simp only[Qe8,Qav,Qfb,Qct,Qas]at h;simp only[exec];generalize kev tm x=a at h ⊢;generalize kev tm i=vi at h ⊢;split at h
 ·rename_i n hn;rw[hn];split at h
  ·obtain⟨h1,h⟩:=Qac h;exact⟨_,nx,t,by simp only[if_pos (Nat.blt_eq.mp h1)];rfl,h⟩
  ·obtain⟨h1,h⟩:=Qac h;obtain⟨h2,h⟩:=Qac h;exact⟨_,nx,t,by simp only[if_pos (show n<len∧n*size≤_ from⟨Nat.blt_eq.mp h1,Nat.le_of_ble_eq_true h2⟩)];rfl,h⟩
  ·cases h
 ·cases h
def Qe7(x i:AOpd):KX:=fun tm nx t c=>opK i tm fun vi=>idxK vi fun i=>opK x tm fun a=>strD a fun n b=>ifF (Nat.blt i n) (natF (Nat.mod (Nat.shiftRight b (Nat.mul 8 i)) 256) fun z=>c (.int .u8 (Int.ofNat z)) nx t)
theorem QiO(x i:AOpd):KOk (Qe7 x i) (.indexStr x i):=by
 intro tm nx t c h;simp only[Qe7,Qav,Qfb,QfZ,Qas]at h;simp only[exec];generalize kev tm x=a at h ⊢;generalize kev tm i=vi at h ⊢;split at h
 ·rename_i n hn;rw[hn];split at h
  ·obtain⟨h1,h⟩:=Qac h;exact⟨_,nx,t,by simp only[if_pos (Nat.blt_eq.mp h1)];rfl,h⟩
  ·cases h
 ·cases h
end
end Go.Ab
namespace Go.Ab
open Go
noncomputable section
def kindNo:IntKind→Nat:=@IntKind.rec (fun _=>Nat) 0 1 2 3 4 5 6 7
def Qbr(j k:IntKind):Bool:=Nat.beq (kindNo j) (kindNo k)
theorem QdG(j k:IntKind):Qbr j k=decide (j=k):=by cases j<;>cases k<;>rfl
def limP:IntKind→Nat:=@IntKind.rec (fun _=>Nat) 128 32768 2147483648 9223372036854775808 256 65536 4294967296 18446744073709551616
def limN:IntKind→Nat:=@IntKind.rec (fun _=>Nat) 128 32768 2147483648 9223372036854775808 0 0 0 0
theorem wrap_pos(j:IntKind)(n:Nat)(h:n<limP j):j.wrap (Int.ofNat n)=Int.ofNat n:=by
 cases j with
 |i8=>have h:n<128:=h;simp[IntKind.wrap,IntKind.bits,IntKind.signed];omega
 |i16=>have h:n<32768:=h;simp[IntKind.wrap,IntKind.bits,IntKind.signed];omega
 |i32=>have h:n<2147483648:=h;simp[IntKind.wrap,IntKind.bits,IntKind.signed];omega
 |i64=>have h:n<9223372036854775808:=h;simp[IntKind.wrap,IntKind.bits,IntKind.signed];omega
 |u8=>have h:n<256:=h;simp[IntKind.wrap,IntKind.bits,IntKind.signed];omega
 |u16=>have h:n<65536:=h;simp[IntKind.wrap,IntKind.bits,IntKind.signed];omega
 |u32=>have h:n<4294967296:=h;simp[IntKind.wrap,IntKind.bits,IntKind.signed];omega
 |u64=>have h:n<18446744073709551616:=h;simp[IntKind.wrap,IntKind.bits,IntKind.signed];omega
theorem wrap_neg(j:IntKind)(n:Nat)(h:n<limN j):j.wrap (Int.negSucc n)=Int.negSucc n:=by
 cases j with
 |i8 =>
  have h:n<128:=h;have e:∀z:Int,IntKind.i8.wrap z=if (true&&decide (z%256≥128))=true then z%256-256 else z%256:=fun z=>rfl
  rw[Int.negSucc_eq,e];simp only[Bool.true_and,decide_eq_true_eq];split<;>omega
 |i16 =>
  have h:n<32768:=h;have e:∀z:Int,IntKind.i16.wrap z=if (true&&decide (z%65536≥32768))=true then z%65536-65536 else z%65536:=fun z=>rfl
  rw[Int.negSucc_eq,e];simp only[Bool.true_and,decide_eq_true_eq];split<;>omega
 |i32 =>
  have h:n<2147483648:=h;have e:∀z:Int,IntKind.i32.wrap z=if (true&&decide (z%4294967296≥2147483648))=true then z%4294967296-4294967296 else z%4294967296:=fun z=>rfl
  rw[Int.negSucc_eq,e];simp only[Bool.true_and,decide_eq_true_eq];split<;>omega
 |i64 =>
  have h:n<9223372036854775808:=h;have e:∀z:Int,IntKind.i64.wrap z=if (true&&decide (z%18446744073709551616≥9223372036854775808))=true then z%18446744073709551616-18446744073709551616 else z%18446744073709551616:=fun z=>rfl
  rw[Int.negSucc_eq,e];simp only[Bool.true_and,decide_eq_true_eq];split<;>omega
 |u8=>exact absurd h (Nat.not_lt_zero _)
 |u16=>exact absurd h (Nat.not_lt_zero _)
 |u32=>exact absurd h (Nat.not_lt_zero _)
 |u64=>exact absurd h (Nat.not_lt_zero _)
def wrapK(j:IntKind)(z:Int)(k:Int→Bool):Bool:=
 @Int.rec (fun _=>Bool) (fun n=>iteF (Nat.blt n (limP j)) (natF n fun n=>k (Int.ofNat n)) (intF (j.wrap (Int.ofNat n)) k)) (fun n=>iteF (Nat.blt n (limN j)) (natF n fun n=>k (Int.negSucc n)) (intF (j.wrap (Int.negSucc n)) k)) z
theorem QlE(j:IntKind)(z:Int)(k:Int→Bool):wrapK j z k=k (j.wrap z):=by
 cases z with
 |ofNat n =>
  show iteF (Nat.blt n (limP j)) (natF n fun n=>k (Int.ofNat n)) (intF (j.wrap (Int.ofNat n)) k)=_;rw[Qaw,Qas,Qc2];split
  ·rename_i h;rw[wrap_pos j n (Nat.blt_eq.mp h)]
  ·rfl
 |negSucc n =>
  show iteF (Nat.blt n (limN j)) (natF n fun n=>k (Int.negSucc n)) (intF (j.wrap (Int.negSucc n)) k)=_;rw[Qaw,Qas,Qc2];split
  ·rename_i h;rw[wrap_neg j n (Nat.blt_eq.mp h)]
  ·rfl
def boolF(b:Bool)(k:Bool→Bool):Bool:=@Bool.rec (fun _=>Bool) (k false) (k true) b
theorem QdP(b:Bool)(k:Bool→Bool):boolF b k=k b:=by cases b<;>rfl
def ltI(a b:Int):Bool:=
 @Int.rec (fun _=>Bool) (fun a=>@Int.rec (fun _=>Bool) (fun b=>Nat.blt a b) (fun _=>false) b) (fun a=>@Int.rec (fun _=>Bool) (fun _=>true) (fun b=>Nat.blt b a) b) a
theorem ltI_eq(a b:Int):ltI a b=decide (a<b):=by
 cases a with
 |ofNat a=>cases b with
  |ofNat b =>
   show Nat.blt a b=_;rw[Bool.eq_iff_iff,Nat.blt_eq,decide_eq_true_iff];simp only[Int.ofNat_eq_natCast];omega
  |negSucc b =>
   show false=_
   symm;rw[decide_eq_false_iff_not]
   simp only[Int.ofNat_eq_natCast,Int.negSucc_eq];omega
 |negSucc a=>cases b with
  |ofNat b =>
   show true=_
   symm;rw[decide_eq_true_iff]
   simp only[Int.ofNat_eq_natCast,Int.negSucc_eq];omega
  |negSucc b =>
   show Nat.blt b a=_;rw[Bool.eq_iff_iff,Nat.blt_eq,decide_eq_true_iff];simp only[Int.negSucc_eq];omega
def eqI(a b:Int):Bool:=
 @Int.rec (fun _=>Bool) (fun a=>@Int.rec (fun _=>Bool) (fun b=>Nat.beq a b) (fun _=>false) b) (fun a=>@Int.rec (fun _=>Bool) (fun _=>false) (fun b=>Nat.beq a b) b) a
theorem Qom(a b:Int):eqI a b=(a == b):=by
 rw[Bool.eq_iff_iff,beq_iff_eq];cases a with
 |ofNat a=>cases b with
  |ofNat b =>
   show Nat.beq a b=true↔_;rw[Nat.beq_eq];simp only[Int.ofNat_eq_natCast];omega
  |negSucc b =>
   show false=true↔_;simp only[Int.ofNat_eq_natCast,Int.negSucc_eq,Bool.false_eq_true,false_iff];omega
 |negSucc a=>cases b with
  |ofNat b =>
   show false=true↔_;simp only[Int.ofNat_eq_natCast,Int.negSucc_eq,Bool.false_eq_true,false_iff];omega
  |negSucc b =>
   show Nat.beq a b=true↔_;rw[Nat.beq_eq];simp only[Int.negSucc_eq];omega
def notF(b:Bool):Bool:=@Bool.rec (fun _=>Bool) true false b
theorem QkP(b:Bool):notF b = !b:=by cases b<;>rfl
def addI(a b:Int)(k:Int→Bool):Bool:=
 @Int.rec (fun _=>Bool) (fun m=>@Int.rec (fun _=>Bool) (fun n=>natF (Nat.add m n) fun s=>k (Int.ofNat s)) (fun _=>intF (Int.add a b) k) b) (fun _=>intF (Int.add a b) k) a
theorem addI_eq(a b:Int)(k:Int→Bool):addI a b k=k (a+b):=by
 cases a with
 |ofNat m=>cases b with
  |ofNat n =>
   show natF (Nat.add m n) (fun s=>k (Int.ofNat s))=_;rw[Qas];rfl
  |negSucc n=>exact Qc2 _ _
 |negSucc m=>exact Qc2 _ _
def subI(a b:Int)(k:Int→Bool):Bool:=
 @Int.rec (fun _=>Bool) (fun m=>@Int.rec (fun _=>Bool) (fun n=>iteF (Nat.ble n m) (natF (Nat.sub m n) fun s=>k (Int.ofNat s)) (intF (Int.sub a b) k)) (fun _=>intF (Int.sub a b) k) b) (fun _=>intF (Int.sub a b) k) a
theorem subI_eq(a b:Int)(k:Int→Bool):subI a b k=k (a-b):=by
 cases a with
 |ofNat m=>cases b with
  |ofNat n =>
   show iteF (Nat.ble n m) (natF (Nat.sub m n) fun s=>k (Int.ofNat s)) (intF (Int.sub (Int.ofNat m) (Int.ofNat n)) k)=_;rw[Qaw,Qas,Qc2];split
   ·rename_i h;have h':n≤m:=Nat.le_of_ble_eq_true h
    congr 1
    show Int.ofNat (m-n)=Int.ofNat m-Int.ofNat n;simp only[Int.ofNat_eq_natCast];omega
   ·rfl
  |negSucc n=>exact Qc2 (Int.sub (Int.ofNat m) (Int.negSucc n)) k
 |negSucc m=>exact Qc2 (Int.sub (Int.negSucc m) b) k
def mulI(a b:Int)(k:Int→Bool):Bool:=
 @Int.rec (fun _=>Bool) (fun m=>@Int.rec (fun _=>Bool) (fun n=>natF (Nat.mul m n) fun s=>k (Int.ofNat s)) (fun _=>intF (Int.mul a b) k) b) (fun _=>intF (Int.mul a b) k) a
theorem mulI_eq(a b:Int)(k:Int→Bool):mulI a b k=k (a*b):=by
 cases a with
 |ofNat m=>cases b with
  |ofNat n =>
   show natF (Nat.mul m n) (fun s=>k (Int.ofNat s))=_;rw[Qas];rfl
  |negSucc n=>exact Qc2 _ _
 |negSucc m=>exact Qc2 _ _
def ltIK(a b:Int)(k:Bool→Bool):Bool:=
 @Int.rec (fun _=>Bool) (fun m=>@Int.rec (fun _=>Bool) (fun n=>boolF (Nat.ble (Nat.succ m) n) k) (fun _=>k false) b) (fun m=>@Int.rec (fun _=>Bool) (fun _=>k true) (fun n=>boolF (Nat.ble (Nat.succ n) m) k) b) a
theorem ltIK_eq(a b:Int)(k:Bool→Bool):ltIK a b k=k (ltI a b):=by
 cases a with
 |ofNat m=>cases b with
  |ofNat n=>exact QdP _ _
  |negSucc n=>rfl
 |negSucc m=>cases b with
  |ofNat n=>rfl
  |negSucc n=>exact QdP _ _
def eqIK(a b:Int)(k:Bool→Bool):Bool:=
 @Int.rec (fun _=>Bool) (fun m=>@Int.rec (fun _=>Bool) (fun n=>boolF (Nat.beq m n) k) (fun _=>k false) b) (fun m=>@Int.rec (fun _=>Bool) (fun _=>k false) (fun n=>boolF (Nat.beq m n) k) b) a
theorem eqIK_eq(a b:Int)(k:Bool→Bool):eqIK a b k=k (eqI a b):=by
 cases a with
 |ofNat m=>cases b with
  |ofNat n=>exact QdP _ _
  |negSucc n=>rfl
 |negSucc m=>cases b with
  |ofNat n=>rfl
  |negSucc n=>exact QdP _ _
def notK(k:Bool→Bool):Bool→Bool:=@Bool.rec (fun _=>Bool) (k true) (k false)
theorem notK_eq(k:Bool→Bool)(b:Bool):notK k b=k (!b):=by cases b<;>rfl
abbrev IntOp:Type:=IntKind→Int→IntKind→Int→Bool→(AV→Bool)→Bool
def QnN:BinOp→IntOp:=
 @BinOp.rec (fun _=>IntOp)
  (fun j a k b _ c=>ifF (Qbr j k) (addI a b fun z=>wrapK j z fun z=>c (.int j z)))
  (fun j a k b _ c=>ifF (Qbr j k) (subI a b fun z=>wrapK j z fun z=>c (.int j z)))
  (fun j a k b _ c=>ifF (Qbr j k) (mulI a b fun z=>wrapK j z fun z=>c (.int j z)))
  (fun _ _ _ _ s _=>s) (fun _ _ _ _ s _=>s) (fun _ _ _ _ s _=>s) (fun _ _ _ _ s _=>s) (fun _ _ _ _ s _=>s) (fun _ _ _ _ s _=>s) (fun _ _ _ _ s _=>s) (fun _ _ _ _ s _=>s)
  (fun j a k b _ c=>ifF (Qbr j k) (eqIK a b fun z=>c (.bool z)))
  (fun j a k b _ c=>ifF (Qbr j k) (eqIK a b (notK fun z=>c (.bool z))))
  (fun j a k b _ c=>ifF (Qbr j k) (ltIK a b fun z=>c (.bool z)))
  (fun j a k b _ c=>ifF (Qbr j k) (ltIK b a (notK fun z=>c (.bool z))))
  (fun j a k b _ c=>ifF (Qbr j k) (ltIK b a fun z=>c (.bool z)))
  (fun j a k b _ c=>ifF (Qbr j k) (ltIK a b (notK fun z=>c (.bool z))))
theorem QnM{op:BinOp}{h:AH}{q:Nat}{j:IntKind}{a:Int}{k:IntKind}{b:Int}{s:Bool}{c:AV→Bool}(hs:s=true→∃v,binA h op q (.int j a) (.int k b)=some v∧c v=true)
  (hh:QnN op j a k b s c=true):∃v,binA h op q (.int j a) (.int k b)=some v∧c v=true:=by
 cases op<;>first|exact hs hh|skip
 all_goals
  simp only[QnN]at hh;obtain⟨h1,h2⟩:=Qac hh;clear hh;rw[QdG,decide_eq_true_iff]at h1;subst h1;simp only[addI_eq,subI_eq,mulI_eq,QlE,eqIK_eq,ltIK_eq,notK_eq]at h2;refine⟨_,?_,h2⟩;simp only[binA,if_true,Qcp,Qom,ltI_eq]
 all_goals
  simp only[oI,AV.bool.injEq]
  first
   |rfl
   |(rw[Bool.eq_iff_iff];simp<;>omega)
abbrev StrOp:Type:=Nat→Nat→Nat→Nat→Bool→(AV→Bool)→Bool
def QlS:BinOp→StrOp:=
 @BinOp.rec (fun _=>StrOp)
  (fun _ _ _ _ s _=>s) (fun _ _ _ _ s _=>s) (fun _ _ _ _ s _=>s) (fun _ _ _ _ s _=>s) (fun _ _ _ _ s _=>s) (fun _ _ _ _ s _=>s) (fun _ _ _ _ s _=>s) (fun _ _ _ _ s _=>s) (fun _ _ _ _ s _=>s) (fun _ _ _ _ s _=>s) (fun _ _ _ _ s _=>s)
  (fun n a m b _ c=>iteF (Nat.beq n m) (boolF (Nat.beq a b) fun z=>c (.bool z)) (c (.bool false)))
  (fun n a m b _ c=>iteF (Nat.beq n m) (boolF (notF (Nat.beq a b)) fun z=>c (.bool z)) (c (.bool true)))
  (fun _ _ _ _ s _=>s) (fun _ _ _ _ s _=>s) (fun _ _ _ _ s _=>s) (fun _ _ _ _ s _=>s)
theorem Qhh(a b:Nat):Nat.beq a b=(a == b):=by
 rw[Bool.eq_iff_iff,Nat.beq_eq,beq_iff_eq]
theorem QnL{op:BinOp}{h:AH}{q:Nat}{n a m b:Nat}{s:Bool}{c:AV→Bool}(hs:s=true→∃v,binA h op q (.str n a) (.str m b)=some v∧c v=true)
  (hh:QlS op n a m b s c=true):∃v,binA h op q (.str n a) (.str m b)=some v∧c v=true:=by
 cases op<;>first|exact hs hh|skip
 ·simp only[QlS,Qaw,QdP,Qhh]at hh;refine⟨.bool (n == m&&a == b),rfl,?_⟩;cases hnm:n == m<;>rw[hnm]at hh<;>exact hh
 ·simp only[QlS,Qaw,QdP,Qhh,QkP]at hh;refine⟨.bool (!(n == m&&a == b)),rfl,?_⟩;cases hnm:n == m<;>rw[hnm]at hh<;>exact hh
def k_bin(op:BinOp)(q:Nat)(x y:AOpd):KX:=fun tm nx t c=>opK x tm fun vx=>opK y tm fun vy =>
 binD vx (fun j a=>binD vy (fun k b=>QnN op j a k b (optF (binA (absH nx t) op q vx vy) fun v=>c v nx t) (fun v=>c v nx t)) (fun _ _=>false) false)
  (fun n a=>binD vy (fun _ _=>false) (fun m b=>QlS op n a m b (optF (binA (absH nx t) op q vx vy) fun v=>c v nx t) (fun v=>c v nx t)) false)
  (optF (binA (absH nx t) op q vx vy) fun v=>c v nx t)
theorem k_bin_ok(op:BinOp)(q:Nat)(x y:AOpd):KOk (k_bin op q x y) (.bin op q x y):=by
 intro tm nx t c h;simp only[k_bin,Qav,Qhg]at h;simp only[exec];generalize kev tm x=vx at h ⊢;generalize kev tm y=vy at h ⊢;have fin:(∃v,binA (absH nx t) op q vx vy=some v∧c v nx t=true)→∃v nx' t',Option.map (fun x=>(x,absH nx t)) (binA (absH nx t) op q vx vy)=some (v,absH nx' t')∧c v nx' t'=true:=by
  rintro⟨v,h1,h2⟩;exact⟨v,nx,t,by rw[h1];rfl,h2⟩
 have slow:(optF (binA (absH nx t) op q vx vy) fun v=>c v nx t)=true→∃v,binA (absH nx t) op q vx vy=some v∧c v nx t=true:=by
  intro hs;rw[Qbq]at hs;split at hs
  ·rename_i v hv;exact⟨v,hv,hs⟩
  ·cases hs
 split at h
 ·split at h
  ·exact fin (QnM slow h)
  ·cases h
  ·cases h
 ·split at h
  ·cases h
  ·exact fin (QnL slow h)
  ·cases h
 ·exact fin (slow h)
def QgM(k:IntKind)(x:AOpd):KX:=fun tm nx t c=>opK x tm fun v=>intD v fun _ z=>wrapK k z fun z=>c (.int k z) nx t
theorem QjW(k:IntKind)(x:AOpd):KOk (QgM k x) (.convInt k x):=by
 intro tm nx t c h;simp only[QgM,Qav,Qk4,QlE]at h;simp only[exec];generalize kev tm x=a at h ⊢;split at h
 ·exact⟨_,nx,t,rfl,h⟩
 ·cases h
def Qe5(x:AOpd):KX:=fun tm nx t c=>opK x tm fun v=>ifF (notNilD v) (c v nx t)
theorem QiI(x:AOpd):KOk (Qe5 x) (.nilCheck x):=by
 intro tm nx t c h;simp only[Qe5,Qav]at h;simp only[exec];generalize kev tm x=a at h ⊢;obtain⟨h1,h⟩:=Qac h;refine⟨a,nx,t,?_,h⟩;cases a<;>first|rfl|cases h1
def Qcb(ty:TypeId)(x:AOpd):KX:=fun tm nx t c=>opK x tm fun v=>c (.iface ty v) nx t
theorem QeB(ty:TypeId)(x:AOpd):KOk (Qcb ty x) (.makeInterface ty x):=by
 intro tm nx t c h;simp only[Qcb,Qav]at h;exact⟨_,nx,t,rfl,h⟩
def opsK:List AOpd→T8 AV→(List AV→Bool)→Bool:=
 @List.rec AOpd (fun _=>T8 AV→(List AV→Bool)→Bool) (fun _ k=>k []) (fun x _ ih tm k=>opK x tm fun v=>ih tm fun l=>k (v::l))
theorem Qgn:∀(l:List AOpd)(tm:T8 AV)(k:List AV→Bool),opsK l tm k=k (l.map (kev tm))
 | [],_,_=>rfl
 |x::l,tm,k=>by
  show opK x tm (fun v=>opsK l tm fun l=>k (v::l))=_;rw[Qav,Qgn l];rfl
def Qe6(f:FuncId)(a b:List AOpd):KX:=fun tm nx t c=>opsK a tm fun va=>opsK b tm fun vb=>c (.func f va vb) nx t
theorem QiK(f:FuncId)(a b:List AOpd):KOk (Qe6 f a b) (.makeFunc f a b):=by
 intro tm nx t c h;simp only[Qe6,Qgn]at h;exact⟨_,nx,t,rfl,h⟩
def Qdn(ty:TypeId)(zero:AV)(x:AOpd)(ok:Bool):KX:=fun tm nx t c=>opK x tm fun v =>
 QjZ v (fun u v=>iteF (Nat.beq u ty) (iteF ok (c (.tuple [v,.bool true]) nx t) (c v nx t)) (ifF ok (c (.tuple [zero,.bool false]) nx t))) (ifF ok (c (.tuple [zero,.bool false]) nx t))
theorem QgG(ty:TypeId)(zero:AV)(x:AOpd)(ok:Bool):KOk (Qdn ty zero x ok) (.typeAssert ty zero x ok):=by
 intro tm nx t c h;simp only[Qdn,Qav,QgP,Qaw]at h;simp only[exec];generalize kev tm x=a at h ⊢;split at h
 ·rename_i u v;by_cases hu:u=ty
  ·have hb:Nat.beq u ty=true:=by rw[hu];exact Nat.beq_refl ty
   rw[hb]at h;simp only[if_true]at h;simp only[hu,if_true];cases ok
   ·exact⟨_,nx,t,rfl,h⟩
   ·exact⟨_,nx,t,rfl,h⟩
  ·have hb:Nat.beq u ty=false:=by
    cases hb:Nat.beq u ty with
    |false=>rfl
    |true=>exact absurd (Nat.eq_of_beq_eq_true hb) hu
   rw[hb]at h;simp only[Bool.false_eq_true,if_false]at h;obtain⟨h1,h⟩:=Qac h;subst h1;simp only[hu,if_false,if_true];exact⟨_,nx,t,rfl,h⟩
 ·obtain⟨h1,h⟩:=Qac h;subst h1;exact⟨_,nx,t,rfl,h⟩
 ·cases h
def overK:List AV→List AV→(List AV→Bool)→Bool:=
 @List.rec AV (fun _=>List AV→(List AV→Bool)→Bool) (fun l k=>k l) (fun x _ ih l k=>@List.rec AV (fun _=>Bool) false (fun _ l _=>ih l fun l'=>k (x::l')) l)
def Qij:Nat→List AV→List AV→(List AV→Bool)→Bool:=
 @Nat.rec (fun _=>List AV→List AV→(List AV→Bool)→Bool) (fun l xs k=>overK xs l k) (fun _ ih l xs k=>@List.rec AV (fun _=>Bool) false (fun y l _=>ih l xs fun l'=>k (y::l')) l)
theorem QlR:∀(xs l:List AV)(k:List AV→Bool),xs.length≤l.length→overK xs l k=k (xs++l.drop xs.length)
 | [],l,k,_=>rfl
 |_::_,[],_,h=>by simp at h
 |x::xs,_::l,k,h=>by
  show overK xs l (fun l'=>k (x::l'))=_;rw[QlR xs l _ (by simpa using h)];rfl
theorem QhK:∀(o:Nat)(l xs:List AV)(k:List AV→Bool),o+xs.length≤l.length→Qij o l xs k=k (splice l o xs)
 |0,l,xs,k,h=>by
  show overK xs l k=_;rw[QlR xs l k (by omega)];simp[splice]
 |o+1,[],xs,k,h=>by simp at h
 |o+1,y::l,xs,k,h=>by
  show Qij o l xs (fun l'=>k (y::l'))=_;rw[QhK o l xs _ (by simp at h;omega)];simp only[splice,List.take_succ_cons,List.cons_append];rw[show o+1+xs.length=(o+xs.length)+1 by omega,List.drop_succ_cons]
def fillK:List (Nat×Nat×AOpd)→T8 AV→List AV→(List AV→Bool)→Bool:=
 @List.rec (Nat×Nat×AOpd) (fun _=>T8 AV→List AV→(List AV→Bool)→Bool) (fun _ l k=>k l)
  (fun p _ ih tm l k=>opK p.2.2 tm fun v=>Qki v fun xs=>ifF (Nat.beq (List.length xs) p.2.1) (ifF (Nat.ble (Nat.add p.1 p.2.1) (List.length l)) (Qij p.1 l xs fun l=>ih tm l k)))
theorem QiZ:∀(ps:List (Nat×Nat×AOpd))(tm:T8 AV)(l:List AV)(k:List AV→Bool),fillK ps tm l k=true→∃l',fillA l (ps.map fun(o,s,x)=>(o,s,kev tm x))=some l'∧k l'=true
 | [],_,l,k,h=>⟨l,rfl,h⟩
 |(o,s,x)::ps,tm,l,k,h=>by
  have h':(opK x tm fun v=>Qki v fun xs=>ifF (Nat.beq (List.length xs) s) (ifF (Nat.ble (Nat.add o s) (List.length l)) (Qij o l xs fun l=>fillK ps tm l k)))=true:=h;rw[Qav,Qhb]at h';split at h'
  ·rename_i hk;obtain⟨h1,h'⟩:=Qac h';obtain⟨h2,h'⟩:=Qac h';have e1:(kev tm x).cells.length=s:=Nat.eq_of_beq_eq_true h1;have e2:o+s≤l.length:=Nat.le_of_ble_eq_true h2;rw[QhK _ _ _ _ (by rw[e1];exact e2)]at h';obtain⟨l',h3,h4⟩:=QiZ ps tm _ k h';refine⟨l',?_,h4⟩;simp only[List.map_cons,fillA];rw[if_pos ⟨hk,e1,e2⟩];exact h3
  ·cases h'
def Qn2(zero:List AV)(parts:List (Nat×Nat×AOpd)):KX:=fun tm nx t c=>fillK parts tm zero fun l=>c (.agg l) nx t
theorem QmQ(zero:List AV)(parts:List (Nat×Nat×AOpd)):KOk (Qn2 zero parts) (.build zero parts):=by
 intro tm nx t c h;obtain⟨l,h1,h2⟩:=QiZ parts tm zero _ h;exact⟨_,nx,t,by simp only[exec];rw[h1];rfl,h2⟩
def Qfx(len:Nat)(zero:List AV)(parts:List (Nat×Nat×AOpd)):KX:=fun tm nx t c=>fillK parts tm zero fun l=>QaL l 0 .nil fun r=>Qbm (.cells (List.length l) r none 0 []) nx t fun nx' t'=>c (.slice nx 0 len len) nx' t'
theorem QgO(len:Nat)(zero:List AV)(parts:List (Nat×Nat×AOpd)):KOk (Qfx len zero parts) (.buildSlice len zero parts):=by
 intro tm nx t c h;obtain⟨l,h1,h2⟩:=QiZ parts tm zero _ h;rw[QaF,QaT]at h2;refine⟨_,_,_,?_,h2⟩;simp only[exec];rw[h1];simp only[Option.map_some,QaN,KO.abs,QbR,Qdx]
def QgJ:KX:=fun _ nx t c=>Qbm (.map [] 0) nx t fun nx' t'=>c (.map nx) nx' t'
theorem QjT:KOk QgJ .makeMap:=by
 intro tm nx t c h;simp only[QgJ,QaT]at h;exact⟨_,_,_,by simp only[exec,QaN,KO.abs,Qdx],h⟩
def posD(z:Int)(k:Nat→Bool):Bool:=@Int.rec (fun _=>Bool) k (fun _=>false) z
theorem Qjt{z:Int}{k:Nat→Bool}(h:posD z k=true):∃n:Nat,z=Int.ofNat n∧k n=true:=by
 cases z with
 |ofNat n=>exact⟨n,rfl,h⟩
 |negSucc n=>cases h
def Qed(size bytes:Nat)(zero:List AV)(len cap:AOpd):KX:=fun tm nx t c=>opK len tm fun vl=>opK cap tm fun vc=>intD vl fun j l=>intD vc fun k cc=>ifF (Qbr j .i64) (ifF (Qbr k .i64) (posD l fun l=>posD cc fun cc =>
 ifF (Nat.ble l cc) (ifF (Nat.ble (Nat.mul cc bytes) 1000000000) (ifF (Nat.ble cc 1000000000) (ifF (Nat.beq (List.length zero) size) (QaL (List.flatten (List.replicate cc zero)) 0 .nil fun r =>
  Qbm (.cells (List.length (List.flatten (List.replicate cc zero))) r none 0 []) nx t fun nx' t'=>c (.slice nx 0 l cc) nx' t'))))))
theorem Qhv(size bytes:Nat)(zero:List AV)(len cap:AOpd):KOk (Qed size bytes zero len cap) (.makeSlice size bytes zero len cap):=by
 intro tm nx t c h;simp only[Qed,Qav,Qk4]at h;simp only[exec];generalize kev tm len=vl at h ⊢;generalize kev tm cap=vc at h ⊢;split at h
 ·rename_i j l;split at h
  ·rename_i k cc;obtain⟨h1,h⟩:=Qac h;obtain⟨h2,h⟩:=Qac h;rw[QdG,decide_eq_true_iff]at h1 h2;have z0:=h;clear h;subst h1 h2;obtain⟨l,rfl,z1⟩:=Qjt z0;obtain⟨cc,rfl,z2⟩:=Qjt z1;obtain⟨q3,z3⟩:=Qac z2;obtain⟨q4,z4⟩:=Qac z3;obtain⟨q5,z5⟩:=Qac z4;obtain⟨q6,z6⟩:=Qac z5;rw[QaF,QaT]at z6;have e3:=Nat.le_of_ble_eq_true q3;have e4:=Nat.le_of_ble_eq_true q4;have e5:=Nat.le_of_ble_eq_true q5;have e6:=Nat.eq_of_beq_eq_true q6;refine⟨_,_,_,?_,z6⟩;have hcond:(0:Int)≤Int.ofNat l∧Int.ofNat l≤Int.ofNat cc∧Int.ofNat cc*(bytes:Int)≤1000000000∧Int.ofNat cc≤1000000000∧zero.length=size:=by
    have e4':cc*bytes≤1000000000:=e4;refine⟨Int.natCast_nonneg _,Int.ofNat_le.2 e3,?_,?_,e6⟩
    ·have:=Int.ofNat_le.2 e4';simpa using this
    ·exact Int.ofNat_le.2 e5
   simp only[if_pos hcond,QaN,KO.abs,QbR,Qdx];rfl
  ·cases h
 ·cases h
def QiM(x:AOpd):KX:=fun tm nx t c=>opK x tm fun v=>strD v fun n _=>c (.int .i64 (Int.ofNat n)) nx t
def QkX(x:AOpd):KX:=fun tm nx t c=>opK x tm fun v=>QdU v (c (.int .i64 (Int.ofNat 0)) nx t) (c (.int .i64 (Int.ofNat 0)) nx t) (fun _ _ n _=>c (.int .i64 (Int.ofNat n)) nx t) (fun _ _ n _=>c (.int .i64 (Int.ofNat n)) nx t)
 (fun l=>natF (List.length l) fun n=>c (.int .i64 (Int.ofNat n)) nx t)
def QiN(x:AOpd):KX:=fun tm nx t c=>opK x tm fun v=>mapD v (c (.int .i64 (Int.ofNat 0)) nx t) (fun b=>objK b t fun o=>mapoD o fun es _=>natF (List.length es) fun n=>c (.int .i64 (Int.ofNat n)) nx t)
def k_len(k:Nat)(x:AOpd):KX:=@Nat.rec (fun _=>KX) (QiM x) (fun k _=>@Nat.rec (fun _=>KX) (QkX x) (fun k _=>@Nat.rec (fun _=>KX) (QiN x) (fun _ _=>fun _ _ _ _=>false) k) k) k
theorem k_len_ok(k:Nat)(x:AOpd):KOk (k_len k x) (.len k x):=by
 intro tm nx t c h;simp only[exec]
 match k,h with
 |0,h =>
  have h':QiM x tm nx t c=true:=h;simp only[QiM,Qav,QfZ]at h';generalize kev tm x=a at h' ⊢;split at h'
  ·exact⟨_,nx,t,rfl,h'⟩
  ·cases h'
 |1,h =>
  have h':QkX x tm nx t c=true:=h;simp only[QkX,Qav,Qbp,Qas]at h';generalize kev tm x=a at h' ⊢;split at h'<;>first|exact⟨_,nx,t,rfl,h'⟩|cases h'
 |2,h =>
  have h':QiN x tm nx t c=true:=h;simp only[QiN,Qav,Qe1,QaG,QcZ,Qas]at h';generalize kev tm x=a at h' ⊢;split at h'
  ·exact⟨_,nx,t,rfl,h'⟩
  ·rename_i b;split at h'
   ·rename_i o ho;split at h'
    ·rename_i es clock;have hg:(absH nx t).get b=some (.map es clock):=by unfold absH;simp only[ho,Option.map_some,KO.abs]
     exact⟨_,nx,t,by simp only[lenK,hg];rfl,h'⟩
    ·cases h'
   ·cases h'
  ·cases h'
 |_+3,h=>cases h
end
end Go.Ab
namespace Go.Ab
open Go
noncomputable section
def QfK(k x:AV)(c:Bool→Bool):Bool:=
 binD k (fun j a=>binD x (fun j' b=>ifF (Qbr j j') (c (eqI a b))) (fun _ _=>false) false) (fun n a=>binD x (fun _ _=>false) (fun m b=>c (iteF (Nat.beq n m) (Nat.beq a b) false)) false)
  (boolD k fun a=>boolD x fun b=>c (iteF a b (notF b)))
theorem QkH{k x:AV}{c:Bool→Bool}(h:QfK k x c=true):∃b,sameKey k x=some b∧c b=true:=by
 simp only[QfK,Qhg,Qi9]at h;split at h
 ·split at h
  ·replace h:=Qac h;obtain⟨h1,h⟩:=h
   rw[QdG,decide_eq_true_iff]at h1;subst h1;exact⟨_,by simp only[sameKey,if_true];rfl,by rw[←Qom];exact h⟩
  ·cases h
  ·cases h
 ·split at h
  ·cases h
  ·rename_i n a _ m b;refine⟨n == m&&a == b,rfl,?_⟩;rw[Qaw,Qhh,Qhh]at h;cases hnm:n == m<;>rw[hnm]at h<;>exact h
  ·cases h
 ·split at h
  ·rename_i a _ _;cases x with
   |bool b =>
    refine⟨a == b,rfl,?_⟩;have h':c (iteF a b (notF b))=true:=h;rw[Qaw,QkP]at h';cases a<;>cases b<;>exact h'
   |_=>cases h
  ·cases h
def findK(k:AV):List (AV×AV×Nat)→Nat→(Nat→AV→Bool)→Bool→Bool:=
 @List.rec (AV×AV×Nat) (fun _=>Nat→(Nat→AV→Bool)→Bool→Bool) (fun _ _ nf=>nf) (fun e _ ih i f nf=>QfK k e.1 fun b=>iteF b (f i e.2.1) (ih (Nat.succ i) f nf))
theorem QfP{k:AV}:∀{es:List (AV×AV×Nat)}{i:Nat}{f:Nat→AV→Bool}{nf:Bool},findK k es i f nf=true→(∃j v,findA k es i=some (some (j,v))∧f j v=true)∨(findA k es i=some none∧nf=true)
 | [],_,_,_,h=>.inr ⟨rfl,h⟩
 |(x,v,n)::es,i,f,nf,h=>by
  have h':(QfK k x fun b=>iteF b (f i v) (findK k es (Nat.succ i) f nf))=true:=h;obtain⟨b,h1,h2⟩:=QkH h';simp only[findA,h1];cases b with
  |true=>exact .inl ⟨i,v,rfl,h2⟩
  |false=>exact QfP h2
def QjR(v:AV):Nat:=@AV.rec (fun _=>Nat) (fun _=>Unit) (fun _=>Unit) 9 (fun _=>2) (fun _ _=>0) (fun _ _=>1) 9 (fun _ _=>9) (fun _ _=>9) 9 9 (fun _ _ _ _=>9) (fun _ _ _ _=>9) (fun _ _=>9) 9 (fun _=>9) (fun _ _ _ _ _=>9) (fun _=>9) 9 (fun _ _ _=>9) 9 (fun _ _=>9) (fun _ _=>9) () (fun _ _ _ _=>()) () (fun _ _ _ _=>()) v
theorem QiB{v:AV}{kk:Nat}(h:Nat.beq (QjR v) kk=true)(hk:Nat.blt kk 9=true):v.keyKind=some kk:=by
 have h1:=Nat.eq_of_beq_eq_true h;have h2:=Nat.blt_eq.mp hk;subst h1;cases v<;>first|rfl|(simp only[QjR]at h2;omega)
def QiL(kk:Nat)(zero:AV)(m k:AOpd)(ok:Bool):KX:=fun tm nx t c=>opK k tm fun vk=>ifF (Nat.beq (QjR vk) kk) (ifF (Nat.blt kk 9) (opK m tm fun vm =>
 mapD vm (iteF ok (c (.tuple [zero,.bool false]) nx t) (c zero nx t)) (fun b=>objK b t fun o=>mapoD o fun es _=>findK vk es 0 (fun _ v=>iteF ok (c (.tuple [v,.bool true]) nx t) (c v nx t)) (iteF ok (c (.tuple [zero,.bool false]) nx t) (c zero nx t)))))
theorem QkU(kk:Nat)(zero:AV)(m k:AOpd)(ok:Bool):KOk (QiL kk zero m k ok) (.lookup kk zero m k ok):=by
 intro tm nx t c h;simp only[QiL,Qav]at h;simp only[exec];generalize kev tm k=vk at h ⊢;generalize kev tm m=vm at h ⊢
 replace h:=Qac h;obtain⟨h1,h⟩:=h
 replace h:=Qac h;obtain⟨h2,h⟩:=h
 rw[if_pos (QiB h1 h2)];simp only[Qe1,Qaw,QaG,QcZ]at h;split at h
 ·cases ok
  ·exact⟨_,nx,t,rfl,h⟩
  ·exact⟨_,nx,t,rfl,h⟩
 ·rename_i b;split at h
  ·rename_i o ho;split at h
   ·rename_i es clock;have hg:(absH nx t).get b=some (.map es clock):=by unfold absH;simp only[ho,Option.map_some,KO.abs]
    simp only[hg];rcases QfP h with⟨j,v,h3,h4⟩|⟨h3,h4⟩
    ·simp only[h3];cases ok
     ·exact⟨_,nx,t,rfl,h4⟩
     ·exact⟨_,nx,t,rfl,h4⟩
    ·simp only[h3];cases ok
     ·exact⟨_,nx,t,rfl,h4⟩
     ·exact⟨_,nx,t,rfl,h4⟩
   ·cases h
  ·cases h
 ·cases h
def snocK(e:AV×AV×Nat):List (AV×AV×Nat)→(List (AV×AV×Nat)→Bool)→Bool:=
 @List.rec (AV×AV×Nat) (fun _=>(List (AV×AV×Nat)→Bool)→Bool) (fun k=>k [e]) (fun x _ ih k=>ih fun l=>k (x::l))
theorem QlI(e:AV×AV×Nat):∀(l:List (AV×AV×Nat))(k:List (AV×AV×Nat)→Bool),snocK e l k=k (l++[e])
 | [],_=>rfl
 |x::l,k=>by
  show snocK e l (fun l=>k (x::l))=_;rw[QlI e l];rfl
def modK(f:AV×AV×Nat→AV×AV×Nat):Nat→List (AV×AV×Nat)→(List (AV×AV×Nat)→Bool)→Bool:=
 @Nat.rec (fun _=>List (AV×AV×Nat)→(List (AV×AV×Nat)→Bool)→Bool) (fun l k=>@List.rec (AV×AV×Nat) (fun _=>Bool) (k []) (fun x l _=>k (f x::l)) l)
  (fun _ ih l k=>@List.rec (AV×AV×Nat) (fun _=>Bool) (k []) (fun x l _=>ih l fun l'=>k (x::l')) l)
theorem QnS(f:AV×AV×Nat→AV×AV×Nat):∀(i:Nat)(l:List (AV×AV×Nat))(k:List (AV×AV×Nat)→Bool),modK f i l k=k (l.modify i f)
 |0,[],_=>rfl
 |0,_::_,_=>rfl
 |_+1,[],_=>rfl
 |i+1,x::l,k=>by
  show modK f i l (fun l'=>k (x::l'))=_;rw[QnS f i l];rfl
def eraK:Nat→List (AV×AV×Nat)→(List (AV×AV×Nat)→Bool)→Bool:=
 @Nat.rec (fun _=>List (AV×AV×Nat)→(List (AV×AV×Nat)→Bool)→Bool) (fun l k=>@List.rec (AV×AV×Nat) (fun _=>Bool) (k []) (fun _ l _=>k l) l)
  (fun _ ih l k=>@List.rec (AV×AV×Nat) (fun _=>Bool) (k []) (fun x l _=>ih l fun l'=>k (x::l')) l)
theorem Qok:∀(i:Nat)(l:List (AV×AV×Nat))(k:List (AV×AV×Nat)→Bool),eraK i l k=k (l.eraseIdx i)
 |0,[],_=>rfl
 |0,_::_,_=>rfl
 |_+1,[],_=>rfl
 |i+1,x::l,k=>by
  show eraK i l (fun l'=>k (x::l'))=_;rw[Qok i l];rfl
def Qec(kk:Nat)(m k x:AOpd):KX:=fun tm nx t c=>opK k tm fun vk=>ifF (Nat.beq (QjR vk) kk) (ifF (Nat.blt kk 9) (opK m tm fun vm=>opK x tm fun vx =>
 mapD vm false (fun b=>objK b t fun o=>mapoD o fun es clock=>findK vk es 0 (fun i _=>modK (fun e=>(vk,vx,e.2.2)) i es fun es'=>putK' b (.map es' clock) t fun t'=>c .undef nx t')
  (snocK (vk,vx,clock) es fun es'=>natF (Nat.succ clock) fun clock'=>putK' b (.map es' clock') t fun t'=>c .undef nx t'))))
theorem Qhu(kk:Nat)(m k x:AOpd):KOk (Qec kk m k x) (.mapUpdate kk m k x):=by
 intro tm nx t c h;simp only[Qec,Qav]at h;simp only[exec];generalize kev tm k=vk at h ⊢;generalize kev tm m=vm at h ⊢;generalize kev tm x=vx at h ⊢
 replace h:=Qac h;obtain⟨h1,h⟩:=h
 replace h:=Qac h;obtain⟨h2,h⟩:=h
 rw[if_pos (QiB h1 h2)];simp only[Qe1,QaG,QcZ,QnS,QlI,Qas,putK'_eq]at h;split at h
 ·cases h
 ·rename_i b;split at h
  ·rename_i o ho;split at h
   ·rename_i es clock;have hg:(absH nx t).get b=some (.map es clock):=by unfold absH;simp only[ho,Option.map_some,KO.abs]
    simp only[hg];rcases QfP h with⟨j,v,h3,h4⟩|⟨h3,h4⟩
    ·simp only[h3];exact⟨_,nx,_,by rw[Qa2];rfl,h4⟩
    ·simp only[h3];exact⟨_,nx,_,by rw[Qa2];rfl,h4⟩
   ·cases h
  ·cases h
 ·cases h
def QiQ(kk:Nat)(m k:AOpd):KX:=fun tm nx t c=>opK k tm fun vk=>ifF (Nat.beq (QjR vk) kk) (ifF (Nat.blt kk 9) (opK m tm fun vm =>
 mapD vm (c (.tuple []) nx t) (fun b=>objK b t fun o=>mapoD o fun es clock=>findK vk es 0 (fun i _=>eraK i es fun es'=>putK' b (.map es' clock) t fun t'=>c (.tuple []) nx t') (c (.tuple []) nx t))))
theorem Qk1(kk:Nat)(m k:AOpd):KOk (QiQ kk m k) (.delete kk m k):=by
 intro tm nx t c h;simp only[QiQ,Qav]at h;simp only[exec];generalize kev tm k=vk at h ⊢;generalize kev tm m=vm at h ⊢
 replace h:=Qac h;obtain⟨h1,h⟩:=h
 replace h:=Qac h;obtain⟨h2,h⟩:=h
 rw[if_pos (QiB h1 h2)];simp only[Qe1,QaG,QcZ,Qok,putK'_eq]at h;split at h
 ·exact⟨_,nx,t,rfl,h⟩
 ·rename_i b;split at h
  ·rename_i o ho;split at h
   ·rename_i es clock;have hg:(absH nx t).get b=some (.map es clock):=by unfold absH;simp only[ho,Option.map_some,KO.abs]
    simp only[hg];rcases QfP h with⟨j,v,h3,h4⟩|⟨h3,h4⟩
    ·simp only[h3];exact⟨_,nx,_,by rw[Qa2];rfl,h4⟩
    ·simp only[h3];exact⟨_,nx,t,rfl,h4⟩
   ·cases h
  ·cases h
 ·cases h
def Qfa(m:AOpd):KX:=fun tm nx t c=>opK m tm fun vm=>mapD vm (c (.tuple []) nx t) (fun b=>objK b t fun o=>mapoD o fun _ clock=>putK' b (.map [] clock) t fun t'=>c (.tuple []) nx t')
theorem QiS(m:AOpd):KOk (Qfa m) (.clearMap m):=by
 intro tm nx t c h;simp only[Qfa,Qav,Qe1,QaG,QcZ,putK'_eq]at h;simp only[exec];generalize kev tm m=vm at h ⊢;split at h
 ·exact⟨_,nx,t,rfl,h⟩
 ·rename_i b;split at h
  ·rename_i o ho;split at h
   ·rename_i es clock;have hg:(absH nx t).get b=some (.map es clock):=by unfold absH;simp only[ho,Option.map_some,KO.abs]
    exact⟨_,nx,_,by simp only[hg];rw[Qa2];rfl,h⟩
   ·cases h
  ·cases h
 ·cases h
def Qe4(x:AOpd):KX:=fun tm nx t c=>opK x tm fun v=>strD v fun n b=>Qbm (.iter n b 0) nx t fun nx' t'=>c (.ptr nx 0) nx' t'
theorem QiG(x:AOpd):KOk (Qe4 x) (.rangeStr x):=by
 intro tm nx t c h;simp only[Qe4,Qav,QfZ,QaT]at h;simp only[exec];generalize kev tm x=v at h ⊢;split at h
 ·exact⟨_,_,_,by rw[QaN];rfl,h⟩
 ·cases h
def QgI(x:AOpd):KX:=fun tm nx t c=>opK x tm fun v=>ptrD v (fun b o=>ifF (Nat.beq o 0) (objK b t fun ob=>iterD ob fun n s pos =>
 iteF (Nat.blt pos n) (natF (Nat.mod (Nat.shiftRight s (Nat.mul 8 pos)) 256) fun z=>ifF (Nat.blt z 128) (natF (Nat.succ pos) fun pos'=>putK' b (.iter n s pos') t fun t'=>c (.tuple [.bool true,.int .i64 (Int.ofNat pos),.int .i32 (Int.ofNat z)]) nx t')) (c (.tuple [.bool false]) nx t))) (fun _=>false)
theorem QjS(x:AOpd):KOk (QgI x) (.nextStr x):=by
 intro tm nx t c h;simp only[QgI,Qav,Qct]at h;simp only[exec];generalize kev tm x=v at h ⊢;split at h
 ·rename_i b o
  replace h:=Qac h;obtain⟨h1,h⟩:=h
  obtain rfl:o=0:=Nat.eq_of_beq_eq_true h1;simp only[QaG,iterD_eq,Qas,putK'_eq,Qaw]at h;split at h
  ·rename_i ob hob;split at h
   ·rename_i n s pos;have hg:(absH nx t).get b=some (.iter n s pos):=by unfold absH;simp only[hob,Option.map_some,KO.abs]
    simp only[hg];split at h
    ·rename_i hlt;have hlt':pos<n:=Nat.blt_eq.mp hlt
     replace h:=Qac h;obtain⟨h2,h⟩:=h
     have h2':byteN s pos<128:=Nat.blt_eq.mp h2;exact⟨_,nx,_,by rw[if_pos hlt',if_pos h2',Qa2];rfl,h⟩
    ·rename_i hlt;have hlt':¬pos<n:=fun e=>hlt (Nat.blt_eq.mpr e)
     exact⟨_,nx,t,by rw[if_neg hlt'],h⟩
   ·cases h
  ·cases h
 ·cases h
 ·cases h
def QjN(v:AV)(k:Nat→Bool):Bool:=binD v (fun _ _=>false) (fun n _=>k n) (QdU v (k 0) (k 0) (fun _ _ n _=>k n) (fun _ _ n _=>k n) (fun l=>natF (List.length l) k))
theorem QgD{v:AV}{k:Nat→Bool}(h:QjN v k=true):∃n,lenA v=some n∧k n=true:=by
 simp only[QjN,Qhg,Qbp,Qas]at h;cases v<;>first|exact⟨_,rfl,h⟩|cases h
def Qmb(size n:Nat)(v:AV)(t:T8 KO)(k:List AV→Bool):Bool:=
 binD v (fun _ _=>false) (fun m b=>ifF (Nat.beq size 1) (ifF (Nat.ble n m) (k (Qkj n b))))
  (QdU v (ifF (Nat.beq n 0) (k [])) (ifF (Nat.beq n 0) (k [])) (fun b o m _=>ifF (Nat.ble n m) (objK b t fun ob=>cellsD ob fun len r=>ifF (Nat.ble (Nat.add o (Nat.mul n size)) len) (readK (Nat.mul n size) o r k)))
   (fun b o m _=>ifF (Nat.ble n m) (objK b t fun ob=>cellsD ob fun len r=>ifF (Nat.ble (Nat.add o (Nat.mul n size)) len) (readK (Nat.mul n size) o r k)))
   (fun l=>optF (Qar ⟨fun _=>none,0⟩ size n (.vec l)) k))
theorem Qka{size n:Nat}{v:AV}{nx:Nat}{t:T8 KO}{k:List AV→Bool}(h:Qmb size n v t k=true):∃xs,Qar (absH nx t) size n v=some xs∧k xs=true:=by
 simp only[Qmb,Qhg,Qbp,QaG,QbJ,Qbd,Qbq]at h;have hrow:∀{b o m:Nat},ifF (Nat.ble n m) (match t.get b with|some ob=>(match ob.row with|some (len,r)=>ifF (Nat.ble (Nat.add o (Nat.mul n size)) len) (k (readL (Nat.mul n size) o r))|none=>false)|none=>false)=true →
   n≤m∧∃xs,(absH nx t).read b o (n*size)=some xs∧k xs=true:=by
  intro b o m h
  replace h:=Qac h;obtain⟨h1,h⟩:=h
  split at h
  ·rename_i ob hob;split at h
   ·rename_i len r hr
    replace h:=Qac h;obtain⟨h2,h⟩:=h
    exact⟨Nat.le_of_ble_eq_true h1,_,Qcl hob hr (Nat.le_of_ble_eq_true h2),h⟩
   ·cases h
  ·cases h
 cases v with
 |nilslice =>
  replace h:=Qac h;obtain⟨h1,h⟩:=h
  exact⟨[],by simp only[Qar];rw[if_pos (Nat.eq_of_beq_eq_true h1)],h⟩
 |empty =>
  replace h:=Qac h;obtain⟨h1,h⟩:=h
  exact⟨[],by simp only[Qar];rw[if_pos (Nat.eq_of_beq_eq_true h1)],h⟩
 |slice b o m c =>
  obtain⟨h1,xs,h2,h3⟩:=hrow h;exact⟨xs,by simp only[Qar];rw[if_pos h1];exact h2,h3⟩
 |slop b o m c =>
  obtain⟨h1,xs,h2,h3⟩:=hrow h;exact⟨xs,by simp only[Qar];rw[if_pos h1];exact h2,h3⟩
 |vec l =>
  simp only at h;split at h
  ·rename_i xs hxs;exact⟨xs,hxs,h⟩
  ·cases h
 |str m b =>
  replace h:=Qac h;obtain⟨h1,h⟩:=h
  replace h:=Qac h;obtain⟨h2,h⟩:=h
  exact⟨_,by simp only[Qar];rw[if_pos ⟨Nat.eq_of_beq_eq_true h1,Nat.le_of_ble_eq_true h2⟩],h⟩
 |_=>cases h
def QbD(xs:List AV)(sp:Option Nat)(pre:Nat)(anc:List Nat)(nx:Nat)(t:T8 KO)(k:Nat→T8 KO→Bool):Bool:=QaL xs 0 .nil fun r=>Qbm (.cells (List.length xs) r sp pre anc) nx t k
theorem QbC(xs:List AV)(sp:Option Nat)(pre:Nat)(anc:List Nat)(nx:Nat)(t:T8 KO)(k:Nat→T8 KO→Bool):∃t',QbD xs sp pre anc nx t k=k (nx+1) t'∧absH (nx+1) t'=(absH nx t).alloc (.cells xs sp pre anc):=by
 refine⟨_,by unfold QbD;rw[QaF,QaT],?_⟩;rw[QaN];simp only[KO.abs,QbR]
def Qlu(size bytes tg:Nat)(n:Nat)(xs:List AV)(s:AV)(nx:Nat)(t:T8 KO)(c:AV→Nat→T8 KO→Bool):Bool:=
 ifF (Nat.beq (List.length xs) (Nat.mul n size)) (ifF (Nat.blt 0 size) (ifF (Nat.blt 0 bytes) (ifF (Nat.blt bytes 1000000) (ifF (Nat.blt (Nat.mul n bytes) 1000000000000) (ifF (Qja xs)
  (iteF (Nat.beq n 0) (QdU s (c s nx t) (c s nx t) (fun _ _ _ _=>c s nx t) (fun _ _ _ _=>c s nx t) (fun _=>c s nx t))
   (QdU s (QbD xs (some tg) 0 [] nx t fun nx' t'=>c (.slop nx 0 n size) nx' t') (QbD xs (some tg) 0 [] nx t fun nx' t'=>c (.slop nx 0 n size) nx' t')
    (fun b o m cc=>ifF (Nat.blt (Nat.mul m bytes) 1000000000000) (natF (Nat.add m n) fun mn=>iteF (Nat.ble mn cc) (QdS b (Nat.add o (Nat.mul m size)) xs t fun t'=>c (.slice b o mn cc) nx t')
     (objK b t fun ob=>cellsD ob fun len r=>ifF (Nat.ble (Nat.add o (Nat.mul m size)) len) (readK (Nat.mul m size) o r fun l=>QbD (l++xs) (some tg) 0 [] nx t fun nx' t'=>c (.slop nx 0 mn size) nx' t'))))
    (fun b o m es=>objK b t fun ob=>rowD ob fun len r sp pre anc=>optF sp fun e=>ifF (Nat.beq e tg) (ifF (Nat.blt (Nat.mul m bytes) 1000000000000) (natF (Nat.add o (Nat.mul m size)) fun at'=>ifF (Nat.ble at' len) (ifF (Nat.beq es size) (natF (Nat.add m n) fun mn =>
     iteF (Nat.ble (Nat.add at' (List.length xs)) len) (QdS b at' xs t fun t'=>c (.slop b o mn es) nx t')
      (iteF (Nat.beq at' len)
       (iteF (Nat.beq o 0) (QaL xs len r fun r'=>putK' b (.old len r) t fun t1=>natF (Nat.add len (List.length xs)) fun len'=>Qbm (.cells len' r' (some tg) (Nat.mul m size) (b::anc)) nx t1 fun nx' t'=>c (.slop nx 0 mn size) nx' t')
        (readK (Nat.sub len o) o r fun l=>putK' b (.old len r) t fun t1=>QbD (l++xs) (some tg) (Nat.mul m size) (b::anc) nx t1 fun nx' t'=>c (.slop nx 0 mn size) nx' t'))
       (readK (Nat.mul m size) o r fun l=>QbD (l++xs) (some tg) 0 [] nx (QdW (b::anc) t) fun nx' t'=>c (.slop nx 0 mn size) nx' t')))))))
    (fun _=>false))))))))
theorem Qm4{size bytes tg n:Nat}{xs:List AV}{s:AV}{nx:Nat}{t:T8 KO}{c:AV→Nat→T8 KO→Bool}(h:Qlu size bytes tg n xs s nx t c=true) :
  ∃v nx' t',QbU size bytes tg (absH nx t) n xs s=some (v,absH nx' t')∧c v nx' t'=true:=by
 unfold Qlu at h
 replace h:=Qac h;obtain⟨h1,h⟩:=h
 replace h:=Qac h;obtain⟨h2,h⟩:=h
 replace h:=Qac h;obtain⟨h3,h⟩:=h
 replace h:=Qac h;obtain⟨h4,h⟩:=h
 replace h:=Qac h;obtain⟨h5,h⟩:=h
 replace h:=Qac h;obtain⟨h6,h⟩:=h
 have e1:xs.length=n*size:=Nat.eq_of_beq_eq_true h1;have e2:0<size:=Nat.blt_eq.mp h2;have e3:0<bytes:=Nat.blt_eq.mp h3;have e4:bytes<1000000:=Nat.blt_eq.mp h4;have e5:n*bytes<1000000000000:=Nat.blt_eq.mp h5;rw[Qfh]at h6;unfold QbU;rw[if_pos ⟨e1,by omega,by omega,e4,e5,h6⟩];rw[Qaw]at h;split at h
 ·rename_i hn;rw[if_pos (Nat.eq_of_beq_eq_true hn)];rw[Qbp]at h;cases s<;>first|exact⟨_,nx,t,rfl,h⟩|cases h
 ·rename_i hn;have hn0:¬n=0:=fun e=>hn (by rw[e];rfl)
  rw[if_neg hn0];rw[Qbp]at h;cases s with
  |nilslice =>
   simp only at h ⊢;obtain⟨t',k1,k2⟩:=QbC xs (some tg) 0 [] nx t fun nx' t'=>c (.slop nx 0 n size) nx' t'
   rw[k1]at h;exact⟨_,_,t',by rw[k2];rfl,h⟩
  |empty =>
   simp only at h ⊢;obtain⟨t',k1,k2⟩:=QbC xs (some tg) 0 [] nx t fun nx' t'=>c (.slop nx 0 n size) nx' t'
   rw[k1]at h;exact⟨_,_,t',by rw[k2];rfl,h⟩
  |slice b o m cc =>
   simp only at h ⊢
   replace h:=Qac h;obtain⟨h7,h⟩:=h
   rw[if_pos (show m*bytes<1000000000000 from Nat.blt_eq.mp h7)];rw[Qas,Qaw]at h;split at h
   ·rename_i hle;have hle':m+n≤cc:=Nat.le_of_ble_eq_true hle;rw[if_pos hle'];obtain⟨t',k1,k2⟩:=QcB (nx:=nx) h;have k1':(absH nx t).store b (o+m*size) xs=some (absH nx t'):=k1;exact⟨_,nx,t',by rw[k1'];rfl,k2⟩
   ·rename_i hle;have hle':¬m+n≤cc:=fun e=>hle (Nat.ble_eq.mpr e)
    rw[if_neg hle'];rw[QaG]at h;split at h
    ·rename_i ob hob;rw[QbJ]at h;split at h
     ·rename_i len r hr
      replace h:=Qac h;obtain⟨h8,h⟩:=h
      rw[Qbd]at h;have hrd:=Qcl (nx:=nx) hob hr (i:=o) (k:=m*size) (Nat.le_of_ble_eq_true h8);rw[hrd];obtain⟨t',k1,k2⟩:=QbC (readL (m*size) o r++xs) (some tg) 0 [] nx t fun nx' t'=>c (.slop nx 0 (m+n) size) nx' t'
      have h':QbD (readL (m*size) o r++xs) (some tg) 0 [] nx t (fun nx' t'=>c (.slop nx 0 (m+n) size) nx' t')=true:=h;rw[k1]at h';exact⟨_,_,t',by rw[k2];rfl,h'⟩
     ·cases h
    ·cases h
  |slop b o m es =>
   simp only at h ⊢;rw[QaG]at h;split at h
   ·rename_i ob hob;rw[Qis]at h;split at h
    ·rename_i len r sp pre anc;rw[Qbq]at h;split at h
     ·rename_i e';have hg:(absH nx t).get b=some (.cells (rowL len r) (some e') pre anc):=by unfold absH;simp only[hob,Option.map_some,KO.abs]
      rw[hg];simp only
      replace h:=Qac h;obtain⟨h70,h⟩:=h
      replace h:=Qac h;obtain⟨h7,h⟩:=h
      rw[Qas]at h
      replace h:=Qac h;obtain⟨h8,h⟩:=h
      replace h:=Qac h;obtain⟨h9,h⟩:=h
      have e7:m*bytes<1000000000000:=Nat.blt_eq.mp h7;have e8:o+m*size≤len:=Nat.le_of_ble_eq_true h8;have e9:es=size:=Nat.eq_of_beq_eq_true h9;subst e9;rw[if_pos ⟨e7,by rw[QaK];exact e8,rfl,Nat.eq_of_beq_eq_true h70⟩];rw[QaK];rw[Qas,Qaw]at h;split at h
      ·rename_i hle;have hle':o+m*es+xs.length≤len:=Nat.le_of_ble_eq_true hle;rw[if_pos hle'];obtain⟨t',k1,k2⟩:=QcB (nx:=nx) h;have k1':(absH nx t).store b (o+m*es) xs=some (absH nx t'):=k1;exact⟨_,nx,t',by rw[k1'];rfl,k2⟩
      ·rename_i hle;have hle':¬o+m*es+xs.length≤len:=fun e=>hle (Nat.ble_eq.mpr e)
       rw[if_neg hle'];rw[Qaw]at h;split at h
       ·rename_i heq;have heq':o+m*es=len:=Nat.eq_of_beq_eq_true heq;rw[if_pos heq'];rw[Qaw]at h;split at h
        ·rename_i ho0;have ho0':o=0:=Nat.eq_of_beq_eq_true ho0;subst ho0';rw[QaF,putK'_eq,Qas,QaT]at h;refine⟨_,_,_,?_,h⟩;rw[QaN,Qa2];simp only[KO.abs,List.drop_zero];have:=Qge (n:=len) r xs;rw[show Nat.add len xs.length=len+xs.length from rfl,this];rfl
        ·rw[Qbd,putK'_eq]at h;obtain⟨t',k1,k2⟩:=QbC (readL (len-o) o r++xs) (some tg) (m*es) (b::anc) nx (t.set b (.old len r)) fun nx' t'=>c (.slop nx 0 (m+n) es) nx' t'
         have h':QbD (readL (len-o) o r++xs) (some tg) (m*es) (b::anc) nx (t.set b (.old len r)) (fun nx' t'=>c (.slop nx 0 (m+n) es) nx' t')=true:=h;rw[k1]at h';refine⟨_,_,t',?_,h'⟩;rw[k2,Qa2];have hdrop:(rowL len r).drop o=readL (len-o) o r:=by
          have:=Qgd (n:=len) (o:=o) (k:=len-o) r (by omega);rw[←this,List.take_of_length_le (by rw[List.length_drop,QaK];exact Nat.le_refl _)]
         rw[hdrop];rfl
       ·rename_i hne;have hne':¬o+m*es=len:=fun e=>hne (Nat.beq_eq.mpr (show Nat.add o (Nat.mul m es)=len from e))
        rw[if_neg hne'];rw[Qbd]at h;obtain⟨t',k1,k2⟩:=QbC (readL (m*es) o r++xs) (some tg) 0 [] nx (QdW (b::anc) t) fun nx' t'=>c (.slop nx 0 (m+n) es) nx' t'
        have h':QbD (readL (m*es) o r++xs) (some tg) 0 [] nx (QdW (b::anc) t) (fun nx' t'=>c (.slop nx 0 (m+n) es) nx' t')=true:=h;rw[k1]at h';refine⟨_,_,t',?_,h'⟩;rw[k2,Qhk,Qgd _ e8];rfl
     ·cases h
    ·cases h
   ·cases h
  |_=>cases h
def QiU(size bytes tg:Nat)(s x:AOpd):KX:=fun tm nx t c=>opK x tm fun vx=>QjN vx fun n=>Qmb size n vx t fun xs=>opK s tm fun vs=>Qlu size bytes tg n xs vs nx t c
theorem Qk2(size bytes tg:Nat)(s x:AOpd):KOk (QiU size bytes tg s x) (.append size bytes tg s x):=by
 intro tm nx t c h;simp only[QiU,Qav]at h;simp only[exec];generalize kev tm x=vx at h ⊢;generalize kev tm s=vs at h ⊢;obtain⟨n,h1,h⟩:=QgD h;obtain⟨xs,h2,h⟩:=Qka (nx:=nx) h;rw[h1];simp only[h2];exact Qm4 h
def Qn1(size:Nat)(d s:AOpd):KX:=fun tm nx t c=>opK s tm fun vs=>QjN vs fun n=>opK d tm fun vd=>QjN vd fun m=>natF (Nat.min n m) fun q=>Qmb size q vs t fun xs =>
 QdU vd (c (.int .i64 (Int.ofNat 0)) nx t) (c (.int .i64 (Int.ofNat 0)) nx t) (fun b o _ _=>QdS b o xs t fun t'=>c (.int .i64 (Int.ofNat q)) nx t') (fun b o _ _=>QdS b o xs t fun t'=>c (.int .i64 (Int.ofNat q)) nx t') (fun _=>false)
theorem Qn0(size:Nat)(d s:AOpd):KOk (Qn1 size d s) (.copy size d s):=by
 intro tm nx t c h;simp only[Qn1,Qav,Qas]at h;simp only[exec];generalize kev tm s=vs at h ⊢;generalize kev tm d=vd at h ⊢;obtain⟨n,h1,h⟩:=QgD h;obtain⟨m,h2,h⟩:=QgD h;obtain⟨xs,h3,h⟩:=Qka (nx:=nx) h;have h3':Qar (absH nx t) size (min n m) vs=some xs:=h3;rw[h1,h2];simp only[h3'];rw[Qbp]at h;cases vd with
 |nilslice=>exact⟨_,nx,t,rfl,h⟩
 |empty=>exact⟨_,nx,t,rfl,h⟩
 |slice b o a e =>
  obtain⟨t',k1,k2⟩:=QcB (nx:=nx) h;exact⟨_,nx,t',by simp only[k1];rfl,k2⟩
 |slop b o a e =>
  obtain⟨t',k1,k2⟩:=QcB (nx:=nx) h;exact⟨_,nx,t',by simp only[k1];rfl,k2⟩
 |_=>cases h
def QgN(zero:List AV)(x:AOpd):KX:=fun tm nx t c=>opK x tm fun vx =>
 QdU vx (c (.tuple []) nx t) (c (.tuple []) nx t) (fun b o n _=>iteF (Nat.beq n 0) (c (.tuple []) nx t) (QdS b o (List.replicate n zero).flatten t fun t'=>c (.tuple []) nx t')) (fun b o n _=>iteF (Nat.beq n 0) (c (.tuple []) nx t) (QdS b o (List.replicate n zero).flatten t fun t'=>c (.tuple []) nx t')) (fun _=>false)
theorem QjX(zero:List AV)(x:AOpd):KOk (QgN zero x) (.clearSl zero x):=by
 intro tm nx t c h;simp only[QgN,Qav,Qaw]at h;simp only[exec];generalize kev tm x=vx at h ⊢;rw[Qbp]at h;have key:∀b o n:Nat,(if Nat.beq n 0=true then c (.tuple []) nx t else QdS b o (List.replicate n zero).flatten t fun t'=>c (.tuple []) nx t')=true →
   ∃v nx' t',(if (n == 0)=true then some (AV.tuple [],absH nx t) else ((absH nx t).store b o (List.replicate n zero).flatten).map fun h'=>(AV.tuple [],h'))=some (v,absH nx' t')∧c v nx' t'=true:=by
  intro b o n h;by_cases hn:n=0
  ·subst hn;exact⟨_,nx,t,rfl,h⟩
  ·have e1:Nat.beq n 0=false:=by cases n with|zero=>exact absurd rfl hn|succ n=>rfl
   have e2:(n == 0)=false:=by simp[hn]
   rw[e1]at h;rw[e2];simp only[Bool.false_eq_true,if_false]at h ⊢;obtain⟨t',k1,k2⟩:=QcB (nx:=nx) h;exact⟨_,nx,t',by simp only[k1];rfl,k2⟩
 cases vx with
 |nilslice=>exact⟨_,nx,t,rfl,h⟩
 |empty=>exact⟨_,nx,t,rfl,h⟩
 |slice b o a e=>exact key b o a h
 |slop b o a e=>exact key b o a h
 |_=>cases h
def AV.isNilptr:AV→Bool:=
 @AV.rec (fun _=>Bool) (fun _=>Unit) (fun _=>Unit) false (fun _=>false) (fun _ _=>false) (fun _ _=>false) true (fun _ _=>false) (fun _ _=>false) false false (fun _ _ _ _=>false) (fun _ _ _ _=>false) (fun _ _=>false)
  false (fun _=>false) (fun _ _ _ _ _=>false) (fun _=>false) false (fun _ _ _=>false) false (fun _ _=>false) (fun _ _=>false) () (fun _ _ _ _=>()) () (fun _ _ _ _=>())
def k_un(op:UnOp)(x:AOpd):KX:=qK fun tm _ _=>unA op (kev tm x)
theorem k_un_ok(op:UnOp)(x:AOpd):KOk (k_un op x) (.un op x):=qK_ok fun tm nx t v h=>by simp only[exec,h];rfl
def QgL(x:AOpd):KX:=fun tm nx t c=>opK x tm fun v=>strD v fun n b=>c (.str n b) nx t
theorem QjV(x:AOpd):KOk (QgL x) (.convStr x):=by
 intro tm nx t c h;simp only[QgL,Qav,QfZ]at h;simp only[exec];generalize kev tm x=v at h ⊢;split at h
 ·exact⟨_,nx,t,rfl,h⟩
 ·cases h
def Qe9(x:AOpd):KX:=fun tm nx t c=>opK x tm fun v=>idxK v fun n=>ifF (Nat.blt n 128) (c (.str 1 n) nx t)
theorem QiR(x:AOpd):KOk (Qe9 x) (.convRune x):=by
 intro tm nx t c h;simp only[Qe9,Qav,Qfb]at h;simp only[exec];generalize kev tm x=v at h ⊢;split at h
 ·rename_i n hn
  replace h:=Qac h;obtain⟨h1,h⟩:=h
  exact⟨_,nx,t,by rw[hn];simp only[if_pos (Nat.blt_eq.mp h1)],h⟩
 ·cases h
def Qe3(x:AOpd)(lo hi:Option AOpd):KX:=fun tm nx t c=>opK x tm fun v=>strD v fun n b=>optF (Qaz 0 (lo.map (kev tm))) fun l=>optF (Qaz n (hi.map (kev tm))) fun k=>natF l fun l=>natF k fun k =>
 ifF (Nat.ble l k) (ifF (Nat.ble k n) (natF (Nat.sub k l) fun m=>natF (Nat.mod (Nat.shiftRight b (Nat.mul 8 l)) (Nat.pow 2 (Nat.mul 8 m))) fun z=>c (.str m z) nx t))
theorem QiE(x:AOpd)(lo hi:Option AOpd):KOk (Qe3 x lo hi) (.sliceStr x lo hi):=by
 intro tm nx t c h;simp only[Qe3,Qav,QfZ,Qbq,Qas]at h;simp only[exec];generalize kev tm x=v at h ⊢;split at h
 ·rename_i n b;split at h
  ·rename_i l hl;split at h
   ·rename_i k hk
    replace h:=Qac h;obtain⟨h1,h⟩:=h
    replace h:=Qac h;obtain⟨h2,h⟩:=h
    refine⟨_,nx,t,?_,h⟩;simp only[hl,hk,if_pos (show l≤k∧k≤n from⟨Nat.le_of_ble_eq_true h1,Nat.le_of_ble_eq_true h2⟩)];rfl
   ·cases h
  ·cases h
 ·cases h
def QnX(size:Nat)(x:AOpd)(lo hi mx:Option AOpd):KX:=qK fun tm _ _=>QbL size (lo.map (kev tm)) (hi.map (kev tm)) (mx.map (kev tm)) (kev tm x)
theorem QmL(size:Nat)(x:AOpd)(lo hi mx:Option AOpd):KOk (QnX size x lo hi mx) (.slice size x lo hi mx):=qK_ok fun tm nx t v h=>by simp only[exec,h];rfl
def QhZ(len size:Nat)(x:AOpd)(lo hi mx:Option AOpd):KX:=qK fun tm _ _=>(exec ⟨fun _=>none,0⟩ (kev tm) (.sliceArr len size x lo hi mx)).map (·.1)
theorem QiF(len size:Nat)(x:AOpd)(lo hi mx:Option AOpd):KOk (QhZ len size x lo hi mx) (.sliceArr len size x lo hi mx):=qK_ok fun tm nx t v h=>by
 obtain⟨⟨v',h'⟩,h1,h2⟩:=oM h;simp only at h2;subst h2;simp only[exec]at h1 ⊢;split at h1
 ·rename_i q1 q2 q3;split at h1
  ·rename_i hc;cases h1;simp only[q1,q2,q3,if_pos hc]
  ·cases h1
 ·cases h1
def QkZ(agg:Bool)(len size:Nat)(x i:AOpd):KX:=fun tm nx t c=>opK i tm fun vi=>idxK vi fun n=>opK x tm fun a=>aggD a fun l=>ifF (Nat.blt n len) (optF (partA agg (Nat.mul n size) size l) fun v=>c v nx t)
theorem QmO(agg:Bool)(len size:Nat)(x i:AOpd):KOk (QkZ agg len size x i) (.index agg len size x i):=by
 intro tm nx t c h;simp only[QkZ,Qav,Qfb,Qlv,Qbq]at h;simp only[exec];generalize kev tm x=a at h ⊢;generalize kev tm i=vi at h ⊢;split at h
 ·rename_i n hn;split at h
  ·rename_i l
   replace h:=Qac h;obtain⟨h1,h⟩:=h
   split at h
   ·rename_i v hv;have hv':partA agg (n*size) size l=some v:=hv;exact⟨v,nx,t,by rw[hn];simp only[if_pos (Nat.blt_eq.mp h1),hv'];rfl,h⟩
   ·cases h
  ·cases h
 ·cases h
def QiJ(mx:Bool)(xs:List AOpd):KX:=fun tm nx t c=>opsK xs tm fun l=>optF (Qdm mx l) fun v=>c v nx t
theorem QkT(mx:Bool)(xs:List AOpd):KOk (QiJ mx xs) (.minMax mx xs):=by
 intro tm nx t c h;simp only[QiJ,Qgn,Qbq]at h;split at h
 ·rename_i v hv;exact⟨v,nx,t,by simp only[exec,hv];rfl,h⟩
 ·cases h
def QlY(n:Nat):KX:=fun _ nx t c=>c (.int .i64 (Int.ofNat n)) nx t
theorem QkY(n:Nat):KOk (QlY n) (.lenArr n):=fun _ nx t _ h=>⟨_,nx,t,rfl,h⟩
def Qh1(x:AOpd):KX:=qK fun tm nx t=>(exec (absH nx t) (kev tm) (.bytesStr x)).map (·.1)
theorem QiT(x:AOpd):KOk (Qh1 x) (.bytesStr x):=qK_ok fun tm nx t v h=>by
 obtain⟨⟨v',h'⟩,h1,h2⟩:=oM h;simp only at h2;subst h2;have e:h'=absH nx t:=by
  simp only[exec]at h1;split at h1
  ·cases h1;rfl
  ·cases h1;rfl
  ·split at h1
   ·split at h1
    ·cases h1;rfl
    ·cases h1
   ·cases h1
  ·split at h1
   ·split at h1
    ·cases h1;rfl
    ·cases h1
   ·cases h1
  ·cases h1
 rw[h1,e]
def QhY(x:AOpd):KX:=qK fun tm nx t=>(exec (absH nx t) (kev tm) (.toUnsafe x)).map (·.1)
theorem QlN{nx:Nat}{t:T8 KO}{tm:T8 AV}{a:AOp}{v:AV}(hq:a.quiet=true)(h:(exec (absH nx t) (kev tm) a).map (·.1)=some v):exec (absH nx t) (kev tm) a=some (v,absH nx t):=by
 obtain⟨⟨v',h'⟩,h1,h2⟩:=oM h;simp only at h2;subst h2;have e:h'=absH nx t:=(QdL (h':=absH nx t) hq h1 (fun _ _ e=>e)).1;rw[h1,e]
theorem QiD(x:AOpd):KOk (QhY x) (.toUnsafe x):=qK_ok fun tm nx t v h=>QlN rfl h
def Qh0(ok:Nat→Nat→Nat→Bool)(x:AOpd):KX:=qK fun tm nx t=>(exec (absH nx t) (kev tm) (.ofUnsafe ok x)).map (·.1)
theorem QiH(ok:Nat→Nat→Nat→Bool)(x:AOpd):KOk (Qh0 ok x) (.ofUnsafe ok x):=qK_ok fun tm nx t v h=>QlN rfl h
def QgH(x:AOpd):KX:=qK fun tm nx t=>(exec (absH nx t) (kev tm) (.sliceData x)).map (·.1)
theorem Qht(x:AOpd):KOk (QgH x) (.sliceData x):=qK_ok fun tm nx t v h=>QlN rfl h
def k_cap(x:AOpd):KX:=qK fun tm nx t=>(exec (absH nx t) (kev tm) (.cap x)).map (·.1)
theorem k_cap_ok(x:AOpd):KOk (k_cap x) (.cap x):=qK_ok fun tm nx t v h=>QlN rfl h
def Qeb(et:Nat)(p n:AOpd):KX:=fun tm nx t c=>opK n tm fun vn=>idxK vn fun m=>opK p tm fun vp =>
 iteF (AV.isNilptr vp) (ifF (Nat.beq m 0) (c (.str 0 0) nx t)) (ptrD vp (fun b o=>iteF (Nat.beq m 0) (c (.str 0 0) nx t) (ifF (Nat.blt m 1000000000000) (objK b t fun ob=>rowD ob fun len r sp pre anc=>optF sp fun e =>
  ifF (Nat.beq (Nat.div e 2) et) (ifF (Nat.ble (Nat.add o m) len) (readK m o r fun l=>optF (numOf l) fun v=>c (.str m v) nx (QdW (b::anc) t)))))) (fun _=>false))
theorem Qhs(et:Nat)(p n:AOpd):KOk (Qeb et p n) (.unsafeStr et p n):=by
 intro tm nx t c h;simp only[Qeb,Qav,Qfb,Qaw,Qct]at h;simp only[exec];generalize kev tm p=vp at h ⊢;generalize kev tm n=vn at h ⊢;split at h
 case h_2=>cases h
 rename_i m hm;rw[hm];cases vp with
 |nilptr =>
  simp only[AV.isNilptr,if_true]at h
  replace h:=Qac h;obtain⟨h1,h⟩:=h
  exact⟨_,nx,t,by simp only[Nat.eq_of_beq_eq_true h1,if_true],h⟩
 |ptr b o =>
  simp only[AV.isNilptr,Bool.false_eq_true,if_false]at h;split at h
  ·rename_i h1;exact⟨_,nx,t,by simp only[Nat.eq_of_beq_eq_true h1,if_true],h⟩
  ·rename_i h1;have h1':¬m=0:=fun e=>h1 (by rw[e];rfl)
   replace h:=Qac h;obtain⟨h2,h⟩:=h
   rw[QaG]at h;split at h
   case h_2=>cases h
   rename_i ob hob;rw[Qis]at h;split at h
   case h_2=>cases h
   rename_i len r sp pre anc;rw[Qbq]at h;split at h
   case h_2=>cases h
   rename_i e
   replace h:=Qac h;obtain⟨h3,h⟩:=h
   replace h:=Qac h;obtain⟨h4,h⟩:=h
   rw[Qbd,Qbq]at h;split at h
   case h_2=>cases h
   rename_i v hv;have hg:(absH nx t).get b=some (.cells (rowL len r) (some e) pre anc):=by unfold absH;simp only[hob,Option.map_some,KO.abs]
   have hrd:=Qcl (nx:=nx) hob (rfl:KO.row (.cells len r (some e) pre anc)=some (len,r)) (i:=o) (k:=m) (Nat.le_of_ble_eq_true h4);have h3':e / 2=et:=Nat.eq_of_beq_eq_true h3;refine⟨_,nx,_,?_,h⟩;simp only[h1',if_false,if_pos (show m<1000000000000 from Nat.blt_eq.mp h2),hg,h3',if_true,hrd,hv,Qhk]
 |_=>simp only[AV.isNilptr,Bool.false_eq_true,if_false]at h
def kexec:AOp→KX:=
 @AOp.rec (fun _=>KX) k_mov QnZ Qk3 k_box Qn2 Qfx QkW QkV QkS Qe5 k_bin k_un QgM QgL Qe9 Qcb Qe6 QgJ Qed Qe3 QnX QhZ Qef Qk0
  Qee Qe8 Qe7 QkZ QiL Qec Qe4 QgI Qdn QgK k_len QlY QiJ QiU Qn1 QiQ Qfa Qh1 QgN QhY Qh0 QgH Qeb k_cap
theorem Qc1(a:AOp):KOk (kexec a) a:=by
 cases a with
 |mov x=>exact k_mov_ok x
 |pick c a b=>exact QnY c a b
 |alloc tg cells=>exact QmR tg cells
 |box tg x=>exact k_box_ok tg x
 |build z p=>exact QmQ z p
 |buildSlice n z p=>exact QgO n z p
 |load1 a=>exact QmN a
 |loadN n a=>exact QmM n a
 |store n a x=>exact QmK n a x
 |nilCheck x=>exact QiI x
 |bin op k x y=>exact k_bin_ok op k x y
 |un op x=>exact k_un_ok op x
 |convInt k x=>exact QjW k x
 |convStr x=>exact QjV x
 |convRune x=>exact QiR x
 |makeInterface t x=>exact QeB t x
 |makeFunc f a b=>exact QiK f a b
 |makeMap=>exact QjT
 |makeSlice s b z l c=>exact Qhv s b z l c
 |sliceStr x lo hi=>exact QiE x lo hi
 |slice s x lo hi mx=>exact QmL s x lo hi mx
 |sliceArr n s x lo hi mx=>exact QiF n s x lo hi mx
 |fieldAddr o x=>exact Qhx o x
 |field a o s x=>exact QmP a o s x
 |indexAddr s x i=>exact Qhw s x i
 |indexArr n s x i=>exact QiP n s x i
 |indexStr x i=>exact QiO x i
 |index a n s x i=>exact QmO a n s x i
 |lookup kk z m k ok=>exact QkU kk z m k ok
 |mapUpdate kk m k x=>exact Qhu kk m k x
 |rangeStr x=>exact QiG x
 |nextStr x=>exact QjS x
 |typeAssert t z x ok=>exact QgG t z x ok
 |extract x i=>exact QjU x i
 |len k x=>exact k_len_ok k x
 |lenArr n=>exact QkY n
 |minMax m xs=>exact QkT m xs
 |append s b tg x y=>exact Qk2 s b tg x y
 |copy n d s=>exact Qn0 n d s
 |delete kk m k=>exact Qk1 kk m k
 |clearMap m=>exact QiS m
 |bytesStr x=>exact QiT x
 |clearSl z x=>exact QjX z x
 |toUnsafe x=>exact QiD x
 |ofUnsafe ok x=>exact QiH ok x
 |sliceData x=>exact Qht x
 |unsafeStr e p n=>exact Qhs e p n
 |cap x=>exact k_cap_ok x
end
end Go.Ab
namespace Go.Ab
open Go
noncomputable section
structure KHd where
 fn:FuncId
 defers:List ADef
 mode:AMode
 kind:CallKind
 roundOf:Option Nat
structure KF where
 hd:KHd
 n:Nat
 tm:T8 AV
 todo:List AItem
structure KS where
 fr:KF
 cs:List KF
 nx:Nat
 t:T8 KO
def KF.abs(f:KF):AF:={fn:=f.hd.fn,tmps:=rowL f.n f.tm,todo:=f.todo,defers:=f.hd.defers,mode:=f.hd.mode,kind:=f.hd.kind,roundOf:=f.hd.roundOf}
def KS.abs(s:KS):AS:={fr:=s.fr.abs,cs:=s.cs.map KF.abs,h:=absH s.nx s.t}
abbrev KC:Type:=KHd→Nat→T8 AV→List AItem→List KF→Nat→T8 KO→Bool
abbrev KCall:Type:=Nat→T8 KO→(AV→Nat→T8 KO→Bool)→Bool
def QbV(kc:KCall)(c:AH→Option (AV×AH)):Prop:=∀nx t k,kc nx t k=true→∃v nx' t',c (absH nx t)=some (v,absH nx' t')∧k v nx' t'=true
structure KMemo where
 has:FuncId→Bool
 run:FuncId→List AV→Option KCall
 abs:Memo
 hasNot:∀f,has f=false→∀args,abs f args=none
 ok:∀f args,(run f args=none→abs f args=none)∧∀kc,run f args=some kc→∃c,abs f args=some c∧QbV kc c
def Qbi(dst:Option Nat)(n:Nat)(tm:T8 AV)(v:AV)(k:T8 AV→Bool):Bool:=
 @Option.rec Nat (fun _=>Bool) (k tm) (fun d=>ifF (Nat.blt d n) (setK AV (some v) (path d) tm k)) dst
def Qh2(g:Option (Nat×Bool))(tm:T8 AV)(yes no:Bool):Bool:=
 @Option.rec (Nat×Bool) (fun _=>Bool) yes (fun p=>getK AV (path p.1) tm (fun v=>Qn7 v (fun b=>iteF b (iteF p.2 yes no) (iteF p.2 no yes)) (fun l=>@List.rec AV (fun _=>Bool) no (fun _ _ _=>false) l)) false) g
def sameK(v w:AV):Bool:=
 binD v (fun j a=>binD w (fun k b=>iteF (Qbr j k) (eqI a b) false) (fun _ _=>false) false) (fun n a=>binD w (fun _ _=>false) (fun m b=>iteF (Nat.beq n m) (Nat.beq a b) false) false) (AV.same 20 v w)
def QcT:List AV→List AV→Bool:=
 @List.rec AV (fun _=>List AV→Bool) (fun l=>@List.rec AV (fun _=>Bool) true (fun _ _ _=>false) l) (fun x _ ih l=>@List.rec AV (fun _=>Bool) false (fun y l _=>ifF (sameK x y) (ih l)) l)
def nilD(α:Type)(l:List α)(k:Bool):Bool:=@List.rec α (fun _=>Bool) k (fun _ _ _=>false) l
def QkF(a b:Option Nat):Bool:=@Option.rec Nat (fun _=>Bool) (@Option.rec Nat (fun _=>Bool) true (fun _=>false) b) (fun x=>@Option.rec Nat (fun _=>Bool) false (fun y=>Nat.beq x y) b) a
def Qiq(o o':KO):Bool:=
 @KO.rec (fun _=>Bool)
  (fun n r sp pre anc=>ifF (Nat.beq pre 0) (nilD Nat anc (@KO.rec (fun _=>Bool) (fun n' r' sp' pre' anc'=>ifF (QkF sp sp') (ifF (Nat.beq pre' 0) (nilD Nat anc' (ifF (Nat.beq n n') (readK n 0 r fun l=>readK n 0 r' fun l'=>QcT l l')))))
   (fun _ _=>false) (fun _ _=>false) (fun _ _ _=>false) (fun _ _ _ _ _ _ _ _=>false) (fun _=>false) o')))
  (fun _ _=>false)
  (fun es c=>nilD (AV×AV×Nat) es (@KO.rec (fun _=>Bool) (fun _ _ _ _ _=>false) (fun _ _=>false) (fun es' c'=>nilD (AV×AV×Nat) es' (Nat.beq c c')) (fun _ _ _=>false) (fun _ _ _ _ _ _ _ _=>false) (fun _=>false) o'))
  (fun _ _ _=>false) (fun _ _ _ _ _ _ _ _=>false) (fun _=>false) o
def Qkm(v:AV)(k:Nat→Bool):Bool:=
 @AV.rec (fun _=>Bool) (fun _=>Unit) (fun _=>Unit) false (fun _=>false) (fun _ _=>false) (fun _ _=>false) false (fun b o=>ifF (Nat.beq o 0) (k b)) (fun _ _=>false) false false (fun b o _ _=>ifF (Nat.beq o 0) (k b)) (fun _ _ _ _=>false) (fun _ _=>false)
  false (fun b=>k b) (fun _ _ _ _ _=>false) (fun _=>false) false (fun _ _ _=>false) false (fun _ _=>false) (fun _ _=>false) () (fun _ _ _ _=>()) () (fun _ _ _ _=>()) v
def QoA(tm:T8 AV)(nx:Nat)(t:T8 KO)(o:AOper):Bool:=
 Qh2 o.guard tm (@AAct.rec (fun _=>Bool) (fun a=>@Option.rec Nat (fun _=>Bool) false (fun d=>getK AV (path d) tm (fun v =>
   iteF a.quiet (kexec a tm nx t fun v' _ _=>sameK v v') (ifF a.makes (Qkm v fun b=>objK b t fun ob=>kexec a tm nx t fun v' _ t'=>Qkm v' fun b'=>objK b' t' fun ob'=>Qiq ob ob'))) false) o.dst)
  (fun _ _=>false) (fun _ _=>false) (fun _=>false) false o.act) true
def QeN(tm:T8 AV)(nx:Nat)(t:T8 KO):List AOper→Bool:=@List.rec AOper (fun _=>Bool) true (fun o _ ih=>ifF (QoA tm nx t o) ih)
def headD(todo:List AItem)(k:AItem→List AItem→Bool):Bool:=@List.rec AItem (fun _=>Bool) false (fun i l _=>k i l) todo
def QaM(v:AV)(hd:KHd)(n:Nat)(tm:T8 AV)(todo:List AItem)(cs:List KF)(nx:Nat)(t:T8 KO)(next:KC):Bool:=
 headD todo fun i k=>@AItem.rec (fun _=>Bool) (fun _=>false) (fun _=>false) (fun _=>false) (fun _=>false)
  (fun rest=>@List.rec AOper (fun _=>Bool) false (fun o rest _=>Qbi o.dst n tm v fun tm=>next hd n tm (.inRegion rest::k) cs nx t) rest)
  (fun _ _ _ _ _=>false)
  (fun o ag _ plan=>Qbi o.dst n tm v fun tm=>ifF (QeN tm nx t ag) (next hd n tm (.drawRest plan::k) cs nx t))
  (fun _=>false) (fun _=>false) (fun l=>next hd n tm (.endRangeFunc l::k) cs nx t) (fun _=>false) false i
def runD(hd:KHd)(k:Bool):Bool:=@AMode.rec (fun _=>Bool) k false (fun _=>false) hd.mode
def Qfg:List KO→Nat→T8 KO→(Nat→T8 KO→Bool)→Bool:=@List.rec KO (fun _=>Nat→T8 KO→(Nat→T8 KO→Bool)→Bool) (fun nx t k=>k nx t) (fun o _ ih nx t k=>Qbm o nx t fun nx t=>ih nx t k)
section
variable(F:FuncId→Option AFun)(M:KMemo)
def Qan(fn:FuncId)(args:List AV)(kind:CallKind)(cs:List KF)(nx:Nat)(t:T8 KO)(next:KC):Bool:=
 optF (F fn) fun af=>QaL args 0 .nil fun tm=>natF (Nat.add (List.length args) (Nat.sub af.ntmps (List.length args))) fun n=>next ⟨fn,[],.run,kind,none⟩ n tm [.code af.body] cs nx t
def callK(fn:FuncId)(args:List AV)(hd:KHd)(n:Nat)(tm:T8 AV)(todo:List AItem)(cs:List KF)(nx:Nat)(t:T8 KO)(next:KC):Bool:=
 iteF (M.has fn) (@Option.rec KCall (fun _=>Bool) (Qan F fn args .normal (⟨hd,n,tm,todo⟩::cs) nx t next) (fun c=>c nx t fun v nx t=>QaM v hd n tm todo cs nx t next) (M.run fn args))
  (Qan F fn args .normal (⟨hd,n,tm,todo⟩::cs) nx t next)
def Qf7:List Nat→List AV→Nat→T8 AV→(T8 AV→Bool)→Bool:=
 @List.rec Nat (fun _=>List AV→Nat→T8 AV→(T8 AV→Bool)→Bool) (fun l _ tm k=>nilD AV l (k tm)) (fun d _ ih l n tm k=>@List.rec AV (fun _=>Bool) false (fun v l _=>Qbi (some d) n tm v fun tm=>ih l n tm k) l)
def loopD:KO→(LoopState→Option AC→FuncId→List AV→List Nat→AC→AC→Nat→Bool)→Bool:=
 @KO.rec (fun _=>(LoopState→Option AC→FuncId→List AV→List Nat→AC→AC→Nat→Bool)→Bool) (fun _ _ _ _ _ _=>false) (fun _ _ _=>false) (fun _ _ _=>false) (fun _ _ _ _=>false) (fun st p fn tm ps a b d k=>k st p fn tm ps a b d) (fun _ _=>false)
def QlK(l:Nat)(args:List AV)(hd:KHd)(n:Nat)(tm:T8 AV)(todo:List AItem)(cs:List KF)(nx:Nat)(t:T8 KO)(next:KC):Bool:=
 objK l t fun o=>loopD o fun _ _ fn tmps ps a b _=>optF (F fn) fun _=>QaL tmps 0 .nil fun tm'=>Qf7 ps args (List.length tmps) tm' fun tm'=>next ⟨fn,[],.run,.normal,some l⟩ (List.length tmps) tm' [.code a,.beginRound,.code b] (⟨hd,n,tm,todo⟩::cs) nx t
def QhN(hd:KHd)(n:Nat)(tm:T8 AV)(todo:List AItem)(chain:List APanic)(cs:List KF)(nx:Nat)(t:T8 KO)(next:KC):Bool:=
 @AMode.rec (fun _=>Bool)
  (@List.rec AItem (fun _=>Bool) (next {hd with mode:=.panicking chain} n tm todo cs nx t) (fun i _ _=>@AItem.rec (fun _=>Bool) (fun _=>next {hd with mode:=.panicking chain} n tm todo cs nx t) (fun _=>next {hd with mode:=.panicking chain} n tm todo cs nx t)
   (fun _=>next {hd with mode:=.panicking chain} n tm todo cs nx t) (fun _=>next {hd with mode:=.panicking chain} n tm todo cs nx t) (fun _=>next {hd with mode:=.panicking chain} n tm todo cs nx t) (fun _ _ _ _ _=>next {hd with mode:=.panicking chain} n tm todo cs nx t)
   (fun _ _ mask _=>Qf7 mask (List.replicate (List.length mask) .undef) n tm fun tm=>next {hd with mode:=.panicking chain} n tm todo cs nx t)
   (fun _=>next {hd with mode:=.panicking chain} n tm todo cs nx t) (fun _=>next {hd with mode:=.panicking chain} n tm todo cs nx t) (fun _=>next {hd with mode:=.panicking chain} n tm todo cs nx t) (fun _=>next {hd with mode:=.panicking chain} n tm todo cs nx t) (next {hd with mode:=.panicking chain} n tm todo cs nx t) i) todo)
  (next {hd with mode:=.panicking chain} n tm todo cs nx t) (fun old=>next {hd with mode:=.panicking (chain++old)} n tm todo cs nx t) hd.mode
def noneD(o:Option Nat)(k:Bool):Bool:=@Option.rec Nat (fun _=>Bool) k (fun _=>false) o
def QlM(hd:KHd)(n:Nat)(tm:T8 AV)(todo:List AItem)(cs:List KF)(nx:Nat)(t:T8 KO)(next:KC):Bool:=
 noneD hd.roundOf (@CallKind.rec (fun _=>Bool) (QaM .nilIface hd n tm todo cs nx t next)
  (@List.rec KF (fun _=>Bool) false (fun c rest _=>@AMode.rec (fun _=>Bool) (QaM .nilIface hd n tm todo cs nx t next) (QaM .nilIface hd n tm todo cs nx t next)
   (fun chain=>@List.rec APanic (fun _=>Bool) (QaM .nilIface hd n tm todo cs nx t next) (fun p older _=>iteF p.recovered (QaM .nilIface hd n tm todo cs nx t next)
    (QaM p.v hd n tm todo (⟨{c.hd with mode:=.panicking (⟨p.v,true⟩::older)},c.n,c.tm,c.todo⟩::rest) nx t next)) chain) c.hd.mode) cs)
  false false false hd.kind)
def actK(act:AAct)(hd:KHd)(n:Nat)(tm:T8 AV)(todo:List AItem)(cs:List KF)(nx:Nat)(t:T8 KO)(next:KC):Bool:=
 @AAct.rec (fun _=>Bool) (fun a=>kexec a tm nx t fun v nx t=>QaM v hd n tm todo cs nx t next)
  (fun f args=>opK f tm fun vf=>opsK args tm fun va=>funcD vf (fun fn first cap=>callK F M fn (first++va++cap) hd n tm todo cs nx t next) (fun l=>QlK F l va hd n tm todo cs nx t next))
  (fun f args=>noneD hd.roundOf (opK f tm fun vf=>opsK args tm fun va=>funcD vf (fun fn first cap=>QaM .undef {hd with defers:=.call fn (first++va++cap)::hd.defers} n tm todo cs nx t next) (fun _=>false)))
  (fun x=>opK x tm fun v=>QjZ v (fun ty u=>QhN hd n tm todo [⟨.iface ty u,false⟩] cs nx t next) false)
  (QlM hd n tm todo cs nx t next) act
def oneK(o:AOper)(hd:KHd)(n:Nat)(tm:T8 AV)(todo:List AItem)(cs:List KF)(nx:Nat)(t:T8 KO)(next:KC):Bool:=
 Qh2 o.guard tm (actK F M o.act hd n tm todo cs nx t next) (QaM (.tuple []) hd n tm todo cs nx t next)
def QeW:List AOper→KHd→Nat→T8 AV→List AItem→List KF→Nat→T8 KO→KC→Bool:=
 @List.rec AOper (fun _=>KHd→Nat→T8 AV→List AItem→List KF→Nat→T8 KO→KC→Bool) (fun hd n tm k cs nx t next=>next hd n tm k cs nx t)
  (fun o rest ih hd n tm k cs nx t next=>Qh2 o.guard tm
   (@AAct.rec (fun _=>Bool) (fun a=>kexec a tm nx t fun v nx t=>Qbi o.dst n tm v fun tm=>ih hd n tm k cs nx t next)
    (fun f args=>actK F M (.call f args) hd n tm (.inRegion (o::rest)::k) cs nx t next) (fun f args=>actK F M (.defer f args) hd n tm (.inRegion (o::rest)::k) cs nx t next)
    (fun x=>actK F M (.panic x) hd n tm (.inRegion (o::rest)::k) cs nx t next) (actK F M .recover hd n tm (.inRegion (o::rest)::k) cs nx t next) o.act)
   (Qbi o.dst n tm (.tuple []) fun tm=>ih hd n tm k cs nx t next))
def Qog(o:AOper)(hd:KHd)(n:Nat)(tm:T8 AV)(todo:List AItem)(cs:List KF)(nx:Nat)(t:T8 KO)(next:KC):Bool:=
 Qh2 o.guard tm (@AAct.rec (fun _=>Bool) (fun a=>kexec a tm nx t fun v nx t=>Qbi o.dst n tm v fun tm=>next hd n tm todo cs nx t) (fun _ _=>false) (fun _ _=>false) (fun _=>false) false o.act) (Qbi o.dst n tm (.tuple []) fun tm=>next hd n tm todo cs nx t)
def resK(r:ARes)(tm:T8 AV)(t:T8 KO)(k:AV→Bool):Bool:=
 @ARes.rec (fun _=>Bool) (fun s=>getK AV (path s) tm k (k .undef)) (fun s agg m=>getK AV (path s) tm (fun a=>ptrD a (fun b o=>objK b t fun ob=>cellsD ob fun len r=>ifF (Nat.ble (Nat.add o m) len) (readK m o r fun l=>iteF agg (k (.agg l)) (@List.rec AV (fun _=>Bool) false (fun v l _=>nilD AV l (k v)) l)))
  (fun l=>ifF (Nat.ble m (List.length l)) (iteF agg (k (.agg (List.take m l))) (@List.rec AV (fun _=>Bool) false (fun v l _=>nilD AV l (k v)) (List.take m l))))) false) r
def ressK:List ARes→T8 AV→T8 KO→(List AV→Bool)→Bool:=@List.rec ARes (fun _=>T8 AV→T8 KO→(List AV→Bool)→Bool) (fun _ _ k=>k []) (fun r _ ih tm t k=>resK r tm t fun v=>ih tm t fun l=>k (v::l))
def Qit(rs:List ARes)(tm:T8 AV)(t:T8 KO)(k:AV→Bool):Bool:=ressK rs tm t fun l=>@List.rec AV (fun _=>Bool) (k (.tuple [])) (fun v r _=>@List.rec AV (fun _=>Bool) (k v) (fun _ _ _=>k (.tuple l)) r) l
def QjQ(v:AV)(kind:CallKind)(cs:List KF)(nx:Nat)(t:T8 KO)(next:KC):Bool:=
 @List.rec KF (fun _=>Bool) false (fun c rest _=>@CallKind.rec (fun _=>Bool) (runD c.hd (QaM v c.hd c.n c.tm c.todo rest nx t next))
  (@AMode.rec (fun _=>Bool) false (next c.hd c.n c.tm c.todo rest nx t) (fun chain=>@List.rec APanic (fun _=>Bool) (next c.hd c.n c.tm c.todo rest nx t) (fun p _ _=>iteF p.recovered (next {c.hd with mode:=.returning} c.n c.tm c.todo rest nx t) (next c.hd c.n c.tm c.todo rest nx t)) chain) c.hd.mode)
  false false false kind) cs
def Qg5:KO→(List ADef→Bool)→Bool:=
 @KO.rec (fun _=>(List ADef→Bool)→Bool) (fun _ _ _ _ _ _=>false) (fun _ _ _=>false) (fun _ _ _=>false) (fun _ _ _ _=>false) (fun _ _ _ _ _ _ _ _ _=>false) (fun ds k=>optF ds k)
def unwK(fin:KS→Bool)(hd:KHd)(n:Nat)(tm:T8 AV)(todo:List AItem)(cs:List KF)(nx:Nat)(t:T8 KO)(next:KC):Bool:=
 @List.rec ADef (fun _=>Bool)
  (@AMode.rec (fun _=>Bool) false (@List.rec KF (fun _=>Bool) (fin ⟨⟨hd,n,tm,todo⟩,cs,nx,t⟩) (fun _ _ _=>optF (F hd.fn) fun af=>Qit af.results tm t fun v=>QjQ v hd.kind cs nx t next) cs)
   (fun chain=>@List.rec KF (fun _=>Bool) false (fun c rest _=>QhN c.hd c.n c.tm c.todo chain rest nx t next) cs) hd.mode)
  (fun d ds _=>@ADef.rec (fun _=>Bool) (fun f args=>Qan F f args .deferred (⟨{hd with defers:=ds},n,tm,todo⟩::cs) nx t next)
   (fun b=>objK b t fun o=>Qg5 o fun calls=>putK' b (.deferred none) t fun t=>next {hd with defers:=calls++ds} n tm todo cs nx t) d) hd.defers
def endK(jump:Option AC)(pl:Bool)(hd:KHd)(n:Nat)(tm:T8 AV)(todo:List AItem)(cs:List KF)(nx:Nat)(t:T8 KO)(next:KC):Bool:=
 @Option.rec Nat (fun _=>Bool) (ifF pl (next {hd with mode:=.returning} n tm todo cs nx t))
  (fun l=>@CallKind.rec (fun _=>Bool) (objK l t fun o=>loopD o fun _ _ fn tmps ps a b d=>putK' l (.loop (@Option.rec AC (fun _=>LoopState) .ready (fun _=>.done) jump) jump fn tmps ps a b d) t fun t=>QjQ (.bool (@Option.rec AC (fun _=>Bool) true (fun _=>false) jump)) .normal cs nx t next) false false false false hd.kind) hd.roundOf
def codeK:AC→List AItem→KHd→Nat→T8 AV→List KF→Nat→T8 KO→KC→Bool:=
 @AC.rec (fun _=>List AItem→KHd→Nat→T8 AV→List KF→Nat→T8 KO→KC→Bool)
  (fun k hd n tm cs nx t next=>next hd n tm k cs nx t)
  (fun ops k hd n tm cs nx t next=>QeW F M ops hd n tm k cs nx t next)
  (fun plan tl k hd n tm cs nx t next=>next hd n tm (.drawRest plan::.ends tl::k) cs nx t)
  (fun _ b ia _ k hd n tm cs nx t next=>ia (.code b::k) hd n tm cs nx t next)
  (fun c _ _ ia ib k hd n tm cs nx t next=>opK c tm fun v=>boolD v fun z=>iteF z (ia k hd n tm cs nx t next) (ib k hd n tm cs nx t next))
  (fun id _ ib k hd n tm cs nx t next=>ib (.inBlock id::k) hd n tm cs nx t next)
  (fun b ib k hd n tm cs nx t next=>ib (.inLoop b::k) hd n tm cs nx t next)
  (fun f ps a b _ _ k hd n tm cs nx t next=>noneD hd.roundOf (opK f tm fun vf=>natF (Nat.succ nx) fun l=>Qbm (.deferred (some [])) nx t fun nx1 t1=>Qbm (.loop .ready none hd.fn (rowL n tm) ps a b nx) nx1 t1 fun nx2 t2 =>
   funcD vf (fun fn first cap=>callK F M fn (first++[.yield l]++cap) {hd with defers:=.collected nx::hd.defers} n tm (.inRangeFunc l::k) cs nx2 t2 next) (fun _=>false)))
  (fun id k hd n tm cs nx t next=>@Option.rec (List AItem) (fun _=>Bool) (endK (some (.exit id)) false hd n tm (.code (.exit id)::k) cs nx t next) (fun k'=>next hd n tm k' cs nx t) (Qal id k))
  (fun b ib k hd n tm cs nx t next=>ib (.inScope b::k) hd n tm cs nx t next)
  (fun _ k hd n tm cs nx t next=>next hd n tm k cs nx t)
  (fun l k hd n tm cs nx t next=>@Option.rec (List AItem) (fun _=>Bool) (endK (some (.goto l)) false hd n tm (.code (.goto l)::k) cs nx t next) (fun k'=>next hd n tm k' cs nx t) (Qcy l k))
  (fun k hd n tm cs nx t next=>endK (some .ret) true hd n tm (.code .ret::k) cs nx t next)
  (fun _ _ _ _ _ _ _ _=>false)
def QlH(a:AAct)(k:Nat→AOpd→AOpd→Bool):Bool:=match a with
 | .op (.store n x y)=>k n x y
 |_=>false
def QlF(b o:Nat)(t:T8 KO)(k:Bool):Bool:=objK b t fun ob=>rowD ob fun _ _ _ pre _=>ifF (Nat.ble pre o) k
def Qma(a b:AAct)(tm:T8 AV)(nx:Nat)(t:T8 KO)(c:Nat→T8 KO→Bool):Bool:=
 QlH a fun n x y=>QlH b fun n' x' y'=>opK x tm fun p=>opK x' tm fun p'=>ptrD p (fun b1 o1=>ptrD p' (fun b2 o2=>ifF (notF (Nat.beq b1 b2)) (QlF b1 o1 t (QlF b2 o2 t
  (kexec (.store n x y) tm nx t fun _ nx t=>kexec (.store n' x' y') tm nx t fun _ nx t=>c nx t)))) (fun _=>false)) (fun _=>false)
def endsK(tl:List AOper)(tm:T8 AV)(nx:Nat)(t:T8 KO)(done:Bool)(c:Nat→T8 KO→Bool):Bool:=
 @List.rec AOper (fun _=>Bool) done (fun a tl _=>@List.rec AOper (fun _=>Bool) false (fun b tl _=>@List.rec AOper (fun _=>Bool) (Qma a.act b.act tm nx t c) (fun _ _ _=>false) tl) tl) tl
def itemK:AItem→List AItem→KHd→Nat→T8 AV→List KF→Nat→T8 KO→KC→Bool:=
 @AItem.rec (fun _=>List AItem→KHd→Nat→T8 AV→List KF→Nat→T8 KO→KC→Bool)
  (fun c k hd n tm cs nx t next=>codeK F M c k hd n tm cs nx t next)
  (fun _ k hd n tm cs nx t next=>next hd n tm k cs nx t)
  (fun b k hd n tm cs nx t next=>codeK F M b (.inLoop b::k) hd n tm cs nx t next)
  (fun _ k hd n tm cs nx t next=>next hd n tm k cs nx t)
  (fun ops k hd n tm cs nx t next=>QeW F M ops hd n tm k cs nx t next)
  (fun ops main ag mask plan k hd n tm cs nx t next=>@List.rec AOper (fun _=>Bool) (@Option.rec AOper (fun _=>Bool) (next hd n tm (.drawRest plan::k) cs nx t) (fun o=>oneK F M o hd n tm (.inMain o ag mask plan::k) cs nx t next) main)
   (fun o rest _=>Qog o hd n tm (.inDraw rest main ag mask plan::k) cs nx t next) ops)
  (fun o ag mask plan k hd n tm cs nx t next=>oneK F M o hd n tm (.inMain o ag mask plan::k) cs nx t next)
  (fun plan k hd n tm cs nx t next=>@List.rec Stage (fun _=>Bool) (next hd n tm k cs nx t) (fun st plan _=>next hd n tm (.inDraw st.ops st.main st.again st.mask plan::k) cs nx t) plan)
  (fun tl k hd n tm cs nx t next=>endsK tl tm nx t (next hd n tm k cs nx t) fun nx t=>next hd n tm k cs nx t)
  (fun _ _ _ _ _ _ _ _ _=>false)
  (fun l k hd n tm cs nx t next=>objK l t fun o=>loopD o fun st pend fn tmps ps a b d=>@LoopState.rec (fun _=>Bool -> Bool) (fun x=>x) (fun _=>false) (fun x=>x) (fun x=>x) st
   (putK' l (.loop .exhausted pend fn tmps ps a b d) t fun t=>@Option.rec AC (fun _=>Bool) (next hd n tm k cs nx t) (fun c=>next hd n tm (.code c::k) cs nx t) pend))
  (fun k hd n tm cs nx t next=>optF hd.roundOf fun l=>objK l t fun o=>loopD o fun st pend fn tmps ps a b d=>@LoopState.rec (fun _=>Bool→Bool) (fun x=>x) (fun _=>false) (fun _=>false) (fun _=>false) st
   (putK' l (.loop .busy pend fn tmps ps a b d) t fun t=>next hd n tm k cs nx t))
def stepK(fin:KS→Bool)(hd:KHd)(n:Nat)(tm:T8 AV)(todo:List AItem)(cs:List KF)(nx:Nat)(t:T8 KO)(next:KC):Bool:=
 @AMode.rec (fun _=>Bool) (@List.rec AItem (fun _=>Bool) (endK none true hd n tm [] cs nx t next) (fun i k _=>itemK F M i k hd n tm cs nx t next) todo)
  (unwK F fin hd n tm todo cs nx t next) (fun _=>unwK F fin hd n tm todo cs nx t next) hd.mode
def loopK(fin:KS→Bool):Nat→KC:=
 @Nat.rec (fun _=>KC) (fun hd n tm todo cs nx t=>fin ⟨⟨hd,n,tm,todo⟩,cs,nx,t⟩) (fun _ ih hd n tm todo cs nx t=>stepK F M fin hd n tm todo cs nx t ih)
end
end
end Go.Ab
namespace Go.Ab
open Go
noncomputable section
def absM(M:KMemo):Memo:=M.abs
def okT(n:Nat)(tm:T8 AV):Prop:=∀s,n≤s→tm.get s=none
def okCs(cs:List KF):Prop:=∀c∈cs,okT c.n c.tm
def kf(hd:KHd)(n:Nat)(tm:T8 AV)(todo:List AItem):AF:={fn:=hd.fn,tmps:=rowL n tm,todo:=todo,defers:=hd.defers,mode:=hd.mode,kind:=hd.kind,roundOf:=hd.roundOf}
def stA(hd:KHd)(n:Nat)(tm:T8 AV)(todo:List AItem)(cs:List KF)(nx:Nat)(t:T8 KO):AS:={fr:=kf hd n tm todo,cs:=cs.map KF.abs,h:=absH nx t}
section
variable{F:FuncId→Option AFun}{M:KMemo}{fin:KS→Bool}
def Good(F:FuncId→Option AFun)(M:KMemo)(fin:KS→Bool)(s:AS):Prop:=∃m s',Qcf F (absM M) m s=some s'∧∃ks:KS,fin ks=true∧ks.abs=s'
theorem Good.step{s s1:AS}(h:astep F (absM M) s=some s1)(g:Good F M fin s1):Good F M fin s:=by
 obtain⟨m,s',h1,h2⟩:=g;exact⟨m+1,s',by simp only[Qcf,h];exact h1,h2⟩
def QbQ(F:FuncId→Option AFun)(M:KMemo)(fin:KS→Bool)(next:KC):Prop:=
 ∀hd n tm todo cs nx t,okT n tm→okCs cs→next hd n tm todo cs nx t=true→Good F M fin (stA hd n tm todo cs nx t)
theorem get_lt{n:Nat}{tm:T8 AV}(h:okT n tm){s:Nat}{v:AV}(hv:tm.get s=some v):s<n:=by
 rcases Nat.lt_or_ge s n with h1|h1
 ·exact h1
 ·rw[h s h1]at hv;cases hv
theorem Qet{n:Nat}{tm:T8 AV}(h:okT n tm)(s:Nat):(rowL n tm).getD s .undef=(tm.get s).getD .undef:=by
 rw[List.getD_eq_getElem?_getD,rowL_getElem?];split
 ·rfl
 ·rename_i hs;rw[h s (by omega)]
theorem Qch{n:Nat}{tm:T8 AV}(h:okT n tm):aev (rowL n tm)=kev tm:=by
 funext x
 cases x with
 |tmp s=>exact Qet h s
 |const v=>rfl
theorem QeC{n:Nat}{tm:T8 AV}(h:okT n tm){o:AOper}{yes no:Bool}(hg:Qh2 o.guard tm yes no=true) :
  (Qai (rowL n tm) o=some true∧yes=true)∨(Qai (rowL n tm) o=some false∧no=true):=by
 unfold Qai;cases hgd:o.guard with
 |none=>rw[hgd]at hg;exact .inl ⟨rfl,hg⟩
 |some p =>
  obtain⟨s,want⟩:=p;rw[hgd]at hg;have hg':getK AV (path s) tm (fun v=>Qn7 v (fun b=>iteF b (iteF want yes no) (iteF want no yes)) (fun l=>@List.rec AV (fun _=>Bool) no (fun _ _ _=>false) l)) false=true:=hg;rw[Qdq]at hg';cases hv:T8.getP (path s) tm with
  |none=>rw[hv]at hg';cases hg'
  |some v =>
   rw[hv]at hg';have hs:tm.get s=some v:=hv;have hlt:=get_lt h hs;have hrow:(rowL n tm)[s]? = some v:=by rw[rowL_getElem?,if_pos hlt,hs];rfl
   simp only[hrow];simp only[Qn6,Qaw]at hg';cases v with
   |bool b =>
    simp only at hg' ⊢;cases b<;>cases want<;>simp_all
   |tuple l =>
    cases l with
    |nil=>exact .inr ⟨rfl,hg'⟩
    |cons x l=>cases hg'
   |_=>cases hg'
theorem QbA{n:Nat}{tm:T8 AV}(h:okT n tm){dst:Option Nat}{v:AV}{k:T8 AV→Bool}(hs:Qbi dst n tm v k=true):∃tm',okT n tm'∧rowL n tm'=setDst (rowL n tm) dst v∧k tm'=true∧QdT (rowL n tm) dst=true:=by
 cases dst with
 |none=>exact⟨tm,h,rfl,hs,rfl⟩
 |some d =>
  have hs':ifF (Nat.blt d n) (setK AV (some v) (path d) tm k)=true:=hs;obtain⟨h1,h2⟩:=Qac hs';rw[Qf6]at h2;have hlt:d<n:=Nat.blt_eq.mp h1;refine⟨tm.set d v,fun s hs=>?_,rowL_set n tm d v,h2,?_⟩
  ·rw[T8.get_set,if_neg (by omega)];exact h s hs
  ·simp only[QdT];rw[rowL_getElem?,if_pos hlt];rfl
theorem Qir{v w:AV}(h:sameK v w=true):AV.same 20 v w=true:=by
 simp only[sameK,Qhg]at h;split at h
 ·split at h
  ·rename_i j a _ k b;rw[Qaw,QdG,Qom]at h;simp only[AV.same,Bool.and_eq_true,beq_iff_eq];split at h
   ·rename_i hjk;rw[decide_eq_true_iff]at hjk;exact⟨hjk,by simpa using h⟩
   ·cases h
  ·cases h
  ·cases h
 ·split at h
  ·cases h
  ·rename_i n a _ m b;rw[Qaw]at h;simp only[AV.same,Bool.and_eq_true,beq_iff_eq];split at h
   ·rename_i hnm;exact⟨Nat.eq_of_beq_eq_true hnm,Nat.eq_of_beq_eq_true h⟩
   ·cases h
  ·cases h
 ·exact h
theorem Qd4:∀{l m:List AV},QcT l m=true→l.length=m.length∧((l.zip m).all fun x=>AV.same 20 x.1 x.2)=true
 | [],[],_=>⟨rfl,rfl⟩
 | [],_::_,h=>by cases h
 |_::_,[],h=>by cases h
 |x::l,y::m,h=>by
  have h':ifF (sameK x y) (QcT l m)=true:=h;obtain⟨h1,h2⟩:=Qac h';obtain⟨h3,h4⟩:=Qd4 h2;refine⟨by simp[h3],?_⟩;simp only[List.zip_cons_cons,List.all_cons,Bool.and_eq_true];exact⟨Qir h1,h4⟩
theorem QbN{α:Type}{l:List α}{k:Bool}(h:nilD α l k=true):l=[]∧k=true:=by
 cases l with
 |nil=>exact⟨rfl,h⟩
 |cons x l=>cases h
theorem Qjj{a b:Option Nat}(h:QkF a b=true):a=b:=by
 cases a with
 |none=>cases b with
  |none=>rfl
  |some _=>cases h
 |some x=>cases b with
  |none=>cases h
  |some y=>rw[Nat.eq_of_beq_eq_true (show Nat.beq x y=true from h)]
theorem QkG{o o':KO}(h:Qiq o o'=true):AO.same o.abs o'.abs=true:=by
 cases o with
 |cells n r sp pre anc =>
  cases o' with
  |cells n' r' sp' pre' anc' =>
   have h':ifF (Nat.beq pre 0) (nilD Nat anc (ifF (QkF sp sp') (ifF (Nat.beq pre' 0) (nilD Nat anc' (ifF (Nat.beq n n') (readK n 0 r fun l=>readK n 0 r' fun l'=>QcT l l'))))))=true:=h
   replace h':=Qac h';obtain⟨h1,h'⟩:=h'
   replace h':=QbN h';obtain⟨rfl,h'⟩:=h'
   replace h':=Qac h';obtain⟨h0,h''⟩:=h'
   obtain rfl:=Qjj h0
   replace h'':=Qac h'';obtain⟨h2,h''⟩:=h''
   replace h'':=QbN h'';obtain⟨rfl,h''⟩:=h''
   replace h'':=Qac h'';obtain⟨h3,h''⟩:=h''
   obtain rfl:pre=0:=Nat.eq_of_beq_eq_true h1;obtain rfl:pre'=0:=Nat.eq_of_beq_eq_true h2;obtain rfl:n=n':=Nat.eq_of_beq_eq_true h3;rw[Qbd,Qbd]at h'';have e:∀r:T8 AV,rowL n r=readL n 0 r:=fun r=>by unfold rowL readL;simp
   obtain⟨h4,h5⟩:=Qd4 h'';simp only[KO.abs,AO.same,e,Bool.and_eq_true,beq_iff_eq];exact⟨⟨trivial,h4⟩,h5⟩
  |_=>replace h:=Qac h;obtain⟨_,h⟩:=h;replace h:=QbN h;obtain⟨_,h⟩:=h;cases h
 |map es c =>
  have h':nilD (AV×AV×Nat) es (@KO.rec (fun _=>Bool) (fun _ _ _ _ _=>false) (fun _ _=>false) (fun es' c'=>nilD (AV×AV×Nat) es' (Nat.beq c c')) (fun _ _ _=>false) (fun _ _ _ _ _ _ _ _=>false) (fun _=>false) o')=true:=h
  replace h':=QbN h';obtain⟨rfl,h'⟩:=h'
  cases o' with
  |map es' c' =>
   have h'':nilD (AV×AV×Nat) es' (Nat.beq c c')=true:=h'
   replace h'':=QbN h'';obtain⟨rfl,h''⟩:=h''
   simp only[KO.abs,AO.same,beq_iff_eq];exact Nat.eq_of_beq_eq_true h''
  |_=>cases h'
 |_=>cases h
theorem Qkl{v:AV}{k:Nat→Bool}(h:Qkm v k=true):∃b,v.block=some b∧k b=true:=by
 cases v with
 |ptr b o =>
  obtain⟨h1,h2⟩:=Qac h;obtain rfl:o=0:=Nat.eq_of_beq_eq_true h1;exact⟨b,rfl,h2⟩
 |slice b o n c =>
  obtain⟨h1,h2⟩:=Qac h;obtain rfl:o=0:=Nat.eq_of_beq_eq_true h1;exact⟨b,rfl,h2⟩
 |map b=>exact⟨b,rfl,h⟩
 |_=>cases h
theorem Qoz{n:Nat}{tm:T8 AV}(h:okT n tm){nx:Nat}{t:T8 KO}{o:AOper}(ha:QoA tm nx t o=true):again (rowL n tm) (absH nx t) o=true:=by
 unfold again;rcases QeC h ha with⟨h1,h2⟩|⟨h1,h2⟩
 ·rw[h1];simp only;cases hact:o.act with
  |op a =>
   rw[hact]at h2;cases hdst:o.dst with
   |none=>rw[hdst]at h2;cases h2
   |some d =>
    rw[hdst]at h2;have h3:getK AV (path d) tm (fun v=>iteF a.quiet (kexec a tm nx t fun v' _ _=>sameK v v') (ifF a.makes (Qkm v fun b=>objK b t fun ob=>kexec a tm nx t fun v' _ t'=>Qkm v' fun b'=>objK b' t' fun ob'=>Qiq ob ob'))) false=true:=h2;rw[Qdq]at h3;cases hv:T8.getP (path d) tm with
    |none=>rw[hv]at h3;cases h3
    |some v =>
     rw[hv]at h3;have hgd:(rowL n tm).getD d .undef=v:=by rw[Qet h];show (T8.getP (path d) tm).getD .undef=v;rw[hv];rfl
     simp only[Option.map_some,hgd,Qch h];simp only[Qaw]at h3;cases hq:a.quiet with
     |true =>
      rw[hq]at h3;simp only[if_true]at h3 ⊢;obtain⟨v',nx',t',h4,h5⟩:=Qc1 a tm nx t _ h3;rw[h4]
      (rw[AV.same_eq 20 _ _ (Qir h5)];exact AV.eqS_refl _)
     |false =>
      rw[hq]at h3;simp only[Bool.false_eq_true,if_false]at h3 ⊢
      replace h3:=Qac h3;obtain⟨hm,h3⟩:=h3
      rw[if_pos hm];obtain⟨b,hb,h3⟩:=Qkl h3;rw[QaG]at h3;split at h3
      ·rename_i ob hob;obtain⟨v',nx',t',h4,h5⟩:=Qc1 a tm nx t _ h3;obtain⟨mk,mo,hmk,_,hall⟩:=Qh8 hm h4;have h6:=hall (absH nx t);rw[h4]at h6;simp only[oI,Prod.mk.injEq]at h6;obtain⟨rfl,h6⟩:=h6;obtain⟨b',hb',h5⟩:=Qkl h5;rw[hmk.1]at hb';cases hb';rw[QaG]at h5;split at h5
       ·rename_i ob' hob';have hmade:QgA (rowL n tm) a=some ob'.abs:=by
         unfold QgA;rw[Qch h,hall];have e1:(absH nx' t').get (absH nx t).next=some ob'.abs:=by
          show (t'.get nx).map KO.abs=_;have:t'.get nx=some ob':=hob';rw[this];rfl
         rw[h6]at e1;simp only[AH.alloc,if_true,oI]at e1;simp[AH.alloc,e1]
        have hget:(absH nx t).get b=some ob.abs:=by unfold absH;simp only[hob,Option.map_some]
        rw[hb,hmade];simp only[hget];exact QkG h5
       ·cases h5
      ·cases h3
  |_=>rw[hact]at h2;cases h2
 ·rw[h1]
theorem QfD{n:Nat}{tm:T8 AV}(h:okT n tm){nx:Nat}{t:T8 KO}:∀{l:List AOper},QeN tm nx t l=true→l.all (again (rowL n tm) (absH nx t))=true
 | [],_=>rfl
 |o::l,hl=>by
  have hl':ifF (QoA tm nx t o) (QeN tm nx t l)=true:=hl;obtain⟨h1,h2⟩:=Qac hl';rw[List.all_cons,Qoz h h1,QfD h h2];rfl
theorem QbH{v:AV}{hd:KHd}{n:Nat}{tm:T8 AV}{todo:List AItem}{cs:List KF}{nx:Nat}{t:T8 KO}{next:KC}(hn:QbQ F M fin next)(hm:hd.mode=.run)(h:okT n tm)(hc:okCs cs)(hf:QaM v hd n tm todo cs nx t next=true) :
  ∃fr',(kf hd n tm todo).finish (absH nx t) v=some fr'∧Good F M fin ⟨fr',cs.map KF.abs,absH nx t⟩:=by
 cases todo with
 |nil=>cases hf
 |cons i k =>
  unfold AF.finish kf;simp only[hm];cases i with
  |inRegion rest =>
   cases rest with
   |nil=>cases hf
   |cons o rest =>
    have hf':(Qbi o.dst n tm v fun tm=>next hd n tm (.inRegion rest::k) cs nx t)=true:=hf;obtain⟨tm',h1,h2,h3,_⟩:=QbA h hf';refine⟨_,rfl,?_⟩;have:=hn _ _ _ _ _ _ _ h1 hc h3;simpa only[stA,kf,h2,hm] using this
  |inMain o ag mask plan =>
   have hf':(Qbi o.dst n tm v fun tm=>ifF (QeN tm nx t ag) (next hd n tm (.drawRest plan::k) cs nx t))=true:=hf;obtain⟨tm',h1,h2,h3,_⟩:=QbA h hf';obtain⟨h4,h5⟩:=Qac h3;have h6:=QfD h1 h4;rw[h2]at h6;refine⟨_,if_pos h6,?_⟩;have:=hn _ _ _ _ _ _ _ h1 hc h5;simpa only[stA,kf,h2,hm] using this
  |inRangeFunc l =>
   have hf':next hd n tm (.endRangeFunc l::k) cs nx t=true:=hf
   refine⟨_,rfl,?_⟩;have:=hn _ _ _ _ _ _ _ h hc hf';simpa only[stA,kf,hm] using this
  |_=>cases hf
theorem QcX(args:List AV){n:Nat}(hn:args.length≤n):okT n (rowFrom 0 args .nil):=by
 intro s hs;rw[Qb6,if_neg (by omega)];exact T8.get_nil s
theorem Qmz(args:List AV)(k:Nat):rowL (args.length+k) (rowFrom 0 args .nil)=args++List.replicate k .undef:=by
 apply List.ext_getElem?;intro j;rw[rowL_getElem?,Qb6];by_cases h1:j<args.length
 ·rw[if_pos (by omega),if_pos ⟨Nat.zero_le _,by omega⟩,List.getElem?_append_left h1];simp[gE h1]
 ·rw[List.getElem?_append_right (by omega)];by_cases h2:j<args.length+k
  ·rw[if_pos h2,if_neg (by omega),T8.get_nil,List.getElem?_replicate,if_pos (by omega)];rfl
  ·rw[if_neg h2,List.getElem?_replicate,if_neg (by omega)]
theorem Qdv{fn:FuncId}{args:List AV}{kind:CallKind}{cs:List KF}{nx:Nat}{t:T8 KO}{next:KC}(hn:QbQ F M fin next)(hc:okCs cs)(he:Qan F fn args kind cs nx t next=true) :
  ∃fr,AF.enter F fn args kind=some fr∧Good F M fin ⟨fr,cs.map KF.abs,absH nx t⟩:=by
 simp only[Qan,Qbq,QaF,Qas]at he;split at he
 ·rename_i af haf;refine⟨_,by unfold AF.enter;rw[haf];rfl,?_⟩;have:=hn _ _ _ _ _ _ _ (QcX args (Nat.le_add_right _ _)) hc he;have e:=Qmz args (af.ntmps-args.length);simp only[stA,kf]at this
  change Good F M fin ⟨⟨fn,rowL (args.length+(af.ntmps-args.length)) (rowFrom 0 args .nil),[.code af.body],[],.run,kind,none⟩,cs.map KF.abs,absH nx t⟩ at this
  rw[e]at this;exact this
 ·cases he
theorem Qih:∀(l:List KO)(nx:Nat)(t:T8 KO)(k:Nat→T8 KO→Bool),∃nx' t',Qfg l nx t k=k nx' t'∧absH nx' t'=(absH nx t).allocs (l.map KO.abs)
 | [],nx,t,k=>⟨nx,t,rfl,rfl⟩
 |o::l,nx,t,k=>by
  have h1:Qfg (o::l) nx t k=Qfg l (nx+1) (t.set nx o) k:=by
   show (Qbm o nx t fun nx t=>Qfg l nx t k)=_;rw[QaT]
  obtain⟨nx',t',h2,h3⟩:=Qih l (nx+1) (t.set nx o) k;refine⟨nx',t',by rw[h1,h2],?_⟩;rw[h3,QaN];rfl
theorem Qmh{fn:FuncId}{args:List AV}{hd:KHd}{n:Nat}{tm:T8 AV}{todo:List AItem}{cs:List KF}{nx:Nat}{t:T8 KO}{next:KC}(hn:QbQ F M fin next)(hm:hd.mode=.run)(h:okT n tm)(hc:okCs cs)
  (he:callK F M fn args hd n tm todo cs nx t next=true):∃s',acall F (absM M) (stA hd n tm todo cs nx t) (.enter fn args)=some s'∧Good F M fin s':=by
 unfold callK at he;rw[Qaw]at he;unfold acall;simp only[absM];by_cases hh:M.has fn=true
 case neg =>
  rw[if_neg hh]at he;obtain⟨fr,h1,h2⟩:=Qdv hn (fun c hcc=>(List.mem_cons.1 hcc).elim (fun e=>by rw[e];exact h) (hc c)) he;rw[M.hasNot fn (by simpa using hh) args];refine⟨_,by simp only[h1];rfl,?_⟩;exact h2
 rw[if_pos hh]at he;cases hmm:M.run fn args with
 |none =>
  rw[hmm]at he;have he':Qan F fn args .normal (⟨hd,n,tm,todo⟩::cs) nx t next=true:=he
  obtain⟨fr,h1,h2⟩:=Qdv hn (fun c hcc=>(List.mem_cons.1 hcc).elim (fun e=>by rw[e];exact h) (hc c)) he';rw[(M.ok fn args).1 hmm];refine⟨_,by simp only[h1];rfl,?_⟩;exact h2
 |some kc =>
  rw[hmm]at he;have he':(kc nx t fun v nx t=>QaM v hd n tm todo cs nx t next)=true:=he;obtain⟨c,hcc,hok⟩:=(M.ok fn args).2 kc hmm;obtain⟨v,nx',t',h1,h2⟩:=hok nx t _ he';obtain⟨fr',h3,h4⟩:=QbH hn hm h hc h2;rw[hcc];refine⟨_,by simp only[stA,h1];rw[h3];rfl,?_⟩;exact h4
theorem QeQ:∀{ps:List Nat}{args:List AV}{n:Nat}{tm:T8 AV}{k:T8 AV→Bool},okT n tm→Qf7 ps args n tm k=true →
  ∃tm',okT n tm'∧ps.length=args.length∧rowL n tm'=(ps.zip args).foldl (fun t x=>t.set x.1 x.2) (rowL n tm)∧k tm'=true
 | [],args,n,tm,k,h,hs=>by
  obtain⟨rfl,h2⟩:=QbN (l:=args) hs;exact⟨tm,h,rfl,rfl,h2⟩
 |d::ps,[],n,tm,k,h,hs=>by cases hs
 |d::ps,v::args,n,tm,k,h,hs=>by
  have hs':(Qbi (some d) n tm v fun tm=>Qf7 ps args n tm k)=true:=hs;obtain⟨tm1,h1,h2,h3,_⟩:=QbA h hs';obtain⟨tm2,h4,h5,h6,h7⟩:=QeQ h1 h3;refine⟨tm2,h4,by simp[h5],?_,h7⟩;rw[h6,h2];rfl
theorem QfM(o:KO)(k:LoopState→Option AC→FuncId→List AV→List Nat→AC→AC→Nat→Bool):loopD o k=match o with|.loop st p fn tm ps a b d=>k st p fn tm ps a b d|_=>false:=by cases o<;>rfl
theorem Qnt{l:Nat}{args:List AV}{hd:KHd}{n:Nat}{tm:T8 AV}{todo:List AItem}{cs:List KF}{nx:Nat}{t:T8 KO}{next:KC}(hn:QbQ F M fin next)(h:okT n tm)(hc:okCs cs)
  (he:QlK F l args hd n tm todo cs nx t next=true):∃s',acall F (absM M) (stA hd n tm todo cs nx t) (.round l args)=some s'∧Good F M fin s':=by
 simp only[QlK,QaG,QfM,Qbq,QaF]at he;split at he
 ·rename_i o ho;split at he
  ·rename_i st pend fn tmps ps a b d;split at he
   ·rename_i af haf;obtain⟨tm',h1,h2,h3,h4⟩:=QeQ (QcX tmps (Nat.le_refl _)) he;have hget:(absH nx t).get l=some (.loop st pend fn tmps ps a b d):=by unfold absH;simp only[ho,Option.map_some,KO.abs]
    unfold acall;simp only[stA,hget];refine⟨_,if_pos ⟨h2.symm,by rw[haf];rfl⟩,?_⟩;have:=hn _ _ _ _ _ _ _ h1 (fun c hcc=>(List.mem_cons.1 hcc).elim (fun e=>by rw[e];exact h) (hc c)) h4;simp only[stA,kf,h3,QbR]at this;exact this
   ·cases he
  ·cases he
 ·cases he
end
end
end Go.Ab

/- A part of a proof. -/
import Derived.Test.YthiiaehlmfbeoaaGreatDoorCBMo
import Derived.Test.YthiiaehlmfbeoaaGreatDoorKaGtoKJ0
import Derived.Test.YthiiaehlmfbeoaaGreatDoorZB26toZO26
import Derived.Test.YthiiaehlmfbeoaaGreatDoorKaFtoKaN
set_option linter.all false
set_option maxRecDepth 100000
namespace Go.Ab.L26
open Go Go.Ab Go.Proofs
noncomputable section
theorem fnA:FnA F26 M26 where
 f101:=at26 46 rfl rfl
 f102:=at26 47 rfl rfl
 f103:=at26 48 rfl rfl
 f157:=at26 52 rfl rfl
 f76:=at26 37 rfl rfl
 m101:=QaP (by decide)
 m102:=QaP (by decide)
 m103:=QaP (by decide)
 m157:=QaP (by decide)
theorem fnB:FnB F26 M26 where
 toFnA:=fnA
 f77:=at26 38 rfl rfl
 f41:=at26 25 rfl rfl
 f35:=at26 19 rfl rfl
 f34:=at26 18 rfl rfl
 f33:=at26 17 rfl rfl
 f36:=at26 20 rfl rfl
 f37:=at26 21 rfl rfl
 f38:=at26 22 rfl rfl
 f17:=at26 9 rfl rfl
 m:=Qbe (by decide)
theorem fnC:FnC F26 M26 where
 f42:=at26 26 rfl rfl
 f43:=at26 27 rfl rfl
 f44:=at26 28 rfl rfl
 f45:=at26 29 rfl rfl
 f46:=at26 30 rfl rfl
 f80:=at26 41 rfl rfl
 f81:=at26 42 rfl rfl
 f83:=at26 44 rfl rfl
 f48:=at26 32 rfl rfl
 m:=Qbe (by decide)
theorem fnD:FnD F26 M26 where
 f47:=at26 31 rfl rfl
 f82:=at26 43 rfl rfl
 f105:=at26 50 rfl rfl
 m:=Qbe (by decide)
theorem fnE:FnE F26 M26 where
 B:=fnB
 C:=fnC
 D:=fnD
 f22:=at26 14 rfl rfl
 f41:=at26 25 rfl rfl
 f23:=at26 15 rfl rfl
 f49:=at26 33 rfl rfl
 f8:=at26 1 rfl rfl
 f14:=at26 7 rfl rfl
 f13:=at26 6 rfl rfl
 m:=Qbe (by decide)
theorem fnR:FnR F26 M26 where
 f18:=at26 10 rfl rfl
 f39:=at26 23 rfl rfl
 f40:=at26 24 rfl rfl
 f78:=at26 39 rfl rfl
 f79:=at26 40 rfl rfl
 f20:=at26 12 rfl rfl
 f104:=at26 49 rfl rfl
 m:=Qbe (by decide)
def h00:AH:=⟨fun _=>none,0⟩
theorem fnM:FnM F26 M26 where
 f84:=at26 45 rfl rfl
 f52:=at26 36 rfl rfl
 f51:=at26 35 rfl rfl
 f50:=at26 34 rfl rfl
 f24:=at26 16 rfl rfl
 f106:=at26 51 rfl rfl
 m:=Qbe (by decide)
theorem fnN:FnN F26 M26 where
 R:=fnR
 D:=fnM
 f9:=at26 2 rfl rfl
 f10:=at26 3 rfl rfl
 f11:=at26 4 rfl rfl
 f12:=at26 5 rfl rfl
 f15:=at26 8 rfl rfl
 m:=Qbe (by decide)
theorem Qp3{cells:List CT}{acts:List Act}{cv av:AV}{crows arows:List (List AV)}(hc:RepCs 0 ⟨fun _=>none,0⟩ cells cv crows)(ha:RepAs 0 ⟨fun _=>none,0⟩ acts av arows):Top F26 M26 3 [.agg [cv,av]] ⟨fun _=>none,0⟩ (.bool true):=
 law3_top fnN fnE (at26 0 rfl rfl) QeA (Up.refl fun _ _=>rfl) (Nat.le_refl 0) hc ha
end
open Go.RowKit Go.ChangeShapes Go.WideShapes
noncomputable section
theorem QpU(hM:Qao KK Tryz.prog G26 M26){w:World}(hw:GlobW G26 w){cv av:AV}{cells:List CT}{acts:List Act}{crows arows:List (List AV)}(hh:∀h,RepCs 0 h cells cv crows∧RepAs 0 h acts av arows){v:Value}(hv:VR (bareG (Qbf w)) (.agg [cv,av]) v) :
  Calls Tryz.prog 3 #[v] w fun e w'=>e=.returned (.bool true)∧Below w.heap.size w w':=by
 have ht:=Qp3 (hh _).1 (hh _).2;refine(Qcs Qg0 hM ht hw (vs:=#[v]) (VRs.cons hv (.nil _)) fun w' hb=>trivial).mono fun e w' ⟨u,g,e1,e2,e3⟩=>?_
 exact⟨by rw[e1,e2.bool_eq],e3⟩
theorem reads3:([25].all fun t=>Tryz.prog.readableRec t&&decide (t<Tryz.prog.types.size))=true:=by kernel_rfl
theorem Models_done{H:Type}{enc:TypeId×Value→H}{W:World}{base:Nat}{args:Array Value}{ds:List (DataW H)}{p:List MemPlace}(hM:Qao KK Tryz.prog G26 M26)(hl:laidOutB Tryz.prog=true)(hw:GlobW G26 W)(hlt:∀x∈p,x.block<W.heap.size)
  (hval:∀(j:Nat) t v,(#[25]:Array TypeId)[j]? = some t→args[j]? = some v→Value.okWide Tryz.prog W .any base t v)
  (hA:DataW.TrodAll enc Tryz.prog W 0 (fun _=>true) true [25] args.toList ds p)(hwt:(DataW.weightsEach Tryz.prog [25] ds).all (· ≤ reachBytes)=true) :
  Calls Tryz.prog 3 args W fun e W'=>e=.returned (.bool true)∧Below W.heap.size W W'∧DataW.TrodAll enc Tryz.prog W' 0 (fun b=>decide (b<W.heap.size)) true [25] args.toList ds p:=by
 have hA':=hA;obtain⟨v1,d1,rfl,rfl,h1⟩:=trodAll_one hA;obtain⟨cs,rfl,_⟩:=okWide_struct Tryz.underlying25 (hval 0 25 v1 rfl rfl);obtain⟨cv,av,cells,acts,crows,arows,hh,hv⟩:=Qfe h1 rfl fun x hx=>of_decide_eq_true (List.all_eq_true.1 hwt x (DataW.weights_mem_each (j:=0) rfl rfl x hx))
 exact(QpU hM hw hh hv).mono fun e W' ⟨e1,e2⟩=>⟨e1,e2,QbK hl e2 reads3 hA' hlt⟩
end
end Go.Ab.L26
namespace Go.Ab
open Go Go.RowKit
noncomputable section
def toKV:AO→(KO→Bool)→Bool:=
 @AO.rec (fun _=>(KO→Bool)→Bool) (fun l sp pre anc k=>natF (List.length l) fun n=>QaL l 0 .nil fun r=>k (.cells n r sp pre anc)) (fun l k=>natF (List.length l) fun n=>QaL l 0 .nil fun r=>k (.old n r)) (fun es c k=>k (.map es c)) (fun n b p k=>k (.iter n b p))
  (fun st p fn tm ps a b d k=>k (.loop st p fn tm ps a b d)) (fun ds k=>k (.deferred ds))
theorem toKV_eq(o:AO)(k:KO→Bool):∃o',toKV o k=k o'∧o'.abs=o:=by
 cases o with
 |cells l sp pre anc =>
  refine⟨.cells l.length (rowFrom 0 l .nil) sp pre anc,?_,?_⟩
  ·show natF (List.length l) (fun n=>QaL l 0 .nil fun r=>k (.cells n r sp pre anc))=_;rw[Qas,QaF]
  ·simp only[KO.abs,QbR]
 |old l =>
  refine⟨.old l.length (rowFrom 0 l .nil),?_,?_⟩
  ·show natF (List.length l) (fun n=>QaL l 0 .nil fun r=>k (.old n r))=_;rw[Qas,QaF]
  ·simp only[KO.abs,QbR]
 |map es c=>exact⟨.map es c,rfl,rfl⟩
 |iter n b p=>exact⟨.iter n b p,rfl,rfl⟩
 |loop st p fn tm ps a b d=>exact⟨.loop st p fn tm ps a b d,rfl,rfl⟩
 |deferred ds=>exact⟨.deferred ds,rfl,rfl⟩
def QeM:List AO→Nat→T8 KO→(Nat→T8 KO→Bool)→Bool:=@List.rec AO (fun _=>Nat→T8 KO→(Nat→T8 KO→Bool)→Bool) (fun nx t k=>k nx t) (fun o _ ih nx t k=>toKV o fun o=>Qbm o nx t fun nx t=>ih nx t k)
theorem Qhi:∀(l:List AO)(nx:Nat)(t:T8 KO)(k:Nat→T8 KO→Bool),∃nx' t',QeM l nx t k=k nx' t'∧absH nx' t'=(absH nx t).allocs l
 | [],nx,t,k=>⟨nx,t,rfl,rfl⟩
 |o::l,nx,t,k=>by
  obtain⟨o',h1,h2⟩:=toKV_eq o fun o=>Qbm o nx t fun nx t=>QeM l nx t k
  obtain⟨nx',t',h3,h4⟩:=Qhi l (nx+1) (t.set nx o') k;refine⟨nx',t',?_,?_⟩
  ·show (toKV o fun o=>Qbm o nx t fun nx t=>QeM l nx t k)=_;rw[h1,QaT,h3]
  ·rw[h4,QaN,h2];rfl
def newsOK(c:Nat→AV×List AO):KCall:=fun nx t k=>QeM (c nx).2 nx t fun nx' t'=>k (c nx).1 nx' t'
def newsOA(c:Nat→AV×List AO):AH→Option (AV×AH):=fun h=>some ((c h.next).1,h.allocs (c h.next).2)
theorem QnR(c:Nat→AV×List AO):QbV (newsOK c) (newsOA c):=by
 intro nx t k he;obtain⟨nx',t',h1,h2⟩:=Qhi (c nx).2 nx t fun nx' t'=>k (c nx).1 nx' t'
 have he':(QeM (c nx).2 nx t fun nx' t'=>k (c nx).1 nx' t')=true:=he;rw[h1]at he';exact⟨(c nx).1,nx',t',by rw[h2];rfl,he'⟩
def optC(o:Option KCall):KCall:=fun nx t k=>@Option.rec KCall (fun _=>Bool) false (fun kc=>kc nx t k) o
def inCK(p:Nat→Bool)(x:List AV)(c:Nat→AV×List AO)(o:Option KCall)(a':List AV):KCall:=fun nx t k =>
 iteF (p nx) (ifF (QbE x t a' fun rest=>nilD AV rest true) (newsOK c nx t k)) (optC o nx t k)
open Classical in
def inCA(p:Nat→Bool)(x:List AV)(c:Nat→AV×List AO)(o:Option (AH→Option (AV×AH)))(a':List AV):AH→Option (AV×AH):=fun h =>
 if p h.next=true then (if StandsL h x a' then newsOA c h else none) else o.bind fun f=>f h
theorem inCK_ok(p:Nat→Bool)(x:List AV)(c:Nat→AV×List AO){o:Option KCall}{o':Option (AH→Option (AV×AH))}(ho:∀kc,o=some kc→∃c',o'=some c'∧QbV kc c')(a':List AV):QbV (inCK p x c o a') (inCA p x c o' a'):=by
 intro nx t k he;unfold inCK at he;rw[Qaw]at he;unfold inCA;split at he
 ·rename_i h1;obtain⟨h2,h3⟩:=Qac he;obtain⟨ys,rest,rfl,e2,e3⟩:=Qgx nx t x a' _ h2;obtain⟨rfl,_⟩:=Qdl e3;rw[List.append_nil];obtain⟨v,nx',t',h4,h5⟩:=QnR c nx t k h3;refine⟨v,nx',t',?_,h5⟩;rw[if_pos (show p (absH nx t).next=true from h1),if_pos e2];exact h4
 ·rename_i h1;cases o with
  |none=>cases he
  |some kc =>
   obtain⟨c',rfl,hk⟩:=ho kc rfl;obtain⟨v,nx',t',h4,h5⟩:=hk nx t k he;refine⟨v,nx',t',?_,h5⟩;rw[if_neg (show ¬p (absH nx t).next=true from h1)];exact h4
def kmInC(f:FuncId)(p:Nat→Bool)(x:List AV)(c:Nat→AV×List AO)(M:KMemo):KMemo:={
 has:=fun f'=>hasOr f (M.has f') f'
 hasNot:=fun f' h args'=>by
  obtain⟨h1,h2⟩:=QaZ h;show onFn f (some (inCA p x c (M.abs f' args') args')) (M.abs f' args') f'=none;unfold onFn;rw[h1];exact M.hasNot f' h2 args'
 run:=fun f' a'=>onFn f (some (inCK p x c (M.run f' a') a')) (M.run f' a') f'
 abs:=fun f' a'=>onFn f (some (inCA p x c (M.abs f' a') a')) (M.abs f' a') f'
 ok:=by
  intro f' a';unfold onFn;cases hf:Nat.beq f' f with
  |false=>exact M.ok f' a'
  |true=>exact⟨fun h=>(by cases h),fun kc h=>(by cases h;exact⟨_,rfl,inCK_ok p x c (M.ok f' a').2 a'⟩)⟩}
section
variable{P:Program}{G:Nat→Option (List AV)}
variable{K:World→Prop}
theorem Qcn{F:FuncId→Option AFun}{M M0:KMemo}(hF:FunOk P G F)(hGc:Qen G)(hM0:Qao K P G (absM M0))(hM:Qao K P G (absM M)){f:FuncId}{p:Nat→Bool}{x:List AV}{c:Nat→AV×List AO}{v:AV}{sel:List Nat}{os:List AO}{fuel:Nat}
  (hcl:QbY x=true)(hrun:∀z:Bool,Qan F f x .normal [] 0 .nil (loopK F M0 (fun ks=>iteF (endOk F f v sel os ks) z false) fuel)=z)(hd:sel.Nodup)(hc:∀n,takeF sel n v os=some (c n)) :
  Qao K P G (absM (kmInC f p x c M)):=by
 intro f' args' c' hm B w0 g hh w vs u h' hv H hG hvs hK;have hm':onFn f (some (inCA p x c (M.abs f' args') args')) (M.abs f' args') f'=some c':=hm;unfold onFn at hm';cases hf:Nat.beq f' f with
 |false=>rw[hf]at hm';exact hM f' args' c' hm' B w0 g hh w vs u h' hv H hG hvs hK
 |true =>
  rw[hf]at hm';have hm2:some (inCA p x c (M.abs f' args') args')=some c':=hm';cases hm2;unfold inCA at hv;split at hv
  ·split at hv
   ·rename_i hst;obtain rfl:f'=f:=Nat.eq_of_beq_eq_true hf;cases hv;have hG0:GlobR G (QhG w):=fun n l hl=>VR.whole (fun β o v hm=>H.mem β o v hm) (hGc n l hl) (hG n l hl)
    have h1:=hrun true;have e:(fun ks=>iteF (endOk F f' v sel os ks) true false)=endOk F f' v sel os:=by
     funext ks
     cases endOk F f' v sel os ks<;>rfl
    rw[e]at h1;exact .inl (Qfv hF hM0 (fun _ h=>h) h1 hd hc H (Ql1 w) hG0 (hst.vrs H hvs) hK)
   ·cases hv
  ·cases ho:M.abs f' args' with
   |none=>rw[ho]at hv;cases hv
   |some c2 =>
    rw[ho]at hv;exact hM f' args' c2 ho B w0 g hh w vs u h' hv H hG hvs hK
end
end
end Go.Ab

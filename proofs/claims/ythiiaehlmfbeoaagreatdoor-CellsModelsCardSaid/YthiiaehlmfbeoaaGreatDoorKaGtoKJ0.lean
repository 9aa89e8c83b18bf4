/- A part of a proof. -/
import Derived.KernelRfl
import Derived.Test.YthiiaehlmfbeoaaGreatDoorProg
import Derived.OpenShut
import Derived.Carry
import Derived.WideShapes
import Derived.Test.YthiiaehlmfbeoaaGreatDoorKaFtoKaN
import Derived.Test.YthiiaehlmfbeoaaGreatDoorWArgtoXR26
import Derived.Test.YthiiaehlmfbeoaaGreatDoorWAtoXC
import Derived.Test.YthiiaehlmfbeoaaGreatDoorXS26toYE26
set_option linter.all false
namespace Go.Ab
open Go Go.RowKit
noncomputable section
structure LF where
 hd:KHd
 tm:List AV
 todo:List AItem
structure LS where
 fr:LF
 cs:List LF
 nx:Nat
 heap:List (Nat×AO)
def LF.abs(f:LF):AF:={fn:=f.hd.fn,tmps:=f.tm,todo:=f.todo,defers:=f.hd.defers,mode:=f.hd.mode,kind:=f.hd.kind,roundOf:=f.hd.roundOf}
def lookH:List (Nat×AO)→Nat→Option AO
 | [],_=>none
 |(b,o)::l,x=>if x=b then some o else lookH l x
def LS.abs(s:LS):AS:={fr:=s.fr.abs,cs:=s.cs.map LF.abs,h:=⟨lookH s.heap,s.nx⟩}
def toKO:AO→(KO→Bool)→Bool:=
 @AO.rec (fun _=>(KO→Bool)→Bool) (fun l sp pre anc k=>QaL l 0 .nil fun r=>k (.cells (List.length l) r sp pre anc)) (fun l k=>QaL l 0 .nil fun r=>k (.old (List.length l) r)) (fun es c k=>k (.map es c)) (fun n b p k=>k (.iter n b p))
  (fun st p fn tm ps a b d k=>k (.loop st p fn tm ps a b d)) (fun ds k=>k (.deferred ds))
theorem toKO_eq(o:AO)(k:KO→Bool):∃o',toKO o k=k o'∧o'.abs=o:=by
 cases o with
 |cells l sp pre anc =>
  refine⟨.cells l.length (rowFrom 0 l .nil) sp pre anc,QaF l 0 .nil _,?_⟩;simp only[KO.abs,QbR]
 |old l =>
  refine⟨.old l.length (rowFrom 0 l .nil),QaF l 0 .nil _,?_⟩;simp only[KO.abs,QbR]
 |map es c=>exact⟨.map es c,rfl,rfl⟩
 |iter n b p=>exact⟨.iter n b p,rfl,rfl⟩
 |loop st p fn tm ps a b d=>exact⟨.loop st p fn tm ps a b d,rfl,rfl⟩
 |deferred ds=>exact⟨.deferred ds,rfl,rfl⟩
def heapK:List (Nat×AO)→(T8 KO→Bool)→Bool:=
 @List.rec (Nat×AO) (fun _=>(T8 KO→Bool)→Bool) (fun k=>k .nil) (fun x _ ih k=>ih fun t=>toKO x.2 fun o=>putK' x.1 o t k)
theorem Ql2:∀(l:List (Nat×AO))(k:T8 KO→Bool),∃t,heapK l k=k t∧∀nx,absH nx t=⟨lookH l,nx⟩
 | [],k=>⟨.nil,rfl,fun nx=>by
  unfold absH
  congr 1
  funext b
  rw[T8.get_nil];rfl⟩
 |(b,o)::l,k=>by
  obtain⟨t,h1,h2⟩:=Ql2 l fun t=>toKO o fun o=>putK' b o t k
  obtain⟨o',h3,h4⟩:=toKO_eq o fun o=>putK' b o t k
  refine⟨t.set b o',?_,fun nx=>?_⟩
  ·show heapK l (fun t=>toKO o fun o=>putK' b o t k)=_;rw[h1,h3,putK'_eq]
  ·rw[Qa2,h2 nx,h4];unfold AH.put
   congr 1
def QiY:List LF→(List KF→Bool)→Bool:=
 @List.rec LF (fun _=>(List KF→Bool)→Bool) (fun k=>k []) (fun f _ ih k=>ih fun l=>QaL f.tm 0 .nil fun r=>k (⟨f.hd,List.length f.tm,r,f.todo⟩::l))
theorem Qh5:∀(l:List LF)(k:List KF→Bool),∃cs,QiY l k=k cs∧okCs cs∧cs.map KF.abs=l.map LF.abs
 | [],k=>⟨[],rfl,fun c hc=>(by cases hc),rfl⟩
 |f::l,k=>by
  obtain⟨cs,h1,h2,h3⟩:=Qh5 l fun l=>QaL f.tm 0 .nil fun r=>k (⟨f.hd,List.length f.tm,r,f.todo⟩::l)
  refine⟨⟨f.hd,f.tm.length,rowFrom 0 f.tm .nil,f.todo⟩::cs,?_,fun c hc=>?_,?_⟩
  ·show QiY l (fun l=>QaL f.tm 0 .nil fun r=>k (⟨f.hd,List.length f.tm,r,f.todo⟩::l))=_;rw[h1,QaF]
  ·rcases List.mem_cons.1 hc with rfl|hc
   ·exact QcX f.tm (Nat.le_refl _)
   ·exact h2 c hc
  ·simp only[List.map_cons,h3,KF.abs,LF.abs,QbR]
def Qnk(s:LS)(next:KC):Bool:=
 heapK s.heap fun t=>QiY s.cs fun cs=>QaL s.fr.tm 0 .nil fun tm=>next s.fr.hd (List.length s.fr.tm) tm s.fr.todo cs s.nx t
section
variable{F:FuncId→Option AFun}{M:KMemo}{fin:KS→Bool}
theorem Qnj{s:LS}{next:KC}(hn:QbQ F M fin next)(he:Qnk s next=true):Good F M fin s.abs:=by
 unfold Qnk at he;obtain⟨t,h1,h2⟩:=Ql2 s.heap fun t=>QiY s.cs fun cs=>QaL s.fr.tm 0 .nil fun tm=>next s.fr.hd (List.length s.fr.tm) tm s.fr.todo cs s.nx t
 rw[h1]at he;obtain⟨cs,h3,h4,h5⟩:=Qh5 s.cs fun cs=>QaL s.fr.tm 0 .nil fun tm=>next s.fr.hd (List.length s.fr.tm) tm s.fr.todo cs s.nx t
 rw[h3,QaF]at he;have:=hn _ _ _ _ _ _ _ (QcX s.fr.tm (Nat.le_refl _)) h4 he;simp only[stA,kf,QbR,h5,h2]at this;exact this
def Qos(f:KF):LF:=⟨f.hd,rowL f.n f.tm,f.todo⟩
def canon(live:List Nat)(s:KS):Option LS:=
 (live.mapM fun b=>((s.t.get b).map fun o=>(b,o.abs))).map fun heap=>⟨Qos s.fr,s.cs.map Qos,s.nx,heap⟩
theorem QjL(t:T8 KO):∀{live:List Nat}{heap:List (Nat×AO)},(live.mapM fun b=>((t.get b).map fun o=>(b,o.abs)))=some heap→∀x o,lookH heap x=some o→(t.get x).map KO.abs=some o
 | [],heap,h,x,o,hx=>by
  simp at h;subst h;cases hx
 |b::live,heap,h,x,o,hx=>by
  rw[List.mapM_cons]at h;cases hb:t.get b with
  |none=>simp[hb]at h
  |some ob =>
   cases hl:live.mapM fun b=>((t.get b).map fun o=>(b,o.abs)) with
   |none=>simp[hb,hl]at h
   |some hp =>
    simp[hb,hl]at h;subst h;simp only[lookH]at hx;split at hx
    ·rename_i e;subst e;rw[hb];exact hx
    ·exact QjL t hl x o hx
def Seg(F:FuncId→Option AFun)(M:KMemo)(fuel:Nat)(live:List Nat)(s s':LS):Prop:=
 ∀k:Option LS→Bool,Qnk s (loopK F M (fun ks=>k (canon live ks)) fuel)=k (some s')
open Classical in
theorem Seg.steps{fuel:Nat}{live:List Nat}{s s':LS}(h:Seg F M fuel live s s'):∃m a,Qcf F (absM M) m s.abs=some a∧a.fr=s'.abs.fr∧a.cs=s'.abs.cs∧a.h.next=s'.abs.h.next∧s'.abs.h.sub a.h:=by
 have h1:=h fun o=>decide (o=some s')
 rw[decide_eq_true rfl]at h1;obtain⟨m,a,h2,ks,h3,rfl⟩:=Qnj (QfL fuel) h1;have h4:canon live ks=some s':=by simpa using h3
 unfold canon at h4;obtain⟨heap,h5,h6⟩:=oM h4;subst h6;refine⟨m,_,h2,rfl,?_,rfl,fun x o hx=>QjL ks.t h5 x o hx⟩;show ks.cs.map KF.abs=(ks.cs.map Qos).map LF.abs;rw[List.map_map];rfl
end
def calm:List AItem→Bool
 | .drawRest _::_|.inDraw .. :: _|.inMain .. :: _|.ends _::_=>false
 |_=>true
section
variable{P:Program}{G:Nat→Option (List AV)}{C:List Frame}
variable{K:World→Prop}
theorem StR.less{B:Nat}{w0:World}{s s':AS}{m:Machine}(hm:StR P G C B w0 s m)(hf:s'.fr=s.fr)(hc:s'.cs=s.cs)(hn:s'.h.next=s.h.next)(hs:s'.h.sub s.h)(hcalm:s.fr.mode=.run→calm s.fr.todo=true):StR P G C B w0 s' m:=by
 obtain⟨g,p,q,fr,cs,w,rfl,hcur,T,hpq,H,hG⟩:=hm;refine⟨g,p,q,fr,cs,w,rfl,?_,by rw[hc];exact T,hpq,H.less hs hn,hG⟩;rw[hf];generalize s.fr=af at hcur hcalm;cases hcur with
 |plain _ _ hd hm ht hk=>exact .plain _ _ hd hm ht hk
 |left _ _ hd hm ht=>exact .left _ _ hd hm ht
 |ends _ _ l ops rest D tl ak k hd hm hD dyn ho htl ha hf hk=>have:=hcalm hm;rw[ha]at this;cases this
 |rest _ _ l ops rest D fs tl mo ist ak k hd hm hD dyn hp ha hf hk=>have:=hcalm hm;rw[ha]at this;cases this
 |draw _ _ l ops rest D fs tl js mo ist ag mask ak k hd hm hD dyn hp hjs hmf hml ha hf hag hmask hk=>have:=hcalm hm;rw[ha]at this;cases this
 |main _ _ l ops mn rest D fs tl ist ag mask ak k hd hm hD dyn hp hmf ha hf hag hmask hk=>have:=hcalm hm;rw[ha]at this;cases this
theorem Seg.sound{F:FuncId→Option AFun}{M:KMemo}(hF:FunOk P G F)(hM:Qao K P G (absM M)){fuel:Nat}{live:List Nat}{s s':LS}(h:Seg F M fuel live s s')(hcalm:calm s'.fr.todo=true)
  {B:Nat}{w0:World}{m:Machine}(hm:StR P G C B w0 s.abs m)(hK:∀w',Below B w0 w'→K w'):∃m',Steps P m m'∧StR P G C B w0 s'.abs m':=by
 obtain⟨n,a,h1,h2,h3,h4,h5⟩:=h.steps;obtain⟨m',h6,h7⟩:=Qd0 hF hM hK n h1 hm;refine⟨m',h6,h7.less h2.symm h3.symm h4.symm h5 fun _=>?_⟩;rw[h2];exact hcalm
end
end
end Go.Ab
namespace Go.Ab.L26
open Go Go.Ab Go.Proofs
noncomputable section
open AV in
def gl0:List AV:=[.int .i64 1,.int .i64 0,.int .i64 0,.int .i64 0,.int .i64 0,.int .i64 0,.bool false,.int .i64 0,.int .i64 0,.int .i64 0,.int .i64 0,.int .i64 0,.int .i64 0,.int .i64 0,.int .i64 0,.bool false,.int .i64 (-999999999),.int .i64 999999999,.int .i64 0,.int .i64 0,.int .i64 0,.int .i64 0,.int .i64 0,.int .i64 0,.bool false,.int .i64 0,.int .i64 1,.int .i64 0,.int .i64 0,.int .i64 0,.int .i64 0,.int .i64 0,.int .i64 0,.bool false,.int .i64 0,.int .i64 0,.int .i64 0,.int .i64 0,.int .i64 1,.int .i64 0,.int .i64 1,.int .i64 0,.bool false,.int .i64 0,.int .i64 0,.int .i64 0,.int .i64 0,.int .i64 0,.int .i64 0,.int .i64 2,.int .i64 0,.bool false,.int .i64 0,.int .i64 0,.int .i64 0,.int .i64 0,.int .i64 1,.int .i64 0,.int .i64 2,.int .i64 0,.bool false,.int .i64 0,.int .i64 0,.int .i64 0,.int .i64 0,.int .i64 2,.int .i64 0,.int .i64 2,.int .i64 0,.bool false,.int .i64 0,.int .i64 0,.int .i64 0,.int .i64 0,.int .i64 0,.int .i64 0,.int .i64 3,.int .i64 0,.bool false,.int .i64 0,.int .i64 0,.int .i64 3,.int .i64 0,.int .i64 0,.int .i64 0,.int .i64 2,.int .i64 0,.bool false,.int .i64 0,.int .i64 0,.int .i64 2,.int .i64 0,.int .i64 0,.int .i64 0,.int .i64 0,.int .i64 4,.bool false,.int .i64 0,.int .i64 0,.int .i64 0,.int .i64 0,.int .i64 0,.int .i64 0,.int .i64 1,.int .i64 0,.bool true,.int .i64 0,.int .i64 0,.int .i64 1,.int .i64 0,.int .i64 0,.int .i64 0,.int .i64 1,.int .i64 0,.bool false,.int .i64 0,.int .i64 0,.int .i64 1,.int .i64 1,.int .i64 0,.int .i64 0,.int .i64 1,.int .i64 0,.bool false,.int .i64 0,.int .i64 0,.int .i64 2,.int .i64 0,.int .i64 0,.int .i64 0,.int .i64 1,.int .i64 0,.bool true,.int .i64 0,.int .i64 1,.int .i64 2,.int .i64 0,.int .i64 1,.int .i64 0,.int .i64 1,.int .i64 0,.bool true,.int .i64 0,.int .i64 0,.int .i64 2,.int .i64 0,.int .i64 0,.int .i64 0,.int .i64 1,.int .i64 0,.bool false,.int .i64 0,.int .i64 0,.int .i64 0,.int .i64 0,.int .i64 1,.int .i64 12,.int .i64 3,.int .i64 0,.bool false,.int .i64 0,.int .i64 0,.int .i64 1,.int .i64 0,.int .i64 0,.int .i64 0,.int .i64 1,.int .i64 0,.bool false,.int .i64 0,.int .i64 0,.int .i64 1,.int .i64 0,.int .i64 0,.int .i64 0,.int .i64 0,.int .i64 0,.bool false,.int .i64 0,.int .i64 0]
open AV in
def gl1:List AV:=[0,0,0,0,0,0,0,0,0,1,1,1,1,1,0,0,0,0,0,0,0,0,0,0,0,0,0,0,0,0,0,0,1,0,0,0,0,0,0,0,0,0,0,0,0,0,0,0,0,0,0,0,0,0,0,0,0,0,0,0,0,0,0,0,0,0,0,0,0,0,0,0,0,0,0,0,0,0,0,0,0,0,0,0,0,0,0,0,0,0,0,0,0,0,0,0,0,0,0,0,0,0,0,0,0,0,0,0,0,0,0,0,0,0,0,0,0,0,0,0,0,0,0,0,0,0,0,0,0,0,0,0,0,0,0,0,0,0,0,0,0,0,0,0,0,0,0,0,0,0,0,0,0,0,0,0,0,0,0,0,0,0,0,0,0,0,0,0,0,0,0,0,0,0,0,0,0,0,0,0,0,0,0,0,0,0,0,0,0,0,0,0,0,0,0,0,0,0,0,0,0,0,0,0,0,0,0,0,0,0,0,0,0,0,0,0,0,0,0,0,0,0,0,0,0,0,0,0,0,0,0,0,0,0,0,0,0,0,0,0,0,0,0,0,0,0,0,0,0,0,0,0,0,0,0,0].map (.int .u8)
open AV in
def gl5:List AV:=[.int .i64 0,.int .i64 1,.int .i64 2,.int .i64 3,.int .i64 4,.int .i64 6,.int .i64 8,.int .i64 9,.int .i64 10,.int .i64 11]
open AV in
def gl6:List AV:=[.int .u64 1,.int .u64 10,.int .u64 100,.int .u64 1000,.int .u64 10000,.int .u64 100000,.int .u64 1000000,.int .u64 10000000,.int .u64 100000000,.int .u64 1000000000,.int .u64 10000000000,.int .u64 100000000000,.int .u64 1000000000000,.int .u64 10000000000000,.int .u64 100000000000000,.int .u64 1000000000000000,.int .u64 10000000000000000,.int .u64 100000000000000000,.int .u64 1000000000000000000,.int .u64 10000000000000000000]
open AV in
def gl8:List AV:=[.int .u8 0,.int .u8 1,.int .u8 28,.int .u8 2,.int .u8 29,.int .u8 14,.int .u8 24,.int .u8 3,.int .u8 30,.int .u8 22,.int .u8 20,.int .u8 15,.int .u8 25,.int .u8 17,.int .u8 4,.int .u8 8,.int .u8 31,.int .u8 27,.int .u8 13,.int .u8 23,.int .u8 21,.int .u8 19,.int .u8 16,.int .u8 7,.int .u8 26,.int .u8 12,.int .u8 18,.int .u8 6,.int .u8 11,.int .u8 5,.int .u8 10,.int .u8 9]
open AV in
def gl9:List AV:=[.int .u8 0,.int .u8 1,.int .u8 56,.int .u8 2,.int .u8 57,.int .u8 49,.int .u8 28,.int .u8 3,.int .u8 61,.int .u8 58,.int .u8 42,.int .u8 50,.int .u8 38,.int .u8 29,.int .u8 17,.int .u8 4,.int .u8 62,.int .u8 47,.int .u8 59,.int .u8 36,.int .u8 45,.int .u8 43,.int .u8 51,.int .u8 22,.int .u8 53,.int .u8 39,.int .u8 33,.int .u8 30,.int .u8 24,.int .u8 18,.int .u8 12,.int .u8 5,.int .u8 63,.int .u8 55,.int .u8 48,.int .u8 27,.int .u8 60,.int .u8 41,.int .u8 37,.int .u8 16,.int .u8 46,.int .u8 35,.int .u8 44,.int .u8 21,.int .u8 52,.int .u8 32,.int .u8 23,.int .u8 11,.int .u8 54,.int .u8 26,.int .u8 40,.int .u8 15,.int .u8 34,.int .u8 20,.int .u8 31,.int .u8 10,.int .u8 25,.int .u8 14,.int .u8 19,.int .u8 9,.int .u8 13,.int .u8 8,.int .u8 7,.int .u8 6]
def G26:Nat→Option (List AV):=fun g=>match g with|0=>some gl0|1=>some gl1|5=>some gl5|6=>some gl6|8=>some gl8|9=>some gl9|_=>none
theorem Qke{l:List AV}(h:l.all AV.plain=true):Closed (.iptr l):=by
 refine .iptr l fun i h1=>?_
 have:=List.all_eq_true.1 h l[i] (List.getElem_mem h1);generalize l[i]=a at this;cases a<;>first|(cases this;done)|exact .bool _|exact .int _ _|exact .str _ _
theorem Qbg:Qen G26:=by
 intro n l h;unfold G26 at h;split at h<;>first|(cases h;done)|(cases h;exact Qke (by kernel_rfl))
end
end Go.Ab.L26
namespace Go.Ab.L26
open Go Go.Ab
noncomputable section
def M26:Memo:=fun f args=>if f=16 then (match args with|[]=>some fun h=>some (.bool true,h)|_=>none) else none
theorem QaP{f:FuncId}(h1:f≠16)(xs:List AV):M26 f xs=none:=if_neg h1
theorem Qbe{l:List Nat}(hl:16 ∉ l):∀f∈l,∀xs,M26 f xs=none:=fun f hf xs=>QaP (fun e=>hl (e ▸ hf)) xs
theorem QeA:∃c,M26 16 []=some c∧∀h,c h=some (.bool true,h):=⟨_,rfl,fun _=>rfl⟩
end
open Go.Proofs Go.RowKit Go.ChangeShapes Go.WideShapes
noncomputable section
theorem Qcs{P:Program}{G:Nat→Option (List AV)}{K:World→Prop}{F:FuncId→Option AFun}{M:Memo}(hF:FunOk P G F)(hM:Qao K P G M){f:FuncId}{args:List AV}{v:AV}(ht:Top F M f args ⟨fun _=>none,0⟩ v)
  {vs:Array Value}{w:World}(hw:GlobW G w)(hvs:VRs (bareG (Qbf w)) args vs.toList)(hK:∀w',Below w.heap.size w w'→K w') :
  Calls P f vs w fun e w'=>∃u g,e=.returned u∧VR g v u∧Below w.heap.size w w':=by
 obtain⟨af,ha,m,s,hr,hcs,hmd,hdf,hk,hfe,fn,hfn,hv⟩:=ht;exact(QeH hF hM ha hr hcs hmd hdf hk (by rw[hfe];exact hfn) hv hfe (hr_all _ w) (Qn8 hw) hvs hK).mono fun e w' ⟨u,g,e1,e2,H⟩=>⟨u,g,e1,e2,H.below⟩
def tyS:List TypeId:=[25,22,23,39,41,37,3,4]
theorem Qlr:Tryz.prog.cellsOf 39=3:=by kernel_rfl
theorem Qls:1≤Tryz.prog.bytesOf 39:=Nat.le_of_ble_eq_true (by kernel_rfl)
theorem cells41:Tryz.prog.cellsOf 41=5:=by kernel_rfl
theorem bytes41:1≤Tryz.prog.bytesOf 41:=Nat.le_of_ble_eq_true (by kernel_rfl)
theorem Qng:Qnx Tryz.prog tyS=true:=by kernel_rfl
section
variable{H:Type}{enc:TypeId×Value→H}{w:World}
theorem Qfe{v:Value}{d:DataW H}{p:List MemPlace}(h:DataW.Trod enc Tryz.prog w 0 (fun _=>true) true 25 v d p){cs:Array Value}(hva:v=.agg cs)(hw:∀x∈d.weights Tryz.prog 25,x≤reachBytes) :
  ∃cv av cells acts crows arows,(∀h,RepCs 0 h cells cv crows∧RepAs 0 h acts av arows)∧VR (bareG (Qbf w)) (.agg [cv,av]) v:=by
 obtain⟨fuel,h⟩:=h;obtain⟨row,h1,h2,h3⟩:=QcH Qng fuel 25 _ _ (by decide) h;obtain⟨cv,av,cells,acts,crows,arows,rfl,hh⟩:=Qmy Tryz.underlying25 rfl rfl Tryz.underlying39 Tryz.underlying37 Tryz.underlying3 rfl Tryz.underlying22 Qlr Qls Tryz.underlying41 Tryz.underlying4 Tryz.underlying3 rfl Tryz.underlying23 cells41 bytes41 h1 hw;subst hva;have:=h3 (bareG (Qbf w)) rfl;have e:VR (bareG (Qbf w)) (.agg [cv,av]) (.agg cs.toList.toArray):=this.agg;exact⟨cv,av,cells,acts,crows,arows,hh,by simpa using e⟩
end
def KK(_:World):Prop:=True
theorem QbK{H:Type}{enc:TypeId×Value→H}{P:Program}(hl:laidOutB P=true){W W':World}(hb:Below W.heap.size W W'):∀{ts:List TypeId}{vs:List Value}{ds:List (DataW H)}{p:List MemPlace},(ts.all fun t=>P.readableRec t&&decide (t<P.types.size))=true →
  DataW.TrodAll enc P W 0 (fun _=>true) true ts vs ds p→(∀x∈p,x.block<W.heap.size)→DataW.TrodAll enc P W' 0 (fun b=>decide (b<W.heap.size)) true ts vs ds p
 | [],[],[],_,_,h,_=>h
 |t::ts,v::vs,d::ds,p,hr,h,hlt=>by
  obtain⟨p1,p2,h1,h2,rfl⟩:=h;simp only[List.all_cons,Bool.and_eq_true,decide_eq_true_eq]at hr;exact⟨p1,p2,Below.trod hl hr.1.1 hr.1.2 h1 hb (fun x hx=>hlt x (List.mem_append_left _ hx)),QbK hl hb hr.2 h2 (fun x hx=>hlt x (List.mem_append_right _ hx)),rfl⟩
 | [],_::_,_,_,_,h,_=>by simp[DataW.TrodAll]at h
 | [],[],_::_,_,_,h,_=>by simp[DataW.TrodAll]at h
 |_::_,[],_,_,_,h,_=>by simp[DataW.TrodAll]at h
 |_::_,_::_,[],_,_,h,_=>by simp[DataW.TrodAll]at h
end
end Go.Ab.L26

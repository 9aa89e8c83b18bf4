/-
  A part of a proof: KLu22 KaG CA22.
-/
import Derived.KernelRfl
import Derived.Test.YteikbgknibikmaaGreatDoorProg
import Derived.Test.YteikbgknibikmaaGreatDoorKLr22
import Derived.Test.YteikbgknibikmaaGreatDoorWIt22
import Derived.Test.YteikbgknibikmaaGreatDoorKaFtoKaN
set_option linter.all false
namespace Go.Proofs
open Go Go.Shelf Go.RowKit Go.Sort
theorem Tryz.repExtra : Builder.Extra Tryz.prog Tryz.repA_ren:={
 sizeBuilder:=by kernel_rfl
 liesBuilder:=by kernel_rfl
 t5:=Tryz.repA.t5
 a5:=Tryz.repA.a5
 z5:=Tryz.repA.z5
 v5:=Tryz.repA.v5
 infoByte:=by kernel_rfl
 cellsByte:=by kernel_rfl
 sizeByte:=by kernel_rfl
 neB5:=by decide }
theorem Tryz.strings_Repeat (s : ByteArray) (c : Nat) (w : World) (hc : c ≤ 9223372036854775807) (hlen : s.size * c ≤ 140737488355328) :
  Calls Tryz.prog 61 #[.string s,.int .i64 c] w fun e w'=>e = .returned (.string ⟨(Lib.repeatL s.data.toList c).toArray⟩) ∧ Below w.heap.size w w' :=
 Any.strings_Repeat Tryz.repA Tryz.repExtra s c w hc hlen
theorem Tryz.strconv_Itoa (n : Int) (h0 : -9223372036854775808 ≤ n) (h1 : n ≤ 9223372036854775807) (w : World) (htab : Lib.TabIs Tryz.prog w "internal/strconv.uint64pow10" .u64 Lib.pow10Tab) :
    Calls Tryz.prog 58 #[.int .i64 n] w fun e w'=>e = .returned (.string ⟨(Lib.itoa n).toArray⟩) ∧ ∃ k os,w' = grow (w.drewN k) os :=
  Any.strconv_Itoa Tryz.itoaA n h0 h1 w htab
end Go.Proofs
namespace Go.Ab.L22
open Go Go.Ab Go.Proofs Go.RowKit Go.Sort
theorem hI22 (n : Int) (h : inR n) (w : World) (ht : Lib.TabIs Tryz.prog w "internal/strconv.uint64pow10" .u64 Lib.pow10Tab) :
    Calls Tryz.prog QdE #[.int .i64 n] w fun e w'=>e = .returned (.string ⟨(Lib.itoa n).toArray⟩) ∧ ∃ k os,w' = grow (w.drewN k) os:=Tryz.strconv_Itoa n h.1 h.2 w ht
theorem hR22 (k : Nat) (hk : k < 1000000) (w : World) : Calls Tryz.prog QbQ #[.string (bsOf 1 93),.int .i64 (k : Int)] w fun e w'=>e = .returned (.string ⟨(Lib.repeatL [93] k).toArray⟩) ∧ Below w.heap.size w w':=by
 have e : (bsOf 1 93).data.toList = [93]:=by decide +kernel
 have hs : (bsOf 1 93).size = 1:=by decide +kernel
 have:=Tryz.strings_Repeat (bsOf 1 93) k w (by omega) (by rw [hs]; omega)
 rw [e] at this
 exact this
theorem bI22 : ∃ fn,Tryz.prog.funcs[QdE]? = some fn ∧ fn.body.isSome = true ∧ fn.name ≠ "runtime.NumGoroutine" := ⟨Tryz.f58,Tryz.func58,by kernel_rfl,by decide +kernel⟩
theorem bR22 : ∃ fn,Tryz.prog.funcs[QbQ]? = some fn ∧ fn.body.isSome = true ∧ fn.name ≠ "runtime.NumGoroutine" := ⟨Tryz.f61,Tryz.func61,by kernel_rfl,by decide +kernel⟩
end Go.Ab.L22
/-
 Segments: from a state that is written down to another one.
-/
namespace Go.Ab
open Go Go.RowKit
noncomputable section

structure LF where
 hd : KHd
 tm : List AV
 todo : List AItem

structure LS where
 fr : LF
 cs : List LF
 nx : Nat
 heap : List (Nat × AO)
def LF.abs (f : LF) : AF:={ fn:=f.hd.fn,tmps:=f.tm,todo:=f.todo,defers:=f.hd.defers,mode:=f.hd.mode,kind:=f.hd.kind,roundOf:=f.hd.roundOf }
def lookH : List (Nat × AO) → Nat → Option AO
 | [],_=>none
 | (b,o) :: l,x=>if x = b then some o else lookH l x
def LS.abs (s : LS) : AS:={ fr:=s.fr.abs,cs:=s.cs.map LF.abs,h:=⟨lookH s.heap,s.nx⟩ }

def toKO : AO → (KO → Bool) → Bool :=
 @AO.rec (fun _=>(KO → Bool) → Bool) (fun l sp pre anc k=>Qbe l 0 .nil fun r=>k (.cells (List.length l) r sp pre anc)) (fun l k=>Qbe l 0 .nil fun r=>k (.old (List.length l) r)) (fun es c k=>k (.map es c)) (fun n b p k=>k (.iter n b p))
  (fun st p fn tm ps a b d k=>k (.loop st p fn tm ps a b d)) (fun ds k=>k (.deferred ds))
theorem toKO_eq (o : AO) (k : KO → Bool) : ∃ o',toKO o k = k o' ∧ o'.abs = o:=by
 cases o with
 | cells l sp pre anc =>
  refine ⟨.cells l.length (rowFrom 0 l .nil) sp pre anc,Qa4 l 0 .nil _,?_⟩
  simp only [KO.abs,QcF]
 | old l =>
  refine ⟨.old l.length (rowFrom 0 l .nil),Qa4 l 0 .nil _,?_⟩
  simp only [KO.abs,QcF]
 | map es c=>exact ⟨.map es c,rfl,rfl⟩
 | iter n b p=>exact ⟨.iter n b p,rfl,rfl⟩
 | loop st p fn tm ps a b d=>exact ⟨.loop st p fn tm ps a b d,rfl,rfl⟩
 | deferred ds=>exact ⟨.deferred ds,rfl,rfl⟩

def heapK : List (Nat × AO) → (T8 KO → Bool) → Bool :=
 @List.rec (Nat × AO) (fun _=>(T8 KO → Bool) → Bool) (fun k=>k .nil) (fun x _ ih k=>ih fun t=>toKO x.2 fun o=>putK' x.1 o t k)
theorem QoP : ∀ (l : List (Nat × AO)) (k : T8 KO → Bool),∃ t,heapK l k = k t ∧ ∀ nx,absH nx t = ⟨lookH l,nx⟩
 | [],k=>⟨.nil,rfl,fun nx=>by
  unfold absH
  congr 1
  funext b
  rw [T8.get_nil]
  rfl⟩
 | (b,o) :: l,k=>by
  obtain ⟨t,h1,h2⟩:=QoP l fun t=>toKO o fun o=>putK' b o t k
  obtain ⟨o',h3,h4⟩:=toKO_eq o fun o=>putK' b o t k
  refine ⟨t.set b o',?_,fun nx=>?_⟩
  ·show heapK l (fun t=>toKO o fun o=>putK' b o t k) = _
   rw [h1,h3,putK'_eq]
  ·rw [QbF,h2 nx,h4]
   unfold AH.put
   congr 1
def Qls : List LF → (List KF → Bool) → Bool :=
 @List.rec LF (fun _=>(List KF → Bool) → Bool) (fun k=>k []) (fun f _ ih k=>ih fun l=>Qbe f.tm 0 .nil fun r=>k (⟨f.hd,List.length f.tm,r,f.todo⟩ :: l))
theorem Qks : ∀ (l : List LF) (k : List KF → Bool),∃ cs,Qls l k = k cs ∧ okCs cs ∧ cs.map KF.abs = l.map LF.abs
 | [],k=>⟨[],rfl,fun c hc=>(by cases hc),rfl⟩
 | f :: l,k=>by
  obtain ⟨cs,h1,h2,h3⟩:=Qks l fun l=>Qbe f.tm 0 .nil fun r=>k (⟨f.hd,List.length f.tm,r,f.todo⟩ :: l)
  refine ⟨⟨f.hd,f.tm.length,rowFrom 0 f.tm .nil,f.todo⟩ :: cs,?_,fun c hc=>?_,?_⟩
  ·show Qls l (fun l=>Qbe f.tm 0 .nil fun r=>k (⟨f.hd,List.length f.tm,r,f.todo⟩ :: l)) = _
   rw [h1,Qa4]
  ·rcases List.mem_cons.1 hc with rfl | hc
   ·exact QdT f.tm (Nat.le_refl _)
   ·exact h2 c hc
  ·simp only [List.map_cons,h3,KF.abs,LF.abs,QcF]

def Qqn (s : LS) (next : KC) : Bool :=
 heapK s.heap fun t=>Qls s.cs fun cs=>Qbe s.fr.tm 0 .nil fun tm=>next s.fr.hd (List.length s.fr.tm) tm s.fr.todo cs s.nx t
section
variable {F : FuncId → Option AFun} {M : KMemo} {fin : KS → Bool}
theorem Qqm {s : LS} {next : KC} (hn : QcE F M fin next) (he : Qqn s next = true) : Good F M fin s.abs:=by
 unfold Qqn at he
 obtain ⟨t,h1,h2⟩:=QoP s.heap fun t=>Qls s.cs fun cs=>Qbe s.fr.tm 0 .nil fun tm=>next s.fr.hd (List.length s.fr.tm) tm s.fr.todo cs s.nx t
 rw [h1] at he
 obtain ⟨cs,h3,h4,h5⟩:=Qks s.cs fun cs=>Qbe s.fr.tm 0 .nil fun tm=>next s.fr.hd (List.length s.fr.tm) tm s.fr.todo cs s.nx t
 rw [h3,Qa4] at he
 have:=hn _ _ _ _ _ _ _ (QdT s.fr.tm (Nat.le_refl _)) h4 he
 simp only [stA,kf,QcF,h5,h2] at this
 exact this

def Qrz (f : KF) : LF:=⟨f.hd,rowL f.n f.tm,f.todo⟩
def canon (live : List Nat) (s : KS) : Option LS :=
 (live.mapM fun b=>((s.t.get b).map fun o=>(b,o.abs))).map fun heap=>⟨Qrz s.fr,s.cs.map Qrz,s.nx,heap⟩
theorem Qmg (t : T8 KO) : ∀ {live : List Nat} {heap : List (Nat × AO)},(live.mapM fun b=>((t.get b).map fun o=>(b,o.abs))) = some heap → ∀ x o,lookH heap x = some o → (t.get x).map KO.abs = some o
 | [],heap,h,x,o,hx=>by
  simp at h; subst h; cases hx
 | b :: live,heap,h,x,o,hx=>by
  rw [List.mapM_cons] at h
  cases hb : t.get b with
  | none=>simp [hb] at h
  | some ob =>
   cases hl : live.mapM fun b=>((t.get b).map fun o=>(b,o.abs)) with
   | none=>simp [hb,hl] at h
   | some hp =>
    simp [hb,hl] at h
    subst h
    simp only [lookH] at hx
    split at hx
    ·rename_i e; subst e; rw [hb]; exact hx
    ·exact Qmg t hl x o hx

def Seg (F : FuncId → Option AFun) (M : KMemo) (fuel : Nat) (live : List Nat) (s s' : LS) : Prop :=
 ∀ k : Option LS → Bool,Qqn s (loopK F M (fun ks=>k (canon live ks)) fuel) = k (some s')
open Classical in
theorem Seg.steps {fuel : Nat} {live : List Nat} {s s' : LS} (h : Seg F M fuel live s s') : ∃ m a,QcC F (absM M) m s.abs = some a ∧ a.fr = s'.abs.fr ∧ a.cs = s'.abs.cs ∧ a.h.next = s'.abs.h.next ∧ s'.abs.h.sub a.h:=by
 have h1:=h fun o=>decide (o = some s')
 rw [decide_eq_true rfl] at h1
 obtain ⟨m,a,h2,ks,h3,rfl⟩:=Qqm (Qhu fuel) h1
 have h4 : canon live ks = some s':=by simpa using h3
 unfold canon at h4
 obtain ⟨heap,h5,h6⟩:=Option.map_eq_some_iff.1 h4
 subst h6
 refine ⟨m,_,h2,rfl,?_,rfl,fun x o hx=>Qmg ks.t h5 x o hx⟩
 show ks.cs.map KF.abs = (ks.cs.map Qrz).map LF.abs
 rw [List.map_map]
 rfl
end

def calm : List AItem → Bool
 | .drawRest _ :: _ | .inDraw .. :: _ | .inMain .. :: _ | .ends _ :: _=>false
 | _=>true
section
variable {P : Program} {G : Nat → Option (List AV)} {C : List Frame}
variable {K : World → Prop}
theorem StR.less {B : Nat} {w0 : World} {s s' : AS} {m : Machine} (hm : StR P G C B w0 s m) (hf : s'.fr = s.fr) (hc : s'.cs = s.cs) (hn : s'.h.next = s.h.next) (hs : s'.h.sub s.h) (hcalm : s.fr.mode = .run → calm s.fr.todo = true) : StR P G C B w0 s' m:=by
 obtain ⟨g,p,q,fr,cs,w,rfl,hcur,T,hpq,H,hG⟩:=hm
 refine ⟨g,p,q,fr,cs,w,rfl,?_,by rw [hc]; exact T,hpq,H.less hs hn,hG⟩
 rw [hf]
 generalize s.fr = af at hcur hcalm
 cases hcur with
 | plain _ _ hd hm ht hk=>exact .plain _ _ hd hm ht hk
 | left _ _ hd hm ht=>exact .left _ _ hd hm ht
 | ends _ _ l ops rest D tl ak k hd hm hD dyn ho htl ha hf hk=>have:=hcalm hm; rw [ha] at this; cases this
 | rest _ _ l ops rest D fs tl mo ist ak k hd hm hD dyn hp ha hf hk=>have:=hcalm hm; rw [ha] at this; cases this
 | draw _ _ l ops rest D fs tl js mo ist ag mask ak k hd hm hD dyn hp hjs hmf hml ha hf hag hmask hk=>have:=hcalm hm; rw [ha] at this; cases this
 | main _ _ l ops mn rest D fs tl ist ag mask ak k hd hm hD dyn hp hmf ha hf hag hmask hk=>have:=hcalm hm; rw [ha] at this; cases this

theorem Seg.sound {F : FuncId → Option AFun} {M : KMemo} (hF : FunOk P G F) (hM : Qax K P G (absM M)) {fuel : Nat} {live : List Nat} {s s' : LS} (h : Seg F M fuel live s s') (hcalm : calm s'.fr.todo = true)
  {B : Nat} {w0 : World} {m : Machine} (hm : StR P G C B w0 s.abs m) (hK : ∀ w',Below B w0 w' → K w') : ∃ m',Steps P m m' ∧ StR P G C B w0 s'.abs m':=by
 obtain ⟨n,a,h1,h2,h3,h4,h5⟩:=h.steps
 obtain ⟨m',h6,h7⟩:=Qfl hF hM hK n h1 hm
 refine ⟨m',h6,h7.less h2.symm h3.symm h4.symm h5 fun _=>?_⟩
 rw [h2]; exact hcalm
end
end
end Go.Ab
namespace Go.Ab.L22
open Go Go.Ab Go.Proofs
noncomputable section
open AV in
def gl0 : List AV:=[.int .u64 1,.int .u64 10,.int .u64 100,.int .u64 1000,.int .u64 10000,.int .u64 100000,.int .u64 1000000,.int .u64 10000000,.int .u64 100000000,.int .u64 1000000000,.int .u64 10000000000,.int .u64 100000000000,.int .u64 1000000000000,.int .u64 10000000000000,.int .u64 100000000000000,.int .u64 1000000000000000,.int .u64 10000000000000000,.int .u64 100000000000000000,.int .u64 1000000000000000000,.int .u64 10000000000000000000]
open AV in
def gl1 : List AV:=[.int .i64 1,.int .i64 0,.int .i64 0,.int .i64 0,.int .i64 0,.int .i64 0,.bool false,.int .i64 0,.int .i64 0,.int .i64 0,.int .i64 0,.int .i64 0,.int .i64 0,.int .i64 0,.int .i64 0,.bool false,.int .i64 (-999999999),.int .i64 999999999,.int .i64 0,.int .i64 0,.int .i64 0,.int .i64 0,.int .i64 0,.int .i64 0,.bool false,.int .i64 0,.int .i64 1,.int .i64 0,.int .i64 0,.int .i64 0,.int .i64 0,.int .i64 0,.int .i64 0,.bool false,.int .i64 0,.int .i64 0,.int .i64 0,.int .i64 0,.int .i64 1,.int .i64 0,.int .i64 1,.int .i64 0,.bool false,.int .i64 0,.int .i64 0,.int .i64 0,.int .i64 0,.int .i64 0,.int .i64 0,.int .i64 2,.int .i64 0,.bool false,.int .i64 0,.int .i64 0,.int .i64 0,.int .i64 0,.int .i64 1,.int .i64 0,.int .i64 2,.int .i64 0,.bool false,.int .i64 0,.int .i64 0,.int .i64 0,.int .i64 0,.int .i64 2,.int .i64 0,.int .i64 2,.int .i64 0,.bool false,.int .i64 0,.int .i64 0,.int .i64 0,.int .i64 0,.int .i64 0,.int .i64 0,.int .i64 3,.int .i64 0,.bool false,.int .i64 0,.int .i64 0,.int .i64 3,.int .i64 0,.int .i64 0,.int .i64 0,.int .i64 2,.int .i64 0,.bool false,.int .i64 0,.int .i64 0,.int .i64 2,.int .i64 0,.int .i64 0,.int .i64 0,.int .i64 0,.int .i64 4,.bool false,.int .i64 0,.int .i64 0,.int .i64 0,.int .i64 0,.int .i64 0,.int .i64 0,.int .i64 1,.int .i64 0,.bool true,.int .i64 0,.int .i64 0,.int .i64 1,.int .i64 0,.int .i64 0,.int .i64 0,.int .i64 1,.int .i64 0,.bool false,.int .i64 0,.int .i64 0,.int .i64 1,.int .i64 1,.int .i64 0,.int .i64 0,.int .i64 1,.int .i64 0,.bool false,.int .i64 0,.int .i64 0,.int .i64 2,.int .i64 0,.int .i64 0,.int .i64 0,.int .i64 1,.int .i64 0,.bool true,.int .i64 0,.int .i64 1,.int .i64 2,.int .i64 0,.int .i64 1,.int .i64 0,.int .i64 1,.int .i64 0,.bool true,.int .i64 0,.int .i64 0,.int .i64 2,.int .i64 0,.int .i64 0,.int .i64 0,.int .i64 1,.int .i64 0,.bool false,.int .i64 0,.int .i64 0,.int .i64 0,.int .i64 0,.int .i64 1,.int .i64 12,.int .i64 3,.int .i64 0,.bool false,.int .i64 0,.int .i64 0,.int .i64 1,.int .i64 0,.int .i64 0,.int .i64 0,.int .i64 1,.int .i64 0,.bool false,.int .i64 0,.int .i64 0,.int .i64 1,.int .i64 0,.int .i64 0,.int .i64 0,.int .i64 0,.int .i64 0,.bool false,.int .i64 0,.int .i64 0]
open AV in
def gl2 : List AV:=[.int .u8 0,.int .u8 1,.int .u8 28,.int .u8 2,.int .u8 29,.int .u8 14,.int .u8 24,.int .u8 3,.int .u8 30,.int .u8 22,.int .u8 20,.int .u8 15,.int .u8 25,.int .u8 17,.int .u8 4,.int .u8 8,.int .u8 31,.int .u8 27,.int .u8 13,.int .u8 23,.int .u8 21,.int .u8 19,.int .u8 16,.int .u8 7,.int .u8 26,.int .u8 12,.int .u8 18,.int .u8 6,.int .u8 11,.int .u8 5,.int .u8 10,.int .u8 9]
open AV in
def gl3 : List AV:=[.int .u8 0,.int .u8 1,.int .u8 56,.int .u8 2,.int .u8 57,.int .u8 49,.int .u8 28,.int .u8 3,.int .u8 61,.int .u8 58,.int .u8 42,.int .u8 50,.int .u8 38,.int .u8 29,.int .u8 17,.int .u8 4,.int .u8 62,.int .u8 47,.int .u8 59,.int .u8 36,.int .u8 45,.int .u8 43,.int .u8 51,.int .u8 22,.int .u8 53,.int .u8 39,.int .u8 33,.int .u8 30,.int .u8 24,.int .u8 18,.int .u8 12,.int .u8 5,.int .u8 63,.int .u8 55,.int .u8 48,.int .u8 27,.int .u8 60,.int .u8 41,.int .u8 37,.int .u8 16,.int .u8 46,.int .u8 35,.int .u8 44,.int .u8 21,.int .u8 52,.int .u8 32,.int .u8 23,.int .u8 11,.int .u8 54,.int .u8 26,.int .u8 40,.int .u8 15,.int .u8 34,.int .u8 20,.int .u8 31,.int .u8 10,.int .u8 25,.int .u8 14,.int .u8 19,.int .u8 9,.int .u8 13,.int .u8 8,.int .u8 7,.int .u8 6]
open AV in
def gl4 : List AV:=[.int .u8 0,.int .u8 0,.int .u8 0,.int .u8 0,.int .u8 0,.int .u8 0,.int .u8 0,.int .u8 0,.int .u8 0,.int .u8 1,.int .u8 1,.int .u8 1,.int .u8 1,.int .u8 1,.int .u8 0,.int .u8 0,.int .u8 0,.int .u8 0,.int .u8 0,.int .u8 0,.int .u8 0,.int .u8 0,.int .u8 0,.int .u8 0,.int .u8 0,.int .u8 0,.int .u8 0,.int .u8 0,.int .u8 0,.int .u8 0,.int .u8 0,.int .u8 0,.int .u8 1,.int .u8 0,.int .u8 0,.int .u8 0,.int .u8 0,.int .u8 0,.int .u8 0,.int .u8 0,.int .u8 0,.int .u8 0,.int .u8 0,.int .u8 0,.int .u8 0,.int .u8 0,.int .u8 0,.int .u8 0,.int .u8 0,.int .u8 0,.int .u8 0,.int .u8 0,.int .u8 0,.int .u8 0,.int .u8 0,.int .u8 0,.int .u8 0,.int .u8 0,.int .u8 0,.int .u8 0,.int .u8 0,.int .u8 0,.int .u8 0,.int .u8 0,.int .u8 0,.int .u8 0,.int .u8 0,.int .u8 0,.int .u8 0,.int .u8 0,.int .u8 0,.int .u8 0,.int .u8 0,.int .u8 0,.int .u8 0,.int .u8 0,.int .u8 0,.int .u8 0,.int .u8 0,.int .u8 0,.int .u8 0,.int .u8 0,.int .u8 0,.int .u8 0,.int .u8 0,.int .u8 0,.int .u8 0,.int .u8 0,.int .u8 0,.int .u8 0,.int .u8 0,.int .u8 0,.int .u8 0,.int .u8 0,.int .u8 0,.int .u8 0,.int .u8 0,.int .u8 0,.int .u8 0,.int .u8 0,.int .u8 0,.int .u8 0,.int .u8 0,.int .u8 0,.int .u8 0,.int .u8 0,.int .u8 0,.int .u8 0,.int .u8 0,.int .u8 0,.int .u8 0,.int .u8 0,.int .u8 0,.int .u8 0,.int .u8 0,.int .u8 0,.int .u8 0,.int .u8 0,.int .u8 0,.int .u8 0,.int .u8 0,.int .u8 0,.int .u8 0,.int .u8 0,.int .u8 0,.int .u8 0,.int .u8 0,.int .u8 0,.int .u8 0,.int .u8 0,.int .u8 0,.int .u8 0,.int .u8 0,.int .u8 0,.int .u8 0,.int .u8 0,.int .u8 0,.int .u8 0,.int .u8 0,.int .u8 0,.int .u8 0,.int .u8 0,.int .u8 0,.int .u8 0,.int .u8 0,.int .u8 0,.int .u8 0,.int .u8 0,.int .u8 0,.int .u8 0,.int .u8 0,.int .u8 0,.int .u8 0,.int .u8 0,.int .u8 0,.int .u8 0,.int .u8 0,.int .u8 0,.int .u8 0,.int .u8 0,.int .u8 0,.int .u8 0,.int .u8 0,.int .u8 0,.int .u8 0,.int .u8 0,.int .u8 0,.int .u8 0,.int .u8 0,.int .u8 0,.int .u8 0,.int .u8 0,.int .u8 0,.int .u8 0,.int .u8 0,.int .u8 0,.int .u8 0,.int .u8 0,.int .u8 0,.int .u8 0,.int .u8 0,.int .u8 0,.int .u8 0,.int .u8 0,.int .u8 0,.int .u8 0,.int .u8 0,.int .u8 0,.int .u8 0,.int .u8 0,.int .u8 0,.int .u8 0,.int .u8 0,.int .u8 0,.int .u8 0,.int .u8 0,.int .u8 0,.int .u8 0,.int .u8 0,.int .u8 0,.int .u8 0,.int .u8 0,.int .u8 0,.int .u8 0,.int .u8 0,.int .u8 0,.int .u8 0,.int .u8 0,.int .u8 0,.int .u8 0,.int .u8 0,.int .u8 0,.int .u8 0,.int .u8 0,.int .u8 0,.int .u8 0,.int .u8 0,.int .u8 0,.int .u8 0,.int .u8 0,.int .u8 0,.int .u8 0,.int .u8 0,.int .u8 0,.int .u8 0,.int .u8 0,.int .u8 0,.int .u8 0,.int .u8 0,.int .u8 0,.int .u8 0,.int .u8 0,.int .u8 0,.int .u8 0,.int .u8 0,.int .u8 0,.int .u8 0,.int .u8 0,.int .u8 0,.int .u8 0,.int .u8 0,.int .u8 0,.int .u8 0,.int .u8 0,.int .u8 0,.int .u8 0,.int .u8 0,.int .u8 0,.int .u8 0,.int .u8 0,.int .u8 0,.int .u8 0,.int .u8 0,.int .u8 0,.int .u8 0,.int .u8 0]
open AV in
def gl7 : List AV:=[.int .i64 0,.int .i64 1,.int .i64 2,.int .i64 3,.int .i64 4,.int .i64 6,.int .i64 8,.int .i64 9,.int .i64 10,.int .i64 11]
/-- The tables of the program. -/
def G22 : Nat → Option (List AV):=fun g=>match g with | 0=>some gl1 | 1=>some gl0 | 3=>some gl2 | 4=>some gl3 | 5=>some gl4 | 9=>some gl7 | _=>none
theorem QmI {l : List AV} (h : l.all AV.plain = true) : Closed (.iptr l):=by
 refine .iptr l fun i h1=>?_
 have:=List.all_eq_true.1 h l[i] (List.getElem_mem h1)
 generalize l[i] = a at this
 cases a <;> first | (cases this; done) | exact .bool _ | exact .int _ _ | exact .str _ _
theorem Qc3 : QeI G22:=by
 intro n l h
 unfold G22 at h
 split at h <;> first | (cases h; done) | (cases h; exact QmI (by kernel_rfl))
end
end Go.Ab.L22

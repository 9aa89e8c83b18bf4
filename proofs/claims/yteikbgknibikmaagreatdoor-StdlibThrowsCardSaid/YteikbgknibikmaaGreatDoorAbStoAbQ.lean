/-
  A part of a proof: AbS AbT AbU AbW AbX AbY AbZ AbQ.
-/
import Derived.Laws.RangeString
import Derived.Laws.StructEq
import Derived.ChangeKeysEq
import Derived.IntWalk
import Derived.MapKept
import Derived.Lib.UnsafeStr
import Derived.Test.YteikbgknibikmaaGreatDoorAbBtoAbA
set_option linter.all false
/-
 An operation of the program does in the world what its abstract one does in the abstract heap.
-/
namespace Go.Ab
open Go Go.RowKit
section
variable {CR : AC → Code → Prop} {B : Nat} {w0 : Anchor} {g g' : Gam} {h h' : AH} {w w' : World} {P : Program}

def Gives (CR : AC → Code → Prop) (B : Nat) (w0 : Anchor) (g : Gam) (r : AV) (h' : AH) (res : Result Value) : Prop :=
 ∃ g' w' v,res = .ok v w' ∧ HR CR B w0 g' h' w' ∧ g.le g' ∧ VR g' r v
theorem Gives.same (H : HR CR B w0 g h w) {r : AV} {v : Value} (hv : VR g r v) : Gives CR B w0 g r h (.ok v w):=⟨g,w,v,rfl,H,g.le_refl,hv⟩
theorem VR.cells {v : AV} {u : Value} (hv : VR g v u) (hk : v.known = true) : VRs g v.cells u.cells.toList:=by
 cases hv with
 | undef=>simp [AV.known] at hk
 | agg l vs hl h =>
  refine ⟨by simp [AV.cells,Value.cells,hl],fun i h1 h2=>?_⟩
  have h2' : i < vs.size:=by simpa [Value.cells] using h2
  have:=h i h1 h2'
  rw [← Array.getElem_toList] at this
  exact this
 | bool b=>exact VRs.cons (.bool b) (VRs.nil g)
 | int k n=>exact VRs.cons (.int k n) (VRs.nil g)
 | str n b h=>exact VRs.cons (.str n b h) (VRs.nil g)
 | nilptr=>exact VRs.cons .nilptr (VRs.nil g)
 | ptr b o β base h=>exact VRs.cons (.ptr b o β base h) (VRs.nil g)
 | iptr cells vs β o hl hv hm=>exact VRs.cons (.iptr cells vs β o hl hv hm) (VRs.nil g)
 | nilslice=>exact VRs.cons .nilslice (VRs.nil g)
 | empty a=>exact VRs.cons (.empty a) (VRs.nil g)
 | sliceC b o n c β base h hn=>exact VRs.cons (.sliceC b o n c β base h hn) (VRs.nil g)
 | sliceN b o n es c β base a h hn ha ht=>exact VRs.cons (.sliceN b o n es c β base a h hn ha ht) (VRs.nil g)
 | vec l vs β o c sz hl hn hz hz' hv hm=>exact VRs.cons (.vec l vs β o c sz hl hn hz hz' hv hm) (VRs.nil g)
 | nilmap=>exact VRs.cons .nilmap (VRs.nil g)
 | map b β h=>exact VRs.cons (.map b β h) (VRs.nil g)
 | func f first captured fs cs hf hc hfv hcv=>exact VRs.cons (.func f first captured fs cs hf hc hfv hcv) (VRs.nil g)
 | yield l β h=>exact VRs.cons (.yield l β h) (VRs.nil g)
 | nilFunc=>exact VRs.cons .nilFunc (VRs.nil g)
 | iface t v v' h=>exact VRs.cons (.iface t v v' h) (VRs.nil g)
 | nilIface=>exact VRs.cons .nilIface (VRs.nil g)
 | tuple l vs hl hv=>exact VRs.cons (.tuple l vs hl hv) (VRs.nil g)

theorem HR.row (H : HR CR B w0 g h w) (l : List AV) (vs : List Value) (elem : TypeId) (es : Nat) (hl : VRs g l vs) :
  ∃ g',HR CR B w0 g' (h.alloc (.cells l none 0 [])) (w.alloc (.cells vs.toArray elem)) ∧ g.le g' ∧ g'.rho h.next = some (w.heap.size,0):=by
 have:=H.allocCells l vs [] elem none (fun _=>rfl) es (by simp) hl
 rw [List.append_nil] at this
 exact ⟨_,this.1,this.2,Gam.bind_rho_same⟩

theorem HR.rowT (H : HR CR B w0 g h w) (l : List AV) (vs : List Value) (elem : TypeId) (es : Nat) (hl : VRs g l vs) :
  ∃ g',HR CR B w0 g' (h.alloc (.cells l (some (2 * elem + 1)) 0 [])) (w.alloc (.cells vs.toArray elem)) ∧ g.le g' ∧ g'.rho h.next = some (w.heap.size,0):=by
 have:=H.allocCells l vs [] elem (some (2 * elem + 1)) (fun _=>rfl) es (fun e h=>by cases h; omega) hl
 rw [List.append_nil] at this
 exact ⟨_,this.1,this.2,Gam.bind_rho_same⟩
theorem run_newRow (elem : TypeId) (c : Array Value) (w : World) : (newRow elem c).run P w = .ok ⟨w.heap.size,0,none⟩ (w.alloc (.cells c elem)):=rfl
theorem Qrf (H : HR CR B w0 g h w) (t : TypeId) {x : AV} {v : Value} (hx : VR g x v) (hk : x.known = true) :
  Gives CR B w0 g (.ptr h.next 0) (h.alloc (.cells x.cells (some (2 * t + 1)) 0 [])) ((Instr.box t v).run P w):=by
 obtain ⟨g',H',hle,hr⟩:=H.rowT x.cells v.cells.toList t 0 (hx.cells hk)
 exact ⟨g',_,_,rfl,by simpa using H',hle,.ptr _ 0 _ 0 hr⟩
theorem QnL (H : HR CR B w0 g h w) (t : TypeId) {i : TypeInfo} {z : Value} (hi : P.info? t = some i) (hz : i.zero = some z) (old : Value) {l : List AV} (hl : VRs g l z.cells.toList) :
  Gives CR B w0 g (.ptr h.next 0) (h.alloc (.cells l (some (2 * t + 1)) 0 [])) ((Instr.alloc t true old).run P w):=by
 obtain ⟨g',H',hle,hr⟩:=H.rowT l z.cells.toList t 0 hl
 refine ⟨g',w.alloc (.cells z.cells t),.pointer (some ⟨w.heap.size,0,none⟩),?_,by simpa using H',hle,.ptr _ 0 _ 0 hr⟩
 simp [Instr.alloc,zeroValue,typeInfo,hi,hz,newVar,newRow]
theorem QlY {t : TypeId} {d : TypeDesc} (hd : P.underlying t = some d) (w : World) : (isAgg t).run P w = .ok (match d with | .struct _ | .array _ _=>true | _=>false) w:=by
 simp only [isAgg,Sem.run_bind,run_underlying hd,Result.andThen]
 cases d <;> rfl
theorem Qcq {t : TypeId} {b : Bool} (h : Qev P t = some b) (w : World) : (isAgg t).run P w = .ok b w:=by
 unfold Qev at h
 cases hd : P.underlying t with
 | none=>simp [hd] at h
 | some d =>
  rw [QlY hd w]
  cases d <;> simp_all
theorem QeN {t : TypeId} {n : Nat} (h : sizeT P t = some n) : ∃ i,P.info? t = some i ∧ i.size = n:=by
 unfold sizeT at h
 cases hi : P.info? t with
 | none=>simp [hi] at h
 | some i=>exact ⟨i,rfl,by simpa [hi] using h⟩
theorem run_sizeOf {t : TypeId} {n : Nat} (h : sizeT P t = some n) (w : World) : (sizeOf t).run P w = .ok n w:=by
 obtain ⟨i,hi,rfl⟩:=QeN h
 simp [sizeOf,typeInfo,hi]
theorem QnI (H : HR CR B w0 g h w) {t : TypeId} (ha : Qev P t = some false) {x v : AV} {u : Value} (hl : loadA h 1 x = some [v]) (hx : VR g x u) :
  Gives CR B w0 g v h ((Instr.loadAt t u).run P w):=by
 obtain ⟨a,vs,rfl,h1,h2,h3⟩:=H.loadA hl hx
 match vs,h2 with
 | [y],_ =>
  have hc:=h3 0 y (by simp)
  have : a.add 0 = a:=by simp [Addr.add]
  rw [this] at hc
  have hrun : (Instr.loadAt t (.pointer (some a))).run P w = .ok y w:=by
   simp [Instr.loadAt,Instr.sureAddr,loadVar,Qcq ha,load,Sem.run,hc]
  rw [hrun]
  exact Gives.same H h1.head
theorem QnH (H : HR CR B w0 g h w) {t : TypeId} {n : Nat} (ha : Qev P t = some true) (hn : sizeT P t = some n) {x : AV} {l : List AV} {u : Value} (hl : loadA h n x = some l) (hx : VR g x u) :
  Gives CR B w0 g (.agg l) h ((Instr.loadAt t u).run P w):=by
 obtain ⟨a,vs,rfl,h1,h2,h3⟩:=H.loadA hl hx
 have hrun : (Instr.loadAt t (.pointer (some a))).run P w = .ok (.agg vs.toArray) w:=by
  have:=run_loadCells_list (P:=P) w a vs h3
  rw [h2] at this
  simp [Instr.loadAt,Instr.sureAddr,loadVar,Qcq ha,run_sizeOf hn,this]
 rw [hrun]
 exact Gives.same H h1.agg
theorem QnF (H : HR CR B w0 g h w) {t : TypeId} {n : Nat} (hn : sizeT P t = some n) {x a : AV} {u ua : Value} (hk : x.known = true) (hl : x.cells.length = n) (hs : storeA h x.cells a = some h')
  (hx : VR g x u) (ha : VR g a ua) : ∃ w',(Instr.storeAt t ua u).run P w = .ok () w' ∧ HR CR B w0 g h' w':=by
 obtain ⟨b,w',rfl,h1,h2⟩:=H.storeA (P:=P) hs ha (hx.cells hk)
 refine ⟨w',?_,h2⟩
 have hsz : u.cells.size = n:=by
  have:=(hx.cells hk).len
  rw [hl] at this
  simpa using this.symm
 simp [Instr.storeAt,Instr.sureAddr,storeVar,run_sizeOf hn,hsz,h1]
theorem Qj6 {s : Sem Value} {r : AV} (hr : pureV s = some r) : ∃ v,s = .pure v ∧ VR g r v:=by
 unfold pureV at hr
 split at hr
 ·cases hr; exact ⟨_,rfl,.int _ _⟩
 ·cases hr; exact ⟨_,rfl,.bool _⟩
 ·cases hr
theorem QfU (H : HR CR B w0 g h w) {b b' β β' base base' o o' : Nat} {l l' : List AV} {sp sp' : Option Nat} {pre pre' : Nat} (hne : b ≠ b')
  (hr : g.rho b = some (β,base)) (hr' : g.rho b' = some (β',base')) (hg : h.get b = some (.cells l sp pre [])) (hg' : h.get b' = some (.cells l' sp' pre' [])) :
  (sameAddr ⟨β,o,none⟩ ⟨β',o',none⟩).run P w = .ok false w:=by
 have hβ : β ≠ β':=by
  intro e
  subst e
  rcases H.sep b b' β base base' _ _ hr hr' hg hg' hne with hu | hu | hu
  ·obtain ⟨l1,sp1,pre1,anc1,l2,e1,e2,e3,e4⟩:=hu; cases e2
  ·obtain ⟨l1,sp1,pre1,anc1,l2,e1,e2,e3,e4⟩:=hu; cases e2
  ·obtain ⟨⟨l2,e⟩,_⟩:=hu; cases e
 have h1 : ∃ c e,w.heap[β]? = some (.cells c e (0,0)):=by
  have:=H.obj b β base _ hr hg
  cases this with
  | cells _ _ _ _ _ _ _ hrow=>obtain ⟨c,e,h1,_⟩:=hrow; exact ⟨c,e,h1⟩
 have h2 : ∃ c e,w.heap[β']? = some (.cells c e (0,0)):=by
  have:=H.obj b' β' base' _ hr' hg'
  cases this with
  | cells _ _ _ _ _ _ _ hrow=>obtain ⟨c,e,h1,_⟩:=hrow; exact ⟨c,e,h1⟩
 obtain ⟨c,e,h1⟩:=h1
 obtain ⟨c',e',h2⟩:=h2
 have hbeq : (β == β') = false:=by simp [hβ]
 simp [sameAddr,hbeq,frozen,Sem.run,World.frozen?,h1,h2,noView,viewAt,shape,World.shape?,mayBeOne,stringish]
theorem QnQ {t : TypeId} {x y : Operand} {q : Nat} (hq : Qjg P t x y = some q) :
  (q = 0 ∧ P.underlying t = some .bool) ∨ (q = 1 ∧ ∃ e i,P.underlying t = some (.pointer e) ∧ P.info? e = some i ∧ i.size ≠ 0) ∨ (q = 2 ∧ ∃ e,P.underlying t = some (.slice e)) ∨
  (q = 3 ∧ ∃ k e,P.underlying t = some (.map k e)) ∨ (q = 4 ∧ ∃ a b c,P.underlying t = some (.func a b c)) ∨ (q = 5 ∧ (∃ m,P.underlying t = some (.interface m)) ∧ (isConstO x || isConstO y) = true) ∨ (q = 9 ∨ 10 ≤ q):=by
 unfold Qjg at hq
 split at hq
 ·rename_i h; cases hq; exact .inl ⟨rfl,h⟩
 ·rename_i e h
  split at hq
  ·rename_i hs
   cases hq
   refine .inr (.inl ⟨rfl,e,?_⟩)
   cases hz : sizeT P e with
   | none=>simp [hz] at hs
   | some n =>
    obtain ⟨i,hi,rfl⟩:=QeN hz
    exact ⟨i,h,hi,by simpa [hz] using hs⟩
  ·cases hq
 ·rename_i h; cases hq; exact .inr (.inr (.inl ⟨rfl,_,h⟩))
 ·rename_i h; cases hq; exact .inr (.inr (.inr (.inl ⟨rfl,_,_,h⟩)))
 ·rename_i h; cases hq; exact .inr (.inr (.inr (.inr (.inl ⟨rfl,_,_,_,h⟩))))
 ·rename_i h
  split at hq
  ·rename_i hc; cases hq; exact .inr (.inr (.inr (.inr (.inr (.inl ⟨rfl,⟨_,h⟩,hc⟩)))))
  ·cases hq
 ·cases hq; exact .inr (.inr (.inr (.inr (.inr (.inr (.inl rfl))))))
 ·cases hq; exact .inr (.inr (.inr (.inr (.inr (.inr (.inl rfl))))))
 ·split at hq
  ·split at hq
   ·cases hq; exact .inr (.inr (.inr (.inr (.inr (.inr (.inr (by omega)))))))
   ·cases hq
  ·cases hq
 ·split at hq
  ·split at hq
   ·cases hq; exact .inr (.inr (.inr (.inr (.inr (.inr (.inr (by omega)))))))
   ·cases hq
  ·cases hq
 ·cases hq
theorem QpS {t : TypeId} {x y : Operand} {q : Nat} (hq : Qjg P t x y = some q) (h10 : 10 ≤ q) :
  P.eqGuardType P.depth t = false ∧ ((∃ fs ks,P.underlying t = some (.struct fs) ∧ fs.toList.mapM (fun f=>Qen P f.type) = some ks ∧ P.stoodInHeld t = false ∧ Qe0 0 fs.toList = true ∧ q = 10 + codeOf ks) ∨
   ∃ n e k,P.underlying t = some (.array n e) ∧ Qen P e = some k ∧ sizeT P e = some 1 ∧ q = 10 + codeOf (List.replicate n k)):=by
 unfold Qjg at hq
 split at hq
 ·cases hq; omega
 ·split at hq
  ·cases hq; omega
  ·cases hq
 ·cases hq; omega
 ·cases hq; omega
 ·cases hq; omega
 ·split at hq
  ·cases hq; omega
  ·cases hq
 ·cases hq; omega
 ·cases hq; omega
 ·rename_i fs ht
  split at hq
  ·rename_i ks hks
   split at hq
   ·rename_i hc
    cases hq
    simp only [Bool.and_eq_true,Bool.not_eq_true'] at hc
    exact ⟨hc.1.2,.inl ⟨fs,ks,ht,hks,hc.1.1,hc.2,rfl⟩⟩
   ·cases hq
  ·cases hq
 ·rename_i n e ht
  split at hq
  ·rename_i k hk hs
   split at hq
   ·rename_i hc
    cases hq
    exact ⟨by simpa using hc,.inr ⟨n,e,k,ht,hk,hs,rfl⟩⟩
   ·cases hq
  ·cases hq
 ·cases hq
theorem Qem {t : TypeId} {k : Nat} (h : Qen P t = some k) : (k = 1 ∧ ∃ j,P.underlying t = some (.int j)) ∨ (k = 2 ∧ P.underlying t = some .string) ∨ (k = 3 ∧ P.underlying t = some .bool):=by
 unfold Qen at h
 split at h <;> cases h
 ·rename_i j hj; exact .inl ⟨rfl,j,hj⟩
 ·rename_i hj; exact .inr (.inl ⟨rfl,hj⟩)
 ·rename_i hj; exact .inr (.inr ⟨rfl,hj⟩)
theorem run_part_plain {t : TypeId} {k : Nat} (h : Qen P t = some k) {xs : Array Value} {i : Nat} {v : Value} (hx : xs[i]? = some v) : (part t xs i).run P w = .ok v w:=by
 rcases Qem h with ⟨_,j,hu⟩ | ⟨_,hu⟩ | ⟨_,hu⟩ <;> simp [part,QlY hu,hx]
theorem QjQ {x y : Operand} (h : (isConstO x || isConstO y) = true) : ((match x with | .const _=>true | _=>false) || (match y with | .const _=>true | _=>false)) = true:=by
 cases x <;> cases y <;> first | rfl | exact Bool.noConfusion h
theorem QeA {t : TypeId} {u u' : Value} {r : Bool} (key : ∀ d,(Op.equalIn (d + 1) t u u').run P w = .ok r w) (hint : ∀ k n,u ≠ .int k n) (hflo : ∀ k n,u ≠ .float k n) (hcom : ∀ k n m,u ≠ .complex k n m)
  (hstr : ∀ s,u ≠ .string s) : (binOp .eql t u u').run P w = .ok (.bool r) w ∧ (binOp .neq t u u').run P w = .ok (.bool !r) w:=by
 have hk : (Op.equal t u u').run P w = .ok r w:=key 9999
 constructor
 ·unfold binOp
  split
  all_goals first
   | (exact absurd rfl (hint _ _)) | (exact absurd rfl (hflo _ _)) | (exact absurd rfl (hcom _ _ _)) | (exact absurd rfl (hstr _))
   | (simp [hk]; done) | (rename_i h _ _ _; cases h) | skip
  all_goals simp_all
 ·unfold binOp
  split
  all_goals first
   | (exact absurd rfl (hint _ _)) | (exact absurd rfl (hflo _ _)) | (exact absurd rfl (hcom _ _ _)) | (exact absurd rfl (hstr _))
   | (simp [hk]; done) | skip
  all_goals simp_all
theorem Qpo {n a m b : Nat} (ha : a < 256 ^ n) (hb : b < 256 ^ m) : ((bsOf n a).toList == (bsOf m b).toList) = (n == m && a == b):=by
 rw [QfI,QfI,Bool.eq_iff_iff]
 simp only [beq_iff_eq,Bool.and_eq_true]
 constructor
 ·intro h
  have h1:=congrArg List.length h
  rw [QaU,QaU] at h1
  subst h1
  exact ⟨rfl,QgQ ha hb h⟩
 ·rintro ⟨rfl,rfl⟩; rfl
theorem QgX {t : TypeId} {k : Nat} (h : Qen P t = some k) (d : Nat) {a b : AV} {u u' : Value} {r : Bool} (he : Qjh k a b = some r) (ha : VR g a u) (hb : VR g b u') : (Op.equalIn (d + 1) t u u').run P w = .ok r w:=by
 rcases Qem h with ⟨rfl,j,hu⟩ | ⟨rfl,hu⟩ | ⟨rfl,hu⟩
 ·unfold Qjh at he
  split at he <;> first | cases he | skip
  all_goals first | (rename_i h0; cases h0; done) | skip
  split at he
  ·rename_i e; subst e; cases he; cases ha; cases hb; exact run_equalIn_int w d t _ _ _ _ hu
  ·cases he
 ·unfold Qjh at he
  split at he <;> first | cases he | skip
  all_goals first | (rename_i h0; cases h0; done) | skip
  cases ha; cases hb
  rw [run_equalIn_string w d t _ _ hu,Qpo ‹_› ‹_›]
 ·unfold Qjh at he
  split at he <;> first | cases he | skip
  all_goals first | (rename_i h0; cases h0; done) | skip
  cases ha; cases hb
  exact run_equalIn_bool' w d t _ _ hu
theorem Qhe {l m : List AV} {r : Bool} (h : Qb0 0 l m = some r) : l = [] ∧ m = [] ∧ r = true:=by
 cases l with
 | nil=>cases m with
  | nil=>simp [Qb0] at h; exact ⟨rfl,rfl,h⟩
  | cons=>simp [Qb0] at h
 | cons a l=>cases m with
  | nil=>simp [Qb0] at h
  | cons b m=>simp [Qb0,Qjh] at h
theorem Qhf {k c : Nat} (hk : 0 < k) (hk4 : k < 4) {l m : List AV} {r : Bool} (h : Qb0 (k + 4 * c) l m = some r) : ∃ a l' b m' x y,l = a :: l' ∧ m = b :: m' ∧ Qjh k a b = some x ∧ Qb0 c l' m' = some y ∧ r = (x && y):=by
 cases l with
 | nil=>cases m with
  | nil=>simp only [Qb0] at h; split at h; omega; cases h
  | cons=>simp [Qb0] at h
 | cons a l=>cases m with
  | nil=>simp [Qb0] at h
  | cons b m =>
   simp only [Qb0] at h
   have e1 : (k + 4 * c) % 4 = k:=by omega
   have e2 : (k + 4 * c) / 4 = c:=by omega
   rw [e1,e2] at h
   split at h
   ·rename_i x y hx hy; cases h; exact ⟨a,l,b,m,x,y,rfl,rfl,hx,hy,rfl⟩
   ·cases h
theorem Qj8 {t : TypeId} {k : Nat} (h : Qen P t = some k) : 0 < k ∧ k < 4:=by
 rcases Qem h with ⟨rfl,_⟩ | ⟨rfl,_⟩ | ⟨rfl,_⟩ <;> omega

def AtR (g : Gam) (i : Nat) (l : List AV) (xs : Array Value) : Prop:=∀ j (h : j < l.length),∃ v,xs[i + j]? = some v ∧ VR g l[j] v
theorem AtR.head {i : Nat} {a : AV} {l : List AV} {xs : Array Value} (h : AtR g i (a :: l) xs) : ∃ v,xs[i]? = some v ∧ VR g a v:=by
 obtain ⟨v,h1,h2⟩:=h 0 (by simp); exact ⟨v,h1,h2⟩
theorem AtR.tail {i : Nat} {a : AV} {l : List AV} {xs : Array Value} (h : AtR g i (a :: l) xs) : AtR g (i + 1) l xs:=fun j hj=>by
 obtain ⟨v,h1,h2⟩:=h (j + 1) (by simpa using hj)
 exact ⟨v,by rw [show i + 1 + j = i + (j + 1) by omega]; exact h1,h2⟩
theorem QgY (d : Nat) {xs ys : Array Value} : ∀ (fs : List Field) (i : Nat) (ks : List Nat) (l m : List AV) (r : Bool),Qe0 i fs = true → fs.mapM (fun f=>Qen P f.type) = some ks → Qb0 (codeOf ks) l m = some r →
  AtR g i l xs → AtR g i m ys → (Op.eqFields (d + 1) xs ys fs).run P w = .ok r w
 | [],i,ks,l,m,r,_,hk,he,_,_=>by
  simp at hk; subst hk
  obtain ⟨rfl,rfl,rfl⟩:=Qhe he
  simp [Op.eqFields]
 | f :: fs,i,ks,l,m,r,hf,hk,he,hx,hy=>by
  rw [List.mapM_cons] at hk
  simp only [bind,Option.bind_eq_some_iff,pure,Option.some.injEq] at hk
  obtain ⟨k,hk1,ks',hk2,rfl⟩:=hk
  simp only [Qe0,Bool.and_eq_true,beq_iff_eq,bne_iff_ne,ne_eq] at hf
  obtain ⟨⟨hf1,hf2⟩,hf3⟩:=hf
  obtain ⟨p1,p2⟩:=Qj8 hk1
  obtain ⟨a,l',b,m',x,y,rfl,rfl,q1,q2,rfl⟩:=Qhf p1 p2 he
  obtain ⟨v,hv,hva⟩:=hx.head
  obtain ⟨u,hu,hub⟩:=hy.head
  have ih:=QgY d fs (i + 1) ks' l' m' y hf3 hk2 q2 hx.tail hy.tail
  simp only [Op.eqFields,hf1,ne_eq,hf2,not_false_eq_true,if_true,Sem.run_bind,run_part_plain hk1 hv,run_part_plain hk1 hu,QgX hk1 d q1 hva hub,Result.andThen_ok]
  cases x
  ·simp
  ·simpa using ih
theorem QhV (d : Nat) {e : TypeId} {k : Nat} (hk : Qen P e = some k) {xs ys : Array Value} : ∀ (n i : Nat) (l m : List AV) (r : Bool),Qb0 (codeOf (List.replicate n k)) l m = some r →
  AtR g i l xs → AtR g i m ys → (Op.eqItems (d + 1) e 1 xs ys (List.range' i n)).run P w = .ok r w
 | 0,i,l,m,r,he,_,_=>by
  obtain ⟨rfl,rfl,rfl⟩:=Qhe he
  simp [Op.eqItems]
 | n + 1,i,l,m,r,he,hx,hy=>by
  obtain ⟨p1,p2⟩:=Qj8 hk
  rw [List.replicate_succ] at he
  obtain ⟨a,l',b,m',x,y,rfl,rfl,q1,q2,rfl⟩:=Qhf p1 p2 he
  obtain ⟨v,hv,hva⟩:=hx.head
  obtain ⟨u,hu,hub⟩:=hy.head
  have ih:=QhV d hk n (i + 1) l' m' y q2 hx.tail hy.tail
  rw [List.range'_succ]
  simp only [Op.eqItems,Nat.mul_one,Sem.run_bind,run_part_plain hk hv,run_part_plain hk hu,QgX hk d q1 hva hub,Result.andThen_ok]
  cases x
  ·simp
  ·simpa using ih
theorem Qhz {l : List AV} {xs : Array Value} (hl : l.length = xs.size) (h : ∀ i (h1 : i < l.length) (h2 : i < xs.size),VR g l[i] xs[i]) : AtR g 0 l xs:=fun j hj=>by
 have h2 : j < xs.size:=by omega
 exact ⟨xs[j],by simp [h2],h j hj h2⟩
set_option maxHeartbeats 4000000 in
theorem QoQ (H : HR CR B w0 g h w) {t : TypeId} {x y : Operand} {q : Nat} (hq : Qjg P t x y = some q) {a b : AV} {u u' : Value} {r : Bool} (he : eqOne h q a b = some r) (ha : VR g a u) (hb : VR g b u') :
  (eqGuard .eql t x y u u').run P w = .ok () w ∧ (eqGuard .neq t x y u u').run P w = .ok () w ∧ (binOp .eql t u u').run P w = .ok (.bool r) w ∧ (binOp .neq t u u').run P w = .ok (.bool !r) w:=by
 have hs:=QnQ hq
 unfold eqOne at he
 split at he
 case h_28=>cases he
 case h_27 =>
  rename_i l m
  split at he
  ·rename_i h10
   obtain ⟨hgd,hcase⟩:=QpS hq h10
   cases ha with
   | agg _ xs hl hv =>
    cases hb with
    | agg _ ys hl' hv' =>
     have key : (Op.equalIn 10000 t (.agg xs) (.agg ys)).run P w = .ok r w:=by
      rcases hcase with ⟨fs,ks,ht,hks,hst,hfs,rfl⟩ | ⟨n,e,k,ht,hk,hsz,rfl⟩
      ·have hfo : P.fieldsOf t = fs:=by simp [Program.fieldsOf,ht]
       rw [run_equalIn_struct w 9999 t xs ys (by rw [hfo]; exact ht) hst,hfo]
       exact QgY 9998 fs.toList 0 ks l m r hfs hks (by rw [Nat.add_sub_cancel_left] at he; exact he) (Qhz hl hv) (Qhz hl' hv')
      ·obtain ⟨i,hi,hi1⟩:=QeN hsz
       have hc1 : P.cellsOf e = 1:=by simp [Program.cellsOf,hi,hi1]
       rw [run_equalIn_array w 9999 xs ys ht hi,hc1,List.range_eq_range']
       exact QhV 9998 hk n 0 l m r (by rw [Nat.add_sub_cancel_left] at he; exact he) (Qhz hl hv) (Qhz hl' hv')
     exact ⟨run_eqGuard_agg w .eql t x y xs ys hgd,run_eqGuard_agg w .neq t x y xs ys hgd,by rw [run_eql_struct,key]; rfl,by rw [run_neq_struct,key]; rfl⟩
  ·cases he
 case h_7 =>
  obtain ⟨e,i,ht,hi,hi0⟩ : ∃ e i,P.underlying t = some (.pointer e) ∧ P.info? e = some i ∧ i.size ≠ 0:=by simpa using hs
  cases ha; cases hb
  rename_i b o b' o' β base hr β' base' hr'
  refine ⟨by rfl,by rfl,QeA (fun d=>?_) (by simp) (by simp) (by simp) (by simp)⟩
  by_cases hbb : b = b'
  ·subst hbb
   rw [if_pos rfl] at he
   cases he
   rw [hr] at hr'
   cases hr'
   have hadd : (base + o = base + o') ↔ o = o':=by omega
   simp [Op.equalIn,run_underlying ht,sizeOf,typeInfo,hi,hi0,sameAddr,hadd]
   rw [Bool.eq_iff_iff,beq_iff_eq,beq_iff_eq,Addr.mk.injEq]
   simp [hadd]
  ·rw [if_neg hbb] at he
   split at he
   ·rename_i l sp pre l' sp' pre' hg hg'
    cases he
    have:=QfU (P:=P) (o:=base + o) (o':=base' + o') H hbb hr hr' hg hg'
    simp [Op.equalIn,run_underlying ht,sizeOf,typeInfo,hi,hi0,this]
   ·cases he
 case h_1 =>
  have ht : P.underlying t = some .bool:=by simpa using hs
  cases ha; cases hb; cases he
  exact ⟨by rfl,by rfl,QeA (fun d=>by simp [Op.equalIn,run_underlying ht]) (by simp) (by simp) (by simp) (by simp)⟩
 case h_26 =>
  obtain ⟨⟨m,ht⟩,hc⟩ : (∃ m,P.underlying t = some (.interface m)) ∧ (isConstO x || isConstO y) = true:=by simpa using hs
  split at he
  ·rename_i hne
   cases he; cases ha; cases hb
   exact ⟨by rfl,by rfl,QeA (fun d=>by simp [Op.equalIn,run_underlying ht,hne]) (by simp) (by simp) (by simp) (by simp)⟩
  ·cases he
 case h_23 =>
  obtain ⟨⟨m,ht⟩,hc⟩ : (∃ m,P.underlying t = some (.interface m)) ∧ (isConstO x || isConstO y) = true:=by simpa using hs
  have hcc:=QjQ hc
  cases he; cases ha; cases hb
  refine ⟨?_,?_,QeA (fun d=>by simp [Op.equalIn,run_underlying ht]) (by simp) (by simp) (by simp) (by simp)⟩
  ·cases x <;> cases y <;> first | rfl | exact Bool.noConfusion hc
  ·cases x <;> cases y <;> first | rfl | exact Bool.noConfusion hc
 all_goals
  cases he
  rcases hs with ⟨e0,ht⟩ | ⟨e0,e,i,ht,hi,hi0⟩ | ⟨e0,e,ht⟩ | ⟨e0,k,e,ht⟩ | ⟨e0,a1,b1,c1,ht⟩ | ⟨e0,⟨m,ht⟩,hc⟩ | e0
  all_goals first | exact absurd e0 (by decide) | skip
  all_goals
   cases ha <;> cases hb
   all_goals exact ⟨by rfl,by rfl,QeA (fun d=>by simp [Op.equalIn,run_underlying ht]) (by simp) (by simp) (by simp) (by simp)⟩
theorem QnS (op : BinOp) (t : TypeId) (x y : Operand) (j k : IntKind) (a b : Int) : (eqGuard op t x y (.int j a) (.int k b)).run P w = .ok () w:=by
 cases op <;> rfl
theorem QnR (op : BinOp) (t : TypeId) (x y : Operand) (a b : ByteArray) : (eqGuard op t x y (.string a) (.string b)).run P w = .ok () w:=by
 cases op <;> rfl
theorem QnB {op : BinOp} {k : IntKind} {a b : Int} {r : AV} (hr : QoH op k a b = some r) (t : TypeId) : ∃ v,(binOp op t (.int k a) (.int k b)).run P w = .ok v w ∧ VR g r v:=by
 unfold QoH at hr
 cases op <;> simp only [reduceCtorEq,Option.some.injEq] at hr
 case quo =>
  split at hr
  ·cases hr
  ·rename_i hb; cases hr; exact ⟨_,by simp [binOp,Op.intDiv,hb],.int _ _⟩
 case rem =>
  split at hr
  ·cases hr
  ·rename_i hb; cases hr; exact ⟨_,by simp [binOp,Op.intDiv,hb],.int _ _⟩
 all_goals
  subst hr
  first
   | exact ⟨_,by simp [binOp,Op.intArith],.int _ _⟩
   | exact ⟨_,by simp [binOp,Op.intCmp],.bool _⟩
theorem QgC : ∀ n a m b,lessN n a m b = Op.bytesLess (QaH n a) (QaH m b)
 | 0,_,0,_=>rfl
 | _ + 1,_,0,_=>rfl
 | 0,_,_ + 1,_=>rfl
 | n + 1,a,m + 1,b=>by
  have h1 : decide (UInt8.ofNat a < UInt8.ofNat b) = Nat.blt (a % 256) (b % 256):=by
   rw [Bool.eq_iff_iff,decide_eq_true_iff,UInt8.lt_iff_toNat_lt,Qa0,Qa0]
   simp [Nat.blt_eq]
  have h2 : (UInt8.ofNat a == UInt8.ofNat b) = Nat.beq (a % 256) (b % 256):=by
   rw [Bool.eq_iff_iff,beq_iff_eq,← UInt8.toNat_inj,Qa0,Qa0]
   simp [Nat.beq_eq]
  simp only [lessN,QaH,Op.bytesLess,QgC n,h1,h2]
theorem QpZ {n a m b : Nat} (ha : a < 256 ^ n) (hb : b < 256 ^ m) : (QaH n a == QaH m b) = (n == m && a == b):=by
 rw [Bool.eq_iff_iff]
 simp only [beq_iff_eq,Bool.and_eq_true]
 constructor
 ·intro h
  have h1:=congrArg List.length h
  rw [QaU,QaU] at h1
  subst h1
  exact ⟨rfl,QgQ ha hb h⟩
 ·rintro ⟨rfl,rfl⟩; rfl
theorem bytes_beq (a b : ByteArray) : (a == b) = true ↔ a = b:=by
 obtain ⟨a⟩:=a
 obtain ⟨b⟩:=b
 show (a == b) = true ↔ _
 rw [beq_iff_eq]
 simp
theorem bsOf_beq {n a m b : Nat} (ha : a < 256 ^ n) (hb : b < 256 ^ m) : (bsOf n a == bsOf m b) = (n == m && a == b):=by
 rw [Bool.eq_iff_iff,bytes_beq]
 simp only [beq_iff_eq,Bool.and_eq_true]
 constructor
 ·intro h; exact bsOf_inj ha hb h
 ·rintro ⟨rfl,rfl⟩; rfl
theorem QmZ {op : BinOp} {n a m b : Nat} (ha : a < 256 ^ n) (hb : b < 256 ^ m) {r : AV} (hr : Qj2 op n a m b = some r) (t : TypeId) :
  ∃ v,(binOp op t (.string (bsOf n a)) (.string (bsOf m b))).run P w = .ok v w ∧ VR g r v:=by
 unfold Qj2 at hr
 cases op <;> simp only [reduceCtorEq,Option.some.injEq] at hr
 case add =>
  split at hr
  ·rename_i hlt
   cases hr
   have hmax : ¬ ((((bsOf n a).size + (bsOf m b).size : Nat) : Int) > IntKind.i64.max):=by
    have : IntKind.i64.max = 9223372036854775807:=by decide
    rw [Qbh,Qbh]
    omega
   have:=VR.str (g:=g) (n + m) (appN n a b) (Qjz ha hb)
   rw [← Qn0 ha] at this
   exact ⟨_,by simp only [binOp,Op.stringOp]; rw [if_neg hmax]; rfl,this⟩
  ·cases hr
 all_goals
  subst hr
  refine ⟨_,rfl,?_⟩
  simp only [QfI,← QgC,QpZ ha hb]
  exact .bool _
theorem Qrg (H : HR CR B w0 g h w) {op : BinOp} {t : TypeId} {x y : Operand} {q : Nat} (hq : Qjg P t x y = some q) {a b r : AV} {u u' : Value} (he : binA h op q a b = some r) (ha : VR g a u) (hb : VR g b u') :
    ∃ v,(do eqGuard op t x y u u'; binOp op t u u' : Sem Value).run P w = .ok v w ∧ VR g r v:=by
  unfold binA at he
  split at he
  · cases ha; cases hb
    rename_i j a k b
    simp only [Sem.run_bind,QnS,Result.andThen]
    have hpure : ∀ {s : Sem Value},pureV s = some r → binOp op t (.int j a) (.int k b) = s → ∃ v,(binOp op t (.int j a) (.int k b)).run P w = .ok v w ∧ VR g r v:=by
      intro s hs hbin
      obtain ⟨v,rfl,hv⟩:=Qj6 (g:=g) hs
      exact ⟨v,by rw [hbin]; rfl,hv⟩
    split at he
    · exact hpure he rfl
    · exact hpure he rfl
    all_goals try
      (split at he
       · rename_i hjk; subst hjk; exact hpure he (by simp [binOp])
       · cases he)
    split at he
    · rename_i hjk; subst hjk; exact QnB he t
    · cases he
  · cases ha with | str n a ha=>cases hb with | str m b hb =>
    simp only [Sem.run_bind,QnR,Result.andThen]
    exact QmZ ha hb he t
  · split at he
    · obtain ⟨c,hc,rfl⟩:=Option.map_eq_some_iff.1 he
      obtain ⟨h1,h2,h3,h4⟩:=QoQ H hq hc ha hb
      exact ⟨_,by simp only [Sem.run_bind,h1,Result.andThen,h3],.bool _⟩
    · obtain ⟨c,hc,rfl⟩:=Option.map_eq_some_iff.1 he
      obtain ⟨h1,h2,h3,h4⟩:=QoQ H hq hc ha hb
      exact ⟨_,by simp only [Sem.run_bind,h2,Result.andThen,h4],.bool _⟩
    · cases he
theorem gives_un {op : UnOp} {a r : AV} {u : Value} (he : unA op a = some r) (ha : VR g a u) : ∃ v,(Op.unary op u).run P w = .ok v w ∧ VR g r v:=by
 unfold unA at he
 split at he
 ·cases ha
  cases op <;> simp only [reduceCtorEq,Option.some.injEq] at he
  subst he
  exact ⟨_,rfl,.bool _⟩
 ·cases ha
  cases op <;> simp only [reduceCtorEq,Option.some.injEq] at he
  ·subst he; exact ⟨_,rfl,.int _ _⟩
  ·obtain ⟨v,hv,hr⟩:=Qj6 (g:=g) he
   exact ⟨v,by simp only [Op.unary,hv]; rfl,hr⟩
 ·cases he
theorem Qbu {a : AV} {n : Nat} {u : Value} (h : asNat a = some n) (ha : VR g a u) : ∃ k,u = .int k n:=by
 unfold asNat at h
 split at h
 ·cases ha
  split at h
  ·rename_i k n h0
   cases h
   exact ⟨k,by rw [Int.toNat_of_nonneg h0]⟩
  ·cases h
 ·cases h
theorem QbH {v : Value} {k : IntKind} {n y : Nat} {code : BoundsCode} (hv : v = .int k n) (hn : n ≤ y) : (Instr.sliceBound v y code).run P w = .ok n w:=by
 subst hv
 have : (0 : Int) ≤ n ∧ (n : Int) ≤ y:=⟨by omega,by omega⟩
 simp [Instr.sliceBound,asIntOf,this]

theorem Qfr {isS : Bool} {len cap : Nat} {lo hi : Option AV} {lo' hi' : Option Value} {l k : Nat} (hl : QaL 0 lo = some l) (hk : QaL len hi = some k) (hlo : OptR (VR g) lo lo') (hhi : OptR (VR g) hi hi')
  (hlk : l ≤ k) (hkc : k ≤ cap) : (Instr.sliceBounds isS len cap lo' hi' none).run P w = .ok (l,k,cap) w:=by
 have h1 : ∀ v,hi' = some v → ∃ kk,v = .int kk k:=by
  intro v e
  subst e
  cases hi with
  | none=>exact hhi.elim
  | some x=>exact Qbu hk hhi
 have h2 : ∀ v,lo' = some v → ∃ kk,v = .int kk l:=by
  intro v e
  subst e
  cases lo with
  | none=>exact hlo.elim
  | some x=>exact Qbu hl hlo
 have hk0 : hi' = none → k = len:=by
  intro e
  subst e
  cases hi with
  | none=>simp [QaL] at hk; exact hk.symm
  | some x=>exact hhi.elim
 have hl0 : lo' = none → l = 0:=by
  intro e
  subst e
  cases lo with
  | none=>simp [QaL] at hl; exact hl.symm
  | some x=>exact hlo.elim
 cases hh : hi' with
 | none =>
  have:=hk0 hh
  subst this
  cases hll : lo' with
  | none=>simp [Instr.sliceBounds,hl0 hll]
  | some v =>
   obtain ⟨kk,hv⟩:=h2 v hll
   have:=fun c=>QbH (P:=P) (w:=w) (code:=c) hv hlk
   simp [Instr.sliceBounds,this]
 | some v1 =>
  obtain ⟨k1,hv1⟩:=h1 v1 hh
  have b1:=fun c=>QbH (P:=P) (w:=w) (code:=c) hv1 hkc
  cases hll : lo' with
  | none=>simp [Instr.sliceBounds,hl0 hll,b1]
  | some v =>
   obtain ⟨kk,hv⟩:=h2 v hll
   have:=fun c=>QbH (P:=P) (w:=w) (code:=c) hv hlk
   simp [Instr.sliceBounds,this,b1]

theorem Qnd {isS : Bool} {len cap : Nat} {lo : Option AV} {hi mx : AV} {lo' : Option Value} {hi' mx' : Value} {l k m : Nat} (hl : QaL 0 lo = some l) (hk : asNat hi = some k) (hm : asNat mx = some m)
  (hlo : OptR (VR g) lo lo') (hhi : VR g hi hi') (hmx : VR g mx mx')
  (hlk : l ≤ k) (hkm : k ≤ m) (hmc : m ≤ cap) : (Instr.sliceBounds isS len cap lo' (some hi') (some mx')).run P w = .ok (l,k,m) w:=by
 obtain ⟨k1,h1⟩:=Qbu hk hhi
 obtain ⟨k2,h2⟩:=Qbu hm hmx
 have b1:=fun c=>QbH (P:=P) (w:=w) (code:=c) h1 hkm
 have b2:=fun c=>QbH (P:=P) (w:=w) (code:=c) h2 hmc
 cases lo' with
 | none =>
  have : l = 0:=by
   cases lo with
   | none=>simp [QaL] at hl; exact hl.symm
   | some x=>exact hlo.elim
  simp [Instr.sliceBounds,this,b1,b2]
 | some v =>
  obtain ⟨kk,hv⟩ : ∃ kk,v = .int kk l:=by
   cases lo with
   | none=>exact hlo.elim
   | some x=>exact Qbu hl hlo
  have:=fun c=>QbH (P:=P) (w:=w) (code:=c) hv hlk
  simp [Instr.sliceBounds,this,b1,b2]
end
end Go.Ab
/-
 Slices, fields, elements: what the operations do.
-/
namespace Go.Ab
open Go Go.RowKit
section
variable {CR : AC → Code → Prop} {B : Nat} {w0 : Anchor} {g g' : Gam} {h h' : AH} {w w' : World} {P : Program}
theorem QlW {t : TypeId} (ht : P.underlying t = some .string) {s : ByteArray} {lo hi : Option AV} {lo' hi' : Option Value} {l k : Nat} (hl : QaL 0 lo = some l) (hk : QaL s.size hi = some k)
  (hlo : OptR (VR g) lo lo') (hhi : OptR (VR g) hi hi') (hlk : l ≤ k) (hks : k ≤ s.size) : (Instr.sliceAt t (.string s) lo' hi' none).run P w = .ok (.string (s.extract l k)) w:=by
 have:=Qfr (P:=P) (w:=w) (isS:=false) hl hk hlo hhi hlk hks
 simp [Instr.sliceAt,Instr.slice,run_underlying ht,this]
theorem boundA_zero {o : Option AV} {n d : Nat} (h : QaL d o = some n) : QaL d o = some n:=h
theorem QdB {t e : TypeId} (ht : P.underlying t = some (.slice e)) {size : Nat} (hs : sizeT P e = some size) {a : Option Addr} {n c : Nat} {lo hi : Option AV} {lo' hi' : Option Value} {l k : Nat}
  (hl : QaL 0 lo = some l) (hk : QaL n hi = some k) (hlo : OptR (VR g) lo lo') (hhi : OptR (VR g) hi hi') (hlk : l ≤ k) (hkc : k ≤ c) :
  (Instr.sliceAt t (.slice a n c) lo' hi' none).run P w = .ok (.slice (if c = l then a else a.map (·.add (l * size))) (k - l) (c - l)) w:=by
 have:=Qfr (P:=P) (w:=w) (isS:=true) hl hk hlo hhi hlk hkc
 simp [Instr.sliceAt,Instr.slice,run_underlying ht,this,run_sizeOf hs]
theorem QdA {t e : TypeId} (ht : P.underlying t = some (.slice e)) {size : Nat} (hs : sizeT P e = some size) {a : Option Addr} {n c : Nat} {lo : Option AV} {hi mx : AV} {lo' : Option Value} {hi' mx' : Value} {l k m : Nat}
  (hl : QaL 0 lo = some l) (hk : asNat hi = some k) (hm : asNat mx = some m) (hlo : OptR (VR g) lo lo') (hhi : VR g hi hi') (hmx : VR g mx mx') (hlk : l ≤ k) (hkm : k ≤ m) (hmc : m ≤ c) :
  (Instr.sliceAt t (.slice a n c) lo' (some hi') (some mx')).run P w = .ok (.slice (if m = l then a else a.map (·.add (l * size))) (k - l) (m - l)) w:=by
 have:=Qnd (P:=P) (w:=w) (isS:=true) (len:=n) hl hk hm hlo hhi hmx hlk hkm hmc
 simp [Instr.sliceAt,Instr.slice,run_underlying ht,this,run_sizeOf hs]
theorem Qp8 {o : Option AV} (h : QaL 0 o = some 0) : QaL 0 o = some 0:=h
theorem VR.vecSub {l : List (List AV)} {v : Value} (hv : VR g (.vec l) v) (i k : Nat) (hik : i ≤ k) (hk : k ≤ l.length) :
  ∃ a c sz,v = .slice (some a) l.length c ∧ l.length ≤ c ∧ (∀ j (h : j < l.length),l[j].length = sz) ∧
   ∀ c' , k - i ≤ c' → (VR g (.vec ((l.drop i).take (k - i))) (.slice (some (a.add (i * sz))) (k - i) c')) ∧ (k - i = 0 → VR g (.vec ((l.drop i).take (k - i))) (.slice (some a) (k - i) c')):=by
 cases hv with
 | vec l vs β o c sz hl hn hz hz' hv hm =>
  have hlen : ((l.drop i).take (k - i)).length = k - i:=by simp; omega
  refine ⟨⟨β,o,none⟩,c,sz,rfl,hn,hz,fun c' hc'=>⟨?_,fun h0=>?_⟩⟩
  ·rw [addr_add]
   have:=VR.vec (g:=g) ((l.drop i).take (k - i)) ((vs.drop i).take (k - i)) β (o + i * sz) c' sz (by simp [hl]) (by rw [hlen]; exact hc')
    (fun j h1=>by simp only [List.getElem_take,List.getElem_drop]; exact hz _ _) (fun j h1=>by simp only [List.getElem_take,List.getElem_drop]; exact hz' _ _)
    (fun j h1 h2 m h3 h4=>by simp only [List.getElem_take,List.getElem_drop] at h3 h4 ⊢; exact hv _ _ _ _ _ _)
    (fun j h2 m h4=>by
     simp only [List.getElem_take,List.getElem_drop] at h4 ⊢
     have:=hm (i + j) (by simp at h2; omega) m h4
     rw [← this]
     congr 1
     rw [Nat.add_mul]; omega)
   rw [hlen] at this
   exact this
  ·have hnil : (l.drop i).take (k - i) = []:=by rw [h0]; simp
   rw [hnil,h0]
   exact VR.vec (g:=g) [] [] β o c' sz rfl (Nat.zero_le _) (fun j h1=>absurd h1 (by simp)) (fun j h1=>absurd h1 (by simp)) (fun j h1=>absurd h1 (by simp)) (fun j h1=>absurd h1 (by simp))
theorem QnG {t e : TypeId} (ht : P.underlying t = some (.slice e)) {size : Nat} (hs : sizeT P e = some size) {lo hi mx : Option AV} {lo' hi' mx' : Option Value} {x r : AV} {u : Value}
    (hr : QfS size lo hi mx x = some r) (hlo : OptR (VR g) lo lo') (hhi : OptR (VR g) hi hi') (hmx : OptR (VR g) mx mx') (hx : VR g x u) :
    ∃ v, (Instr.sliceAt t u lo' hi' mx').run P w = .ok v w ∧ VR g r v := by
  have hnone : mx = none → mx' = none := fun e => by subst e; cases mx' with | none => rfl | some v => exact hmx.elim
  have hsome : ∀ m, mx = some m → ∃ m', mx' = some m' ∧ VR g m m' := fun m e => by subst e; cases mx' with | none => exact hmx.elim | some v => exact ⟨v, rfl, hmx⟩
  have hhsome : ∀ m, hi = some m → ∃ m', hi' = some m' ∧ VR g m m' := fun m e => by subst e; cases hi' with | none => exact hhi.elim | some v => exact ⟨v, rfl, hhi⟩
  cases hx with
  | sliceC b o n c β base hrho hn =>
    simp only [QfS] at hr
    split at hr
    · rename_i l k h1 h2
      split at hr
      · rename_i hc
        obtain ⟨hlk, hkc⟩ := hc
        have hm' := hnone rfl
        subst hm'
        have hrun := QdB (P := P) (w := w) ht hs (a := some ⟨β, base + o, none⟩) h1 h2 hlo hhi hlk hkc
        refine ⟨_, hrun, ?_⟩
        simp only [Option.some.injEq] at hr
        subst hr
        by_cases hcl : c = l
        · rw [if_pos hcl, if_pos hcl]
          have : k - l = 0 := by omega
          rw [this, show c - l = 0 by omega]; exact .empty _
        · rw [if_neg hcl, if_neg hcl]
          simp only [Option.map_some, addr_add, Nat.add_assoc]
          exact .sliceC _ _ _ _ _ _ hrho (by omega)
      · cases hr
    · rename_i l k m h1 h2
      obtain ⟨m', rfl, hmv⟩ := hsome _ rfl
      split at hr
      · rename_i mm hh hm
        obtain ⟨h', rfl, hhv⟩ := hhsome _ rfl
        split at hr
        · rename_i hc
          obtain ⟨hlk, hkm, hmc⟩ := hc
          simp only [QaL] at h2
          have hrun := QdA (P := P) (w := w) ht hs (a := some ⟨β, base + o, none⟩) (n := n) h1 h2 hm hlo hhv hmv hlk hkm hmc
          refine ⟨_, hrun, ?_⟩
          simp only [Option.some.injEq] at hr
          subst hr
          by_cases hcl : mm = l
          · rw [if_pos hcl, if_pos hcl]
            rw [show k - l = 0 by omega, show mm - l = 0 by omega]; exact .empty _
          · rw [if_neg hcl, if_neg hcl]
            simp only [Option.map_some, addr_add, Nat.add_assoc]
            exact .sliceC _ _ _ _ _ _ hrho (by omega)
        · cases hr
      · cases hr
    · cases hr
  | sliceN b o n es c β base a hrho hn ha htop =>
    simp only [QfS] at hr
    split at hr
    · rename_i l k h1 h2
      split at hr
      · rename_i hc
        obtain ⟨hlk, hkc, rfl⟩ := hc
        have hm' := hnone rfl
        subst hm'
        have hrun := QdB (P := P) (w := w) ht hs (a := some a) (c := c) h1 h2 hlo hhi hlk (by omega)
        refine ⟨_, hrun, ?_⟩
        simp only [Option.some.injEq] at hr
        subst hr
        have htop' : o + l * es + (c - l) * es = g.top b := by
          rw [Nat.add_assoc, ← Nat.add_mul, Nat.add_sub_cancel' (by omega)]; exact htop
        by_cases hcl : c = l
        · rw [if_pos hcl]
          exact .sliceN _ _ _ _ _ _ _ _ hrho (by omega) (.inl (by omega)) htop'
        · rw [if_neg hcl]
          simp only [Option.map_some]
          refine .sliceN _ _ _ _ _ _ _ _ hrho (by omega) (.inr ?_) htop'
          rw [ha.resolve_left (by omega), addr_add, Nat.add_assoc]
      · cases hr
    · rename_i l k m h1 h2
      obtain ⟨m', rfl, hmv⟩ := hsome _ rfl
      split at hr
      · rename_i mm hh hm
        obtain ⟨h', rfl, hhv⟩ := hhsome _ rfl
        split at hr
        · rename_i hc
          obtain ⟨hlk, hkm, hmc⟩ := hc
          simp only [QaL] at h2
          have hrun := QdA (P := P) (w := w) ht hs (a := some a) (n := n) (c := c) h1 h2 hm hlo hhv hmv hlk hkm (by omega)
          refine ⟨_, hrun, ?_⟩
          simp only [Option.some.injEq] at hr
          subst hr
          by_cases hcl : mm = l
          · rw [if_pos hcl, if_pos hcl]
            rw [show k - l = 0 by omega, show mm - l = 0 by omega]; exact .empty _
          · rw [if_neg hcl, if_neg hcl]
            simp only [Option.map_some]
            rw [ha.resolve_left (by omega), addr_add, Nat.add_assoc]
            exact .sliceC _ _ _ _ _ _ hrho (by omega)
        · cases hr
      · cases hr
    · cases hr
  | nilslice =>
    simp only [QfS] at hr
    split at hr
    · rename_i h1 h2 h3
      split at hr
      · cases hr
      rename_i hnn
      cases hr
      cases mx with
      | none =>
        have hm' := hnone rfl
        subst hm'
        have hrun := QdB (P := P) (w := w) ht hs (a := none) (n := 0) (c := 0) h1 h2 hlo hhi (Nat.le_refl _) (Nat.le_refl _)
        exact ⟨_, hrun, by simp; exact .nilslice⟩
      | some m =>
        obtain ⟨m', rfl, hmv⟩ := hsome _ rfl
        cases hi with
        | none => simp at hnn
        | some hv =>
          obtain ⟨h', rfl, hhv⟩ := hhsome _ rfl
          simp only [QaL] at h2 h3
          have hrun := QdA (P := P) (w := w) ht hs (a := none) (n := 0) (c := 0) h1 h2 h3 hlo hhv hmv (Nat.le_refl _) (Nat.le_refl _) (Nat.le_refl _)
          exact ⟨_, hrun, by simp; exact .nilslice⟩
    · cases hr
  | empty a =>
    simp only [QfS] at hr
    split at hr
    · rename_i h1 h2 h3
      split at hr
      · cases hr
      rename_i hnn
      cases hr
      cases mx with
      | none =>
        have hm' := hnone rfl
        subst hm'
        have hrun := QdB (P := P) (w := w) ht hs (a := some a) (n := 0) (c := 0) h1 h2 hlo hhi (Nat.le_refl _) (Nat.le_refl _)
        exact ⟨_, hrun, by simp; exact .empty _⟩
      | some m =>
        obtain ⟨m', rfl, hmv⟩ := hsome _ rfl
        cases hi with
        | none => simp at hnn
        | some hv =>
          obtain ⟨h', rfl, hhv⟩ := hhsome _ rfl
          simp only [QaL] at h2 h3
          have hrun := QdA (P := P) (w := w) ht hs (a := some a) (n := 0) (c := 0) h1 h2 h3 hlo hhv hmv (Nat.le_refl _) (Nat.le_refl _) (Nat.le_refl _)
          exact ⟨_, hrun, by simp; exact .empty _⟩
    · cases hr
  | vec l vs β o c sz hl hn hz hz' hv hm =>
    have hx : VR g (.vec l) (.slice (some ⟨β, o, none⟩) l.length c) := .vec l vs β o c sz hl hn hz hz' hv hm
    have hsz : l.all (fun e => e.length == size) = true → ∀ i, i * size = i * sz ∨ l = [] := by
      intro hall i
      cases l with
      | nil => exact .inr rfl
      | cons e l => have := hz 0 (by simp); simp at this; simp [List.all_cons] at hall; left; rw [← this, hall.1]
    simp only [QfS] at hr
    split at hr
    · rename_i i k h1 h2
      split at hr
      · rename_i hc
        obtain ⟨hlk, hkc, hall⟩ := hc
        have hm' := hnone rfl
        subst hm'
        have hrun := QdB (P := P) (w := w) ht hs (a := some ⟨β, o, none⟩) (c := c) h1 h2 hlo hhi hlk (by omega)
        refine ⟨_, hrun, ?_⟩
        cases hr
        obtain ⟨a, c0, sz0, e1, e2, e3, e4⟩ := hx.vecSub i k hlk hkc
        cases e1
        obtain ⟨q1, q2⟩ := e4 (c - i) (by omega)
        by_cases hcl : c = i
        · rw [if_pos hcl]; exact q2 (by omega)
        · rw [if_neg hcl]
          simp only [Option.map_some]
          rcases hsz hall i with e | e
          · have : i * size = i * sz0 := by
              cases l with
              | nil => simp at hkc; have : i = 0 := by omega
                       subst this; simp
              | cons e' l' => have a1 := hz 0 (by simp); have a2 := e3 0 (by simp); rw [e, ← a1, a2]
            rw [this]; exact q1
          · subst e; simp at hkc; subst hkc; have : i = 0 := by omega
            subst this
            simpa [addr_add] using q2 (by simp)
      · cases hr
    · rename_i i k m h1 h2
      obtain ⟨m', rfl, hmv⟩ := hsome _ rfl
      split at hr
      · rename_i mm hh hmm
        obtain ⟨h', rfl, hhv⟩ := hhsome _ rfl
        split at hr
        · rename_i hc
          obtain ⟨hlk, hkm, hmc, hall⟩ := hc
          simp only [QaL] at h2
          have hrun := QdA (P := P) (w := w) ht hs (a := some ⟨β, o, none⟩) (n := l.length) (c := c) h1 h2 hmm hlo hhv hmv hlk hkm (by omega)
          refine ⟨_, hrun, ?_⟩
          simp only [Option.some.injEq] at hr
          subst hr
          obtain ⟨a, c0, sz0, e1, e2, e3, e4⟩ := hx.vecSub i k hlk (by omega)
          cases e1
          obtain ⟨q1, q2⟩ := e4 (mm - i) (by omega)
          by_cases hcl : mm = i
          · rw [if_pos hcl, if_pos hcl, show k - i = 0 by omega, show mm - i = 0 by omega]; exact .empty _
          · rw [if_neg hcl, if_neg hcl]
            simp only [Option.map_some]
            have : i * size = i * sz0 := by
              cases l with
              | nil => simp at hmc; omega
              | cons e' l' =>
                rcases hsz hall i with e | e
                · have a1 := hz 0 (by simp); have a2 := e3 0 (by simp); rw [e, ← a1, a2]
                · cases e
            rw [this]; exact q1
        · cases hr
      · cases hr
    · cases hr
  | _ => simp [QfS] at hr

end
end Go.Ab
/-
 Fields, elements, maps, strings: what the operations do.
-/
namespace Go.Ab
open Go Go.RowKit
section
variable {CR : AC → Code → Prop} {B : Nat} {w0 : Anchor} {g g' : Gam} {h h' : AH} {w w' : World} {P : Program}
theorem VR.iptrDrop {cells : List AV} {u : Value} (hx : VR g (.iptr cells) u) (n : Nat) (hn : n ≤ cells.length) : ∃ a,u = .pointer (some a) ∧ VR g (.iptr (cells.drop n)) (.pointer (some (a.add n))):=by
 cases hx with
 | iptr cells vs β o hl hv hm =>
  refine ⟨_,rfl,?_⟩
  rw [addr_add]
  exact .iptr (cells.drop n) (vs.drop n) β (o + n) (by simp [hl]) (fun i h1 h2=>by simp only [List.getElem_drop]; exact hv _ _ _) (fun i h2=>by
   simp only [List.getElem_drop]
   have:=hm (n + i) (by simp at h2; omega)
   rw [← this,Nat.add_assoc])
theorem QiI {t : TypeId} {fs : Array Field} {i : Nat} {f : Field} (ht : P.underlying t = some (.struct fs)) (hf : fs[i]? = some f) {n : Nat} (hn : sizeT P f.type = some n) (hn0 : n ≠ 0) {x r : AV} {u : Value} (hx : VR g x u)
  (hr : (match (generalizing:=false) x with | .ptr b o=>some (.ptr b (o + f.offset)) | .iptr cells=>if f.offset ≤ cells.length then some (.iptr (cells.drop f.offset)) else none | _=>(none : Option AV)) = some r) :
  ∃ v,(Instr.fieldAt t u i).run P w = .ok v w ∧ VR g r v:=by
 have key : ∀ a,(Instr.fieldAt t (.pointer (some a)) i).run P w = .ok (.pointer (some (a.add f.offset))) w:=by
  intro a
  simp [Instr.fieldAt,run_underlying ht,hf,Instr.sureAddr,fieldPlace,run_sizeOf hn,hn0]
 cases hx with
 | ptr b o β base hr' =>
  cases hr
  exact ⟨_,key _,by rw [addr_add,Nat.add_assoc]; exact .ptr _ _ _ _ hr'⟩
 | iptr cells vs β o hl hv hm =>
  simp only at hr
  split at hr
  ·rename_i hc
   cases hr
   obtain ⟨a,e,hv'⟩:=(VR.iptr cells vs β o hl hv hm).iptrDrop f.offset hc
   cases e
   exact ⟨_,key _,hv'⟩
  ·cases hr
 | _=>simp at hr
theorem Qkq {t : TypeId} {agg : Bool} {size : Nat} (ha : Qev P t = some agg) (hs : sizeT P t = some size) {l : List AV} {vs : Array Value} {off : Nat} {r : AV} (hr : partA agg off size l = some r) (hl : VR g (.agg l) (.agg vs)) :
  ∃ v,(part t vs off).run P w = .ok v w ∧ VR g r v:=by
 obtain ⟨hlen,hval⟩ : l.length = vs.size ∧ ∀ i (h1 : i < l.length) (h2 : i < vs.size),VR g l[i] vs[i]:=by cases hl with | agg _ _ a b=>exact ⟨a,b⟩
 unfold partA at hr
 cases agg with
 | true =>
  simp only [if_true] at hr
  split at hr
  ·rename_i hle
   cases hr
   refine ⟨_,by simp [part,Qcq ha,run_sizeOf hs]; rfl,?_⟩
   refine .agg _ _ (by simp; omega) fun i h1 h2=>?_
   simp only [List.getElem_take,List.getElem_drop,Array.getElem_extract]
   exact hval _ _ _
  ·cases hr
 | false =>
  simp only [Bool.false_eq_true,if_false] at hr
  have hlt : off < l.length:=by
   rcases Nat.lt_or_ge off l.length with h | h
   ·exact h
   ·rw [List.getElem?_eq_none h] at hr; cases hr
  rw [List.getElem?_eq_getElem hlt] at hr
  cases hr
  have hlt' : off < vs.size:=by omega
  exact ⟨vs[off],by simp [part,Qcq ha,hlt'],hval _ _ _⟩
theorem QnK {t : TypeId} {fs : Array Field} {i : Nat} {f : Field} (ht : P.underlying t = some (.struct fs)) (hf : fs[i]? = some f) {agg : Bool} {size : Nat} (ha : Qev P f.type = some agg) (hs : sizeT P f.type = some size)
  {l : List AV} {u : Value} {r : AV} (hr : partA agg f.offset size l = some r) (hx : VR g (.agg l) u) : ∃ v,(Instr.field t u i).run P w = .ok v w ∧ VR g r v:=by
 obtain ⟨vs,rfl⟩ : ∃ vs,u = .agg vs:=by cases hx with | agg _ vs _ _=>exact ⟨vs,rfl⟩
 obtain ⟨v,hrun,hv⟩:=Qkq (w:=w) ha hs hr hx
 exact ⟨v,by simp [Instr.field,run_underlying ht,hf,asAgg,hrun],hv⟩
theorem QiH {t e : TypeId} {size : Nat} (ht : P.underlying t = some (.slice e)) (hs : sizeT P e = some size) {x i r : AV} {u ui : Value} (hr : Qew size x i = some r) (hx : VR g x u) (hi : VR g i ui) :
  ∃ v,(Instr.indexAt t u ui).run P w = .ok v w ∧ VR g r v:=by
 unfold Qew at hr
 split at hr
 ·cases hr
 ·rename_i n hn
  obtain ⟨k,rfl⟩:=Qbu hn hi
  have key : ∀ (a : Addr) (m c : Nat),n < m → (Instr.indexAt t (.slice (some a) m c) (.int k n)).run P w = .ok (.pointer (some (a.add (n * size)))) w:=by
   intro a m c hlt
   have : (n : Int) < m:=by omega
   simp [Instr.indexAt,asIntOf,run_underlying ht,this,run_sizeOf hs]
   intro hc; omega
  cases hx with
  | sliceC b o m c β base hrho hmc =>
   simp only at hr
   split at hr
   ·rename_i hlt; cases hr; exact ⟨_,key _ _ _ hlt,by rw [addr_add,Nat.add_assoc]; exact .ptr _ _ _ _ hrho⟩
   ·cases hr
  | sliceN b o m es c β base a hrho hmc ha htop =>
   simp only at hr
   split at hr
   ·rename_i hlt; cases hr; exact ⟨_,key _ _ _ hlt,by rw [ha.resolve_left (by omega),addr_add,Nat.add_assoc]; exact .ptr _ _ _ _ hrho⟩
   ·cases hr
  | vec l vs β o c sz hl hn' hz hz' hv hm =>
   simp only at hr
   split at hr
   ·rename_i e' he'
    split at hr
    ·rename_i hlen
     cases hr
     have hlt : n < l.length:=by
      rcases Nat.lt_or_ge n l.length with h | h
      ·exact h
      ·rw [List.getElem?_eq_none h] at he'; cases he'
     rw [List.getElem?_eq_getElem hlt] at he'
     cases he'
     have hsz : sz = size:=by rw [← hz n hlt,hlen]
     subst hsz
     refine ⟨_,key _ _ _ hlt,?_⟩
     rw [addr_add]
     have hlt' : n < vs.length:=by omega
     exact .iptr l[n] vs[n] β (o + n * sz) (by rw [hz,hz']) (fun j h3 h4=>hv n hlt hlt' j h3 h4) (fun j h4=>hm n hlt' j h4)
    ·cases hr
   ·cases hr
  | _=>simp at hr
theorem Qfe {t e : TypeId} {len size : Nat} (ht : P.underlying t = some (.array len e)) (hs : sizeT P e = some size) {x i r : AV} {u ui : Value} {n : Nat} (hn : asNat i = some n)
  (hr : (match (generalizing:=false) x with | .ptr b o=>if n < len then some (.ptr b (o + n * size)) else none | .iptr cells=>if n < len ∧ n * size ≤ cells.length then some (.iptr (cells.drop (n * size))) else none | _=>(none : Option AV)) = some r)
  (hx : VR g x u) (hi : VR g i ui) : ∃ v,(Instr.indexAt t u ui).run P w = .ok v w ∧ VR g r v:=by
 obtain ⟨k,rfl⟩:=Qbu hn hi
 have key : ∀ a : Addr,n < len → (Instr.indexAt t (.pointer (some a)) (.int k n)).run P w = .ok (.pointer (some (a.add (n * size)))) w:=by
  intro a hlt
  have : (n : Int) < len:=by omega
  simp [Instr.indexAt,asIntOf,run_underlying ht,this,run_sizeOf hs,Instr.sureAddr]
  intro hc; omega
 cases hx with
 | ptr b o β base hrho =>
  simp only at hr
  split at hr
  ·rename_i hlt; cases hr; exact ⟨_,key _ hlt,by rw [addr_add,Nat.add_assoc]; exact .ptr _ _ _ _ hrho⟩
  ·cases hr
 | iptr cells vs β o hl hv hm =>
  simp only at hr
  split at hr
  ·rename_i hc
   cases hr
   obtain ⟨a,e',hv'⟩:=(VR.iptr cells vs β o hl hv hm).iptrDrop (n * size) hc.2
   cases e'
   exact ⟨_,key _ hc.1,hv'⟩
  ·cases hr
 | _=>simp at hr
theorem QjT {t : TypeId} (ht : P.underlying t = some .string) {s : ByteArray} {i : AV} {ui : Value} {n : Nat} (hn : asNat i = some n) {b : UInt8} (hb : s[n]? = some b) (hi : VR g i ui) :
  (Instr.index t (.string s) ui).run P w = .ok (.int .u8 b.toNat) w:=by
 obtain ⟨k,rfl⟩:=Qbu hn hi
 simp [Instr.index,asIntOf,run_underlying ht,hb]
theorem QnJ {t e : TypeId} {len size : Nat} {agg : Bool} (ht : P.underlying t = some (.array len e)) (ha : Qev P e = some agg) (hs : sizeT P e = some size) {l : List AV} {i r : AV} {u ui : Value} {n : Nat} (hn : asNat i = some n) (hlt : n < len)
  (hr : partA agg (n * size) size l = some r) (hx : VR g (.agg l) u) (hi : VR g i ui) : ∃ v,(Instr.index t u ui).run P w = .ok v w ∧ VR g r v:=by
 obtain ⟨k,rfl⟩:=Qbu hn hi
 obtain ⟨vs,rfl⟩ : ∃ vs,u = .agg vs:=by cases hx with | agg _ vs _ _=>exact ⟨vs,rfl⟩
 obtain ⟨v,hrun,hv⟩:=Qkq (w:=w) ha hs hr hx
 have : (n : Int) < len:=by omega
 exact ⟨v,by simp [Instr.index,asIntOf,run_underlying ht,this,run_sizeOf hs,hrun]; intro hc; omega,hv⟩
theorem QjR {t e : TypeId} {len size : Nat} (ht : P.underlying t = some (.array len e)) (hs : sizeT P e = some size) {b o : Nat} {lo hi : Option AV} {lo' hi' : Option Value} {l k : Nat} {u : Value}
  (hl : QaL 0 lo = some l) (hk : QaL len hi = some k) (hlo : OptR (VR g) lo lo') (hhi : OptR (VR g) hi hi') (hlk : l ≤ k) (hkl : k ≤ len) (hx : VR g (.ptr b o) u) :
  ∃ v,(Instr.sliceAt t u lo' hi' none).run P w = .ok v w ∧ VR g (if len = l then .empty else .slice b (o + l * size) (k - l) (len - l)) v:=by
 cases hx with
 | ptr b o β base hrho =>
  have:=Qfr (P:=P) (w:=w) (isS:=false) (cap:=len) hl hk hlo hhi hlk hkl
  refine ⟨_,by simp [Instr.sliceAt,run_underlying ht,Instr.sureAddr,this,run_sizeOf hs]; rfl,?_⟩
  by_cases hcl : len = l
  ·rw [if_pos hcl,if_pos hcl,show k - l = 0 by omega,show len - l = 0 by omega]; exact .empty _
  ·rw [if_neg hcl,if_neg hcl,addr_add,Nat.add_assoc]
   exact .sliceC _ _ _ _ _ _ hrho (by omega)
theorem VRs.map_list {l : List AV} {f : AV → Value} : True:=trivial
theorem Qlq {l : List AV} {i : Nat} {r : AV} {u : Value} (hr : l[i]? = some r) (hx : VR g (.tuple l) u) : ∃ v,(Instr.extract u i).run P w = .ok v w ∧ VR g r v:=by
 cases hx with
 | tuple l vs hl hv =>
  have hlt : i < l.length:=by
   rcases Nat.lt_or_ge i l.length with h | h
   ·exact h
   ·rw [List.getElem?_eq_none h] at hr; cases hr
  rw [List.getElem?_eq_getElem hlt] at hr
  cases hr
  have hlt' : i < vs.size:=by omega
  exact ⟨vs[i],by simp [Instr.extract,hlt'],hv _ _ _⟩
theorem Qhl {t : TypeId} {d : TypeDesc} (ht : P.underlying t = some d) (hni : ∀ m,d ≠ .interface m) {z : AV} {i : TypeInfo} {zv : Value} (hi : P.info? t = some i) (hz : i.zero = some zv) (hzr : VR g z zv) {xt : TypeId} {x r : AV} {u : Value} {ok : Bool} (hx : VR g x u)
  (hr : (match (generalizing:=false) x with | .iface u v=>if u = t then some (if ok then .tuple [v,.bool true] else v) else if ok then some (.tuple [z,.bool false]) else none | .nilIface=>if ok then some (.tuple [z,.bool false]) else none | _=>(none : Option AV)) = some r) :
  ∃ v,(Instr.typeAssert u xt t ok).run P w = .ok v w ∧ VR g r v:=by
 have hd : ∀ (a b : Sem Value) , (match d with | .interface _=>a | _=>b) = b:=by
  intro a b
  cases d <;> first | rfl | exact absurd rfl (hni _)
 cases hx with
 | iface u v v' hv =>
  simp only at hr
  split at hr
  ·rename_i hut
   subst hut
   cases hr
   refine ⟨if ok then .tuple #[v',.bool true] else v',?_,?_⟩
   ·simp only [Instr.typeAssert,Sem.run_bind,run_underlying ht,Result.andThen]
    cases d <;> first | (exact absurd rfl (hni _)) | (cases ok <;> simp)
   ·cases ok
    ·exact hv
    ·exact (VRs.cons hv (VRs.cons (.bool true) (VRs.nil g))).tuple
  ·rename_i hut
   split at hr
   ·rename_i hok
    cases hr
    subst hok
    refine ⟨.tuple #[zv,.bool false],?_,(VRs.cons hzr (VRs.cons (.bool false) (VRs.nil g))).tuple⟩
    simp only [Instr.typeAssert,Sem.run_bind,run_underlying ht,Result.andThen]
    cases d <;> first | (exact absurd rfl (hni _)) | (simp [hut,zeroValue,typeInfo,hi,hz])
   ·cases hr
 | nilIface =>
  simp only at hr
  split at hr
  ·rename_i hok
   cases hr
   subst hok
   refine ⟨.tuple #[zv,.bool false],?_,(VRs.cons hzr (VRs.cons (.bool false) (VRs.nil g))).tuple⟩
   simp only [Instr.typeAssert,Sem.run_bind,run_underlying ht,Result.andThen]
   cases d <;> first | (exact absurd rfl (hni _)) | (simp [zeroValue,typeInfo,hi,hz])
  ·cases hr
 | _=>simp at hr
end
end Go.Ab
/-
 Literals, maps, strings, append, copy: what the operations do.
-/
namespace Go.Ab
open Go Go.RowKit
section
variable {CR : AC → Code → Prop} {B : Nat} {w0 : Anchor} {g g' : Gam} {h h' : AH} {w w' : World} {P : Program}
theorem foldl_set (off : Nat) : ∀ (l : List Value) (k : Nat) (cs : Array Value),off + k + l.length ≤ cs.size →
  ((l.zipIdx k).foldl (fun cs x=>cs.setIfInBounds (off + x.2) x.1) cs).toList = cs.toList.take (off + k) ++ l ++ cs.toList.drop (off + k + l.length)
 | [],k,cs,_=>by simp
 | v :: l,k,cs,h=>by
  simp only [List.zipIdx_cons,List.foldl_cons]
  rw [foldl_set off l (k + 1) (cs.setIfInBounds (off + k) v) (by simp at h ⊢; omega)]
  simp only [Array.toList_setIfInBounds]
  have hlt : off + k < cs.toList.length:=by simp at h ⊢; omega
  apply List.ext_getElem?
  intro i
  have e1 : (List.take (off + (k + 1)) (cs.toList.set (off + k) v)).length = off + k + 1:=by simp at hlt ⊢; omega
  have e2 : (List.take (off + k) cs.toList).length = off + k:=by simp at hlt ⊢; omega
  rw [List.append_assoc,List.append_assoc]
  by_cases h1 : i < off + k
  ·rw [List.getElem?_append_left (by omega),List.getElem?_append_left (by omega),List.getElem?_take,List.getElem?_take,if_pos (by omega),if_pos h1,List.getElem?_set_ne (by omega)]
  ·by_cases h2 : i = off + k
   ·subst h2
    rw [List.getElem?_append_left (by omega),List.getElem?_append_right (by omega),List.getElem?_take,if_pos (by omega),List.getElem?_set_self hlt,e2]
    simp
   ·rw [List.getElem?_append_right (by omega : (List.take (off + (k + 1)) (cs.toList.set (off + k) v)).length ≤ i),List.getElem?_append_right (by omega : (List.take (off + k) cs.toList).length ≤ i),e1,e2]
    have : i - (off + k) = (i - (off + k + 1)) + 1:=by omega
    rw [this,List.cons_append,List.getElem?_cons_succ]
    by_cases h3 : i - (off + k + 1) < l.length
    ·rw [List.getElem?_append_left h3,List.getElem?_append_left h3]
    ·rw [List.getElem?_append_right (by omega),List.getElem?_append_right (by omega),List.getElem?_drop,List.getElem?_drop,List.getElem?_set_ne (by simp at h3 ⊢; omega)]
     congr 1
     simp; omega
theorem Qgf {place : Nat → Option (Nat × Nat)} : ∀ (parts : List (Nat × Value)) (aparts : List (Nat × Nat × AV)) (cells l : List AV) (cs : Array Value),VRs g cells cs.toList → fillA cells aparts = some l →
  aparts.length = parts.length → (∀ i (h1 : i < aparts.length) (h2 : i < parts.length),place parts[i].1 = some (aparts[i].1,aparts[i].2.1) ∧ VR g aparts[i].2.2 parts[i].2) →
  ∃ vs : Array Value,Instr.fill place cs parts = some vs ∧ VRs g l vs.toList
 | [],[],cells,l,cs,hc,hf,_,_=>by cases hf; exact ⟨cs,rfl,hc⟩
 | [],_ :: _,_,_,_,_,_,hl,_=>by simp at hl
 | _ :: _,[],_,_,_,_,_,hl,_=>by simp at hl
 | (i,v) :: parts,(off,size,a) :: aparts,cells,l,cs,hc,hf,hl,hp=>by
  obtain ⟨hpl,hv⟩:=hp 0 (by simp) (by simp)
  simp only [List.getElem_cons_zero] at hpl hv
  simp only [fillA] at hf
  split at hf
  ·rename_i hcond
   obtain ⟨hk,hs,hle⟩:=hcond
   have hvc:=hv.cells hk
   have hvl : v.cells.size = size:=by have:=hvc.len; simp at this; omega
   have hcl : cells.length = cs.size:=by have:=hc.len; simpa using this
   obtain ⟨vs,h1,h2⟩:=Qgf (place:=place) parts aparts (splice cells off a.cells) l (v.cells.zipIdx.foldl (fun cs x=>cs.setIfInBounds (off + x.2) x.1) cs)
    (by
     have e : v.cells.zipIdx.foldl (fun cs x=>cs.setIfInBounds (off + x.2) x.1) cs = (v.cells.toList.zipIdx 0).foldl (fun cs x=>cs.setIfInBounds (off + x.2) x.1) cs:=by
      rw [← Array.foldl_toList]; simp
     rw [e,foldl_set off v.cells.toList 0 cs (by simp; omega)]
     exact hc.splice hvc) hf (by simpa using hl) (fun j h1 h2=>hp (j + 1) (Nat.succ_lt_succ h1) (Nat.succ_lt_succ h2))
   refine ⟨vs,?_,h2⟩
   simp only [Instr.fill,hpl]
   rw [if_neg]
   ·exact h1
   ·simp [hvl]; omega
  ·cases hf
theorem Qhm (H : HR CR B w0 g h w) {t e : TypeId} (ht : P.underlying t = some (.slice e)) {i : TypeInfo} {z : Value} (hi : P.info? e = some i) (hz : i.zero = some z) {zl : List AV} (hzl : VRs g zl z.cells.toList) (hsz : zl.length = i.size)
  {len : Nat} (hlen : len * i.size ≤ 16777216) {parts : Array (Nat × Value)} {aparts : List (Nat × Nat × AV)} {l : List AV}
  (hf : fillA ((List.range (len * zl.length)).map fun i=>zl.getD (i % zl.length) .undef) aparts = some l) (hl : aparts.length = parts.toList.length)
  (hp : ∀ j (h1 : j < aparts.length) (h2 : j < parts.toList.length),some (parts.toList[j].1 * i.size,i.size) = some (aparts[j].1,aparts[j].2.1) ∧ VR g aparts[j].2.2 parts.toList[j].2) :
  Gives CR B w0 g (.slice h.next 0 len len) (h.alloc (.cells l none 0 [])) ((Instr.buildSlice t len parts).run P w):=by
 have hzs : z.cells.size = i.size:=by have:=hzl.len; simp at this; omega
 have hcells : VRs g ((List.range (len * zl.length)).map fun i=>zl.getD (i % zl.length) .undef) ((Array.range (len * i.size)).map (z.cells[· % z.cells.size]!)).toList:=by
  rw [hsz]
  refine ⟨by simp,fun j h1 h2=>?_⟩
  simp only [List.getElem_map,List.getElem_range,Array.toList_map,Array.toList_range]
  have hj : j < len * i.size:=by simpa using h1
  have hpos : 0 < i.size:=by
   rcases Nat.eq_zero_or_pos i.size with h0 | h0
   ·rw [h0] at hj; omega
   ·exact h0
  have hm : j % i.size < i.size:=Nat.mod_lt _ hpos
  rw [hzs,List.getD_eq_getElem?_getD,List.getElem?_eq_getElem (by omega),Option.getD_some,getElem!_pos z.cells (j % i.size) (by omega)]
  have:=hzl.val (j % i.size) (by omega) (by simp; omega)
  simpa using this
 obtain ⟨vs,hfill,hvs⟩:=Qgf (place:=fun j=>some (j * i.size,i.size)) parts.toList aparts _ l _ hcells hf hl hp
 obtain ⟨g',H',hle,hr⟩:=H.row l vs.toList e 0 hvs
 refine ⟨g',w.alloc (.cells vs e),.slice (some ⟨w.heap.size,0,none⟩) len len,?_,by simpa using H',hle,?_⟩
 ·have hbig : ¬ (2 ^ 24 < len * i.size):=by omega
  by_cases h0 : len * i.size = 0
  ·have hfill':=hfill
   have er : Array.range 0 = (#[] : Array Nat):=rfl
   rw [h0,er] at hfill'
   simp only [Array.map_empty] at hfill'
   simp [Instr.buildSlice,run_underlying ht,sizeOf,typeInfo,hi,h0,newRow,er,hfill']
  ·simp [Instr.buildSlice,run_underlying ht,sizeOf,typeInfo,zeroValue,hi,hz,h0,newRow,hfill]
   omega
 ·have:=VR.sliceC (g:=g') h.next 0 len len w.heap.size 0 hr (Nat.le_refl _)
  simpa using this
theorem Qgd (H : HR CR B w0 g h w) : Gives CR B w0 g (.map h.next) (h.alloc (.map [] 0)) (.ok (.map (some w.heap.size)) (w.alloc (.map #[] 0))):=by
 obtain ⟨H',hle⟩:=H.alloc (.map #[] 0) 0 0 (.map [] 0) (.map [] 0 #[] (by show (w.heap.push _)[w.heap.size]? = _; simp) rfl rfl (fun i h1=>absurd h1 (by simp)))
 exact ⟨_,_,_,rfl,H',hle,.map _ _ Gam.bind_rho_same⟩
theorem QiG (H : HR CR B w0 g h w) {t e : TypeId} (ht : P.underlying t = some (.slice e)) {i : TypeInfo} {z : Value} (hi : P.info? e = some i) (hz : i.zero = some z) {zl : List AV} (hzl : VRs g zl z.cells.toList) (hsz : zl.length = i.size)
  {l c : Int} (h0 : 0 ≤ l) (hlc : l ≤ c) (hb : c * i.bytes ≤ 1000000000) (hc : c ≤ 1000000000) :
  Gives CR B w0 g (.slice h.next 0 l.toNat c.toNat) (h.alloc (.cells (List.replicate c.toNat zl).flatten none 0 [])) ((Instr.makeSlice t (.int .i64 l) (.int .i64 c)).run P w):=by
 have hzs : z.cells.size = i.size:=by have:=hzl.len; simp at this; omega
 have hcells : VRs g (List.replicate c.toNat zl).flatten ((Array.range (c.toNat * i.size)).map (z.cells[· % z.cells.size]!)).toList:=by
  have hlen : (List.replicate c.toNat zl).flatten.length = c.toNat * i.size:=by simp [List.length_flatten,hsz]
  refine ⟨by simp [hlen],fun j h1 h2=>?_⟩
  have hj : j < c.toNat * i.size:=by omega
  have hpos : 0 < i.size:=by
   rcases Nat.eq_zero_or_pos i.size with h0 | h0
   ·rw [h0] at hj; omega
   ·exact h0
  have hm : j % i.size < i.size:=Nat.mod_lt _ hpos
  have key : ∀ n j,j < n * zl.length → (List.replicate n zl).flatten[j]? = zl[j % zl.length]?:=by
   intro n
   induction n with
   | zero=>intro j hj; omega
   | succ n ih =>
    intro j hj
    rw [List.replicate_succ,List.flatten_cons]
    by_cases hlt : j < zl.length
    ·rw [List.getElem?_append_left hlt,Nat.mod_eq_of_lt hlt]
    ·rw [List.getElem?_append_right (by omega),ih _ (by rw [Nat.add_mul] at hj; omega)]
     rw [Nat.mod_eq_sub_mod (show zl.length ≤ j by omega)]
  have hk:=key c.toNat j (by rw [hsz]; exact hj)
  rw [List.getElem?_eq_getElem h1,hsz,List.getElem?_eq_getElem (by omega)] at hk
  have hk':=Option.some.inj hk
  rw [hk']
  simp only [Array.toList_map,Array.toList_range,List.getElem_map,List.getElem_range]
  rw [hzs,getElem!_pos z.cells (j % i.size) (by omega)]
  have:=hzl.val (j % i.size) (by omega) (by simp; omega)
  simpa using this
 obtain ⟨g',H',hle,hr⟩:=H.row _ _ e 0 hcells
 refine ⟨g',w.alloc (.cells ((Array.range (c.toNat * i.size)).map (z.cells[· % z.cells.size]!)) e),.slice (some ⟨w.heap.size,0,none⟩) l.toNat c.toNat,?_,by rw [Array.toArray_toList] at H'; exact H',hle,?_⟩
 ·have hw1 : IntKind.i64.wrap l = l:=Go.IntWalk.i64_in l (by omega)
  have hw2 : IntKind.i64.wrap c = c:=Go.IntWalk.i64_in c (by omega)
  have hbi : (i.bytes : Int) * c ≤ 1000000000:=by rw [Int.mul_comm]; exact hb
  have hn1 : ¬ (c < 0):=by omega
  have hn2 : ¬ (281474976710656 < (i.bytes : Int) * c):=by omega
  have hn3 : ¬ (l < 0):=by omega
  have hn4 : ¬ (c < l):=by omega
  by_cases h00 : c.toNat * i.size = 0
  ·have er : Array.range 0 = (#[] : Array Nat):=rfl
   simp [er,Instr.makeSlice,run_underlying ht,asInt,asIntOf,typeInfo,hi,hw1,hw2,hn1,hn2,hn3,hn4,run_askRoom,sizeOf,h00,newRow]
  ·simp [Instr.makeSlice,run_underlying ht,asInt,asIntOf,typeInfo,hi,hw1,hw2,hn1,hn2,hn3,hn4,run_askRoom,sizeOf,h00,newRow,zeroValue,hz]
 ·have:=VR.sliceC (g:=g') h.next 0 l.toNat c.toNat w.heap.size 0 hr (by omega)
  simpa using this
end
end Go.Ab
/-
 Maps, strings, append, copy: what the operations do.
-/
namespace Go.Ab
open Go Go.RowKit
section
variable {CR : AC → Code → Prop} {B : Nat} {w0 : Anchor} {g g' : Gam} {h h' : AH} {w w' : World} {P : Program}

theorem QcO {t : TypeId} {kk : Nat} (hk : QdX P t = some kk) : ∃ d,P.underlying t = some d ∧ ((∃ k,d = .int k ∧ kk = 0) ∨ (d = .string ∧ kk = 1) ∨ (d = .bool ∧ kk = 2)):=by
 unfold QdX at hk
 split at hk
 ·rename_i k h; cases hk; exact ⟨_,h,.inl ⟨k,rfl,rfl⟩⟩
 ·rename_i h; cases hk; exact ⟨_,h,.inr (.inl ⟨rfl,rfl⟩)⟩
 ·rename_i h; cases hk; exact ⟨_,h,.inr (.inr ⟨rfl,rfl⟩)⟩
 ·cases hk
theorem run_checkKey {t : TypeId} {kk : Nat} (hk : QdX P t = some kk) (e : Bool) (v : Value) (hv : ∀ t v',v ≠ .iface t v') (hn : v ≠ .nilIface) : (Instr.checkKey e 10000 t v).run P w = .ok () w:=by
 have key : ∀ n,(Instr.checkKey e (n + 1) t v).run P w = .ok () w:=by
  intro n
  obtain ⟨d,hd,hc⟩:=QcO hk
  rcases hc with ⟨k,rfl,_⟩ | ⟨rfl,_⟩ | ⟨rfl,_⟩ <;> simp [Instr.checkKey,run_underlying hd]
 exact key 9999
theorem QgW {k x : AV} {kk : Nat} {b : Bool} (hk : k.keyKind = some kk) (hs : sameKey k x = some b) {kv xv : Value} (hkv : VR g k kv) (hxv : VR g x xv) {d : TypeDesc}
  (hd : (∃ k,d = .int k ∧ kk = 0) ∨ (d = .string ∧ kk = 1) ∨ (d = .bool ∧ kk = 2)) : Instr.sameNow d kv xv = some b:=by
 unfold sameKey at hs
 split at hs
 ·cases hkv; cases hxv
  cases hk
  rcases hd with ⟨k,rfl,_⟩ | ⟨rfl,h⟩ | ⟨rfl,h⟩
  ·simpa [Instr.sameNow] using hs
  ·cases h
  ·cases h
 ·cases hkv; cases hxv
  cases hk
  rcases hd with ⟨k,rfl,h⟩ | ⟨rfl,h⟩ | ⟨rfl,h⟩
  ·cases h
  ·simp only [Option.some.injEq] at hs
   simp only [Instr.sameNow]
   rw [bsOf_beq (by assumption) (by assumption),hs]
  ·cases h
 ·cases hkv; cases hxv
  cases hk
  rcases hd with ⟨k,rfl,h⟩ | ⟨rfl,h⟩ | ⟨rfl,h⟩
  ·cases h
  ·cases h
  ·simpa [Instr.sameNow] using hs
 ·cases hs

theorem Qct {k : AV} {kk : Nat} (hk : k.keyKind = some kk) {kv : Value} (hkv : VR g k kv) {d : TypeDesc} (hd : (∃ k,d = .int k ∧ kk = 0) ∨ (d = .string ∧ kk = 1) ∨ (d = .bool ∧ kk = 2)) :
  ∀ (es : List (AV × AV × Nat)) (entries : List MapEntry) (i : Nat) (r : Option (Nat × AV)),es.length = entries.length → (∀ j (h1 : j < es.length) (h2 : j < entries.length),EntR g es[j] entries[j]) → findA k es i = some r →
   (r = none ∧ Instr.findNow d kv entries i = some none) ∨ (∃ j v v',r = some (i + j,v) ∧ Instr.findNow d kv entries i = some (some (i + j,v')) ∧ VR g v v' ∧ j < es.length ∧ ∃ (h : j < entries.length),entries[j].val = v' ∧ Instr.sameNow d kv entries[j].key = some true)
 | [],[],i,r,_,_,hf=>by cases hf; exact .inl ⟨rfl,rfl⟩
 | [],_ :: _,_,_,hl,_,_=>by simp at hl
 | _ :: _,[],_,_,hl,_,_=>by simp at hl
 | (x,v,n) :: es,e :: entries,i,r,hl,he,hf=>by
  have h0:=he 0 (by simp) (by simp)
  simp only [findA] at hf
  split at hf
  ·rename_i hs
   cases hf
   have:=QgW hk hs hkv h0.key hd
   refine .inr ⟨0,v,e.val,rfl,?_,h0.val,by simp,by simp,rfl,this⟩
   simp only [List.getElem_cons_zero] at this
   simp [Instr.findNow,this]
  ·rename_i hs
   have:=QgW hk hs hkv h0.key hd
   simp only [List.getElem_cons_zero] at this
   rcases Qct hk hkv hd es entries (i + 1) r (by simpa using hl) (fun j h1 h2=>he (j + 1) (Nat.succ_lt_succ h1) (Nat.succ_lt_succ h2)) hf with ⟨h1,h2⟩ | ⟨j,v,v',h1,h2,h3,h4,h5,h6,h7⟩
   ·exact .inl ⟨h1,by simp [Instr.findNow,this,h2]⟩
   ·refine .inr ⟨j + 1,v,v',by rw [h1]; congr 2; omega,?_,h3,by simp; omega,by simp; omega,h6,h7⟩
    simp only [Instr.findNow,this,h2]
    congr 3; omega
  ·cases hf
theorem Qfu {k : AV} {kk : Nat} {kv : Value} (hk : k.keyKind = some kk) (hkv : VR g k kv) : (∀ t v',kv ≠ .iface t v') ∧ kv ≠ .nilIface:=by
 cases hkv <;> simp_all [AV.keyKind]
structure MapT (P : Program) (t kt e : TypeId) (kk : Nat) : Prop where
 und : P.underlying t = some (.map kt e)
 key : QdX P kt = some kk
theorem Qmy (H : HR CR B w0 g h w) {t kt e : TypeId} {kk : Nat} (T : MapT P t kt e kk) {i : TypeInfo} {zv : Value} (hi : P.info? e = some i) (hz : i.zero = some zv) {z : AV} (hzr : VR g z zv) {m k r : AV} {um uk : Value} {ok : Bool}
  (hk : k.keyKind = some kk) (hm : VR g m um) (hkv : VR g k uk)
  (hr : (match (generalizing:=false) m with
   | .nilmap=>some (if ok then .tuple [z,.bool false] else z)
   | .map b=>match (generalizing:=false) h.get b with
    | some (.map es _)=>match (generalizing:=false) findA k es 0 with
     | some (some (_,v))=>some (if ok then .tuple [v,.bool true] else v)
     | some none=>some (if ok then .tuple [z,.bool false] else z)
     | none=>none
    | _=>none
   | _=>(none : Option AV)) = some r) : ∃ v,(Instr.lookup t um uk ok).run P w = .ok v w ∧ VR g r v:=by
 obtain ⟨hk1,hk2⟩:=Qfu hk hkv
 have hck:=fun b=>run_checkKey (w:=w) T.key b uk hk1 hk2
 obtain ⟨d,hd,hdc⟩:=QcO T.key
 have hzero : ∀ r : AV,r = (if ok then .tuple [z,.bool false] else z) → VR g r (if ok then .tuple #[zv,.bool false] else zv):=by
  intro r hr
  subst hr
  cases ok
  ·exact hzr
  ·exact (VRs.cons hzr (VRs.cons (.bool false) (VRs.nil g))).tuple
 cases hm with
 | nilmap =>
  simp only [Option.some.injEq] at hr
  refine ⟨_,?_,hzero r hr.symm⟩
  cases ok <;> simp [Instr.lookup,run_underlying T.und,hck,Instr.findKey,run_underlying hd,Instr.findNow,zeroValue,typeInfo,hi,hz]
 | map b β hrho =>
  simp only at hr
  split at hr
  ·rename_i es clock hget
   have hobj:=H.obj b β 0 _ hrho hget
   cases hobj with
   | map es clock entries hw hb hl he =>
    split at hr
    ·rename_i n v hf
     cases hr
     rcases Qct hk hkv hdc es entries.toList 0 _ (by simpa using hl) (fun j h1 h2=>by simpa using he j h1 (by simpa using h2)) hf with ⟨h1,_⟩ | ⟨j,v1,v',h1,h2,h3,_⟩
     ·cases h1
     ·cases h1
      refine ⟨if ok then .tuple #[v',.bool true] else v',?_,?_⟩
      ·cases ok <;> simp [Instr.lookup,run_underlying T.und,getObj,Sem.run,hw,hck,Instr.findKey,run_underlying hd,h2]
      ·cases ok
       ·exact h3
       ·exact (VRs.cons h3 (VRs.cons (.bool true) (VRs.nil g))).tuple
    ·rename_i hf
     cases hr
     rcases Qct hk hkv hdc es entries.toList 0 _ (by simpa using hl) (fun j h1 h2=>by simpa using he j h1 (by simpa using h2)) hf with ⟨_,h2⟩ | ⟨j,v1,v',h1,_⟩
     ·refine ⟨_,?_,hzero _ rfl⟩
      cases ok <;> simp [Instr.lookup,run_underlying T.und,getObj,Sem.run,hw,hck,Instr.findKey,run_underlying hd,h2,zeroValue,typeInfo,hi,hz]
     ·cases h1
    ·cases hr
  ·cases hr
 | _=>simp at hr
theorem QcR {β : Nat} {entries : Array MapEntry} {clock : Nat} (hw : w.heap[β]? = some (.map entries clock)) : (getObj β).run P w = .ok (.map entries clock) w:=by
 simp [getObj,Sem.run,hw]
theorem QdC {β : Nat} {entries : Array MapEntry} {clock : Nat} (hw : w.heap[β]? = some (.map entries clock)) (o : Obj) : (setObj β o).run P w = .ok () { w with heap:=w.heap.setIfInBounds β o }:=by
 simp [setObj,Sem.run,hw]
theorem HR.setMap (H : HR CR B w0 g h w) {b β : Nat} (hrho : g.rho b = some (β,0)) {es es' : List (AV × AV × Nat)} {clock clock' : Nat} (hget : h.get b = some (.map es clock)) {entries entries' : Array MapEntry}
  (hw : w.heap[β]? = some (.map entries clock)) (hl : es'.length = entries'.size) (he : ∀ i (h1 : i < es'.length) (h2 : i < entries'.size),EntR g es'[i] entries'[i]) :
  HR CR B w0 g (h.put b (.map es' clock')) { w with heap:=w.heap.setIfInBounds β (.map entries' clock') }:=by
 refine H.setObj hrho hget (by simp) (by simp) _ _ (.map es' clock' entries' ?_ rfl hl he)
 have hlt : β < w.heap.size:=H.lt b _ hrho
 simp [hlt]
theorem QlU {d : TypeDesc} {kk : Nat} (hd : (∃ k,d = .int k ∧ kk = 0) ∨ (d = .string ∧ kk = 1) ∨ (d = .bool ∧ kk = 2)) {a b : Value} (h : Instr.sameNow d a b = some true) (n : Nat) : Instr.sameBits n b a = true:=by
 unfold Instr.sameNow at h
 split at h
 ·split at h
  ·rename_i hk; subst hk; simp at h; subst h; simp [Instr.sameBits]
  ·cases h
 ·rename_i a b
  have h' : (a == b) = true:=Option.some.inj h
  have e:=(Go.MapKept.bytes_beq a b).1 h'
  subst e
  cases n <;> exact h'
 ·simp at h; subst h; simp [Instr.sameBits]
 ·cases h
theorem QiF (H : HR CR B w0 g h w) {t kt e : TypeId} {kk : Nat} (T : MapT P t kt e kk) {m k x : AV} {um uk ux : Value} (hk : k.keyKind = some kk) (hm : VR g m um) (hkv : VR g k uk) (hxv : VR g x ux)
  (hr : (match (generalizing:=false) m with
   | .map b=>match (generalizing:=false) h.get b with
    | some (.map es clock)=>match (generalizing:=false) findA k es 0 with
     | some (some (i,_))=>some (h.put b (.map (es.modify i fun e=>(k,x,e.2.2)) clock))
     | some none=>some (h.put b (.map (es ++ [(k,x,clock)]) (clock + 1)))
     | none=>none
    | _=>none
   | _=>none) = some h') : ∃ w',(Instr.mapUpdate t um uk ux).run P w = .ok () w' ∧ HR CR B w0 g h' w':=by
 obtain ⟨hk1,hk2⟩:=Qfu hk hkv
 have hck:=fun b=>run_checkKey (w:=w) T.key b uk hk1 hk2
 obtain ⟨d,hd,hdc⟩:=QcO T.key
 have hks : k.keyKind.isSome = true:=by rw [hk]; rfl
 cases hm with
 | map b β hrho =>
  simp only at hr
  split at hr
  ·rename_i es clock hget
   have hobj:=H.obj b β 0 _ hrho hget
   cases hobj with
   | map es clock entries hw hb hl he =>
    split at hr
    ·rename_i n v hf
     cases hr
     rcases Qct hk hkv hdc es entries.toList 0 _ (by simpa using hl) (fun j h1 h2=>by simpa using he j h1 (by simpa using h2)) hf with ⟨h1,_⟩ | ⟨j,v1,v',h1,h2,h3,h4,h5,h6,h7⟩
     ·cases h1
     ·simp only [Nat.zero_add] at h1 h2
      cases h1
      have hj : n < entries.size:=by simpa using h5
      have hkey : (entries[n]?.map (·.key)).getD uk = entries[n].key:=by simp [hj]
      have hsame : Instr.sameBits 10000 entries[n].key uk = true:=QlU hdc (by simpa using h7) 10000
      have hstay : (Instr.keyThatStays ((entries[n]?.map (·.key)).getD uk) uk).run P w = .ok uk w:=by
       rw [hkey]; unfold Instr.keyThatStays; rw [if_pos hsame]; rfl
      refine ⟨{ w with heap:=w.heap.setIfInBounds β (.map (entries.modify n fun e=>{ e with key:=uk,val:=ux }) clock) },?_,?_⟩
      ·simp only [Instr.mapUpdate,Sem.run_bind,run_underlying T.und,Result.andThen,QcR hw,hck,Instr.findKey,run_underlying hd,h2]
       simp [hstay,QdC hw]
      ·refine H.setMap hrho hget hw (by simp [hl]) (fun i h1 h2=>?_)
       have hi : i < es.length:=by simpa using h1
       have hi' : i < entries.size:=by simpa using h2
       have ho:=he i hi hi'
       by_cases hin : n = i
       ·subst hin
        simp only [List.getElem_modify,Array.getElem_modify,if_true]
        exact ⟨hkv,hxv,ho.born,hks⟩
       ·simp only [List.getElem_modify,Array.getElem_modify,if_neg hin]
        exact ho
    ·rename_i hf
     cases hr
     rcases Qct hk hkv hdc es entries.toList 0 _ (by simpa using hl) (fun j h1 h2=>by simpa using he j h1 (by simpa using h2)) hf with ⟨_,h2⟩ | ⟨j,v1,v',h1,_⟩
     ·refine ⟨{ w with heap:=w.heap.setIfInBounds β (.map (entries.push { key:=uk,val:=ux,born:=clock }) (clock + 1)) },?_,?_⟩
      ·simp only [Instr.mapUpdate,Sem.run_bind,run_underlying T.und,Result.andThen,QcR hw,hck,Instr.findKey,run_underlying hd,h2]
       simp [QdC hw]
      ·refine H.setMap hrho hget hw (by simp [hl]) (fun i h1 h2=>?_)
       by_cases hin : i < es.length
       ·rw [List.getElem_append_left hin,Array.getElem_push_lt (by omega)]
        exact he i hin (by omega)
       ·have : i = es.length:=by simp at h1; omega
        subst this
        rw [List.getElem_append_right (by omega)]
        simp only [hl,Array.getElem_push_eq,Nat.sub_self,List.getElem_cons_zero]
        exact ⟨hkv,hxv,rfl,hks⟩
     ·cases h1
    ·cases hr
  ·cases hr
 | _=>simp at hr
theorem Qmz (H : HR CR B w0 g h w) {t kt e ty u2 : TypeId} {kk : Nat} (T : MapT P t kt e kk) {m k : AV} {um uk : Value} (hk : k.keyKind = some kk) (hm : VR g m um) (hkv : VR g k uk)
  (hr : (match (generalizing:=false) m with
   | .nilmap=>some h
   | .map b=>match (generalizing:=false) h.get b with
    | some (.map es clock)=>match (generalizing:=false) findA k es 0 with
     | some (some (i,_))=>some (h.put b (.map (es.eraseIdx i) clock))
     | some none=>some h
     | none=>none
    | _=>none
   | _=>none) = some h') : ∃ w',(Builtin.delete_ #[t,u2] ty #[um,uk]).run P w = .ok (.tuple #[]) w' ∧ HR CR B w0 g h' w':=by
 obtain ⟨hk1,hk2⟩:=Qfu hk hkv
 have hck:=fun b=>run_checkKey (w:=w) T.key b uk hk1 hk2
 obtain ⟨d,hd,hdc⟩:=QcO T.key
 cases hm with
 | nilmap =>
  cases hr
  exact ⟨w,by simp [Builtin.delete_,run_underlying T.und,hck],H⟩
 | map b β hrho =>
  simp only at hr
  split at hr
  ·rename_i es clock hget
   have hobj:=H.obj b β 0 _ hrho hget
   cases hobj with
   | map es clock entries hw hb hl he =>
    split at hr
    ·rename_i n v hf
     cases hr
     rcases Qct hk hkv hdc es entries.toList 0 _ (by simpa using hl) (fun j h1 h2=>by simpa using he j h1 (by simpa using h2)) hf with ⟨h1,_⟩ | ⟨j,v1,v',h1,h2,h3,h4,h5,h6,h7⟩
     ·cases h1
     ·simp only [Nat.zero_add] at h1 h2
      cases h1
      have hj : n < entries.size:=by simpa using h5
      refine ⟨{ w with heap:=w.heap.setIfInBounds β (.map (entries.eraseIdxIfInBounds n) clock) },?_,?_⟩
      ·simp only [Builtin.delete_,Sem.run_bind,run_underlying T.und,Result.andThen]
       simp [run_underlying T.und,QcR hw,hck,Instr.findKey,run_underlying hd,h2,QdC hw]
      ·have hsz : (entries.eraseIdxIfInBounds n).size = entries.size - 1:=by simp [Array.eraseIdxIfInBounds,hj]
       refine H.setMap hrho hget hw (by rw [hsz,List.length_eraseIdx,if_pos h4,hl]) (fun i h1 h2=>?_)
       have e1 : ∀ (h2 : i < (entries.eraseIdxIfInBounds n).size),(entries.eraseIdxIfInBounds n)[i] = (entries.toList.eraseIdx n)[i]'(by simp [List.length_eraseIdx,hj]; omega):=by
        intro h2
        simp only [Array.eraseIdxIfInBounds,hj,dif_pos]
        rw [← Array.getElem_toList]
        simp
       rw [e1 h2,List.getElem_eraseIdx,List.getElem_eraseIdx]
       have hi : i < es.length - 1:=by rw [List.length_eraseIdx] at h1; simp [h4] at h1; omega
       split
       ·simpa using he i (by omega) (by omega)
       ·simpa using he (i + 1) (by omega) (by omega)
    ·rename_i hf
     cases hr
     rcases Qct hk hkv hdc es entries.toList 0 _ (by simpa using hl) (fun j h1 h2=>by simpa using he j h1 (by simpa using h2)) hf with ⟨_,h2⟩ | ⟨j,v1,v',h1,_⟩
     ·have hself : ({ w with heap:=w.heap.setIfInBounds β (.map entries clock) } : World) = w:=by
       have : w.heap.setIfInBounds β (.map entries clock) = w.heap:=by
        apply Array.ext_getElem?
        intro i
        simp only [Array.getElem?_setIfInBounds]
        split
        ·rename_i hi; subst hi; split
         ·exact hw.symm
         ·rename_i hlt; rw [Array.getElem?_eq_none (by omega)]
        ·rfl
       rw [this]
      refine ⟨w,?_,H⟩
      simp only [Builtin.delete_,Sem.run_bind,run_underlying T.und,Result.andThen]
      simp [run_underlying T.und,QcR hw,hck,Instr.findKey,run_underlying hd,h2,QdC hw,hself]
     ·cases h1
    ·cases hr
  ·cases hr
 | _=>simp at hr
theorem QjU (H : HR CR B w0 g h w) {t ty kt e : TypeId} (ht : P.underlying t = some (.map kt e)) {m : AV} {um : Value} (hm : VR g m um)
  (hr : (match (generalizing:=false) m with | .nilmap=>some h | .map b=>(match (generalizing:=false) h.get b with | some (.map _ clock)=>some (h.put b (.map [] clock)) | _=>none) | _=>none) = some h') :
  ∃ w',(Builtin.clear_ #[t] ty #[um]).run P w = .ok (.tuple #[]) w' ∧ HR CR B w0 g h' w':=by
 cases hm with
 | nilmap =>
  cases hr
  exact ⟨w,by simp [Builtin.clear_,run_underlying ht],H⟩
 | map b β hrho =>
  simp only at hr
  split at hr
  ·rename_i es clock hget
   cases hr
   have hobj:=H.obj b β 0 _ hrho hget
   cases hobj with
   | map es clock entries hw hb hl he =>
    refine ⟨{ w with heap:=w.heap.setIfInBounds β (.map #[] clock) },by simp [Builtin.clear_,run_underlying ht,QcR hw,QdC hw],?_⟩
    exact H.setMap hrho hget hw rfl (fun i h1=>absurd h1 (by simp))
  ·cases hr
 | _=>simp at hr
theorem QjS (H : HR CR B w0 g h w) {t : TypeId} (ht : P.underlying t = some .string) (n s : Nat) :
  Gives CR B w0 g (.ptr h.next 0) (h.alloc (.iter n s 0)) ((Instr.range t (.string (bsOf n s))).run P w):=by
 obtain ⟨H',hle⟩:=H.alloc (.stringIter (bsOf n s) 0) 0 0 (.iter n s 0) (.iter n s 0 (by show (w.heap.push _)[w.heap.size]? = _; simp) rfl)
 exact ⟨_,w.alloc (.stringIter (bsOf n s) 0),.pointer (some ⟨w.heap.size,0,none⟩),by simp only [Instr.range,Sem.run_bind,run_underlying ht,Result.andThen]; rfl,H',hle,by
  have:=VR.ptr (g:=g.bind h.next w.heap.size 0 0 0) h.next 0 w.heap.size 0 Gam.bind_rho_same
  simpa using this⟩
theorem decode_ascii {n s pos : Nat} (hp : pos < n) (hb : byteN s pos < 128) : Utf8.decode (bsOf n s) pos = (byteN s pos,1):=by
 have h1:=bsOf_get? (n:=n) (b:=s) hp
 have h2 : (bsOf n s).get! pos = UInt8.ofNat (byteN s pos):=by
  have hs : pos < (bsOf n s).size:=by rw [Qbh]; exact hp
  rw [getElem?_pos (bsOf n s) pos hs,Option.some.injEq] at h1
  rw [← h1]
  show (bsOf n s).data[pos]! = (bsOf n s).data[pos]'hs
  exact getElem!_pos (bsOf n s).data pos hs
 have h3 : (UInt8.ofNat (byteN s pos)).toNat = byteN s pos:=by rw [Qa0]; exact Nat.mod_eq_of_lt (QlD _ _)
 unfold Utf8.decode
 simp only [Nat.add_zero,h2,h3]
 rw [if_pos hb]
theorem Qlp (H : HR CR B w0 g h w) {ty : TypeId} {b : Nat} {u : Value} (hx : VR g (.ptr b 0) u) {n s pos : Nat} (hget : h.get b = some (.iter n s pos)) :
  (pos < n → byteN s pos < 128 → ∃ w',(Instr.next u true ty).run P w = .ok (.tuple #[.bool true,.int .i64 pos,.int .i32 (byteN s pos)]) w' ∧ HR CR B w0 g (h.put b (.iter n s (pos + 1))) w') ∧
  (¬ pos < n → (Instr.next u true ty).run P w = .ok (.tuple #[.bool false]) w):=by
 cases hx with
 | ptr b o β base hrho =>
  have hobj:=H.obj b β base _ hrho hget
  cases hobj with
  | iter n s pos hw hb =>
   subst hb
   refine ⟨fun hlt h128=>?_,fun hge=>?_⟩
   ·have hdec:=decode_ascii hlt h128
    refine ⟨{ w with heap:=w.heap.setIfInBounds β (.stringIter (bsOf n s) (pos + 1)) },?_,?_⟩
    ·simp [Instr.next,getObj,setObj,Sem.run,hw,hlt,goInt,Qbh,hdec]
    ·refine H.setObj hrho hget (by simp) (by simp) _ _ (.iter n s _ ?_ rfl)
     have hl:=H.lt b _ hrho
     simp at hl
     simp [hl]
   ·simp [Instr.next,getObj,Sem.run,hw,hge,Qbh]
theorem Qmj {v : AV} {n : Nat} {u : Value} (hl : lenA v = some n) (hv : VR g v u) : (∃ a c,u = .slice a n c) ∨ (u = .map none ∧ n = 0) ∨ (∃ s,u = .string s ∧ s.size = n):=by
 cases hv with
 | nilslice=>cases hl; exact .inl ⟨_,_,rfl⟩
 | empty a=>cases hl; exact .inl ⟨_,_,rfl⟩
 | sliceC b o n c β base h hn=>cases hl; exact .inl ⟨_,_,rfl⟩
 | sliceN b o n es c β base a h hn ha ht=>cases hl; exact .inl ⟨_,_,rfl⟩
 | vec l vs β o c sz hl' hn hz hz' hv hm=>cases hl; exact .inl ⟨_,_,rfl⟩
 | nilmap=>cases hl; exact .inr (.inl ⟨rfl,rfl⟩)
 | str n b hb=>cases hl; exact .inr (.inr ⟨_,rfl,Qbh _ _⟩)
 | _=>simp [lenA] at hl
theorem Qji (H : HR CR B w0 g h w) {size n : Nat} {x : AV} {xs : List AV} {u : Value} (he : Qbj h size n x = some xs) (hx : VR g x u) :
    ∃ us : List Value, VRs g xs us ∧ (∀ W : World, (∀ a, W.cell? a = w.cell? a) → (Builtin.firstCells size n u).run P W = .ok us.toArray W) ∧ (n = 0 → us = []) := by
  cases hx with
  | nilslice => simp only [Qbj] at he; split at he
                · cases he; exact ⟨[], VRs.nil g, fun W _ => by simp [Builtin.firstCells], fun _ => rfl⟩
                · cases he
  | empty a => simp only [Qbj] at he; split at he
               · rename_i h0; cases he; subst h0; exact ⟨[], VRs.nil g, fun W _ => by simp [Builtin.firstCells, loadCells, loadCellsFrom], fun _ => rfl⟩
               · cases he
  | sliceC b o m c β base hr hn =>
    simp only [Qbj] at he
    split at he
    · obtain ⟨vs, h1, h2, h3⟩ := H.read hr he
      refine ⟨vs, h1, fun W hW => ?_, fun h0 => by subst h0; simpa using h2⟩
      simp only [Builtin.firstCells]
      rw [← h2]
      exact run_loadCells_list (P := P) W _ vs (fun j v hj => by rw [addr_add, hW]; exact h3 j v hj)
    · cases he
  | sliceN b o m es c β base a hr hn ha ht =>
    simp only [Qbj] at he
    split at he
    · rename_i hnm
      obtain ⟨vs, h1, h2, h3⟩ := H.read hr he
      refine ⟨vs, h1, fun W hW => ?_, fun h0 => by subst h0; simpa using h2⟩
      simp only [Builtin.firstCells]
      rw [← h2]
      refine run_loadCells_list (P := P) W _ vs (fun j v hj => ?_)
      have hj' : j < vs.length := by
        rcases Nat.lt_or_ge j vs.length with hlt | hge
        · exact hlt
        · rw [List.getElem?_eq_none hge] at hj; cases hj
      have hn0 : n ≠ 0 := fun e => by rw [e] at h2; omega
      rw [ha.resolve_left (by omega), addr_add, hW]
      exact h3 j v hj
    · cases he
  | vec l vs β o c sz hl hn hz hz' hv hm =>
    simp only [Qbj] at he
    split at he
    · rename_i hc
      obtain ⟨hnl, hall⟩ := hc
      cases he
      have hsz : n ≠ 0 → sz = size := by
        intro h0
        cases l with
        | nil => simp at hnl; exact absurd hnl h0
        | cons e l =>
          have h1 := hz 0 (by simp)
          obtain ⟨k, rfl⟩ := Nat.exists_eq_succ_of_ne_zero h0
          simp at hall h1
          rw [← h1]; exact hall.1
      have hflat : ∀ (k : Nat) (l : List (List AV)) (vs : List (List Value)), l.length = vs.length → (∀ i (h1 : i < l.length) (h2 : i < vs.length), VRs g l[i] vs[i]) → VRs g (l.take k).flatten (vs.take k).flatten := by
        intro k
        induction k with
        | zero => intro l vs _ _; simpa using VRs.nil g
        | succ k ih =>
          intro l vs hl hh
          cases l with
          | nil => cases vs with | nil => simpa using VRs.nil g | cons => simp at hl
          | cons a l => cases vs with
            | nil => simp at hl
            | cons b vs =>
              simp only [List.take_succ_cons, List.flatten_cons]
              exact (hh 0 (by simp) (by simp)).append (ih l vs (by simpa using hl) (fun i h1 h2 => hh (i + 1) (Nat.succ_lt_succ h1) (Nat.succ_lt_succ h2)))
      have hrows : ∀ i (h1 : i < l.length) (h2 : i < vs.length), VRs g l[i] vs[i] := fun i h1 h2 => ⟨by rw [hz, hz'], fun j h3 h4 => hv i h1 h2 j h3 h4⟩
      have hF := hflat n l vs hl hrows
      have hlen : ∀ (k : Nat) (vs : List (List Value)), (∀ i (h1 : i < vs.length), vs[i].length = sz) → k ≤ vs.length → (vs.take k).flatten.length = k * sz := by
        intro k
        induction k with
        | zero => intro vs _ _; simp
        | succ k ih =>
          intro vs hz hk
          cases vs with
          | nil => simp at hk
          | cons b vs =>
            simp only [List.take_succ_cons, List.flatten_cons, List.length_append]
            rw [ih vs (fun i h1 => hz (i + 1) (Nat.succ_lt_succ h1)) (by simpa using hk), Nat.succ_mul]
            have := hz 0 (by simp)
            simp at this
            omega
      have hget : ∀ (k : Nat) (vs : List (List Value)) (o : Nat), (∀ i (h1 : i < vs.length), vs[i].length = sz) → k ≤ vs.length → (∀ i (h2 : i < vs.length) j (h4 : j < vs[i].length), g.mem β (o + i * sz + j) = some vs[i][j]) →
          ∀ j v, (vs.take k).flatten[j]? = some v → g.mem β (o + j) = some v := by
        intro k
        induction k with
        | zero => intro vs o _ _ _ j v hj; simp at hj
        | succ k ih =>
          intro vs o hz hk hm j v hj
          cases vs with
          | nil => simp at hk
          | cons b vs =>
            simp only [List.take_succ_cons, List.flatten_cons] at hj
            have hb : b.length = sz := by have := hz 0 (by simp); simpa using this
            by_cases hlt : j < b.length
            · rw [List.getElem?_append_left hlt, List.getElem?_eq_getElem hlt] at hj
              cases hj
              have := hm 0 (by simp) j (by simpa using hlt)
              simpa using this
            · rw [List.getElem?_append_right (by omega)] at hj
              have := ih vs (o + sz) (fun i h1 => hz (i + 1) (Nat.succ_lt_succ h1)) (by simpa using hk) (fun i h2 j h4 => by
                have := hm (i + 1) (Nat.succ_lt_succ h2) j h4
                rw [← show o + (i + 1) * sz + j = o + sz + i * sz + j by rw [Nat.succ_mul]; omega]
                exact this) (j - b.length) v hj
              rw [← this]; congr 1; omega
      refine ⟨_, hF, fun W hW => ?_, fun h0 => by subst h0; simp⟩
      simp only [Builtin.firstCells]
      have hl2 := hlen n vs hz' (by omega)
      have hns : n * size = (vs.take n).flatten.length := by
        by_cases h0 : n = 0
        · subst h0; simp
        · rw [hl2, hsz h0]
      rw [hns]
      exact run_loadCells_list (P := P) W _ _ (fun j v hj => by
        rw [addr_add, hW]
        exact H.mem _ _ _ (hget n vs o hz' (by omega) hm j v hj))
    · cases he
  | str m b hb =>
    simp only [Qbj] at he
    split at he
    · rename_i h1
      obtain ⟨h1, hnm⟩ := h1
      cases he
      subst h1
      have hbytes : ∀ k c, VRs g (Qa8 k c) ((QaH k c).map fun x => .int .u8 x.toNat) := by
        intro k
        induction k with
        | zero => intro c; exact VRs.nil g
        | succ k ih =>
          intro c
          simp only [Qa8, QaH, List.map_cons]
          refine .cons ?_ (ih _)
          rw [Qa0]
          exact .int _ _
      refine ⟨(QaH n b).map fun x => .int .u8 x.toNat, hbytes n b, fun W _ => by
        simp only [Builtin.firstCells, Sem.run_pure]
        congr 1
        apply Array.ext'
        simp [Qbt, ← List.map_take, QfJ _ _ _ hnm], fun h0 => by subst h0; simp [QaH]⟩
    · cases he
  | _ => simp [Qbj] at he

end
end Go.Ab
/-
 exec is sound: an abstract operation does what the operation does.
-/
namespace Go.Ab
open Go Go.RowKit
section
variable {CR : AC → Code → Prop} {B : Nat} {w0 : Anchor} {g g' : Gam} {h h' : AH} {w w' : World} {P : Program} {G : Nat → Option (List AV)}
theorem QhH {n : Nat} (ih : ∀ v a,toAV n v = some a → ∀ g,VR g a v) : ∀ (l : List Value) (m : List AV),l.mapM (toAV n) = some m → ∀ g,VRs g m l
 | [],m,h,g=>by simp at h; subst h; exact VRs.nil g
 | v :: l,m,h,g=>by
  simp only [List.mapM_cons,Option.bind_eq_bind,Option.bind_eq_some_iff,Option.pure_def,Option.some.injEq] at h
  obtain ⟨a,ha,m',hm,rfl⟩:=h
  exact .cons (ih v a ha g) (QhH ih l m' hm g)
theorem QhG : ∀ (n : Nat) (v : Value) (a : AV),toAV n v = some a → ∀ g,VR g a v:=by
  intro n
  induction n with
  | zero =>
    intro v a h g
    unfold toAV at h
    split at h <;> first | (cases h; constructor; done) | (cases h; exact VR.ofString _ _) | (cases h; done) | skip
    all_goals
      first
        | (split at h
           · rename_i hc
             cases h
             simp at hc
             obtain ⟨rfl,rfl⟩:=hc
             exact .func _ [] [] #[] #[] rfl rfl (fun i h1=>absurd h1 (by simp)) (fun i h1=>absurd h1 (by simp))
           · cases h)
        | (exfalso; omega)
  | succ n ih =>
    intro v a h g
    unfold toAV at h
    split at h <;> first | (cases h; constructor; done) | (cases h; exact VR.ofString _ _) | (cases h; done) | skip
    · split at h
      · rename_i hc
        cases h
        simp at hc
        obtain ⟨rfl,rfl⟩:=hc
        exact .func _ [] [] #[] #[] rfl rfl (fun i h1=>absurd h1 (by simp)) (fun i h1=>absurd h1 (by simp))
      · cases h
    · rename_i m t v hnm
      cases hnm
      obtain ⟨a',ha,rfl⟩:=Option.map_eq_some_iff.1 h
      exact .iface _ _ _ (ih _ _ ha g)
    · rename_i m cs hnm
      cases hnm
      obtain ⟨a',ha,rfl⟩:=Option.map_eq_some_iff.1 h
      have:=(QhH ih _ _ ha g).agg
      simpa using this
    · rename_i m cs hnm
      cases hnm
      obtain ⟨a',ha,rfl⟩:=Option.map_eq_some_iff.1 h
      have:=(QhH ih _ _ ha g).tuple
      simpa using this
theorem Qdu {t : TypeId} {a : AV} (h : zeroT P t = some a) : ∃ i z,P.info? t = some i ∧ i.zero = some z ∧ ∀ g,VR g a z:=by
 unfold zeroT at h
 cases hi : P.info? t with
 | none=>simp [hi] at h
 | some i =>
  simp only [hi,Option.bind_some] at h
  cases hz : i.zero with
  | none=>simp [hz] at h
  | some z=>simp only [hz,Option.bind_some] at h; exact ⟨i,z,rfl,hz,fun g=>QhG 4 z a h g⟩
theorem Qpj : ∀ (n : Nat) (v : Value) (a : AV),toAV n v = some a → a.known = true:=by
 intro n v a h
 cases a with
 | undef =>
  exfalso
  unfold toAV at h
  split at h
  all_goals first | (cases h; done) | (split at h <;> cases h; done) | skip
  all_goals (rw [Option.map_eq_some_iff] at h; obtain ⟨_,_,hh⟩:=h; cases hh)
 | _=>rfl
theorem QbL {t : TypeId} {l : List AV} (h : Qch P t = some l) : ∃ i z,P.info? t = some i ∧ i.zero = some z ∧ l.length = i.size ∧ ∀ g,VRs g l z.cells.toList:=by
 unfold Qch at h
 split at h
 ·rename_i a n ha hn
  split at h
  ·rename_i hl
   cases h
   obtain ⟨i,z,hi,hz,hv⟩:=Qdu ha
   obtain ⟨i',hi',rfl⟩:=QeN hn
   rw [hi] at hi'
   cases hi'
   refine ⟨i,z,hi,hz,hl,fun g=>(hv g).cells ?_⟩
   unfold zeroT at ha
   simp only [hi,Option.bind_some,hz] at ha
   exact Qpj 4 z a ha
  ·cases h
 ·cases h

def Done (CR : AC → Code → Prop) (B : Nat) (w0 : Anchor) (g : Gam) (r : AV) (h' : AH) (res : Result Next) : Prop :=
 ∃ g' w' v,(res = .ok (.value v) w' ∨ (res = .ok .skip w' ∧ v = undef)) ∧ HR CR B w0 g' h' w' ∧ g.le g' ∧ VR g' r v
theorem Done.of_gives {r : AV} {res : Result Value} (hg : Gives CR B w0 g r h' res) {x : Result Next} (hx : ∀ v w',res = .ok v w' → x = .ok (.value v) w') : Done CR B w0 g r h' x:=by
 obtain ⟨g',w',v,h1,h2,h3,h4⟩:=hg
 exact ⟨g',w',v,.inl (hx v w' h1),h2,h3,h4⟩
theorem Done.value (H : HR CR B w0 g h w) {r : AV} {v : Value} (hv : VR g r v) {x : Result Next} (hx : x = .ok (.value v) w) : Done CR B w0 g r h x:=⟨g,w,v,.inl hx,H,g.le_refl,hv⟩
theorem Done.skip (H : HR CR B w0 g h' w') {x : Result Next} (hx : x = .ok .skip w') : Done CR B w0 g .undef h' x:=⟨g,w',undef,.inr ⟨hx,rfl⟩,H,g.le_refl,.undef _⟩
theorem Qby {ev : AOpd → AV} {ρ : Operand → Value} (hev : ∀ x ax,Qag G x = some ax → VR g (ev ax) (ρ x)) {o : Option Operand} {a : Option AOpd} (h : Qea G o = some a) : OptR (VR g) (a.map ev) (o.map ρ):=by
 cases o with
 | none=>cases h; trivial
 | some x =>
  simp only [Qea,Option.map_eq_some_iff] at h
  obtain ⟨ax,hax,rfl⟩:=h
  exact hev x ax hax
theorem QbD {ev : AOpd → AV} {ρ : Operand → Value} (hev : ∀ x ax,Qag G x = some ax → VR g (ev ax) (ρ x)) : ∀ (l : List Operand) (m : List AOpd),l.mapM (Qag G) = some m → VRs g (m.map ev) (l.map ρ)
 | [],m,h=>by simp at h; subst h; exact VRs.nil g
 | x :: l,m,h=>by
  simp only [List.mapM_cons,Option.bind_eq_bind,Option.bind_eq_some_iff,Option.pure_def,Option.some.injEq] at h
  obtain ⟨a,ha,m',hm,rfl⟩:=h
  exact .cons (hev x a ha) (QbD hev l m' hm)
theorem partsT_spec {ev : AOpd → AV} {ρ : Operand → Value} (hev : ∀ x ax,Qag G x = some ax → VR g (ev ax) (ρ x)) {place : Nat → Option (Nat × Nat)} :
  ∀ (l : List (Nat × Operand)) (m : List (Nat × Nat × AOpd)),(l.mapM fun (i,x)=>match place i,Qag G x with | some (o,s),some x=>some (o,s,x) | _,_=>none) = some m →
   m.length = l.length ∧ ∀ i (h1 : i < m.length) (h2 : i < l.length),place l[i].1 = some (m[i].1,m[i].2.1) ∧ VR g (ev m[i].2.2) (ρ l[i].2)
 | [],m,h=>by simp at h; subst h; exact ⟨rfl,fun i h1=>absurd h1 (by simp)⟩
 | (j,x) :: l,m,h=>by
  simp only [List.mapM_cons,Option.bind_eq_bind,Option.bind_eq_some_iff,Option.pure_def,Option.some.injEq] at h
  obtain ⟨a,ha,m',hm,rfl⟩:=h
  obtain ⟨h1,h2⟩:=partsT_spec hev l m' hm
  refine ⟨by simp [h1],fun i hi1 hi2=>?_⟩
  cases i with
  | zero =>
   simp only [List.getElem_cons_zero]
   split at ha
   ·rename_i o s ax hp hx
    cases ha
    exact ⟨hp,hev x ax hx⟩
   ·cases ha
  | succ i=>exact h2 i (by simpa using hi1) (by simpa using hi2)
theorem partsT_spec' {ev : AOpd → AV} {ρ : Operand → Value} (hev : ∀ x ax,Qag G x = some ax → VR g (ev ax) (ρ x)) {place : Nat → Option (Nat × Nat)} {parts : Array (Nat × Operand)} {m : List (Nat × Nat × AOpd)}
  (h : Qh4 G place parts = some m) : m.length = parts.toList.length ∧ ∀ i (h1 : i < m.length) (h2 : i < parts.toList.length),place parts.toList[i].1 = some (m[i].1,m[i].2.1) ∧ VR g (ev m[i].2.2) (ρ parts.toList[i].2) :=
 partsT_spec hev parts.toList m h
end
end Go.Ab
/-
 exec is sound, operation by operation.
-/
namespace Go.Ab
open Go Go.RowKit
section
variable {CR : AC → Code → Prop} {B : Nat} {w0 : Anchor} {g g' : Gam} {h h' : AH} {w w' : World} {P : Program} {G : Nat → Option (List AV)}
theorem Qib (mx : Bool) : ∀ (rest : List AV) (us : List Value) (v r : AV) (u : Value),VR g v u → VRs g rest us → QkX mx v rest = some r →
  ∃ x,(us.foldlM (if mx then Builtin.max2 else Builtin.min2) u).run P w = .ok x w ∧ VR g r x
 | [],[],v,r,u,hv,_,hr=>by cases hr; exact ⟨u,by simp,hv⟩
 | [],_ :: _,_,_,_,_,hl,_=>by have:=hl.len; simp at this
 | _ :: _,[],_,_,_,_,hl,_=>by have:=hl.len; simp at this
 | y :: rest,u2 :: us,v,r,u,hv,hl,hr=>by
  unfold QkX at hr
  split at hr
  ·simp at *
  ·rename_i j a k b rest' heq
   cases heq
   split at hr
   ·rename_i hjk
    subst hjk
    cases hv
    have h2:=hl.head
    cases h2
    obtain ⟨x,hx,hxr⟩:=Qib mx rest us _ r _ (.int j (if mx then (if b > a then b else a) else (if b < a then b else a))) hl.tail hr
    refine ⟨x,?_,hxr⟩
    cases mx <;> simp_all [Builtin.max2,Builtin.min2]
   ·cases hr
  ·cases hr
theorem run_len {k : Nat} {x : AV} {n : Nat} {u : Value} {t ty : TypeId} (H : HR CR B w0 g h w) (hl : lenK h k x = some n) (hx : VR g x u)
  (ht : (k = 0 ∧ P.underlying t = some .string) ∨ (k = 1 ∧ ∃ e,P.underlying t = some (.slice e)) ∨ (k = 2 ∧ ∃ a e,P.underlying t = some (.map a e))) : (Builtin.len_ #[t] ty #[u]).run P w = .ok (goInt n) w:=by
 rcases ht with ⟨rfl,ht⟩ | ⟨rfl,e,ht⟩ | ⟨rfl,a,e,ht⟩
 ·cases hx <;> simp only [lenK,reduceCtorEq,Option.some.injEq] at hl
  subst hl
  simp [Builtin.len_,run_underlying ht,Qbh]
 ·cases hx <;> simp only [lenK,reduceCtorEq,Option.some.injEq] at hl
  all_goals (subst hl; simp [Builtin.len_,run_underlying ht])
 ·cases hx <;> simp only [lenK,reduceCtorEq,Option.some.injEq] at hl
  ·subst hl; simp [Builtin.len_,run_underlying ht]
  ·rename_i b β hrho
   split at hl
   ·rename_i es clock hget
    cases hl
    have hobj:=H.obj b β 0 _ hrho hget
    cases hobj with
    | map es clock entries hw hb hl he=>simp [Builtin.len_,run_underlying ht,QcR hw,hl]
   ·cases hl
theorem QmA (H : HR CR B w0 g h w) {t u ty e : TypeId} {s x r : AV} {us ux : Value} {i : TypeInfo} {z : Value} {zl : List AV} (ht : P.underlying t = some (.slice e)) (hu : ∀ k,P.underlying u ≠ some (.int k)) (hu' : (P.underlying u).isSome = true)
  (hi : P.info? e = some i) (hz : i.zero = some z) (hzl : zl.length = i.size) (hzr : VRs g zl z.cells.toList) {n : Nat} {xs : List AV} (hn : lenA x = some n) (hx : Qbj h i.size n x = some xs) (ha : QbV i.size i.bytes (2 * e) h n xs s = some (r,h'))
  (hs : VR g s us) (hxv : VR g x ux) : Gives CR B w0 g r h' ((Builtin.append_ #[t,u] ty #[us,ux]).run P w):=by
 obtain ⟨vs,hvs,hrun,h0⟩:=Qji (P:=P) H hx hxv
 have hlen : ∀ W,(Builtin.lenOf ux).run P W = .ok n W:=by
  intro W
  rcases Qmj hn hxv with ⟨a,c,rfl⟩ | ⟨rfl,rfl⟩ | ⟨s,rfl,rfl⟩
  ·rfl
  ·cases hxv with
   | nilmap=>simp [Qbj] at hx
   | _=>simp [Qbj] at hx
  ·rfl
 have hzs : z.cells.size = i.size:=by have:=hzr.len; simp at this; omega
 obtain ⟨g',w',r',h1,h2,h3,h4⟩:=H.append (ty:=ty) (sT:=t) (xT:=u) (elem:=e) (x:=ux) (us:=vs) (fun W hW=>⟨ht,hu,hu',⟨i,hi,rfl,rfl,z,hz,hzs⟩,hlen W,hrun W hW⟩) ha hs hvs h0
 exact ⟨g',w',r',h1,h2,h3,h4⟩
theorem QpR (H : HR CR B w0 g h w) {t u ty e : TypeId} {size : Nat} (ht : P.underlying t = some (.slice e)) (hs : sizeT P e = some size) {d s r : AV} {ud us : Value} {n m : Nat} (hn : lenA s = some n) (hm : lenA d = some m) {xs : List AV}
  (hx : Qbj h size (min n m) s = some xs)
  (hr : (match (generalizing:=false) d with | .slice b o _ _ | .slop b o _ _=>(h.store b o xs).map fun h'=>(AV.int .i64 (min n m : Nat),h') | .nilslice | .empty=>some (.int .i64 0,h) | _=>none) = some (r,h')) (hd : VR g d ud) (hsv : VR g s us) :
  ∃ w',(Builtin.copy_ #[t,u] ty #[ud,us]).run P w = .ok (goInt (min n m : Nat)) w' ∧ HR CR B w0 g h' w' ∧ VR g r (goInt (min n m : Nat)):=by
 obtain ⟨vs,hvs,hrun,h0⟩:=Qji (P:=P) H hx hsv
 have hrun':=hrun w (fun _=>rfl)
 have hlen : (Builtin.lenOf us).run P w = .ok n w:=by
  rcases Qmj hn hsv with ⟨a,c,rfl⟩ | ⟨rfl,rfl⟩ | ⟨s,rfl,rfl⟩
  ·rfl
  ·cases hsv with
   | nilmap=>simp [Qbj] at hx
   | _=>simp [Qbj] at hx
  ·rfl
 have hmin : ∀ a b : Nat,Nat.min a b = min a b:=fun _ _=>rfl
 cases hd with
 | nilslice =>
  cases hm
  simp only [Option.some.injEq,Prod.mk.injEq] at hr
  obtain ⟨rfl,rfl⟩:=hr
  have hv0:=h0 (by simp)
  subst hv0
  simp only [Nat.min_zero] at hrun' ⊢
  exact ⟨w,by simp [Builtin.copy_,run_underlying ht,hlen,run_sizeOf hs,hrun'],H,.int _ _⟩
 | empty a =>
  cases hm
  simp only [Option.some.injEq,Prod.mk.injEq] at hr
  obtain ⟨rfl,rfl⟩:=hr
  have hv0:=h0 (by simp)
  subst hv0
  simp only [Nat.min_zero] at hrun' ⊢
  exact ⟨w,by simp [Builtin.copy_,run_underlying ht,hlen,run_sizeOf hs,hrun',storeCells],H,.int _ _⟩
 | sliceC b o m' c β base hrho hmc =>
  cases hm
  obtain ⟨h1,hst,heq⟩:=Option.map_eq_some_iff.1 hr
  simp only [Prod.mk.injEq] at heq
  obtain ⟨rfl,rfl⟩:=heq
  obtain ⟨w',hw',H'⟩:=H.store (P:=P) hrho hst hvs
  exact ⟨w',by simp [Builtin.copy_,run_underlying ht,hlen,run_sizeOf hs,hrun',hmin,hw'],H',.int _ _⟩
 | sliceN b o m' es c β base a hrho hmc ha htop =>
  cases hm
  obtain ⟨h1,hst,heq⟩:=Option.map_eq_some_iff.1 hr
  simp only [Prod.mk.injEq] at heq
  obtain ⟨rfl,rfl⟩:=heq
  obtain ⟨w',hw',H'⟩:=H.store (P:=P) hrho hst hvs
  rcases ha with rfl | rfl
  ·have : m = 0:=by omega
   subst this
   have hv0:=h0 (by simp)
   subst hv0
   have e : w' = w:=by
    have : (storeCells ⟨β,base + o,none⟩ ([] : List Value) 0).run P w = .ok () w:=rfl
    rw [this] at hw'
    cases hw'; rfl
   subst e
   refine ⟨w',?_,H',.int _ _⟩
   simp only [Nat.min_zero] at hrun' ⊢
   simp [Builtin.copy_,run_underlying ht,hlen,run_sizeOf hs,hrun',storeCells]
  ·exact ⟨w',by simp [Builtin.copy_,run_underlying ht,hlen,run_sizeOf hs,hrun',hmin,hw'],H',.int _ _⟩
 | _=>first | (simp [lenA] at hm; done) | simp at hr
theorem Qhd : ∀ (n : Nat) (z : Array Value),(Builtin.zeroCells z n).toList = (List.replicate n z.toList).flatten:=by
 intro n z
 induction n with
 | zero=>simp [Builtin.zeroCells]
 | succ n ih =>
  rw [List.replicate_succ',List.flatten_append,← ih]
  apply List.ext_getElem
  ·simp [Builtin.zeroCells,Nat.succ_mul]
  ·intro j h1 h2
   simp only [Builtin.zeroCells,Array.toList_map,Array.toList_range,List.getElem_map,List.getElem_range,List.flatten_cons,List.flatten_nil,List.append_nil,List.getElem_append,List.length_map,List.length_range]
   split
   ·rfl
   ·rename_i hj
    have h3 : j < (n + 1) * z.size:=by simpa [Builtin.zeroCells] using h1
    have hj' : n * z.size ≤ j:=Nat.le_of_not_lt hj
    have h4 : j - n * z.size < z.size:=by rw [Nat.succ_mul] at h3; omega
    have e : j % z.size = j - n * z.size:=by
     have h5:=Nat.sub_mul_mod (x:=j) (k:=n) (n:=z.size) (by rw [Nat.mul_comm]; exact hj')
     rw [← h5,Nat.mul_comm z.size n,Nat.mod_eq_of_lt h4]
    rw [e,getElem!_pos z _ h4]
    simp
theorem VRs.zeros {g : Gam} {l : List AV} {vs : List Value} (h : VRs g l vs) : ∀ n : Nat,VRs g (List.replicate n l).flatten (List.replicate n vs).flatten
 | 0=>VRs.nil g
 | n + 1=>by
  rw [List.replicate_succ,List.replicate_succ,List.flatten_cons,List.flatten_cons]
  exact VRs.append h (VRs.zeros h n)
theorem Qlr (H : HR CR B w0 g h w) {t ty e : TypeId} (ht : P.underlying t = some (.slice e)) {i : TypeInfo} (hi : P.info? e = some i) {zv : Value} (hzv : i.zero = some zv) {z : List AV} (hz : VRs g z zv.cells.toList) {x r : AV} {ux : Value} (hx : VR g x ux)
  (hr : (match (generalizing:=false) x with | .nilslice | .empty=>some (AV.tuple [],h) | .slice b o n _ | .slop b o n _=>if n == 0 then some (.tuple [],h) else (h.store b o (List.replicate n z).flatten).map fun h'=>(.tuple [],h') | _=>none) = some (r,h')) :
  ∃ w',(Builtin.clear_ #[t] ty #[ux]).run P w = .ok (.tuple #[]) w' ∧ HR CR B w0 g h' w' ∧ r = .tuple []:=by
 cases hx with
 | nilslice =>
  cases hr
  exact ⟨w,by simp [Builtin.clear_,run_underlying ht],H,rfl⟩
 | empty a =>
  cases hr
  refine ⟨w,?_,H,rfl⟩
  cases a <;> simp [Builtin.clear_,run_underlying ht]
 | sliceC b o m' c β base hrho hmc =>
  simp only at hr
  split at hr
  ·rename_i h0
   cases hr
   have : m' = 0:=by simpa using h0
   subst this
   exact ⟨w,by simp [Builtin.clear_,run_underlying ht],H,rfl⟩
  ·rename_i h0
   have hne : m' ≠ 0:=by simpa using h0
   obtain ⟨h1,hst,heq⟩:=Option.map_eq_some_iff.1 hr
   simp only [Prod.mk.injEq] at heq
   obtain ⟨rfl,rfl⟩:=heq
   obtain ⟨w',hw',H'⟩:=H.store (P:=P) hrho hst (hz.zeros m')
   rw [← Qhd] at hw'
   refine ⟨w',?_,H',rfl⟩
   cases m' with
   | zero=>exact absurd rfl hne
   | succ m'=>simp [Builtin.clear_,run_underlying ht,zeroValue,typeInfo,hi,hzv,hw']
 | sliceN b o m' es c β base a hrho hmc ha htop =>
  simp only at hr
  split at hr
  ·rename_i h0
   cases hr
   have : m' = 0:=by simpa using h0
   subst this
   refine ⟨w,?_,H,rfl⟩
   cases a <;> simp [Builtin.clear_,run_underlying ht]
  ·rename_i h0
   have hne : m' ≠ 0:=by simpa using h0
   obtain ⟨h1,hst,heq⟩:=Option.map_eq_some_iff.1 hr
   simp only [Prod.mk.injEq] at heq
   obtain ⟨rfl,rfl⟩:=heq
   obtain ⟨w',hw',H'⟩:=H.store (P:=P) hrho hst (hz.zeros m')
   rw [← Qhd] at hw'
   refine ⟨w',?_,H',rfl⟩
   rcases ha with rfl | rfl
   ·have : m' = 0:=by omega
    exact absurd this hne
   ·cases m' with
    | zero=>exact absurd rfl hne
    | succ m'=>simp [Builtin.clear_,run_underlying ht,zeroValue,typeInfo,hi,hzv,hw']
 | _=>simp at hr
theorem QbY {g : Gam} : ∀ {l : List AV} {v : Nat} {us : List Value},numOf l = some v → VRs g l us → ∃ bs : List UInt8,us = bs.map (fun x=>Value.int .u8 x.toNat) ∧ v < 256 ^ bs.length ∧ QaH bs.length v = bs
 | [],v,us,h,hl=>by
  cases h
  have : us = []:=by have:=hl.len; exact List.length_eq_zero_iff.1 this.symm
  exact ⟨[],by rw [this]; rfl,by simp,rfl⟩
 | a :: l,v,us,h,hl=>by
  match us,hl with
  | [],hl=>have:=hl.len; simp at this
  | u :: us,hl =>
   unfold numOf at h
   split at h
   ·rename_i h0; cases h0
   ·rename_i c l' heq
    cases heq
    split at h
    ·rename_i hc
     obtain ⟨b,hb,rfl⟩:=Option.map_eq_some_iff.1 h
     obtain ⟨bs,rfl,h1,h2⟩:=QbY hb hl.tail
     have hu:=hl.head.int_eq
     subst hu
     refine ⟨UInt8.ofNat c :: bs,?_,?_,?_⟩
     ·have e : (UInt8.ofNat c).toNat = c:=by rw [UInt8.toNat_ofNat']; omega
      rw [List.map_cons,e]
      rfl
     ·simp only [List.length_cons,Nat.pow_succ]; omega
     ·simp only [List.length_cons,QaH]
      have e1 : (c + 256 * b) / 256 = b:=by omega
      rw [e1,h2]
      congr 1
      exact QcY (by omega)
    ·cases h
   ·cases h
theorem QiJ (w : World) (a : Addr) (n : Nat) {k : Nat} (h : k ≠ a.block) : (w.freeze a n).heap[k]? = w.heap[k]?:=by
 unfold World.freeze
 split
 ·rfl
 ·simp only [Array.getElem?_modify]
  rw [if_neg (Ne.symm h)]
theorem QnM (w : World) (a : Addr) (n : Nat) : (w.freeze a n).heap.size = w.heap.size:=by
 unfold World.freeze
 split <;> simp
theorem QnN (w : World) (a : Addr) (n : Nat) (b : Addr) : (w.freeze a n).cell? b = w.cell? b:=by
 by_cases hb : b.block = a.block
 ·unfold World.freeze
  split
  ·rfl
  ·unfold World.cell?
   simp only [Array.getElem?_modify,hb,if_true]
   cases w.heap[a.block]? with
   | none=>rfl
   | some o=>cases o <;> rfl
 ·unfold World.cell?
  rw [QiJ w a n hb]

theorem HR.frozenRow (H : HR CR B w0 g h w) {β off n : Nat} (hB : B ≤ β) (hno : ∀ b base o,g.rho b = some (β,base) → h.get b = some o → False) : HR CR B w0 g h (w.freeze ⟨β,off,none⟩ n) :=
 ⟨H.rhoNext,H.getNext,fun b x hx=>by rw [QnM]; exact H.lt b x hx,
  fun b ξ base o hr ho=>(H.obj b ξ base o hr ho).of_block (QiJ w _ n fun e=>by simp only at e; subst e; exact hno b base o hr ho),
  H.sep,fun ξ o v hm=>by rw [QnN]; exact H.mem ξ o v hm,H.memsep,H.low,Lib.below_freeze H.below hB n,H.base,H.held⟩
theorem QpF {e : TypeId} (hc : P.cellsOf e = 1) (count off n : Nat) (hn : off + n ≤ count) : liesAt P P.depth e count off e n = true:=by
 have hd : P.depth = (2 * (P.types.size + Made.depth) + 1) + 1:=rfl
 rw [hd]
 simp only [liesAt,Bool.or_eq_true]
 left
 rw [hd]
 simp [rowAt,hc,hn,sameLayout,Nat.mod_one]
theorem Qcw (pt it ty : TypeId) (p : Option Addr) (k : IntKind) : (Builtin.unsafeString_ #[pt, it] ty #[.pointer p, .int k 0]).run P w = .ok (.string .empty) w := by
  have hmax : IntKind.i64.max = 9223372036854775807 := rfl
  cases p with
  | none =>
    obtain ⟨r1, r2, r3, hdef⟩ : ∃ r1 r2 r3, Builtin.unsafeString_ #[pt, it] ty #[.pointer none, .int k 0] = (do
          let n ← asInt (.int k 0)
          if n < 0 then r1
          if n > IntKind.i64.max then r2
          if n = 0 then pure (.string .empty) else r3) := ⟨_, _, _, rfl⟩
    rw [hdef]
    simp [asInt, asIntOf, hmax]
  | some a =>
    obtain ⟨r1, r2, r3, hdef⟩ : ∃ (r1 r2 : Sem Unit) (r3 : Int → Sem Value), Builtin.unsafeString_ #[pt, it] ty #[.pointer (some a), .int k 0] = (do
          let n ← asInt (.int k 0)
          if n < 0 then r1
          if n > IntKind.i64.max then r2
          if n = 0 then pure (.string .empty) else r3 n) := ⟨_, _, _, rfl⟩
    rw [hdef]
    simp [asInt, asIntOf, hmax]

theorem Qfq {pt it ty e : TypeId} (hp : P.underlying pt = some (.pointer e)) (hc : P.cellsOf e = 1) {β off cells : Nat} {k : IntKind} (hsh : w.shape? β = some (e, cells)) (l : List UInt8) (h0 : l.length ≠ 0) (hn : off + l.length ≤ cells)
    (h63 : l.length < 1000000000000) (hcell : ∀ j x, l[j]? = some x → w.cell? ((⟨β, off, none⟩ : Addr).add j) = some (.int .u8 x.toNat)) :
    (Builtin.unsafeString_ #[pt, it] ty #[.pointer (some ⟨β, off, none⟩), .int k l.length]).run P w = .ok (.string ⟨l.toArray⟩) (w.freeze ⟨β, off, none⟩ l.length) := by
  have hlb := Lib.run_loadBytes (P := P) w l ⟨β, off, none⟩ .empty hcell
  have hlies := QpF (P := P) hc (cells / P.cellsOf e) off l.length (by rw [hc]; simpa using hn)
  have h63' : ¬ (9223372036854775807 : Int) < (l.length : Int) := by omega
  obtain ⟨r1, r2, r3, hdef⟩ : ∃ r1 r2 r3, Builtin.unsafeString_ #[pt, it] ty #[.pointer (some ⟨β, off, none⟩), .int k l.length] = (do
        let n ← asInt (.int k l.length)
        if n < 0 then r1
        if n > IntKind.i64.max then r2
        if n = 0 then pure (.string .empty)
        else if ← variablesAt ⟨β, off, none⟩ (← elemOf pt) n.toNat then do
          let s ← loadBytes ⟨β, off, none⟩ .empty n.toNat
          freeze ⟨β, off, none⟩ n.toNat
          pure (.string s)
        else r3) := ⟨_, _, _, rfl⟩
  rw [hdef]
  have hmax : IntKind.i64.max = 9223372036854775807 := rfl
  have hneg : ¬ (l.length : Int) < 0 := by omega
  have hl : l ≠ [] := fun e => h0 (by rw [e]; rfl)
  simp [asInt, asIntOf, hmax, h63', hneg, hl, variablesAt, hsh, elemOf, run_underlying hp, hlies, hlb]

theorem QiD (H : HR CR B w0 g h w) {pt it ty e : TypeId} (hp : P.underlying pt = some (.pointer e)) (hc : P.cellsOf e = 1) {a z r : AV} {ua uz : Value} (ha : VR g a ua) (hz : VR g z uz)
  (hr : (match (generalizing:=false) asNat z with
   | some m=>match (generalizing:=false) a with
    | .nilptr=>if m = 0 then some (.str 0 0,h) else none
    | .ptr b o=>if m = 0 then some (.str 0 0,h) else if m < 1000000000000 then (match (generalizing:=false) h.get b with
      | some (.cells _ (some t) _ anc)=>if t / 2 = e then (match (generalizing:=false) h.read b o m with
       | some l=>(match (generalizing:=false) numOf l with | some v=>some (.str m v,h.kill (b :: anc)) | none=>none)
       | none=>none) else none
      | _=>none) else none
    | _=>none
   | none=>none) = some (r,h')) :
  Gives CR B w0 g r h' ((Builtin.unsafeString_ #[pt,it] ty #[ua,uz]).run P w):=by
 split at hr
 case h_2=>cases hr
 rename_i m hm
 obtain ⟨k,rfl⟩:=Qbu hm hz
 have hempty : VR g (.str 0 0) (.string .empty):=VR.str 0 0 (by decide)
 cases ha with
 | nilptr =>
  simp only at hr
  split at hr
  ·rename_i h0
   subst h0
   cases hr
   exact ⟨g,w,_,Qcw _ _ _ _ _,H,g.le_refl,hempty⟩
  ·cases hr
 | ptr b o β base hrho =>
  simp only at hr
  split at hr
  ·rename_i h0
   subst h0
   cases hr
   exact ⟨g,w,_,Qcw _ _ _ _ _,H,g.le_refl,hempty⟩
  rename_i hm0
  split at hr
  case isFalse=>cases hr
  rename_i hlt
  split at hr
  case h_2=>cases hr
  rename_i l t pre anc hget
  split at hr
  case isFalse=>cases hr
  rename_i hte
  split at hr
  case h_2=>cases hr
  rename_i l' hrd
  split at hr
  case h_2=>cases hr
  rename_i v hnum
  cases hr
  have hobj:=H.obj b β base _ hrho hget
  obtain ⟨vs,hvs,hvl,hcells⟩:=H.read hrho hrd
  obtain ⟨bs,rfl,hv,hbs⟩:=QbY hnum hvs
  have hbl : bs.length = m:=by simpa using hvl
  subst hbl
  obtain ⟨⟨c,hw⟩,hrow⟩ : (∃ c,w.heap[β]? = some (.cells c (t / 2) (0,0))) ∧ RowR g w β base l (g.top b):=by cases hobj with | cells _ _ _ _ hp _ hes hrow=>exact ⟨(hes _ rfl).1,hrow⟩
  rw [hte] at hw
  have hroom : base + o + bs.length ≤ c.size:=by
   obtain ⟨c',e',q1,q2,q3,_⟩:=hrow
   rw [hw] at q1
   cases q1
   have : o + bs.length ≤ l.length:=by
    unfold AH.read at hrd
    split at hrd
    ·rename_i l2 hl2
     unfold AH.cellsAt at hl2
     rw [hget] at hl2
     simp only [Option.some.injEq] at hl2
     subst hl2
     split at hrd
     ·assumption
     ·cases hrd
    ·cases hrd
   omega
  have hsh : w.shape? β = some (e,c.size):=by simp [World.shape?,hw]
  have hrun:=Qfq (P:=P) (w:=w) (it:=it) (ty:=ty) (k:=k) hp hc hsh bs hm0 hroom hlt (fun j x hj=>by
   rw [addr_add]
   exact hcells j _ (by rw [List.getElem?_map,hj]; rfl))
  refine ⟨g,_,_,hrun,(H.kill (b :: anc)).frozenRow (H.low b β base _ hrho hget) (fun b' base' o' hr' ho'=>?_),g.le_refl,?_⟩
  ·obtain ⟨hn,ho'⟩:=AH.get_kill ho'
   simp only [List.mem_cons,not_or] at hn
   rcases H.sep b b' β base base' _ o' hrho hr' hget ho' (Ne.symm hn.1) with hu | hu | hu
   ·obtain ⟨l1,sp1,pre1,anc1,l2,e1,e2,e3,e4⟩:=hu
    cases e1
    exact hn.2 e3
   ·obtain ⟨l1,sp1,pre1,anc1,l2,e1,e2,e3,e4⟩:=hu
    cases e2
   ·obtain ⟨⟨l2,e⟩,_⟩:=hu
    cases e
  ·have:=VR.str (g:=g) bs.length v hv
   have e : bsOf bs.length v = ⟨bs.toArray⟩:=by
    apply Qc7
    rw [Qbt,hbs]
   rwa [e] at this
 | _=>simp at hr
theorem QiE {ts : Array TypeId} {ty : TypeId} {s r : AV} {us : Value} (hs : VR g s us)
  (hr : (match (generalizing:=false) s with
   | .nilslice=>some (.nilptr,h)
   | .slice b o _ c=>if c = 0 then none else some (.ptr b o,h)
   | .slop b o n _=>if n = 0 then none else some (.ptr b o,h)
   | _=>none) = some (r,h')) : ∃ v,(Builtin.unsafeSliceData_ ts ty #[us]).run P w = .ok v w ∧ VR g r v ∧ h' = h:=by
 cases hs with
 | nilslice=>cases hr; exact ⟨_,rfl,.nilptr,rfl⟩
 | sliceC b o n c β base hrho hn =>
  simp only at hr
  split at hr
  ·cases hr
  ·rename_i hc
   cases hr
   exact ⟨_,Lib.run_unsafeSliceData_row w ts ty _ n c hc,.ptr b o β base hrho,rfl⟩
 | sliceN b o n es c β base a hrho hn ha ht =>
  simp only at hr
  split at hr
  ·cases hr
  ·rename_i hn0
   cases hr
   have hc : c ≠ 0:=by omega
   rcases ha with rfl | rfl
   ·exact absurd rfl hc
   ·exact ⟨_,Lib.run_unsafeSliceData_row w ts ty _ n c hc,.ptr b o β base hrho,rfl⟩
 | _=>simp at hr
end
end Go.Ab
/-
 exec is sound: the whole.
-/
namespace Go.Ab
open Go Go.RowKit
section
variable {CR : AC → Code → Prop} {B : Nat} {w0 : Anchor} {g g' : Gam} {h h' : AH} {w w' : World} {P : Program} {G : Nat → Option (List AV)}

theorem run_v {s : Sem Value} {v : Value} (hs : s.run P w = .ok v w') : (do let x ← s; pure (Next.value x) : Sem Next).run P w = .ok (.value v) w':=by
 simp [hs]
theorem Done.v {s : Sem Value} {r : AV} {v : Value} (H : HR CR B w0 g h w) (hs : s.run P w = .ok v w) (hv : VR g r v) : Done CR B w0 g r h ((do let x ← s; pure (Next.value x) : Sem Next).run P w) :=
 Done.value H hv (run_v hs)
theorem Done.gives {s : Sem Value} {r : AV} (hg : Gives CR B w0 g r h' (s.run P w)) : Done CR B w0 g r h' ((do let x ← s; pure (Next.value x) : Sem Next).run P w) :=
 Done.of_gives hg fun _ _ e=>run_v e
theorem Done.u {s : Sem Unit} (hs : s.run P w = .ok () w') (H : HR CR B w0 g h' w') : Done CR B w0 g .undef h' ((do s; pure Next.skip : Sem Next).run P w) :=
 Done.skip H (by simp [hs])
theorem Done.tup {s : Sem Value} {r : AV} {v : Value} (hs : s.run P w = .ok v w') (H : HR CR B w0 g h' w') (hv : VR g r v) : Done CR B w0 g r h' ((do let x ← s; pure (Next.value x) : Sem Next).run P w) :=
 ⟨g,w',v,.inl (run_v hs),H,g.le_refl,hv⟩
set_option maxHeartbeats 4000000 in
theorem QlE (H : HR CR B w0 g h w) {ρ : Operand → Value} {ev : AOpd → AV} (hev : ∀ x ax,Qag G x = some ax → VR g (ev ax) (ρ x)) {b : Builtin} {ts : Array TypeId} {args : Array Operand} {aop : AOp} {r : AV} {ty : TypeId} {cs : Array Bool}
  (hc : Qc5 P G b ts args = some aop) (he : exec h ev aop = some (r,h')) : Done CR B w0 g r h' ((builtin b ts ty cs (args.map ρ)).run P w):=by
 have hts : ts = ts.toList.toArray:=by simp
 have hargs : args.map ρ = (args.toList.map ρ).toArray:=Array.ext' (by simp)
 have mm : ∀ (mx : Bool) (l : List AOpd),QbE G args = some l → ∀ v,Qic mx (l.map ev) = some v → ∃ x,(if mx then Builtin.max_ ts ty (args.map ρ) else Builtin.min_ ts ty (args.map ρ)).run P w = .ok x w ∧ VR g v x:=by
  intro mx l hl v hv
  have hvs:=QbD hev _ _ hl
  rw [hargs]
  generalize args.toList.map ρ = us at hvs
  generalize l.map ev = vs at hvs hv
  cases vs with
  | nil=>simp [Qic] at hv
  | cons a vs =>
   cases us with
   | nil=>have:=hvs.len; simp at this
   | cons u us =>
    simp only [Qic] at hv
    obtain ⟨x,hx,hxr⟩:=Qib (P:=P) (w:=w) mx vs us a v u hvs.head hvs.tail hv
    refine ⟨x,?_,hxr⟩
    cases mx <;> simpa [Builtin.max_,Builtin.min_] using hx
 unfold Qc5 at hc
 split at hc
 case h_1 =>
  rename_i t x e1 e2
  rw [hts,hargs,e1,e2]
  have lenCase : ∀ k ax,Qag G x = some ax → ((k = 0 ∧ P.underlying t = some .string) ∨ (k = 1 ∧ ∃ e,P.underlying t = some (.slice e)) ∨ (k = 2 ∧ ∃ a e,P.underlying t = some (.map a e))) → exec h ev (.len k ax) = some (r,h') →
    Done CR B w0 g r h' ((builtin .len [t].toArray ty cs (List.map ρ [x]).toArray).run P w):=by
   intro k ax hx ht he
   simp only [exec,Option.map_eq_some_iff,Prod.mk.injEq] at he
   obtain ⟨n,hn,rfl,rfl⟩:=he
   have:=run_len (P:=P) (ty:=ty) H hn (hev _ _ hx) ht
   exact Done.v H this (.int _ _)
  have arrCase : ∀ n : Nat,(Builtin.len_ #[t] ty #[ρ x]).run P w = .ok (goInt n) w → exec h ev (.lenArr n) = some (r,h') →
    Done CR B w0 g r h' ((builtin .len [t].toArray ty cs (List.map ρ [x]).toArray).run P w):=by
   intro n hrun he
   simp only [exec,Option.some.injEq,Prod.mk.injEq] at he
   obtain ⟨rfl,rfl⟩:=he
   exact Done.v H hrun (.int _ _)
  split at hc
  ·rename_i ht hx; cases hc; exact lenCase 0 _ hx (.inl ⟨rfl,ht⟩) he
  ·rename_i ht hx; cases hc; exact lenCase 1 _ hx (.inr (.inl ⟨rfl,_,ht⟩)) he
  ·rename_i ht hx; cases hc; exact lenCase 2 _ hx (.inr (.inr ⟨rfl,_,_,ht⟩)) he
  ·rename_i ht hx; cases hc; exact arrCase _ (by simp [Builtin.len_,run_underlying ht]) he
  ·rename_i a _ ht hx
   split at hc
   ·rename_i hta; cases hc; exact arrCase _ (by simp [Builtin.len_,run_underlying ht,run_underlying hta]) he
   ·cases hc
  ·cases hc
 case h_2 =>
  rename_i t u s x e1 e2
  rw [hts,hargs,e1,e2]
  split at hc
  ·cases hc
  ·rename_i e d sx xx hne ht hu hs hx
   split at hc
   ·rename_i i zl hi hz
    cases hc
    obtain ⟨i',z,hi',hz',hzl,hzr⟩:=QbL hz
    rw [hi] at hi'
    cases hi'
    simp only [exec] at he
    split at he
    ·rename_i n hn
     split at he
     ·rename_i xs hxs
      exact Done.gives (QmA (ty:=ty) H ht (fun k hk=>hne k (by rw [hu] at hk; exact Option.some.inj hk)) (by rw [hu]; rfl) hi hz' hzl (hzr g) hn hxs he (hev _ _ hs) (hev _ _ hx))
     ·cases he
    ·cases he
   ·cases hc
  ·cases hc
 case h_3 =>
  rename_i t u d s e1 e2
  rw [hts,hargs,e1,e2]
  split at hc
  ·rename_i e dx sx ht hd hs
   obtain ⟨n,hn,rfl⟩:=Option.map_eq_some_iff.1 hc
   simp only [exec] at he
   split at he
   ·rename_i k m hk hm
    split at he
    ·rename_i xs hxs
     obtain ⟨w',h1,h2,h3⟩:=QpR (P:=P) (ty:=ty) (u:=u) H ht hn hk hm hxs he (hev _ _ hd) (hev _ _ hs)
     exact Done.tup h1 h2 h3
    ·cases he
   ·cases he
  ·cases hc
 case h_4 =>
  obtain ⟨l,hl,rfl⟩:=Option.map_eq_some_iff.1 hc
  simp only [exec,Option.map_eq_some_iff,Prod.mk.injEq] at he
  obtain ⟨v,hv,rfl,rfl⟩:=he
  have hvs:=QbD hev _ _ hl
  obtain ⟨x,hx,hxr⟩:=mm true l hl v hv
  exact Done.v H hx hxr
 case h_5 =>
  obtain ⟨l,hl,rfl⟩:=Option.map_eq_some_iff.1 hc
  simp only [exec,Option.map_eq_some_iff,Prod.mk.injEq] at he
  obtain ⟨v,hv,rfl,rfl⟩:=he
  obtain ⟨x,hx,hxr⟩:=mm false l hl v hv
  exact Done.v H hx hxr
 case h_6 =>
  rename_i t u m k e1 e2
  rw [hts,hargs,e1,e2]
  split at hc
  ·rename_i kt e mx kx ht hm hk
   obtain ⟨kk,hkk,rfl⟩:=Option.map_eq_some_iff.1 hc
   simp only [exec] at he
   split at he
   ·rename_i hkey
    have hm':=hev _ _ hm
    have hk':=hev _ _ hk
    have T : MapT P t kt e kk:=⟨ht,hkk⟩
    have fin : ∀ {h1 : AH},(match (generalizing:=false) ev mx with
      | .nilmap=>some h
      | .map b=>match (generalizing:=false) h.get b with
       | some (.map es clock)=>match (generalizing:=false) findA (ev kx) es 0 with
        | some (some (i,_))=>some (h.put b (.map (es.eraseIdx i) clock))
        | some none=>some h
        | none=>none
       | _=>none
      | _=>none) = some h1 → some (AV.tuple [],h1) = some (r,h') → Done CR B w0 g r h' ((builtin .delete [t,u].toArray ty cs (List.map ρ [m,k]).toArray).run P w):=by
     intro h1 hh heq
     cases heq
     obtain ⟨w',hw',H'⟩:=Qmz (P:=P) (ty:=ty) (u2:=u) H T hkey hm' hk' hh
     exact Done.tup hw' H' (VRs.nil g).tuple
    split at he
    ·rename_i e0; exact fin (by simp only [e0]) he
    ·rename_i b e0
     split at he
     ·rename_i es clock e3
      split at he
      ·rename_i i v e4; exact fin (by simp only [e0,e3,e4]) he
      ·rename_i e4; exact fin (by simp only [e0,e3,e4]) he
      ·cases he
     ·cases he
    ·cases he
   ·cases he
  ·cases hc
 case h_7 =>
  rename_i t m e1 e2
  rw [hts,hargs,e1,e2]
  split at hc
  ·rename_i mx ht hm
   cases hc
   simp only [exec] at he
   have hm':=hev _ _ hm
   have fin : ∀ {h1 : AH},(match (generalizing:=false) ev mx with | .nilmap=>some h | .map b=>(match (generalizing:=false) h.get b with | some (.map _ clock)=>some (h.put b (.map [] clock)) | _=>none) | _=>none) = some h1 →
     some (AV.tuple [],h1) = some (r,h') → Done CR B w0 g r h' ((builtin .clear [t].toArray ty cs (List.map ρ [m]).toArray).run P w):=by
    intro h1 hh heq
    cases heq
    obtain ⟨w',hw',H'⟩:=QjU (P:=P) (ty:=ty) H ht hm' hh
    exact Done.tup hw' H' (VRs.nil g).tuple
   split at he
   ·rename_i e0; exact fin (by simp only [e0]) he
   ·rename_i b e0
    split at he
    ·rename_i es clock e3; exact fin (by simp only [e0,e3]) he
    ·cases he
   ·cases he
  ·rename_i e mx ht hm
   obtain ⟨z,hz,rfl⟩:=Option.map_eq_some_iff.1 hc
   obtain ⟨i,zv,hi,hzv,_,hzr⟩:=QbL hz
   simp only [exec] at he
   obtain ⟨w',hw',H',rfl⟩:=Qlr (P:=P) (ty:=ty) H ht hi hzv (hzr g) (hev _ _ hm) he
   exact Done.tup hw' H' (VRs.nil g).tuple
  ·cases hc
 case h_8 =>
  rename_i t1 s1 e1 e2
  rw [hts,hargs,e1,e2]
  obtain ⟨as,hs,rfl⟩:=Option.map_eq_some_iff.1 hc
  simp only [exec] at he
  obtain ⟨v,hrun,hv,rfl⟩:=QiE (P:=P) (w:=w) (ts:=#[t1]) (ty:=ty) (hev _ _ hs) he
  exact Done.v H hrun hv
 case h_9 =>
  rename_i t x e1 e2
  rw [hts,hargs,e1,e2]
  split at hc
  ·rename_i e ax ht hx
   cases hc
   simp only [exec] at he
   have hv:=hev _ _ hx
   generalize ev ax = a at he hv
   generalize hρ : ρ x = u at hv
   have key : ∀ n : Nat,(Builtin.cap_ #[t] ty #[u]).run P w = .ok (goInt n) w → some (AV.int .i64 (n : Nat),h) = some (r,h') → Done CR B w0 g r h' ((builtin .cap [t].toArray ty cs (List.map ρ [x]).toArray).run P w):=by
    intro n hrun heq
    cases heq
    rw [List.map_cons,List.map_nil,hρ]
    exact Done.v H hrun (.int _ _)
   cases hv with
   | nilslice=>exact key 0 (by simp [Builtin.cap_,run_underlying ht]) he
   | empty q=>exact key 0 (by simp [Builtin.cap_,run_underlying ht]) he
   | sliceC b o n c β base hr hn=>exact key c (by simp [Builtin.cap_,run_underlying ht]) he
   | _=>simp at he
  ·cases hc
 case h_10 =>
  rename_i pt it p n e1 e2
  rw [hts,hargs,e1,e2]
  split at hc
  ·rename_i e ap an hpt hp hn
   split at hc
   ·rename_i hc1
    cases hc
    simp only [exec] at he
    exact Done.gives (QiD (P:=P) (it:=it) (ty:=ty) H hpt (by
     have h1 : sizeT P e = some 1:=by simpa using hc1
     unfold sizeT at h1
     unfold Program.cellsOf
     rw [h1]; rfl) (hev _ _ hp) (hev _ _ hn) he)
   ·cases hc
  ·cases hc
 case h_11=>cases hc
theorem QfV {α β : Type} (f : α → Sem β) (k : α → β) : ∀ l : List α,(∀ x ∈ l,(f x).run P w = .ok (k x) w) → (l.mapM f).run P w = .ok (l.map k) w
 | [],_=>by simp
 | x :: l,h=>by
  rw [List.mapM_cons]
  simp [h x (by simp),QfV f k l (fun y hy=>h y (by simp [hy]))]
end
end Go.Ab

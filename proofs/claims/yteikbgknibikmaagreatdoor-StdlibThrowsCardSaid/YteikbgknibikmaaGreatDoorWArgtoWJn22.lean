/-
  A part of a proof: WArg WJn22.
-/
import Derived.Deep.Slices
import Derived.DeepKeys2
import Derived.SizedLaws
import Derived.Test.YteikbgknibikmaaGreatDoorAbMmtoAbCl
import Derived.Test.YteikbgknibikmaaGreatDoorWP22toWOc22
set_option linter.all false
/-! Arguments: what is read as data is a value of the machine (ints, bools, strings, slices, structs). -/
namespace Go.Ab
open Go Go.WideShapes Go.RowKit

noncomputable def QaC (w : World) : Nat → Nat → Option Value:=fun β o=>w.cell? ⟨β,o,none⟩
theorem Qgc {G : Nat → Option (List AV)} {w : World} (hw : GlobW G w) : GlobR G (bareG (QaC w)):=by
 intro n l hl
 obtain ⟨vs,h1,h2⟩:=hw n l hl
 have hv:=h1 (bareG (QaC w))
 refine .iptr l vs n 0 hv.len hv.val fun i hi=>?_
 show QaC w n (0 + i) = _
 unfold QaC
 rw [Nat.zero_add]
 exact h2 i hi
theorem QoO (CR : AC → Code → Prop) (w : World) : HR CR w.heap.size ⟨w,fun _=>False⟩ (bareG (QaC w)) ⟨fun _=>none,0⟩ w :=
  ⟨fun _ _=>rfl,fun _ _=>rfl,fun b x hx=>(by cases hx),fun b β base o hr _=>(by cases hr),fun b b' β base base' o o' hr _ _ _ _=>(by cases hr),
   fun β o v hm=>hm,
   fun b β base ob o hr _=>(by cases hr),fun b β base o hr _=>(by cases hr),Below.refl _ _,Nat.le_refl _,fun b hb=>hb.elim⟩

def Ql3 (P : Program) (S : List TypeId) : Bool:=S.all fun t =>
 match P.underlying t with
 | some .bool | some (.int _) | some .string=>P.cellsOf t == 1
 | some (.slice e)=>S.contains e && P.cellsOf t == 1 && decide (0 < P.cellsOf e)
 | some (.struct fs)=>fs.toList.all (fun f=>S.contains f.type) && P.runs 0 fs.toList == some (P.cellsOf t)
 | _=>false

inductive Rd (P : Program) {H : Type} : TypeId → DataW H → List AV → Prop
 | bool {t : TypeId} (b : Bool) (hu : P.underlying t = some .bool) : Rd P t (.lit (.bool b)) [.bool b]
 | int {t : TypeId} (k : IntKind) (n : Int) (hu : P.underlying t = some (.int k)) (hw : (Lit.int k n).wf = true) : Rd P t (.lit (.int k n)) [.int k n]
 | str {t : TypeId} (s : ByteArray) (hu : P.underlying t = some .string) (hs : s.size ≤ maxLen) : Rd P t (.lit (.string s.data.toList)) [.str s.size (natOf s)]
 | nils {t e : TypeId} (hu : P.underlying t = some (.slice e)) : Rd P t .nil [.nilslice]
 | empty {t e : TypeId} (sp : List (DataW H)) (hu : P.underlying t = some (.slice e)) : Rd P t (.slice [] sp) [.empty]
 | vec {t e : TypeId} (ds sp : List (DataW H)) (rows : List (List AV)) (hu : P.underlying t = some (.slice e)) (hl : ds.length = rows.length) (hm : ds.length ≤ maxLen) (hr : ∀ i (h1 : i < ds.length) (h2 : i < rows.length),Rd P e ds[i] rows[i])
   (hz : ∀ r ∈ rows,r.length = P.cellsOf e) : Rd P t (.slice ds sp) [.vec rows]
 | struct {t : TypeId} (fs : Array Field) (ds : List (DataW H)) (rows : List (List AV)) (hu : P.underlying t = some (.struct fs)) (hl : ds.length = fs.size) (hl2 : rows.length = fs.size)
   (hr : ∀ i (h : i < fs.size) (h1 : i < ds.length) (h2 : i < rows.length),Rd P fs[i].type ds[i] rows[i]) : Rd P t (.agg ds) rows.flatten
theorem QeR {α : Type} {p : Nat → α → Prop} : ∀ (m : Nat),(∀ i,i < m → ∃ r,p i r) → ∃ l : List α,l.length = m ∧ ∀ i (h : i < l.length),p i l[i]
 | 0,_=>⟨[],rfl,fun i h=>absurd h (by simp)⟩
 | m + 1,h=>by
  obtain ⟨l,h1,h2⟩:=QeR m fun i hi=>h i (by omega)
  obtain ⟨r,hr⟩:=h m (by omega)
  refine ⟨l ++ [r],by simp [h1],fun i hi=>?_⟩
  rw [List.getElem_append]
  split
  ·exact h2 i _
  ·have : i = m:=by simp at hi; omega
   subst this
   simpa [h1] using hr
theorem VRs.app {g : Gam} {a b : List AV} {x y : List Value} (h : VRs g a x) (k : VRs g b y) : VRs g (a ++ b) (x ++ y):=by
 refine ⟨by simp [h.len,k.len],fun i h1 h2=>?_⟩
 rw [List.getElem_append,List.getElem_append]
 by_cases c : i < a.length
 ·rw [dif_pos c,dif_pos (by rw [← h.len]; exact c)]
  exact h.val i _ _
 ·rw [dif_neg c,dif_neg (by rw [← h.len]; exact c)]
  have e : i - a.length = i - x.length:=by rw [h.len]
  have:=k.val (i - a.length) (by simp at h1; omega) (by rw [e]; simp at h2; have:=h.len; omega)
  simpa [e] using this
theorem VRs.flat {g : Gam} : ∀ (l : List (List AV)) (m : List (List Value)),l.length = m.length → (∀ i (h1 : i < l.length) (h2 : i < m.length),VRs g l[i] m[i]) → VRs g l.flatten m.flatten
 | [],[],_,_=>⟨rfl,fun i h1=>absurd h1 (by simp)⟩
 | a :: l,x :: m,hl,h=>by
  rw [List.flatten_cons,List.flatten_cons]
  exact (h 0 (by simp) (by simp)).app (VRs.flat l m (by simpa using hl) fun i h1 h2=>by
   have:=h (i + 1) (by simpa using h1) (by simpa using h2)
   rwa [List.getElem_cons_succ,List.getElem_cons_succ] at this)
 | [],_ :: _,hl,_=>by simp at hl
 | _ :: _,[],hl,_=>by simp at hl
theorem mapM_at {α β : Type} {f : α → Option β} : ∀ {L : List α} {r : List β},L.mapM f = some r → r.length = L.length ∧ ∀ i (h : i < L.length) (h' : i < r.length),f L[i] = some r[i]
 | [],r,h=>by
  simp at h
  subst h
  exact ⟨rfl,fun i h=>absurd h (by simp)⟩
 | x :: L,r,h=>by
  rw [List.mapM_cons] at h
  simp only [bind,Option.bind_eq_some_iff,pure,Option.some.injEq] at h
  obtain ⟨y,hy,ys,hys,rfl⟩:=h
  obtain ⟨i1,i2⟩:=mapM_at hys
  refine ⟨by simp [i1],fun i h h'=>?_⟩
  cases i with
  | zero=>exact hy
  | succ i=>simpa using i2 i (by simpa using h) (by simpa using h')
theorem cells_at {w : World} {base n : Nat} {a : Addr} {cs : List Value} (h : w.cells? base a n = some cs) : cs.length = n ∧ ∀ j (h' : j < cs.length),w.cell? (a.add j) = some cs[j]:=by
 unfold World.cells? at h
 split at h
 ·obtain ⟨h1,h2⟩:=mapM_at h
  refine ⟨by simpa using h1,fun j hj=>?_⟩
  have:=h2 j (by simpa [h1] using hj) hj
  simpa using this
 ·cases h
theorem Qqp {w : World} {a : Addr} {v : Value} (hv : w.cell? a = some v) : a.spot = none:=by
 cases hsp : a.spot with
 | none=>rfl
 | some s =>
  simp only [World.cell?] at hv
  split at hv
  ·simp [hsp] at hv
  ·cases hv
theorem add_zero' (a : Addr) : a.add 0 = a:=by unfold Addr.add; simp
theorem add_plain (β o i j : Nat) : ((⟨β,o,none⟩ : Addr).add i).add j = ⟨β,o + i + j,none⟩:=by
 unfold Addr.add
 by_cases h0 : i = 0 <;> by_cases h1 : j = 0 <;> simp [h0,h1]
theorem Qa9 {P : Program} {S : List TypeId} (hS : Ql3 P S = true) {H : Type} {enc : TypeId × Value → H} {w : World} {held : Bool} :
  ∀ (n : Nat) (t : TypeId) (cs : List Value) (x : DataW H × List MemPlace),S.contains t = true → DataW.trod enc P w 0 (fun _=>true) held n t cs = some x →
  ∃ row,Rd P t x.1 row ∧ row.length = P.cellsOf t ∧ ∀ g : Gam,g.mem = QaC w → VRs g row cs
 | 0,t,cs,x,_,h=>by simp [DataW.trod] at h
 | n + 1,t,cs,x,ht,h=>by
  have hc:=List.all_eq_true.1 hS t (List.contains_iff_mem.1 ht)
  cases hu : P.underlying t with
  | none=>simp [hu] at hc
  | some kd =>
   cases kd
   case bool =>
    simp only [hu,beq_iff_eq] at hc
    obtain ⟨b,rfl,rfl⟩:=DataW.trod_bool hu h
    exact ⟨_,.bool b hu,hc.symm,fun g _=>⟨rfl,fun i h1 h2=>by
     have : i = 0:=by simp at h1; omega
     subst this
     exact .bool b⟩⟩
   case int k =>
    simp only [hu,beq_iff_eq] at hc
    obtain ⟨z,rfl,rfl,hw⟩:=DataW.trod_int hu h
    exact ⟨_,.int k z hu hw,hc.symm,fun g _=>⟨rfl,fun i h1 h2=>by
     have : i = 0:=by simp at h1; omega
     subst this
     exact .int k z⟩⟩
   case string =>
    simp only [hu,beq_iff_eq] at hc
    obtain ⟨s,rfl,rfl,hs⟩:=DataW.trod_string hu h
    exact ⟨_,.str s hu hs,hc.symm,fun g _=>⟨rfl,fun i h1 h2=>by
     have : i = 0:=by simp at h1; omega
     subst this
     have:=VR.str (g:=g) s.size (natOf s) (Qoy s)
     rw [Qkz] at this
     exact this⟩⟩
   case slice e =>
    simp only [hu,Bool.and_eq_true,beq_iff_eq,decide_eq_true_eq] at hc
    obtain ⟨⟨he,hc1⟩,hz⟩:=hc
    rcases DataW.trod_slice hu h with ⟨rfl,rfl⟩ | ⟨a,len,cap,elems,rest,n',hf,rfl,rfl,_,hl,hm,hlen,hel,hsp,_⟩
    ·exact ⟨_,.nils hu,hc1.symm,fun g _=>⟨rfl,fun i h1 h2=>by
      have : i = 0:=by simp at h1; omega
      subst this
      exact .nilslice⟩⟩
    obtain rfl : n = n':=by omega
    by_cases c0 : cap = 0
    ·have e0 : elems = []:=List.eq_nil_of_length_eq_zero (by omega)
     subst e0
     obtain rfl : len = 0:=by omega
     subst c0
     refine ⟨[.empty],.empty _ hu,hc1.symm,fun g _=>⟨rfl,fun i h1 h2=>?_⟩⟩
     have : i = 0:=by simp at h1; omega
     subst this
     exact .empty a
    have hcell : ∃ v,w.cell? a = some v:=by
     have key : ∃ z : DataW H × List MemPlace,(w.cells? 0 (a.add (0 * P.cellsOf e)) (P.cellsOf e)).bind (DataW.trod enc P w 0 (fun _=>true) held n e) = some z:=by
      by_cases l0 : 0 < len
      ·exact ⟨elems[0],by rw [hel 0 l0,List.getElem?_eq_getElem]⟩
      ·obtain ⟨k1,k2⟩:=hsp rfl
       obtain rfl : len = 0:=by omega
       have:=k2 0 (by omega)
       rw [Nat.zero_add] at this
       exact ⟨rest[0]'(by omega),by rw [this,List.getElem?_eq_getElem]⟩
     obtain ⟨z,hz'⟩:=key
     obtain ⟨cs',k1,_⟩:=Option.bind_eq_some_iff.1 hz'
     rw [Nat.zero_mul,add_zero'] at k1
     obtain ⟨k2,k3⟩:=cells_at k1
     have:=k3 0 (by omega)
     rw [add_zero'] at this
     exact ⟨_,this⟩
    obtain ⟨v0,hv0⟩:=hcell
    have hsp0:=Qqp hv0
    obtain ⟨β,o,sp⟩:=a
    have hsp1 : sp = none:=hsp0
    subst hsp1
    obtain ⟨L,hL,hp⟩:=QeR (p:=fun i (r : List AV × List Value)=>∀ (h' : i < elems.length),w.cells? 0 ((⟨β,o,none⟩ : Addr).add (i * P.cellsOf e)) (P.cellsOf e) = some r.2 ∧ Rd P e elems[i].1 r.1 ∧ r.1.length = P.cellsOf e ∧ ∀ g : Gam,g.mem = QaC w → VRs g r.1 r.2) len fun i hi=>by
     have key:=hel i hi
     rw [List.getElem?_eq_getElem (by omega)] at key
     obtain ⟨cs',k1,k2⟩:=Option.bind_eq_some_iff.1 key
     obtain ⟨row,r1,r2,r3⟩:=Qa9 hS n e cs' _ he k2
     exact ⟨(row,cs'),fun _=>⟨k1,r1,r2,r3⟩⟩
    refine ⟨[.vec (L.map (·.1))],.vec _ _ _ hu (by simp [hL,hlen]) (by simp; omega) (fun i h1 h2=>?_) (fun r hr=>?_),hc1.symm,fun g hg=>⟨rfl,fun i h1 h2=>?_⟩⟩
    ·have h3 : i < elems.length:=by simpa using h1
     simpa using (hp i (by simpa using h2) h3).2.1
    ·obtain ⟨x,hx,rfl⟩:=List.mem_map.1 hr
     obtain ⟨i,hi,rfl⟩:=List.getElem_of_mem hx
     exact (hp i hi (by omega)).2.2.1
    ·have : i = 0:=by simp at h1; omega
     subst this
     have hlen' : (L.map (·.1)).length = len:=by simp [hL]
     have hcs : ∀ i (h : i < L.length),L[i].2.length = P.cellsOf e:=fun i h=>(cells_at (hp i h (by omega)).1).1
     have:=VR.vec (g:=g) (L.map (·.1)) (L.map (·.2)) β o cap (P.cellsOf e) (by simp) (by omega) (fun i h1=>by
       have h1' : i < L.length:=by simpa using h1
       simpa using (hp i h1' (by omega)).2.2.1) (fun i h1=>by
       have h1' : i < L.length:=by simpa using h1
       simpa using hcs i h1') (fun i h1 h2 j h3 h4=>by
       have h1' : i < L.length:=by simpa using h1
       have:=((hp i h1' (by omega)).2.2.2 g hg).val j (by simpa using h3) (by simpa using h4)
       simpa using this) (fun i h2 j h4=>by
       have h1' : i < L.length:=by simpa using h2
       obtain ⟨k1,k2⟩:=cells_at (hp i h1' (by omega)).1
       have h4' : j < L[i].2.length:=by simpa using h4
       have:=k2 j h4'
       rw [add_plain] at this
       rw [hg]
       simpa [QaC] using this)
     rw [hlen'] at this
     exact this
   case struct fs =>
    simp only [hu,Bool.and_eq_true,beq_iff_eq,List.all_eq_true] at hc
    obtain ⟨hin,hrun⟩:=hc
    obtain ⟨xs,n',hf,rfl,hcl,hxl,hel⟩:=DataW.trod_struct hu h
    obtain rfl : n = n':=by omega
    obtain ⟨R,hR,hp⟩:=QeR (p:=fun i (r : List AV)=>∀ (h : i < fs.size) (h' : i < xs.length),Rd P fs[i].type xs[i].1 r ∧ ∀ g : Gam,g.mem = QaC w → VRs g r ((cs.drop fs[i].offset).take (P.cellsOf fs[i].type))) fs.size fun i hi=>by
     have key:=hel i fs[i] (Array.getElem?_eq_getElem hi)
     rw [List.getElem?_eq_getElem (by omega)] at key
     obtain ⟨row,r1,_,r3⟩:=Qa9 hS n _ _ _ (hin fs[i] (by simp)) key
     exact ⟨row,fun _ _=>⟨r1,r3⟩⟩
    have hv : ∀ g : Gam,g.mem = QaC w → VRs g R.flatten cs:=fun g hg=>by
     have hfl:=fields_flatten cs fs.toList 0 _ hrun hcl
     rw [List.drop_zero] at hfl
     rw [← hfl]
     refine VRs.flat _ _ (by simp [hR]) fun i h1 h2=>?_
     have hi : i < fs.size:=by omega
     simpa using (hp i h1 hi (by omega)).2 g hg
    refine ⟨R.flatten,.struct fs _ R hu (by simp [hxl]) hR (fun i h0 h1 h2=>?_),?_,hv⟩
    ·simpa using (hp i h2 h0 (by omega)).1
    ·rw [(hv (bareG (QaC w)) rfl).len,hcl]
   all_goals (simp [hu] at hc; done)
end Go.Ab
namespace Go.Ab.L22
open Go Go.Ab
section
variable {P : Program} {H : Type}
theorem QgZ {t : TypeId} {k : IntKind} {d : DataW H} {row : List AV} (hu : P.underlying t = some (.int k)) (h : Rd P t d row) : ∃ n,row = [.int k n] ∧ (Lit.int k n).wf = true:=by
 cases h with
 | int k' n hu' hw =>
  rw [hu] at hu'
  cases hu'
  exact ⟨n,rfl,hw⟩
 | bool b hu'=>rw [hu] at hu'; cases hu'
 | str s hu' hs=>rw [hu] at hu'; cases hu'
 | nils hu'=>rw [hu] at hu'; cases hu'
 | empty sp hu'=>rw [hu] at hu'; cases hu'
 | vec ds sp rows hu'=>rw [hu] at hu'; cases hu'
 | struct fs ds rows hu'=>rw [hu] at hu'; cases hu'
theorem rd_bool {t : TypeId} {d : DataW H} {row : List AV} (hu : P.underlying t = some .bool) (h : Rd P t d row) : ∃ b,row = [.bool b]:=by
 cases h with
 | int k' n hu' hw=>rw [hu] at hu'; cases hu'
 | bool b hu'=>exact ⟨b,rfl⟩
 | str s hu' hs=>rw [hu] at hu'; cases hu'
 | nils hu'=>rw [hu] at hu'; cases hu'
 | empty sp hu'=>rw [hu] at hu'; cases hu'
 | vec ds sp rows hu'=>rw [hu] at hu'; cases hu'
 | struct fs ds rows hu'=>rw [hu] at hu'; cases hu'
theorem Qqv {t : TypeId} {fs : Array Field} {d : DataW H} {row : List AV} (hu : P.underlying t = some (.struct fs)) (h : Rd P t d row) :
  ∃ (ds : List (DataW H)) (rows : List (List AV)),d = .agg ds ∧ row = rows.flatten ∧ ds.length = fs.size ∧ rows.length = fs.size ∧ ∀ i (h : i < fs.size) (h1 : i < ds.length) (h2 : i < rows.length),Rd P fs[i].type ds[i] rows[i]:=by
 cases h with
 | int k' n hu' hw=>rw [hu] at hu'; cases hu'
 | bool b hu'=>rw [hu] at hu'; cases hu'
 | str s hu' hs=>rw [hu] at hu'; cases hu'
 | nils hu'=>rw [hu] at hu'; cases hu'
 | empty sp hu'=>rw [hu] at hu'; cases hu'
 | vec ds sp rows hu'=>rw [hu] at hu'; cases hu'
 | struct fs' ds rows hu' hl hl2 hr =>
  rw [hu] at hu'
  cases hu'
  exact ⟨ds,rows,rfl,rfl,hl,hl2,hr⟩
theorem QhE {t : TypeId} : ∀ {ds : List (DataW H)} (i : Nat) (h : i < ds.length),∀ n ∈ ds[i].weights P t,n ∈ DataW.weightsAll P t ds
 | d :: ds,0,_,n,hn=>by
  simp only [DataW.weightsAll,List.mem_append]
  exact .inl hn
 | d :: ds,i + 1,h,n,hn=>by
  simp only [DataW.weightsAll,List.mem_append]
  exact .inr (QhE i (by simpa using h) n (by simpa using hn))
theorem QfP {tt tl : TypeId} {f0 f1 f2 : Field} (hT : P.underlying tt = some (.struct #[f0,f1,f2])) (h0 : P.underlying f0.type = some (.int .i64)) (h1 : P.underlying f1.type = some (.int .i64)) (h2 : f2.type = tl)
  (hL : P.underlying tl = some (.slice tt)) (hc : P.cellsOf tt = 3) (hb : 1 ≤ P.bytesOf tt) : ∀ {t : TypeId} {d : DataW H} {row : List AV},Rd P t d row →
  (t = tt → (∀ x ∈ d.weights P t,x ≤ reachBytes) → ∃ T k n lv,row = [.int .i64 k,.int .i64 n,lv] ∧ Short T ∧ ∀ h,Rep 0 h T row) ∧
  (t = tl → (∀ x ∈ d.weights P t,x ≤ reachBytes) → ∃ (lv : AV) (l : List LT) (p : Nat → AV) (r : Nat → List AV),row = [lv] ∧ Shorts l ∧ l.length < 4611686018427387904 ∧ ∀ h,lenK h 1 lv = some l.length ∧
   (∀ i,i < l.length → Qew 3 lv (.int .i64 i) = some (p i) ∧ Ql1 0 (p i) ∧ loadA h 3 (p i) = some (r i)) ∧ ∀ i (hi : i < l.length),Rep 0 h l[i] (r i)):=by
 intro t d row H
 induction H with
 | bool b hu=>exact ⟨fun e=>(by subst e; rw [hT] at hu; cases hu),fun e=>(by subst e; rw [hL] at hu; cases hu)⟩
 | int k n hu hw=>exact ⟨fun e=>(by subst e; rw [hT] at hu; cases hu),fun e=>(by subst e; rw [hL] at hu; cases hu)⟩
 | str s hu hs=>exact ⟨fun e=>(by subst e; rw [hT] at hu; cases hu),fun e=>(by subst e; rw [hL] at hu; cases hu)⟩
 | nils hu=>exact ⟨fun e=>(by subst e; rw [hT] at hu; cases hu),fun e _=>⟨.nilslice,[],fun _=>.undef,fun _=>[],rfl,trivial,by simp,fun h=>⟨rfl,fun i hi=>absurd hi (by simp),fun i hi=>absurd hi (by simp)⟩⟩⟩
 | empty sp hu=>exact ⟨fun e=>(by subst e; rw [hT] at hu; cases hu),fun e _=>⟨.empty,[],fun _=>.undef,fun _=>[],rfl,trivial,by simp,fun h=>⟨rfl,fun i hi=>absurd hi (by simp),fun i hi=>absurd hi (by simp)⟩⟩⟩
 | vec ds sp rows hu hl hm hr hz ih =>
  refine ⟨fun e=>(by subst e; rw [hT] at hu; cases hu),fun e hw=>?_⟩
  subst e
  have hu':=hu
  rw [hL] at hu
  cases hu
  have hwt : (ds.length + sp.length) * P.bytesOf tt ≤ reachBytes:=hw _ (by simp [DataW.weights,hu'])
  have hlen : ds.length ≤ reachBytes:=by
   have : (ds.length + sp.length) * 1 ≤ (ds.length + sp.length) * P.bytesOf tt:=Nat.mul_le_mul_left _ hb
   omega
  have hwe : ∀ i (h : i < ds.length),∀ x ∈ ds[i].weights P tt,x ≤ reachBytes:=fun i h x hx=>hw x (by
   simp only [DataW.weights,hu',List.mem_cons,List.mem_append]
   exact .inr (.inl (QhE i h x hx)))
  obtain ⟨l,hl2,hp⟩:=QeR (p:=fun i (T : LT)=>∀ (h : i < rows.length),Short T ∧ ∀ h',Rep 0 h' T rows[i]) rows.length fun i hi=>by
   obtain ⟨T,k,n,lv,_,e2,e3⟩:=(ih i (by omega) hi).1 rfl (hwe i (by omega))
   exact ⟨T,fun _=>⟨e2,e3⟩⟩
  have hsh : ∀ (m : List LT),(∀ i (h : i < m.length),Short m[i]) → Shorts m:=by
   intro m
   induction m with
   | nil=>exact fun _=>trivial
   | cons a m ih=>exact fun h=>⟨h 0 (by simp),ih fun i hi=>h (i + 1) (by simpa using hi)⟩
  refine ⟨.vec rows,l,fun i=>.iptr (rows.getD i []),fun i=>rows.getD i [],rfl,hsh l fun i hi=>(hp i hi (by omega)).1,?_,fun h=>⟨by show some rows.length = _; rw [hl2],fun i hi=>?_,fun i hi=>?_⟩⟩
  ·have:=reachBytes_lt
   omega
  ·have hi' : i < rows.length:=by omega
   have hr3 : (rows[i]).length = 3:=by rw [hz _ (List.getElem_mem hi'),hc]
   have eg : rows.getD i [] = rows[i]:=by simp [List.getD,List.getElem?_eq_getElem hi']
   refine ⟨?_,trivial,?_⟩
   ·show Qew 3 (.vec rows) (.int .i64 (i : Int)) = some (.iptr (rows.getD i []))
    rw [eg]
    simp [Qew,asNat,List.getElem?_eq_getElem hi',hr3]
   ·show loadA h 3 (.iptr (rows.getD i [])) = some (rows.getD i [])
    rw [eg]
    simp only [loadA]
    rw [if_pos (by omega),← hr3,List.take_length]
  ·have hi' : i < rows.length:=by omega
   have eg : rows.getD i [] = rows[i]:=by simp [List.getD,List.getElem?_eq_getElem hi']
   show Rep 0 h l[i] (rows.getD i [])
   rw [eg]
   exact (hp i hi hi').2 h
 | struct fs ds rows hu hl hl2 hr ih =>
  refine ⟨fun e hw=>?_,fun e=>(by subst e; rw [hL] at hu; cases hu)⟩
  subst e
  have hu':=hu
  rw [hT] at hu
  cases hu
  match rows,hl2,hr,ih with
  | [r0,r1,r2],_,hr,ih =>
   match ds,hl,hr,ih with
   | [d0,d1,d2],_,hr,ih =>
    obtain ⟨k,e0,_⟩:=QgZ h0 (hr 0 (by simp) (by simp) (by simp))
    obtain ⟨n,e1,_⟩:=QgZ h1 (hr 1 (by simp) (by simp) (by simp))
    obtain ⟨lv,l,p,r,e2,hs,hlt,hh⟩:=(ih 2 (by simp) (by simp) (by simp)).2 h2 (fun x hx=>hw x (by
     simp only [DataW.weights,hu']
     exact DataW.weights_mem_each (j:=2) rfl rfl x hx))
    have e0' : r0 = [.int .i64 k]:=e0
    have e1' : r1 = [.int .i64 n]:=e1
    have e2' : r2 = [lv]:=e2
    subst e0' e1' e2'
    exact ⟨.mk k n l,k,n,lv,rfl,⟨hlt,hs⟩,fun h=>.mk k n l lv p r (hh h).1 (hh h).2.1 (hh h).2.2⟩
theorem QfT {ts tt tl : TypeId} {g0 g1 g2 g3 f0 f1 f2 : Field} (hS : P.underlying ts = some (.struct #[g0,g1,g2,g3])) (k0 : P.underlying g0.type = some (.int .i64)) (k1 : P.underlying g1.type = some (.int .i64)) (k2 : P.underlying g2.type = some .bool) (k3 : g3.type = tt)
  (hT : P.underlying tt = some (.struct #[f0,f1,f2])) (h0 : P.underlying f0.type = some (.int .i64)) (h1 : P.underlying f1.type = some (.int .i64)) (h2 : f2.type = tl) (hL : P.underlying tl = some (.slice tt)) (hc : P.cellsOf tt = 3) (hb : 1 ≤ P.bytesOf tt)
  {d : DataW H} {row : List AV} (h : Rd P ts d row) (hw : ∀ x ∈ d.weights P ts,x ≤ reachBytes) : ∃ st env out T k n lv,row = [.int .i64 st,.int .i64 env,.bool out,.int .i64 k,.int .i64 n,lv] ∧ Short T ∧ ∀ h,Rep 0 h T [.int .i64 k,.int .i64 n,lv]:=by
 obtain ⟨ds,rows,rfl,rfl,hl,hl2,hr⟩:=Qqv hS h
 match rows,hl2,hr with
 | [r0,r1,r2,r3],_,hr =>
  match ds,hl,hr with
  | [d0,d1,d2,d3],_,hr =>
   obtain ⟨st,e0,_⟩:=QgZ k0 (hr 0 (by simp) (by simp) (by simp))
   obtain ⟨env,e1,_⟩:=QgZ k1 (hr 1 (by simp) (by simp) (by simp))
   obtain ⟨out,e2⟩:=rd_bool k2 (hr 2 (by simp) (by simp) (by simp))
   obtain ⟨T,k,n,lv,e3,hs,hh⟩:=(QfP hT h0 h1 h2 hL hc hb (hr 3 (by simp) (by simp) (by simp))).1 k3 (fun x hx=>hw x (by
    simp only [DataW.weights,hS]
    exact DataW.weights_mem_each (j:=3) rfl rfl x hx))
   have e0' : r0 = [.int .i64 st]:=e0
   have e1' : r1 = [.int .i64 env]:=e1
   have e2' : r2 = [.bool out]:=e2
   have e3' : r3 = [.int .i64 k,.int .i64 n,lv]:=e3
   subst e0' e1' e2' e3'
   exact ⟨st,env,out,T,k,n,lv,rfl,hs,hh⟩
end
end Go.Ab.L22

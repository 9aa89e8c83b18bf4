/-
  A part of a proof: WIt22.
-/
import Derived.Lib.ItoaLen
import Derived.Lib.Repeat
import Derived.Lib.LaidTab
import Derived.Sort.Grow
import Derived.Deep.Draws
import Derived.Test.YteikbgknibikmaaGreatDoorWP22toWOc22
import Derived.Test.YteikbgknibikmaaGreatDoorKaI
set_option linter.all false
namespace Go.Ab.L22
open Go Go.Ab Go.RowKit Go.Sort
noncomputable section
/-- The text of a number; of a string of brackets. -/
def itaD (n : Int) : Str:=if -9223372036854775808 ≤ n ∧ n ≤ 9223372036854775807 then ((Lib.itoa n).length,Qca (Lib.itoa n)) else (0,0)
def repD (k : Nat) : Str:=((Lib.repeatL [93] k).length,Qca (Lib.repeatL [93] k))
theorem itaD_in {n : Int} (h : inR n) : itaD n = ((Lib.itoa n).length,Qca (Lib.itoa n)):=if_pos h
theorem itaD_wf (n : Int) : (itaD n).2 < 256 ^ (itaD n).1:=by
 unfold itaD
 split
 ·exact QfZ _
 ·decide
theorem Qkn (n : Int) : (itaD n).1 ≤ 30:=by
 unfold itaD
 split
 ·rename_i h
  have:=Lib.itoa_length_le n h.1 h.2
  show (Lib.itoa n).length ≤ 30
  omega
 ·decide
theorem repD_len (k : Nat) : (repD k).1 = k:=by
 show (Lib.repeatL [93] k).length = k
 rw [Lib.repeatL_length]
 simp
instance (n : Int) : Decidable (inR n):=by unfold inR; infer_instance

def M22 : Memo:=fun f args =>
 if f = 12 then (match args with | []=>some fun h=>some (.bool true,h) | _=>none)
 else if f = QdE then (match args with | [.int .i64 n]=>if inR n then some fun h=>some (sv (itaD n),h) else none | _=>none)
 else if f = QbQ then (match args with | [.str a b,.int .i64 k]=>if (a = 1 ∧ b = 93) ∧ 0 ≤ k ∧ k < 1000000 then some fun h=>some (sv (repD k.toNat),h) else none | _=>none)
 else if f = QcM then (match args with | [x]=>some fun h=>some (x,h) | _=>none)
 else none
theorem Qht : Itoa M22 itaD :=
 ⟨fun n hn h=>⟨_,by
  show (if (QdE : Nat) = 12 then _ else if QdE = QdE then _ else _) = _
  rw [if_neg (by decide),if_pos rfl]
  show (if inR n then _ else none) = _
  rw [if_pos hn],rfl⟩,Qkn⟩
theorem Qhs : Rept M22 repD :=
 ⟨fun k hk h=>⟨_,by
  show (if (QbQ : Nat) = 12 then _ else if QbQ = QdE then _ else if QbQ = QbQ then _ else _) = _
  rw [if_neg (by decide),if_neg (by decide),if_pos rfl]
  show (if ((1 : Nat) = 1 ∧ (93 : Nat) = 93) ∧ 0 ≤ (k : Int) ∧ (k : Int) < 1000000 then _ else none) = _
  rw [if_pos ⟨⟨rfl,rfl⟩,by omega,by omega⟩],by simp⟩,repD_len⟩
theorem Qah {f : FuncId} (h1 : f ≠ 12) (h2 : f ≠ QdE) (h3 : f ≠ QbQ) (h4 : f ≠ QcM) (as : List AV) : M22 f as = none:=by
 unfold M22
 rw [if_neg h1,if_neg h2,if_neg h3,if_neg h4]
theorem Qf4 : ∃ c,M22 12 [] = some c ∧ ∀ h,c h = some (.bool true,h):=⟨_,rfl,fun _=>rfl⟩
theorem Qhr (b o : Nat) (h : AH) : ∃ c,M22 QcM [.ptr b o] = some c ∧ c h = some (.ptr b o,h):=⟨_,by
 show (if (QcM : Nat) = 12 then _ else if QcM = QdE then _ else if QcM = QbQ then _ else if QcM = QcM then _ else _) = _
 rw [if_neg (by decide),if_neg (by decide),if_neg (by decide),if_pos rfl],rfl⟩
section
variable {P : Program} {G : Nat → Option (List AV)} {K : World → Prop}
theorem QkI (g : Gam) (l : List UInt8) : VR g (.str l.length (Qca l)) (.string ⟨l.toArray⟩):=by
 have:=VR.str (g:=g) l.length (Qca l) (QfZ l)
 have e : bsOf l.length (Qca l) = ⟨l.toArray⟩:=Qc7 (by rw [Qbt]; simpa using Qec l)
 rwa [e] at this
theorem below_grow (w : World) (k : Nat) (os : Array Obj) : Below w.heap.size w (grow (w.drewN k) os) :=
 ⟨rfl,rfl,rfl,by simp [grow,World.drewN],fun i hi=>by simp [grow,World.drewN,Array.getElem?_append_left hi]⟩
theorem QpE (hKt : ∀ w,K w → Lib.TabIs P w "internal/strconv.uint64pow10" .u64 Lib.pow10Tab)
    (hI : ∀ n,inR n → ∀ w,Lib.TabIs P w "internal/strconv.uint64pow10" .u64 Lib.pow10Tab → Calls P QdE #[.int .i64 n] w fun e w'=>e = .returned (.string ⟨(Lib.itoa n).toArray⟩) ∧ ∃ k os,w' = grow (w.drewN k) os)
    (bI : ∃ fn,P.funcs[QdE]? = some fn ∧ fn.body.isSome = true ∧ fn.name ≠ "runtime.NumGoroutine")
    (hR : ∀ k : Nat,k < 1000000 → ∀ w,Calls P QbQ #[.string (bsOf 1 93),.int .i64 (k : Int)] w fun e w'=>e = .returned (.string ⟨(Lib.repeatL [93] k).toArray⟩) ∧ Below w.heap.size w w')
    (bR : ∃ fn,P.funcs[QbQ]? = some fn ∧ fn.body.isSome = true ∧ fn.name ≠ "runtime.NumGoroutine")
    (hS : Qax K P G (absM (QoC QcM km0)))
    (hA : ∀ (B : Nat) (w0 : Anchor) (g : Gam) (h : AH) (w : World) (vs : Array Value),HR (CodeR P G) B w0 g h w → GlobR G g → VRs g [] vs.toList → (∀ w',Below w.heap.size w w' → K w') →
      (∃ fn,P.funcs[(12 : FuncId)]? = some fn ∧ fn.body.isSome = true ∧ fn.name ≠ "runtime.NumGoroutine") ∧
        Calls P 12 vs w fun e w'=>∃ v g',e = .returned v ∧ VR g' (.bool true) v ∧ HR (CodeR P G) B w0 g' h w' ∧ g.le g') : Qax K P G M22:=by
  intro f args c hm B w0 g h w vs v h' hv H hG hvs hK
  unfold M22 at hm
  by_cases c1 : f = 12
  · subst c1
    rw [if_pos rfl] at hm
    split at hm
    · cases hm
      cases hv
      exact .inl (hA B w0 g h w vs H hG hvs hK)
    · cases hm
  rw [if_neg c1] at hm
  by_cases c2 : f = QdE
  · rw [if_pos c2] at hm
    subst c2
    split at hm
    · rename_i n
      split at hm
      · rename_i hn
        cases hm
        cases hv
        obtain ⟨l⟩:=vs
        obtain ⟨y,rfl⟩ : ∃ y,l = [y]:=by
          have:=hvs.len
          simp only [List.length_cons,List.length_nil] at this
          match l,this with
          | [y],_=>exact ⟨y,rfl⟩
        have hy : VR g (.int .i64 n) y:=hvs.head
        rw [hy.int_eq]
        refine .inl ⟨bI,fun C=>?_⟩
        obtain ⟨e,w',fr,⟨rfl,k,os,rfl⟩,rest⟩:=hI n hn w (hKt w (hK w (Below.refl _ _))) C
        refine ⟨_,_,fr,⟨_,g,rfl,?_,H.grow (below_grow w k os),Gam.le_refl g⟩,rest⟩
        rw [itaD_in hn]
        exact QkI g _
      · cases hm
    · cases hm
  rw [if_neg c2] at hm
  by_cases c3 : f = QbQ
  · rw [if_pos c3] at hm
    subst c3
    split at hm
    · rename_i a b k
      split at hm
      · rename_i hk
        obtain ⟨⟨rfl,rfl⟩,hk⟩:=hk
        cases hm
        cases hv
        obtain ⟨m,rfl⟩ : ∃ m : Nat,k = m:=⟨k.toNat,by omega⟩
        obtain ⟨l⟩:=vs
        obtain ⟨x,y,rfl⟩ : ∃ x y,l = [x,y]:=by
          have:=hvs.len
          simp only [List.length_cons,List.length_nil] at this
          match l,this with
          | [x,y],_=>exact ⟨x,y,rfl⟩
        have hx : VR g (.str 1 93) x:=hvs.head
        have hy : VR g (.int .i64 (m : Int)) y:=hvs.tail.head
        rw [hx.str_eq.1,hy.int_eq]
        refine .inl ⟨bR,fun C=>?_⟩
        obtain ⟨e,w',fr,⟨rfl,hb⟩,rest⟩:=hR m (by omega) w C
        exact ⟨_,_,fr,⟨_,g,rfl,by simpa [repD,sv] using QkI g (Lib.repeatL [93] m),H.grow hb,Gam.le_refl g⟩,rest⟩
      · cases hm
    · cases hm
  rw [if_neg c3] at hm
  by_cases c4 : f = QcM
  · rw [if_pos c4] at hm
    subst c4
    split at hm
    · rename_i x
      cases hm
      exact hS QcM [x] (sameA x) (show absM (QoC QcM km0) QcM [x] = some (sameA x) from Qcj QcM sameA (km0.abs QcM [x]) x) B w0 g h w vs v h' hv H hG hvs hK
    · cases hm
  rw [if_neg c4] at hm
  cases hm
end
end
end Go.Ab.L22

/-
 Functions without a body: abi.NoEscape and its like, which hand back what they are given.
-/
import Derived.Test.YteikbgknibikmaaGreatDoorKaFtoKaN
set_option linter.all false
namespace Go.Ab
open Go Go.RowKit
noncomputable section
section
variable {P : Program} {G : Nat → Option (List AV)}
variable {K : World → Prop}
def sameA (v : AV) : AH → Option (AV × AH):=fun h=>some (v,h)
def sameC (v : AV) : KCall:=fun nx t k=>k v nx t
theorem sameC_ok (v : AV) : QcL (sameC v) (sameA v):=fun nx t _ he=>⟨_,nx,t,rfl,he⟩
def Qcg {α : Type} (f : FuncId) (yes : AV → α) (no : Option α) (f' : FuncId) (a' : List AV) : Option α :=
 @Bool.rec (fun _=>Option α) no (match a' with | [v]=>some (yes v) | _=>no) (Nat.beq f' f)
theorem Qdg {α : Type} (f : FuncId) (yes : AV → α) (no : Option α) (f' : FuncId) (a' : List AV) : Qcg f yes no f' a' = no ∨ ∃ v,f' = f ∧ a' = [v]:=by
 unfold Qcg
 cases hf : Nat.beq f' f with
 | false=>exact .inl rfl
 | true =>
  show (match a' with | [v]=>some (yes v) | _=>no) = no ∨ _
  split
  ·rename_i v; exact .inr ⟨v,Nat.eq_of_beq_eq_true hf,rfl⟩
  ·exact .inl rfl
theorem Qcj {α : Type} (f : FuncId) (yes : AV → α) (no : Option α) (v : AV) : Qcg f yes no f [v] = some (yes v):=by
 unfold Qcg
 have : Nat.beq f f = true:=by simp
 rw [this]
theorem Ql7 {α β : Type} {f : FuncId} {yes : AV → α} {yes' : AV → β} {no : Option α} {no' : Option β} {f' : FuncId} {a' : List AV} :
  (Qcg f yes no f' a' = no ∧ Qcg f yes' no' f' a' = no') ∨ ∃ v,f' = f ∧ a' = [v]:=by
 rcases Qdg f yes no f' a' with h1 | h1
 ·rcases Qdg f yes' no' f' a' with h2 | h2
  ·exact .inl ⟨h1,h2⟩
  ·exact .inr h2
 ·exact .inr h1

def QoC (f : FuncId) (M : KMemo) : KMemo:={
 has:=fun f'=>hasOr f (M.has f') f'
 hasNot:=fun f' h args'=>by
  obtain ⟨h1,h2⟩:=QbC h
  have h3 : Qcg f sameA (M.abs f' args') f' args' = M.abs f' args':=by unfold Qcg; rw [h1]
  show Qcg f sameA (M.abs f' args') f' args' = none
  rw [h3]; exact M.hasNot f' h2 args'
 run:=fun f' a'=>Qcg f sameC (M.run f' a') f' a'
 abs:=fun f' a'=>Qcg f sameA (M.abs f' a') f' a'
 ok:=by
  intro f' a'
  rcases Ql7 (f:=f) (yes:=sameC) (yes':=sameA) (no:=M.run f' a') (no':=M.abs f' a') (f':=f') (a':=a') with ⟨h1,h2⟩ | ⟨v,rfl,rfl⟩
  ·rw [h1,h2]; exact M.ok f' a'
  ·rw [Qcj,Qcj]
   exact ⟨fun h=>(by cases h),fun kc h=>(by cases h; exact ⟨_,rfl,sameC_ok v⟩)⟩ }
theorem Qf2 {M : KMemo} (hM : Qax K P G (absM M)) {f : FuncId} {fn : Func} (hf : P.funcs[f]? = some fn) (hname : (fn.name == "runtime.NumGoroutine") = false) (hb : fn.body.isNone = true) (hn : Extern.findNext fn = none)
    (he : Extern.find fn = some Extern.AbiNoEscape.same) : Qax K P G (absM (QoC f M)):=by
  intro f' args' c' hm B w0 g h w vs v h' hv H hG hvs hK
  have hm' : Qcg f sameA (M.abs f' args') f' args' = some c':=hm
  rcases Qdg f sameA (M.abs f' args') f' args' with h1 | ⟨x,rfl,rfl⟩
  · rw [h1] at hm'; exact hM f' args' c' hm' B w0 g h w vs v h' hv H hG hvs hK
  · rw [Qcj] at hm'
    cases hm'
    cases hv
    obtain ⟨l⟩:=vs
    obtain ⟨y,rfl⟩ : ∃ y,l = [y]:=by
      have:=hvs.len
      simp only [List.length_cons,List.length_nil] at this
      match l,this with
      | [y],_=>exact ⟨y,rfl⟩
    have hy:=hvs.head
    refine .inr ⟨y,g,w,?_,hy,H,Gam.le_refl g⟩
    rw [run_callFunc_extern hf hname hb hn he]
    rfl
end
end
end Go.Ab

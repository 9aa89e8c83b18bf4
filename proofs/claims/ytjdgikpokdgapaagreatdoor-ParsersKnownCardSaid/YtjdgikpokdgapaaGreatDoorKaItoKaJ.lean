/-
  A part of a proof: KaI KaJ.
-/
import Derived.Lib.MakeNoZero
import Derived.Test.YtjdgikpokdgapaaGreatDoorKaFtoKaU
set_option linter.all false
/-
  Functions without a body: abi.NoEscape and its like, which hand back what they are given.
-/
namespace Go.Ab
open Go Go.RowKit
noncomputable section

section
variable {P : Program} {G : Nat → Option (List AV)}

def sameA (v : AV) : AH → Option (AV × AH) := fun h => some (v, h)
def sameC (v : AV) : KCall := fun nx t k => k v nx t
theorem sameC_ok (v : AV) : KCallOk (sameC v) (sameA v) := fun nx t _ he => ⟨_, nx, t, rfl, he⟩

def onSame {α : Type} (f : FuncId) (yes : AV → α) (no : Option α) (f' : FuncId) (a' : List AV) : Option α :=
  @Bool.rec (fun _ => Option α) no (match a' with | [v] => some (yes v) | _ => no) (Nat.beq f' f)

theorem onSame_cases {α : Type} (f : FuncId) (yes : AV → α) (no : Option α) (f' : FuncId) (a' : List AV) : onSame f yes no f' a' = no ∨ ∃ v, f' = f ∧ a' = [v] := by
  unfold onSame
  cases hf : Nat.beq f' f with
  | false => exact .inl rfl
  | true =>
    show (match a' with | [v] => some (yes v) | _ => no) = no ∨ _
    split
    · rename_i v; exact .inr ⟨v, Nat.eq_of_beq_eq_true hf, rfl⟩
    · exact .inl rfl

theorem onSame_yes {α : Type} (f : FuncId) (yes : AV → α) (no : Option α) (v : AV) : onSame f yes no f [v] = some (yes v) := by
  unfold onSame
  have : Nat.beq f f = true := by simp
  rw [this]

theorem onSame_no {α β : Type} {f : FuncId} {yes : AV → α} {yes' : AV → β} {no : Option α} {no' : Option β} {f' : FuncId} {a' : List AV} :
    (onSame f yes no f' a' = no ∧ onSame f yes' no' f' a' = no') ∨ ∃ v, f' = f ∧ a' = [v] := by
  rcases onSame_cases f yes no f' a' with h1 | h1
  · rcases onSame_cases f yes' no' f' a' with h2 | h2
    · exact .inl ⟨h1, h2⟩
    · exact .inr h2
  · exact .inr h1

/-- A table with a function that hands back its argument. -/
def kmSame (f : FuncId) (M : KMemo) : KMemo := {
  has := fun f' => hasOr f (M.has f') f'
  hasNot := fun f' h args' => by
    obtain ⟨h1, h2⟩ := hasOr_false h
    have h3 : onSame f sameA (M.abs f' args') f' args' = M.abs f' args' := by unfold onSame; rw [h1]
    show onSame f sameA (M.abs f' args') f' args' = none
    rw [h3]; exact M.hasNot f' h2 args'
  run := fun f' a' => onSame f sameC (M.run f' a') f' a'
  abs := fun f' a' => onSame f sameA (M.abs f' a') f' a'
  ok := by
    intro f' a'
    rcases onSame_no (f := f) (yes := sameC) (yes' := sameA) (no := M.run f' a') (no' := M.abs f' a') (f' := f') (a' := a') with ⟨h1, h2⟩ | ⟨v, rfl, rfl⟩
    · rw [h1, h2]; exact M.ok f' a'
    · rw [onSame_yes, onSame_yes]
      exact ⟨fun h => (by cases h), fun kc h => (by cases h; exact ⟨_, rfl, sameC_ok v⟩)⟩ }

theorem memoOk_kmSame {M : KMemo} (hM : MemoOk P G (absM M)) {f : FuncId} {fn : Func} (hf : P.funcs[f]? = some fn) (hname : (fn.name == "runtime.NumGoroutine") = false) (hb : fn.body.isNone = true) (hn : Extern.findNext fn = none)
    (he : Extern.find fn = some Extern.AbiNoEscape.same) : MemoOk P G (absM (kmSame f M)) := by
  intro f' args' c' hm B w0 g h w vs v h' hv H hG hvs
  have hm' : onSame f sameA (M.abs f' args') f' args' = some c' := hm
  rcases onSame_cases f sameA (M.abs f' args') f' args' with h1 | ⟨x, rfl, rfl⟩
  · rw [h1] at hm'; exact hM f' args' c' hm' B w0 g h w vs v h' hv H hG hvs
  · rw [onSame_yes] at hm'
    cases hm'
    cases hv
    obtain ⟨l⟩ := vs
    obtain ⟨y, rfl⟩ : ∃ y, l = [y] := by
      have := hvs.len
      simp only [List.length_cons, List.length_nil] at this
      match l, this with
      | [y], _ => exact ⟨y, rfl⟩
    have hy := hvs.head
    refine .inr ⟨y, g, w, ?_, hy, H, Gam.le_refl g⟩
    rw [run_callFunc_extern hf hname hb hn he]
    rfl

end

end
end Go.Ab
/-
  Functions without a body: bytealg.MakeNoZero.
-/
namespace Go.Ab
open Go Go.RowKit
noncomputable section

section
variable {P : Program} {G : Nat → Option (List AV)}

def noZeroA (e n : Nat) : AH → Option (AV × AH) := fun h => if n < 1000000000000 then some (.slop h.next 0 n 1, h.alloc (.cells (List.replicate n .undef) (some (2 * e)) 0 [])) else none
def noZeroC (e n : Nat) : KCall := fun nx t k => ifF (Nat.blt n 1000000000000) (newRowK (List.replicate n .undef) (some (2 * e)) 0 [] nx t fun nx' t' => k (.slop nx 0 n 1) nx' t')
theorem noZeroC_ok (e n : Nat) : KCallOk (noZeroC e n) (noZeroA e n) := by
  intro nx t k he
  unfold noZeroC at he
  replace he := ifF_true he; obtain ⟨h1, he⟩ := he
  obtain ⟨t', k1, k2⟩ := newRowK_eq (List.replicate n .undef) (some (2 * e)) 0 [] nx t fun nx' t' => k (.slop nx 0 n 1) nx' t'
  rw [k1] at he
  refine ⟨_, _, t', ?_, he⟩
  unfold noZeroA
  rw [if_pos (Nat.blt_eq.mp h1), k2]
  rfl

theorem noZero_sound {CR : AC → Code → Prop} {B : Nat} {w0 : Anchor} {g : Gam} {h : AH} {w : World} (H : HR CR B w0 g h w) {ps : Array TypeId} {t e : TypeId} (ht : P.underlying t = some (.slice e)) {n : Nat} {vs : Array Value} (hvs : VRs g [.int .i64 n] vs.toList) {v : AV} {h' : AH}
    (hc : noZeroA e n h = some (v, h')) :
    ∃ u g' w', (Extern.BytealgMakeNoZero.makeNoZero ps #[t] vs).run P w = .ok u w' ∧ VR g' v u ∧ HR CR B w0 g' h' w' ∧ g.le g' := by
  obtain ⟨l⟩ := vs
  obtain ⟨x, rfl⟩ : ∃ x, l = [x] := by
    have := hvs.len
    simp only [List.length_cons, List.length_nil] at this
    match l, this with
    | [x], _ => exact ⟨x, rfl⟩
  have hx : VR g (.int .i64 n) x := hvs.head
  obtain rfl := hx.int_eq
  unfold noZeroA at hc
  split at hc
  · rename_i hn
    cases hc
    obtain ⟨cs, hrun, hcs, _⟩ := Lib.run_makeNoZero (P := P) w ps t e ht n (by omega)
    obtain ⟨H', hle⟩ := H.drew.drew.allocCells (List.replicate n .undef) (cs.toList.take n) (cs.toList.drop n) e (some (2 * e)) (by simp) 1 (fun x h => by cases h; omega) (VRs.replicate_undef n _ (by simp; omega))
    rw [List.take_append_drop, Array.toArray_toList] at H'
    refine ⟨_, _, _, hrun, ?_, H', hle⟩
    refine .sliceN _ _ _ _ _ _ _ _ Gam.bind_rho_same hcs (.inr rfl) ?_
    rw [Gam.bind_top_same]
    simp
    omega
  · cases hc

def onNoZero {α : Type} (f : FuncId) (yes : Nat → α) (no : Option α) (f' : FuncId) (a' : List AV) : Option α :=
  @Bool.rec (fun _ => Option α) no (match a' with | [.int .i64 (.ofNat n)] => some (yes n) | _ => no) (Nat.beq f' f)

theorem onNoZero_cases {α : Type} (f : FuncId) (yes : Nat → α) (no : Option α) (f' : FuncId) (a' : List AV) : onNoZero f yes no f' a' = no ∨ ∃ n : Nat, f' = f ∧ a' = [.int .i64 n] := by
  unfold onNoZero
  cases hf : Nat.beq f' f with
  | false => exact .inl rfl
  | true =>
    show (match a' with | [.int .i64 (.ofNat n)] => some (yes n) | _ => no) = no ∨ _
    split
    · rename_i n; exact .inr ⟨n, Nat.eq_of_beq_eq_true hf, rfl⟩
    · exact .inl rfl

theorem onNoZero_yes {α : Type} (f : FuncId) (yes : Nat → α) (no : Option α) (n : Nat) : onNoZero f yes no f [.int .i64 (n : Int)] = some (yes n) := by
  unfold onNoZero
  have : Nat.beq f f = true := by simp
  rw [this]

theorem onNoZero_no {α β : Type} {f : FuncId} {yes : Nat → α} {yes' : Nat → β} {no : Option α} {no' : Option β} {f' : FuncId} {a' : List AV} :
    (onNoZero f yes no f' a' = no ∧ onNoZero f yes' no' f' a' = no') ∨ ∃ n : Nat, f' = f ∧ a' = [.int .i64 n] := by
  rcases onNoZero_cases f yes no f' a' with h1 | h1
  · rcases onNoZero_cases f yes' no' f' a' with h2 | h2
    · exact .inl ⟨h1, h2⟩
    · exact .inr h2
  · exact .inr h1

/-- A table with bytealg.MakeNoZero. -/
def kmNoZero (f : FuncId) (e : Nat) (M : KMemo) : KMemo := {
  has := fun f' => hasOr f (M.has f') f'
  hasNot := fun f' h args' => by
    obtain ⟨h1, h2⟩ := hasOr_false h
    have h3 : onNoZero f (noZeroA e) (M.abs f' args') f' args' = M.abs f' args' := by unfold onNoZero; rw [h1]
    show onNoZero f (noZeroA e) (M.abs f' args') f' args' = none
    rw [h3]; exact M.hasNot f' h2 args'
  run := fun f' a' => onNoZero f (noZeroC e) (M.run f' a') f' a'
  abs := fun f' a' => onNoZero f (noZeroA e) (M.abs f' a') f' a'
  ok := by
    intro f' a'
    rcases onNoZero_no (f := f) (yes := noZeroC e) (yes' := noZeroA e) (no := M.run f' a') (no' := M.abs f' a') (f' := f') (a' := a') with ⟨h1, h2⟩ | ⟨n, rfl, rfl⟩
    · rw [h1, h2]; exact M.ok f' a'
    · rw [onNoZero_yes, onNoZero_yes]
      exact ⟨fun h => (by cases h), fun kc h => (by cases h; exact ⟨_, rfl, noZeroC_ok e n⟩)⟩ }

theorem memoOk_kmNoZero {M : KMemo} (hM : MemoOk P G (absM M)) {f : FuncId} {fn : Func} {ps : Array TypeId} {t e : TypeId} (ht : P.underlying t = some (.slice e)) (hf : P.funcs[f]? = some fn) (hname : (fn.name == "runtime.NumGoroutine") = false) (hb : fn.body.isNone = true)
    (hn : Extern.findNext fn = none) (he : Extern.find fn = some (Extern.BytealgMakeNoZero.makeNoZero ps #[t])) : MemoOk P G (absM (kmNoZero f e M)) := by
  intro f' args' c' hm B w0 g h w vs v h' hv H hG hvs
  have hm' : onNoZero f (noZeroA e) (M.abs f' args') f' args' = some c' := hm
  rcases onNoZero_cases f (noZeroA e) (M.abs f' args') f' args' with h1 | ⟨n, rfl, rfl⟩
  · rw [h1] at hm'; exact hM f' args' c' hm' B w0 g h w vs v h' hv H hG hvs
  · rw [onNoZero_yes] at hm'
    cases hm'
    obtain ⟨u, g', w', hrun, hu, H', hle⟩ := noZero_sound (P := P) (ps := ps) H ht hvs hv
    refine .inr ⟨u, g', w', ?_, hu, H', hle⟩
    rw [run_callFunc_extern hf hname hb hn he, hrun]
    rfl

end

end
end Go.Ab

/-
  The keys of a set of strings, sorted: what scope.sorted returns.
-/
import Derived.Sort.KeysCollected
import Derived.Maps.Own
import Derived.Sort.EncStr
import Derived.Test.YtjdgikpokdgapaaGreatDoorKaItoKaJ
set_option linter.all false
namespace Go.Ab
open Go Go.RowKit Go.Maps Go.Sort
open Go.WideElems (Fit rd rg rd_mk rg_of)
noncomputable section

def keysOf : List (AV × AV × Nat) → Option (List (Nat × Nat))
  | [] => some []
  | (.str n b, _, _) :: l => (keysOf l).map fun r => (n, b) :: r
  | _ => none
def insN (x : Nat × Nat) : List (Nat × Nat) → List (Nat × Nat)
  | [] => [x]
  | y :: l => if lessN x.1 x.2 y.1 y.2 then x :: y :: l else y :: insN x l
def sortN : List (Nat × Nat) → List (Nat × Nat)
  | [] => []
  | x :: l => insN x (sortN l)
def ascN : List (Nat × Nat) → Bool
  | x :: y :: l => lessN x.1 x.2 y.1 y.2 && ascN (y :: l)
  | _ => true
def bornOk (clock : Nat) : List (AV × AV × Nat) → Bool
  | x :: y :: l => Nat.blt x.2.2 y.2.2 && bornOk clock (y :: l)
  | [x] => Nat.blt x.2.2 clock
  | [] => true
def sortedKeys (es : List (AV × AV × Nat)) (clock : Nat) : Option (List (Nat × Nat)) :=
  match keysOf es with
  | some l => if ascN (sortN l) && bornOk clock es && l.all (fun x => Nat.blt x.1 1000000) && Nat.blt l.length 1000000 then some (sortN l) else none
  | none => none

def strA (x : Nat × Nat) : AV := .str x.1 x.2

def sortedA (e : Nat) (a : AV) : AH → Option (AV × AH) := fun h =>
  match a with
  | .nilmap => some (.nilslice, h)
  | .map b => match h.get b with
    | some (.map es clock) => match sortedKeys es clock with
      | some [] => some (.nilslice, h)
      | some (x :: l) => some (.slop h.next 0 (l.length + 1) 1, h.alloc (.cells ((x :: l).map strA) (some (2 * e)) 0 []))
      | none => none
    | _ => none
  | _ => none

def forceL : List (Nat × Nat) → (List AV → Bool) → Bool :=
  @List.rec (Nat × Nat) (fun _ => (List AV → Bool) → Bool) (fun k => k []) (fun x _ ih k => natF x.1 fun n => natF x.2 fun b => ih fun l => k (.str n b :: l))
theorem forceL_eq : ∀ (l : List (Nat × Nat)) (k : List AV → Bool), forceL l k = k (l.map strA)
  | [], k => rfl
  | x :: l, k => by
    show (natF x.1 fun n => natF x.2 fun b => forceL l fun l => k (.str n b :: l)) = _
    rw [natF_eq, natF_eq, forceL_eq l]
    rfl

def sortedC (e : Nat) (a : AV) : KCall := fun nx t k =>
  mapD a (k .nilslice nx t) fun b => objK b t fun o => mapoD o fun es clock => optF (sortedKeys es clock) fun ks =>
    @List.rec (Nat × Nat) (fun _ => Bool) (k .nilslice nx t) (fun _ l' _ => natF (List.length l' + 1) fun n => forceL ks fun l => newRowK l (some (2 * e)) 0 [] nx t fun nx' t' => k (.slop nx 0 n 1) nx' t') ks

theorem sortedC_ok (e : Nat) (a : AV) : KCallOk (sortedC e a) (sortedA e a) := by
  intro nx t k he
  simp only [sortedC, mapD_eq] at he
  split at he
  · exact ⟨_, nx, t, rfl, he⟩
  · rename_i b
    simp only [objK_eq, mapoD_eq, optF_eq] at he
    split at he
    · rename_i o ho
      split at he
      · rename_i es clock
        have hget : (absH nx t).get b = some (.map es clock) := by
          show (t.get b).map KO.abs = _
          rw [ho]; rfl
        split at he
        · rename_i ks hks
          cases ks with
          | nil => exact ⟨.nilslice, nx, t, by simp only [sortedA, hget, hks], he⟩
          | cons x l =>
            have he' : (natF (List.length l + 1) fun n => forceL (x :: l) fun l => newRowK l (some (2 * e)) 0 [] nx t fun nx' t' => k (.slop nx 0 n 1) nx' t') = true := he
            rw [natF_eq, forceL_eq] at he'
            obtain ⟨t', k1, k2⟩ := newRowK_eq ((x :: l).map strA) (some (2 * e)) 0 [] nx t fun nx' t' => k (.slop nx 0 (l.length + 1) 1) nx' t'
            rw [k1] at he'
            exact ⟨_, nx + 1, t', by simp only [sortedA, hget, hks]; rw [k2]; rfl, he'⟩
        · cases he
      · cases he
    · cases he
  · cases he

/-- The bytes of a string. -/
def byt (x : Nat × Nat) : List UInt8 := bsList x.1 x.2

theorem insN_perm (x : Nat × Nat) : ∀ l : List (Nat × Nat), (insN x l).Perm (x :: l)
  | [] => List.Perm.refl _
  | y :: l => by
    unfold insN
    split
    · exact List.Perm.refl _
    · exact ((insN_perm x l).cons y).trans (List.Perm.swap x y l)
theorem sortN_perm : ∀ l : List (Nat × Nat), (sortN l).Perm l
  | [] => List.Perm.refl _
  | x :: l => (insN_perm x (sortN l)).trans ((sortN_perm l).cons x)

theorem bytesLess_lt : ∀ (a b : List UInt8), Op.bytesLess a b = true → a < b
  | [], [], h => by simp [Op.bytesLess] at h
  | [], _ :: _, _ => by simp
  | _ :: _, [], h => by simp [Op.bytesLess] at h
  | a :: l, b :: m, h => by
    simp only [Op.bytesLess, Bool.or_eq_true, Bool.and_eq_true, decide_eq_true_iff, beq_iff_eq] at h
    rw [List.cons_lt_cons_iff]
    rcases h with h | ⟨h1, h2⟩
    · exact .inl h
    · exact .inr ⟨h1, bytesLess_lt l m h2⟩

theorem ascN_pairwise : ∀ l : List (Nat × Nat), ascN l = true → (l.map byt).Pairwise (· < ·)
  | [], _ => .nil
  | [x], _ => by simp
  | x :: y :: l, h => by
    simp only [ascN, Bool.and_eq_true] at h
    have ih := ascN_pairwise (y :: l) h.2
    have h1 : byt x < byt y := bytesLess_lt _ _ (by unfold byt; rw [← lessN_spec]; exact h.1)
    rw [List.map_cons, List.pairwise_cons]
    refine ⟨fun z hz => ?_, ih⟩
    rw [List.map_cons, List.mem_cons] at hz
    rcases hz with rfl | hz
    · exact h1
    · rw [List.map_cons, List.pairwise_cons] at ih
      exact List.lt_trans h1 (ih.1 z hz)

theorem bornOk_spec (clock : Nat) : ∀ es : List (AV × AV × Nat), bornOk clock es = true → (∀ x ∈ es, x.2.2 < clock) ∧ (es.map (·.2.2)).Pairwise (· < ·)
  | [], _ => ⟨fun x hx => (by cases hx), .nil⟩
  | [x], h => by
    have h' : x.2.2 < clock := Nat.blt_eq.mp h
    exact ⟨fun y hy => by simp at hy; subst hy; exact h', by simp⟩
  | x :: y :: l, h => by
    simp only [bornOk, Bool.and_eq_true, Nat.blt_eq] at h
    obtain ⟨h1, h2⟩ := bornOk_spec clock (y :: l) h.2
    refine ⟨fun z hz => ?_, ?_⟩
    · rcases List.mem_cons.1 hz with rfl | hz
      · exact Nat.lt_trans h.1 (h1 y (by simp))
      · exact h1 z hz
    · rw [List.map_cons, List.pairwise_cons]
      refine ⟨fun z hz => ?_, h2⟩
      rw [List.map_cons, List.mem_cons] at hz
      rcases hz with rfl | hz
      · exact h.1
      · rw [List.map_cons, List.pairwise_cons] at h2
        exact Nat.lt_trans h.1 (h2.1 z hz)

theorem keysOf_spec : ∀ {es : List (AV × AV × Nat)} {l : List (Nat × Nat)}, keysOf es = some l → l.length = es.length ∧ ∀ i (h1 : i < es.length) (h2 : i < l.length), es[i].1 = .str l[i].1 l[i].2
  | [], l, h => by cases h; exact ⟨rfl, fun i h1 => absurd h1 (by simp)⟩
  | x :: es, l, h => by
    unfold keysOf at h
    split at h
    · rename_i e; cases e
    · rename_i n b q1 q2 l' e
      cases e
      obtain ⟨r, hr, rfl⟩ := Option.map_eq_some_iff.1 h
      obtain ⟨h1, h2⟩ := keysOf_spec hr
      refine ⟨by simp [h1], fun i k1 k2 => ?_⟩
      cases i with
      | zero => rfl
      | succ i => exact h2 i (by simpa using k1) (by simpa using k2)
    · cases h

end
end Go.Ab

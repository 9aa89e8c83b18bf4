/-
  scope.sorted, as a contract of the abstract machine.
-/
import Derived.Test.YtjdgikpokdgapaaGreatDoorKV
set_option linter.all false
namespace Go.Ab
open Go Go.RowKit Go.Maps Go.Sort Go.Proofs
open Go.WideElems (Fit rd rg rd_mk rg_of)
noncomputable section
section
variable {P : Program} {G : Nat → Option (List AV)}

/-- What the program's function does, of any map. -/
def SortedCalls (P : Program) (f : FuncId) (e : TypeId) : Prop :=
  ∀ (b nn : Nat) (D0 : DataW Unit) (R : Value → Option (DataW Unit × List MemPlace)) (w : World), w.ownsMap P e R b nn D0 → Maps.size D0 ≤ maxLen → Maps.size D0 * 16 ≤ 140737488355328 →
    Calls P f #[.map (some b)] w fun x w' => ∃ (v : Value) (ss : List (List UInt8)), x = .returned v ∧ ss.Perm (strKeys D0) ∧
      w'.ownsRow w.heap.size e 1 v ss.length ((ss.mergeSort (fun x y => decide (x ≤ y))).map encStr) ∧ (v = .slice none 0 0 ↔ ss = []) ∧ Below w.heap.size w w'
def SortedNil (P : Program) (f : FuncId) : Prop := ∀ w : World, Calls P f #[.map none] w fun x w' => x = .returned (.slice none 0 0) ∧ Below w.heap.size w w'

theorem foldr_insert_perm {H : Type} : ∀ l : List (Lit × DataW H), (l.foldr DataW.insert []).Perm l
  | [] => List.Perm.refl _
  | x :: l => (WideShapes.insert_perm x _).trans ((foldr_insert_perm l).cons x)

theorem merge_unique {ss : List (List UInt8)} {l : List (Nat × Nat)} (hp : ss.Perm (l.map byt)) (ha : ascN (sortN l) = true) : ss.mergeSort (fun x y => decide (x ≤ y)) = (sortN l).map byt := by
  have h1 : List.Pairwise (fun a b : List UInt8 => a ≤ b) (ss.mergeSort fun x y => decide (x ≤ y)) := by
    have := List.pairwise_mergeSort (le := fun x y : List UInt8 => decide (x ≤ y)) (fun a b c h1 h2 => by simp only [decide_eq_true_iff] at *; exact List.le_trans h1 h2) (fun a b => by
      simp only [Bool.or_eq_true, decide_eq_true_iff]; exact List.le_total a b) ss
    exact this.imp fun h => by simpa using h
  have h2 : List.Pairwise (fun a b : List UInt8 => a ≤ b) ((sortN l).map byt) := (ascN_pairwise _ ha).imp fun h => List.le_of_lt h
  exact List.Perm.eq_of_pairwise (fun a b _ _ h1 h2 => List.le_antisymm h1 h2) h1 h2 ((List.mergeSort_perm _ _).trans (hp.trans ((sortN_perm l).map byt).symm))

/-- The set, as the kit reads a map. -/
theorem owns_of {CR : AC → Code → Prop} {B : Nat} {w0 : Anchor} {g : Gam} {h : AH} {w : World} (H : HR CR B w0 g h w) {e : TypeId} (hk : P.underlying e = some .string) {b β : Nat} (hb : g.rho b = some (β, 0)) {es : List (AV × AV × Nat)} {clock : Nat} (hg : h.get b = some (.map es clock))
    {ks : List (Nat × Nat)} (hs : sortedKeys es clock = some ks) : ∃ (D0 : DataW Unit) (l : List (Nat × Nat)), w.ownsMap P e (fun _ => some (.nil, [])) β es.length D0 ∧ Maps.size D0 = es.length ∧ es.length < 1000000 ∧ (strKeys D0).Perm (l.map byt) ∧ ks = sortN l ∧ ascN (sortN l) = true ∧ ∀ x ∈ l, x.2 < 256 ^ x.1 := by
  unfold sortedKeys at hs
  split at hs
  · rename_i l hl
    split at hs
    · rename_i hc
      simp only [Bool.and_eq_true, Nat.blt_eq] at hc
      obtain ⟨⟨⟨ha, hborn⟩, hsmall⟩, hlen⟩ := hc
      cases hs
      obtain ⟨hll, hkey⟩ := keysOf_spec hl
      have hobj := H.obj b β 0 _ hb hg
      cases hobj with
      | map _ _ entries hw _ hel hent =>
        have hk1 : ∀ i (h1 : i < entries.size) (h2 : i < l.length), entries[i].key = encStr (byt l[i]) ∧ l[i].2 < 256 ^ l[i].1 := fun i h1 h2 => by
          have := (hent i (by omega) h1).key
          rw [hkey i (by omega) h2] at this
          exact this.str_eq
        have hkeys : entries.toList.map (·.key) = (l.map byt).map encStr := by
          refine List.ext_getElem (by simp; omega) fun i h1 h2 => ?_
          simp only [List.getElem_map, Array.getElem_toList]
          exact (hk1 i (by simpa using h1) (by simpa using h2)).1
        have hsm : ∀ x ∈ l, x.1 < 1000000 := fun x hx => by
          have := List.all_eq_true.1 hsmall x hx
          simpa using this
        have hread : ∀ i (h1 : i < entries.size) (h2 : i < l.length), rd P e (fun _ => some ((.nil : DataW Unit), [])) entries[i] = some (.string (byt l[i]), .nil) := fun i h1 h2 => by
          have hk2 := (hk1 i h1 h2).1
          have hx := hsm l[i] (List.getElem_mem h2)
          unfold rd
          rw [hk2]
          have hlen : (byt l[i]).length ≤ maxLen := by
            unfold byt
            rw [length_bsList]
            unfold maxLen
            omega
          have h3 : keyOf P e (encStr (byt l[i])) = some (.string (byt l[i])) := by
            rw [Go.WideMaps.keyOf_string_mk hk (show (ByteArray.mk (byt l[i]).toArray).size ≤ maxLen from by show (byt l[i]).toArray.size ≤ maxLen; simpa using hlen)]
          simp [h3]
        have hborns := bornOk_spec clock es hborn
        have hbb : entries.toList.map (·.born) = es.map (·.2.2) := by
          refine List.ext_getElem (by simp; omega) fun i h1 h2 => ?_
          simp only [List.getElem_map, Array.getElem_toList]
          exact ((hent i (by simpa using h2) (by simpa using h1)).born).symm
        have hstr : entries.toList.map (fun x => strOf (rg P e (fun _ => some ((.nil : DataW Unit), [])) x).1) = l.map byt := by
          refine List.ext_getElem (by simp; omega) fun i h1 h2 => ?_
          simp only [List.getElem_map, Array.getElem_toList]
          rw [rg_of (hread i (by simpa using h1) (by simpa using h2))]
          rfl
        refine ⟨.map ((entries.toList.map (rg P e fun _ => some (.nil, []))).foldr DataW.insert []), l, ⟨entries, clock, hw, ⟨?_, ⟨?_, ?_, ?_⟩, ?_⟩, by omega, rfl⟩, ?_, by omega, ?_, rfl, ha, fun x hx => ?_⟩
        · unfold maxLen; omega
        · intro x hx
          obtain ⟨i, hi, rfl⟩ := List.getElem_of_mem hx
          have h2 : entries.toList[i].born = (es[i]'(by simp at hi; omega)).2.2 := by
            have := (hent i (by simp at hi; omega) (by simpa using hi)).born
            simpa using this.symm
          rw [h2]
          exact hborns.1 _ (List.getElem_mem _)
        · rw [hbb]; exact hborns.2.imp fun h => Nat.ne_of_lt h
        · rw [hkeys]
          have hnd : (l.map byt).Nodup := by
            have h1 : ((sortN l).map byt).Nodup := (ascN_pairwise _ ha).imp fun {a b} h e => by subst e; exact List.lt_irrefl a h
            exact (((sortN_perm l).map byt).nodup_iff).1 h1
          exact List.Pairwise.map encStr (fun a b hab h => hab (encStr_inj h)) hnd
        · intro x hx
          obtain ⟨i, hi, rfl⟩ := List.getElem_of_mem hx
          have hi' : i < entries.size := by simpa using hi
          exact ⟨_, by simpa using hread i hi' (by omega)⟩
        · show (List.foldr DataW.insert [] _).length = _
          rw [(foldr_insert_perm _).length_eq]
          simp; omega
        · show (List.map _ (List.foldr DataW.insert [] _)).Perm _
          rw [← hstr]
          have := (foldr_insert_perm (entries.toList.map (rg P e fun _ => some ((.nil : DataW Unit), [])))).map (fun p => strOf p.1)
          simpa [List.map_map, Function.comp_def] using this
        · obtain ⟨i, hi, rfl⟩ := List.getElem_of_mem hx
          exact (hk1 i (by omega) hi).2
    · cases hs
  · cases hs

/-- A new row in a world that has grown, in the context of before. -/
theorem new_row {CR : AC → Code → Prop} {B : Nat} {w0 : Anchor} {g : Gam} {h : AH} {w w' : World} (H : HR CR B w0 g h w) (hbel : Below w.heap.size w w') {e β cap : Nat} {cur : Array Value} {l : List AV} (hβ : w.heap.size ≤ β) (hb : w'.heap[β]? = some (.cells cur e (0, 0))) (hn : l.length ≤ cap) (hcap : cur.size = cap)
    (hv : ∀ i (h1 : i < l.length), ∃ v, cur[i]? = some v ∧ ∀ g, VR g l[i] v) (hren : ∀ (r : Nat → Option Nat) i (h1 : i < l.length), Ren r l[i] l[i]) :
    ∃ g', VR g' (.slop h.next 0 l.length 1) (.slice (some ⟨β, 0, none⟩) l.length cap) ∧ HR CR B w0 g' (h.alloc (.cells l (some (2 * e)) 0 [])) w' ∧ g.le g' := by
  let g1 : Gam := ⟨fun x => if x = 0 then some (β, 0) else none, fun _ => 0, fun _ => cap, fun _ _ => none⟩
  let h1 : AH := ⟨fun x => if x = 0 then some (.cells l (some (2 * e)) 0 []) else none, 1⟩
  have hlt : β < w'.heap.size := by
    rcases Nat.lt_or_ge β w'.heap.size with h2 | h2
    · exact h2
    · rw [Array.getElem?_eq_none h2] at hb; cases hb
  have hrow : RowR g1 w' β 0 l cap := ⟨cur, e, hb, by omega, hn, fun i hi => by
    obtain ⟨v, h2, h3⟩ := hv i hi
    exact ⟨v, by rw [Nat.zero_add]; exact h2, h3 g1⟩⟩
  have hobj : ObjR CR g1 w' 0 β 0 (.cells l (some (2 * e)) 0 []) := .cells l _ 0 [] (Nat.zero_le _) (fun h => by cases h) (fun e' he => by
    cases he
    exact ⟨⟨cur, by rw [Nat.mul_div_cancel_left e (by omega : 0 < 2)]; exact hb⟩, fun _ => rfl⟩) hrow
  have H' : HR CR w.heap.size ⟨w, fun _ => False⟩ g1 h1 w' := by
    refine ⟨fun b hb2 => ?_, fun b hb2 => ?_, fun b x hx => ?_, fun b β' base o hr ho => ?_, fun b b' β1 base base' o o' hr hr' _ _ hne => ?_, fun _ _ _ hm => (by cases hm), fun _ _ _ _ _ _ _ => rfl, fun b β' base o hr ho => ?_, hbel, Nat.le_refl _, fun _ hb2 => hb2.elim⟩
    · have hb3 : 1 ≤ b := hb2
      exact if_neg (by omega)
    · have hb3 : 1 ≤ b := hb2
      exact if_neg (by omega)
    · have hx' : (if b = 0 then some (β, 0) else none) = some x := hx
      split at hx'
      · cases hx'; exact hlt
      · cases hx'
    · have hr' : (if b = 0 then some (β, 0) else none) = some (β', base) := hr
      have ho' : (if b = 0 then some (AO.cells l (some (2 * e)) 0 []) else none) = some o := ho
      split at hr'
      · rename_i hb0
        cases hr'
        rw [if_pos hb0] at ho'
        cases ho'
        subst hb0
        exact hobj
      · cases hr'
    · have h2 : (if b = 0 then some (β, 0) else none) = some (β1, base) := hr
      have h3 : (if b' = 0 then some (β, 0) else none) = some (β1, base') := hr'
      split at h2
      · split at h3
        · omega
        · cases h3
      · cases h2
    · have hr' : (if b = 0 then some (β, 0) else none) = some (β', base) := hr
      split at hr'
      · cases hr'; exact hβ
      · cases hr'
  have hvr : VR g1 (.slop 0 0 l.length 1) (.slice (some ⟨β, 0, none⟩) l.length cap) := .sliceN 0 0 l.length 1 cap β 0 ⟨β, 0, none⟩ rfl hn (.inr rfl) (by show 0 + cap * 1 = cap; omega)
  have hsel : selR [0] h.next 0 = some h.next := by
    have := selR_of (sel := [0]) (by simp) (n := h.next) (i := 0) (b := 0) rfl
    simpa using this
  have ht : Taken [0] h.next h1 (.slop 0 0 l.length 1) (.slop h.next 0 l.length 1) [.cells l (some (2 * e)) 0 []] := by
    refine ⟨.slop 0 0 l.length 1 h.next hsel, rfl, fun i b hi => ?_⟩
    match i, hi with
    | 0, hi =>
      cases hi
      exact ⟨_, _, rfl, rfl, .cells l l (some (2 * e)) 0 [] ⟨rfl, fun j k1 k2 => hren _ j k1⟩⟩
  obtain ⟨j1, j2, j3⟩ := HR.join H H' (by simp) ht hvr
  exact ⟨_, j1, j2, j3⟩

/-- A table with a function that sorts the keys of a set. -/
def kmSorted (f : FuncId) (e : TypeId) (M : KMemo) : KMemo := {
  has := fun f' => hasOr f (M.has f') f'
  hasNot := fun f' h args' => by
    obtain ⟨h1, h2⟩ := hasOr_false h
    have h3 : onSame f (sortedA e) (M.abs f' args') f' args' = M.abs f' args' := by unfold onSame; rw [h1]
    show onSame f (sortedA e) (M.abs f' args') f' args' = none
    rw [h3]; exact M.hasNot f' h2 args'
  run := fun f' a' => onSame f (sortedC e) (M.run f' a') f' a'
  abs := fun f' a' => onSame f (sortedA e) (M.abs f' a') f' a'
  ok := by
    intro f' a'
    rcases onSame_no (f := f) (yes := sortedC e) (yes' := sortedA e) (no := M.run f' a') (no' := M.abs f' a') (f' := f') (a' := a') with ⟨h1, h2⟩ | ⟨v, rfl, rfl⟩
    · rw [h1, h2]; exact M.ok f' a'
    · rw [onSame_yes, onSame_yes]
      exact ⟨fun h => (by cases h), fun kc h => (by cases h; exact ⟨_, rfl, sortedC_ok e v⟩)⟩ }

theorem memoOk_kmSorted {M : KMemo} (hM : MemoOk P G (absM M)) {f : FuncId} {e : TypeId} (hk : P.underlying e = some .string) (hbody : ∃ fn, P.funcs[f]? = some fn ∧ fn.body.isSome = true ∧ fn.name ≠ "runtime.NumGoroutine") (hs : SortedCalls P f e) (hnil : SortedNil P f) :
    MemoOk P G (absM (kmSorted f e M)) := by
  intro f' args' c' hm B w0 g h w vs v h' hv H hG hvs
  have hm' : onSame f (sortedA e) (M.abs f' args') f' args' = some c' := hm
  rcases onSame_cases f (sortedA e) (M.abs f' args') f' args' with h1 | ⟨x, rfl, rfl⟩
  · rw [h1] at hm'; exact hM f' args' c' hm' B w0 g h w vs v h' hv H hG hvs
  · rw [onSame_yes] at hm'
    cases hm'
    obtain ⟨lv⟩ := vs
    obtain ⟨y, rfl⟩ : ∃ y, lv = [y] := by
      have := hvs.len
      simp only [List.length_cons, List.length_nil] at this
      match lv, this with
      | [y], _ => exact ⟨y, rfl⟩
    have hy : VR g x y := hvs.head
    refine .inl ⟨hbody, fun C => ?_⟩
    unfold sortedA at hv
    split at hv
    · cases hv
      cases hy
      obtain ⟨x, w', fr, ⟨rfl, hb⟩, rest⟩ := hnil w C
      exact ⟨_, w', fr, ⟨_, g, rfl, .nilslice, H.grow hb, Gam.le_refl g⟩, rest⟩
    · rename_i b
      split at hv
      · rename_i es clock hget
        cases hy with
        | map _ β hb =>
        split at hv
        · rename_i hks
          cases hv
          obtain ⟨D0, l, hown, hsz, hlt, hperm, hsort, hasc, hbd⟩ := owns_of H hk hb hget hks
          obtain ⟨x, w', fr, ⟨v, ss, rfl, hp, hrow, hv0, hbel⟩, rest⟩ := hs β es.length D0 _ w hown (by rw [hsz]; unfold maxLen; omega) (by rw [hsz]; omega) C
          have hmu := merge_unique (hp.trans hperm) hasc
          rw [← hsort] at hmu
          have hss : ss = [] := by
            have h2 := (List.mergeSort_perm ss (fun x y => decide (x ≤ y))).length_eq
            rw [hmu] at h2
            exact List.eq_nil_of_length_eq_zero (by simpa using h2.symm)
          rw [hv0.2 hss] at rest
          exact ⟨_, w', fr, ⟨_, g, rfl, .nilslice, H.grow hbel, Gam.le_refl g⟩, rest⟩
        · rename_i x l0 hks
          cases hv
          obtain ⟨D0, l, hown, hsz, hlt, hperm, hsort, hasc, hbd⟩ := owns_of H hk hb hget hks
          obtain ⟨xx, w', fr, ⟨v, ss, rfl, hp, hrow, hv0, hbel⟩, rest⟩ := hs β es.length D0 _ w hown (by rw [hsz]; unfold maxLen; omega) (by rw [hsz]; omega) C
          have hmu := merge_unique (hp.trans hperm) hasc
          rw [← hsort] at hmu
          have hlen : ss.length = l0.length + 1 := by
            have h2 := (List.mergeSort_perm ss (fun x y => decide (x ≤ y))).length_eq
            rw [hmu] at h2
            simpa using h2.symm
          rw [hmu] at hrow
          obtain ⟨hr1, hr2⟩ := hrow
          rcases hr2 with ⟨_, h0⟩ | ⟨γ, cap, cur, rfl, hγ, hcur, hncap, hcapm, hcsz, htake⟩
          · omega
          · rw [Nat.mul_one] at hcsz htake
            have hbs : ∀ z, z ∈ x :: l0 → z.2 < 256 ^ z.1 := fun z hz => hbd z (by rw [hsort] at hz; exact (sortN_perm l).mem_iff.1 hz)
            obtain ⟨g', k1, k2, k3⟩ := new_row (e := e) (cap := cap) (l := (x :: l0).map strA) H hbel hγ hcur (by simp only [List.length_map, List.length_cons]; omega) hcsz (fun i h1 => by
              refine ⟨encStr (byt ((x :: l0)[i]'(by simpa using h1))), ?_, fun g => ?_⟩
              · have h2 : i < ss.length := by rw [hlen]; simpa using h1
                have h3 : cur.toList[i]? = (cur.toList.take ss.length)[i]? := by rw [List.getElem?_take]; simp [h2]
                rw [← Array.getElem?_toList, h3, htake]
                have h4 : i < (List.map byt (x :: l0)).length := by simpa using h1
                rw [List.getElem?_map, List.getElem?_map, List.getElem?_eq_getElem (by simpa using h1)]
                rfl
              · rw [List.getElem_map]
                exact .str _ _ (hbs _ (List.getElem_mem _))) (fun r i h1 => by rw [List.getElem_map]; exact .str _ _)
            refine ⟨_, w', fr, ⟨_, g', rfl, ?_, k2, k3⟩, rest⟩
            rw [hlen]
            simpa using k1
        · cases hv
      · cases hv
    · cases hv
end
end
end Go.Ab

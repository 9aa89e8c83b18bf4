/-
  A part of a proof: AbZ AbQ.
-/
import Derived.Lib.UnsafeStr
import Derived.Test.YtjdgikpokdgapaaGreatDoorAbAtoAbY
set_option linter.all false
/-
  exec is sound, operation by operation.
-/
namespace Go.Ab
open Go Go.RowKit

section
variable {CR : AC → Code → Prop} {B : Nat} {w0 : Anchor} {g g' : Gam} {h h' : AH} {w w' : World} {P : Program} {G : Nat → Option (List AV)}

theorem minMax_spec (mx : Bool) : ∀ (rest : List AV) (us : List Value) (v r : AV) (u : Value), VR g v u → VRs g rest us → minMaxF mx v rest = some r →
    ∃ x, (us.foldlM (if mx then Builtin.max2 else Builtin.min2) u).run P w = .ok x w ∧ VR g r x
  | [], [], v, r, u, hv, _, hr => by cases hr; exact ⟨u, by simp, hv⟩
  | [], _ :: _, _, _, _, _, hl, _ => by have := hl.len; simp at this
  | _ :: _, [], _, _, _, _, hl, _ => by have := hl.len; simp at this
  | y :: rest, u2 :: us, v, r, u, hv, hl, hr => by
    unfold minMaxF at hr
    split at hr
    · simp at *
    · rename_i j a k b rest' heq
      cases heq
      split at hr
      · rename_i hjk
        subst hjk
        cases hv
        have h2 := hl.head
        cases h2
        obtain ⟨x, hx, hxr⟩ := minMax_spec mx rest us _ r _ (.int j (if mx then (if b > a then b else a) else (if b < a then b else a))) hl.tail hr
        refine ⟨x, ?_, hxr⟩
        cases mx <;> simp_all [Builtin.max2, Builtin.min2]
      · cases hr
    · cases hr

theorem run_len {k : Nat} {x : AV} {n : Nat} {u : Value} {t ty : TypeId} (H : HR CR B w0 g h w) (hl : lenK h k x = some n) (hx : VR g x u)
    (ht : (k = 0 ∧ P.underlying t = some .string) ∨ (k = 1 ∧ ∃ e, P.underlying t = some (.slice e)) ∨ (k = 2 ∧ ∃ a e, P.underlying t = some (.map a e))) : (Builtin.len_ #[t] ty #[u]).run P w = .ok (goInt n) w := by
  rcases ht with ⟨rfl, ht⟩ | ⟨rfl, e, ht⟩ | ⟨rfl, a, e, ht⟩
  · cases hx <;> simp only [lenK, reduceCtorEq, Option.some.injEq] at hl
    subst hl
    simp [Builtin.len_, run_underlying ht, size_bsOf]
  · cases hx <;> simp only [lenK, reduceCtorEq, Option.some.injEq] at hl
    all_goals (subst hl; simp [Builtin.len_, run_underlying ht])
  · cases hx <;> simp only [lenK, reduceCtorEq, Option.some.injEq] at hl
    · subst hl; simp [Builtin.len_, run_underlying ht]
    · rename_i b β hrho
      split at hl
      · rename_i es clock hget
        cases hl
        have hobj := H.obj b β 0 _ hrho hget
        cases hobj with
        | map es clock entries hw hb hl he => simp [Builtin.len_, run_underlying ht, run_getMap hw, hl]
      · cases hl

theorem gives_append (H : HR CR B w0 g h w) {t u ty e : TypeId} {s x r : AV} {us ux : Value} {i : TypeInfo} {z : Value} {zl : List AV} (ht : P.underlying t = some (.slice e)) (hu : ∀ k, P.underlying u ≠ some (.int k)) (hu' : (P.underlying u).isSome = true)
    (hi : P.info? e = some i) (hz : i.zero = some z) (hzl : zl.length = i.size) (hzr : VRs g zl z.cells.toList) {n : Nat} {xs : List AV} (hn : lenA x = some n) (hx : elemsA h i.size n x = some xs) (ha : appendA i.size i.bytes (2 * e) h n xs s = some (r, h'))
    (hs : VR g s us) (hxv : VR g x ux) : Gives CR B w0 g r h' ((Builtin.append_ #[t, u] ty #[us, ux]).run P w) := by
  obtain ⟨vs, hvs, hrun, h0⟩ := elemsA_spec (P := P) H hx hxv
  have hlen : ∀ W, (Builtin.lenOf ux).run P W = .ok n W := by
    intro W
    rcases lenA_spec hn hxv with ⟨a, c, rfl⟩ | ⟨rfl, rfl⟩ | ⟨s, rfl, rfl⟩
    · rfl
    · cases hxv with
      | nilmap => simp [elemsA] at hx
      | _ => simp [elemsA] at hx
    · rfl
  have hzs : z.cells.size = i.size := by have := hzr.len; simp at this; omega
  obtain ⟨g', w', r', h1, h2, h3, h4⟩ := H.append (ty := ty) (sT := t) (xT := u) (elem := e) (x := ux) (us := vs) (fun W hW => ⟨ht, hu, hu', ⟨i, hi, rfl, rfl, z, hz, hzs⟩, hlen W, hrun W hW⟩) ha hs hvs h0
  exact ⟨g', w', r', h1, h2, h3, h4⟩

theorem gives_copy (H : HR CR B w0 g h w) {t u ty e : TypeId} {size : Nat} (ht : P.underlying t = some (.slice e)) (hs : sizeT P e = some size) {d s r : AV} {ud us : Value} {n m : Nat} (hn : lenA s = some n) (hm : lenA d = some m) {xs : List AV}
    (hx : elemsA h size (min n m) s = some xs)
    (hr : (match (generalizing := false) d with | .slice b o _ _ | .slop b o _ _ => (h.store b o xs).map fun h' => (AV.int .i64 (min n m : Nat), h') | .nilslice | .empty => some (.int .i64 0, h) | _ => none) = some (r, h')) (hd : VR g d ud) (hsv : VR g s us) :
    ∃ w', (Builtin.copy_ #[t, u] ty #[ud, us]).run P w = .ok (goInt (min n m : Nat)) w' ∧ HR CR B w0 g h' w' ∧ VR g r (goInt (min n m : Nat)) := by
  obtain ⟨vs, hvs, hrun, h0⟩ := elemsA_spec (P := P) H hx hsv
  have hrun' := hrun w (fun _ => rfl)
  have hlen : (Builtin.lenOf us).run P w = .ok n w := by
    rcases lenA_spec hn hsv with ⟨a, c, rfl⟩ | ⟨rfl, rfl⟩ | ⟨s, rfl, rfl⟩
    · rfl
    · cases hsv with
      | nilmap => simp [elemsA] at hx
      | _ => simp [elemsA] at hx
    · rfl
  have hmin : ∀ a b : Nat, Nat.min a b = min a b := fun _ _ => rfl
  cases hd with
  | nilslice =>
    cases hm
    simp only [Option.some.injEq, Prod.mk.injEq] at hr
    obtain ⟨rfl, rfl⟩ := hr
    have hv0 := h0 (by simp)
    subst hv0
    simp only [Nat.min_zero] at hrun' ⊢
    exact ⟨w, by simp [Builtin.copy_, run_underlying ht, hlen, run_sizeOf hs, hrun'], H, .int _ _⟩
  | empty a =>
    cases hm
    simp only [Option.some.injEq, Prod.mk.injEq] at hr
    obtain ⟨rfl, rfl⟩ := hr
    have hv0 := h0 (by simp)
    subst hv0
    simp only [Nat.min_zero] at hrun' ⊢
    exact ⟨w, by simp [Builtin.copy_, run_underlying ht, hlen, run_sizeOf hs, hrun', storeCells], H, .int _ _⟩
  | sliceC b o m' c β base hrho hmc =>
    cases hm
    obtain ⟨h1, hst, heq⟩ := Option.map_eq_some_iff.1 hr
    simp only [Prod.mk.injEq] at heq
    obtain ⟨rfl, rfl⟩ := heq
    obtain ⟨w', hw', H'⟩ := H.store (P := P) hrho hst hvs
    exact ⟨w', by simp [Builtin.copy_, run_underlying ht, hlen, run_sizeOf hs, hrun', hmin, hw'], H', .int _ _⟩
  | sliceN b o m' es c β base a hrho hmc ha htop =>
    cases hm
    obtain ⟨h1, hst, heq⟩ := Option.map_eq_some_iff.1 hr
    simp only [Prod.mk.injEq] at heq
    obtain ⟨rfl, rfl⟩ := heq
    obtain ⟨w', hw', H'⟩ := H.store (P := P) hrho hst hvs
    rcases ha with rfl | rfl
    · have : m = 0 := by omega
      subst this
      have hv0 := h0 (by simp)
      subst hv0
      have e : w' = w := by
        have : (storeCells ⟨β, base + o, none⟩ ([] : List Value) 0).run P w = .ok () w := rfl
        rw [this] at hw'
        cases hw'; rfl
      subst e
      refine ⟨w', ?_, H', .int _ _⟩
      simp only [Nat.min_zero] at hrun' ⊢
      simp [Builtin.copy_, run_underlying ht, hlen, run_sizeOf hs, hrun', storeCells]
    · exact ⟨w', by simp [Builtin.copy_, run_underlying ht, hlen, run_sizeOf hs, hrun', hmin, hw'], H', .int _ _⟩
  | _ => first | (simp [lenA] at hm; done) | simp at hr

theorem flatten_zero : ∀ (n : Nat) (z : Array Value), (Builtin.zeroCells z n).toList = (List.replicate n z.toList).flatten := by
  intro n z
  induction n with
  | zero => simp [Builtin.zeroCells]
  | succ n ih =>
    rw [List.replicate_succ', List.flatten_append, ← ih]
    apply List.ext_getElem
    · simp [Builtin.zeroCells, Nat.succ_mul]
    · intro j h1 h2
      simp only [Builtin.zeroCells, Array.toList_map, Array.toList_range, List.getElem_map, List.getElem_range, List.flatten_cons, List.flatten_nil, List.append_nil, List.getElem_append, List.length_map, List.length_range]
      split
      · rfl
      · rename_i hj
        have h3 : j < (n + 1) * z.size := by simpa [Builtin.zeroCells] using h1
        have hj' : n * z.size ≤ j := Nat.le_of_not_lt hj
        have h4 : j - n * z.size < z.size := by rw [Nat.succ_mul] at h3; omega
        have e : j % z.size = j - n * z.size := by
          have h5 := Nat.sub_mul_mod (x := j) (k := n) (n := z.size) (by rw [Nat.mul_comm]; exact hj')
          rw [← h5, Nat.mul_comm z.size n, Nat.mod_eq_of_lt h4]
        rw [e, getElem!_pos z _ h4]
        simp

theorem VRs.zeros {g : Gam} {l : List AV} {vs : List Value} (h : VRs g l vs) : ∀ n : Nat, VRs g (List.replicate n l).flatten (List.replicate n vs).flatten
  | 0 => VRs.nil g
  | n + 1 => by
    rw [List.replicate_succ, List.replicate_succ, List.flatten_cons, List.flatten_cons]
    exact VRs.append h (VRs.zeros h n)

theorem gives_clearSl (H : HR CR B w0 g h w) {t ty e : TypeId} (ht : P.underlying t = some (.slice e)) {i : TypeInfo} (hi : P.info? e = some i) {zv : Value} (hzv : i.zero = some zv) {z : List AV} (hz : VRs g z zv.cells.toList) {x r : AV} {ux : Value} (hx : VR g x ux)
    (hr : (match (generalizing := false) x with | .nilslice | .empty => some (AV.tuple [], h) | .slice b o n _ | .slop b o n _ => if n == 0 then some (.tuple [], h) else (h.store b o (List.replicate n z).flatten).map fun h' => (.tuple [], h') | _ => none) = some (r, h')) :
    ∃ w', (Builtin.clear_ #[t] ty #[ux]).run P w = .ok (.tuple #[]) w' ∧ HR CR B w0 g h' w' ∧ r = .tuple [] := by
  cases hx with
  | nilslice =>
    cases hr
    exact ⟨w, by simp [Builtin.clear_, run_underlying ht], H, rfl⟩
  | empty a =>
    cases hr
    refine ⟨w, ?_, H, rfl⟩
    cases a <;> simp [Builtin.clear_, run_underlying ht]
  | sliceC b o m' c β base hrho hmc =>
    simp only at hr
    split at hr
    · rename_i h0
      cases hr
      have : m' = 0 := by simpa using h0
      subst this
      exact ⟨w, by simp [Builtin.clear_, run_underlying ht], H, rfl⟩
    · rename_i h0
      have hne : m' ≠ 0 := by simpa using h0
      obtain ⟨h1, hst, heq⟩ := Option.map_eq_some_iff.1 hr
      simp only [Prod.mk.injEq] at heq
      obtain ⟨rfl, rfl⟩ := heq
      obtain ⟨w', hw', H'⟩ := H.store (P := P) hrho hst (hz.zeros m')
      rw [← flatten_zero] at hw'
      refine ⟨w', ?_, H', rfl⟩
      cases m' with
      | zero => exact absurd rfl hne
      | succ m' => simp [Builtin.clear_, run_underlying ht, zeroValue, typeInfo, hi, hzv, hw']
  | sliceN b o m' es c β base a hrho hmc ha htop =>
    simp only at hr
    split at hr
    · rename_i h0
      cases hr
      have : m' = 0 := by simpa using h0
      subst this
      refine ⟨w, ?_, H, rfl⟩
      cases a <;> simp [Builtin.clear_, run_underlying ht]
    · rename_i h0
      have hne : m' ≠ 0 := by simpa using h0
      obtain ⟨h1, hst, heq⟩ := Option.map_eq_some_iff.1 hr
      simp only [Prod.mk.injEq] at heq
      obtain ⟨rfl, rfl⟩ := heq
      obtain ⟨w', hw', H'⟩ := H.store (P := P) hrho hst (hz.zeros m')
      rw [← flatten_zero] at hw'
      refine ⟨w', ?_, H', rfl⟩
      rcases ha with rfl | rfl
      · have : m' = 0 := by omega
        exact absurd this hne
      · cases m' with
        | zero => exact absurd rfl hne
        | succ m' => simp [Builtin.clear_, run_underlying ht, zeroValue, typeInfo, hi, hzv, hw']
  | _ => simp at hr

theorem numOf_bytes {g : Gam} : ∀ {l : List AV} {v : Nat} {us : List Value}, numOf l = some v → VRs g l us → ∃ bs : List UInt8, us = bs.map (fun x => Value.int .u8 x.toNat) ∧ v < 256 ^ bs.length ∧ bsList bs.length v = bs
  | [], v, us, h, hl => by
    cases h
    have : us = [] := by have := hl.len; exact List.length_eq_zero_iff.1 this.symm
    exact ⟨[], by rw [this]; rfl, by simp, rfl⟩
  | a :: l, v, us, h, hl => by
    match us, hl with
    | [], hl => have := hl.len; simp at this
    | u :: us, hl =>
      unfold numOf at h
      split at h
      · rename_i h0; cases h0
      · rename_i c l' heq
        cases heq
        split at h
        · rename_i hc
          obtain ⟨b, hb, rfl⟩ := Option.map_eq_some_iff.1 h
          obtain ⟨bs, rfl, h1, h2⟩ := numOf_bytes hb hl.tail
          have hu := hl.head.int_eq
          subst hu
          refine ⟨UInt8.ofNat c :: bs, ?_, ?_, ?_⟩
          · have e : (UInt8.ofNat c).toNat = c := by rw [UInt8.toNat_ofNat']; omega
            rw [List.map_cons, e]
            rfl
          · simp only [List.length_cons, Nat.pow_succ]; omega
          · simp only [List.length_cons, bsList]
            have e1 : (c + 256 * b) / 256 = b := by omega
            rw [e1, h2]
            congr 1
            exact ofNat_eq8 (by omega)
        · cases h
      · cases h

theorem freeze_heap (w : World) (a : Addr) (n : Nat) {k : Nat} (h : k ≠ a.block) : (w.freeze a n).heap[k]? = w.heap[k]? := by
  unfold World.freeze
  split
  · rfl
  · simp only [Array.getElem?_modify]
    rw [if_neg (Ne.symm h)]
theorem freeze_size (w : World) (a : Addr) (n : Nat) : (w.freeze a n).heap.size = w.heap.size := by
  unfold World.freeze
  split <;> simp
theorem freeze_cell (w : World) (a : Addr) (n : Nat) (b : Addr) : (w.freeze a n).cell? b = w.cell? b := by
  by_cases hb : b.block = a.block
  · unfold World.freeze
    split
    · rfl
    · unfold World.cell?
      simp only [Array.getElem?_modify, hb, if_true]
      cases w.heap[a.block]? with
      | none => rfl
      | some o => cases o <;> rfl
  · unfold World.cell?
    rw [freeze_heap w a n hb]

/-- Cells are frozen in a row in which no object lies. -/
theorem HR.frozenRow (H : HR CR B w0 g h w) {β off n : Nat} (hB : B ≤ β) (hno : ∀ b base o, g.rho b = some (β, base) → h.get b = some o → False) : HR CR B w0 g h (w.freeze ⟨β, off, none⟩ n) :=
  ⟨H.rhoNext, H.getNext, fun b x hx => by rw [freeze_size]; exact H.lt b x hx,
    fun b ξ base o hr ho => (H.obj b ξ base o hr ho).of_block (freeze_heap w _ n fun e => by simp only at e; subst e; exact hno b base o hr ho),
    H.sep, fun ξ o v hm => by rw [freeze_cell]; exact H.mem ξ o v hm, H.memsep, H.low, Lib.below_freeze H.below hB n, H.base, H.held⟩

theorem liesAt_row {e : TypeId} (hc : P.cellsOf e = 1) (count off n : Nat) (hn : off + n ≤ count) : liesAt P P.depth e count off e n = true := by
  have hd : P.depth = (2 * (P.types.size + Made.depth) + 1) + 1 := rfl
  rw [hd]
  simp only [liesAt, Bool.or_eq_true]
  left
  rw [hd]
  simp [rowAt, hc, hn, sameLayout, Nat.mod_one]

theorem run_unsafeString_zero (pt it ty : TypeId) (p : Option Addr) (k : IntKind) : (Builtin.unsafeString_ #[pt, it] ty #[.pointer p, .int k 0]).run P w = .ok (.string .empty) w := by
  have hmax : IntKind.i64.max = 9223372036854775807 := rfl
  cases p with
  | none =>
    obtain ⟨r1, r2, r3, hdef⟩ : ∃ r1 r2 r3, Builtin.unsafeString_ #[pt, it] ty #[.pointer none, .int k 0] = (do
          let n ← asInt (.int k 0)
          if n < 0 then r1
          if n > IntKind.i64.max then r2
          if n = 0 then pure (.string .empty) else r3) := ⟨_, _, _, rfl⟩
    rw [hdef]
    simp [asInt, asIntOf, hmax]
  | some a =>
    obtain ⟨r1, r2, r3, hdef⟩ : ∃ (r1 r2 : Sem Unit) (r3 : Int → Sem Value), Builtin.unsafeString_ #[pt, it] ty #[.pointer (some a), .int k 0] = (do
          let n ← asInt (.int k 0)
          if n < 0 then r1
          if n > IntKind.i64.max then r2
          if n = 0 then pure (.string .empty) else r3 n) := ⟨_, _, _, rfl⟩
    rw [hdef]
    simp [asInt, asIntOf, hmax]

theorem run_unsafeString_at {pt it ty e : TypeId} (hp : P.underlying pt = some (.pointer e)) (hc : P.cellsOf e = 1) {β off cells : Nat} {k : IntKind} (hsh : w.shape? β = some (e, cells)) (l : List UInt8) (h0 : l.length ≠ 0) (hn : off + l.length ≤ cells)
    (h63 : l.length < 1000000000000) (hcell : ∀ j x, l[j]? = some x → w.cell? ((⟨β, off, none⟩ : Addr).add j) = some (.int .u8 x.toNat)) :
    (Builtin.unsafeString_ #[pt, it] ty #[.pointer (some ⟨β, off, none⟩), .int k l.length]).run P w = .ok (.string ⟨l.toArray⟩) (w.freeze ⟨β, off, none⟩ l.length) := by
  have hlb := Lib.run_loadBytes (P := P) w l ⟨β, off, none⟩ .empty hcell
  have hlies := liesAt_row (P := P) hc (cells / P.cellsOf e) off l.length (by rw [hc]; simpa using hn)
  have h63' : ¬ (9223372036854775807 : Int) < (l.length : Int) := by omega
  obtain ⟨r1, r2, r3, hdef⟩ : ∃ r1 r2 r3, Builtin.unsafeString_ #[pt, it] ty #[.pointer (some ⟨β, off, none⟩), .int k l.length] = (do
        let n ← asInt (.int k l.length)
        if n < 0 then r1
        if n > IntKind.i64.max then r2
        if n = 0 then pure (.string .empty)
        else if ← variablesAt ⟨β, off, none⟩ (← elemOf pt) n.toNat then do
          let s ← loadBytes ⟨β, off, none⟩ .empty n.toNat
          freeze ⟨β, off, none⟩ n.toNat
          pure (.string s)
        else r3) := ⟨_, _, _, rfl⟩
  rw [hdef]
  have hmax : IntKind.i64.max = 9223372036854775807 := rfl
  have hneg : ¬ (l.length : Int) < 0 := by omega
  have hl : l ≠ [] := fun e => h0 (by rw [e]; rfl)
  simp [asInt, asIntOf, hmax, h63', hneg, hl, variablesAt, hsh, elemOf, run_underlying hp, hlies, hlb]

theorem gives_unsafeStr (H : HR CR B w0 g h w) {pt it ty e : TypeId} (hp : P.underlying pt = some (.pointer e)) (hc : P.cellsOf e = 1) {a z r : AV} {ua uz : Value} (ha : VR g a ua) (hz : VR g z uz)
    (hr : (match (generalizing := false) asNat z with
      | some m => match (generalizing := false) a with
        | .nilptr => if m = 0 then some (.str 0 0, h) else none
        | .ptr b o => if m = 0 then some (.str 0 0, h) else if m < 1000000000000 then (match (generalizing := false) h.get b with
            | some (.cells _ (some t) _ anc) => if t / 2 = e then (match (generalizing := false) h.read b o m with
              | some l => (match (generalizing := false) numOf l with | some v => some (.str m v, h.kill (b :: anc)) | none => none)
              | none => none) else none
            | _ => none) else none
        | _ => none
      | none => none) = some (r, h')) :
    Gives CR B w0 g r h' ((Builtin.unsafeString_ #[pt, it] ty #[ua, uz]).run P w) := by
  split at hr
  case h_2 => cases hr
  rename_i m hm
  obtain ⟨k, rfl⟩ := asNat_spec hm hz
  have hempty : VR g (.str 0 0) (.string .empty) := VR.str 0 0 (by decide)
  cases ha with
  | nilptr =>
    simp only at hr
    split at hr
    · rename_i h0
      subst h0
      cases hr
      exact ⟨g, w, _, run_unsafeString_zero _ _ _ _ _, H, g.le_refl, hempty⟩
    · cases hr
  | ptr b o β base hrho =>
    simp only at hr
    split at hr
    · rename_i h0
      subst h0
      cases hr
      exact ⟨g, w, _, run_unsafeString_zero _ _ _ _ _, H, g.le_refl, hempty⟩
    rename_i hm0
    split at hr
    case isFalse => cases hr
    rename_i hlt
    split at hr
    case h_2 => cases hr
    rename_i l t pre anc hget
    split at hr
    case isFalse => cases hr
    rename_i hte
    split at hr
    case h_2 => cases hr
    rename_i l' hrd
    split at hr
    case h_2 => cases hr
    rename_i v hnum
    cases hr
    have hobj := H.obj b β base _ hrho hget
    obtain ⟨vs, hvs, hvl, hcells⟩ := H.read hrho hrd
    obtain ⟨bs, rfl, hv, hbs⟩ := numOf_bytes hnum hvs
    have hbl : bs.length = m := by simpa using hvl
    subst hbl
    obtain ⟨⟨c, hw⟩, hrow⟩ : (∃ c, w.heap[β]? = some (.cells c (t / 2) (0, 0))) ∧ RowR g w β base l (g.top b) := by cases hobj with | cells _ _ _ _ hp _ hes hrow => exact ⟨(hes _ rfl).1, hrow⟩
    rw [hte] at hw
    have hroom : base + o + bs.length ≤ c.size := by
      obtain ⟨c', e', q1, q2, q3, _⟩ := hrow
      rw [hw] at q1
      cases q1
      have : o + bs.length ≤ l.length := by
        unfold AH.read at hrd
        split at hrd
        · rename_i l2 hl2
          unfold AH.cellsAt at hl2
          rw [hget] at hl2
          simp only [Option.some.injEq] at hl2
          subst hl2
          split at hrd
          · assumption
          · cases hrd
        · cases hrd
      omega
    have hsh : w.shape? β = some (e, c.size) := by simp [World.shape?, hw]
    have hrun := run_unsafeString_at (P := P) (w := w) (it := it) (ty := ty) (k := k) hp hc hsh bs hm0 hroom hlt (fun j x hj => by
      rw [addr_add]
      exact hcells j _ (by rw [List.getElem?_map, hj]; rfl))
    refine ⟨g, _, _, hrun, (H.kill (b :: anc)).frozenRow (H.low b β base _ hrho hget) (fun b' base' o' hr' ho' => ?_), g.le_refl, ?_⟩
    · obtain ⟨hn, ho'⟩ := AH.get_kill ho'
      simp only [List.mem_cons, not_or] at hn
      rcases H.sep b b' β base base' _ o' hrho hr' hget ho' (Ne.symm hn.1) with hu | hu | hu
      · obtain ⟨l1, sp1, pre1, anc1, l2, e1, e2, e3, e4⟩ := hu
        cases e1
        exact hn.2 e3
      · obtain ⟨l1, sp1, pre1, anc1, l2, e1, e2, e3, e4⟩ := hu
        cases e2
      · obtain ⟨⟨l2, e⟩, _⟩ := hu
        cases e
    · have := VR.str (g := g) bs.length v hv
      have e : bsOf bs.length v = ⟨bs.toArray⟩ := by
        apply bytes_ext
        rw [data_bsOf, hbs]
      rwa [e] at this
  | _ => simp at hr

theorem gives_sliceData {ts : Array TypeId} {ty : TypeId} {s r : AV} {us : Value} (hs : VR g s us)
    (hr : (match (generalizing := false) s with
      | .nilslice => some (.nilptr, h)
      | .slice b o _ c => if c = 0 then none else some (.ptr b o, h)
      | .slop b o n _ => if n = 0 then none else some (.ptr b o, h)
      | _ => none) = some (r, h')) : ∃ v, (Builtin.unsafeSliceData_ ts ty #[us]).run P w = .ok v w ∧ VR g r v ∧ h' = h := by
  cases hs with
  | nilslice => cases hr; exact ⟨_, rfl, .nilptr, rfl⟩
  | sliceC b o n c β base hrho hn =>
    simp only at hr
    split at hr
    · cases hr
    · rename_i hc
      cases hr
      exact ⟨_, Lib.run_unsafeSliceData_row w ts ty _ n c hc, .ptr b o β base hrho, rfl⟩
  | sliceN b o n es c β base a hrho hn ha ht =>
    simp only at hr
    split at hr
    · cases hr
    · rename_i hn0
      cases hr
      have hc : c ≠ 0 := by omega
      rcases ha with rfl | rfl
      · exact absurd rfl hc
      · exact ⟨_, Lib.run_unsafeSliceData_row w ts ty _ n c hc, .ptr b o β base hrho, rfl⟩
  | _ => simp at hr

end
end Go.Ab
/-
  exec is sound: the whole.
-/
namespace Go.Ab
open Go Go.RowKit

section
variable {CR : AC → Code → Prop} {B : Nat} {w0 : Anchor} {g g' : Gam} {h h' : AH} {w w' : World} {P : Program} {G : Nat → Option (List AV)}

/-- How an operation's run is read off a computation of a value. -/
theorem run_v {s : Sem Value} {v : Value} (hs : s.run P w = .ok v w') : (do let x ← s; pure (Next.value x) : Sem Next).run P w = .ok (.value v) w' := by
  simp [hs]

theorem Done.v {s : Sem Value} {r : AV} {v : Value} (H : HR CR B w0 g h w) (hs : s.run P w = .ok v w) (hv : VR g r v) : Done CR B w0 g r h ((do let x ← s; pure (Next.value x) : Sem Next).run P w) :=
  Done.value H hv (run_v hs)

theorem Done.gives {s : Sem Value} {r : AV} (hg : Gives CR B w0 g r h' (s.run P w)) : Done CR B w0 g r h' ((do let x ← s; pure (Next.value x) : Sem Next).run P w) :=
  Done.of_gives hg fun _ _ e => run_v e

theorem Done.u {s : Sem Unit} (hs : s.run P w = .ok () w') (H : HR CR B w0 g h' w') : Done CR B w0 g .undef h' ((do s; pure Next.skip : Sem Next).run P w) :=
  Done.skip H (by simp [hs])

theorem Done.tup {s : Sem Value} {r : AV} {v : Value} (hs : s.run P w = .ok v w') (H : HR CR B w0 g h' w') (hv : VR g r v) : Done CR B w0 g r h' ((do let x ← s; pure (Next.value x) : Sem Next).run P w) :=
  ⟨g, w', v, .inl (run_v hs), H, g.le_refl, hv⟩

set_option maxHeartbeats 4000000 in
theorem builtin_sound (H : HR CR B w0 g h w) {ρ : Operand → Value} {ev : AOpd → AV} (hev : ∀ x ax, compOpd G x = some ax → VR g (ev ax) (ρ x)) {b : Builtin} {ts : Array TypeId} {args : Array Operand} {aop : AOp} {r : AV} {ty : TypeId} {cs : Array Bool}
    (hc : compBuiltin P G b ts args = some aop) (he : exec h ev aop = some (r, h')) : Done CR B w0 g r h' ((builtin b ts ty cs (args.map ρ)).run P w) := by
  have hts : ts = ts.toList.toArray := by simp
  have hargs : args.map ρ = (args.toList.map ρ).toArray := Array.ext' (by simp)
  have mm : ∀ (mx : Bool) (l : List AOpd), compOpds G args = some l → ∀ v, minMaxA mx (l.map ev) = some v → ∃ x, (if mx then Builtin.max_ ts ty (args.map ρ) else Builtin.min_ ts ty (args.map ρ)).run P w = .ok x w ∧ VR g v x := by
    intro mx l hl v hv
    have hvs := compOpds_spec hev _ _ hl
    rw [hargs]
    generalize args.toList.map ρ = us at hvs
    generalize l.map ev = vs at hvs hv
    cases vs with
    | nil => simp [minMaxA] at hv
    | cons a vs =>
      cases us with
      | nil => have := hvs.len; simp at this
      | cons u us =>
        simp only [minMaxA] at hv
        obtain ⟨x, hx, hxr⟩ := minMax_spec (P := P) (w := w) mx vs us a v u hvs.head hvs.tail hv
        refine ⟨x, ?_, hxr⟩
        cases mx <;> simpa [Builtin.max_, Builtin.min_] using hx
  unfold compBuiltin at hc
  split at hc
  case h_1 =>
    rename_i t x e1 e2
    rw [hts, hargs, e1, e2]
    have lenCase : ∀ k ax, compOpd G x = some ax → ((k = 0 ∧ P.underlying t = some .string) ∨ (k = 1 ∧ ∃ e, P.underlying t = some (.slice e)) ∨ (k = 2 ∧ ∃ a e, P.underlying t = some (.map a e))) → exec h ev (.len k ax) = some (r, h') →
        Done CR B w0 g r h' ((builtin .len [t].toArray ty cs (List.map ρ [x]).toArray).run P w) := by
      intro k ax hx ht he
      simp only [exec, Option.map_eq_some_iff, Prod.mk.injEq] at he
      obtain ⟨n, hn, rfl, rfl⟩ := he
      have := run_len (P := P) (ty := ty) H hn (hev _ _ hx) ht
      exact Done.v H this (.int _ _)
    have arrCase : ∀ n : Nat, (Builtin.len_ #[t] ty #[ρ x]).run P w = .ok (goInt n) w → exec h ev (.lenArr n) = some (r, h') →
        Done CR B w0 g r h' ((builtin .len [t].toArray ty cs (List.map ρ [x]).toArray).run P w) := by
      intro n hrun he
      simp only [exec, Option.some.injEq, Prod.mk.injEq] at he
      obtain ⟨rfl, rfl⟩ := he
      exact Done.v H hrun (.int _ _)
    split at hc
    · rename_i ht hx; cases hc; exact lenCase 0 _ hx (.inl ⟨rfl, ht⟩) he
    · rename_i ht hx; cases hc; exact lenCase 1 _ hx (.inr (.inl ⟨rfl, _, ht⟩)) he
    · rename_i ht hx; cases hc; exact lenCase 2 _ hx (.inr (.inr ⟨rfl, _, _, ht⟩)) he
    · rename_i ht hx; cases hc; exact arrCase _ (by simp [Builtin.len_, run_underlying ht]) he
    · rename_i a _ ht hx
      split at hc
      · rename_i hta; cases hc; exact arrCase _ (by simp [Builtin.len_, run_underlying ht, run_underlying hta]) he
      · cases hc
    · cases hc
  case h_2 =>
    rename_i t u s x e1 e2
    rw [hts, hargs, e1, e2]
    split at hc
    · cases hc
    · rename_i e d sx xx hne ht hu hs hx
      split at hc
      · rename_i i zl hi hz
        cases hc
        obtain ⟨i', z, hi', hz', hzl, hzr⟩ := zeroCellsT_spec hz
        rw [hi] at hi'
        cases hi'
        simp only [exec] at he
        split at he
        · rename_i n hn
          split at he
          · rename_i xs hxs
            exact Done.gives (gives_append (ty := ty) H ht (fun k hk => hne k (by rw [hu] at hk; exact Option.some.inj hk)) (by rw [hu]; rfl) hi hz' hzl (hzr g) hn hxs he (hev _ _ hs) (hev _ _ hx))
          · cases he
        · cases he
      · cases hc
    · cases hc
  case h_3 =>
    rename_i t u d s e1 e2
    rw [hts, hargs, e1, e2]
    split at hc
    · rename_i e dx sx ht hd hs
      obtain ⟨n, hn, rfl⟩ := Option.map_eq_some_iff.1 hc
      simp only [exec] at he
      split at he
      · rename_i k m hk hm
        split at he
        · rename_i xs hxs
          obtain ⟨w', h1, h2, h3⟩ := gives_copy (P := P) (ty := ty) (u := u) H ht hn hk hm hxs he (hev _ _ hd) (hev _ _ hs)
          exact Done.tup h1 h2 h3
        · cases he
      · cases he
    · cases hc
  case h_4 =>
    obtain ⟨l, hl, rfl⟩ := Option.map_eq_some_iff.1 hc
    simp only [exec, Option.map_eq_some_iff, Prod.mk.injEq] at he
    obtain ⟨v, hv, rfl, rfl⟩ := he
    have hvs := compOpds_spec hev _ _ hl
    obtain ⟨x, hx, hxr⟩ := mm true l hl v hv
    exact Done.v H hx hxr
  case h_5 =>
    obtain ⟨l, hl, rfl⟩ := Option.map_eq_some_iff.1 hc
    simp only [exec, Option.map_eq_some_iff, Prod.mk.injEq] at he
    obtain ⟨v, hv, rfl, rfl⟩ := he
    obtain ⟨x, hx, hxr⟩ := mm false l hl v hv
    exact Done.v H hx hxr
  case h_6 =>
    rename_i t u m k e1 e2
    rw [hts, hargs, e1, e2]
    split at hc
    · rename_i kt e mx kx ht hm hk
      obtain ⟨kk, hkk, rfl⟩ := Option.map_eq_some_iff.1 hc
      simp only [exec] at he
      split at he
      · rename_i hkey
        have hm' := hev _ _ hm
        have hk' := hev _ _ hk
        have T : MapT P t kt e kk := ⟨ht, hkk⟩
        have fin : ∀ {h1 : AH}, (match (generalizing := false) ev mx with
            | .nilmap => some h
            | .map b => match (generalizing := false) h.get b with
              | some (.map es clock) => match (generalizing := false) findA (ev kx) es 0 with
                | some (some (i, _)) => some (h.put b (.map (es.eraseIdx i) clock))
                | some none => some h
                | none => none
              | _ => none
            | _ => none) = some h1 → some (AV.tuple [], h1) = some (r, h') → Done CR B w0 g r h' ((builtin .delete [t, u].toArray ty cs (List.map ρ [m, k]).toArray).run P w) := by
          intro h1 hh heq
          cases heq
          obtain ⟨w', hw', H'⟩ := gives_delete (P := P) (ty := ty) (u2 := u) H T hkey hm' hk' hh
          exact Done.tup hw' H' (VRs.nil g).tuple
        split at he
        · rename_i e0; exact fin (by simp only [e0]) he
        · rename_i b e0
          split at he
          · rename_i es clock e3
            split at he
            · rename_i i v e4; exact fin (by simp only [e0, e3, e4]) he
            · rename_i e4; exact fin (by simp only [e0, e3, e4]) he
            · cases he
          · cases he
        · cases he
      · cases he
    · cases hc
  case h_7 =>
    rename_i t m e1 e2
    rw [hts, hargs, e1, e2]
    split at hc
    · rename_i mx ht hm
      cases hc
      simp only [exec] at he
      have hm' := hev _ _ hm
      have fin : ∀ {h1 : AH}, (match (generalizing := false) ev mx with | .nilmap => some h | .map b => (match (generalizing := false) h.get b with | some (.map _ clock) => some (h.put b (.map [] clock)) | _ => none) | _ => none) = some h1 →
          some (AV.tuple [], h1) = some (r, h') → Done CR B w0 g r h' ((builtin .clear [t].toArray ty cs (List.map ρ [m]).toArray).run P w) := by
        intro h1 hh heq
        cases heq
        obtain ⟨w', hw', H'⟩ := gives_clearMap (P := P) (ty := ty) H ht hm' hh
        exact Done.tup hw' H' (VRs.nil g).tuple
      split at he
      · rename_i e0; exact fin (by simp only [e0]) he
      · rename_i b e0
        split at he
        · rename_i es clock e3; exact fin (by simp only [e0, e3]) he
        · cases he
      · cases he
    · rename_i e mx ht hm
      obtain ⟨z, hz, rfl⟩ := Option.map_eq_some_iff.1 hc
      obtain ⟨i, zv, hi, hzv, _, hzr⟩ := zeroCellsT_spec hz
      simp only [exec] at he
      obtain ⟨w', hw', H', rfl⟩ := gives_clearSl (P := P) (ty := ty) H ht hi hzv (hzr g) (hev _ _ hm) he
      exact Done.tup hw' H' (VRs.nil g).tuple
    · cases hc
  case h_8 =>
    rename_i t1 s1 e1 e2
    rw [hts, hargs, e1, e2]
    obtain ⟨as, hs, rfl⟩ := Option.map_eq_some_iff.1 hc
    simp only [exec] at he
    obtain ⟨v, hrun, hv, rfl⟩ := gives_sliceData (P := P) (w := w) (ts := #[t1]) (ty := ty) (hev _ _ hs) he
    exact Done.v H hrun hv
  case h_9 =>
    rename_i t x e1 e2
    rw [hts, hargs, e1, e2]
    split at hc
    · rename_i e ax ht hx
      cases hc
      simp only [exec] at he
      have hv := hev _ _ hx
      generalize ev ax = a at he hv
      generalize hρ : ρ x = u at hv
      have key : ∀ n : Nat, (Builtin.cap_ #[t] ty #[u]).run P w = .ok (goInt n) w → some (AV.int .i64 (n : Nat), h) = some (r, h') → Done CR B w0 g r h' ((builtin .cap [t].toArray ty cs (List.map ρ [x]).toArray).run P w) := by
        intro n hrun heq
        cases heq
        rw [List.map_cons, List.map_nil, hρ]
        exact Done.v H hrun (.int _ _)
      cases hv with
      | nilslice => exact key 0 (by simp [Builtin.cap_, run_underlying ht]) he
      | empty q => exact key 0 (by simp [Builtin.cap_, run_underlying ht]) he
      | sliceC b o n c β base hr hn => exact key c (by simp [Builtin.cap_, run_underlying ht]) he
      | _ => simp at he
    · cases hc
  case h_10 =>
    rename_i pt it p n e1 e2
    rw [hts, hargs, e1, e2]
    split at hc
    · rename_i e ap an hpt hp hn
      split at hc
      · rename_i hc1
        cases hc
        simp only [exec] at he
        exact Done.gives (gives_unsafeStr (P := P) (it := it) (ty := ty) H hpt (by
          have h1 : sizeT P e = some 1 := by simpa using hc1
          unfold sizeT at h1
          unfold Program.cellsOf
          rw [h1]; rfl) (hev _ _ hp) (hev _ _ hn) he)
      · cases hc
    · cases hc
  case h_11 => cases hc

theorem run_mapM_list {α β : Type} (f : α → Sem β) (k : α → β) : ∀ l : List α, (∀ x ∈ l, (f x).run P w = .ok (k x) w) → (l.mapM f).run P w = .ok (l.map k) w
  | [], _ => by simp
  | x :: l, h => by
    rw [List.mapM_cons]
    simp [h x (by simp), run_mapM_list f k l (fun y hy => h y (by simp [hy]))]

end
end Go.Ab

/-
  A part of a proof: KaS KaR.
-/
import Derived.Test.YtjdgikpokdgapaaGreatDoorKaTtoKaK
import Derived.Test.YtjdgikpokdgapaaGreatDoorAbBtoAbM
set_option linter.all false
/-
  The machine for the kernel's own reckoning takes steps of the abstract machine.
-/
namespace Go.Ab
open Go
noncomputable section

/-- The memo of the abstract machine. -/
def absM (M : KMemo) : Memo := M.abs

/-- No slot beyond the last one is set. -/
def okT (n : Nat) (tm : T8 AV) : Prop := ∀ s, n ≤ s → tm.get s = none

def okCs (cs : List KF) : Prop := ∀ c ∈ cs, okT c.n c.tm

def kf (hd : KHd) (n : Nat) (tm : T8 AV) (todo : List AItem) : AF := { fn := hd.fn, tmps := rowL n tm, todo := todo, defers := hd.defers, mode := hd.mode, kind := hd.kind, roundOf := hd.roundOf }
def stA (hd : KHd) (n : Nat) (tm : T8 AV) (todo : List AItem) (cs : List KF) (nx : Nat) (t : T8 KO) : AS := { fr := kf hd n tm todo, cs := cs.map KF.abs, h := absH nx t }

section
variable {F : FuncId → Option AFun} {M : KMemo} {fin : KS → Bool}

/-- From a state a run comes to one of which fin holds. -/
def Good (F : FuncId → Option AFun) (M : KMemo) (fin : KS → Bool) (s : AS) : Prop := ∃ m s', asteps F (absM M) m s = some s' ∧ ∃ ks : KS, fin ks = true ∧ ks.abs = s'

theorem Good.step {s s1 : AS} (h : astep F (absM M) s = some s1) (g : Good F M fin s1) : Good F M fin s := by
  obtain ⟨m, s', h1, h2⟩ := g
  exact ⟨m + 1, s', by simp only [asteps, h]; exact h1, h2⟩

/-- What a continuation promises. -/
def NextOk (F : FuncId → Option AFun) (M : KMemo) (fin : KS → Bool) (next : KC) : Prop :=
  ∀ hd n tm todo cs nx t, okT n tm → okCs cs → next hd n tm todo cs nx t = true → Good F M fin (stA hd n tm todo cs nx t)

theorem get_lt {n : Nat} {tm : T8 AV} (h : okT n tm) {s : Nat} {v : AV} (hv : tm.get s = some v) : s < n := by
  rcases Nat.lt_or_ge s n with h1 | h1
  · exact h1
  · rw [h s h1] at hv; cases hv

theorem rowL_getD {n : Nat} {tm : T8 AV} (h : okT n tm) (s : Nat) : (rowL n tm).getD s .undef = (tm.get s).getD .undef := by
  rw [List.getD_eq_getElem?_getD, rowL_getElem?]
  split
  · rfl
  · rename_i hs; rw [h s (by omega)]

theorem aev_kev {n : Nat} {tm : T8 AV} (h : okT n tm) : aev (rowL n tm) = kev tm := by
  funext x
  cases x with
  | tmp s => exact rowL_getD h s
  | const v => rfl

theorem guardK_ok {n : Nat} {tm : T8 AV} (h : okT n tm) {o : AOper} {yes no : Bool} (hg : guardK o.guard tm yes no = true) :
    (awanted (rowL n tm) o = some true ∧ yes = true) ∨ (awanted (rowL n tm) o = some false ∧ no = true) := by
  unfold awanted
  cases hgd : o.guard with
  | none => rw [hgd] at hg; exact .inl ⟨rfl, hg⟩
  | some p =>
    obtain ⟨s, want⟩ := p
    rw [hgd] at hg
    have hg' : getK AV (path s) tm (fun v => guardD v (fun b => iteF b (iteF want yes no) (iteF want no yes)) (fun l => @List.rec AV (fun _ => Bool) no (fun _ _ _ => false) l)) false = true := hg
    rw [getK_eq] at hg'
    cases hv : T8.getP (path s) tm with
    | none => rw [hv] at hg'; cases hg'
    | some v =>
      rw [hv] at hg'
      have hs : tm.get s = some v := hv
      have hlt := get_lt h hs
      have hrow : (rowL n tm)[s]? = some v := by rw [rowL_getElem?, if_pos hlt, hs]; rfl
      simp only [hrow]
      simp only [guardD_eq, iteF_eq] at hg'
      cases v with
      | bool b =>
        simp only at hg' ⊢
        cases b <;> cases want <;> simp_all
      | tuple l =>
        cases l with
        | nil => exact .inr ⟨rfl, hg'⟩
        | cons x l => cases hg'
      | _ => cases hg'

theorem setDstK_ok {n : Nat} {tm : T8 AV} (h : okT n tm) {dst : Option Nat} {v : AV} {k : T8 AV → Bool} (hs : setDstK dst n tm v k = true) : ∃ tm', okT n tm' ∧ rowL n tm' = setDst (rowL n tm) dst v ∧ k tm' = true ∧ slotOk (rowL n tm) dst = true := by
  cases dst with
  | none => exact ⟨tm, h, rfl, hs, rfl⟩
  | some d =>
    have hs' : ifF (Nat.blt d n) (setK AV (some v) (path d) tm k) = true := hs
    obtain ⟨h1, h2⟩ := ifF_true hs'
    rw [setK_eq] at h2
    have hlt : d < n := Nat.blt_eq.mp h1
    refine ⟨tm.set d v, fun s hs => ?_, rowL_set n tm d v, h2, ?_⟩
    · rw [T8.get_set, if_neg (by omega)]; exact h s hs
    · simp only [slotOk]
      rw [rowL_getElem?, if_pos hlt]; rfl

theorem sameK_ok {v w : AV} (h : sameK v w = true) : AV.same 20 v w = true := by
  simp only [sameK, binD_eq] at h
  split at h
  · split at h
    · rename_i j a _ k b
      rw [iteF_eq, kindEqK_eq, eqI_eq] at h
      simp only [AV.same, Bool.and_eq_true, beq_iff_eq]
      split at h
      · rename_i hjk
        rw [decide_eq_true_iff] at hjk
        exact ⟨hjk, by simpa using h⟩
      · cases h
    · cases h
    · cases h
  · split at h
    · cases h
    · rename_i n a _ m b
      rw [iteF_eq] at h
      simp only [AV.same, Bool.and_eq_true, beq_iff_eq]
      split at h
      · rename_i hnm
        exact ⟨Nat.eq_of_beq_eq_true hnm, Nat.eq_of_beq_eq_true h⟩
      · cases h
    · cases h
  · exact h

theorem sameRowK_ok : ∀ {l m : List AV}, sameRowK l m = true → l.length = m.length ∧ ((l.zip m).all fun x => AV.same 20 x.1 x.2) = true
  | [], [], _ => ⟨rfl, rfl⟩
  | [], _ :: _, h => by cases h
  | _ :: _, [], h => by cases h
  | x :: l, y :: m, h => by
    have h' : ifF (sameK x y) (sameRowK l m) = true := h
    obtain ⟨h1, h2⟩ := ifF_true h'
    obtain ⟨h3, h4⟩ := sameRowK_ok h2
    refine ⟨by simp [h3], ?_⟩
    simp only [List.zip_cons_cons, List.all_cons, Bool.and_eq_true]
    exact ⟨sameK_ok h1, h4⟩

theorem nilD_true {α : Type} {l : List α} {k : Bool} (h : nilD α l k = true) : l = [] ∧ k = true := by
  cases l with
  | nil => exact ⟨rfl, h⟩
  | cons x l => cases h

theorem sameTag_true {a b : Option Nat} (h : sameTag a b = true) : a = b := by
  cases a with
  | none => cases b with
    | none => rfl
    | some _ => cases h
  | some x => cases b with
    | none => cases h
    | some y => rw [Nat.eq_of_beq_eq_true (show Nat.beq x y = true from h)]

theorem sameObjK_ok {o o' : KO} (h : sameObjK o o' = true) : AO.same o.abs o'.abs = true := by
  cases o with
  | cells n r sp pre anc =>
    cases o' with
    | cells n' r' sp' pre' anc' =>
      have h' : ifF (Nat.beq pre 0) (nilD Nat anc (ifF (sameTag sp sp') (ifF (Nat.beq pre' 0) (nilD Nat anc' (ifF (Nat.beq n n') (readK n 0 r fun l => readK n 0 r' fun l' => sameRowK l l')))))) = true := h
      replace h' := ifF_true h'; obtain ⟨h1, h'⟩ := h'
      replace h' := nilD_true h'; obtain ⟨rfl, h'⟩ := h'
      replace h' := ifF_true h'; obtain ⟨h0, h''⟩ := h'
      obtain rfl := sameTag_true h0
      replace h'' := ifF_true h''; obtain ⟨h2, h''⟩ := h''
      replace h'' := nilD_true h''; obtain ⟨rfl, h''⟩ := h''
      replace h'' := ifF_true h''; obtain ⟨h3, h''⟩ := h''
      obtain rfl : pre = 0 := Nat.eq_of_beq_eq_true h1
      obtain rfl : pre' = 0 := Nat.eq_of_beq_eq_true h2
      obtain rfl : n = n' := Nat.eq_of_beq_eq_true h3
      rw [readK_eq, readK_eq] at h''
      have e : ∀ r : T8 AV, rowL n r = readL n 0 r := fun r => by unfold rowL readL; simp
      obtain ⟨h4, h5⟩ := sameRowK_ok h''
      simp only [KO.abs, AO.same, e, Bool.and_eq_true, beq_iff_eq]
      exact ⟨⟨trivial, h4⟩, h5⟩
    | _ => replace h := ifF_true h; obtain ⟨_, h⟩ := h; replace h := nilD_true h; obtain ⟨_, h⟩ := h; cases h
  | map es c =>
    have h' : nilD (AV × AV × Nat) es (@KO.rec (fun _ => Bool) (fun _ _ _ _ _ => false) (fun _ _ => false) (fun es' c' => nilD (AV × AV × Nat) es' (Nat.beq c c')) (fun _ _ _ => false) (fun _ _ _ _ _ _ _ _ => false) (fun _ => false) o') = true := h
    replace h' := nilD_true h'; obtain ⟨rfl, h'⟩ := h'
    cases o' with
    | map es' c' =>
      have h'' : nilD (AV × AV × Nat) es' (Nat.beq c c') = true := h'
      replace h'' := nilD_true h''; obtain ⟨rfl, h''⟩ := h''
      simp only [KO.abs, AO.same, beq_iff_eq]
      exact Nat.eq_of_beq_eq_true h''
    | _ => cases h'
  | _ => cases h

theorem blockD_ok {v : AV} {k : Nat → Bool} (h : blockD v k = true) : ∃ b, v.block = some b ∧ k b = true := by
  cases v with
  | ptr b o =>
    obtain ⟨h1, h2⟩ := ifF_true h
    obtain rfl : o = 0 := Nat.eq_of_beq_eq_true h1
    exact ⟨b, rfl, h2⟩
  | slice b o n c =>
    obtain ⟨h1, h2⟩ := ifF_true h
    obtain rfl : o = 0 := Nat.eq_of_beq_eq_true h1
    exact ⟨b, rfl, h2⟩
  | map b => exact ⟨b, rfl, h⟩
  | _ => cases h

theorem againK_ok {n : Nat} {tm : T8 AV} (h : okT n tm) {nx : Nat} {t : T8 KO} {o : AOper} (ha : againK tm nx t o = true) : again (rowL n tm) (absH nx t) o = true := by
  unfold again
  rcases guardK_ok h ha with ⟨h1, h2⟩ | ⟨h1, h2⟩
  · rw [h1]
    simp only
    cases hact : o.act with
    | op a =>
      rw [hact] at h2
      cases hdst : o.dst with
      | none => rw [hdst] at h2; cases h2
      | some d =>
        rw [hdst] at h2
        have h3 : getK AV (path d) tm (fun v => iteF a.quiet (kexec a tm nx t fun v' _ _ => sameK v v') (ifF a.makes (blockD v fun b => objK b t fun ob => kexec a tm nx t fun v' _ t' => blockD v' fun b' => objK b' t' fun ob' => sameObjK ob ob'))) false = true := h2
        rw [getK_eq] at h3
        cases hv : T8.getP (path d) tm with
        | none => rw [hv] at h3; cases h3
        | some v =>
          rw [hv] at h3
          have hgd : (rowL n tm).getD d .undef = v := by rw [rowL_getD h]; show (T8.getP (path d) tm).getD .undef = v; rw [hv]; rfl
          simp only [Option.map_some, hgd, aev_kev h]
          simp only [iteF_eq] at h3
          cases hq : a.quiet with
          | true =>
            rw [hq] at h3
            simp only [if_true] at h3 ⊢
            obtain ⟨v', nx', t', h4, h5⟩ := kexec_ok a tm nx t _ h3
            rw [h4]
            (rw [AV.same_eq 20 _ _ (sameK_ok h5)]; exact AV.eqS_refl _)
          | false =>
            rw [hq] at h3
            simp only [Bool.false_eq_true, if_false] at h3 ⊢
            replace h3 := ifF_true h3; obtain ⟨hm, h3⟩ := h3
            rw [if_pos hm]
            obtain ⟨b, hb, h3⟩ := blockD_ok h3
            rw [objK_eq] at h3
            split at h3
            · rename_i ob hob
              obtain ⟨v', nx', t', h4, h5⟩ := kexec_ok a tm nx t _ h3
              obtain ⟨mk, mo, hmk, _, hall⟩ := exec_makes hm h4
              have h6 := hall (absH nx t)
              rw [h4] at h6
              simp only [Option.some.injEq, Prod.mk.injEq] at h6
              obtain ⟨rfl, h6⟩ := h6
              obtain ⟨b', hb', h5⟩ := blockD_ok h5
              rw [hmk.1] at hb'
              cases hb'
              rw [objK_eq] at h5
              split at h5
              · rename_i ob' hob'
                have hmade : madeObj (rowL n tm) a = some ob'.abs := by
                  unfold madeObj
                  rw [aev_kev h, hall]
                  have e1 : (absH nx' t').get (absH nx t).next = some ob'.abs := by
                    show (t'.get nx).map KO.abs = _
                    have : t'.get nx = some ob' := hob'
                    rw [this]; rfl
                  rw [h6] at e1
                  simp only [AH.alloc, if_true, Option.some.injEq] at e1
                  simp [AH.alloc, e1]
                have hget : (absH nx t).get b = some ob.abs := by unfold absH; simp only [hob, Option.map_some]
                rw [hb, hmade]
                simp only [hget]
                exact sameObjK_ok h5
              · cases h5
            · cases h3
    | _ => rw [hact] at h2; cases h2
  · rw [h1]

theorem allAgainK_ok {n : Nat} {tm : T8 AV} (h : okT n tm) {nx : Nat} {t : T8 KO} : ∀ {l : List AOper}, allAgainK tm nx t l = true → l.all (again (rowL n tm) (absH nx t)) = true
  | [], _ => rfl
  | o :: l, hl => by
    have hl' : ifF (againK tm nx t o) (allAgainK tm nx t l) = true := hl
    obtain ⟨h1, h2⟩ := ifF_true hl'
    rw [List.all_cons, againK_ok h h1, allAgainK_ok h h2]
    rfl

theorem finishK_ok {v : AV} {hd : KHd} {n : Nat} {tm : T8 AV} {todo : List AItem} {cs : List KF} {nx : Nat} {t : T8 KO} {next : KC} (hn : NextOk F M fin next) (hm : hd.mode = .run) (h : okT n tm) (hc : okCs cs) (hf : finishK v hd n tm todo cs nx t next = true) :
    ∃ fr', (kf hd n tm todo).finish (absH nx t) v = some fr' ∧ Good F M fin ⟨fr', cs.map KF.abs, absH nx t⟩ := by
  cases todo with
  | nil => cases hf
  | cons i k =>
    unfold AF.finish kf
    simp only [hm]
    cases i with
    | inRegion rest =>
      cases rest with
      | nil => cases hf
      | cons o rest =>
        have hf' : (setDstK o.dst n tm v fun tm => next hd n tm (.inRegion rest :: k) cs nx t) = true := hf
        obtain ⟨tm', h1, h2, h3, _⟩ := setDstK_ok h hf'
        refine ⟨_, rfl, ?_⟩
        have := hn _ _ _ _ _ _ _ h1 hc h3
        simpa only [stA, kf, h2, hm] using this
    | inMain o ag mask plan =>
      have hf' : (setDstK o.dst n tm v fun tm => ifF (allAgainK tm nx t ag) (next hd n tm (.drawRest plan :: k) cs nx t)) = true := hf
      obtain ⟨tm', h1, h2, h3, _⟩ := setDstK_ok h hf'
      obtain ⟨h4, h5⟩ := ifF_true h3
      have h6 := allAgainK_ok h1 h4
      rw [h2] at h6
      refine ⟨_, if_pos h6, ?_⟩
      have := hn _ _ _ _ _ _ _ h1 hc h5
      simpa only [stA, kf, h2, hm] using this
    | inRangeFunc l =>
      have hf' : next hd n tm (.endRangeFunc l :: k) cs nx t = true := hf
      refine ⟨_, rfl, ?_⟩
      have := hn _ _ _ _ _ _ _ h hc hf'
      simpa only [stA, kf, hm] using this
    | _ => cases hf

theorem okT_rowFrom (args : List AV) {n : Nat} (hn : args.length ≤ n) : okT n (rowFrom 0 args .nil) := by
  intro s hs
  rw [rowFrom_get, if_neg (by omega)]
  exact T8.get_nil s

theorem rowL_enter (args : List AV) (k : Nat) : rowL (args.length + k) (rowFrom 0 args .nil) = args ++ List.replicate k .undef := by
  apply List.ext_getElem?
  intro j
  rw [rowL_getElem?, rowFrom_get]
  by_cases h1 : j < args.length
  · rw [if_pos (by omega), if_pos ⟨Nat.zero_le _, by omega⟩, List.getElem?_append_left h1]
    simp [List.getElem?_eq_getElem h1]
  · rw [List.getElem?_append_right (by omega)]
    by_cases h2 : j < args.length + k
    · rw [if_pos h2, if_neg (by omega), T8.get_nil, List.getElem?_replicate, if_pos (by omega)]; rfl
    · rw [if_neg h2, List.getElem?_replicate, if_neg (by omega)]

theorem enterK_ok {fn : FuncId} {args : List AV} {kind : CallKind} {cs : List KF} {nx : Nat} {t : T8 KO} {next : KC} (hn : NextOk F M fin next) (hc : okCs cs) (he : enterK F fn args kind cs nx t next = true) :
    ∃ fr, AF.enter F fn args kind = some fr ∧ Good F M fin ⟨fr, cs.map KF.abs, absH nx t⟩ := by
  simp only [enterK, optF_eq, setRowK_eq, natF_eq] at he
  split at he
  · rename_i af haf
    refine ⟨_, by unfold AF.enter; rw [haf]; rfl, ?_⟩
    have := hn _ _ _ _ _ _ _ (okT_rowFrom args (Nat.le_add_right _ _)) hc he
    have e := rowL_enter args (af.ntmps - args.length)
    simp only [stA, kf] at this
    change Good F M fin ⟨⟨fn, rowL (args.length + (af.ntmps - args.length)) (rowFrom 0 args .nil), [.code af.body], [], .run, kind, none⟩, cs.map KF.abs, absH nx t⟩ at this
    rw [e] at this
    exact this
  · cases he

theorem allocsK_eq : ∀ (l : List KO) (nx : Nat) (t : T8 KO) (k : Nat → T8 KO → Bool), ∃ nx' t', allocsK l nx t k = k nx' t' ∧ absH nx' t' = (absH nx t).allocs (l.map KO.abs)
  | [], nx, t, k => ⟨nx, t, rfl, rfl⟩
  | o :: l, nx, t, k => by
    have h1 : allocsK (o :: l) nx t k = allocsK l (nx + 1) (t.set nx o) k := by
      show (allocK o nx t fun nx t => allocsK l nx t k) = _
      rw [allocK_eq]
    obtain ⟨nx', t', h2, h3⟩ := allocsK_eq l (nx + 1) (t.set nx o) k
    refine ⟨nx', t', by rw [h1, h2], ?_⟩
    rw [h3, absH_alloc]
    rfl

theorem callK_ok {fn : FuncId} {args : List AV} {hd : KHd} {n : Nat} {tm : T8 AV} {todo : List AItem} {cs : List KF} {nx : Nat} {t : T8 KO} {next : KC} (hn : NextOk F M fin next) (hm : hd.mode = .run) (h : okT n tm) (hc : okCs cs)
    (he : callK F M fn args hd n tm todo cs nx t next = true) : ∃ s', acall F (absM M) (stA hd n tm todo cs nx t) (.enter fn args) = some s' ∧ Good F M fin s' := by
  unfold callK at he
  rw [iteF_eq] at he
  unfold acall
  simp only [absM]
  by_cases hh : M.has fn = true
  case neg =>
    rw [if_neg hh] at he
    obtain ⟨fr, h1, h2⟩ := enterK_ok hn (fun c hcc => (List.mem_cons.1 hcc).elim (fun e => by rw [e]; exact h) (hc c)) he
    rw [M.hasNot fn (by simpa using hh) args]
    refine ⟨_, by simp only [h1]; rfl, ?_⟩
    exact h2
  rw [if_pos hh] at he
  cases hmm : M.run fn args with
  | none =>
    rw [hmm] at he
    have he' : enterK F fn args .normal (⟨hd, n, tm, todo⟩ :: cs) nx t next = true := he
    obtain ⟨fr, h1, h2⟩ := enterK_ok hn (fun c hcc => (List.mem_cons.1 hcc).elim (fun e => by rw [e]; exact h) (hc c)) he'
    rw [(M.ok fn args).1 hmm]
    refine ⟨_, by simp only [h1]; rfl, ?_⟩
    exact h2
  | some kc =>
    rw [hmm] at he
    have he' : (kc nx t fun v nx t => finishK v hd n tm todo cs nx t next) = true := he
    obtain ⟨c, hcc, hok⟩ := (M.ok fn args).2 kc hmm
    obtain ⟨v, nx', t', h1, h2⟩ := hok nx t _ he'
    obtain ⟨fr', h3, h4⟩ := finishK_ok hn hm h hc h2
    rw [hcc]
    refine ⟨_, by simp only [stA, h1]; rw [h3]; rfl, ?_⟩
    exact h4

theorem setAllK_ok : ∀ {ps : List Nat} {args : List AV} {n : Nat} {tm : T8 AV} {k : T8 AV → Bool}, okT n tm → setAllK ps args n tm k = true →
    ∃ tm', okT n tm' ∧ ps.length = args.length ∧ rowL n tm' = (ps.zip args).foldl (fun t x => t.set x.1 x.2) (rowL n tm) ∧ k tm' = true
  | [], args, n, tm, k, h, hs => by
    obtain ⟨rfl, h2⟩ := nilD_true (l := args) hs
    exact ⟨tm, h, rfl, rfl, h2⟩
  | d :: ps, [], n, tm, k, h, hs => by cases hs
  | d :: ps, v :: args, n, tm, k, h, hs => by
    have hs' : (setDstK (some d) n tm v fun tm => setAllK ps args n tm k) = true := hs
    obtain ⟨tm1, h1, h2, h3, _⟩ := setDstK_ok h hs'
    obtain ⟨tm2, h4, h5, h6, h7⟩ := setAllK_ok h1 h3
    refine ⟨tm2, h4, by simp [h5], ?_, h7⟩
    rw [h6, h2]
    rfl

theorem loopD_eq (o : KO) (k : LoopState → Option AC → FuncId → List AV → List Nat → AC → AC → Nat → Bool) : loopD o k = match o with | .loop st p fn tm ps a b d => k st p fn tm ps a b d | _ => false := by cases o <;> rfl

theorem roundK_ok {l : Nat} {args : List AV} {hd : KHd} {n : Nat} {tm : T8 AV} {todo : List AItem} {cs : List KF} {nx : Nat} {t : T8 KO} {next : KC} (hn : NextOk F M fin next) (h : okT n tm) (hc : okCs cs)
    (he : roundK F l args hd n tm todo cs nx t next = true) : ∃ s', acall F (absM M) (stA hd n tm todo cs nx t) (.round l args) = some s' ∧ Good F M fin s' := by
  simp only [roundK, objK_eq, loopD_eq, optF_eq, setRowK_eq] at he
  split at he
  · rename_i o ho
    split at he
    · rename_i st pend fn tmps ps a b d
      split at he
      · rename_i af haf
        obtain ⟨tm', h1, h2, h3, h4⟩ := setAllK_ok (okT_rowFrom tmps (Nat.le_refl _)) he
        have hget : (absH nx t).get l = some (.loop st pend fn tmps ps a b d) := by unfold absH; simp only [ho, Option.map_some, KO.abs]
        unfold acall
        simp only [stA, hget]
        refine ⟨_, if_pos ⟨h2.symm, by rw [haf]; rfl⟩, ?_⟩
        have := hn _ _ _ _ _ _ _ h1 (fun c hcc => (List.mem_cons.1 hcc).elim (fun e => by rw [e]; exact h) (hc c)) h4
        simp only [stA, kf, h3, rowL_of] at this
        exact this
      · cases he
    · cases he
  · cases he

end

end
end Go.Ab
/-
  The machine for the kernel's own reckoning takes steps of the abstract machine: operations, code, frames; the whole.
-/
namespace Go.Ab
open Go
noncomputable section

section
variable {F : FuncId → Option AFun} {M : KMemo} {fin : KS → Bool}

theorem unmask_fold : ∀ (mask : List Nat) (t : List AV), (mask.zip (List.replicate mask.length AV.undef)).foldl (fun t x => t.set x.1 x.2) t = unmask t mask
  | [], _ => rfl
  | d :: mask, t => by
    simp only [List.length_cons, List.replicate_succ, List.zip_cons_cons, List.foldl_cons, unmask]
    rw [unmask_fold mask]
    rfl

theorem raiseK_ok {hd : KHd} {n : Nat} {tm : T8 AV} {todo : List AItem} {chain : List APanic} {cs : List KF} {nx : Nat} {t : T8 KO} {next : KC} (hn : NextOk F M fin next) (h : okT n tm) (hc : okCs cs)
    (he : raiseK hd n tm todo chain cs nx t next = true) : Good F M fin ⟨(kf hd n tm todo).raise chain, cs.map KF.abs, absH nx t⟩ := by
  unfold raiseK at he
  unfold AF.raise kf
  cases hm : hd.mode with
  | run =>
    rw [hm] at he
    simp only
    have plain : next { hd with mode := .panicking chain } n tm todo cs nx t = true → (AF.leftTmps (kf hd n tm todo)) = rowL n tm → Good F M fin ⟨{ fn := hd.fn, tmps := AF.leftTmps (kf hd n tm todo), todo := todo, defers := hd.defers, mode := .panicking chain, kind := hd.kind, roundOf := hd.roundOf }, cs.map KF.abs, absH nx t⟩ := by
      intro h1 h2
      rw [h2]
      exact hn _ _ _ _ _ _ _ h hc h1
    have e : kf hd n tm todo = { fn := hd.fn, tmps := rowL n tm, todo := todo, defers := hd.defers, mode := .run, kind := hd.kind, roundOf := hd.roundOf } := by unfold kf; rw [hm]
    rw [← e]
    cases todo with
    | nil => exact plain he rfl
    | cons i k =>
      cases i with
      | inMain o ag mask plan =>
        have he' : (setAllK mask (List.replicate (List.length mask) .undef) n tm fun tm => next { hd with mode := .panicking chain } n tm (.inMain o ag mask plan :: k) cs nx t) = true := he
        obtain ⟨tm', h1, _, h2, h3⟩ := setAllK_ok h he'
        rw [unmask_fold] at h2
        have := hn _ _ _ _ _ _ _ h1 hc h3
        simp only [stA, kf, h2] at this
        exact this
      | _ => exact plain he rfl
  | returning =>
    rw [hm] at he
    exact hn _ _ _ _ _ _ _ h hc he
  | panicking old =>
    rw [hm] at he
    exact hn _ _ _ _ _ _ _ h hc he

theorem noneD_true {o : Option Nat} {k : Bool} (h : noneD o k = true) : o = none ∧ k = true := by
  cases o with
  | none => exact ⟨rfl, h⟩
  | some x => cases h

theorem actK_ok {o : AOper} {hd : KHd} {n : Nat} {tm : T8 AV} {todo : List AItem} {cs : List KF} {nx : Nat} {t : T8 KO} {next : KC} (hn : NextOk F M fin next) (hm : hd.mode = .run) (h : okT n tm) (hc : okCs cs)
    (he : actK F M o.act hd n tm todo cs nx t next = true) : ∃ s', aoper F (absM M) (stA hd n tm todo cs nx t) o = some s' ∧ Good F M fin s' := by
  unfold aoper
  cases hact : o.act with
  | op a =>
    rw [hact] at he
    have he' : (kexec a tm nx t fun v nx t => finishK v hd n tm todo cs nx t next) = true := he
    obtain ⟨v, nx', t', h1, h2⟩ := kexec_ok a tm nx t _ he'
    obtain ⟨fr', h3, h4⟩ := finishK_ok hn hm h hc h2
    simp only [stA, kf, aev_kev h, h1]
    simp only [kf] at h3
    rw [h3]
    exact ⟨_, rfl, h4⟩
  | call f args =>
    rw [hact] at he
    have he' : (opK f tm fun vf => opsK args tm fun va => funcD vf (fun fn first cap => callK F M fn (first ++ va ++ cap) hd n tm todo cs nx t next) (fun l => roundK F l va hd n tm todo cs nx t next)) = true := he
    rw [opK_eq, opsK_eq, funcD_eq] at he'
    simp only [stA, kf, aev_kev h]
    generalize kev tm f = vf at he' ⊢
    split at he'
    · obtain ⟨s', h1, h2⟩ := callK_ok hn hm h hc he'
      exact ⟨s', h1, h2⟩
    · obtain ⟨s', h1, h2⟩ := roundK_ok hn h hc he'
      exact ⟨s', h1, h2⟩
    · cases he'
  | defer f args =>
    rw [hact] at he
    have he' : noneD hd.roundOf (opK f tm fun vf => opsK args tm fun va => funcD vf (fun fn first cap => finishK .undef { hd with defers := .call fn (first ++ va ++ cap) :: hd.defers } n tm todo cs nx t next) (fun _ => false)) = true := he
    replace he' := noneD_true he'; obtain ⟨hr, he'⟩ := he'
    rw [opK_eq, opsK_eq, funcD_eq] at he'
    simp only [stA, kf, aev_kev h]
    generalize kev tm f = vf at he' ⊢
    split at he'
    · obtain ⟨fr', h3, h4⟩ := finishK_ok hn (hd := { hd with defers := .call _ (_ ++ args.map (kev tm) ++ _) :: hd.defers }) hm h hc he'
      simp only [hr]
      simp only [kf, hr] at h3
      rw [h3]
      exact ⟨_, rfl, h4⟩
    · cases he'
    · cases he'
  | panic x =>
    rw [hact] at he
    have he' : (opK x tm fun v => ifaceD v (fun ty u => raiseK hd n tm todo [⟨.iface ty u, false⟩] cs nx t next) false) = true := he
    rw [opK_eq, ifaceD_eq] at he'
    simp only [stA, kf, aev_kev h]
    generalize kev tm x = vx at he' ⊢
    split at he'
    · exact ⟨_, rfl, raiseK_ok hn h hc he'⟩
    · cases he'
    · cases he'
  | recover =>
    rw [hact] at he
    have he' : recoverK hd n tm todo cs nx t next = true := he
    replace he' := noneD_true he'; obtain ⟨hr, he'⟩ := he'
    simp only [stA, kf, hr]
    have nilc : finishK .nilIface hd n tm todo cs nx t next = true → ∃ s', (Option.map (fun fr => ({ fr := fr, cs := cs.map KF.abs, h := absH nx t } : AS)) ((kf hd n tm todo).finish (absH nx t) .nilIface)) = some s' ∧ Good F M fin s' := by
      intro hf
      obtain ⟨fr', h3, h4⟩ := finishK_ok hn hm h hc hf
      rw [h3]
      exact ⟨_, rfl, h4⟩
    have e : kf hd n tm todo = { fn := hd.fn, tmps := rowL n tm, todo := todo, defers := hd.defers, mode := hd.mode, kind := hd.kind, roundOf := none } := by unfold kf; rw [hr]
    rw [← e]
    cases hk : hd.kind with
    | normal =>
      rw [hk] at he'
      rw [if_pos (.inl rfl)]
      have : arecover .normal (cs.map KF.abs) = none := by cases cs <;> rfl
      rw [this]
      exact nilc he'
    | deferred =>
      rw [hk] at he'
      cases cs with
      | nil => cases he'
      | cons c rest =>
        rw [if_pos (.inr ⟨rfl, rfl⟩)]
        simp only [List.map_cons, arecover]
        cases hcm : c.hd.mode with
        | run =>
          have he2 : finishK .nilIface hd n tm todo (c :: rest) nx t next = true := by simpa only [hcm] using he'
          have e2 : c.abs.mode = .run := hcm
          simp only [e2]
          exact nilc he2
        | returning =>
          have he2 : finishK .nilIface hd n tm todo (c :: rest) nx t next = true := by simpa only [hcm] using he'
          have e2 : c.abs.mode = .returning := hcm
          simp only [e2]
          exact nilc he2
        | panicking chain =>
          have e2 : c.abs.mode = .panicking chain := hcm
          simp only [e2]
          cases chain with
          | nil =>
            have he2 : finishK .nilIface hd n tm todo (c :: rest) nx t next = true := by simpa only [hcm] using he'
            exact nilc he2
          | cons p older =>
            obtain ⟨pv, pr⟩ := p
            cases pr with
            | true =>
              have he2 : finishK .nilIface hd n tm todo (c :: rest) nx t next = true := by simpa only [hcm, iteF_eq, if_true] using he'
              exact nilc he2
            | false =>
              have he2 : finishK pv hd n tm todo (⟨{ c.hd with mode := .panicking (⟨pv, true⟩ :: older) }, c.n, c.tm, c.todo⟩ :: rest) nx t next = true := by simpa only [hcm, iteF_eq, Bool.false_eq_true, if_false] using he'
              have hc2 : okCs (⟨{ c.hd with mode := .panicking (⟨pv, true⟩ :: older) }, c.n, c.tm, c.todo⟩ :: rest) := fun x hx => by
                rcases List.mem_cons.1 hx with rfl | hx
                · exact hc c (by simp)
                · exact hc x (by simp [hx])
              obtain ⟨fr', h3, h4⟩ := finishK_ok hn hm h hc2 he2
              simp only
              rw [h3]
              exact ⟨_, rfl, h4⟩
    | _ => rw [hk] at he'; cases he'

theorem oneK_ok {o : AOper} {hd : KHd} {n : Nat} {tm : T8 AV} {todo : List AItem} {cs : List KF} {nx : Nat} {t : T8 KO} {next : KC} (hn : NextOk F M fin next) (hm : hd.mode = .run) (h : okT n tm) (hc : okCs cs)
    (he : oneK F M o hd n tm todo cs nx t next = true) : ∃ s', aone F (absM M) (stA hd n tm todo cs nx t) o = some s' ∧ Good F M fin s' := by
  unfold aone
  have e : (stA hd n tm todo cs nx t).fr.tmps = rowL n tm := rfl
  rw [e]
  rcases guardK_ok h he with ⟨h1, h2⟩ | ⟨h1, h2⟩
  · rw [h1]
    exact actK_ok hn hm h hc h2
  · rw [h1]
    obtain ⟨fr', h3, h4⟩ := finishK_ok hn hm h hc h2
    simp only [stA]
    rw [h3]
    exact ⟨_, rfl, h4⟩

theorem astep_run {s : AS} (h : s.fr.mode = .run) : astep F (absM M) s = arun F (absM M) s := by unfold astep; rw [h]

theorem opsRunK_ok {next : KC} (hn : NextOk F M fin next) : ∀ (ops : List AOper) {hd : KHd} {n : Nat} {tm : T8 AV} {k : List AItem} {cs : List KF} {nx : Nat} {t : T8 KO}, hd.mode = .run → okT n tm → okCs cs →
    opsRunK F M ops hd n tm k cs nx t next = true → Good F M fin (stA hd n tm (.inRegion ops :: k) cs nx t)
  | [], hd, n, tm, k, cs, nx, t, hm, h, hc, he => by
    refine Good.step (s1 := stA hd n tm k cs nx t) ?_ (hn _ _ _ _ _ _ _ h hc he)
    rw [astep_run (show (stA hd n tm (.inRegion [] :: k) cs nx t).fr.mode = .run from hm)]
    rfl
  | o :: rest, hd, n, tm, k, cs, nx, t, hm, h, hc, he => by
    have hstep : astep F (absM M) (stA hd n tm (.inRegion (o :: rest) :: k) cs nx t) = aone F (absM M) (stA hd n tm (.inRegion (o :: rest) :: k) cs nx t) o := by
      rw [astep_run (show (stA hd n tm (.inRegion (o :: rest) :: k) cs nx t).fr.mode = .run from hm)]
      rfl
    have he' : guardK o.guard tm
      (@AAct.rec (fun _ => Bool) (fun a => kexec a tm nx t fun v nx t => setDstK o.dst n tm v fun tm => opsRunK F M rest hd n tm k cs nx t next)
        (fun f args => actK F M (.call f args) hd n tm (.inRegion (o :: rest) :: k) cs nx t next) (fun f args => actK F M (.defer f args) hd n tm (.inRegion (o :: rest) :: k) cs nx t next)
        (fun x => actK F M (.panic x) hd n tm (.inRegion (o :: rest) :: k) cs nx t next) (actK F M .recover hd n tm (.inRegion (o :: rest) :: k) cs nx t next) o.act)
      (setDstK o.dst n tm (.tuple []) fun tm => opsRunK F M rest hd n tm k cs nx t next) = true := he
    have efr : (stA hd n tm (.inRegion (o :: rest) :: k) cs nx t).fr.tmps = rowL n tm := rfl
    rcases guardK_ok h he' with ⟨h1, h2⟩ | ⟨h1, h2⟩
    · have hother : actK F M o.act hd n tm (.inRegion (o :: rest) :: k) cs nx t next = true → Good F M fin (stA hd n tm (.inRegion (o :: rest) :: k) cs nx t) := by
        intro ha
        obtain ⟨s', h3, h4⟩ := actK_ok (o := o) hn hm h hc ha
        refine Good.step (s1 := s') ?_ h4
        rw [hstep]
        unfold aone
        rw [efr, h1]
        exact h3
      cases hact : o.act with
      | op a =>
        rw [hact] at h2
        have h2' : (kexec a tm nx t fun v nx t => setDstK o.dst n tm v fun tm => opsRunK F M rest hd n tm k cs nx t next) = true := h2
        obtain ⟨v, nx', t', h3, h4⟩ := kexec_ok a tm nx t _ h2'
        obtain ⟨tm', h5, h6, h7, _⟩ := setDstK_ok h h4
        refine Good.step (s1 := stA hd n tm' (.inRegion rest :: k) cs nx' t') ?_ (opsRunK_ok hn rest hm h5 hc h7)
        rw [hstep]
        unfold aone
        rw [efr, h1]
        simp only [aoper, hact, stA, kf, aev_kev h, h3, AF.finish, hm, h6]
        rfl
      | call f args => rw [hact] at h2 hother; exact hother h2
      | defer f args => rw [hact] at h2 hother; exact hother h2
      | panic x => rw [hact] at h2 hother; exact hother h2
      | recover => rw [hact] at h2 hother; exact hother h2
    · obtain ⟨tm', h5, h6, h7, _⟩ := setDstK_ok h h2
      refine Good.step (s1 := stA hd n tm' (.inRegion rest :: k) cs nx t) ?_ (opsRunK_ok hn rest hm h5 hc h7)
      rw [hstep]
      unfold aone
      rw [efr, h1]
      simp only [stA, kf, AF.finish, hm, h6]
      rfl

theorem floatK_ok {o : AOper} {hd : KHd} {n : Nat} {tm : T8 AV} {todo todo0 : List AItem} {cs : List KF} {nx : Nat} {t : T8 KO} {next : KC} (hn : NextOk F M fin next) (h : okT n tm) (hc : okCs cs)
    (he : floatK o hd n tm todo cs nx t next = true) : ∃ s', afloat (stA hd n tm todo0 cs nx t) o todo = some s' ∧ Good F M fin s' := by
  unfold afloat
  have efr : (stA hd n tm todo0 cs nx t).fr.tmps = rowL n tm := rfl
  rcases guardK_ok h he with ⟨h1, h2⟩ | ⟨h1, h2⟩
  · rw [efr, h1]
    simp only
    cases hact : o.act with
    | op a =>
      rw [hact] at h2
      have h2' : (kexec a tm nx t fun v nx t => setDstK o.dst n tm v fun tm => next hd n tm todo cs nx t) = true := h2
      obtain ⟨v, nx', t', h3, h4⟩ := kexec_ok a tm nx t _ h2'
      obtain ⟨tm', h5, h6, h7, h8⟩ := setDstK_ok h h4
      have eh : (stA hd n tm todo0 cs nx t).h = absH nx t := rfl
      rw [eh, aev_kev h]
      simp only [h3, h8, Bool.not_true, Bool.and_false, Bool.false_eq_true, if_false]
      refine ⟨_, rfl, ?_⟩
      have := hn _ _ _ _ _ _ _ h5 hc h7
      simp only [stA, kf, h6] at this
      exact this
    | _ => rw [hact] at h2; cases h2
  · rw [efr, h1]
    obtain ⟨tm', h5, h6, h7, _⟩ := setDstK_ok h h2
    refine ⟨_, rfl, ?_⟩
    have := hn _ _ _ _ _ _ _ h5 hc h7
    simp only [stA, kf, h6] at this
    exact this

theorem storeD_true {a : AAct} {k : Nat → AOpd → AOpd → Bool} (h : storeD a k = true) : ∃ n x y, a = .op (.store n x y) ∧ k n x y = true := by
  unfold storeD at h
  split at h
  · exact ⟨_, _, _, rfl, h⟩
  · cases h

theorem wholeK_true {b o nx : Nat} {t : T8 KO} {k : Bool} (h : wholeK b o t k = true) : (absH nx t).whole b o = true ∧ k = true := by
  simp only [wholeK, objK_eq, rowD_eq] at h
  split at h
  · rename_i ob hob
    split at h
    · rename_i len r sp pre anc
      replace h := ifF_true h
      refine ⟨?_, h.2⟩
      have hg : (absH nx t).get b = some (.cells (rowL len r) sp pre anc) := by unfold absH; simp only [hob, Option.map_some, KO.abs]
      unfold AH.whole
      rw [hg]
      exact h.1
    · cases h
  · cases h

theorem ends2K_ok {a b : AOper} {n : Nat} {tm : T8 AV} {nx : Nat} {t : T8 KO} {c : Nat → T8 KO → Bool} (h : okT n tm) (he : ends2K a.act b.act tm nx t c = true) : ∃ nx' t', ends2 (rowL n tm) (absH nx t) a b = some (absH nx' t') ∧ c nx' t' = true := by
  unfold ends2K at he
  obtain ⟨m, x, y, ha, he⟩ := storeD_true he
  obtain ⟨m', x', y', hb, he⟩ := storeD_true he
  simp only [opK_eq, ptrD_eq] at he
  split at he
  · rename_i b1 o1 hx
    split at he
    · rename_i b2 o2 hx'
      replace he := ifF_true he; obtain ⟨hne, he⟩ := he
      obtain ⟨hw1, he⟩ := wholeK_true (nx := nx) he
      obtain ⟨hw2, he⟩ := wholeK_true (nx := nx) he
      obtain ⟨v1, nx1, t1, e1, he⟩ := kexec_ok _ _ _ _ _ he
      obtain ⟨v2, nx2, t2, e2, he⟩ := kexec_ok _ _ _ _ _ he
      refine ⟨nx2, t2, ?_, he⟩
      unfold ends2
      rw [ha, hb]
      simp only [aev_kev h, hx, hx']
      rw [notF_eq] at hne
      rw [if_pos (by rw [hne, hw1, hw2]; rfl)]
      simp only [e1, e2]
    · cases he
    · cases he
  · cases he
  · cases he

theorem resK_ok {r : ARes} {n : Nat} {tm : T8 AV} {nx : Nat} {t : T8 KO} {k : AV → Bool} (h : okT n tm) (hr : resK r tm t k = true) : ∃ v, aresult (absH nx t) (rowL n tm) r = some v ∧ k v = true := by
  cases r with
  | tmp s =>
    have hr' : getK AV (path s) tm k (k .undef) = true := hr
    rw [getK_eq] at hr'
    refine ⟨(tm.get s).getD .undef, by simp only [aresult, rowL_getD h], ?_⟩
    unfold T8.get
    cases hv : T8.getP (path s) tm with
    | none => rw [hv] at hr'; exact hr'
    | some v => rw [hv] at hr'; exact hr'
  | cell s agg m =>
    have hr' : getK AV (path s) tm (fun a => ptrD a (fun b o => objK b t fun ob => cellsD ob fun len r => ifF (Nat.ble (Nat.add o m) len) (readK m o r fun l => iteF agg (k (.agg l)) (@List.rec AV (fun _ => Bool) false (fun v l _ => nilD AV l (k v)) l)))
      (fun l => ifF (Nat.ble m (List.length l)) (iteF agg (k (.agg (List.take m l))) (@List.rec AV (fun _ => Bool) false (fun v l _ => nilD AV l (k v)) (List.take m l))))) false = true := hr
    rw [getK_eq] at hr'
    cases hv : T8.getP (path s) tm with
    | none => rw [hv] at hr'; cases hr'
    | some a =>
      rw [hv] at hr'
      have hgd : (rowL n tm).getD s .undef = a := by rw [rowL_getD h]; show (T8.getP (path s) tm).getD .undef = a; rw [hv]; rfl
      have fin : ∀ l : List AV, loadA (absH nx t) m a = some l → iteF agg (k (.agg l)) (@List.rec AV (fun _ => Bool) false (fun v l _ => nilD AV l (k v)) l) = true → ∃ v, aresult (absH nx t) (rowL n tm) (.cell s agg m) = some v ∧ k v = true := by
        intro l hl hk
        simp only [aresult, hgd, hl]
        rw [iteF_eq] at hk
        cases agg with
        | true => exact ⟨_, rfl, hk⟩
        | false =>
          simp only [Bool.false_eq_true, if_false] at hk ⊢
          cases l with
          | nil => cases hk
          | cons v l =>
            obtain ⟨rfl, hk⟩ := nilD_true (l := l) hk
            exact ⟨v, rfl, hk⟩
      simp only [ptrD_eq, objK_eq, cellsD_row, readK_eq] at hr'
      cases a with
      | ptr b o =>
        simp only at hr'
        split at hr'
        · rename_i ob hob
          split at hr'
          · rename_i len r hrow
            obtain ⟨h1, h2⟩ := ifF_true hr'
            exact fin _ (read_abs hob hrow (Nat.le_of_ble_eq_true h1)) h2
          · cases hr'
        · cases hr'
      | iptr l =>
        simp only at hr'
        obtain ⟨h1, h2⟩ := ifF_true hr'
        exact fin _ (by simp only [loadA, if_pos (Nat.le_of_ble_eq_true h1)]) h2
      | _ => cases hr'

theorem ressK_ok {n : Nat} {tm : T8 AV} {nx : Nat} {t : T8 KO} (h : okT n tm) : ∀ {rs : List ARes} {k : List AV → Bool}, ressK rs tm t k = true → ∃ l, rs.mapM (aresult (absH nx t) (rowL n tm)) = some l ∧ k l = true
  | [], k, hr => ⟨[], rfl, hr⟩
  | r :: rs, k, hr => by
    have hr' : (resK r tm t fun v => ressK rs tm t fun l => k (v :: l)) = true := hr
    obtain ⟨v, h1, h2⟩ := resK_ok (nx := nx) h hr'
    obtain ⟨l, h3, h4⟩ := ressK_ok (nx := nx) h h2
    exact ⟨v :: l, by simp [List.mapM_cons, h1, h3], h4⟩

theorem resultsK_ok {n : Nat} {tm : T8 AV} {nx : Nat} {t : T8 KO} (h : okT n tm) {rs : List ARes} {k : AV → Bool} (hr : resultsK rs tm t k = true) : ∃ v, aresults (absH nx t) (rowL n tm) rs = some v ∧ k v = true := by
  obtain ⟨l, h1, h2⟩ := ressK_ok (nx := nx) h hr
  unfold aresults
  rw [h1]
  match l, h2 with
  | [], h2 => exact ⟨_, rfl, h2⟩
  | [v], h2 => exact ⟨v, rfl, h2⟩
  | _ :: _ :: _, h2 => exact ⟨_, rfl, h2⟩

theorem runD_true {hd : KHd} {k : Bool} (h : runD hd k = true) : hd.mode = .run ∧ k = true := by
  unfold runD at h
  cases hm : hd.mode with
  | run => rw [hm] at h; exact ⟨rfl, h⟩
  | _ => rw [hm] at h; cases h

theorem leaveK_ok {v : AV} {kind : CallKind} {cs : List KF} {nx : Nat} {t : T8 KO} {next : KC} (hn : NextOk F M fin next) (hc : okCs cs) (he : leaveK v kind cs nx t next = true) {fr : AF} (hk : fr.kind = kind) :
    ∃ s', aleave ⟨fr, cs.map KF.abs, absH nx t⟩ v = some s' ∧ Good F M fin s' := by
  cases cs with
  | nil => cases he
  | cons c rest =>
    have hc0 : okT c.n c.tm := hc c (by simp)
    have hcr : okCs rest := fun x hx => hc x (by simp [hx])
    unfold aleave
    simp only [List.map_cons, hk]
    cases kind with
    | normal =>
      have he' : runD c.hd (finishK v c.hd c.n c.tm c.todo rest nx t next) = true := he
      obtain ⟨h1, h2⟩ := runD_true he'
      obtain ⟨fr', h3, h4⟩ := finishK_ok hn h1 hc0 hcr h2
      have h3' : c.abs.finish (absH nx t) v = some fr' := h3
      simp only [h3']
      exact ⟨_, rfl, h4⟩
    | deferred =>
      have hplain : next c.hd c.n c.tm c.todo rest nx t = true → Good F M fin ⟨c.abs, rest.map KF.abs, absH nx t⟩ := fun hx => hn _ _ _ _ _ _ _ hc0 hcr hx
      have he' : @AMode.rec (fun _ => Bool) false (next c.hd c.n c.tm c.todo rest nx t) (fun chain => @List.rec APanic (fun _ => Bool) (next c.hd c.n c.tm c.todo rest nx t) (fun p _ _ => iteF p.recovered (next { c.hd with mode := .returning } c.n c.tm c.todo rest nx t) (next c.hd c.n c.tm c.todo rest nx t)) chain) c.hd.mode = true := he
      have em : c.abs.mode = c.hd.mode := rfl
      simp only [em]
      cases hm : c.hd.mode with
      | run => rw [hm] at he'; cases he'
      | returning => rw [hm] at he'; exact ⟨_, rfl, hplain he'⟩
      | panicking chain =>
        rw [hm] at he'
        cases chain with
        | nil => exact ⟨_, rfl, hplain he'⟩
        | cons p older =>
          obtain ⟨pv, pr⟩ := p
          cases pr with
          | true => exact ⟨_, rfl, hn _ _ _ _ _ _ _ hc0 hcr he'⟩
          | false => exact ⟨_, rfl, hplain he'⟩
    | _ => cases he

theorem deferredD_eq (o : KO) (k : List ADef → Bool) : deferredD o k = match o with | .deferred (some ds) => k ds | _ => false := by
  cases o with
  | deferred ds => cases ds <;> rfl
  | _ => rfl

theorem unwK_ok {hd : KHd} {n : Nat} {tm : T8 AV} {todo : List AItem} {cs : List KF} {nx : Nat} {t : T8 KO} {next : KC} (hn : NextOk F M fin next) (hm : hd.mode ≠ .run) (h : okT n tm) (hc : okCs cs)
    (he : unwK F fin hd n tm todo cs nx t next = true) : Good F M fin (stA hd n tm todo cs nx t) := by
  have hstep : ∀ {s'}, aunwind F (stA hd n tm todo cs nx t) = some s' → Good F M fin s' → Good F M fin (stA hd n tm todo cs nx t) := by
    intro s' h1 h2
    refine Good.step (s1 := s') ?_ h2
    unfold astep
    have em : (stA hd n tm todo cs nx t).fr.mode = hd.mode := rfl
    rw [em]
    cases hmm : hd.mode with
    | run => exact absurd hmm hm
    | _ => exact h1
  unfold unwK at he
  have ed : (stA hd n tm todo cs nx t).fr.defers = hd.defers := rfl
  have em : (stA hd n tm todo cs nx t).fr.mode = hd.mode := rfl
  cases hdf : hd.defers with
  | nil =>
    rw [hdf] at he
    cases hmm : hd.mode with
    | run => exact absurd hmm hm
    | returning =>
      rw [hmm] at he
      cases hcs : cs with
      | nil =>
        subst hcs
        exact ⟨0, _, rfl, ⟨⟨hd, n, tm, todo⟩, [], nx, t⟩, he, rfl⟩
      | cons c rest =>
        rw [hcs] at he
        have he' : (optF (F hd.fn) fun af => resultsK af.results tm t fun v => leaveK v hd.kind (c :: rest) nx t next) = true := he
        rw [optF_eq] at he'
        split at he'
        · rename_i af haf
          obtain ⟨v, h1, h2⟩ := resultsK_ok (nx := nx) h he'
          obtain ⟨s', h3, h4⟩ := leaveK_ok hn (by rw [← hcs]; exact hc) h2 (fr := kf hd n tm todo) rfl
          rw [← hcs] at h3 ⊢
          refine hstep (s' := s') ?_ h4
          unfold aunwind
          rw [ed, hdf]
          simp only [em, hmm]
          have ef : (stA hd n tm todo cs nx t).fr.fn = hd.fn := rfl
          have er : aresults (stA hd n tm todo cs nx t).h (stA hd n tm todo cs nx t).fr.tmps af.results = some v := h1
          rw [ef, haf]
          simp only [er]
          exact h3
        · cases he'
    | panicking chain =>
      rw [hmm] at he
      cases hcs : cs with
      | nil => rw [hcs] at he; cases he
      | cons c rest =>
        rw [hcs] at he
        have he' : raiseK c.hd c.n c.tm c.todo chain rest nx t next = true := he
        have hgood := raiseK_ok hn (hc c (by rw [hcs]; simp)) (fun x hx => hc x (by rw [hcs]; simp [hx])) he'
        rw [← hcs]
        refine hstep ?_ hgood
        unfold aunwind
        rw [ed, hdf]
        simp only [em, hmm]
        have ec : (stA hd n tm todo cs nx t).cs = c.abs :: rest.map KF.abs := by rw [hcs]; rfl
        rw [ec]
        rfl
  | cons d ds =>
    rw [hdf] at he
    cases d with
    | call f args =>
      have he' : enterK F f args .deferred (⟨{ hd with defers := ds }, n, tm, todo⟩ :: cs) nx t next = true := he
      obtain ⟨fr, h1, h2⟩ := enterK_ok hn (fun c hcc => (List.mem_cons.1 hcc).elim (fun e => by rw [e]; exact h) (hc c)) he'
      refine hstep ?_ h2
      unfold aunwind
      rw [ed, hdf]
      simp only [h1]
      rfl
    | collected b =>
      have he' : (objK b t fun o => deferredD o fun calls => putK' b (.deferred none) t fun t => next { hd with defers := calls ++ ds } n tm todo cs nx t) = true := he
      rw [objK_eq] at he'
      split at he'
      · rename_i o ho
        rw [deferredD_eq] at he'
        split at he'
        · rename_i calls
          rw [putK'_eq] at he'
          have hget : (stA hd n tm todo cs nx t).h.get b = some (.deferred (some calls)) := by show (t.get b).map KO.abs = _; rw [ho]; rfl
          have hgood := hn _ _ _ _ _ _ _ h hc he'
          refine hstep ?_ hgood
          unfold aunwind
          rw [ed, hdf]
          simp only [hget]
          simp only [stA, absH_put]
          rfl
        · cases he'
      · cases he'

theorem endK_ok {jump : Option AC} {pl : Bool} {hd : KHd} {n : Nat} {tm : T8 AV} {todo : List AItem} {cs : List KF} {nx : Nat} {t : T8 KO} {next : KC} (hn : NextOk F M fin next) (h : okT n tm) (hc : okCs cs)
    (he : endK jump pl hd n tm todo cs nx t next = true) : ∃ s', aend (stA hd n tm todo cs nx t) jump pl = some s' ∧ Good F M fin s' := by
  obtain ⟨hf, hds, hmo, hki, hro⟩ := hd
  unfold endK at he
  unfold aend
  cases hro with
  | none =>
    have he' : ifF pl (next ⟨hf, hds, .returning, hki, none⟩ n tm todo cs nx t) = true := he
    obtain ⟨h1, h2⟩ := ifF_true he'
    rw [h1]
    exact ⟨_, rfl, hn _ _ _ _ _ _ _ h hc h2⟩
  | some l =>
    cases hki with
    | normal =>
      have he' : (objK l t fun o => loopD o fun _ _ fn tmps ps a b d => putK' l (.loop (@Option.rec AC (fun _ => LoopState) .ready (fun _ => .done) jump) jump fn tmps ps a b d) t fun t => leaveK (.bool (@Option.rec AC (fun _ => Bool) true (fun _ => false) jump)) .normal cs nx t next) = true := he
      rw [objK_eq] at he'
      split at he'
      · rename_i o ho
        rw [loopD_eq] at he'
        split at he'
        · rename_i st pend fn tmps ps a b d
          rw [putK'_eq] at he'
          have hget : (absH nx t).get l = some (.loop st pend fn tmps ps a b d) := by show (t.get l).map KO.abs = _; rw [ho]; rfl
          simp only [stA, kf, hget]
          obtain ⟨s', h3, h4⟩ := leaveK_ok hn hc he' (fr := kf ⟨hf, hds, hmo, .normal, some l⟩ n tm todo) rfl
          refine ⟨s', ?_, h4⟩
          rw [absH_put] at h3
          cases jump <;> exact h3
        · cases he'
      · cases he'
    | _ => cases he

theorem codeK_ok {next : KC} (hn : NextOk F M fin next) : ∀ (c : AC) {k : List AItem} {hd : KHd} {n : Nat} {tm : T8 AV} {cs : List KF} {nx : Nat} {t : T8 KO}, hd.mode = .run → okT n tm → okCs cs →
    codeK F M c k hd n tm cs nx t next = true → Good F M fin (stA hd n tm (.code c :: k) cs nx t) := by
  intro c
  induction c with
  | skip =>
    intro k hd n tm cs nx t hm h hc he
    refine Good.step (s1 := stA hd n tm k cs nx t) ?_ (hn _ _ _ _ _ _ _ h hc he)
    rw [astep_run (show (stA hd n tm (.code .skip :: k) cs nx t).fr.mode = .run from hm)]
    rfl
  | region ops =>
    intro k hd n tm cs nx t hm h hc he
    refine Good.step (s1 := stA hd n tm (.inRegion ops :: k) cs nx t) ?_ (opsRunK_ok hn ops hm h hc he)
    rw [astep_run (show (stA hd n tm (.code (.region ops) :: k) cs nx t).fr.mode = .run from hm)]
    rfl
  | draw plan tl =>
    intro k hd n tm cs nx t hm h hc he
    refine Good.step (s1 := stA hd n tm (.drawRest plan :: .ends tl :: k) cs nx t) ?_ (hn _ _ _ _ _ _ _ h hc he)
    rw [astep_run (show (stA hd n tm (.code (.draw plan tl) :: k) cs nx t).fr.mode = .run from hm)]
    rfl
  | seq a b iha ihb =>
    intro k hd n tm cs nx t hm h hc he
    refine Good.step (s1 := stA hd n tm (.code a :: .code b :: k) cs nx t) ?_ (iha hm h hc he)
    rw [astep_run (show (stA hd n tm (.code (.seq a b) :: k) cs nx t).fr.mode = .run from hm)]
    rfl
  | cond x a b iha ihb =>
    intro k hd n tm cs nx t hm h hc he
    have he' : (opK x tm fun v => boolD v fun z => iteF z (codeK F M a k hd n tm cs nx t next) (codeK F M b k hd n tm cs nx t next)) = true := he
    rw [opK_eq, boolD_eq] at he'
    split at he'
    · rename_i z hz
      rw [iteF_eq] at he'
      have hev : aev (stA hd n tm (.code (.cond x a b) :: k) cs nx t).fr.tmps x = .bool z := by
        show aev (rowL n tm) x = _
        rw [aev_kev h, hz]
      refine Good.step (s1 := stA hd n tm (.code (if z then a else b) :: k) cs nx t) ?_ ?_
      · rw [astep_run (show (stA hd n tm (.code (.cond x a b) :: k) cs nx t).fr.mode = .run from hm)]
        show (match aev (stA hd n tm (.code (.cond x a b) :: k) cs nx t).fr.tmps x with | .bool b => _ | _ => none) = _
        rw [hev]
        rfl
      · cases z
        · exact ihb hm h hc he'
        · exact iha hm h hc he'
    · cases he'
  | block id b ihb =>
    intro k hd n tm cs nx t hm h hc he
    refine Good.step (s1 := stA hd n tm (.code b :: .inBlock id :: k) cs nx t) ?_ (ihb hm h hc he)
    rw [astep_run (show (stA hd n tm (.code (.block id b) :: k) cs nx t).fr.mode = .run from hm)]
    rfl
  | loop b ihb =>
    intro k hd n tm cs nx t hm h hc he
    refine Good.step (s1 := stA hd n tm (.code b :: .inLoop b :: k) cs nx t) ?_ (ihb hm h hc he)
    rw [astep_run (show (stA hd n tm (.code (.loop b) :: k) cs nx t).fr.mode = .run from hm)]
    rfl
  | rangeFunc f ps a b _ _ =>
    intro k hd n tm cs nx t hm h hc he
    have he' : noneD hd.roundOf (opK f tm fun vf => natF (Nat.succ nx) fun l => allocK (.deferred (some [])) nx t fun nx1 t1 => allocK (.loop .ready none hd.fn (rowL n tm) ps a b nx) nx1 t1 fun nx2 t2 =>
      funcD vf (fun fn first cap => callK F M fn (first ++ [.yield l] ++ cap) { hd with defers := .collected nx :: hd.defers } n tm (.inRangeFunc l :: k) cs nx2 t2 next) (fun _ => false)) = true := he
    replace he' := noneD_true he'; obtain ⟨hr, he'⟩ := he'
    rw [opK_eq, natF_eq, allocK_eq, allocK_eq, funcD_eq] at he'
    split at he'
    · rename_i fn first cap hf
      obtain ⟨s', h1, h2⟩ := callK_ok hn (hd := { hd with defers := .collected nx :: hd.defers }) hm h hc he'
      refine Good.step (s1 := s') ?_ h2
      rw [astep_run (show (stA hd n tm (.code (.rangeFunc f ps a b) :: k) cs nx t).fr.mode = .run from hm)]
      have er : (stA hd n tm (.code (.rangeFunc f ps a b) :: k) cs nx t).fr.roundOf = none := hr
      have hev : aev (stA hd n tm (.code (.rangeFunc f ps a b) :: k) cs nx t).fr.tmps f = .func fn first cap := by
        show aev (rowL n tm) f = _
        rw [aev_kev h, hf]
      show (match (stA hd n tm (.code (.rangeFunc f ps a b) :: k) cs nx t).fr.roundOf with | some _ => none | none => _) = _
      rw [er]
      simp only [hev, atarget]
      rw [← h1]
      simp only [stA, absH_alloc]
      rfl
    · cases he'
    · cases he'
  | exit id =>
    intro k hd n tm cs nx t hm h hc he
    have hstep := astep_run (F := F) (M := M) (show (stA hd n tm (.code (.exit id) :: k) cs nx t).fr.mode = .run from hm)
    have he' : @Option.rec (List AItem) (fun _ => Bool) (endK (some (.exit id)) false hd n tm (.code (.exit id) :: k) cs nx t next) (fun k' => next hd n tm k' cs nx t) (aexitTo id k) = true := he
    have hrun : arun F (absM M) (stA hd n tm (.code (.exit id) :: k) cs nx t) = (match aexitTo id k with | some k' => some (stA hd n tm k' cs nx t) | none => aend (stA hd n tm (.code (.exit id) :: k) cs nx t) (some (.exit id)) false) := rfl
    cases hx : aexitTo id k with
    | some k' =>
      rw [hx] at he' hrun
      exact Good.step (s1 := stA hd n tm k' cs nx t) (by rw [hstep, hrun]) (hn _ _ _ _ _ _ _ h hc he')
    | none =>
      rw [hx] at he' hrun
      obtain ⟨s', h1, h2⟩ := endK_ok hn h hc he'
      exact Good.step (s1 := s') (by rw [hstep, hrun]; exact h1) h2
  | scope b ihb =>
    intro k hd n tm cs nx t hm h hc he
    refine Good.step (s1 := stA hd n tm (.code b :: .inScope b :: k) cs nx t) ?_ (ihb hm h hc he)
    rw [astep_run (show (stA hd n tm (.code (.scope b) :: k) cs nx t).fr.mode = .run from hm)]
    rfl
  | label l =>
    intro k hd n tm cs nx t hm h hc he
    refine Good.step (s1 := stA hd n tm k cs nx t) ?_ (hn _ _ _ _ _ _ _ h hc he)
    rw [astep_run (show (stA hd n tm (.code (.label l) :: k) cs nx t).fr.mode = .run from hm)]
    rfl
  | goto l =>
    intro k hd n tm cs nx t hm h hc he
    have hstep := astep_run (F := F) (M := M) (show (stA hd n tm (.code (.goto l) :: k) cs nx t).fr.mode = .run from hm)
    have he' : @Option.rec (List AItem) (fun _ => Bool) (endK (some (.goto l)) false hd n tm (.code (.goto l) :: k) cs nx t next) (fun k' => next hd n tm k' cs nx t) (agotoIn l k) = true := he
    have hrun : arun F (absM M) (stA hd n tm (.code (.goto l) :: k) cs nx t) = (match agotoIn l k with | some k' => some (stA hd n tm k' cs nx t) | none => aend (stA hd n tm (.code (.goto l) :: k) cs nx t) (some (.goto l)) false) := rfl
    cases hx : agotoIn l k with
    | some k' =>
      rw [hx] at he' hrun
      exact Good.step (s1 := stA hd n tm k' cs nx t) (by rw [hstep, hrun]) (hn _ _ _ _ _ _ _ h hc he')
    | none =>
      rw [hx] at he' hrun
      obtain ⟨s', h1, h2⟩ := endK_ok hn h hc he'
      exact Good.step (s1 := s') (by rw [hstep, hrun]; exact h1) h2
  | ret =>
    intro k hd n tm cs nx t hm h hc he
    have he' : endK (some .ret) true hd n tm (.code .ret :: k) cs nx t next = true := he
    obtain ⟨s', h1, h2⟩ := endK_ok hn h hc he'
    refine Good.step (s1 := s') ?_ h2
    rw [astep_run (show (stA hd n tm (.code .ret :: k) cs nx t).fr.mode = .run from hm)]
    exact h1
  | stuck => intro k hd n tm cs nx t hm h hc he; cases he

theorem itemK_ok {next : KC} (hn : NextOk F M fin next) (i : AItem) {k : List AItem} {hd : KHd} {n : Nat} {tm : T8 AV} {cs : List KF} {nx : Nat} {t : T8 KO} (hm : hd.mode = .run) (h : okT n tm) (hc : okCs cs)
    (he : itemK F M i k hd n tm cs nx t next = true) : Good F M fin (stA hd n tm (i :: k) cs nx t) := by
  have hstep := astep_run (F := F) (M := M) (show (stA hd n tm (i :: k) cs nx t).fr.mode = .run from hm)
  cases i with
  | code c => exact codeK_ok hn c hm h hc he
  | inBlock id => exact Good.step (s1 := stA hd n tm k cs nx t) (by rw [hstep]; rfl) (hn _ _ _ _ _ _ _ h hc he)
  | inLoop b => exact Good.step (s1 := stA hd n tm (.code b :: .inLoop b :: k) cs nx t) (by rw [hstep]; rfl) (codeK_ok hn b hm h hc he)
  | inScope b => exact Good.step (s1 := stA hd n tm k cs nx t) (by rw [hstep]; rfl) (hn _ _ _ _ _ _ _ h hc he)
  | inRegion ops => exact opsRunK_ok hn ops hm h hc he
  | inDraw ops main ag mask plan =>
    cases ops with
    | nil =>
      cases main with
      | none => exact Good.step (s1 := stA hd n tm (.drawRest plan :: k) cs nx t) (by rw [hstep]; rfl) (hn _ _ _ _ _ _ _ h hc he)
      | some o =>
        have he' : oneK F M o hd n tm (.inMain o ag mask plan :: k) cs nx t next = true := he
        obtain ⟨s', h1, h2⟩ := oneK_ok hn hm h hc he'
        refine Good.step (s1 := stA hd n tm (.inMain o ag mask plan :: k) cs nx t) (by rw [hstep]; rfl) (Good.step (s1 := s') ?_ h2)
        rw [astep_run (show (stA hd n tm (.inMain o ag mask plan :: k) cs nx t).fr.mode = .run from hm)]
        exact h1
    | cons o rest =>
      have he' : floatK o hd n tm (.inDraw rest main ag mask plan :: k) cs nx t next = true := he
      obtain ⟨s', h1, h2⟩ := floatK_ok (todo0 := .inDraw (o :: rest) main ag mask plan :: k) hn h hc he'
      exact Good.step (s1 := s') (by rw [hstep]; exact h1) h2
  | inMain o ag mask plan =>
    have he' : oneK F M o hd n tm (.inMain o ag mask plan :: k) cs nx t next = true := he
    obtain ⟨s', h1, h2⟩ := oneK_ok hn hm h hc he'
    exact Good.step (s1 := s') (by rw [hstep]; exact h1) h2
  | drawRest plan =>
    cases plan with
    | nil => exact Good.step (s1 := stA hd n tm k cs nx t) (by rw [hstep]; rfl) (hn _ _ _ _ _ _ _ h hc he)
    | cons st plan => exact Good.step (s1 := stA hd n tm (.inDraw st.ops st.main st.again st.mask plan :: k) cs nx t) (by rw [hstep]; rfl) (hn _ _ _ _ _ _ _ h hc he)
  | ends tl =>
    cases tl with
    | nil => exact Good.step (s1 := stA hd n tm k cs nx t) (by rw [hstep]; rfl) (hn _ _ _ _ _ _ _ h hc he)
    | cons a tl =>
      cases tl with
      | nil => cases he
      | cons b tl =>
        cases tl with
        | cons _ _ => cases he
        | nil =>
          have he' : ends2K a.act b.act tm nx t (fun nx t => next hd n tm k cs nx t) = true := he
          obtain ⟨nx', t', h1, h2⟩ := ends2K_ok h he'
          refine Good.step (s1 := stA hd n tm k cs nx' t') ?_ (hn _ _ _ _ _ _ _ h hc h2)
          rw [hstep]
          simp only [arun, stA, kf, h1]
  | inRangeFunc l => cases he
  | endRangeFunc l =>
    have he' : (objK l t fun o => loopD o fun st pend fn tmps ps a b d => @LoopState.rec (fun _ => Bool -> Bool) (fun x => x) (fun _ => false) (fun x => x) (fun x => x) st
      (putK' l (.loop .exhausted pend fn tmps ps a b d) t fun t => @Option.rec AC (fun _ => Bool) (next hd n tm k cs nx t) (fun c => next hd n tm (.code c :: k) cs nx t) pend)) = true := he
    rw [objK_eq] at he'
    split at he'
    · rename_i o ho
      rw [loopD_eq] at he'
      split at he'
      · rename_i st pend fn tmps ps a b d
        have hget : (stA hd n tm (.endRangeFunc l :: k) cs nx t).h.get l = some (.loop st pend fn tmps ps a b d) := by show (t.get l).map KO.abs = _; rw [ho]; rfl
        have hrun : arun F (absM M) (stA hd n tm (.endRangeFunc l :: k) cs nx t) = (match (stA hd n tm (.endRangeFunc l :: k) cs nx t).h.get l with
          | some (.loop st pend fn tmps params assign body d) => if st = .busy then none else some { (stA hd n tm (.endRangeFunc l :: k) cs nx t) with fr := { (stA hd n tm (.endRangeFunc l :: k) cs nx t).fr with todo := match pend with | some c => .code c :: k | none => k }, h := (stA hd n tm (.endRangeFunc l :: k) cs nx t).h.put l (.loop .exhausted pend fn tmps params assign body d) }
          | _ => none) := rfl
        rw [hget] at hrun
        simp only at hrun
        have key : st ≠ .busy ∧ (putK' l (.loop .exhausted pend fn tmps ps a b d) t fun t => @Option.rec AC (fun _ => Bool) (next hd n tm k cs nx t) (fun c => next hd n tm (.code c :: k) cs nx t) pend) = true := by
          cases st with
          | busy => cases he'
          | ready => exact ⟨by simp, he'⟩
          | done => exact ⟨by simp, he'⟩
          | exhausted => exact ⟨by simp, he'⟩
        obtain ⟨hne, he2⟩ := key
        rw [if_neg hne] at hrun
        rw [putK'_eq] at he2
        refine Good.step (by rw [hstep, hrun]) ?_
        cases pend with
        | none =>
          have := hn _ _ _ _ _ _ _ h hc he2
          simp only [stA, absH_put] at this; exact this
        | some c =>
          have := hn _ _ _ _ _ _ _ h hc he2
          simp only [stA, absH_put] at this; exact this
      · cases he'
    · cases he'
  | beginRound =>
    have he' : (optF hd.roundOf fun l => objK l t fun o => loopD o fun st pend fn tmps ps a b d => @LoopState.rec (fun _ => Bool → Bool) (fun x => x) (fun _ => false) (fun _ => false) (fun _ => false) st
      (putK' l (.loop .busy pend fn tmps ps a b d) t fun t => next hd n tm k cs nx t)) = true := he
    rw [optF_eq] at he'
    split at he'
    · rename_i l hl
      rw [objK_eq] at he'
      split at he'
      · rename_i o ho
        rw [loopD_eq] at he'
        split at he'
        · rename_i st pend fn tmps ps a b d
          cases st with
          | ready =>
            have he2 : (putK' l (.loop .busy pend fn tmps ps a b d) t fun t => next hd n tm k cs nx t) = true := he'
            rw [putK'_eq] at he2
            have hget : (stA hd n tm (.beginRound :: k) cs nx t).h.get l = some (.loop .ready pend fn tmps ps a b d) := by show (t.get l).map KO.abs = _; rw [ho]; rfl
            have er : (stA hd n tm (.beginRound :: k) cs nx t).fr.roundOf = some l := hl
            have hrun : arun F (absM M) (stA hd n tm (.beginRound :: k) cs nx t) = (match (stA hd n tm (.beginRound :: k) cs nx t).fr.roundOf with
              | some l => match (stA hd n tm (.beginRound :: k) cs nx t).h.get l with
                | some (.loop .ready pend fn tmps params assign body d) => some { (stA hd n tm (.beginRound :: k) cs nx t) with fr := { (stA hd n tm (.beginRound :: k) cs nx t).fr with todo := k }, h := (stA hd n tm (.beginRound :: k) cs nx t).h.put l (.loop .busy pend fn tmps params assign body d) }
                | _ => none
              | none => none) := rfl
            rw [er] at hrun
            simp only [hget] at hrun
            refine Good.step (by rw [hstep, hrun]) ?_
            have := hn _ _ _ _ _ _ _ h hc he2
            simp only [stA, absH_put] at this; exact this
          | _ => cases he'
        · cases he'
      · cases he'
    · cases he'

theorem stepK_ok {hd : KHd} {n : Nat} {tm : T8 AV} {todo : List AItem} {cs : List KF} {nx : Nat} {t : T8 KO} {next : KC} (hn : NextOk F M fin next) (h : okT n tm) (hc : okCs cs)
    (he : stepK F M fin hd n tm todo cs nx t next = true) : Good F M fin (stA hd n tm todo cs nx t) := by
  unfold stepK at he
  cases hm : hd.mode with
  | run =>
    rw [hm] at he
    cases todo with
    | nil =>
      have he' : endK none true hd n tm [] cs nx t next = true := he
      obtain ⟨s', h1, h2⟩ := endK_ok hn h hc he'
      refine Good.step (s1 := s') ?_ h2
      rw [astep_run (show (stA hd n tm [] cs nx t).fr.mode = .run from hm)]
      exact h1
    | cons i k => exact itemK_ok hn i hm h hc he
  | returning => rw [hm] at he; exact unwK_ok hn (by rw [hm]; simp) h hc he
  | panicking chain => rw [hm] at he; exact unwK_ok hn (by rw [hm]; simp) h hc he

theorem loopK_ok : ∀ (fuel : Nat), NextOk F M fin (loopK F M fin fuel)
  | 0 => fun hd n tm todo cs nx t _ _ he => ⟨0, _, rfl, ⟨⟨hd, n, tm, todo⟩, cs, nx, t⟩, he, rfl⟩
  | fuel + 1 => fun hd n tm todo cs nx t h hc he => stepK_ok (loopK_ok fuel) h hc he

end

end
end Go.Ab

/-
  Segments: from a state that is written down to another one.
-/
import Derived.Test.YtjdgikpokdgapaaGreatDoorKaFtoKaU
set_option linter.all false
namespace Go.Ab
open Go Go.RowKit
noncomputable section

/-- A frame, written down. -/
structure LF where
  hd : KHd
  tm : List AV
  todo : List AItem

/-- A state, written down. -/
structure LS where
  fr : LF
  cs : List LF
  nx : Nat
  heap : List (Nat × AO)

def LF.abs (f : LF) : AF := { fn := f.hd.fn, tmps := f.tm, todo := f.todo, defers := f.hd.defers, mode := f.hd.mode, kind := f.hd.kind, roundOf := f.hd.roundOf }

def lookH : List (Nat × AO) → Nat → Option AO
  | [], _ => none
  | (b, o) :: l, x => if x = b then some o else lookH l x

def LS.abs (s : LS) : AS := { fr := s.fr.abs, cs := s.cs.map LF.abs, h := ⟨lookH s.heap, s.nx⟩ }

/-- Objects, with rows in trees. -/
def toKO : AO → (KO → Bool) → Bool :=
  @AO.rec (fun _ => (KO → Bool) → Bool) (fun l sp pre anc k => setRowK l 0 .nil fun r => k (.cells (List.length l) r sp pre anc)) (fun l k => setRowK l 0 .nil fun r => k (.old (List.length l) r)) (fun es c k => k (.map es c)) (fun n b p k => k (.iter n b p))
    (fun st p fn tm ps a b d k => k (.loop st p fn tm ps a b d)) (fun ds k => k (.deferred ds))

theorem toKO_eq (o : AO) (k : KO → Bool) : ∃ o', toKO o k = k o' ∧ o'.abs = o := by
  cases o with
  | cells l sp pre anc =>
    refine ⟨.cells l.length (rowFrom 0 l .nil) sp pre anc, setRowK_eq l 0 .nil _, ?_⟩
    simp only [KO.abs, rowL_of]
  | old l =>
    refine ⟨.old l.length (rowFrom 0 l .nil), setRowK_eq l 0 .nil _, ?_⟩
    simp only [KO.abs, rowL_of]
  | map es c => exact ⟨.map es c, rfl, rfl⟩
  | iter n b p => exact ⟨.iter n b p, rfl, rfl⟩
  | loop st p fn tm ps a b d => exact ⟨.loop st p fn tm ps a b d, rfl, rfl⟩
  | deferred ds => exact ⟨.deferred ds, rfl, rfl⟩

/-- A heap in a tree. -/
def heapK : List (Nat × AO) → (T8 KO → Bool) → Bool :=
  @List.rec (Nat × AO) (fun _ => (T8 KO → Bool) → Bool) (fun k => k .nil) (fun x _ ih k => ih fun t => toKO x.2 fun o => putK' x.1 o t k)

theorem heapK_eq : ∀ (l : List (Nat × AO)) (k : T8 KO → Bool), ∃ t, heapK l k = k t ∧ ∀ nx, absH nx t = ⟨lookH l, nx⟩
  | [], k => ⟨.nil, rfl, fun nx => by
    unfold absH
    congr 1
    funext b
    rw [T8.get_nil]
    rfl⟩
  | (b, o) :: l, k => by
    obtain ⟨t, h1, h2⟩ := heapK_eq l fun t => toKO o fun o => putK' b o t k
    obtain ⟨o', h3, h4⟩ := toKO_eq o fun o => putK' b o t k
    refine ⟨t.set b o', ?_, fun nx => ?_⟩
    · show heapK l (fun t => toKO o fun o => putK' b o t k) = _
      rw [h1, h3, putK'_eq]
    · rw [absH_put, h2 nx, h4]
      unfold AH.put
      congr 1

def framesK : List LF → (List KF → Bool) → Bool :=
  @List.rec LF (fun _ => (List KF → Bool) → Bool) (fun k => k []) (fun f _ ih k => ih fun l => setRowK f.tm 0 .nil fun r => k (⟨f.hd, List.length f.tm, r, f.todo⟩ :: l))

theorem framesK_eq : ∀ (l : List LF) (k : List KF → Bool), ∃ cs, framesK l k = k cs ∧ okCs cs ∧ cs.map KF.abs = l.map LF.abs
  | [], k => ⟨[], rfl, fun c hc => (by cases hc), rfl⟩
  | f :: l, k => by
    obtain ⟨cs, h1, h2, h3⟩ := framesK_eq l fun l => setRowK f.tm 0 .nil fun r => k (⟨f.hd, List.length f.tm, r, f.todo⟩ :: l)
    refine ⟨⟨f.hd, f.tm.length, rowFrom 0 f.tm .nil, f.todo⟩ :: cs, ?_, fun c hc => ?_, ?_⟩
    · show framesK l (fun l => setRowK f.tm 0 .nil fun r => k (⟨f.hd, List.length f.tm, r, f.todo⟩ :: l)) = _
      rw [h1, setRowK_eq]
    · rcases List.mem_cons.1 hc with rfl | hc
      · exact okT_rowFrom f.tm (Nat.le_refl _)
      · exact h2 c hc
    · simp only [List.map_cons, h3, KF.abs, LF.abs, rowL_of]

/-- From a state that is written down. -/
def startK (s : LS) (next : KC) : Bool :=
  heapK s.heap fun t => framesK s.cs fun cs => setRowK s.fr.tm 0 .nil fun tm => next s.fr.hd (List.length s.fr.tm) tm s.fr.todo cs s.nx t

section
variable {F : FuncId → Option AFun} {M : KMemo} {fin : KS → Bool}

theorem startK_ok {s : LS} {next : KC} (hn : NextOk F M fin next) (he : startK s next = true) : Good F M fin s.abs := by
  unfold startK at he
  obtain ⟨t, h1, h2⟩ := heapK_eq s.heap fun t => framesK s.cs fun cs => setRowK s.fr.tm 0 .nil fun tm => next s.fr.hd (List.length s.fr.tm) tm s.fr.todo cs s.nx t
  rw [h1] at he
  obtain ⟨cs, h3, h4, h5⟩ := framesK_eq s.cs fun cs => setRowK s.fr.tm 0 .nil fun tm => next s.fr.hd (List.length s.fr.tm) tm s.fr.todo cs s.nx t
  rw [h3, setRowK_eq] at he
  have := hn _ _ _ _ _ _ _ (okT_rowFrom s.fr.tm (Nat.le_refl _)) h4 he
  simp only [stA, kf, rowL_of, h5, h2] at this
  exact this

/-- What is written down of a state: some blocks of its heap. -/
def canonF (f : KF) : LF := ⟨f.hd, rowL f.n f.tm, f.todo⟩
def canon (live : List Nat) (s : KS) : Option LS :=
  (live.mapM fun b => ((s.t.get b).map fun o => (b, o.abs))).map fun heap => ⟨canonF s.fr, s.cs.map canonF, s.nx, heap⟩

theorem lookH_sub (t : T8 KO) : ∀ {live : List Nat} {heap : List (Nat × AO)}, (live.mapM fun b => ((t.get b).map fun o => (b, o.abs))) = some heap → ∀ x o, lookH heap x = some o → (t.get x).map KO.abs = some o
  | [], heap, h, x, o, hx => by
    simp at h; subst h; cases hx
  | b :: live, heap, h, x, o, hx => by
    rw [List.mapM_cons] at h
    cases hb : t.get b with
    | none => simp [hb] at h
    | some ob =>
      cases hl : live.mapM fun b => ((t.get b).map fun o => (b, o.abs)) with
      | none => simp [hb, hl] at h
      | some hp =>
        simp [hb, hl] at h
        subst h
        simp only [lookH] at hx
        split at hx
        · rename_i e; subst e; rw [hb]; exact hx
        · exact lookH_sub t hl x o hx

/-- A segment: a run from one state to another one, whatever is asked behind it. -/
def Seg (F : FuncId → Option AFun) (M : KMemo) (fuel : Nat) (live : List Nat) (s s' : LS) : Prop :=
  ∀ k : Option LS → Bool, startK s (loopK F M (fun ks => k (canon live ks)) fuel) = k (some s')

open Classical in
theorem Seg.steps {fuel : Nat} {live : List Nat} {s s' : LS} (h : Seg F M fuel live s s') : ∃ m a, asteps F (absM M) m s.abs = some a ∧ a.fr = s'.abs.fr ∧ a.cs = s'.abs.cs ∧ a.h.next = s'.abs.h.next ∧ s'.abs.h.sub a.h := by
  have h1 := h fun o => decide (o = some s')
  rw [decide_eq_true rfl] at h1
  obtain ⟨m, a, h2, ks, h3, rfl⟩ := startK_ok (loopK_ok fuel) h1
  have h4 : canon live ks = some s' := by simpa using h3
  unfold canon at h4
  obtain ⟨heap, h5, h6⟩ := Option.map_eq_some_iff.1 h4
  subst h6
  refine ⟨m, _, h2, rfl, ?_, rfl, fun x o hx => lookH_sub ks.t h5 x o hx⟩
  show ks.cs.map KF.abs = (ks.cs.map canonF).map LF.abs
  rw [List.map_map]
  rfl

end

/-- The frame is not in the midst of a region that draws. -/
def calm : List AItem → Bool
  | .drawRest _ :: _ | .inDraw .. :: _ | .inMain .. :: _ | .ends _ :: _ => false
  | _ => true

section
variable {P : Program} {G : Nat → Option (List AV)} {C : List Frame}

theorem StR.less {B : Nat} {w0 : World} {s s' : AS} {m : Machine} (hm : StR P G C B w0 s m) (hf : s'.fr = s.fr) (hc : s'.cs = s.cs) (hn : s'.h.next = s.h.next) (hs : s'.h.sub s.h) (hcalm : s.fr.mode = .run → calm s.fr.todo = true) : StR P G C B w0 s' m := by
  obtain ⟨g, p, q, fr, cs, w, rfl, hcur, T, hpq, H, hG⟩ := hm
  refine ⟨g, p, q, fr, cs, w, rfl, ?_, by rw [hc]; exact T, hpq, H.less hs hn, hG⟩
  rw [hf]
  generalize s.fr = af at hcur hcalm
  cases hcur with
  | plain _ _ hd hm ht hk => exact .plain _ _ hd hm ht hk
  | left _ _ hd hm ht => exact .left _ _ hd hm ht
  | ends _ _ l ops rest D tl ak k hd hm hD dyn ho htl ha hf hk => have := hcalm hm; rw [ha] at this; cases this
  | rest _ _ l ops rest D fs tl mo ist ak k hd hm hD dyn hp ha hf hk => have := hcalm hm; rw [ha] at this; cases this
  | draw _ _ l ops rest D fs tl js mo ist ag mask ak k hd hm hD dyn hp hjs hmf hml ha hf hag hmask hk => have := hcalm hm; rw [ha] at this; cases this
  | main _ _ l ops mn rest D fs tl ist ag mask ak k hd hm hD dyn hp hmf ha hf hag hmask hk => have := hcalm hm; rw [ha] at this; cases this

/-- A segment, of the program. -/
theorem Seg.sound {F : FuncId → Option AFun} {M : KMemo} (hF : FunOk P G F) (hM : MemoOk P G (absM M)) {fuel : Nat} {live : List Nat} {s s' : LS} (h : Seg F M fuel live s s') (hcalm : calm s'.fr.todo = true)
    {B : Nat} {w0 : World} {m : Machine} (hm : StR P G C B w0 s.abs m) : ∃ m', Steps P m m' ∧ StR P G C B w0 s'.abs m' := by
  obtain ⟨n, a, h1, h2, h3, h4, h5⟩ := h.steps
  obtain ⟨m', h6, h7⟩ := steps_sound hF hM n h1 hm
  refine ⟨m', h6, h7.less h2.symm h3.symm h4.symm h5 fun _ => ?_⟩
  rw [h2]; exact hcalm

end

end
end Go.Ab

/-
  ParsersKnown returns true in every world in which the listed tables lie as the row says; it takes no arguments and changes nothing that was there.
-/
import Derived.Test.YtjdgikpokdgapaaGreatDoorCards
import Derived.ProofKit
import Derived.LaidMore
import Derived.OpenShut
import Derived.Lay
import Derived.SevenTiedAt
import Derived.Test.YtjdgikpokdgapaaGreatDoorKTb
import Derived.Test.YtjdgikpokdgapaaGreatDoorKG
import Derived.Test.YtjdgikpokdgapaaGreatDoorKD9
import Derived.Test.YtjdgikpokdgapaaGreatDoorKRow
import Derived.Test.YtjdgikpokdgapaaGreatDoorKXa
import Derived.Test.YtjdgikpokdgapaaGreatDoorKFe
import Derived.Test.YtjdgikpokdgapaaGreatDoorKYc
import Derived.Test.YtjdgikpokdgapaaGreatDoorKXg
set_option linter.all false
namespace Go.Proofs.YtjdgikpokdgapaaGreatDoor
open Go.ChangeShapes Go.WideShapes Go.ChangeAt Go.RowKit

set_option maxRecDepth 100000 in
theorem own : ownKnob Tryz.prog.godebug = none := by kernel_rfl

set_option maxRecDepth 100000 in
theorem glob_met {w : World} (h : laidMetH Tryz.prog Rows.parsersKnownRow.laid w) : Go.Ab.GlobW Go.Ab.G0 w := by
  rw [MakeChecks.laidMetH_plain _ _ _ (by kernel_rfl)] at h
  intro n l hl
  unfold Go.Ab.G0 at hl
  split at hl
  · cases hl; exact Go.Ab.glob_of_laid h 2 rfl (gv := 0) (t := ((Tryz.prog.globals[0]?).map (·.type)).getD 0) (m := 8) (m' := 8) (by kernel_rfl) (by kernel_rfl) (by kernel_rfl) (by kernel_rfl) (by kernel_rfl)
  · cases hl; exact Go.Ab.glob_of_laid h 7 rfl (gv := 1) (t := ((Tryz.prog.globals[1]?).map (·.type)).getD 0) (m := 8) (m' := 8) (by kernel_rfl) (by kernel_rfl) (by kernel_rfl) (by kernel_rfl) (by kernel_rfl)
  · cases hl; exact Go.Ab.glob_of_laid h 0 rfl (gv := 2) (t := ((Tryz.prog.globals[2]?).map (·.type)).getD 0) (m := 8) (m' := 8) (by kernel_rfl) (by kernel_rfl) (by kernel_rfl) (by kernel_rfl) (by kernel_rfl)
  · cases hl; exact Go.Ab.glob_of_laid h 1 rfl (gv := 3) (t := ((Tryz.prog.globals[3]?).map (·.type)).getD 0) (m := 8) (m' := 8) (by kernel_rfl) (by kernel_rfl) (by kernel_rfl) (by kernel_rfl) (by kernel_rfl)
  · cases hl; exact Go.Ab.glob_of_laid h 6 rfl (gv := 4) (t := ((Tryz.prog.globals[4]?).map (·.type)).getD 0) (m := 8) (m' := 8) (by kernel_rfl) (by kernel_rfl) (by kernel_rfl) (by kernel_rfl) (by kernel_rfl)
  · cases hl; exact Go.Ab.glob_of_laid h 8 rfl (gv := 7) (t := ((Tryz.prog.globals[7]?).map (·.type)).getD 0) (m := 8) (m' := 8) (by kernel_rfl) (by kernel_rfl) (by kernel_rfl) (by kernel_rfl) (by kernel_rfl)
  · cases hl

set_option maxRecDepth 100000 in
theorem lifted (os : Os) (started : os.Started) (H : Type) (enc : TypeId × Value → H) :
    ReturnsInHanded {} Tryz.checked os 5 .any (fun w args => (Rows.parsersKnownSpec.pre enc Tryz.prog Tryz.f5 [] false w args ∧ laidMetH Tryz.prog Rows.parsersKnownRow.laid w) ∧ sizedMet enc Tryz.prog Tryz.f5 (OpenSpec.ofChange Rows.parsersKnownSpec) false w args)
      (Rows.parsersKnownSpec.post enc Tryz.prog Tryz.f5 false true false false) := by
  refine returnsInHanded_of_change_and (C := Tryz.checked) (X := fun w _ => laidMetH Tryz.prog Rows.parsersKnownRow.laid w) (fun _ _ _ hh h => h.of_heap hh) own started (by kernel_rfl) Tryz.func5
    (ChangeSpec.witness_shaped (enc := enc) (C := Tryz.checked) (os := os) (X := fun w _ => laidMetH Tryz.prog Rows.parsersKnownRow.laid w) false (World.laidAll Tryz.prog os Rows.parsersKnownRow.laid) #[] 8 (World.laidAll_os _ _ _)
      (World.shaped_of_ZipB (zipd os) (rest os)) (by kernel_rfl) (by kernel_rfl) (by kernel_rfl)
      (by rw [MakeChecks.laidMetH_plain _ _ _ (by kernel_rfl)]; exact laidMet_laidAll _ (fits os) (ifcs os))) ?_
  intro W base args ds gs before _ hW _ _ hL _
  have hW' := hW
  obtain ⟨p, q, hA0, hV, rfl, _, _⟩ := hW
  have hA : DataW.TrodAll enc Tryz.prog W 0 (fun _ => true) true Tryz.f5.params.toList args.toList ds p := hA0
  rw [Tryz.params5] at hA
  obtain ⟨rfl, rfl, rfl⟩ := trodAll_none hA
  obtain ⟨rfl, rfl⟩ := trodVars_none hV
  simp only [List.append_nil] at hW'
  refine (Go.Ab.known_calls (glob_met hL)).mono fun e W' ⟨he, hb⟩ => ?_
  subst he
  exact ⟨_, rfl, _, _, _, [], [], [], hW', trodAll_mk1 (shut_bool Tryz.underlying4 _), trodAll_mk0, rfl, hb.frame _, fun h => by cases h⟩

theorem band {a b : Bool} (ha : a = true) (hb : b = true) : (a && b) = true := by rw [ha, hb]; rfl
set_option maxRecDepth 100000 in
theorem facts : joinedFacts Tryz.prog 5 Tryz.f5 Rows.parsersKnownSpec Rows.parsersKnownRow = true := by
  unfold joinedFacts
  exact band (band (band (band (band (band (band (band (band (band (band (band (band (band (band (band (band (band (band (band (band (band (band (band (band (band (band (band (band (band (band fact1 fact2) fact3) fact4) fact5) fact6) fact7) fact8) fact9) fact10) fact11) fact12) fact13) fact14) fact15) fact16) fact17) fact18) fact19) fact20) fact21) fact22) fact23) fact24) fact25) fact26) fact27) fact28) fact29) fact30) fact31) fact32
set_option maxRecDepth 100000 in
theorem lk : true = Tryz.prog.looks [] := by
  symm
  unfold Program.looks
  exact List.any_eq_true.2 ⟨31, List.mem_range.2 (Nat.le_of_ble_eq_true (by kernel_rfl)), by kernel_rfl⟩

set_option maxRecDepth 100000 in
theorem holds : Rows.ParsersKnownSaid :=
  OpenClaim.holds_of_wide 5 Tryz.f5 rfl rfl rfl rfl rfl rfl rfl ⟨rfl, rfl, rfl, rfl, rfl⟩ rfl rfl rfl rfl rfl (by kernel_rfl) Tryz.func5 facts
    (of_decide_eq_true (by kernel_rfl)) (by unfold Func.isWrapper; first | (rw [if_pos (by decide +kernel)]; kernel_rfl) | (rw [if_neg (by decide +kernel)]; exact ⟨rfl, rfl⟩))
    (fun os started H enc _ => lifted os started H enc)

set_option maxRecDepth 100000 in
theorem card_holds : Rows.ParsersKnownCardSaid :=
  Claim7.holds_tied_plain_at .later [] [.data, .data, .data, .sentinel, .sentinel, .listed, .data, .data, .widerDeep] true (true, "1212af9984c04cc60327f911de240329cc36ace1c7489267265120c3c55c88ee") true holds (fun _ h => by cases h) (by kernel_rfl) (fun _ h => by cases h) rowTie rfl ⟨rfl, rfl⟩ (by kernel_rfl) rfl
    (fun f fn hf hfn => by
      obtain rfl : f = 5 := Option.some.inj (nm5.symm.trans hf) |>.symm
      obtain rfl : fn = Tryz.f5 := (Option.some.inj (Tryz.func5.symm.trans hfn)).symm
      exact ⟨lk, fun j t ht => by
        rw [Tryz.params5] at ht
        simp at ht⟩)
    stays
#print axioms card_holds
end Go.Proofs.YtjdgikpokdgapaaGreatDoor

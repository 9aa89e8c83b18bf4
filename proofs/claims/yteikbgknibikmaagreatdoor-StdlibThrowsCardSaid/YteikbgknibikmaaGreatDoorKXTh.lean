/-
  StdlibThrows returns true in every world in which the listed tables lie as the row says, at all arguments; it leaves the arguments as they were.
-/
import Derived.Test.YteikbgknibikmaaGreatDoorCards
import Derived.ProofKit
import Derived.LaidMore
import Derived.OpenShut
import Derived.Lay
import Derived.SevenTiedAt
import Derived.Lib.LaidTab
import Derived.Test.YteikbgknibikmaaGreatDoorKTbTh
import Derived.Test.YteikbgknibikmaaGreatDoorKJzTh
import Derived.Test.YteikbgknibikmaaGreatDoorKRow
import Derived.Test.YteikbgknibikmaaGreatDoorKXaTh
import Derived.Test.YteikbgknibikmaaGreatDoorKFeTh
import Derived.Test.YteikbgknibikmaaGreatDoorKYcTh
import Derived.Test.YteikbgknibikmaaGreatDoorKXgTh
import Derived.Test.YteikbgknibikmaaGreatDoorKGTh
set_option linter.all false
set_option maxRecDepth 100000
namespace Go.Proofs.YteikbgknibikmaaGreatDoor
open Go
open Go.ChangeShapes Go.WideShapes Go.ChangeAt Go.RowKit

theorem own : ownKnob Tryz.prog.godebug = none := by kernel_rfl
theorem Qd0 {w : World} (h : laidMetH Tryz.prog Rows.stdlibThrowsRow.laid w) : Go.Ab.GlobW Go.Ab.L22.G22 w := by
  rw [MakeChecks.laidMetH_plain _ _ _ (by kernel_rfl)] at h
  intro n l hl
  unfold Go.Ab.L22.G22 at hl
  split at hl
  · cases hl; exact Go.Ab.glob_of_laid h 7 rfl (gv := 0) (t := ((Tryz.prog.globals[0]?).map (·.type)).getD 0) (m := 8) (m' := 8) (by kernel_rfl) (by kernel_rfl) (by kernel_rfl) (by kernel_rfl) (by kernel_rfl)
  · cases hl; exact Go.Ab.glob_of_laid h 2 rfl (gv := 1) (t := ((Tryz.prog.globals[1]?).map (·.type)).getD 0) (m := 8) (m' := 8) (by kernel_rfl) (by kernel_rfl) (by kernel_rfl) (by kernel_rfl) (by kernel_rfl)
  · cases hl; exact Go.Ab.glob_of_laid h 0 rfl (gv := 3) (t := ((Tryz.prog.globals[3]?).map (·.type)).getD 0) (m := 8) (m' := 8) (by kernel_rfl) (by kernel_rfl) (by kernel_rfl) (by kernel_rfl) (by kernel_rfl)
  · cases hl; exact Go.Ab.glob_of_laid h 1 rfl (gv := 4) (t := ((Tryz.prog.globals[4]?).map (·.type)).getD 0) (m := 8) (m' := 8) (by kernel_rfl) (by kernel_rfl) (by kernel_rfl) (by kernel_rfl) (by kernel_rfl)
  · cases hl; exact Go.Ab.glob_of_laid h 6 rfl (gv := 5) (t := ((Tryz.prog.globals[5]?).map (·.type)).getD 0) (m := 8) (m' := 8) (by kernel_rfl) (by kernel_rfl) (by kernel_rfl) (by kernel_rfl) (by kernel_rfl)
  · cases hl; exact Go.Ab.glob_of_laid h 8 rfl (gv := 9) (t := ((Tryz.prog.globals[9]?).map (·.type)).getD 0) (m := 8) (m' := 8) (by kernel_rfl) (by kernel_rfl) (by kernel_rfl) (by kernel_rfl) (by kernel_rfl)
  · cases hl
theorem Qip {w : World} (h : laidMetH Tryz.prog Rows.stdlibThrowsRow.laid w) : Go.Ab.L22.KK w := by
  rw [MakeChecks.laidMetH_plain _ _ _ (by kernel_rfl)] at h
  obtain ⟨ps, h, _⟩ := h
  exact Go.Ab.tab_of_vars (g := 1) (t := 478) (e := 252) (n := 20) (by kernel_rfl) (by kernel_rfl) (by kernel_rfl) (by kernel_rfl) (by kernel_rfl) (by kernel_rfl) h (List.mem_of_getElem? (i := 2) (by kernel_rfl))

theorem lifted (os : Os) (started : os.Started) (H : Type) (enc : TypeId × Value → H) :
    ReturnsInHanded {} Tryz.checked os 6 .any (fun w args => (Rows.stdlibThrowsSpec.pre enc Tryz.prog Tryz.f6 [] false w args ∧ laidMetH Tryz.prog Rows.stdlibThrowsRow.laid w) ∧ sizedMet enc Tryz.prog Tryz.f6 (OpenSpec.ofChange Rows.stdlibThrowsSpec) false w args)
      (Rows.stdlibThrowsSpec.post enc Tryz.prog Tryz.f6 false true false false) := by
  refine returnsInHanded_of_change_and (C := Tryz.checked) (X := fun w _ => laidMetH Tryz.prog Rows.stdlibThrowsRow.laid w) (fun _ _ _ hh h => h.of_heap hh) own started (by kernel_rfl) Tryz.func6
    (ChangeSpec.witness_shaped (enc := enc) (C := Tryz.checked) (os := os) (X := fun w _ => laidMetH Tryz.prog Rows.stdlibThrowsRow.laid w) false (World.laidAll Tryz.prog os Rows.stdlibThrowsRow.laid) args0 8 (World.laidAll_os _ _ _)
      (World.shaped_of_ZipB (zipd os) (rest os)) (by kernel_rfl) (by kernel_rfl) (by kernel_rfl)
      (by rw [MakeChecks.laidMetH_plain _ _ _ (by kernel_rfl)]; exact laidMet_laidAll _ (fits os) (ifcs os))) ?_
  intro W base args ds gs before hval0 hW _ hwt hL _
  have hval : ∀ (j : Nat) t v, Tryz.f6.params[j]? = some t → args[j]? = some v → Value.okWide Tryz.prog W .any base t v := hval0
  have hW' := hW
  obtain ⟨p, q, hA0, hV, rfl, _, _⟩ := hW
  have hA : DataW.TrodAll enc Tryz.prog W 0 (fun _ => true) true Tryz.f6.params.toList args.toList ds p := hA0
  obtain ⟨rfl, rfl⟩ := trodVars_none hV
  have hwt : (DataW.weightsEach Tryz.prog Tryz.f6.params.toList ds).all (· ≤ reachBytes) = true := by
    rw [← List.append_nil ds, ← List.append_nil Tryz.f6.params.toList]; exact hwt
  rw [Tryz.params6] at hA hval hwt
  have hA1 : DataW.TrodAll enc Tryz.prog W 0 (fun _ => true) true [27, 25, 28] args.toList ds p := hA
  clear hA0 hval0
  refine (Go.Ab.L22.Throws_all (base := base) lob (Qd0 hL) (Qip hL) hA.lt hval hA hwt).mono fun e W' ⟨he, hb, ht⟩ => ?_
  subst he
  simp only [List.append_nil] at hW'
  obtain ⟨v1, v2, v3, d1, d2, d3, p1, p2, p3, rfl, rfl, rfl, _, _, _⟩ := trodAll_three hA1
  exact ⟨_, rfl, _, _, _, [], _, [], hW', trodAll_mk1 (shut_bool Tryz.underlying4 _), ht, rfl, hb.frame _, fun h => by cases h⟩

theorem band {a b : Bool} (ha : a = true) (hb : b = true) : (a && b) = true := by rw [ha, hb]; rfl
theorem facts : joinedFacts Tryz.prog 6 Tryz.f6 Rows.stdlibThrowsSpec Rows.stdlibThrowsRow = true := by
  unfold joinedFacts
  exact band (band (band (band (band (band (band (band (band (band (band (band (band (band (band (band (band (band (band (band (band (band (band (band (band (band (band (band (band (band (band fact1 fact2) fact3) fact4) fact5) fact6) fact7) fact8) fact9) Qjd) Qjc) Qjb) Qja) Qi9) Qi8) Qi7) Qi6) Qi5) Qi4) Qi3) Qi2) Qi1) Qi0) QiZ) QiY) QiX) QiW) QiV) QiU) QiT) QiS) QiR
theorem lk : true = Tryz.prog.looks [] := by
  symm
  unfold Program.looks
  exact List.any_eq_true.2 ⟨30, List.mem_range.2 (Nat.le_of_ble_eq_true (by kernel_rfl)), by kernel_rfl⟩
theorem holds : Rows.StdlibThrowsSaid :=
  OpenClaim.holds_of_wide 6 Tryz.f6 rfl rfl rfl rfl rfl rfl rfl ⟨rfl, rfl, rfl, rfl, rfl⟩ rfl rfl rfl rfl rfl (by kernel_rfl) Tryz.func6 facts
    (of_decide_eq_true (by kernel_rfl)) (by unfold Func.isWrapper; first | (rw [if_pos (by decide +kernel)]; kernel_rfl) | (rw [if_neg (by decide +kernel)]; exact ⟨rfl, rfl⟩))
    (fun os started H enc _ => lifted os started H enc)
theorem wsA : (([27, 25, 28] : List TypeId).all fun t => !Tryz.prog.wantsStandIn t) = true := by kernel_rfl
theorem card_holds : Rows.StdlibThrowsCardSaid :=
  Claim7.holds_tied_plain_at .later [] [.data, .data, .data, .sentinel, .sentinel, .listed, .data, .data, .widerDeep] true (true, "dbc75c5743bf478b7c590097c8c0dbe12e8137d1650cb9d89c5fbbed9cc74487") true holds (fun _ h => by cases h) (by kernel_rfl) (fun _ h => by cases h) QhW rfl ⟨rfl, rfl⟩ (by kernel_rfl) rfl
    (fun f fn hf hfn => by
      obtain rfl : f = 6 := Option.some.inj (nmF.symm.trans hf) |>.symm
      obtain rfl : fn = Tryz.f6 := (Option.some.inj (Tryz.func6.symm.trans hfn)).symm
      exact ⟨lk, fun j t ht => by
        rw [Tryz.params6] at ht
        exact (Bool.not_eq_true' _).mp (List.all_eq_true.1 wsA t (Array.mem_toList_iff.2 (Array.mem_of_getElem? ht)))⟩)
    stays
#print axioms card_holds
end Go.Proofs.YteikbgknibikmaaGreatDoor

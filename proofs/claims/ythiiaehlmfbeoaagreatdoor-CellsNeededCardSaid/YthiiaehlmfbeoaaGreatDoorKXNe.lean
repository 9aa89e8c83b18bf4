/-
  CellsNeeded returns true in every world in which the listed tables lie as the row says, at all arguments; it leaves the arguments as they were.
-/
import Derived.Test.YthiiaehlmfbeoaaGreatDoorCards
import Derived.ProofKit
import Derived.LaidMore
import Derived.OpenShut
import Derived.Lay
import Derived.SevenTiedAt
import Derived.Test.YthiiaehlmfbeoaaGreatDoorKTbNe
import Derived.Test.YthiiaehlmfbeoaaGreatDoorKJzNe
import Derived.Test.YthiiaehlmfbeoaaGreatDoorKRow
import Derived.Test.YthiiaehlmfbeoaaGreatDoorKXaNe
import Derived.Test.YthiiaehlmfbeoaaGreatDoorKFeNe
import Derived.Test.YthiiaehlmfbeoaaGreatDoorKYcNe
import Derived.Test.YthiiaehlmfbeoaaGreatDoorKXgNe
import Derived.Test.YthiiaehlmfbeoaaGreatDoorKGNe
set_option linter.all false
set_option maxRecDepth 100000
namespace Go.Proofs.YthiiaehlmfbeoaaGreatDoor
open Go
open Go.ChangeShapes Go.WideShapes Go.ChangeAt Go.RowKit

theorem own : ownKnob Tryz.prog.godebug = none := by kernel_rfl
theorem QoU {w : World} (h : laidMetH Tryz.prog Rows.cellsNeededRow.laid w) : Go.Ab.GlobW Go.Ab.L26.G26 w := by
  rw [MakeChecks.laidMetH_plain _ _ _ (by kernel_rfl)] at h
  intro n l hl
  unfold Go.Ab.L26.G26 at hl
  split at hl
  · cases hl; exact Go.Ab.glob_of_laid h 7 rfl (gv := 0) (t := ((Tryz.prog.globals[0]?).map (·.type)).getD 0) (m := 8) (m' := 8) (by kernel_rfl) (by kernel_rfl) (by kernel_rfl) (by kernel_rfl) (by kernel_rfl)
  · cases hl; exact Go.Ab.glob_of_laid h 6 rfl (gv := 1) (t := ((Tryz.prog.globals[1]?).map (·.type)).getD 0) (m := 8) (m' := 8) (by kernel_rfl) (by kernel_rfl) (by kernel_rfl) (by kernel_rfl) (by kernel_rfl)
  · cases hl; exact Go.Ab.glob_of_laid h 8 rfl (gv := 5) (t := ((Tryz.prog.globals[5]?).map (·.type)).getD 0) (m := 8) (m' := 8) (by kernel_rfl) (by kernel_rfl) (by kernel_rfl) (by kernel_rfl) (by kernel_rfl)
  · cases hl; exact Go.Ab.glob_of_laid h 2 rfl (gv := 6) (t := ((Tryz.prog.globals[6]?).map (·.type)).getD 0) (m := 8) (m' := 8) (by kernel_rfl) (by kernel_rfl) (by kernel_rfl) (by kernel_rfl) (by kernel_rfl)
  · cases hl; exact Go.Ab.glob_of_laid h 0 rfl (gv := 8) (t := ((Tryz.prog.globals[8]?).map (·.type)).getD 0) (m := 8) (m' := 8) (by kernel_rfl) (by kernel_rfl) (by kernel_rfl) (by kernel_rfl) (by kernel_rfl)
  · cases hl; exact Go.Ab.glob_of_laid h 1 rfl (gv := 9) (t := ((Tryz.prog.globals[9]?).map (·.type)).getD 0) (m := 8) (m' := 8) (by kernel_rfl) (by kernel_rfl) (by kernel_rfl) (by kernel_rfl) (by kernel_rfl)
  · cases hl
theorem lifted (os : Os) (started : os.Started) (H : Type) (enc : TypeId × Value → H) :
    ReturnsInHanded {} Tryz.checked os 5 .any (fun w args => (Rows.cellsNeededSpec.pre enc Tryz.prog Tryz.f5 [] false w args ∧ laidMetH Tryz.prog Rows.cellsNeededRow.laid w) ∧ sizedMet enc Tryz.prog Tryz.f5 (OpenSpec.ofChange Rows.cellsNeededSpec) false w args)
      (Rows.cellsNeededSpec.post enc Tryz.prog Tryz.f5 false true false false) := by
  refine returnsInHanded_of_change_and (C := Tryz.checked) (X := fun w _ => laidMetH Tryz.prog Rows.cellsNeededRow.laid w) (fun _ _ _ hh h => h.of_heap hh) own started (by kernel_rfl) Tryz.func5
    (ChangeSpec.witness_shaped (enc := enc) (C := Tryz.checked) (os := os) (X := fun w _ => laidMetH Tryz.prog Rows.cellsNeededRow.laid w) false (World.laidAll Tryz.prog os Rows.cellsNeededRow.laid) args0 8 (World.laidAll_os _ _ _)
      (World.shaped_of_ZipB (zipd os) (rest os)) (by kernel_rfl) (by kernel_rfl) (by kernel_rfl)
      (by rw [MakeChecks.laidMetH_plain _ _ _ (by kernel_rfl)]; exact laidMet_laidAll _ (fits os) (ifcs os))) ?_
  intro W base args ds gs before hval0 hW _ hwt hL _
  have hval : ∀ (j : Nat) t v, Tryz.f5.params[j]? = some t → args[j]? = some v → Value.okWide Tryz.prog W .any base t v := hval0
  have hW' := hW
  obtain ⟨p, q, hA0, hV, rfl, _, _⟩ := hW
  have hA : DataW.TrodAll enc Tryz.prog W 0 (fun _ => true) true Tryz.f5.params.toList args.toList ds p := hA0
  obtain ⟨rfl, rfl⟩ := trodVars_none hV
  have hwt : (DataW.weightsEach Tryz.prog Tryz.f5.params.toList ds).all (· ≤ reachBytes) = true := by
    rw [← List.append_nil ds, ← List.append_nil Tryz.f5.params.toList]; exact hwt
  rw [Tryz.params5] at hA hval hwt
  have hA1 : DataW.TrodAll enc Tryz.prog W 0 (fun _ => true) true [25, 5] args.toList ds p := hA
  clear hA0 hval0
  refine (Go.Ab.L26.Needed_done (base := base) Go.Ab.L26.m26_ok lob (QoU hL) hA.lt hval hA hwt).mono fun e W' ⟨he, hb, ht⟩ => ?_
  subst he
  simp only [List.append_nil] at hW'
  obtain ⟨v1, v2, d1, d2, p1, p2, rfl, rfl, rfl, _, _⟩ := trodAll_two hA1
  exact ⟨_, rfl, _, _, _, [], _, [], hW', trodAll_mk1 (shut_bool Tryz.underlying4 _), ht, rfl, hb.frame _, fun h => by cases h⟩

theorem band {a b : Bool} (ha : a = true) (hb : b = true) : (a && b) = true := by rw [ha, hb]; rfl
theorem facts : joinedFacts Tryz.prog 5 Tryz.f5 Rows.cellsNeededSpec Rows.cellsNeededRow = true := by
  unfold joinedFacts
  exact band (band (band (band (band (band (band (band (band (band (band (band (band (band (band (band (band (band (band (band (band (band (band (band (band (band (band (band (band (band (band fact1 fact2) fact3) fact4) fact5) fact6) fact7) fact8) fact9) Qpp) Qpo) Qpn) Qpm) Qpl) Qpk) Qpj) Qpi) Qph) Qpg) Qpf) Qpe) Qpd) Qpc) Qpb) Qpa) Qo9) Qo8) Qo7) Qo6) Qo5) Qo4) Qo3
theorem lk : true = Tryz.prog.looks [] := by
  symm
  unfold Program.looks
  exact List.any_eq_true.2 ⟨57, List.mem_range.2 (Nat.le_of_ble_eq_true (by kernel_rfl)), by kernel_rfl⟩
theorem holds : Rows.CellsNeededSaid :=
  OpenClaim.holds_of_wide 5 Tryz.f5 rfl rfl rfl rfl rfl rfl rfl ⟨rfl, rfl, rfl, rfl, rfl⟩ rfl rfl rfl rfl rfl (by kernel_rfl) Tryz.func5 facts
    (of_decide_eq_true (by kernel_rfl)) (by unfold Func.isWrapper; first | (rw [if_pos (by decide +kernel)]; kernel_rfl) | (rw [if_neg (by decide +kernel)]; exact ⟨rfl, rfl⟩))
    (fun os started H enc _ => lifted os started H enc)
theorem wsA : (([25, 5] : List TypeId).all fun t => !Tryz.prog.wantsStandIn t) = true := by kernel_rfl
theorem card_holds : Rows.CellsNeededCardSaid :=
  Claim7.holds_tied_plain_at .later [] [.data, .data, .data, .sentinel, .sentinel, .listed, .data, .data, .widerDeep] true (true, "e9962111e4a2cd2f2b211f21164bfb422ae112a9921c83805859907c558ccd40") true holds (fun _ h => by cases h) (by kernel_rfl) (fun _ h => by cases h) Qo1 rfl ⟨rfl, rfl⟩ (by kernel_rfl) rfl
    (fun f fn hf hfn => by
      obtain rfl : f = 5 := Option.some.inj (nmF.symm.trans hf) |>.symm
      obtain rfl : fn = Tryz.f5 := (Option.some.inj (Tryz.func5.symm.trans hfn)).symm
      exact ⟨lk, fun j t ht => by
        rw [Tryz.params5] at ht
        exact (Bool.not_eq_true' _).mp (List.all_eq_true.1 wsA t (Array.mem_toList_iff.2 (Array.mem_of_getElem? ht)))⟩)
    stays
#print axioms card_holds
end Go.Proofs.YthiiaehlmfbeoaaGreatDoor

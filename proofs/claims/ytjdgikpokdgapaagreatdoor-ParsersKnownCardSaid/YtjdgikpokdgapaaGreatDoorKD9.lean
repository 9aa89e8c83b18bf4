/-
  A part of a proof: KD9.
-/
import Derived.Test.YtjdgikpokdgapaaGreatDoorKR1
import Derived.Test.YtjdgikpokdgapaaGreatDoorKR2
import Derived.Test.YtjdgikpokdgapaaGreatDoorKR3
import Derived.Test.YtjdgikpokdgapaaGreatDoorKR4
import Derived.Test.YtjdgikpokdgapaaGreatDoorKR5
import Derived.Test.YtjdgikpokdgapaaGreatDoorKL2
set_option linter.all false
namespace Go.Ab
open Go Go.Proofs Go.RowKit
noncomputable section
theorem m3_ok : MemoOk Tryz.prog G0 (absM M3) := by
  refine memoOk_kmIn fA_ok gclosed0 m2_ok m2_ok (fuel := 5000000) rfl fun x hx => ?_
  simp only [List.mem_cons, List.not_mem_nil, or_false] at hx
  rcases hx with rfl | rfl | rfl | rfl
  · exact ⟨by kernel_rfl, fun z => by have := chk_run5 z; rw [withTabs_eq] at this; exact this⟩
  · exact ⟨by kernel_rfl, fun z => by have := chk_run2 z; rw [withTabs_eq] at this; exact this⟩
  · exact ⟨by kernel_rfl, fun z => by have := chk_run3 z; rw [withTabs_eq] at this; exact this⟩
  · exact ⟨by kernel_rfl, fun z => by have := chk_run0 z; rw [withTabs_eq] at this; exact this⟩
theorem s1_nodup : s1.Nodup := by decide +kernel
theorem take1 : ∀ n, takeF s1 n v1 o1 = some (c1 n) := by intro n; kernel_rfl
theorem m4_ok : MemoOk Tryz.prog G0 (absM M4) :=
  memoOk_kmInC fA_ok gclosed0 m3_ok m3_ok (by kernel_rfl) (fun z => by have := parse_run z; rw [withTabs_eq] at this; exact this) s1_nodup take1
theorem m5_ok : MemoOk Tryz.prog G0 (absM M5) := by
  refine memoOk_kmAdd m4_ok fun B w0 g h w vs H hG hvs => ?_
  have hr : ∀ x : Bool, enterK (FA Tryz.prog.info? fun f => Tryz.prog.funcs[f]?) 9 [] .normal [] 0 .nil (loopK (FA Tryz.prog.info? fun f => Tryz.prog.funcs[f]?) M4 (fun ks => iteF (endOk (FA Tryz.prog.info? fun f => Tryz.prog.funcs[f]?) 9 (.bool true) [] [] ks) x false) 5000000) = x := by
    intro x
    have := awake_run x
    rw [withTabs_eq] at this
    exact this
  exact memo_of_loopX fA_ok m4_ok gclosed0 (sel := []) (os := []) (c := fun n => (.bool true, [])) hr (fun i h1 => by simp at h1) (by simp) (fun n => by kernel_rfl) H hG hvs
theorem tf638 : Tryz.prog.funcs[638]? = some Tryz.f638 := by kernel_rfl
theorem tf639 : Tryz.prog.funcs[639]? = some Tryz.f639 := by kernel_rfl
theorem tf596 : Tryz.prog.funcs[596]? = some Tryz.f596 := by kernel_rfl
theorem m6a_ok : MemoOk Tryz.prog G0 (absM M6a) :=
  memoOk_kmNoZero (memoOk_kmSame m5_ok tf638 (by kernel_rfl) (by kernel_rfl) (by kernel_rfl) (by kernel_rfl)) (ps := #[3]) (t := 227) (e := 5) (by kernel_rfl) tf639 (by kernel_rfl) (by kernel_rfl) (by kernel_rfl) (by kernel_rfl)
theorem name596 : (Tryz.f596.name == "runtime.NumGoroutine") = false := by kernel_rfl
theorem m6_ok : MemoOk Tryz.prog G0 (absM M6) :=
  memoOk_kmSorted m6a_ok (by kernel_rfl) ⟨Tryz.f596, tf596, by kernel_rfl, fun h => by have := name596; rw [h] at this; simp at this⟩ (fun b nn D0 R w hown h1 h2 => Tryz.sorted_calls b nn D0 R w hown h1 h2) (fun w => Tryz.sorted_calls_nil w)
theorem s4_nodup : s4.Nodup := by decide +kernel
theorem take4 : ∀ n, takeF s4 n v4 o4 = some (c4 n) := by intro n; kernel_rfl
theorem m7_ok : MemoOk Tryz.prog G0 (absM M7) :=
  memoOk_kmInC fB_ok gclosed0 m6_ok m6_ok (by kernel_rfl) (fun z => by have := compile_run z; rw [withTabs_eq] at this; exact this) s4_nodup take4
/-- ParsersKnown returns true, in every world in which the globals lie. -/
theorem known_calls {w : World} (hw : GlobW G0 w) : Calls Tryz.prog 5 #[] w fun e w' => e = .returned (.bool true) ∧ Below w.heap.size w w' := by
  have hr : ∀ x : Bool, enterK (FB Tryz.prog.info? fun f => Tryz.prog.funcs[f]?) 5 [] .normal [] 0 .nil (loopK (FB Tryz.prog.info? fun f => Tryz.prog.funcs[f]?) M7 (fun ks => iteF (endOk (FB Tryz.prog.info? fun f => Tryz.prog.funcs[f]?) 5 (.bool true) [] [] ks) x false) 5000000) = x := by
    intro x
    have := known_run x
    rw [withTabs_eq] at this
    exact this
  have := (memo_of_loopX fB_ok m7_ok gclosed0 (sel := []) (os := []) (c := fun n => (.bool true, [])) hr (fun i h1 => by simp at h1) (by simp) (fun n => by kernel_rfl) (hr_bare (CodeR Tryz.prog G0) w) (globR_bare hw) (vs := #[]) ⟨rfl, fun i h1 => by simp at h1⟩).2
  intro C
  obtain ⟨e, w', fr, ⟨u, g', rfl, hu, H', _⟩, rest⟩ := this C
  exact ⟨_, w', fr, ⟨by rw [hu.bool_eq], H'.below⟩, rest⟩
end
end Go.Ab

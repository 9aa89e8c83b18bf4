/-
  A part of a proof: KC4.
-/
import Derived.Test.YtjdgikpokdgapaaGreatDoorKC2
set_option linter.all false
namespace Go.Ab
open Go Go.Proofs
noncomputable section
def LB0 : List Nat := [5, 18, 19, 30, 38, 43, 47, 48, 49, 88, 97, 99, 100, 101, 102, 103, 104, 105, 132, 138, 140, 146, 147, 148, 149, 150, 151, 152, 153, 154, 155, 156, 158, 163, 164, 165, 167, 168, 169, 170, 171, 172, 173, 174, 175, 176, 177, 179, 181, 182, 186, 188, 189, 244, 246, 262, 263, 270, 271, 272, 273, 274, 275, 276]
theorem chkB0 : withTabs Tryz.prog (chkAll Tryz.prog G0 LB0) = true := by kernel_rfl
def LB1 : List Nat := [277, 278, 279, 280, 281, 282, 283, 284, 285, 286, 287, 288, 289, 290, 291, 292, 293, 294, 296, 298, 302, 303, 304, 305, 306, 307, 345, 351, 389, 390, 391, 392, 393, 395, 396, 409, 410, 411, 412, 413, 414, 415, 416, 417, 418, 419, 420, 421, 422, 423, 424, 425, 426, 442, 455, 494, 495, 496, 497, 510, 511, 512, 513, 515]
theorem chkB1 : withTabs Tryz.prog (chkAll Tryz.prog G0 LB1) = true := by kernel_rfl
def LB2 : List Nat := [516, 517, 518, 519, 520, 589, 590, 591, 597]
theorem chkB2 : withTabs Tryz.prog (chkAll Tryz.prog G0 LB2) = true := by kernel_rfl
def LB : List Nat := LA ++ LB0 ++ LB1 ++ LB2
theorem chkB : ∀ f ∈ LB, chkF Tryz.prog Tryz.prog.info? G0 (fun f => Tryz.prog.funcs[f]?) f = true := by
  intro f hf
  unfold LB at hf
  simp only [List.mem_append] at hf
  rcases hf with ((hf | hf) | hf) | hf
  · exact chkA f hf
  · exact chk_of chkB0 f hf
  · exact chk_of chkB1 f hf
  · exact chk_of chkB2 f hf
def maskB : Nat := 2569033195165120318110218660594550593340415845650339133414239204977774912283017294324048024170888300057915344295421730692992694477730630659158591114207200048435987421393567564384530746978993963881163600687968
theorem maskB_eq : maskN LB = maskB := by kernel_rfl
def FB (I : Tab) (FS : FuncId → Option Func) : FuncId → Option AFun := FU Tryz.prog G0 maskB I FS
theorem fB_ok : FunOk Tryz.prog G0 (FB Tryz.prog.info? fun f => Tryz.prog.funcs[f]?) := by
  have h := fu_sound (P := Tryz.prog) (G := G0) chkB
  rw [maskB_eq] at h
  exact h
end
end Go.Ab

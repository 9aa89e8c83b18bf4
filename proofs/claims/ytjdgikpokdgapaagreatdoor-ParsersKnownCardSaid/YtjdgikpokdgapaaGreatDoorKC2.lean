/-
  A part of a proof: KC2.
-/
import Derived.Test.YtjdgikpokdgapaaGreatDoorKC1
set_option linter.all false
namespace Go.Ab
open Go Go.Proofs
noncomputable section
def LA0 : List Nat := [6, 8, 9, 12, 13, 14, 15, 16, 17, 20, 21, 25, 26, 27, 28, 29, 31, 32, 33, 34, 35, 36, 37, 44, 45, 46, 50, 51, 52, 53, 54, 55, 56, 57, 58, 59, 60, 61, 62, 63, 64, 65, 66, 67, 68, 69, 70, 71, 72, 73, 74, 75, 76, 77, 79, 80, 89, 90, 92, 98, 106, 107, 108, 109]
theorem chkA0 : withTabs Tryz.prog (chkAll Tryz.prog G0 LA0) = true := by kernel_rfl
def LA1 : List Nat := [110, 111, 112, 113, 114, 115, 116, 120, 124, 125, 126, 127, 128, 129, 130, 131, 134, 135, 144, 145, 166, 178, 180, 184, 187, 190, 192, 193, 194, 195, 196, 197, 198, 199, 200, 201, 202, 203, 204, 205, 206, 207, 208, 209, 210, 211, 212, 213, 214, 222, 224, 225, 226, 227, 228, 229, 230, 233, 236, 240, 241, 242, 243, 248]
theorem chkA1 : withTabs Tryz.prog (chkAll Tryz.prog G0 LA1) = true := by kernel_rfl
def LA2 : List Nat := [249, 309, 310, 311, 312, 313, 314, 316, 317, 318, 319, 320, 321, 322, 323, 324, 326, 327, 328, 331, 332, 333, 334, 335, 336, 337, 338, 339, 340, 341, 342, 344, 348, 349, 350, 352, 353, 354, 355, 369, 429, 430, 431, 432, 433, 434, 435, 436, 437, 438, 439, 440, 441, 443, 444, 445, 446, 448, 450, 451, 452, 453, 454, 457]
theorem chkA2 : withTabs Tryz.prog (chkAll Tryz.prog G0 LA2) = true := by kernel_rfl
def LA3 : List Nat := [459, 460, 461, 462, 463, 464, 465, 468, 469, 470, 471, 472, 473, 474, 478, 485, 525, 526, 527, 528, 530, 531, 532, 533, 534, 535, 536, 537, 538, 545, 546, 547, 548, 549, 550, 551, 552, 553, 554, 555, 556, 557, 573, 600, 601, 602, 603, 604, 614, 615, 617, 618, 619, 648, 649, 650, 655, 656, 672, 673, 674, 675, 676, 689]
theorem chkA3 : withTabs Tryz.prog (chkAll Tryz.prog G0 LA3) = true := by kernel_rfl
def LA : List Nat := LA0 ++ LA1 ++ LA2 ++ LA3
theorem chkA : ∀ f ∈ LA, chkF Tryz.prog Tryz.prog.info? G0 (fun f => Tryz.prog.funcs[f]?) f = true := by
  intro f hf
  unfold LA at hf
  simp only [List.mem_append] at hf
  rcases hf with ((hf | hf) | hf) | hf
  · exact chk_of chkA0 f hf
  · exact chk_of chkA1 f hf
  · exact chk_of chkA2 f hf
  · exact chk_of chkA3 f hf
def maskA : Nat := 2569033195165120318110218660061678232688218019435115886072249783358441501161161698235802847556395657145151996884357826603551580210855713496458740030630661316621832609264416587166058783286826008687342030943040
theorem maskA_eq : maskN LA = maskA := by kernel_rfl
def FA (I : Tab) (FS : FuncId → Option Func) : FuncId → Option AFun := FU Tryz.prog G0 maskA I FS
theorem fA_ok : FunOk Tryz.prog G0 (FA Tryz.prog.info? fun f => Tryz.prog.funcs[f]?) := by
  have h := fu_sound (P := Tryz.prog) (G := G0) chkA
  rw [maskA_eq] at h
  exact h
end
end Go.Ab

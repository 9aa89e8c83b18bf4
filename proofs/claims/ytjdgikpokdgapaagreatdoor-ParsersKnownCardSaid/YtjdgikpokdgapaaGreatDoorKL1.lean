/-
  DERIVED: THE SHELF's CONTRACTS AT THIS DUMP, IN PLAIN WORDS (tools/lay-plain.mjs out of 'KL0.lean', which tools/lay-shelf.mjs wrote): THE SAME DECLARATIONS UNDER THE SAME NAMES: 'import', 'namespace', 'open', 'def', 'theorem' AND NOTHING ELSE: no command of the shelf's: FOR A HAND-IN. Each laying: the table of numbers ('.._ren') and one theorem, a field a fact of the dump's own or the kernel's comparison; each contract: ONE APPLICATION.
-/
import Derived.Shelf.SlGeneric
import Derived.Shelf.SlIter.Nil
import Derived.Shelf.SortM.Plain
import Derived.Shelf.SortM.SortNone
import Derived.Ground.GgzProg
import Derived.Ground.SlgmProg
import Derived.Test.YtjdgikpokdgapaaGreatDoorProg
set_option linter.all false
namespace Go.Proofs
open Go.Shelf
def Tryz.keysA_ren : Go.Shelf.Ren := ⟨fun | 7 => 642 | 10 => 668 | n => n, fun | 23 => 487 | 26 => 9 | 3 => 4 | 28 => 775 | 0 => 0 | 27 => 774 | 33 => 323 | 4 => 4 | n => n, fun | n => n⟩
theorem Tryz.keysA : Go.Proofs.SlLaysZ.n7 Tryz.prog Tryz.keysA_ren := {
  mixed := by kernel_rfl
  f7 := ⟨Tryz.f642.name, by decide, Tryz.func642.trans (congrArg some (by kernel_rfl))⟩
  f10 := ⟨Tryz.f668.name, by decide, Tryz.func668.trans (congrArg some (by kernel_rfl))⟩
  t0 := Tryz.underlying0
  a0 := Tryz.isAgg0
  z0 := Tryz.sizeOf0
  v0 := Tryz.zeroValue0
  t4 := Tryz.underlying4
  a4 := Tryz.isAgg4
  z4 := Tryz.sizeOf4
  v4 := Tryz.zeroValue4
  t23 := Tryz.underlying487
  a23 := Tryz.isAgg487
  z23 := Tryz.sizeOf487
  v23 := Tryz.zeroValue487
  t26 := Tryz.underlying9
  a26 := Tryz.isAgg9
  z26 := Tryz.sizeOf9
  v26 := Tryz.zeroValue9
  t27 := Tryz.underlying774
  a27 := Tryz.isAgg774
  z27 := Tryz.sizeOf774
  v27 := Tryz.zeroValue774
  t28 := Tryz.underlying775
  a28 := Tryz.isAgg775
  z28 := Tryz.sizeOf775
  v28 := Tryz.zeroValue775
  t33 := Tryz.underlying323
  a33 := Tryz.isAgg323
  z33 := Tryz.sizeOf323
  v33 := Tryz.zeroValue323 }
def Tryz.sortedA_ren : Go.Shelf.Ren := ⟨fun | 6 => 641 | 8 => 666 | 9 => 667 | 11 => 684 | 13 => 686 | 12 => 685 | 23 => 699 | 24 => 218 | 14 => 690 | 15 => 691 | 16 => 692 | 17 => 693 | 18 => 694 | 19 => 695 | 20 => 696 | 21 => 697 | 22 => 698 | 25 => 700 | 26 => 701 | 27 => 702 | 28 => 703 | 29 => 704 | 30 => 682 | 31 => 705 | n => n, fun | 26 => 9 | 28 => 775 | 24 => 73 | 0 => 0 | 3 => 3 | 37 => 345 | 48 => 32 | 50 => 224 | 4 => 4 | 40 => 831 | 39 => 830 | 45 => 465 | 5 => 5 | 9 => 9 | 51 => 836 | 55 => 840 | 57 => 842 | 58 => 843 | 33 => 323 | n => n, fun | n => n⟩
theorem Tryz.sortedA : Go.Proofs.SlLaysZ.n6 Tryz.prog Tryz.sortedA_ren := {
  mixed := by kernel_rfl
  f6 := ⟨Tryz.f641.name, by decide, Tryz.func641.trans (congrArg some (by kernel_rfl))⟩
  f8 := ⟨Tryz.f666.name, by decide, Tryz.func666.trans (congrArg some (by kernel_rfl))⟩
  f11 := ⟨Tryz.f684.name, by decide, Tryz.func684.trans (congrArg some (by kernel_rfl))⟩
  t0 := Tryz.underlying0
  a0 := Tryz.isAgg0
  z0 := Tryz.sizeOf0
  v0 := Tryz.zeroValue0
  t24 := Tryz.underlying73
  a24 := Tryz.isAgg73
  z24 := Tryz.sizeOf73
  v24 := Tryz.zeroValue73
  t26 := Tryz.underlying9
  a26 := Tryz.isAgg9
  z26 := Tryz.sizeOf9
  v26 := Tryz.zeroValue9
  t28 := Tryz.underlying775
  a28 := Tryz.isAgg775
  z28 := Tryz.sizeOf775
  v28 := Tryz.zeroValue775
  i26 := by kernel_rfl }
def Tryz.sortA_ren : Go.Shelf.Ren := ⟨fun | 6 => 667 | 8 => 686 | 9 => 685 | 19 => 699 | 20 => 218 | 21 => 690 | 22 => 691 | 23 => 692 | 24 => 693 | 25 => 694 | 26 => 695 | 27 => 696 | 28 => 697 | 29 => 698 | 36 => 700 | 31 => 701 | 32 => 702 | 37 => 703 | 38 => 704 | 39 => 682 | 41 => 705 | n => n, fun | 27 => 73 | 29 => 9 | 3 => 3 | 32 => 345 | 26 => 73 | 0 => 0 | 44 => 32 | 46 => 224 | 4 => 4 | 36 => 831 | 35 => 830 | 41 => 465 | 5 => 5 | 9 => 9 | 53 => 836 | 57 => 840 | 63 => 842 | 64 => 843 | n => n, fun | n => n⟩
theorem Tryz.sortA : Go.Proofs.SlLaysM.n6 Tryz.prog Tryz.sortA_ren := {
  mixed := by kernel_rfl
  f6 := ⟨Tryz.f667.name, by decide, Tryz.func667.trans (congrArg some (by kernel_rfl))⟩
  f8 := Tryz.func686.trans (congrArg some (by kernel_rfl))
  f9 := ⟨Tryz.f685.name, by decide, Tryz.func685.trans (congrArg some (by kernel_rfl))⟩
  f19 := Tryz.func699.trans (congrArg some (by kernel_rfl))
  f20 := Tryz.func218.trans (congrArg some (by kernel_rfl))
  f21 := ⟨Tryz.f690.name, by decide, Tryz.func690.trans (congrArg some (by kernel_rfl))⟩
  f22 := ⟨Tryz.f691.name, by decide, Tryz.func691.trans (congrArg some (by kernel_rfl))⟩
  f23 := ⟨Tryz.f692.name, by decide, Tryz.func692.trans (congrArg some (by kernel_rfl))⟩
  f24 := ⟨Tryz.f693.name, by decide, Tryz.func693.trans (congrArg some (by kernel_rfl))⟩
  f25 := ⟨Tryz.f694.name, by decide, Tryz.func694.trans (congrArg some (by kernel_rfl))⟩
  f26 := ⟨Tryz.f695.name, by decide, Tryz.func695.trans (congrArg some (by kernel_rfl))⟩
  f27 := ⟨Tryz.f696.name, by decide, Tryz.func696.trans (congrArg some (by kernel_rfl))⟩
  f28 := ⟨Tryz.f697.name, by decide, Tryz.func697.trans (congrArg some (by kernel_rfl))⟩
  f29 := ⟨Tryz.f698.name, by decide, Tryz.func698.trans (congrArg some (by kernel_rfl))⟩
  f31 := Tryz.func701.trans (congrArg some (by kernel_rfl))
  f32 := Tryz.func702.trans (congrArg some (by kernel_rfl))
  f36 := ⟨Tryz.f700.name, by decide, Tryz.func700.trans (congrArg some (by kernel_rfl))⟩
  f37 := ⟨Tryz.f703.name, by decide, Tryz.func703.trans (congrArg some (by kernel_rfl))⟩
  f38 := ⟨Tryz.f704.name, by decide, Tryz.func704.trans (congrArg some (by kernel_rfl))⟩
  f39 := ⟨Tryz.f682.name, by decide, Tryz.func682.trans (congrArg some (by kernel_rfl))⟩
  f41 := ⟨Tryz.f705.name, by decide, Tryz.func705.trans (congrArg some (by kernel_rfl))⟩
  t0 := Tryz.underlying0
  a0 := Tryz.isAgg0
  z0 := Tryz.sizeOf0
  v0 := Tryz.zeroValue0
  t3 := Tryz.underlying3
  a3 := Tryz.isAgg3
  z3 := Tryz.sizeOf3
  v3 := Tryz.zeroValue3
  t4 := Tryz.underlying4
  a4 := Tryz.isAgg4
  z4 := Tryz.sizeOf4
  v4 := Tryz.zeroValue4
  t5 := Tryz.underlying5
  a5 := Tryz.isAgg5
  z5 := Tryz.sizeOf5
  v5 := Tryz.zeroValue5
  t9 := Tryz.underlying9
  a9 := Tryz.isAgg9
  z9 := Tryz.sizeOf9
  v9 := Tryz.zeroValue9
  t26 := Tryz.underlying73
  a26 := Tryz.isAgg73
  z26 := Tryz.sizeOf73
  v26 := Tryz.zeroValue73
  t27 := Tryz.underlying73
  a27 := Tryz.isAgg73
  z27 := Tryz.sizeOf73
  v27 := Tryz.zeroValue73
  t29 := Tryz.underlying9
  a29 := Tryz.isAgg9
  z29 := Tryz.sizeOf9
  v29 := Tryz.zeroValue9
  t32 := Tryz.underlying345
  a32 := Tryz.isAgg345
  z32 := Tryz.sizeOf345
  v32 := Tryz.zeroValue345
  t35 := Tryz.underlying830
  a35 := Tryz.isAgg830
  z35 := Tryz.sizeOf830
  v35 := Tryz.zeroValue830
  t36 := Tryz.underlying831
  a36 := Tryz.isAgg831
  z36 := Tryz.sizeOf831
  v36 := Tryz.zeroValue831
  t41 := Tryz.underlying465
  a41 := Tryz.isAgg465
  z41 := Tryz.sizeOf465
  v41 := Tryz.zeroValue465
  t44 := Tryz.underlying32
  a44 := Tryz.isAgg32
  z44 := Tryz.sizeOf32
  v44 := Tryz.zeroValue32
  t46 := Tryz.underlying224
  a46 := Tryz.isAgg224
  z46 := Tryz.sizeOf224
  v46 := Tryz.zeroValue224
  t53 := Tryz.underlying836
  a53 := Tryz.isAgg836
  z53 := Tryz.sizeOf836
  v53 := Tryz.zeroValue836
  t57 := Tryz.underlying840
  a57 := Tryz.isAgg840
  z57 := Tryz.sizeOf840
  v57 := Tryz.zeroValue840
  t63 := Tryz.underlying842
  a63 := Tryz.isAgg842
  z63 := Tryz.sizeOf842
  v63 := Tryz.zeroValue842
  t64 := Tryz.underlying843
  a64 := Tryz.isAgg843
  z64 := Tryz.sizeOf843
  v64 := Tryz.zeroValue843 }
end Go.Proofs

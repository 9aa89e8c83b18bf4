/-
 DERIVED: THE SHELF's CONTRACTS AT THIS DUMP, IN PLAIN WORDS (tools/lay-plain.mjs out of 'KL22c.lean', which tools/lay-shelf.mjs wrote): THE SAME DECLARATIONS UNDER THE SAME NAMES: 'import', 'namespace', 'open', 'def', 'theorem' AND NOTHING ELSE: no command of the shelf's: FOR A HAND-IN. Each laying: the table of numbers ('.._ren') and one theorem, a field a fact of the dump's own or the kernel's comparison; each contract: ONE APPLICATION.
-/
import Derived.Shelf.SlGeneric
import Derived.Shelf.SlIter.Nil
import Derived.Shelf.SortM.Plain
import Derived.Shelf.SortM.SortNone
import Derived.Ground.GgzProg
import Derived.Ground.SlgmProg
import Derived.Test.YteikbgknibikmaaGreatDoorProg
set_option linter.all false
namespace Go.Proofs
open Go.Shelf
def Tryz.keysA_ren : Go.Shelf.Ren:=⟨fun | 7=>687 | 10=>716 | n=>n,fun | 23=>497 | 26=>9 | 3=>4 | 28=>775 | 0=>0 | 27=>774 | 33=>207 | 4=>4 | n=>n,fun | n=>n⟩
theorem Tryz.keysA : Go.Proofs.SlLaysZ.n7 Tryz.prog Tryz.keysA_ren:={
 mixed:=by kernel_rfl
 f7:=⟨Tryz.f687.name,by decide,Tryz.func687.trans (congrArg some (by kernel_rfl))⟩
 f10:=⟨Tryz.f716.name,by decide,Tryz.func716.trans (congrArg some (by kernel_rfl))⟩
 t0:=Tryz.underlying0
 a0:=Tryz.isAgg0
 z0:=Tryz.sizeOf0
 v0:=Tryz.zeroValue0
 t4:=Tryz.underlying4
 a4:=Tryz.isAgg4
 z4:=Tryz.sizeOf4
 v4:=Tryz.zeroValue4
 t23:=Tryz.underlying497
 a23:=Tryz.isAgg497
 z23:=Tryz.sizeOf497
 v23:=Tryz.zeroValue497
 t26:=Tryz.underlying9
 a26:=Tryz.isAgg9
 z26:=Tryz.sizeOf9
 v26:=Tryz.zeroValue9
 t27:=Tryz.underlying774
 a27:=Tryz.isAgg774
 z27:=Tryz.sizeOf774
 v27:=Tryz.zeroValue774
 t28:=Tryz.underlying775
 a28:=Tryz.isAgg775
 z28:=Tryz.sizeOf775
 v28:=Tryz.zeroValue775
 t33:=Tryz.underlying207
 a33:=Tryz.isAgg207
 z33:=Tryz.sizeOf207
 v33:=Tryz.zeroValue207 }
def Tryz.sortedA_ren : Go.Shelf.Ren:=⟨fun | 6=>686 | 8=>714 | 9=>715 | 11=>728 | 13=>730 | 12=>729 | 23=>741 | 24=>367 | 14=>732 | 15=>733 | 16=>734 | 17=>735 | 18=>736 | 19=>737 | 20=>738 | 21=>739 | 22=>740 | 25=>742 | 26=>743 | 27=>744 | 28=>745 | 29=>746 | 30=>726 | 31=>747 | n=>n,fun | 26=>9 | 28=>775 | 24=>43 | 0=>0 | 3=>3 | 37=>153 | 48=>249 | 50=>252 | 4=>4 | 40=>826 | 39=>825 | 45=>70 | 5=>5 | 9=>9 | 51=>831 | 55=>835 | 57=>837 | 58=>838 | 33=>207 | n=>n,fun | n=>n⟩
theorem Tryz.sortedA : Go.Proofs.SlLaysZ.n6 Tryz.prog Tryz.sortedA_ren:={
 mixed:=by kernel_rfl
 f6:=⟨Tryz.f686.name,by decide,Tryz.func686.trans (congrArg some (by kernel_rfl))⟩
 f8:=⟨Tryz.f714.name,by decide,Tryz.func714.trans (congrArg some (by kernel_rfl))⟩
 f11:=⟨Tryz.f728.name,by decide,Tryz.func728.trans (congrArg some (by kernel_rfl))⟩
 t0:=Tryz.underlying0
 a0:=Tryz.isAgg0
 z0:=Tryz.sizeOf0
 v0:=Tryz.zeroValue0
 t24:=Tryz.underlying43
 a24:=Tryz.isAgg43
 z24:=Tryz.sizeOf43
 v24:=Tryz.zeroValue43
 t26:=Tryz.underlying9
 a26:=Tryz.isAgg9
 z26:=Tryz.sizeOf9
 v26:=Tryz.zeroValue9
 t28:=Tryz.underlying775
 a28:=Tryz.isAgg775
 z28:=Tryz.sizeOf775
 v28:=Tryz.zeroValue775
 i26:=by kernel_rfl }
def Tryz.sortA_ren : Go.Shelf.Ren:=⟨fun | 6=>715 | 8=>730 | 9=>729 | 19=>741 | 20=>367 | 21=>732 | 22=>733 | 23=>734 | 24=>735 | 25=>736 | 26=>737 | 27=>738 | 28=>739 | 29=>740 | 36=>742 | 31=>743 | 32=>744 | 37=>745 | 38=>746 | 39=>726 | 41=>747 | n=>n,fun | 27=>43 | 29=>9 | 3=>3 | 32=>153 | 26=>43 | 0=>0 | 44=>249 | 46=>252 | 4=>4 | 36=>826 | 35=>825 | 41=>70 | 5=>5 | 9=>9 | 53=>831 | 57=>835 | 63=>837 | 64=>838 | n=>n,fun | n=>n⟩
theorem Tryz.sortA : Go.Proofs.SlLaysM.n6 Tryz.prog Tryz.sortA_ren:={
 mixed:=by kernel_rfl
 f6:=⟨Tryz.f715.name,by decide,Tryz.func715.trans (congrArg some (by kernel_rfl))⟩
 f8:=Tryz.func730.trans (congrArg some (by kernel_rfl))
 f9:=⟨Tryz.f729.name,by decide,Tryz.func729.trans (congrArg some (by kernel_rfl))⟩
 f19:=Tryz.func741.trans (congrArg some (by kernel_rfl))
 f20:=Tryz.func367.trans (congrArg some (by kernel_rfl))
 f21:=⟨Tryz.f732.name,by decide,Tryz.func732.trans (congrArg some (by kernel_rfl))⟩
 f22:=⟨Tryz.f733.name,by decide,Tryz.func733.trans (congrArg some (by kernel_rfl))⟩
 f23:=⟨Tryz.f734.name,by decide,Tryz.func734.trans (congrArg some (by kernel_rfl))⟩
 f24:=⟨Tryz.f735.name,by decide,Tryz.func735.trans (congrArg some (by kernel_rfl))⟩
 f25:=⟨Tryz.f736.name,by decide,Tryz.func736.trans (congrArg some (by kernel_rfl))⟩
 f26:=⟨Tryz.f737.name,by decide,Tryz.func737.trans (congrArg some (by kernel_rfl))⟩
 f27:=⟨Tryz.f738.name,by decide,Tryz.func738.trans (congrArg some (by kernel_rfl))⟩
 f28:=⟨Tryz.f739.name,by decide,Tryz.func739.trans (congrArg some (by kernel_rfl))⟩
 f29:=⟨Tryz.f740.name,by decide,Tryz.func740.trans (congrArg some (by kernel_rfl))⟩
 f31:=Tryz.func743.trans (congrArg some (by kernel_rfl))
 f32:=Tryz.func744.trans (congrArg some (by kernel_rfl))
 f36:=⟨Tryz.f742.name,by decide,Tryz.func742.trans (congrArg some (by kernel_rfl))⟩
 f37:=⟨Tryz.f745.name,by decide,Tryz.func745.trans (congrArg some (by kernel_rfl))⟩
 f38:=⟨Tryz.f746.name,by decide,Tryz.func746.trans (congrArg some (by kernel_rfl))⟩
 f39:=⟨Tryz.f726.name,by decide,Tryz.func726.trans (congrArg some (by kernel_rfl))⟩
 f41:=⟨Tryz.f747.name,by decide,Tryz.func747.trans (congrArg some (by kernel_rfl))⟩
 t0:=Tryz.underlying0
 a0:=Tryz.isAgg0
 z0:=Tryz.sizeOf0
 v0:=Tryz.zeroValue0
 t3:=Tryz.underlying3
 a3:=Tryz.isAgg3
 z3:=Tryz.sizeOf3
 v3:=Tryz.zeroValue3
 t4:=Tryz.underlying4
 a4:=Tryz.isAgg4
 z4:=Tryz.sizeOf4
 v4:=Tryz.zeroValue4
 t5:=Tryz.underlying5
 a5:=Tryz.isAgg5
 z5:=Tryz.sizeOf5
 v5:=Tryz.zeroValue5
 t9:=Tryz.underlying9
 a9:=Tryz.isAgg9
 z9:=Tryz.sizeOf9
 v9:=Tryz.zeroValue9
 t26:=Tryz.underlying43
 a26:=Tryz.isAgg43
 z26:=Tryz.sizeOf43
 v26:=Tryz.zeroValue43
 t27:=Tryz.underlying43
 a27:=Tryz.isAgg43
 z27:=Tryz.sizeOf43
 v27:=Tryz.zeroValue43
 t29:=Tryz.underlying9
 a29:=Tryz.isAgg9
 z29:=Tryz.sizeOf9
 v29:=Tryz.zeroValue9
 t32:=Tryz.underlying153
 a32:=Tryz.isAgg153
 z32:=Tryz.sizeOf153
 v32:=Tryz.zeroValue153
 t35:=Tryz.underlying825
 a35:=Tryz.isAgg825
 z35:=Tryz.sizeOf825
 v35:=Tryz.zeroValue825
 t36:=Tryz.underlying826
 a36:=Tryz.isAgg826
 z36:=Tryz.sizeOf826
 v36:=Tryz.zeroValue826
 t41:=Tryz.underlying70
 a41:=Tryz.isAgg70
 z41:=Tryz.sizeOf70
 v41:=Tryz.zeroValue70
 t44:=Tryz.underlying249
 a44:=Tryz.isAgg249
 z44:=Tryz.sizeOf249
 v44:=Tryz.zeroValue249
 t46:=Tryz.underlying252
 a46:=Tryz.isAgg252
 z46:=Tryz.sizeOf252
 v46:=Tryz.zeroValue252
 t53:=Tryz.underlying831
 a53:=Tryz.isAgg831
 z53:=Tryz.sizeOf831
 v53:=Tryz.zeroValue831
 t57:=Tryz.underlying835
 a57:=Tryz.isAgg835
 z57:=Tryz.sizeOf835
 v57:=Tryz.zeroValue835
 t63:=Tryz.underlying837
 a63:=Tryz.isAgg837
 z63:=Tryz.sizeOf837
 v63:=Tryz.zeroValue837
 t64:=Tryz.underlying838
 a64:=Tryz.isAgg838
 z64:=Tryz.sizeOf838
 v64:=Tryz.zeroValue838 }
end Go.Proofs

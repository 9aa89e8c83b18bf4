/-
 DERIVED: THE SHELF's CONTRACTS AT THIS DUMP, IN PLAIN WORDS (tools/lay-plain.mjs out of 'KL26c.lean', which tools/lay-shelf.mjs wrote): THE SAME DECLARATIONS UNDER THE SAME NAMES: 'import', 'namespace', 'open', 'def', 'theorem' AND NOTHING ELSE: no command of the shelf's: FOR A HAND-IN. Each laying: the table of numbers ('.._ren') and one theorem, a field a fact of the dump's own or the kernel's comparison; each contract: ONE APPLICATION.
-/
import Derived.Shelf.SlGeneric
import Derived.Shelf.SlIter.Nil
import Derived.Shelf.SortM.Plain
import Derived.Shelf.SortM.SortNone
import Derived.Ground.GgzProg
import Derived.Ground.SlgmProg
import Derived.Test.YthiiaehlmfbeoaaGreatDoorProg
set_option linter.all false
namespace Go.Proofs
open Go.Shelf
def Tryz.keysA_ren:Go.Shelf.Ren:=⟨fun|7=>695|10=>729|n=>n,fun|23=>501|26=>9|3=>4|28=>795|0=>0|27=>794|33=>225|4=>4|n=>n,fun|n=>n⟩
theorem Tryz.keysA:Go.Proofs.SlLaysZ.n7 Tryz.prog Tryz.keysA_ren:={
 mixed:=by kernel_rfl
 f7:=⟨Tryz.f695.name,by decide,Tryz.func695.trans (congrArg some (by kernel_rfl))⟩
 f10:=⟨Tryz.f729.name,by decide,Tryz.func729.trans (congrArg some (by kernel_rfl))⟩
 t0:=Tryz.underlying0
 a0:=Tryz.isAgg0
 z0:=Tryz.sizeOf0
 v0:=Tryz.zeroValue0
 t4:=Tryz.underlying4
 a4:=Tryz.isAgg4
 z4:=Tryz.sizeOf4
 v4:=Tryz.zeroValue4
 t23:=Tryz.underlying501
 a23:=Tryz.isAgg501
 z23:=Tryz.sizeOf501
 v23:=Tryz.zeroValue501
 t26:=Tryz.underlying9
 a26:=Tryz.isAgg9
 z26:=Tryz.sizeOf9
 v26:=Tryz.zeroValue9
 t27:=Tryz.underlying794
 a27:=Tryz.isAgg794
 z27:=Tryz.sizeOf794
 v27:=Tryz.zeroValue794
 t28:=Tryz.underlying795
 a28:=Tryz.isAgg795
 z28:=Tryz.sizeOf795
 v28:=Tryz.zeroValue795
 t33:=Tryz.underlying225
 a33:=Tryz.isAgg225
 z33:=Tryz.sizeOf225
 v33:=Tryz.zeroValue225}
def Tryz.sortedA_ren:Go.Shelf.Ren:=⟨fun|6=>694|8=>727|9=>728|11=>743|13=>745|12=>744|23=>756|24=>722|14=>747|15=>748|16=>749|17=>750|18=>751|19=>752|20=>753|21=>754|22=>755|25=>757|26=>758|27=>759|28=>760|29=>761|30=>739|31=>762|n=>n,fun|26=>9|28=>795|24=>78|0=>0|3=>3|37=>799|48=>808|50=>732|4=>4|40=>855|39=>854|45=>598|5=>5|9=>9|51=>860|55=>864|57=>866|58=>867|33=>225|n=>n,fun|n=>n⟩
theorem Tryz.sortedA:Go.Proofs.SlLaysZ.n6 Tryz.prog Tryz.sortedA_ren:={
 mixed:=by kernel_rfl
 f6:=⟨Tryz.f694.name,by decide,Tryz.func694.trans (congrArg some (by kernel_rfl))⟩
 f8:=⟨Tryz.f727.name,by decide,Tryz.func727.trans (congrArg some (by kernel_rfl))⟩
 f11:=⟨Tryz.f743.name,by decide,Tryz.func743.trans (congrArg some (by kernel_rfl))⟩
 t0:=Tryz.underlying0
 a0:=Tryz.isAgg0
 z0:=Tryz.sizeOf0
 v0:=Tryz.zeroValue0
 t24:=Tryz.underlying78
 a24:=Tryz.isAgg78
 z24:=Tryz.sizeOf78
 v24:=Tryz.zeroValue78
 t26:=Tryz.underlying9
 a26:=Tryz.isAgg9
 z26:=Tryz.sizeOf9
 v26:=Tryz.zeroValue9
 t28:=Tryz.underlying795
 a28:=Tryz.isAgg795
 z28:=Tryz.sizeOf795
 v28:=Tryz.zeroValue795
 i26:=by kernel_rfl}
def Tryz.sortA_ren:Go.Shelf.Ren:=⟨fun|6=>728|8=>745|9=>744|19=>756|20=>722|21=>747|22=>748|23=>749|24=>750|25=>751|26=>752|27=>753|28=>754|29=>755|36=>757|31=>758|32=>759|37=>760|38=>761|39=>739|41=>762|n=>n,fun|27=>78|29=>9|3=>3|32=>799|26=>78|0=>0|44=>808|46=>732|4=>4|36=>855|35=>854|41=>598|5=>5|9=>9|53=>860|57=>864|63=>866|64=>867|n=>n,fun|n=>n⟩
theorem Tryz.sortA:Go.Proofs.SlLaysM.n6 Tryz.prog Tryz.sortA_ren:={
 mixed:=by kernel_rfl
 f6:=⟨Tryz.f728.name,by decide,Tryz.func728.trans (congrArg some (by kernel_rfl))⟩
 f8:=Tryz.func745.trans (congrArg some (by kernel_rfl))
 f9:=⟨Tryz.f744.name,by decide,Tryz.func744.trans (congrArg some (by kernel_rfl))⟩
 f19:=Tryz.func756.trans (congrArg some (by kernel_rfl))
 f20:=Tryz.func722.trans (congrArg some (by kernel_rfl))
 f21:=⟨Tryz.f747.name,by decide,Tryz.func747.trans (congrArg some (by kernel_rfl))⟩
 f22:=⟨Tryz.f748.name,by decide,Tryz.func748.trans (congrArg some (by kernel_rfl))⟩
 f23:=⟨Tryz.f749.name,by decide,Tryz.func749.trans (congrArg some (by kernel_rfl))⟩
 f24:=⟨Tryz.f750.name,by decide,Tryz.func750.trans (congrArg some (by kernel_rfl))⟩
 f25:=⟨Tryz.f751.name,by decide,Tryz.func751.trans (congrArg some (by kernel_rfl))⟩
 f26:=⟨Tryz.f752.name,by decide,Tryz.func752.trans (congrArg some (by kernel_rfl))⟩
 f27:=⟨Tryz.f753.name,by decide,Tryz.func753.trans (congrArg some (by kernel_rfl))⟩
 f28:=⟨Tryz.f754.name,by decide,Tryz.func754.trans (congrArg some (by kernel_rfl))⟩
 f29:=⟨Tryz.f755.name,by decide,Tryz.func755.trans (congrArg some (by kernel_rfl))⟩
 f31:=Tryz.func758.trans (congrArg some (by kernel_rfl))
 f32:=Tryz.func759.trans (congrArg some (by kernel_rfl))
 f36:=⟨Tryz.f757.name,by decide,Tryz.func757.trans (congrArg some (by kernel_rfl))⟩
 f37:=⟨Tryz.f760.name,by decide,Tryz.func760.trans (congrArg some (by kernel_rfl))⟩
 f38:=⟨Tryz.f761.name,by decide,Tryz.func761.trans (congrArg some (by kernel_rfl))⟩
 f39:=⟨Tryz.f739.name,by decide,Tryz.func739.trans (congrArg some (by kernel_rfl))⟩
 f41:=⟨Tryz.f762.name,by decide,Tryz.func762.trans (congrArg some (by kernel_rfl))⟩
 t0:=Tryz.underlying0
 a0:=Tryz.isAgg0
 z0:=Tryz.sizeOf0
 v0:=Tryz.zeroValue0
 t3:=Tryz.underlying3
 a3:=Tryz.isAgg3
 z3:=Tryz.sizeOf3
 v3:=Tryz.zeroValue3
 t4:=Tryz.underlying4
 a4:=Tryz.isAgg4
 z4:=Tryz.sizeOf4
 v4:=Tryz.zeroValue4
 t5:=Tryz.underlying5
 a5:=Tryz.isAgg5
 z5:=Tryz.sizeOf5
 v5:=Tryz.zeroValue5
 t9:=Tryz.underlying9
 a9:=Tryz.isAgg9
 z9:=Tryz.sizeOf9
 v9:=Tryz.zeroValue9
 t26:=Tryz.underlying78
 a26:=Tryz.isAgg78
 z26:=Tryz.sizeOf78
 v26:=Tryz.zeroValue78
 t27:=Tryz.underlying78
 a27:=Tryz.isAgg78
 z27:=Tryz.sizeOf78
 v27:=Tryz.zeroValue78
 t29:=Tryz.underlying9
 a29:=Tryz.isAgg9
 z29:=Tryz.sizeOf9
 v29:=Tryz.zeroValue9
 t32:=Tryz.underlying799
 a32:=Tryz.isAgg799
 z32:=Tryz.sizeOf799
 v32:=Tryz.zeroValue799
 t35:=Tryz.underlying854
 a35:=Tryz.isAgg854
 z35:=Tryz.sizeOf854
 v35:=Tryz.zeroValue854
 t36:=Tryz.underlying855
 a36:=Tryz.isAgg855
 z36:=Tryz.sizeOf855
 v36:=Tryz.zeroValue855
 t41:=Tryz.underlying598
 a41:=Tryz.isAgg598
 z41:=Tryz.sizeOf598
 v41:=Tryz.zeroValue598
 t44:=Tryz.underlying808
 a44:=Tryz.isAgg808
 z44:=Tryz.sizeOf808
 v44:=Tryz.zeroValue808
 t46:=Tryz.underlying732
 a46:=Tryz.isAgg732
 z46:=Tryz.sizeOf732
 v46:=Tryz.zeroValue732
 t53:=Tryz.underlying860
 a53:=Tryz.isAgg860
 z53:=Tryz.sizeOf860
 v53:=Tryz.zeroValue860
 t57:=Tryz.underlying864
 a57:=Tryz.isAgg864
 z57:=Tryz.sizeOf864
 v57:=Tryz.zeroValue864
 t63:=Tryz.underlying866
 a63:=Tryz.isAgg866
 z63:=Tryz.sizeOf866
 v63:=Tryz.zeroValue866
 t64:=Tryz.underlying867
 a64:=Tryz.isAgg867
 z64:=Tryz.sizeOf867
 v64:=Tryz.zeroValue867}
end Go.Proofs

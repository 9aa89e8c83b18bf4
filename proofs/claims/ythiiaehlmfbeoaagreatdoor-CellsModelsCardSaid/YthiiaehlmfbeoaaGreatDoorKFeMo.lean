/-
  The closure of calls of CellsModels, and the closed facts that are asked of it.
-/
import Derived.Test.YthiiaehlmfbeoaaGreatDoorKFc
import Derived.Test.YthiiaehlmfbeoaaGreatDoorKFd
set_option linter.all false
set_option maxRecDepth 100000
namespace Go.Proofs.YthiiaehlmfbeoaaGreatDoor
open Go Go.Ab
noncomputable section
def clo:List FuncId:=[3,8,17,33,34,35,76,101,103,102,157,77,41,37,38,36,22,42,43,44,80,81,45,46,23,47,82,105,48,83,49,9,18,39,78,79,20,104,40,24,50,51,52,84,106,10,13,11,12,14,15,16,25,19,26,53,56,55,21,54,27,28,58,91,124,210,333,334,464,335,465,568,642,569,643,696,336,337,466,347,477,578,654,655,705,733,734,224,346,225,125,126,211,92,127,212,128,213,214,129,135,130,132,133,215,338,339,467,570,644,697,730,731,571,645,698,646,647,468,572,649,679,680,722,721,723,681,682,724,725,741,742,699,648,340,216,341,136,469,131,134,137,217,218,219,342,470,573,650,652,700,701,702,703,704,732,651,343,93,138,142,220,250,365,221,344,471,574,475,577,472,575,348,653,345,473,576,474,476,139,141,140,223,222,143,226,349,479,478,523,227,59,60,61,94,63,65,62,64,95,66,57,85,107,159,160,248,161,162,249,251,366,489,488,581,367,491,490,582,163,252,253,368,369,370,254,371,373,255,372,374,256,257,258,375,376,158,247,108,164,165,260,259,261,267,378,493,377,492,583,584,265,382,657,709,710,736,662,585,658,660,661,659,586,587,588,263,264,380,494,381,262,379,266,86,109,166,116,177,198,268,383,495,384,497,498,499,590,500,496,589,663,664,269,385,270,271,272,167,174,289,429,290,406,532,432,291,433,175,292,293,434,435,544,545,636,637,176,294,443,554,638,693,547,639,552,437,548,436,546,438,549,550,439,551,440,441,553,442,537,630,173,287,425,427,540,633,691,541,635,542,424,539,634,692,288,543,426,431,430,428,110,168,169,273,386,388,503,504,591,505,592,665,593,506,594,508,507,595,597,596,666,509,510,598,511,512,513,514,515,516,517,518,599,600,519,601,667,711,712,668,602,603,669,604,605,670,671,606,607,672,387,501,502,389,402,529,403,530,617,111,112,115,170,274,171,275,276,277,390,391,520,395,525,526,527,613,614,677,678,719,739,720,740,718,676,612,674,675,717,738,528,615,616,397,396,392,400,393,394,521,399,608,609,673,713,714,715,716,737,610,522,611,524,398,278,401,279,113,114,172,280,281,282,407,404,531,405,283,408,284,409,533,619,618,538,631,632,410,411,412,413,414,415,534,620,621,683,622,623,624,684,625,685,686,687,626,688,726,628,690,627,689,416,417,418,535,629,419,420,536,421,285,422,286,423,87,88,117,178,296,295,444,179,180,297,445,555,640,695,729,694,727,743,728,745,756,744,747,753,748,757,749,758,759,750,760,761,762,751,752,754,755,556,557,558,559,196,181,298,299,182,300,447,304,446,183,184,301,185,186,187,302,188,189,190,303,191,192,193,194,118,195,197,119,199,200,305,120,201,90,89,121,202,306,307,205,204,308,309,448,561,560,641,203,122,123,206,310,449,331,455,332,457,311,450,312,451,329,313,452,453,314,315,454,562,207,327,328,316,456,563,564,458,463,460,317,318,319,320,321,459,565,566,322,323,461,324,325,326,462,567,208,209,330,30,32,68,96,144,228,350,229,351,480,481,352,230,155,242,244,243,360,239,353,482,97,145,231,232,151,146,148,233,149,234,354,355,236,235,356,483,238,147,150,237,357,484,579,656,706,708,735,746,707,485,98,99,152,240,241,358,486,487,362,580,359,153,154,156,245,361,363,364,246,69,71,72,73,100,70,75,74,29,67,31]
theorem Qpq:1+((List.range' 0 808).map fun i=>(mAll i).1.length+1).sum=2856:=by kernel_rfl
theorem Qpr:cloM (Qpt mAll 808) 2856 [3] 0 []=clo:=by kernel_rfl
theorem cloIs:Tryz.prog.closure 3=clo:=Qpx QoS Qpq Qpr
theorem Qpp:(fun(P:Program)(f:FuncId)(fn:Func)(s:ChangeSpec)(c:OpenClaim)=>((c.inPlace == P.inPlace f):Bool)) Tryz.prog 3 Tryz.f3 Rows.cellsModelsSpec Rows.cellsModelsRow=true:=by
  show (Rows.cellsModelsRow.inPlace == Tryz.prog.inPlace 3)=true;rw[Qpw QoS cloIs];kernel_rfl
theorem unf:Tryz.prog.unfollowed 3=true:=by
  unfold Program.unfollowed;rw[cloIs];exact List.any_eq_true.2 ⟨33,by decide+kernel,by kernel_rfl⟩
theorem Qpo:(fun(P:Program)(f:FuncId)(fn:Func)(s:ChangeSpec)(c:OpenClaim)=>((c.unfollowed == P.unfollowed f):Bool)) Tryz.prog 3 Tryz.f3 Rows.cellsModelsSpec Rows.cellsModelsRow=true:=by
  show (Rows.cellsModelsRow.unfollowed == Tryz.prog.unfollowed 3)=true;rw[unf];rfl
theorem Qpn:(fun(P:Program)(f:FuncId)(fn:Func)(s:ChangeSpec)(c:OpenClaim)=>((c.recurses == P.recurses f):Bool)) Tryz.prog 3 Tryz.f3 Rows.cellsModelsSpec Rows.cellsModelsRow=true:=by
  show (Rows.cellsModelsRow.recurses == Tryz.prog.recurses 3)=true;unfold Program.recurses;rw[unf];rfl
theorem Qpm:(fun(P:Program)(f:FuncId)(fn:Func)(s:ChangeSpec)(c:OpenClaim)=>((c.named == P.varsNamed f):Bool)) Tryz.prog 3 Tryz.f3 Rows.cellsModelsSpec Rows.cellsModelsRow=true:=by
  show (Rows.cellsModelsRow.named == Tryz.prog.varsNamed 3)=true;rw[Qpu QoS cloIs];kernel_rfl
theorem lob:laidOutB Tryz.prog=true:=Qpv tszF rAll (by kernel_rfl) Qps
theorem fact2:(fun(P:Program)(f:FuncId)(fn:Func)(s:ChangeSpec)(c:OpenClaim)=>(laidOutB P:Bool)) Tryz.prog 3 Tryz.f3 Rows.cellsModelsSpec Rows.cellsModelsRow=true:=lob
end
end Go.Proofs.YthiiaehlmfbeoaaGreatDoor

/-
  The closure of calls of StdlibThrows, and the closed facts that are asked of it.
-/
import Derived.Test.YteikbgknibikmaaGreatDoorKFc
import Derived.Test.YteikbgknibikmaaGreatDoorKFd
set_option linter.all false
set_option maxRecDepth 100000
namespace Go.Proofs.YteikbgknibikmaaGreatDoor
open Go Go.Ab
noncomputable section
def clo : List FuncId := [6,7,14,16,23,43,86,44,87,45,25,46,57,47,48,49,26,56,88,50,51,89,147,52,53,54,55,27,58,90,148,244,245,367,366,368,246,247,369,370,493,494,29,59,91,60,92,149,61,93,150,151,94,152,95,153,248,96,62,28,12,15,9,24,10,17,18,31,69,114,207,334,335,470,336,471,572,642,688,337,338,472,348,482,580,652,653,697,720,721,221,347,222,115,116,208,70,117,209,118,210,211,119,125,120,122,123,212,339,340,473,573,643,689,717,718,574,644,690,645,646,691,647,341,213,342,126,474,121,124,127,214,215,216,343,475,575,648,650,692,693,694,695,696,719,649,344,71,128,132,217,252,371,218,345,476,576,480,579,477,577,349,651,346,478,578,479,481,129,131,130,220,219,133,223,350,484,483,530,224,32,72,74,73,34,75,76,33,35,30,63,97,155,156,250,157,158,251,253,372,496,495,583,373,498,497,584,159,254,255,374,375,376,256,377,379,257,378,380,258,259,260,381,382,154,249,98,160,161,262,261,263,269,384,500,383,499,585,586,267,388,655,701,702,723,660,587,656,658,659,657,588,589,590,265,266,386,501,387,264,385,268,64,99,162,106,174,195,270,389,502,390,504,505,506,592,507,503,591,661,662,271,391,272,168,273,274,163,171,290,435,291,412,539,438,292,439,172,293,294,440,441,549,550,636,637,173,295,449,559,638,685,552,639,557,443,553,442,551,444,554,555,445,556,446,447,558,448,544,632,170,289,431,433,546,635,547,430,548,432,437,436,434,100,164,165,275,392,394,510,511,593,512,594,663,595,513,596,515,514,597,599,598,664,516,517,600,518,519,520,521,522,523,524,525,601,602,526,603,665,703,704,666,604,605,667,606,607,668,669,608,609,670,393,508,509,395,408,536,409,537,619,101,102,105,166,276,167,277,278,279,396,397,527,401,532,533,534,615,616,675,676,711,726,712,727,710,674,614,672,673,709,725,535,617,618,403,402,398,406,399,400,528,405,610,611,671,705,706,707,708,724,612,529,613,531,404,280,407,281,103,104,169,282,283,284,413,410,538,411,285,414,286,415,540,621,620,545,633,634,416,417,418,419,420,421,541,622,623,677,624,625,626,678,627,679,680,681,628,682,713,630,684,629,683,422,423,424,542,631,425,426,543,427,287,428,288,429,65,66,107,175,297,296,450,176,177,298,451,560,640,687,716,686,714,728,715,730,741,729,732,738,733,742,734,743,744,735,745,746,747,736,737,739,740,561,562,563,564,193,178,299,300,179,301,453,305,452,180,181,302,182,183,184,303,185,186,187,304,188,189,190,191,108,192,194,109,196,197,306,110,198,68,67,111,199,307,308,202,201,309,310,454,566,565,641,200,112,113,203,311,455,332,461,333,463,312,456,313,457,330,314,458,459,315,316,460,567,204,328,329,317,462,568,464,469,466,318,319,320,321,322,465,569,570,323,324,467,325,326,327,468,571,205,206,331,20,22,37,77,134,225,351,226,352,485,486,353,227,145,239,13,241,240,361,236,354,487,78,135,228,229,141,136,138,230,139,231,355,356,233,232,357,488,235,137,140,234,358,489,581,654,698,700,722,731,699,490,79,80,142,237,238,359,491,492,363,582,360,143,144,146,242,362,364,365,243,38,42,82,81,40,83,41,84,39,85,19,36,21,11]
theorem Qjo : 1 + ((List.range' 0 793).map fun i => (mAll i).1.length + 1).sum = 2937 := by kernel_rfl
theorem Qjp : cloM (Qio mAll 793) 2937 [6] 0 [] = clo := by kernel_rfl
theorem cloIs : Tryz.prog.closure 6 = clo := Qe6 QcI Qjo Qjp
theorem Qjd : (fun (P : Program) (f : FuncId) (fn : Func) (s : ChangeSpec) (c : OpenClaim) => ((c.inPlace == P.inPlace f) : Bool)) Tryz.prog 6 Tryz.f6 Rows.stdlibThrowsSpec Rows.stdlibThrowsRow = true := by
  show (Rows.stdlibThrowsRow.inPlace == Tryz.prog.inPlace 6) = true
  rw [QeV QcI cloIs]
  kernel_rfl
theorem unf : Tryz.prog.unfollowed 6 = true := by
  unfold Program.unfollowed
  rw [cloIs]
  exact List.any_eq_true.2 ⟨43, by decide +kernel, by kernel_rfl⟩
theorem Qjc : (fun (P : Program) (f : FuncId) (fn : Func) (s : ChangeSpec) (c : OpenClaim) => ((c.unfollowed == P.unfollowed f) : Bool)) Tryz.prog 6 Tryz.f6 Rows.stdlibThrowsSpec Rows.stdlibThrowsRow = true := by
  show (Rows.stdlibThrowsRow.unfollowed == Tryz.prog.unfollowed 6) = true
  rw [unf]
  rfl
theorem Qjb : (fun (P : Program) (f : FuncId) (fn : Func) (s : ChangeSpec) (c : OpenClaim) => ((c.recurses == P.recurses f) : Bool)) Tryz.prog 6 Tryz.f6 Rows.stdlibThrowsSpec Rows.stdlibThrowsRow = true := by
  show (Rows.stdlibThrowsRow.recurses == Tryz.prog.recurses 6) = true
  unfold Program.recurses
  rw [unf]
  rfl
theorem Qja : (fun (P : Program) (f : FuncId) (fn : Func) (s : ChangeSpec) (c : OpenClaim) => ((c.named == P.varsNamed f) : Bool)) Tryz.prog 6 Tryz.f6 Rows.stdlibThrowsSpec Rows.stdlibThrowsRow = true := by
  show (Rows.stdlibThrowsRow.named == Tryz.prog.varsNamed 6) = true
  rw [Qdd QcI cloIs]
  kernel_rfl
theorem lob : laidOutB Tryz.prog = true := QeT tszF rAll (by kernel_rfl) Qot
theorem fact2 : (fun (P : Program) (f : FuncId) (fn : Func) (s : ChangeSpec) (c : OpenClaim) => (laidOutB P : Bool)) Tryz.prog 6 Tryz.f6 Rows.stdlibThrowsSpec Rows.stdlibThrowsRow = true := lob
end
end Go.Proofs.YteikbgknibikmaaGreatDoor

/- A part of a proof. -/
import Derived.Test.YthiiaehlmfbeoaaGreatDoorEA26
set_option linter.all false
namespace Go.Ab.L26
open Go Go.Ab Go.Proofs
noncomputable section
def LE0:List Nat:=[8,10,11,13,14,16,17,19,20,21,22,23,25,26,27,28,29,30,31,32,33,34,35,36,37,38,41,42,43,44,45,46,47,48,49,53,54,55,56,57,58,59,60,61,62,63,64,65,66,67,68,69,70,71,72,73,74,75,76,77,80,81,82,83]
theorem chkE0:Qaf Tryz.prog (Qce Tryz.prog G26 LE0)=true:=by kernel_rfl
def LE1:List Nat:=[85,86,88,89,90,91,92,93,94,95,96,97,98,99,100,101,102,103,105,107,108,115,116,117,118,119,120,121,122,123,124,125,127,128,129,130,131,132,133,134,135,136,137,138,139,140,141,142,143,144,145,146,147,148,149,150,152,153,154,155,156,157,158,159]
theorem chkE1:Qaf Tryz.prog (Qce Tryz.prog G26 LE1)=true:=by kernel_rfl
def LE2:List Nat:=[160,161,162,163,164,165,166,173,177,178,179,180,181,182,183,184,185,186,187,188,190,195,196,197,198,199,200,201,202,203,204,205,206,207,208,209,210,212,213,214,215,216,217,219,220,221,222,223,224,225,226,227,228,229,230,231,232,233,234,235,236,237,238,239]
theorem chkE2:Qaf Tryz.prog (Qce Tryz.prog G26 LE2)=true:=by kernel_rfl
def LE3:List Nat:=[240,241,242,243,244,245,246,247,249,250,251,252,253,254,255,258,261,265,266,267,268,269,271,287,288,295,296,297,298,299,300,301,302,303,304,305,306,307,308,309,310,311,312,313,314,315,316,317,318,319,321,323,327,328,329,330,331,332,333,334,335,336,337,338]
theorem chkE3:Qaf Tryz.prog (Qce Tryz.prog G26 LE3)=true:=by kernel_rfl
def LE4:List Nat:=[339,340,341,342,343,344,345,346,347,348,349,350,351,352,353,354,355,356,357,358,359,360,361,362,363,364,365,366,367,368,369,370,371,372,373,374,375,376,378,379,382,383,384,385,424,425,426,427,428,430,431,444,445,446,447,448,449,450,451,452,453,454,455,456]
theorem chkE4:Qaf Tryz.prog (Qce Tryz.prog G26 LE4)=true:=by kernel_rfl
def LE5:List Nat:=[457,458,459,460,461,465,466,468,469,470,471,472,473,474,475,476,477,478,479,480,481,482,483,484,485,486,487,488,489,490,491,493,495,496,497,498,499,500,523,539,540,541,542,555,556,557,558,560,561,562,563,564,565,566,568,569,572,573,574,575,576,577,578,579]
theorem chkE5:Qaf Tryz.prog (Qce Tryz.prog G26 LE5)=true:=by kernel_rfl
def LE6:List Nat:=[580,581,582,589,590,633,634,635,641,642,643,649,650,651,652,653,656,663,664,679,680,681,700,701,702,703,704,706,707,708,721,722,723,732,735,746]
theorem chkE6:Qaf Tryz.prog (Qce Tryz.prog G26 LE6)=true:=by kernel_rfl
def LE:List Nat:=LE0++LE1++LE2++LE3++LE4++LE5++LE6
theorem chkE:∀f∈LE,chkF Tryz.prog Tryz.prog.info? G26 (fun f=>Tryz.prog.funcs[f]?) f=true:=by
 intro f hf;unfold LE at hf;simp only[List.mem_append]at hf;rcases hf with(((((hf|hf)|hf)|hf)|hf)|hf)|hf
 ·exact Qdb chkE0 f hf
 ·exact Qdb chkE1 f hf
 ·exact Qdb chkE2 f hf
 ·exact Qdb chkE3 f hf
 ·exact Qdb chkE4 f hf
 ·exact Qdb chkE5 f hf
 ·exact Qdb chkE6 f hf
def maskE:Nat:=370352563822481763962115496088703853000032794676225214125449444786212907408131673533537558972754334792169302356072718974148162165808413712221512031931627315361862961003383905611302249118092634383140414063601702227802473590016
theorem maskE_eq:maskN LE=maskE:=by kernel_rfl
def FE(I:Tab)(FS:FuncId→Option Func):FuncId→Option AFun:=FU Tryz.prog G26 maskE I FS
theorem fE_ok:FunOk Tryz.prog G26 (FE Tryz.prog.info? fun f=>Tryz.prog.funcs[f]?):=by
 have h:=QdH (P:=Tryz.prog) (G:=G26) chkE;rw[maskE_eq]at h;exact h
end
end Go.Ab.L26

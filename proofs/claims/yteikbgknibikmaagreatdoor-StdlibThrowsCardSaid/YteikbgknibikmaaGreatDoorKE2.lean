/-
  A part of a proof: KE2.
-/
import Derived.Test.YteikbgknibikmaaGreatDoorKE1
set_option linter.all false
namespace Go.Ab.L22
open Go Go.Ab Go.Proofs
noncomputable section
def LE0 : List Nat:=[7,9,10,12,13,15,16,17,18,19,20,21,22,23,24,25,26,27,28,29,30,31,32,33,34,35,36,37,38,39,40,41,42,43,44,45,46,47,48,49,50,52,53,55,56,57,58,59,60,62,63,64,65,66,67,68,69,70,71,72,73,74,75,76]
theorem chkE0 : QaG Tryz.prog (Qc6 Tryz.prog G22 LE0) = true:=by kernel_rfl
def LE1 : List Nat:=[77,78,79,80,81,83,84,86,87,88,89,90,91,92,94,95,96,97,98,99,105,106,107,108,109,110,111,112,113,114,115,117,118,119,120,121,122,123,124,125,126,127,128,129,130,131,132,133,134,135,136,137,138,139,140,142,143,144,145,146,147,148,152,153]
theorem chkE1 : QaG Tryz.prog (Qc6 Tryz.prog G22 LE1) = true:=by kernel_rfl
def LE2 : List Nat:=[154,155,156,157,158,159,160,161,162,163,168,170,171,172,173,174,175,176,177,178,179,180,181,182,183,184,185,187,192,193,194,195,196,197,198,199,200,201,202,203,204,205,206,207,209,210,211,212,213,214,216,217,218,219,220,221,222,223,224,225,226,227,228,229]
theorem chkE2 : QaG Tryz.prog (Qc6 Tryz.prog G22 LE2) = true:=by kernel_rfl
def LE3 : List Nat:=[230,231,232,233,234,235,236,237,238,239,240,241,242,243,244,249,251,252,253,254,255,256,257,260,263,267,268,269,270,271,273,289,290,291,292,293,294,295,296,297,298,299,300,301,302,303,304,305,306,307,308,309,310,311,312,313,314,315,316,317,322,324,328,329]
theorem chkE3 : QaG Tryz.prog (Qc6 Tryz.prog G22 LE3) = true:=by kernel_rfl
def LE4 : List Nat:=[330,331,332,333,334,335,336,337,338,339,340,341,342,343,344,345,346,347,348,349,350,351,352,353,354,355,356,357,358,359,360,361,362,363,364,365,371,372,373,374,375,376,377,378,379,380,381,382,384,385,388,389,390,391,412,430,431,432,433,434,436,437,438,439]
theorem chkE4 : QaG Tryz.prog (Qc6 Tryz.prog G22 LE4) = true:=by kernel_rfl
def LE5 : List Nat:=[440,442,443,444,449,450,451,452,453,454,455,456,457,458,460,461,462,463,464,465,466,467,471,472,475,476,477,478,480,481,482,483,484,485,486,487,489,490,491,492,495,496,497,498,500,502,503,504,505,506,507,530,539,547,549,550,552,553,554,557,560,561,562,563]
theorem chkE5 : QaG Tryz.prog (Qc6 Tryz.prog G22 LE5) = true:=by kernel_rfl
def LE6 : List Nat:=[565,566,567,568,569,572,575,576,577,578,579,580,581,583,584,591,592,636,637,639,641,642,648,649,650,654,661,662,692,693,694,695,696,698,699,700,719,722,731]
theorem chkE6 : QaG Tryz.prog (Qc6 Tryz.prog G22 LE6) = true:=by kernel_rfl
def LE : List Nat:=LE0 ++ LE1 ++ LE2 ++ LE3 ++ LE4 ++ LE5 ++ LE6
theorem chkE : ∀ f ∈ LE,chkF Tryz.prog Tryz.prog.info? G22 (fun f=>Tryz.prog.funcs[f]?) f = true:=by
 intro f hf
 unfold LE at hf
 simp only [List.mem_append] at hf
 rcases hf with (((((hf | hf) | hf) | hf) | hf) | hf) | hf
 ·exact Qeh chkE0 f hf
 ·exact Qeh chkE1 f hf
 ·exact Qeh chkE2 f hf
 ·exact Qeh chkE3 f hf
 ·exact Qeh chkE4 f hf
 ·exact Qeh chkE5 f hf
 ·exact Qeh chkE6 f hf
def maskE : Nat:=11320876279859036340207278989646516876366133183515327455900490227033308660317598341711141025105959206519741717604563009185482765689514085831142495734458956306449814194404560082321289918292868906843462686720701174952998528
theorem maskE_eq : maskN LE = maskE:=by kernel_rfl
def FE (I : Tab) (FS : FuncId → Option Func) : FuncId → Option AFun:=FU Tryz.prog G22 maskE I FS
theorem fE_ok : FunOk Tryz.prog G22 (FE Tryz.prog.info? fun f=>Tryz.prog.funcs[f]?):=by
 have h:=QeW (P:=Tryz.prog) (G:=G22) chkE
 rw [maskE_eq] at h
 exact h
end
end Go.Ab.L22

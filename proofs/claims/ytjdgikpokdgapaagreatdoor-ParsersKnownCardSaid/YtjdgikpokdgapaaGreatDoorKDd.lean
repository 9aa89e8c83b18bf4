/-
  A part of a proof: KDd.
-/
import Derived.Test.YtjdgikpokdgapaaGreatDoorKD0
import Derived.Test.YtjdgikpokdgapaaGreatDoorKC4
import Derived.Test.YtjdgikpokdgapaaGreatDoorKW
set_option linter.all false
namespace Go.Ab
open Go Go.Proofs
noncomputable section
def M3 : KMemo := kmIn 110 [x5, x2, x3, x0] (.int .i64 0) M2
def M4 : KMemo := kmInC 55 (fun _ => true) x1 c1 M3
def M5 : KMemo := kmAdd 9 [] (fun _ => (.bool true, [])) M4
def M6a : KMemo := kmNoZero 639 5 (kmSame 638 M5)
def M6 : KMemo := kmSorted 596 9 M6a
def M7 : KMemo := kmInC 47 (fun _ => true) x2 c4 M6
end
end Go.Ab

/-
  A part of a proof: KJzTh.
-/
import Derived.Test.YteikbgknibikmaaGreatDoorKJThtoKJrTh
import Derived.Test.YteikbgknibikmaaGreatDoorKLt22toKE9
set_option linter.all false
namespace Go.Ab.L22
open Go Go.Ab Go.Proofs Go.RowKit Go.ChangeShapes Go.WideShapes
theorem mKK : Qax KK Tryz.prog G22 M22:=QoA KK fun _ h=>h
set_option maxRecDepth 100000 in
theorem Throws_all {H : Type} {enc : TypeId × Value → H} {W : World} {base : Nat} {args : Array Value} {ds : List (DataW H)} {p : List MemPlace} (hl : laidOutB Tryz.prog = true) (hw : GlobW G22 W) (hk : KK W) (hlt : ∀ x ∈ p,x.block < W.heap.size)
  (hval : ∀ (j : Nat) t v,(#[27,25,28] : Array TypeId)[j]? = some t → args[j]? = some v → Value.okWide Tryz.prog W .any base t v)
  (hA : DataW.TrodAll enc Tryz.prog W 0 (fun _=>true) true [27,25,28] args.toList ds p) (hwt : (DataW.weightsEach Tryz.prog [27,25,28] ds).all (· ≤ reachBytes) = true) :
  Calls Tryz.prog 6 args W fun e W'=>e = .returned (.bool true) ∧ Below W.heap.size W W' ∧ DataW.TrodAll enc Tryz.prog W' 0 (fun b=>decide (b < W.heap.size)) true [27,25,28] args.toList ds p :=
 Qn4 mKK hl hw hk hlt hval hA hwt
end Go.Ab.L22

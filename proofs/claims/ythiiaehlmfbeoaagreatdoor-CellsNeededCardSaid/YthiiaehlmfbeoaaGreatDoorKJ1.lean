/-
  A part of a proof: KJ1.
-/
import Derived.Test.YthiiaehlmfbeoaaGreatDoorKaGtoKJ0
set_option linter.all false
/-! Chapter 26: the laws' calls, at arguments as a row reads them (Needed, Apart, Same). -/
namespace Go.Ab.L26
open Go Go.Ab Go.Proofs Go.RowKit Go.ChangeShapes Go.WideShapes
noncomputable section

theorem byteOf {a:Int} (h:(Lit.int .u8 a).wf=true):∃ k:Nat,a=(k:Int)∧k<256:=by
 have h1:IntKind.u8.min=0:=by decide
 have h2:IntKind.u8.max=255:=by decide
 simp only [Lit.wf,h1,h2,Bool.and_eq_true,decide_eq_true_eq] at h
 exact ⟨a.toNat,by omega,by omega⟩
end
end Go.Ab.L26

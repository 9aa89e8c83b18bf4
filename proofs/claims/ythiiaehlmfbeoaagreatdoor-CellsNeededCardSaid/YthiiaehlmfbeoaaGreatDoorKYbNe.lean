/-
  The listed variables laid into a world: the cells, the blocks, and the world that is had.
-/
import Derived.Lay
import Derived.Test.YthiiaehlmfbeoaaGreatDoorKYa
set_option linter.all false
set_option maxRecDepth 100000
namespace Go.Proofs.YthiiaehlmfbeoaaGreatDoor
open Go
theorem stp {P : Program} {n m g : Nat} {t : TypeId} {x : String × DataW Unit} {r : List (String × DataW Unit)} {y : List Value × List Obj} {z : List (Nat × List Value) × List Obj}
    (hg : P.globalNamed x.1 = some g) (hl : (P.globals[g]?).map (·.type) = some t) (hy : x.2.lay P t n = some y) (hm : n + y.2.length = m) (hz : Lay.layList P m r = some z) :
    Lay.layList P n (x :: r) = some ((g, y.1) :: z.1, y.2 ++ z.2) := by
  subst hm
  obtain ⟨gl, h1, h2⟩ := Option.map_eq_some_iff.1 hl
  subst h2
  unfold Lay.layList
  simp only [hg, h1, hy, hz]
noncomputable def yP (d : DataW Unit) (t n : Nat) : List Value × List Obj := (d.lay Tryz.prog t n).getD ([], [])
noncomputable def yS (d : DataW Unit) (n : Nat) : List Value × List Obj :=
  match d.lay Tryz.prog 829 n with
  | some x => (match Lay.pack Tryz.prog 829 x.1 with
    | some v => ([.iface 829 v], x.2)
    | none => ([], []))
  | none => ([], [])
noncomputable def y0 : List Value × List Obj := yP (Rows.laid_math_bits_deBruijn32tab : DataW Unit) 851 16
theorem e0 : (Rows.laid_math_bits_deBruijn32tab : DataW Unit).lay Tryz.prog 851 16 = some y0 := by kernel_rfl
noncomputable def y1 : List Value × List Obj := yP (Rows.laid_math_bits_deBruijn64tab : DataW Unit) 852 16
theorem e1 : (Rows.laid_math_bits_deBruijn64tab : DataW Unit).lay Tryz.prog 852 16 = some y1 := by kernel_rfl
noncomputable def y2 : List Value × List Obj := yP (Rows.laid_internal_strconv_uint64pow10 : DataW Unit) 823 16
theorem e2 : (Rows.laid_internal_strconv_uint64pow10 : DataW Unit).lay Tryz.prog 823 16 = some y2 := by kernel_rfl
noncomputable def y3 : List Value × List Obj := yS (match (Rows.laid_strconv_ErrRange : DataW Unit) with | .iface _ x => x | _ => .nil) 16
theorem e3 : (Rows.laid_strconv_ErrRange : DataW Unit).lay Tryz.prog 601 16 = some y3 := by
  unfold Rows.laid_strconv_ErrRange
  rw [DataW.lay, fnd]
  kernel_rfl
noncomputable def y4 : List Value × List Obj := yS (match (Rows.laid_strconv_ErrSyntax : DataW Unit) with | .iface _ x => x | _ => .nil) 17
theorem e4 : (Rows.laid_strconv_ErrSyntax : DataW Unit).lay Tryz.prog 601 17 = some y4 := by
  unfold Rows.laid_strconv_ErrSyntax
  rw [DataW.lay, fnd]
  kernel_rfl
noncomputable def y5 : List Value × List Obj := yP (Rows.laid_unicode_White_Space : DataW Unit) 810 18
theorem e5 : (Rows.laid_unicode_White_Space : DataW Unit).lay Tryz.prog 810 18 = some y5 := by kernel_rfl
noncomputable def y6 : List Value × List Obj := yP (Rows.laid_strings_asciiSpace : DataW Unit) 759 20
theorem e6 : (Rows.laid_strings_asciiSpace : DataW Unit).lay Tryz.prog 759 20 = some y6 := by kernel_rfl
noncomputable def y7 : List Value × List Obj := yP (Rows.laid_reprise_syntax_shapes : DataW Unit) 475 20
theorem e7 : (Rows.laid_reprise_syntax_shapes : DataW Unit).lay Tryz.prog 475 20 = some y7 := by kernel_rfl
noncomputable def y8 : List Value × List Obj := yP (Rows.laid_reprise_linear_calm : DataW Unit) 813 20
theorem e8 : (Rows.laid_reprise_linear_calm : DataW Unit).lay Tryz.prog 813 20 = some y8 := by kernel_rfl
noncomputable def z9 : List (Nat × List Value) × List Obj := ([], [])
noncomputable def z8 : List (Nat × List Value) × List Obj := ((5, y8.1) :: z9.1, y8.2 ++ z9.2)
noncomputable def z7 : List (Nat × List Value) × List Obj := ((0, y7.1) :: z8.1, y7.2 ++ z8.2)
noncomputable def z6 : List (Nat × List Value) × List Obj := ((1, y6.1) :: z7.1, y6.2 ++ z7.2)
noncomputable def z5 : List (Nat × List Value) × List Obj := ((4, y5.1) :: z6.1, y5.2 ++ z6.2)
noncomputable def z4 : List (Nat × List Value) × List Obj := ((2, y4.1) :: z5.1, y4.2 ++ z5.2)
noncomputable def z3 : List (Nat × List Value) × List Obj := ((3, y3.1) :: z4.1, y3.2 ++ z4.2)
noncomputable def z2 : List (Nat × List Value) × List Obj := ((6, y2.1) :: z3.1, y2.2 ++ z3.2)
noncomputable def z1 : List (Nat × List Value) × List Obj := ((9, y1.1) :: z2.1, y1.2 ++ z2.2)
noncomputable def z0 : List (Nat × List Value) × List Obj := ((8, y0.1) :: z1.1, y0.2 ++ z1.2)
theorem laidL : Lay.layList Tryz.prog 16 Rows.cellsNeededRow.laid = some z0 :=
  stp (g := 8) (t := 851) (m := 16) (y := y0) (z := z1) (by kernel_rfl) (by kernel_rfl) e0 (by kernel_rfl) (
  stp (g := 9) (t := 852) (m := 16) (y := y1) (z := z2) (by kernel_rfl) (by kernel_rfl) e1 (by kernel_rfl) (
  stp (g := 6) (t := 823) (m := 16) (y := y2) (z := z3) (by kernel_rfl) (by kernel_rfl) e2 (by kernel_rfl) (
  stp (g := 3) (t := 601) (m := 17) (y := y3) (z := z4) (by kernel_rfl) (by kernel_rfl) e3 (by kernel_rfl) (
  stp (g := 2) (t := 601) (m := 18) (y := y4) (z := z5) (by kernel_rfl) (by kernel_rfl) e4 (by kernel_rfl) (
  stp (g := 4) (t := 810) (m := 20) (y := y5) (z := z6) (by kernel_rfl) (by kernel_rfl) e5 (by kernel_rfl) (
  stp (g := 1) (t := 759) (m := 20) (y := y6) (z := z7) (by kernel_rfl) (by kernel_rfl) e6 (by kernel_rfl) (
  stp (g := 0) (t := 475) (m := 20) (y := y7) (z := z8) (by kernel_rfl) (by kernel_rfl) e7 (by kernel_rfl) (
  stp (g := 5) (t := 813) (m := 20) (y := y8) (z := z9) (by kernel_rfl) (by kernel_rfl) e8 (by kernel_rfl) (
  rfl)))))))))
end Go.Proofs.YthiiaehlmfbeoaaGreatDoor

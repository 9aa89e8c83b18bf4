/- A part of a proof. -/
import Derived.Test.YthiiaehlmfbeoaaGreatDoorKaItoEC26
set_option linter.all false
set_option maxHeartbeats 4000000
namespace Go.Ab.L26
open Go Go.Ab Go.Proofs
noncomputable section
theorem run4:∀z,Ez M3 383 x4 z=z:=by intro z;kernel_rfl
theorem run6:∀z,Ez M3 383 x6 z=z:=by intro z;kernel_rfl
theorem run7:∀z,Ez M3 383 x7 z=z:=by intro z;kernel_rfl
theorem run8:∀z,Ez M3 383 x8 z=z:=by intro z;kernel_rfl
theorem run9:∀z,Ez M3 383 x9 z=z:=by intro z;kernel_rfl
theorem run10:∀z,Ez M3 383 x10 z=z:=by intro z;kernel_rfl
theorem run11:∀z,Ez M3 383 x11 z=z:=by intro z;kernel_rfl
theorem run12:∀z,Ez M3 383 x12 z=z:=by intro z;kernel_rfl
theorem run13:∀z,Ez M3 383 x13 z=z:=by intro z;kernel_rfl
theorem run14:∀z,Ez M3 383 x14 z=z:=by intro z;kernel_rfl
theorem run15:∀z,Ez M3 383 x15 z=z:=by intro z;kernel_rfl
theorem run16:∀z,Ez M3 383 x16 z=z:=by intro z;kernel_rfl
theorem run17:∀z,Ez M3 383 x17 z=z:=by intro z;kernel_rfl
theorem run18:∀z,Ez M3 383 x18 z=z:=by intro z;kernel_rfl
theorem run19:∀z,Ez M3 383 x19 z=z:=by intro z;kernel_rfl
theorem run20:∀z,Ez M3 383 x20 z=z:=by intro z;kernel_rfl
theorem run21:∀z,Ez M3 383 x21 z=z:=by intro z;kernel_rfl
theorem run22:∀z,Ez M3 383 x22 z=z:=by intro z;kernel_rfl
theorem run23:∀z,Ez M3 383 x23 z=z:=by intro z;kernel_rfl
theorem run24:∀z,Ez M3 383 x24 z=z:=by intro z;kernel_rfl
theorem run25:∀z,Ez M3 383 x25 z=z:=by intro z;kernel_rfl
theorem run26:∀z,Ez M3 383 x26 z=z:=by intro z;kernel_rfl
theorem run27:∀z,Ez M3 383 x27 z=z:=by intro z;kernel_rfl
theorem run28:∀z,Ez M3 383 x28 z=z:=by intro z;kernel_rfl
theorem run29:∀z,Ez M3 383 x29 z=z:=by intro z;kernel_rfl
theorem run30:∀z,Ez M3 383 x30 z=z:=by intro z;kernel_rfl
theorem run31:∀z,Ez M3 383 x31 z=z:=by intro z;kernel_rfl
theorem run32:∀z,Ez M3 383 x32 z=z:=by intro z;kernel_rfl
theorem run33:∀z,Ez M3 383 x33 z=z:=by intro z;kernel_rfl
theorem run34:∀z,Ez M3 383 x34 z=z:=by intro z;kernel_rfl
theorem run35:∀z,Ez M3 383 x35 z=z:=by intro z;kernel_rfl
theorem run36:∀z,Ez M3 383 x36 z=z:=by intro z;kernel_rfl
theorem run37:∀z,Ez M3 383 x37 z=z:=by intro z;kernel_rfl
theorem run38:∀z,Ez M3 383 x38 z=z:=by intro z;kernel_rfl
end
end Go.Ab.L26

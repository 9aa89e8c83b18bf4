/-
  A part of a proof: KJzNe.
-/
import Derived.Test.YthiiaehlmfbeoaaGreatDoorCFNetoKJNe
import Derived.Test.YthiiaehlmfbeoaaGreatDoorKLt26toKZ26
set_option linter.all false
namespace Go.Ab.L26
end Go.Ab.L26

/-
  A part of a proof: KJzAp.
-/
import Derived.Test.YthiiaehlmfbeoaaGreatDoorCFAptoKJAp
import Derived.Test.YthiiaehlmfbeoaaGreatDoorKLt26toKZ26
set_option linter.all false
namespace Go.Ab.L26
end Go.Ab.L26

/-
  A part of a proof: KJzFr.
-/
import Derived.Test.YthiiaehlmfbeoaaGreatDoorCFFrtoKJFr
import Derived.Test.YthiiaehlmfbeoaaGreatDoorKLt26toKZ26
set_option linter.all false
namespace Go.Ab.L26
end Go.Ab.L26

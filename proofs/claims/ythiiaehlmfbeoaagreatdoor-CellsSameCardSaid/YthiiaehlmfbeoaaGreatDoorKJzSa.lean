/-
  A part of a proof: KJzSa.
-/
import Derived.Test.YthiiaehlmfbeoaaGreatDoorCFSatoKJSa
import Derived.Test.YthiiaehlmfbeoaaGreatDoorKLt26toKZ26
set_option linter.all false
namespace Go.Ab.L26
end Go.Ab.L26

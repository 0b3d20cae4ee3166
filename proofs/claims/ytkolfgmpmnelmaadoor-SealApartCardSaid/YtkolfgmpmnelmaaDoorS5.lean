/-
  Walks: keep.streamed.
-/
import Derived.Test.YtkolfgmpmnelmaaDoorS4
import Derived.Test.YtkolfgmpmnelmaaDoorS3
import Derived.Test.YtkolfgmpmnelmaaDoorP5
namespace Go.Proofs.YtkolfgmpmnelmaaDoor
open Go Vx Go.Proofs
set_option linter.unusedVariables false
set_option maxHeartbeats 400000
set_option maxRecDepth 4000

end Go.Proofs.YtkolfgmpmnelmaaDoor

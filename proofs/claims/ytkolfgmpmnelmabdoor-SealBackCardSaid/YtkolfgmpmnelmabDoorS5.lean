/-
  Walks: keep.streamed.
-/
import Derived.Test.YtkolfgmpmnelmabDoorS4
import Derived.Test.YtkolfgmpmnelmabDoorS3
import Derived.Test.YtkolfgmpmnelmabDoorP5
namespace Go.Proofs.YtkolfgmpmnelmabDoor
open Go Vx Go.Proofs
set_option linter.unusedVariables false
set_option maxHeartbeats 400000
set_option maxRecDepth 4000

end Go.Proofs.YtkolfgmpmnelmabDoor

/-
  Walks: sum.Hex, keep.began, keep.less.
-/
import Derived.Test.YtkolfgmpmnelmabDoorS1
import Derived.Test.YtkolfgmpmnelmabDoorP2
namespace Go.Proofs.YtkolfgmpmnelmabDoor
open Go Vx Go.Proofs
set_option linter.unusedVariables false
set_option maxHeartbeats 400000
set_option maxRecDepth 4000

end Go.Proofs.YtkolfgmpmnelmabDoor

/-
  Walks: keep.SealApart.
-/
import Derived.Test.YtkolfgmpmnelmabDoorG2
namespace Go.Proofs.YtkolfgmpmnelmabDoor
open Go Vx Go.Proofs
set_option linter.unusedVariables false
set_option maxRecDepth 4000
set_option maxHeartbeats 400000

def okSeal (key : List UInt8) (cell : Int) (text : List UInt8) : Prop := (key.length = 32 ∧ 0 ≤ cell ∧ cell < 24) ∧ text.length ≤ 80
theorem seal_bad (key text : List UInt8) (cell : Int) (h : ¬ okSeal key cell text) (w : World) :
    C Tryd.prog 21 ⟨[str key, iv cell, str text]⟩ w fun v w' => (∃ k, v = .tuple #[str [], .iface 35 (iv k)]) ∧ St w [] w' := by
  by_cases h1 : key.length = 32 ∧ 0 ≤ cell ∧ cell < 24
  · exact (seal_err4 key text cell h1.1 h1.2.1 h1.2.2 (by unfold okSeal at h; omega) w).mono fun v w' h => ⟨⟨4, h.1⟩, h.2⟩
  · exact (seal_err1 key text cell h1 w).mono fun v w' h => ⟨⟨1, h.1⟩, h.2⟩
end Go.Proofs.YtkolfgmpmnelmabDoor

/-
  Walks: keep.StreamTwice, and its plain law.
-/
import Derived.Test.YtkolfgmpmnelmabDoorT1
namespace Go.Proofs.YtkolfgmpmnelmabDoor
open Go Vx Go.Proofs
set_option linter.unusedVariables false
set_option maxHeartbeats 400000
set_option maxRecDepth 4000

theorem xorOf_len (k n s : List UInt8) : (xorOf k n s).length = s.length := xorN_len _ _ _
theorem xorOf_getD (k n s : List UInt8) (j : Nat) (h : j < s.length) : (xorOf k n s).getD j 0 = s.getD j 0 ^^^ ks k n j := by
  rw [xorOf, xorN_getD _ _ _ _ h, if_pos h]
theorem list_ext {a b : List UInt8} (hl : a.length = b.length) (h : ∀ j, j < a.length → a.getD j 0 = b.getD j 0) : a = b := by
  apply List.ext_getElem hl
  intro j h1 h2
  have := h j h1
  rw [List.getD_eq_getElem?_getD, List.getD_eq_getElem?_getD, List.getElem?_eq_getElem h1, List.getElem?_eq_getElem h2] at this
  exact this
theorem xor_cancel (a b : UInt8) : a ^^^ b ^^^ b = a := by rw [UInt8.xor_assoc, UInt8.xor_self, UInt8.xor_zero]
theorem xor_xor (k n s : List UInt8) : xorOf k n (xorOf k n s) = s := by
  apply list_ext (by rw [xorOf_len, xorOf_len])
  intro j h
  rw [xorOf_len, xorOf_len] at h
  rw [xorOf_getD _ _ _ _ (by rw [xorOf_len]; exact h), xorOf_getD _ _ _ _ h, xor_cancel]
theorem getD_take (s : List UInt8) (c j : Nat) (h : j < c) : (s.take c).getD j 0 = s.getD j 0 := by
  rw [List.getD_eq_getElem?_getD, List.getD_eq_getElem?_getD, List.getElem?_take_of_lt h]
theorem xor_take (k n s : List UInt8) (c : Nat) : xorOf k n (s.take c) = (xorOf k n s).take c := by
  apply list_ext (by rw [xorOf_len, List.length_take, List.length_take, xorOf_len])
  intro j h
  rw [xorOf_len, List.length_take] at h
  rw [xorOf_getD _ _ _ _ (by rw [List.length_take]; exact h), getD_take _ _ _ (by omega), getD_take _ _ _ (by omega), xorOf_getD _ _ _ _ (by omega)]
theorem xor_pair (k n s t : List UInt8) (j : Nat) (h1 : j < s.length) (h2 : j < t.length) : (xorOf k n s).getD j 0 ^^^ (xorOf k n t).getD j 0 = s.getD j 0 ^^^ t.getD j 0 := by
  rw [xorOf_getD _ _ _ _ h1, xorOf_getD _ _ _ _ h2]
  have h : ∀ a b c : UInt8, (a ^^^ c) ^^^ (b ^^^ c) = a ^^^ b := fun a b c => by
    rw [UInt8.xor_assoc, UInt8.xor_comm b c, ← UInt8.xor_assoc c c b, UInt8.xor_self, UInt8.zero_xor]
  exact h _ _ _

end Go.Proofs.YtkolfgmpmnelmabDoor

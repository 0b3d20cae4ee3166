/-
  Plain law: a block that is known. No program in sight.
-/
import Derived.Test.YtkolfgmpmnelmabDoorP4
namespace Go.Proofs.YtkolfgmpmnelmabDoor
open Go Vx
def keyN : Nat → List UInt8
  | 0 => []
  | k + 1 => keyN k ++ [u8of k]
theorem keyN_len (k : Nat) : (keyN k).length = k := by
  induction k with
  | zero => rfl
  | succ k ih => simp [keyN, ih]
def nonceK : List UInt8 := [0, 0, 0, 9, 0, 0, 0, 74, 0, 0, 0, 0]
theorem block_len (key : List UInt8) (n : Int) (nonce : List UInt8) : (blockOf key n nonce).length = 64 := outW_len _ _ 16
theorem known_head : hexOf ((blockOf (keyN 32) 1 nonceK).take 16) = [49, 48, 102, 49, 101, 55, 101, 52, 100, 49, 51, 98, 53, 57, 49, 53, 53, 48, 48, 102, 100, 100, 49, 102, 97, 51, 50, 48, 55, 49, 99, 52] := by decide +kernel
theorem known_tail : hexOf ((blockOf (keyN 32) 1 nonceK).drop 60) = [97, 50, 53, 48, 51, 99, 52, 101] := by decide +kernel
end Go.Proofs.YtkolfgmpmnelmabDoor

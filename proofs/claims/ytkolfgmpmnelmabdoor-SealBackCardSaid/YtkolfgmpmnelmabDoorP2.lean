/-
  Plain words: hexadecimal digits, words taken one from another. No program in sight.
-/
import Derived.Test.YtkolfgmpmnelmabDoorP1
namespace Go.Proofs.YtkolfgmpmnelmabDoor
open Go Vx

def hexDigits : List UInt8 := [48, 49, 50, 51, 52, 53, 54, 55, 56, 57, 97, 98, 99, 100, 101, 102]
def hex2 (c : UInt8) : List UInt8 := [hexDigits.getD (c >>> 4).toNat 0, hexDigits.getD (c &&& 15).toNat 0]
def hexOf (l : List UInt8) : List UInt8 := l.flatMap hex2
theorem hexOf_len (l : List UInt8) : (hexOf l).length = 2 * l.length := by
  induction l with
  | nil => rfl
  | cons c l ih => simp only [hexOf, List.flatMap_cons, List.length_append, List.length_cons] at *; simp [hex2] at *; omega
theorem take_succ' {l : List UInt8} {i : Nat} (h : i < l.length) : l.take (i + 1) = l.take i ++ [l.getD i 0] := by
  rw [List.take_succ_eq_append_getElem h]; simp [h]
theorem hexOf_succ {l : List UInt8} {i : Nat} (h : i < l.length) : hexOf (l.take (i + 1)) = hexOf (l.take i) ++ hex2 (l.getD i 0) := by
  rw [take_succ' h]; simp [hexOf]
theorem shr4_lt (c : UInt8) : (c >>> UInt8.ofNat 4).toNat < 16 := by
  rw [UInt8.toNat_shiftRight]; have := c.toNat_lt; simp [Nat.shiftRight_eq_div_pow]; omega
theorem and15_lt (c : UInt8) : (c &&& 15).toNat < 16 := by
  rw [UInt8.toNat_and]; exact Nat.lt_of_le_of_lt Nat.and_le_right (by decide)
/-- A word of four bytes, from i on, one less another. -/
def lessWord (s t : List UInt8) (i : Nat) : Nat → UInt32
  | 0 => 0
  | k + 1 => lessWord s t i k <<< 8 + (s.getD (i + (3 - k)) 0).toUInt32 - (t.getD (i + (3 - k)) 0).toUInt32
def lessOf (s t : List UInt8) : Nat → List UInt8
  | 0 => []
  | k + 1 => lessOf s t k ++ le4 (lessWord s t (4 * k) 4)
theorem lessOf_len (s t : List UInt8) (k : Nat) : (lessOf s t k).length = 4 * k := by
  induction k with
  | zero => rfl
  | succ k ih => simp [lessOf, le4, ih]; omega
def expand : List UInt8 := [101, 120, 112, 97, 110, 100, 32, 51, 50, 45, 98, 121, 116, 101, 32, 107]
def num4 (n : Int) : List UInt8 := [u8of n, u8of (n / 2 ^ 8), u8of (n / 2 ^ 16), u8of (n / 2 ^ 24)]
def beganOf (key : List UInt8) (n : Int) (nonce : List UInt8) : List UInt8 := expand ++ key ++ num4 n ++ nonce
end Go.Proofs.YtkolfgmpmnelmabDoor

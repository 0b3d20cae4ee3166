/-
  Plain words: a text's sum, on lists of numbers. No program in sight.
-/
import Derived.Test.YtkolfgmpmnelmabDoorP1
namespace Go.Proofs.YtkolfgmpmnelmabDoor
open Go Vx
set_option linter.unusedVariables false

def kT : List UInt32 := [1116352408, 1899447441, 3049323471, 3921009573, 961987163, 1508970993, 2453635748, 2870763221, 3624381080, 310598401, 607225278, 1426881987, 1925078388, 2162078206, 2614888103, 3248222580, 3835390401, 4022224774, 264347078, 604807628, 770255983, 1249150122, 1555081692, 1996064986, 2554220882, 2821834349, 2952996808, 3210313671, 3336571891, 3584528711, 113926993, 338241895, 666307205, 773529912, 1294757372, 1396182291, 1695183700, 1986661051, 2177026350, 2456956037, 2730485921, 2820302411, 3259730800, 3345764771, 3516065817, 3600352804, 4094571909, 275423344, 430227734, 506948616, 659060556, 883997877, 958139571, 1322822218, 1537002063, 1747873779, 1955562222, 2024104815, 2227730452, 2361852424, 2428436474, 2756734187, 3204031479, 3329325298]
def h0T : List UInt32 := [1779033703, 3144134277, 1013904242, 2773480762, 1359893119, 2600822924, 528734635, 1541459225]
def rotr (x : UInt32) (n : Nat) : UInt32 := x >>> UInt32.ofNat n ||| x <<< UInt32.ofNat (32 - n)
/-- A word of four bytes, the greatest first. -/
def be (s : List UInt8) (i : Nat) : UInt32 := (s.getD (4 * i) 0).toUInt32 <<< UInt32.ofNat 24 ||| (s.getD (4 * i + 1) 0).toUInt32 <<< UInt32.ofNat 16 ||| (s.getD (4 * i + 2) 0).toUInt32 <<< UInt32.ofNat 8 ||| (s.getD (4 * i + 3) 0).toUInt32
def fillB (s : List UInt8) : Nat → List UInt32
  | 0 => List.replicate 64 0
  | k + 1 => (fillB s k).set k (be s k)
theorem fillB_len (s : List UInt8) : ∀ k, (fillB s k).length = 64
  | 0 => rfl
  | k + 1 => by rw [fillB, List.length_set, fillB_len s k]
def sg0 (x : UInt32) : UInt32 := rotr x 7 ^^^ rotr x 18 ^^^ x >>> UInt32.ofNat 3
def sg1 (x : UInt32) : UInt32 := rotr x 17 ^^^ rotr x 19 ^^^ x >>> UInt32.ofNat 10
def extB (W : List UInt32) : Nat → List UInt32
  | 0 => W
  | k + 1 => (extB W k).set (16 + k) ((extB W k).getD k 0 + sg0 ((extB W k).getD (k + 1) 0) + (extB W k).getD (k + 9) 0 + sg1 ((extB W k).getD (k + 14) 0))
theorem extB_len (W : List UInt32) : ∀ k, (extB W k).length = W.length
  | 0 => rfl
  | k + 1 => by rw [extB, List.length_set, extB_len W k]
def bg1 (x : UInt32) : UInt32 := rotr x 6 ^^^ rotr x 11 ^^^ rotr x 25
def bg0 (x : UInt32) : UInt32 := rotr x 2 ^^^ rotr x 13 ^^^ rotr x 22
def oneB (v : List UInt32) (k w : UInt32) : UInt32 := v.getD 7 0 + bg1 (v.getD 4 0) + ((v.getD 4 0 &&& v.getD 5 0) ^^^ (~~~(v.getD 4 0) &&& v.getD 6 0)) + k + w
def twoB (v : List UInt32) : UInt32 := bg0 (v.getD 0 0) + ((v.getD 0 0 &&& v.getD 1 0) ^^^ (v.getD 0 0 &&& v.getD 2 0) ^^^ (v.getD 1 0 &&& v.getD 2 0))
def rndB (v : List UInt32) (k w : UInt32) : List UInt32 := [oneB v k w + twoB v, v.getD 0 0, v.getD 1 0, v.getD 2 0, v.getD 3 0 + oneB v k w, v.getD 4 0, v.getD 5 0, v.getD 6 0]
def rnds (h W : List UInt32) : Nat → List UInt32
  | 0 => h
  | i + 1 => rndB (rnds h W i) (kT.getD i 0) (W.getD i 0)
theorem rnds_len (h W : List UInt32) (hl : h.length = 8) : ∀ i, (rnds h W i).length = 8
  | 0 => hl
  | i + 1 => rfl
def addB (h v : List UInt32) : Nat → List UInt32
  | 0 => h
  | i + 1 => (addB h v i).set i ((addB h v i).getD i 0 + v.getD i 0)
theorem addB_len (h v : List UInt32) : ∀ i, (addB h v i).length = h.length
  | 0 => rfl
  | i + 1 => by rw [addB, List.length_set, addB_len h v i]
/-- 64 bytes, taken in. -/
def shaB (h : List UInt32) (s : List UInt8) : List UInt32 := addB h (rnds h (extB (fillB s 16) 48) 64) 8
theorem shaB_len (h : List UInt32) (s : List UInt8) : (shaB h s).length = h.length := addB_len _ _ _
def be4 (x : UInt32) : List UInt8 := [(x >>> UInt32.ofNat 24).toUInt8, (x >>> UInt32.ofNat 16).toUInt8, (x >>> UInt32.ofNat 8).toUInt8, x.toUInt8]
def outB (h : List UInt32) : Nat → List UInt8
  | 0 => []
  | k + 1 => outB h k ++ be4 (h.getD k 0)
theorem outB_len (h : List UInt32) : ∀ k, (outB h k).length = 4 * k
  | 0 => rfl
  | k + 1 => by rw [outB, List.length_append, outB_len h k]; simp [be4]; omega
def num8 (q : UInt64) : Nat → List UInt8
  | 0 => []
  | k + 1 => num8 q k ++ [(q >>> UInt64.ofNat (8 * (7 - k))).toUInt8]
theorem num8_len (q : UInt64) : ∀ k, (num8 q k).length = k
  | 0 => rfl
  | k + 1 => by rw [num8, List.length_append, num8_len q k]; rfl
def padZ (n : Nat) : Nat := (119 - n % 64) % 64
def padOf (s : List UInt8) : List UInt8 := s ++ [128] ++ List.replicate (padZ s.length) 0 ++ num8 (u64of s.length * 8) 8
theorem padOf_len (s : List UInt8) : (padOf s).length = s.length + 9 + padZ s.length := by
  simp [padOf, num8_len]; omega
theorem padOf_mod (s : List UInt8) : (padOf s).length = 64 * ((padOf s).length / 64) := by
  rw [padOf_len]; unfold padZ; omega
def blkB (p : List UInt8) : Nat → List UInt32
  | 0 => h0T
  | k + 1 => shaB (blkB p k) ((p.drop (64 * k)).take 64)
theorem blkB_len (p : List UInt8) : ∀ k, (blkB p k).length = 8
  | 0 => rfl
  | k + 1 => by rw [blkB, shaB_len, blkB_len p k]
/-- A text's sum. -/
def shaOf (s : List UInt8) : List UInt8 := outB (blkB (padOf s) ((padOf s).length / 64)) 8
theorem shaOf_len (s : List UInt8) : (shaOf s).length = 32 := outB_len _ _
end Go.Proofs.YtkolfgmpmnelmabDoor

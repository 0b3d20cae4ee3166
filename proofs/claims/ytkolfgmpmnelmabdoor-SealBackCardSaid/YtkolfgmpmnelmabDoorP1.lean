/-
  Plain words: the rounds of a block, on lists of numbers. No program in sight.
-/
import Derived.Test.YtkolfgmpmnelmabDoorVf
namespace Go.Proofs.YtkolfgmpmnelmabDoor
open Go Vx

/-- Numbers of 32 bits, in cells. -/
@[reducible] def us (cs : List UInt32) : Array Value := ⟨cs.map uv⟩
theorem us_size (cs : List UInt32) : (us cs).size = cs.length := by simp [us]
theorem us_get {cs : List UInt32} {i : Nat} (h : i < cs.length) : (us cs)[0 + (i : Int).toNat * 1]? = some (uv (cs.getD i 0)) := by
  simp [us, h]
theorem us_set (cs : List UInt32) (i : Nat) (x : UInt32) : (us cs).setIfInBounds (0 + (i : Int).toNat * 1) (uv x) = us (cs.set i x) := by
  simp [us, List.map_set]

@[reducible] def bs (l : List UInt8) : List Value := l.map bv
def rot (x : UInt32) (n : Nat) : UInt32 := x <<< UInt32.ofNat n ||| x >>> UInt32.ofNat (32 - n)
def addAt (s : List UInt32) (a b : Nat) : List UInt32 := s.set a (s.getD a 0 + s.getD b 0)
def rotAt (s : List UInt32) (d a n : Nat) : List UInt32 := s.set d (rot (s.getD d 0 ^^^ s.getD a 0) n)
def qr (s : List UInt32) (a b c d : Nat) : List UInt32 :=
  rotAt (addAt (rotAt (addAt (rotAt (addAt (rotAt (addAt s a b) d a 16) c d) b c 12) a b) d a 8) c d) b c 7
theorem addAt_len (s : List UInt32) (a b : Nat) : (addAt s a b).length = s.length := by simp [addAt]
theorem rotAt_len (s : List UInt32) (a b n : Nat) : (rotAt s a b n).length = s.length := by simp [rotAt]
theorem qr_len (s : List UInt32) (a b c d : Nat) : (qr s a b c d).length = s.length := by simp [qr, addAt_len, rotAt_len]
/-- A word of four bytes. -/
def wd (l : List UInt8) : UInt32 := (l.getD 0 0).toUInt32 ||| (l.getD 1 0).toUInt32 <<< 8 ||| (l.getD 2 0).toUInt32 <<< 16 ||| (l.getD 3 0).toUInt32 <<< 24
def fillW (l : List UInt8) (base : Nat) (s : List UInt32) : Nat → List UInt32
  | 0 => s
  | k + 1 => (fillW l base s k).set (base + k) (wd (l.drop (4 * k)))
theorem fillW_len (l : List UInt8) (base : Nat) (s : List UInt32) (k : Nat) : (fillW l base s k).length = s.length := by
  induction k with
  | zero => rfl
  | succ k ih => simp [fillW, ih]
def consts : List UInt32 := [1634760805, 857760878, 2036477234, 1797285236, 0, 0, 0, 0, 0, 0, 0, 0, 0, 0, 0, 0]
def initW (key : List UInt8) (n : Int) (nonce : List UInt8) : List UInt32 := fillW nonce 13 ((fillW key 4 consts 8).set 12 (u32of n)) 3
theorem initW_len (key : List UInt8) (n : Int) (nonce : List UInt8) : (initW key n nonce).length = 16 := by simp [initW, fillW_len, consts]
def iter (f : List UInt32 → Nat → List UInt32) (s : List UInt32) : Nat → List UInt32
  | 0 => s
  | k + 1 => f (iter f s k) k
theorem iter_len (f : List UInt32 → Nat → List UInt32) (hf : ∀ s k, (f s k).length = s.length) (s : List UInt32) (k : Nat) : (iter f s k).length = s.length := by
  induction k with
  | zero => rfl
  | succ k ih => simp [iter, hf, ih]
def colR (s : List UInt32) (i : Nat) : List UInt32 := qr s i (4 + i) (8 + i) (12 + i)
def diaR (s : List UInt32) (i : Nat) : List UInt32 := qr s i (4 + (i + 1) % 4) (8 + (i + 2) % 4) (12 + (i + 3) % 4)
theorem colR_len (s : List UInt32) (i : Nat) : (colR s i).length = s.length := qr_len _ _ _ _ _
theorem diaR_len (s : List UInt32) (i : Nat) : (diaR s i).length = s.length := qr_len _ _ _ _ _
def dbl (s : List UInt32) (_ : Nat) : List UInt32 := iter diaR (iter colR s 4) 4
theorem iter_succ (f : List UInt32 → Nat → List UInt32) (s : List UInt32) (r : Nat) : iter f s (r + 1) = f (iter f s r) r := rfl
theorem dbl_def (s : List UInt32) (r : Nat) : dbl s r = iter diaR (iter colR s 4) 4 := by unfold dbl; rfl
theorem dbl_succ (s : List UInt32) (r : Nat) : iter diaR (iter colR (iter dbl s r) 4) 4 = iter dbl s (r + 1) := by
  rw [iter_succ dbl, dbl_def]
theorem dbl_len (s : List UInt32) (i : Nat) : (dbl s i).length = s.length := by simp [dbl, iter_len _ diaR_len, iter_len _ colR_len]
def rounds (s : List UInt32) : List UInt32 := iter dbl s 10
theorem rounds_len (s : List UInt32) : (rounds s).length = s.length := iter_len _ dbl_len _ _
/-- Four bytes of a number, the least first. -/
def le4 (x : UInt32) : List UInt8 := [x.toUInt8, (x >>> 8).toUInt8, (x >>> 16).toUInt8, (x >>> 24).toUInt8]
/-- The sums of two lists' words, as bytes. -/
def outW (t s : List UInt32) : Nat → List UInt8
  | 0 => []
  | k + 1 => outW t s k ++ le4 (t.getD k 0 + s.getD k 0)
theorem outW_len (t s : List UInt32) (k : Nat) : (outW t s k).length = 4 * k := by
  induction k with
  | zero => rfl
  | succ k ih => simp [outW, le4, ih]; omega
def blockOf (key : List UInt8) (n : Int) (nonce : List UInt8) : List UInt8 := outW (rounds (initW key n nonce)) (initW key n nonce) 16
theorem us_copy {cs : List UInt32} {c : Array Value} (h : cs.length = 16) (hc : c.size = 16) : (⟨c.toList.take 0 ++ ((us cs).toList.drop 0).take 16 ++ c.toList.drop (0 + (((us cs).toList.drop 0).take 16).length)⟩ : Array Value) = us cs := by
  apply Array.ext'
  have h1 : ((us cs).toList.drop 0).take 16 = cs.map uv := by
    rw [show (us cs).toList = cs.map uv from rfl, List.drop_zero, List.take_of_length_le (by simp [h])]
  rw [h1]
  have h2 : c.toList.drop (0 + (cs.map uv).length) = [] := by simp [h, hc]
  rw [h2]; simp [us]
theorem us_one (cs : List UInt32) : ∀ v ∈ ((us cs).toList.drop 0).take 16, v.oneCell' = true := by
  intro v hv
  have := List.mem_of_mem_take hv
  simp only [us, List.drop_zero, List.mem_map] at this
  obtain ⟨a, _, rfl⟩ := this
  rfl
theorem us_agg {cs : List UInt32} {i : Nat} (h : cs.length = 16) (hi : i < 16) : (((us cs).toList.drop 0).take 16)[(i : Int).toNat * 1]? = some (uv (cs.getD i 0)) := by
  have h1 : ((us cs).toList.drop 0).take 16 = cs.map uv := by
    rw [show (us cs).toList = cs.map uv from rfl, List.drop_zero, List.take_of_length_le (by simp [h])]
  rw [h1]
  simp [h, hi]
end Go.Proofs.YtkolfgmpmnelmabDoor

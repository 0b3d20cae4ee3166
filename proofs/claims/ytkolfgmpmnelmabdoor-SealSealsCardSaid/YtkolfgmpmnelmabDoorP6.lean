/-
  Plain law: the document's block, as its reference reckons it, is the program's. No program in sight.
-/
import Derived.Test.YtkolfgmpmnelmabDoorP4
namespace Go.Proofs.YtkolfgmpmnelmabDoor
open Go Vx

/-- A word of four bytes, from i on, the greatest first taken. -/
def rword (s : List UInt8) (i : Nat) : Nat → UInt32
  | 0 => 0
  | k + 1 => rword s i k * 256 + (s.getD (i + (3 - k)) 0).toUInt32
theorem wd_drop (s : List UInt8) (i : Nat) : (wd (s.drop i)).toNat = (s.getD i 0).toNat + (s.getD (i + 1) 0).toNat * 256 + (s.getD (i + 2) 0).toNat * 65536 + (s.getD (i + 3) 0).toNat * 16777216 := by
  rw [wd_toNat]; simp
theorem rword_wd (s : List UInt8) (i : Nat) : rword s i 4 = wd (s.drop i) := by
  apply UInt32.toNat_inj.1
  rw [wd_drop]
  have h0 := (s.getD i 0).toNat_lt; have h1 := (s.getD (i + 1) 0).toNat_lt; have h2 := (s.getD (i + 2) 0).toNat_lt; have h3 := (s.getD (i + 3) 0).toNat_lt
  simp only [rword, UInt32.toNat_add, UInt32.toNat_mul, UInt8.toNat_toUInt32, Nat.sub_self, Nat.add_zero, Nat.sub_zero, show 3 - 1 = 2 from rfl, show 3 - 2 = 1 from rfl]
  have e : (256 : UInt32).toNat = 256 := rfl
  have z : (0 : UInt32).toNat = 0 := rfl
  rw [e, z]
  omega
def wordsOf (s : List UInt8) : Nat → List UInt32
  | 0 => []
  | k + 1 => wordsOf s k ++ [wd (s.drop (4 * k))]
theorem wordsOf_len (s : List UInt8) : ∀ k, (wordsOf s k).length = k
  | 0 => rfl
  | k + 1 => by rw [wordsOf, List.length_append, wordsOf_len s k]; rfl
theorem wordsOf_get (s : List UInt8) : ∀ (k i : Nat), i < k → (wordsOf s k).getD i 0 = wd (s.drop (4 * i))
  | 0, _, h => absurd h (Nat.not_lt_zero _)
  | k + 1, i, h => by
    have hl := wordsOf_len s k
    rw [wordsOf, List.getD_eq_getElem?_getD, List.getElem?_append]
    by_cases hk : i < k
    · rw [if_pos (by omega), ← List.getD_eq_getElem?_getD, wordsOf_get s k i hk]
    · have : i = k := by omega
      subst this
      rw [if_neg (by omega), hl]; simp
def startW (key : List UInt8) (n : Int) (nonce : List UInt8) : List UInt32 := wordsOf (expand ++ key) 12 ++ [u32of n] ++ wordsOf nonce 3
theorem fillW_at (l : List UInt8) (base : Nat) (s : List UInt32) : ∀ (k i : Nat), base + k ≤ s.length → (fillW l base s k).getD i 0 = if base ≤ i ∧ i < base + k then wd (l.drop (4 * (i - base))) else s.getD i 0
  | 0, i, _ => by rw [if_neg (by omega)]; rfl
  | k + 1, i, h => by
    have ih := fillW_at l base s k i (by omega)
    have hl := fillW_len l base s k
    rw [List.getD_eq_getElem?_getD] at ih ⊢
    rw [fillW, List.getElem?_set]
    by_cases hi : base + k = i
    · subst hi
      rw [if_pos rfl, if_pos (by omega), if_pos (by omega)]; simp
    · rw [if_neg hi, ih]
      by_cases h1 : base ≤ i ∧ i < base + k
      · rw [if_pos h1, if_pos (by omega)]
      · rw [if_neg h1, if_neg (by omega)]
theorem startW_len (key : List UInt8) (n : Int) (nonce : List UInt8) : (startW key n nonce).length = 16 := by simp [startW, wordsOf_len]
theorem startW_eq (key : List UInt8) (n : Int) (nonce : List UInt8) : startW key n nonce = initW key n nonce := by
  have e1 : ∀ k, 4 ≤ k → wd ((expand ++ key).drop (4 * k)) = wd (key.drop (4 * (k - 4))) := by
    intro k hk
    have : 4 * k = expand.length + 4 * (k - 4) := by simp [expand]; omega
    rw [this, ← List.drop_drop, List.drop_left]
  have hlen : (startW key n nonce).length = (initW key n nonce).length := by rw [startW_len, initW_len]
  apply List.ext_getElem hlen
  intro i h1 h2
  have g1 : (startW key n nonce)[i]'h1 = (startW key n nonce).getD i 0 := by rw [List.getD_eq_getElem?_getD, List.getElem?_eq_getElem h1]; rfl
  have g2 : (initW key n nonce)[i]'h2 = (initW key n nonce).getD i 0 := by rw [List.getD_eq_getElem?_getD, List.getElem?_eq_getElem h2]; rfl
  rw [g1, g2]
  rw [startW_len] at h1
  have hs : ((fillW key 4 consts 8).set 12 (u32of n)).length = 16 := by rw [List.length_set, fillW_len]; rfl
  have hin := fillW_at nonce 13 ((fillW key 4 consts 8).set 12 (u32of n)) 3 i (by rw [hs]; omega)
  rw [initW, hin]
  have L1 := wordsOf_len (expand ++ key) 12
  have L2 := wordsOf_len nonce 3
  by_cases ha : 13 ≤ i ∧ i < 13 + 3
  · rw [if_pos ha]
    rw [startW, List.getD_eq_getElem?_getD, List.getElem?_append_right (by simp [L1]; omega), ← List.getD_eq_getElem?_getD]
    rw [show i - (wordsOf (expand ++ key) 12 ++ [u32of n]).length = i - 13 from by simp [L1]]
    rw [wordsOf_get _ _ _ (by omega)]
  · rw [if_neg ha]
    rw [startW, List.getD_eq_getElem?_getD, List.getElem?_append_left (by simp [L1]; omega)]
    by_cases hb : i = 12
    · subst hb
      rw [List.getElem?_append_right (by rw [L1]; omega), L1]
      rw [List.getD_eq_getElem?_getD, List.getElem?_set_self (by rw [fillW_len]; decide)]
      rfl
    · rw [List.getElem?_append_left (by rw [L1]; omega), ← List.getD_eq_getElem?_getD, wordsOf_get _ _ _ (by omega)]
      rw [List.getD_eq_getElem?_getD, List.getElem?_set_ne (by omega), ← List.getD_eq_getElem?_getD]
      rw [fillW_at key 4 consts 8 i (by decide)]
      by_cases hc : 4 ≤ i ∧ i < 4 + 8
      · rw [if_pos hc, e1 i hc.1]
      · rw [if_neg hc]
        have hd : i = 0 ∨ i = 1 ∨ i = 2 ∨ i = 3 := by omega
        have hw : ∀ a b c d : UInt8, ∀ r : List UInt8, wd (a :: b :: c :: d :: r) = wd [a, b, c, d] := fun _ _ _ _ _ => rfl
        rcases hd with rfl | rfl | rfl | rfl
        · show wd (101 :: 120 :: 112 :: 97 :: _) = _
          rw [hw]; decide
        · show wd (110 :: 100 :: 32 :: 51 :: _) = _
          rw [hw]; decide
        · show wd (50 :: 45 :: 98 :: 121 :: _) = _
          rw [hw]; decide
        · show wd (116 :: 101 :: 32 :: 107 :: _) = _
          rw [hw]; decide
/-- Bits turned to the left, in twice as many. -/
def left64 (x : UInt32) (n : Nat) : UInt32 := ((x.toUInt64 <<< UInt64.ofNat n) ||| (x.toUInt64 <<< UInt64.ofNat n) >>> 32).toUInt32
theorem left64_rot (x : UInt32) (n : Nat) (h0 : 0 < n) (h1 : n < 32) : left64 x n = rot x n := by
  apply UInt32.toNat_inj.1
  have hx := x.toNat_lt
  have hp : 2 ^ n ≤ 2 ^ 31 := Nat.pow_le_pow_right (by omega) (by omega)
  have e1 : (UInt64.ofNat n).toNat % 64 = n := by simp; omega
  have e2 : (UInt32.ofNat n).toNat % 32 = n := by simp; omega
  have e3 : (UInt32.ofNat (32 - n)).toNat % 32 = 32 - n := by simp; omega
  have e4 : (32 : UInt64).toNat % 64 = 32 := rfl
  have hm : x.toNat * 2 ^ n < 2 ^ 64 := by
    calc x.toNat * 2 ^ n ≤ x.toNat * 2 ^ 31 := Nat.mul_le_mul_left _ hp
      _ < 2 ^ 64 := by omega
  have hs : (x.toUInt64 <<< UInt64.ofNat n).toNat = x.toNat * 2 ^ n := by
    rw [UInt64.toNat_shiftLeft, UInt32.toNat_toUInt64, e1, Nat.shiftLeft_eq, Nat.mod_eq_of_lt hm]
  have hd : x.toNat * 2 ^ n / 2 ^ 32 = x.toNat / 2 ^ (32 - n) := by
    have : (2 : Nat) ^ 32 = 2 ^ (32 - n) * 2 ^ n := by rw [← Nat.pow_add]; congr 1; omega
    rw [this, Nat.mul_div_mul_right _ _ (Nat.pow_pos (by omega))]
  unfold left64 rot
  rw [UInt64.toNat_toUInt32, UInt64.toNat_or, UInt64.toNat_shiftRight, hs, e4, Nat.shiftRight_eq_div_pow, hd]
  rw [UInt32.toNat_or, UInt32.toNat_shiftLeft, UInt32.toNat_shiftRight, e2, e3, Nat.shiftLeft_eq, Nat.shiftRight_eq_div_pow, Nat.or_mod_two_pow]
  congr 1
  apply Nat.mod_eq_of_lt
  calc x.toNat / 2 ^ (32 - n) ≤ x.toNat := Nat.div_le_self _ _
    _ < 2 ^ 32 := hx
/-- One of the reference's twenty rounds. -/
def halfR (s : List UInt32) (k : Nat) : List UInt32 := if k % 2 = 1 then iter diaR s 4 else iter colR s 4
theorem halfR_len (s : List UInt32) (k : Nat) : (halfR s k).length = s.length := by
  unfold halfR; split
  · exact iter_len _ diaR_len _ _
  · exact iter_len _ colR_len _ _
theorem halfR_odd (u : List UInt32) (r : Nat) : halfR u (2 * r + 1) = iter diaR u 4 := by unfold halfR; rw [if_pos (by omega)]
theorem halfR_even (u : List UInt32) (r : Nat) : halfR u (2 * r) = iter colR u 4 := by unfold halfR; rw [if_neg (by omega)]
theorem two_succ (r : Nat) : 2 * (r + 1) = 2 * r + 1 + 1 := by omega
theorem halves_succ (s : List UInt32) (r : Nat) (h : iter halfR s (2 * r) = iter dbl s r) : iter halfR s (2 * (r + 1)) = iter dbl s (r + 1) := by
  rw [two_succ, iter_succ halfR, halfR_odd, iter_succ halfR, halfR_even, h, dbl_succ]
theorem halves (s : List UInt32) (r : Nat) : iter halfR s (2 * r) = iter dbl s r := by
  induction r with
  | zero => unfold iter; rfl
  | succ r ih => exact halves_succ s r ih
theorem halves20 (s : List UInt32) : iter halfR s 20 = rounds s := halves s 10
theorem mod_u8 (x : UInt32) : (x % 256).toUInt8 = x.toUInt8 := by
  apply UInt8.toNat_inj.1
  rw [UInt32.toNat_toUInt8, UInt32.toNat_toUInt8, UInt32.toNat_mod]
  have e : (256 : UInt32).toNat = 256 := rfl
  rw [e]; omega
def divs (x : UInt32) : Nat → UInt32
  | 0 => x
  | k + 1 => divs x k / 256
def les (x : UInt32) : Nat → List UInt8
  | 0 => []
  | k + 1 => les x k ++ [(divs x k % 256).toUInt8]
theorem les_le4 (x : UInt32) : les x 4 = le4 x := by
  have e : ∀ y : UInt32, (y / 256).toNat = y.toNat / 256 := fun y => by rw [UInt32.toNat_div]; rfl
  have f : ∀ y : UInt32, y.toUInt8 = UInt8.ofNat y.toNat := fun y => by apply UInt8.toNat_inj.1; rw [UInt32.toNat_toUInt8, UInt8.toNat_ofNat']
  rw [toNat_le4]
  have g : ∀ y : UInt32, (y % 256).toUInt8 = UInt8.ofNat y.toNat := fun y => by rw [mod_u8, f]
  simp only [les, g, divs, e, List.nil_append, List.cons_append, List.append_assoc, Nat.div_div_eq_div_mul]
def refBlock (key : List UInt8) (n : Int) (nonce : List UInt8) : List UInt8 := outW (iter halfR (startW key n nonce) 20) (startW key n nonce) 16
theorem refBlock_eq (key : List UInt8) (n : Int) (nonce : List UInt8) : refBlock key n nonce = blockOf key n nonce := by
  rw [refBlock, startW_eq, halves20]; rfl
end Go.Proofs.YtkolfgmpmnelmabDoor

/-
  Plain law: the document's sum, as its reference reckons it, word for word the program's. No program in sight.
-/
import Derived.Test.YtkolfgmpmnelmabDoorH1
import Derived.Test.YtkolfgmpmnelmabDoorP4
namespace Go.Proofs.YtkolfgmpmnelmabDoor
open Go Vx
set_option linter.unusedVariables false

/-- Equal bits, equal words. -/
theorem ext32 {x y : UInt32} (h : ∀ i, i < 32 → x.toBitVec.getLsbD i = y.toBitVec.getLsbD i) : x = y :=
  UInt32.eq_of_toBitVec_eq (BitVec.eq_of_getLsbD_eq fun i hi => h i hi)
theorem ch_eq (e f g : UInt32) : g ^^^ (e &&& (f ^^^ g)) = (e &&& f) ^^^ (~~~e &&& g) := by
  apply ext32
  intro i hi
  simp only [UInt32.toBitVec_xor, UInt32.toBitVec_and, UInt32.toBitVec_not, BitVec.getLsbD_xor, BitVec.getLsbD_and, BitVec.getLsbD_not, hi, decide_true, Bool.true_and]
  cases e.toBitVec.getLsbD i <;> cases f.toBitVec.getLsbD i <;> cases g.toBitVec.getLsbD i <;> rfl
theorem maj_eq (a b c : UInt32) : (a &&& b) ||| (c &&& (a ||| b)) = (a &&& b) ^^^ (a &&& c) ^^^ (b &&& c) := by
  apply ext32
  intro i hi
  simp only [UInt32.toBitVec_xor, UInt32.toBitVec_and, UInt32.toBitVec_or, BitVec.getLsbD_xor, BitVec.getLsbD_and, BitVec.getLsbD_or]
  cases a.toBitVec.getLsbD i <;> cases b.toBitVec.getLsbD i <;> cases c.toBitVec.getLsbD i <;> rfl
theorem rot_add (x : UInt32) (n : Nat) (h0 : 0 < n) (h1 : n < 32) : x >>> UInt32.ofNat n + x <<< UInt32.ofNat (32 - n) = rotr x n := by
  apply UInt32.toNat_inj.1
  have hx := x.toNat_lt
  have e2 : (UInt32.ofNat n).toNat % 32 = n := by simp; omega
  have e3 : (UInt32.ofNat (32 - n)).toNat % 32 = 32 - n := by simp; omega
  have hp : (2 : Nat) ^ 32 = 2 ^ (32 - n) * 2 ^ n := by rw [← Nat.pow_add]; congr 1; omega
  unfold rotr
  rw [UInt32.toNat_add, UInt32.toNat_or, UInt32.toNat_shiftLeft, UInt32.toNat_shiftRight, e2, e3, Nat.shiftLeft_eq, Nat.shiftRight_eq_div_pow]
  have hlow : x.toNat / 2 ^ n < 2 ^ (32 - n) := by
    rw [Nat.div_lt_iff_lt_mul (Nat.pow_pos (by omega)), ← hp]; exact hx
  have hmul : x.toNat * 2 ^ (32 - n) % 2 ^ 32 = (x.toNat % 2 ^ n) * 2 ^ (32 - n) := by
    rw [hp, Nat.mul_comm (2 ^ (32 - n)) (2 ^ n), Nat.mul_mod_mul_right]
  rw [hmul, or_add hlow]
  apply Nat.mod_eq_of_lt
  have hm : x.toNat % 2 ^ n < 2 ^ n := Nat.mod_lt _ (Nat.pow_pos (by omega))
  calc x.toNat / 2 ^ n + x.toNat % 2 ^ n * 2 ^ (32 - n) < 2 ^ (32 - n) + x.toNat % 2 ^ n * 2 ^ (32 - n) := Nat.add_lt_add_right hlow _
    _ = (x.toNat % 2 ^ n + 1) * 2 ^ (32 - n) := by rw [Nat.add_mul, Nat.one_mul, Nat.add_comm]
    _ ≤ 2 ^ n * 2 ^ (32 - n) := Nat.mul_le_mul_right _ hm
    _ = 2 ^ 32 := by rw [hp, Nat.mul_comm]
theorem or_addm {x k b m : Nat} (hm : m = 2 ^ k) (h : x < m) : b * m ||| x = b * m + x := by
  subst hm; rw [Nat.or_comm, or_add h, Nat.add_comm]
/-- Four bytes, the first of which counts most. -/
def beR (s : List UInt8) (i : Nat) : Nat → UInt32
  | 0 => 0
  | k + 1 => beR s i k * 256 + (s.getD (4 * i + k) 0).toUInt32
theorem beR_be (s : List UInt8) (i : Nat) : beR s i 4 = be s i := by
  apply UInt32.toNat_inj.1
  have h0 := (s.getD (4 * i) 0).toNat_lt; have h1 := (s.getD (4 * i + 1) 0).toNat_lt; have h2 := (s.getD (4 * i + 2) 0).toNat_lt; have h3 := (s.getD (4 * i + 3) 0).toNat_lt
  have k1 := shl_nat (s.getD (4 * i + 2) 0) 8 (by omega); have k2 := shl_nat (s.getD (4 * i + 1) 0) 16 (by omega); have k3 := shl_nat (s.getD (4 * i) 0) 24 (by omega)
  unfold be
  rw [UInt32.toNat_or, UInt32.toNat_or, UInt32.toNat_or, k1, k2, k3, UInt8.toNat_toUInt32]
  clear k1 k2 k3
  simp only [beR, UInt32.toNat_add, UInt32.toNat_mul, UInt8.toNat_toUInt32, Nat.add_zero]
  have e : (256 : UInt32).toNat = 256 := rfl
  have z : (0 : UInt32).toNat = 0 := rfl
  rw [e, z]
  generalize (s.getD (4 * i) 0).toNat = a at *
  generalize (s.getD (4 * i + 1) 0).toNat = b at *
  generalize (s.getD (4 * i + 2) 0).toNat = c at *
  have p24 : 2 ^ 24 = 16777216 := rfl
  have p16 : 2 ^ 16 = 65536 := rfl
  have p8 : 2 ^ 8 = 256 := rfl
  rw [p24, p16, p8]
  clear p24 p16 p8
  rw [or_addm (k := 24) rfl (by omega)]
  have e2 : a * 16777216 + b * 65536 = (a * 256 + b) * 65536 := by omega
  rw [e2, or_addm (k := 16) rfl (by omega)]
  have e3 : (a * 256 + b) * 65536 + c * 256 = ((a * 256 + b) * 256 + c) * 256 := by rw [Nat.add_mul ((a * 256 + b) * 256), Nat.mul_assoc (a * 256 + b) 256 256]
  rw [e3, or_addm (k := 8) rfl (by omega)]
  omega
/-- The words of a block, as far as they are reckoned. -/
def sched (s : List UInt8) (t : Nat) : List UInt32 := if t ≤ 16 then fillB s t else extB (fillB s 16) (t - 16)
theorem sched_len (s : List UInt8) (t : Nat) : (sched s t).length = 64 := by
  unfold sched; split
  · exact fillB_len _ _
  · rw [extB_len, fillB_len]
theorem sched_lo (s : List UInt8) (t : Nat) (h : t < 16) (x : UInt32) (hx : x = be s t) : (sched s t).set t x = sched s (t + 1) := by
  subst hx
  have e1 : sched s t = fillB s t := by unfold sched; rw [if_pos (by omega)]
  have e2 : sched s (t + 1) = fillB s (t + 1) := by unfold sched; rw [if_pos (by omega)]
  rw [e1, e2, fillB]
theorem sched_hi (s : List UInt8) (t : Nat) (h : 16 ≤ t) (x : UInt32) (hx : x = sg1 ((sched s t).getD (t - 2) 0) + (sched s t).getD (t - 7) 0 + sg0 ((sched s t).getD (t - 15) 0) + (sched s t).getD (t - 16) 0) : (sched s t).set t x = sched s (t + 1) := by
  subst hx
  obtain ⟨k, rfl⟩ : ∃ k, t = 16 + k := ⟨t - 16, by omega⟩
  have e1 : sched s (16 + k) = extB (fillB s 16) k := by
    unfold sched
    by_cases hk : k = 0
    · subst hk; rw [if_pos (by omega)]; rfl
    · rw [if_neg (by omega)]; congr 1; omega
  have e2 : sched s (16 + k + 1) = extB (fillB s 16) (k + 1) := by
    unfold sched; rw [if_neg (by omega)]; congr 1; omega
  rw [e1, e2, extB]
  rw [show 16 + k - 2 = k + 14 from by omega, show 16 + k - 7 = k + 9 from by omega, show 16 + k - 15 = k + 1 from by omega, show 16 + k - 16 = k from by omega]
  congr 1
  ac_rfl
theorem sched_all (s : List UInt8) : sched s 64 = extB (fillB s 16) 48 := by unfold sched; rw [if_neg (by omega)]
theorem sched_zero (s : List UInt8) : sched s 0 = List.replicate 64 0 := by unfold sched; rw [if_pos (by omega)]; rfl
theorem oneB_ref (v : List UInt32) (k w : UInt32) : v.getD 7 0 + ((rotr (v.getD 4 0) 6) ^^^ rotr (v.getD 4 0) 11 ^^^ rotr (v.getD 4 0) 25) + (v.getD 6 0 ^^^ (v.getD 4 0 &&& (v.getD 5 0 ^^^ v.getD 6 0))) + k + w = oneB v k w := by
  rw [ch_eq]; rfl
theorem twoB_ref (v : List UInt32) : (rotr (v.getD 0 0) 2 ^^^ rotr (v.getD 0 0) 13 ^^^ rotr (v.getD 0 0) 22) + ((v.getD 0 0 &&& v.getD 1 0) ||| (v.getD 2 0 &&& (v.getD 0 0 ||| v.getD 1 0))) = twoB v := by
  rw [maj_eq]; rfl
end Go.Proofs.YtkolfgmpmnelmabDoor

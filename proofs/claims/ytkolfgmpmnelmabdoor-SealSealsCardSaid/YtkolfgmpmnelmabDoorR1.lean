/-
  Plain law: roots of numbers, reckoned digit by digit of 2^16. No program in sight.
-/
import Derived.Test.YtkolfgmpmnelmabDoorH7
namespace Go.Proofs.YtkolfgmpmnelmabDoor
open Go Vx
set_option linter.unusedVariables false

/-- The number of digits of 2^16, the least first. -/
def val : List UInt64 → Nat
  | [] => 0
  | d :: r => d.toNat + 65536 * val r
def digs (l : List UInt64) : Prop := ∀ d ∈ l, d.toNat < 65536
theorem val_append (a b : List UInt64) : val (a ++ b) = val a + 65536 ^ a.length * val b := by
  induction a with
  | nil => simp [val]
  | cons d a ih =>
    simp only [List.cons_append, val, ih, List.length_cons, Nat.pow_succ]
    rw [Nat.mul_add, Nat.mul_assoc (65536 ^ a.length) 65536, Nat.mul_left_comm (65536 ^ a.length) 65536, Nat.add_assoc]
theorem val_lt {l : List UInt64} (h : digs l) : val l < 65536 ^ l.length := by
  induction l with
  | nil => simp [val]
  | cons d l ih =>
    have h1 := ih (fun x hx => h x (List.mem_cons_of_mem _ hx))
    have h2 := h d (by simp)
    simp only [val, List.length_cons, Nat.pow_succ]
    omega
theorem val_zeros (k : Nat) : val (List.replicate k 0) = 0 := by
  induction k with
  | zero => rfl
  | succ k ih => simp [List.replicate_succ, val, ih]
theorem digs_append {a b : List UInt64} (ha : digs a) (hb : digs b) : digs (a ++ b) := fun d hd => (List.mem_append.1 hd).elim (ha d) (hb d)
theorem digs_zeros (k : Nat) : digs (List.replicate k 0) := fun d hd => by
  rw [List.eq_of_mem_replicate hd]; decide
theorem val_drop (v : List UInt64) (i : Nat) (h : i < v.length) : val (v.drop i) = (v.getD i 0).toNat + 65536 * val (v.drop (i + 1)) := by
  rw [List.drop_eq_getElem_cons h, val]
  simp [h]
/-- A round of the multiplication. -/
structure TimesI (v : List UInt64) (x : UInt64) (i : Nat) (c : UInt64) (out : List UInt64) : Prop where
  len : out.length = i
  dg : digs out
  cb : c.toNat < 4398046511104
  eq : val out + 65536 ^ i * (c.toNat + val (v.drop i) * x.toNat) = val v * x.toNat
theorem TimesI.init (v : List UInt64) (x : UInt64) : TimesI v x 0 0 [] := ⟨rfl, (fun d hd => by cases hd), by decide, by simp [val]⟩
def stepN (v : List UInt64) (x : UInt64) (i : Nat) (c : UInt64) : UInt64 := if i < v.length then c + v.getD i 0 * x else c
theorem step_nat {v : List UInt64} {x : UInt64} {i : Nat} {c : UInt64} (hv : digs v) (hx : x.toNat ≤ 1099511627776) (hc : c.toNat < 4398046511104) (h : i < v.length) : (c + v.getD i 0 * x).toNat = c.toNat + (v.getD i 0).toNat * x.toNat ∧ c.toNat + (v.getD i 0).toNat * x.toNat < 65536 * 4398046511104 := by
  have h1 : (v.getD i 0).toNat < 65536 := by
    have : v.getD i 0 ∈ v := by rw [List.getD_eq_getElem?_getD, List.getElem?_eq_getElem h]; exact List.getElem_mem h
    exact hv _ this
  have h2 : (v.getD i 0).toNat * x.toNat ≤ 65535 * 1099511627776 := Nat.mul_le_mul (by omega) hx
  have h3 : c.toNat + (v.getD i 0).toNat * x.toNat < 65536 * 4398046511104 := by omega
  refine ⟨?_, h3⟩
  rw [UInt64.toNat_add, UInt64.toNat_mul, Nat.mod_eq_of_lt (a := (v.getD i 0).toNat * x.toNat) (by omega), Nat.mod_eq_of_lt (by omega)]
theorem TimesI.step {v : List UInt64} {x : UInt64} {i : Nat} {c : UInt64} {out : List UInt64} (h : TimesI v x i c out) (hv : digs v) (hx : x.toNat ≤ 1099511627776) :
    TimesI v x (i + 1) (stepN v x i c / 65536) (out ++ [stepN v x i c % 65536]) := by
  have e1 : (65536 : UInt64).toNat = 65536 := rfl
  have hd : ((stepN v x i c) / 65536).toNat = (stepN v x i c).toNat / 65536 := by rw [UInt64.toNat_div, e1]
  have hm : ((stepN v x i c) % 65536).toNat = (stepN v x i c).toNat % 65536 := by rw [UInt64.toNat_mod, e1]
  have hN : (stepN v x i c).toNat < 65536 * 4398046511104 ∧ (stepN v x i c).toNat + 65536 * (val (v.drop (i + 1)) * x.toNat) = c.toNat + val (v.drop i) * x.toNat := by
    by_cases hi : i < v.length
    · obtain ⟨h1, h2⟩ := step_nat hv hx h.cb hi
      unfold stepN
      rw [if_pos hi, h1, val_drop v i hi, Nat.add_mul, Nat.mul_assoc]
      exact ⟨h2, by omega⟩
    · unfold stepN
      rw [if_neg hi, List.drop_eq_nil_of_le (by omega), List.drop_eq_nil_of_le (by omega)]
      have := h.cb
      exact ⟨by omega, by simp [val]⟩
  refine ⟨by simp [h.len], digs_append h.dg (fun d hd' => ?_), ?_, ?_⟩
  · rw [List.mem_singleton.1 hd', hm]; exact Nat.mod_lt _ (by decide)
  · rw [hd]; omega
  · rw [val_append, h.len, ← h.eq, ← hN.2, hd]
    simp only [val, hm, Nat.mul_zero, Nat.add_zero, Nat.pow_succ]
    rw [Nat.add_assoc, Nat.mul_assoc, ← Nat.mul_add]
    congr 2
    have := Nat.mod_add_div (stepN v x i c).toNat 65536
    rw [Nat.mul_add]; omega
theorem TimesI.done {v : List UInt64} {x : UInt64} {i : Nat} {c : UInt64} {out : List UInt64} (h : TimesI v x i c out) (hi : v.length ≤ i) (hc : c.toNat = 0) : val out = val v * x.toNat := by
  have := h.eq
  rw [List.drop_eq_nil_of_le hi, hc] at this
  simpa [val] using this
/-- Two numbers of as many digits, compared from the greatest digit on. -/
theorem val_split (v : List UInt64) (i : Nat) : val v = val (v.take i) + 65536 ^ (v.take i).length * val (v.drop i) := by
  rw [← val_append, List.take_append_drop]
theorem above_at {v w : List UInt64} (hv : digs v) (hw : digs w) (hl : v.length = w.length) {i : Nat} (hi : i < v.length) (he : v.drop (i + 1) = w.drop (i + 1)) (hne : v.getD i 0 ≠ w.getD i 0) : (w.getD i 0 < v.getD i 0) ↔ val w < val v := by
  have a := val_split v i; have b := val_split w i
  have lv : (v.take i).length = i := by simp; omega
  have lw : (w.take i).length = i := by simp; omega
  have av := val_lt (l := v.take i) (fun d hd => hv d (List.mem_of_mem_take hd))
  have aw := val_lt (l := w.take i) (fun d hd => hw d (List.mem_of_mem_take hd))
  rw [lv] at a av; rw [lw] at b aw
  rw [val_drop v i hi] at a
  rw [val_drop w i (by omega), ← he] at b
  have hne' : (v.getD i 0).toNat ≠ (w.getD i 0).toNat := fun h => hne (UInt64.toNat_inj.1 h)
  rw [UInt64.lt_iff_toNat_lt]
  generalize (v.getD i 0).toNat = p at *
  generalize (w.getD i 0).toNat = q at *
  generalize 65536 * val (v.drop (i + 1)) = r at *
  generalize 65536 ^ i = m at *
  rw [a, b]
  constructor
  · intro h
    have : m * (q + r) + m ≤ m * (p + r) := by rw [← Nat.mul_succ]; exact Nat.mul_le_mul_left _ (by omega)
    omega
  · intro h
    rcases Nat.lt_or_ge q p with h' | h'
    · exact h'
    · exfalso
      have : m * (p + r) + m ≤ m * (q + r) := by rw [← Nat.mul_succ]; exact Nat.mul_le_mul_left _ (by omega)
      omega
theorem drop_succ_eq {v w : List UInt64} (hl : v.length = w.length) {i : Nat} (hi : i < v.length) (he : v.drop (i + 1) = w.drop (i + 1)) (h : v.getD i 0 = w.getD i 0) : v.drop i = w.drop i := by
  rw [List.drop_eq_getElem_cons hi, List.drop_eq_getElem_cons (by omega : i < w.length), he]
  have h' : v[i] = w[i]'(by omega) := by
    simp only [List.getD_eq_getElem?_getD, List.getElem?_eq_getElem hi, List.getElem?_eq_getElem (by omega : i < w.length), Option.getD_some] at h
    exact h
  rw [h']
/-- The root, between its bounds. -/
theorem root_one {k : Nat} (hk : 0 < k) {B a b : Nat} (ha : a ^ k ≤ B) (ha' : B < (a + 1) ^ k) (hb : b ^ k ≤ B) (hb' : B < (b + 1) ^ k) : a = b := by
  have mono : ∀ {x y : Nat}, x ^ k < y ^ k → x < y := fun {x y} h => by
    rcases Nat.lt_or_ge x y with h' | h'
    · exact h'
    · exact absurd h (Nat.not_lt.2 (Nat.pow_le_pow_left h' k))
  have h1 := mono (Nat.lt_of_le_of_lt ha hb')
  have h2 := mono (Nat.lt_of_le_of_lt hb ha')
  omega
def isRoot (p k : Nat) (x : UInt32) : Prop := ∃ low : Nat, x = UInt32.ofNat low ∧ low ^ k ≤ p * 65536 ^ (2 * k) ∧ p * 65536 ^ (2 * k) < (low + 1) ^ k
def cubes : List Nat := [1, 1, 1, 1, 2, 2, 2, 2, 2, 3, 3, 3, 3, 3, 3, 3, 3, 3, 4, 4, 4, 4, 4, 4, 4, 4, 4, 4, 4, 4, 5, 5, 5, 5, 5, 5, 5, 5, 5, 5, 5, 5, 5, 5, 5, 5, 5, 6, 6, 6, 6, 6, 6, 6, 6, 6, 6, 6, 6, 6, 6, 6, 6, 6]
def squares : List Nat := [1, 1, 2, 2, 3, 3, 4, 4]
def primesT : List Nat := [2, 3, 5, 7, 11, 13, 17, 19, 23, 29, 31, 37, 41, 43, 47, 53, 59, 61, 67, 71, 73, 79, 83, 89, 97, 101, 103, 107, 109, 113, 127, 131, 137, 139, 149, 151, 157, 163, 167, 173, 179, 181, 191, 193, 197, 199, 211, 223, 227, 229, 233, 239, 241, 251, 257, 263, 269, 271, 277, 281, 283, 293, 307, 311]
def low3 (i : Nat) : Nat := cubes.getD i 0 * 4294967296 + (kT.getD i 0).toNat
def low2 (i : Nat) : Nat := squares.getD i 0 * 4294967296 + (h0T.getD i 0).toNat
theorem roots3 : ∀ i, i < 64 → (low3 i) ^ 3 ≤ primesT.getD i 0 * 65536 ^ (2 * 3) ∧ primesT.getD i 0 * 65536 ^ (2 * 3) < (low3 i + 1) ^ 3 ∧ UInt32.ofNat (low3 i) = kT.getD i 0 := by decide +kernel
theorem roots2 : ∀ i, i < 8 → (low2 i) ^ 2 ≤ primesT.getD i 0 * 65536 ^ (2 * 2) ∧ primesT.getD i 0 * 65536 ^ (2 * 2) < (low2 i + 1) ^ 2 ∧ UInt32.ofNat (low2 i) = h0T.getD i 0 := by decide +kernel
theorem root3 {i : Nat} (hi : i < 64) {x : UInt32} (h : isRoot (primesT.getD i 0) 3 x) : x = kT.getD i 0 := by
  obtain ⟨low, rfl, h1, h2⟩ := h
  obtain ⟨h3, h4, h5⟩ := roots3 i hi
  rw [root_one (by decide) h1 h2 h3 h4, h5]
theorem root2 {i : Nat} (hi : i < 8) {x : UInt32} (h : isRoot (primesT.getD i 0) 2 x) : x = h0T.getD i 0 := by
  obtain ⟨low, rfl, h1, h2⟩ := h
  obtain ⟨h3, h4, h5⟩ := roots2 i hi
  rw [root_one (by decide) h1 h2 h3 h4, h5]
/-- Primes, as they are sought. -/
def sieve : Nat → List Nat
  | 0 => []
  | j + 1 => if (sieve j).all (fun p => (j + 2) % p != 0) then sieve j ++ [j + 2] else sieve j
theorem sieve_end : sieve 310 = primesT := by decide +kernel
theorem sieve_short : ∀ j, j < 310 → (sieve j).length < 64 := by decide +kernel
end Go.Proofs.YtkolfgmpmnelmabDoor

/-
  Plain law: the rounds lose nothing. No program in sight.
-/
import Derived.Test.YtkolfgmpmnelmabDoorP2
namespace Go.Proofs.YtkolfgmpmnelmabDoor
open Go Vx

/-! ### The rounds can be taken back -/
theorem set_inj {s t : List UInt32} {i : Nat} {x y : UInt32} (hl : s.length = t.length) (hi : i < s.length) (h : s.set i x = t.set i y) (hx : x = y → s.getD i 0 = t.getD i 0) : s = t := by
  have hxy : x = y := by
    have := congrArg (fun l => l.getD i 0) h
    simpa [hi, ← hl] using this
  apply List.ext_getElem hl
  intro j h1 h2
  by_cases hj : i = j
  · subst hj
    have := hx hxy
    simpa [h1, h2] using this
  · have := congrArg (fun l => l[j]?) h
    simp only [List.getElem?_set_ne hj] at this
    simpa [h1, h2] using this
theorem getD_set_ne' {s : List UInt32} {i j : Nat} {x : UInt32} (h : i ≠ j) : (s.set i x).getD j 0 = s.getD j 0 := by
  simp [List.getElem?_set_ne h]
theorem addAt_inj {s t : List UInt32} {a b : Nat} (hl : s.length = t.length) (ha : a < s.length) (hab : a ≠ b) (h : addAt s a b = addAt t a b) : s = t := by
  have hb : s.getD b 0 = t.getD b 0 := by
    have := congrArg (fun l => l.getD b 0) h
    simpa only [addAt, getD_set_ne' hab] using this
  refine set_inj hl ha h fun h' => ?_
  rw [hb] at h'
  exact UInt32.add_left_inj _ |>.1 h'
theorem rot_inj {x y : UInt32} {n : Nat} (h0 : 0 < n) (h1 : n < 32) (h : rot x n = rot y n) : x = y := by
  have key : ∀ z : UInt32, (rot z n).toBitVec = z.toBitVec.rotateLeft n := by
    intro z
    have e1 : ((UInt32.ofNat n).toBitVec % 32).toNat = n := by
      rw [BitVec.toNat_umod]; simp; omega
    have e2 : ((UInt32.ofNat (32 - n)).toBitVec % 32).toNat = 32 - n := by
      rw [BitVec.toNat_umod]; simp; omega
    have e5 : n % 32 = n := Nat.mod_eq_of_lt h1
    simp only [rot, UInt32.toBitVec_or, UInt32.toBitVec_shiftLeft, UInt32.toBitVec_shiftRight]
    rw [BitVec.rotateLeft_def, e5, BitVec.shiftLeft_eq', BitVec.ushiftRight_eq', e1, e2]
  have h2 : x.toBitVec.rotateLeft n = y.toBitVec.rotateLeft n := by rw [← key, ← key, h]
  apply UInt32.eq_of_toBitVec_eq
  have h3 := congrArg (fun z => z.rotateRight n) h2
  have e5 : n % 32 = n := Nat.mod_eq_of_lt h1
  apply BitVec.eq_of_getElem_eq
  intro i hi
  have h4 := congrArg (fun z : BitVec 32 => z.getLsbD ((i + n) % 32)) h2
  simp only [BitVec.getLsbD_rotateLeft, e5] at h4
  by_cases hc : i + n < 32
  · rw [Nat.mod_eq_of_lt hc] at h4
    have c1 : ¬ (i + n < n) := by omega
    simp only [c1, hc, decide_true, Bool.true_and, if_false, show i + n - n = i from by omega] at h4
    simpa [BitVec.getLsbD_eq_getElem hi] using h4
  · have hm : (i + n) % 32 = i + n - 32 := by omega
    rw [hm] at h4
    have c1 : i + n - 32 < n := by omega
    simp only [c1, if_true, show 32 - n + (i + n - 32) = i from by omega] at h4
    simpa [BitVec.getLsbD_eq_getElem hi] using h4
theorem rotAt_inj {s t : List UInt32} {d a n : Nat} (hl : s.length = t.length) (hd : d < s.length) (hda : d ≠ a) (h0 : 0 < n) (h1 : n < 32) (h : rotAt s d a n = rotAt t d a n) : s = t := by
  have hb : s.getD a 0 = t.getD a 0 := by
    have := congrArg (fun l => l.getD a 0) h
    simpa only [rotAt, getD_set_ne' hda] using this
  refine set_inj hl hd h fun h' => ?_
  have h2 := rot_inj h0 h1 h'
  rw [hb] at h2
  exact UInt32.xor_left_inj _ |>.1 h2
theorem qr_inj {s t : List UInt32} {a b c d : Nat} (hl : s.length = t.length) (ha : a < s.length) (hb : b < s.length) (hc : c < s.length) (hd : d < s.length)
    (hab : a ≠ b) (hda : d ≠ a) (hcd : c ≠ d) (hbc : b ≠ c) (h : qr s a b c d = qr t a b c d) : s = t := by
  unfold qr at h
  have l1 : ∀ x y : List UInt32, ∀ i j, x.length = y.length → (addAt x i j).length = (addAt y i j).length := fun x y i j h => by rw [addAt_len, addAt_len, h]
  have l2 : ∀ x y : List UInt32, ∀ i j n, x.length = y.length → (rotAt x i j n).length = (rotAt y i j n).length := fun x y i j n h => by rw [rotAt_len, rotAt_len, h]
  replace h := rotAt_inj (by simp [addAt_len, rotAt_len, hl]) (by simp [addAt_len, rotAt_len, hb]) hbc (by omega) (by omega) h
  replace h := addAt_inj (by simp [addAt_len, rotAt_len, hl]) (by simp [addAt_len, rotAt_len, hc]) hcd h
  replace h := rotAt_inj (by simp [addAt_len, rotAt_len, hl]) (by simp [addAt_len, rotAt_len, hd]) hda (by omega) (by omega) h
  replace h := addAt_inj (by simp [addAt_len, rotAt_len, hl]) (by simp [addAt_len, rotAt_len, ha]) hab h
  replace h := rotAt_inj (by simp [addAt_len, rotAt_len, hl]) (by simp [addAt_len, rotAt_len, hb]) hbc (by omega) (by omega) h
  replace h := addAt_inj (by simp [addAt_len, rotAt_len, hl]) (by simp [addAt_len, rotAt_len, hc]) hcd h
  replace h := rotAt_inj (by simp [addAt_len, hl]) (by simp [addAt_len, hd]) hda (by omega) (by omega) h
  exact addAt_inj hl ha hab h
theorem iter_inj {f : List UInt32 → Nat → List UInt32} (hlen : ∀ s k, (f s k).length = s.length) (m : Nat) (hf : ∀ s t k, s.length = 16 → t.length = 16 → k < m → f s k = f t k → s = t) {s t : List UInt32} (hs : s.length = 16) (ht : t.length = 16) :
    ∀ k, k ≤ m → iter f s k = iter f t k → s = t
  | 0, _, h => h
  | k + 1, hk, h => iter_inj hlen m hf hs ht k (by omega) (hf _ _ k (by rw [iter_len f hlen, hs]) (by rw [iter_len f hlen, ht]) (by omega) h)
theorem colR_inj (s t : List UInt32) (k : Nat) (hs : s.length = 16) (ht : t.length = 16) (hk : k < 4) (h : colR s k = colR t k) : s = t :=
  qr_inj (by omega) (by omega) (by omega) (by omega) (by omega) (by omega) (by omega) (by omega) (by omega) h
theorem diaR_inj (s t : List UInt32) (k : Nat) (hs : s.length = 16) (ht : t.length = 16) (hk : k < 4) (h : diaR s k = diaR t k) : s = t :=
  qr_inj (by omega) (by omega) (by omega) (by omega) (by omega) (by omega) (by omega) (by omega) (by omega) h
theorem dbl_inj (s t : List UInt32) (k : Nat) (hs : s.length = 16) (ht : t.length = 16) (_ : k < 10) (h : dbl s k = dbl t k) : s = t := by
  rw [dbl_def, dbl_def] at h
  have h1 := iter_inj diaR_len 4 diaR_inj (by rw [iter_len _ colR_len, hs]) (by rw [iter_len _ colR_len, ht]) 4 (by omega) h
  exact iter_inj colR_len 4 colR_inj hs ht 4 (by omega) h1
theorem rounds_inj {s t : List UInt32} (hs : s.length = 16) (ht : t.length = 16) (h : rounds s = rounds t) : s = t :=
  iter_inj dbl_len 10 dbl_inj hs ht 10 (by omega) h
end Go.Proofs.YtkolfgmpmnelmabDoor

/-
  Plain law: words and their bytes; a block less what its rounds began with. No program in sight.
-/
import Derived.Test.YtkolfgmpmnelmabDoorP3
namespace Go.Proofs.YtkolfgmpmnelmabDoor
open Go Vx

theorem toNat_le4 (x : UInt32) : le4 x = [UInt8.ofNat x.toNat, UInt8.ofNat (x.toNat / 256), UInt8.ofNat (x.toNat / 65536), UInt8.ofNat (x.toNat / 16777216)] := by
  have h : ∀ k : Nat, k < 32 → (x >>> UInt32.ofNat k).toUInt8 = UInt8.ofNat (x.toNat / 2 ^ k) := by
    intro k hk
    apply UInt8.toNat_inj.1
    rw [UInt32.toNat_toUInt8, UInt32.toNat_shiftRight, UInt8.toNat_ofNat']
    have : (UInt32.ofNat k).toNat % 32 = k := by simp; omega
    rw [this, Nat.shiftRight_eq_div_pow]
  have h0 : x.toUInt8 = UInt8.ofNat x.toNat := by
    apply UInt8.toNat_inj.1; rw [UInt32.toNat_toUInt8, UInt8.toNat_ofNat']
  have h1 := h 8 (by omega); have h2 := h 16 (by omega); have h3 := h 24 (by omega)
  simp only [le4, h0]
  rw [show (x >>> 8) = x >>> UInt32.ofNat 8 from rfl, show (x >>> 16) = x >>> UInt32.ofNat 16 from rfl, show (x >>> 24) = x >>> UInt32.ofNat 24 from rfl, h1, h2, h3]
theorem u8_eq {a b : Nat} : UInt8.ofNat a = UInt8.ofNat b ↔ a % 256 = b % 256 := by
  constructor
  · intro h; have := congrArg UInt8.toNat h; simpa using this
  · intro h; apply UInt8.toNat_inj.1; simpa using h
theorem le4_inj {x y : UInt32} (h : le4 x = le4 y) : x = y := by
  rw [toNat_le4, toNat_le4] at h
  simp only [List.cons.injEq, u8_eq, and_true] at h
  apply UInt32.toNat_inj.1
  have := x.toNat_lt; have := y.toNat_lt
  omega
theorem shl_nat (a : UInt8) (k : Nat) (hk : k ≤ 24) : (a.toUInt32 <<< UInt32.ofNat k).toNat = a.toNat * 2 ^ k := by
  rw [UInt32.toNat_shiftLeft, UInt8.toNat_toUInt32]
  have h1 : (UInt32.ofNat k).toNat % 32 = k := by simp; omega
  rw [h1, Nat.shiftLeft_eq]
  apply Nat.mod_eq_of_lt
  have := a.toNat_lt
  calc a.toNat * 2 ^ k ≤ 255 * 2 ^ 24 := Nat.mul_le_mul (by omega) (Nat.pow_le_pow_right (by omega) hk)
    _ < 2 ^ 32 := by decide
theorem or_add {x k b : Nat} (h : x < 2 ^ k) : x ||| b * 2 ^ k = x + b * 2 ^ k := by
  have := Nat.shiftLeft_add_eq_or_of_lt h b
  rw [Nat.shiftLeft_eq] at this
  rw [Nat.or_comm, ← this, Nat.add_comm]
theorem wd_toNat (l : List UInt8) : (wd l).toNat = (l.getD 0 0).toNat + (l.getD 1 0).toNat * 256 + (l.getD 2 0).toNat * 65536 + (l.getD 3 0).toNat * 16777216 := by
  have h1 := shl_nat (l.getD 1 0) 8 (by omega); have h2 := shl_nat (l.getD 2 0) 16 (by omega); have h3 := shl_nat (l.getD 3 0) 24 (by omega)
  have b0 := (l.getD 0 0).toNat_lt; have b1 := (l.getD 1 0).toNat_lt; have b2 := (l.getD 2 0).toNat_lt
  unfold wd
  rw [show (8 : UInt32) = UInt32.ofNat 8 from rfl, show (16 : UInt32) = UInt32.ofNat 16 from rfl, show (24 : UInt32) = UInt32.ofNat 24 from rfl]
  rw [UInt32.toNat_or, UInt32.toNat_or, UInt32.toNat_or, h1, h2, h3, UInt8.toNat_toUInt32]
  rw [or_add (k := 8) (by omega), or_add (k := 16) (by omega), or_add (k := 24) (by omega)]
theorem le4_wd {l : List UInt8} (h : 4 ≤ l.length) : le4 (wd l) = l.take 4 := by
  match l, h with
  | a :: b :: c :: d :: r, _ =>
    rw [toNat_le4, wd_toNat]
    have e : ∀ (x : UInt8) (m : Nat), m % 256 = x.toNat → UInt8.ofNat m = x := fun x m hm => by
      apply UInt8.toNat_inj.1; simpa using hm
    have := a.toNat_lt; have := b.toNat_lt; have := c.toNat_lt; have := d.toNat_lt
    simp only [List.getD_cons_zero, List.getD_cons_succ, List.take_succ_cons, List.take_zero]
    rw [e a _ (by omega), e b _ (by omega), e c _ (by omega), e d _ (by omega)]
def catW (s : List UInt32) : Nat → List UInt8
  | 0 => []
  | k + 1 => catW s k ++ le4 (s.getD k 0)
theorem catW_len (s : List UInt32) (k : Nat) : (catW s k).length = 4 * k := by
  induction k with
  | zero => rfl
  | succ k ih => simp [catW, le4, ih]; omega
theorem catW_inj {s t : List UInt32} (hs : s.length = 16) (ht : t.length = 16) (h : catW s 16 = catW t 16) : s = t := by
  have key : ∀ k, catW s k = catW t k → ∀ i, i < k → s.getD i 0 = t.getD i 0 := by
    intro k
    induction k with
    | zero => intro _ i hi; omega
    | succ k ih =>
      intro hk i hi
      simp only [catW] at hk
      obtain ⟨h1, h2⟩ := List.append_inj hk (by rw [catW_len, catW_len])
      by_cases hik : i = k
      · subst hik; exact le4_inj h2
      · exact ih h1 i (by omega)
  have h1 := key 16 h
  apply List.ext_getElem (by omega)
  intro i hi1 hi2
  have := h1 i (by omega)
  simpa [hi1, hi2] using this
/-! ### A word less a word -/
theorem shl8 (x : UInt32) : x <<< 8 = x * 256 := by
  apply UInt32.toNat_inj.1
  rw [UInt32.toNat_shiftLeft, UInt32.toNat_mul, Nat.shiftLeft_eq]; rfl
theorem u8_u32 (x : UInt32) (k : Nat) : ((UInt8.ofNat (x.toNat / k)).toUInt32).toNat = x.toNat / k % 256 := by simp
theorem le4_val (x : UInt32) : (UInt8.ofNat x.toNat).toUInt32 + (UInt8.ofNat (x.toNat / 256)).toUInt32 * 256 + (UInt8.ofNat (x.toNat / 65536)).toUInt32 * 65536 + (UInt8.ofNat (x.toNat / 16777216)).toUInt32 * 16777216 = x := by
  apply UInt32.toNat_inj.1
  have := x.toNat_lt
  have e0 : ((UInt8.ofNat x.toNat).toUInt32).toNat = x.toNat % 256 := by simp
  simp only [UInt32.toNat_add, UInt32.toNat_mul, u8_u32, e0]
  have c1 : (256 : UInt32).toNat = 256 := rfl
  have c2 : (65536 : UInt32).toNat = 65536 := rfl
  have c3 : (16777216 : UInt32).toNat = 16777216 := rfl
  rw [c1, c2, c3]
  omega
theorem lessWord_val (s t : List UInt8) (i : Nat) : lessWord s t i 4 = ((s.getD i 0).toUInt32 + (s.getD (i + 1) 0).toUInt32 * 256 + (s.getD (i + 2) 0).toUInt32 * 65536 + (s.getD (i + 3) 0).toUInt32 * 16777216)
    - ((t.getD i 0).toUInt32 + (t.getD (i + 1) 0).toUInt32 * 256 + (t.getD (i + 2) 0).toUInt32 * 65536 + (t.getD (i + 3) 0).toUInt32 * 16777216) := by
  simp only [lessWord, shl8, Nat.sub_self, Nat.add_zero, show 3 - 1 = 2 from rfl, show 3 - 2 = 1 from rfl, show 3 - 0 = 3 from rfl]
  generalize (s.getD i 0).toUInt32 = a0; generalize (s.getD (i + 1) 0).toUInt32 = a1; generalize (s.getD (i + 2) 0).toUInt32 = a2; generalize (s.getD (i + 3) 0).toUInt32 = a3
  generalize (t.getD i 0).toUInt32 = b0; generalize (t.getD (i + 1) 0).toUInt32 = b1; generalize (t.getD (i + 2) 0).toUInt32 = b2; generalize (t.getD (i + 3) 0).toUInt32 = b3
  grind
/-- Where four bytes are a number's. -/
theorem getD4 {u v : List UInt8} {x : UInt32} {r : List UInt8} (h : u = v ++ le4 x ++ r) (j : Nat) (hj : j < 4) : u.getD (v.length + j) 0 = (le4 x).getD j 0 := by
  subst h
  have h1 : (le4 x).length = 4 := rfl
  simp only [List.getD_eq_getElem?_getD]
  rw [List.append_assoc, List.getElem?_append_right (by omega), List.getElem?_append_left (by omega)]
  congr 2; omega
theorem lessWord_le4 {s t u v ru rv : List UInt8} {x y : UInt32} (hs : s = u ++ le4 x ++ ru) (ht : t = v ++ le4 y ++ rv) (i : Nat) (hu : u.length = i) (hv : v.length = i) : lessWord s t i 4 = x - y := by
  rw [lessWord_val]
  have a0 := getD4 hs 0 (by omega); have a1 := getD4 hs 1 (by omega); have a2 := getD4 hs 2 (by omega); have a3 := getD4 hs 3 (by omega)
  have c0 := getD4 ht 0 (by omega); have c1 := getD4 ht 1 (by omega); have c2 := getD4 ht 2 (by omega); have c3 := getD4 ht 3 (by omega)
  rw [hu] at a0 a1 a2 a3
  rw [hv] at c0 c1 c2 c3
  rw [Nat.add_zero] at a0 c0
  rw [a0, a1, a2, a3, c0, c1, c2, c3, toNat_le4, toNat_le4]
  simp only [List.getD_cons_zero, List.getD_cons_succ]
  rw [le4_val, le4_val]
theorem outW_split (t s : List UInt32) (k m : Nat) (h : k < m) : ∃ r, outW t s m = outW t s k ++ le4 (t.getD k 0 + s.getD k 0) ++ r := by
  induction m with
  | zero => omega
  | succ m ih =>
    by_cases hk : k = m
    · subst hk; exact ⟨[], by simp [outW]⟩
    · obtain ⟨r, hr⟩ := ih (by omega)
      exact ⟨r ++ le4 (t.getD m 0 + s.getD m 0), by rw [outW, hr]; simp [List.append_assoc]⟩
theorem catW_split (s : List UInt32) (k m : Nat) (h : k < m) : ∃ r, catW s m = catW s k ++ le4 (s.getD k 0) ++ r := by
  induction m with
  | zero => omega
  | succ m ih =>
    by_cases hk : k = m
    · subst hk; exact ⟨[], by simp [catW]⟩
    · obtain ⟨r, hr⟩ := ih (by omega)
      exact ⟨r ++ le4 (s.getD m 0), by rw [catW, hr]; simp [List.append_assoc]⟩
theorem lessOf_out (t s : List UInt32) (m : Nat) : ∀ k, k ≤ m → lessOf (outW t s m) (catW s m) k = catW t k
  | 0, _ => rfl
  | k + 1, hk => by
    obtain ⟨r1, h1⟩ := outW_split t s k m (by omega)
    obtain ⟨r2, h2⟩ := catW_split s k m (by omega)
    simp only [lessOf, catW]
    rw [lessOf_out t s m k (by omega), lessWord_le4 h1 h2 (4 * k) (outW_len _ _ _) (catW_len _ _)]
    congr 2
    generalize t.getD k 0 = a; generalize s.getD k 0 = b
    grind
/-! ### What the rounds begin with, as bytes -/
theorem fillW_get (l : List UInt8) (base : Nat) (s : List UInt32) (j : Nat) : ∀ k, base + k ≤ s.length → (fillW l base s k).getD j 0 = if base ≤ j ∧ j < base + k then wd (l.drop (4 * (j - base))) else s.getD j 0
  | 0, _ => by rw [if_neg (by omega)]; rfl
  | k + 1, hk => by
    have ih := fillW_get l base s j k (by omega)
    simp only [fillW]
    by_cases hj : base + k = j
    · subst hj
      have hlt : base + k < (fillW l base s k).length := by rw [fillW_len]; omega
      rw [if_pos (by omega)]
      simp [hlt]
    · rw [getD_set_ne' hj, ih]
      by_cases h1 : base ≤ j ∧ j < base + k
      · rw [if_pos h1, if_pos (by omega)]
      · rw [if_neg h1, if_neg (by omega)]
theorem initW_get (key : List UInt8) (n : Int) (nonce : List UInt8) (j : Nat) (hj : j < 16) : (initW key n nonce).getD j 0 =
    if 13 ≤ j then wd (nonce.drop (4 * (j - 13))) else if j = 12 then u32of n else if 4 ≤ j then wd (key.drop (4 * (j - 4))) else consts.getD j 0 := by
  unfold initW
  have l1 : (fillW key 4 consts 8).length = 16 := by rw [fillW_len]; rfl
  rw [fillW_get nonce 13 _ j 3 (by rw [List.length_set, l1]; omega)]
  by_cases h1 : 13 ≤ j
  · rw [if_pos (by omega), if_pos h1]
  · rw [if_neg (by omega), if_neg h1]
    by_cases h2 : j = 12
    · subst h2; rw [if_pos rfl]; simp [l1]
    · rw [if_neg h2, getD_set_ne' (by omega), fillW_get key 4 consts j 8 (by decide)]
      by_cases h3 : 4 ≤ j
      · rw [if_pos (by omega), if_pos h3]
      · rw [if_neg (by omega), if_neg h3]
theorem take_add4 (l : List UInt8) (j : Nat) : l.take (4 * (j + 1)) = l.take (4 * j) ++ (l.drop (4 * j)).take 4 := by
  rw [show 4 * (j + 1) = 4 * j + 4 by omega, List.take_add]
theorem le4_u32of {n : Int} (h0 : 0 ≤ n) (h1 : n < 4294967296) : le4 (u32of n) = num4 n := by
  obtain ⟨m, rfl⟩ := Int.eq_ofNat_of_zero_le h0
  have e : (u32of (m : Int)).toNat = m := by simp [u32of]; omega
  rw [toNat_le4, e]
  have e8 : ∀ k : Nat, UInt8.ofNat (m / 2 ^ k) = u8of ((m : Int) / 2 ^ k) := by
    intro k
    have hc : ((m : Int) / 2 ^ k) = ((m / 2 ^ k : Nat) : Int) := by
      rw [Int.natCast_ediv, Int.natCast_pow]; rfl
    rw [hc]; unfold u8of; rw [u8_eq]; omega
  have a0 := e8 0; have a1 := e8 8; have a2 := e8 16; have a3 := e8 24
  simp only [Nat.pow_zero, Nat.div_one, Int.pow_zero, Int.ediv_one] at a0
  simp only [num4]
  rw [← a1, ← a2, ← a3, ← a0]
theorem catW_init (key : List UInt8) (n : Int) (nonce : List UInt8) (hk : key.length = 32) (hn : nonce.length = 12) (h0 : 0 ≤ n) (h1 : n < 4294967296) : catW (initW key n nonce) 16 = beganOf key n nonce := by
  obtain ⟨s, es⟩ : ∃ s, s = initW key n nonce := ⟨_, rfl⟩
  have g := initW_get key n nonce
  rw [← es] at g ⊢
  have c4 : catW s 4 = expand := by
    have q : ∀ j, j < 4 → s.getD j 0 = consts.getD j 0 := fun j hj => by
      rw [g j (by omega), if_neg (by omega), if_neg (by omega), if_neg (by omega)]
    simp only [catW, q 0 (by omega), q 1 (by omega), q 2 (by omega), q 3 (by omega)]
    decide
  have ck : ∀ j, j ≤ 8 → catW s (4 + j) = expand ++ key.take (4 * j) := by
    intro j
    induction j with
    | zero => intro _; simpa using c4
    | succ j ih =>
      intro hj
      rw [show 4 + (j + 1) = (4 + j) + 1 by omega, catW, ih (by omega), g (4 + j) (by omega), if_neg (by omega), if_neg (by omega), if_pos (by omega), show 4 + j - 4 = j by omega, le4_wd (by rw [List.length_drop]; omega), take_add4, List.append_assoc]
  have c13 : catW s 13 = expand ++ key ++ num4 n := by
    rw [show (13 : Nat) = 12 + 1 from rfl, catW, ck 8 (by omega), g 12 (by omega), if_neg (by omega), if_pos rfl, le4_u32of h0 h1, List.take_of_length_le (by omega)]
  have cn : ∀ j, j ≤ 3 → catW s (13 + j) = expand ++ key ++ num4 n ++ nonce.take (4 * j) := by
    intro j
    induction j with
    | zero => intro _; simpa using c13
    | succ j ih =>
      intro hj
      rw [show 13 + (j + 1) = (13 + j) + 1 by omega, catW, ih (by omega), g (13 + j) (by omega), if_pos (by omega), show 13 + j - 13 = j by omega, le4_wd (by rw [List.length_drop]; omega), take_add4, List.append_assoc]
  have := cn 3 (by omega)
  rw [List.take_of_length_le (by omega)] at this
  exact this
/-- THE LAW: two blocks, each less what its rounds began with, are the same just if all three are. -/
theorem less_iff {key other nonce more : List UInt8} {n m : Int} (hk : key.length = 32) (hk' : other.length = 32) (hn : nonce.length = 12) (hn' : more.length = 12) (h0 : 0 ≤ n) (h1 : n < 4294967296) (h0' : 0 ≤ m) (h1' : m < 4294967296) :
    lessOf (blockOf key n nonce) (beganOf key n nonce) 16 = lessOf (blockOf other m more) (beganOf other m more) 16 ↔ key = other ∧ n = m ∧ nonce = more := by
  constructor
  · intro h
    rw [← catW_init key n nonce hk hn h0 h1, ← catW_init other m more hk' hn' h0' h1'] at h
    unfold blockOf at h
    rw [lessOf_out _ _ 16 16 (by omega), lessOf_out _ _ 16 16 (by omega)] at h
    have h2 := catW_inj (by rw [rounds_len, initW_len]) (by rw [rounds_len, initW_len]) h
    have h3 := rounds_inj (initW_len _ _ _) (initW_len _ _ _) h2
    have h4 : beganOf key n nonce = beganOf other m more := by
      rw [← catW_init key n nonce hk hn h0 h1, ← catW_init other m more hk' hn' h0' h1', h3]
    unfold beganOf at h4
    have hnum : (num4 n).length = (num4 m).length := rfl
    obtain ⟨h5, h6⟩ := List.append_inj h4 (by simp only [List.length_append, hk, hk', hnum])
    obtain ⟨h7, h8⟩ := List.append_inj h5 (by simp only [List.length_append, hk, hk'])
    obtain ⟨_, h10⟩ := List.append_inj h7 rfl
    rw [← le4_u32of h0 h1, ← le4_u32of h0' h1'] at h8
    have h9 := congrArg UInt32.toNat (le4_inj h8)
    simp only [u32of, UInt32.toNat_ofNat'] at h9
    exact ⟨h10, by omega, h6⟩
  · rintro ⟨rfl, rfl, rfl⟩; rfl
end Go.Proofs.YtkolfgmpmnelmabDoor

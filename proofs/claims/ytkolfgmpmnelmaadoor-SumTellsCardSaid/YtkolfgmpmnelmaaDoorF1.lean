/-
  Walks: strconv.FormatInt at base 16, of numbers from 256 to 511; ref.Hex.
-/
import Derived.Test.YtkolfgmpmnelmaaDoorR5
import Derived.Test.YtkolfgmpmnelmaaDoorVr
namespace Go.Proofs.YtkolfgmpmnelmaaDoor
open Go Vx Go.Proofs
set_option linter.unusedVariables false
set_option maxRecDepth 4000
set_option maxHeartbeats 400000

/-- The table of the last bit's place, as it is laid: its place 15 has 4. -/
def TabAt (w : World) : Prop := w.cell? ⟨5, 15, none⟩ = some (.int .u8 4)
theorem TabAt.lt {w : World} (h : TabAt w) : 5 < w.heap.size := by
  rcases Nat.lt_or_ge 5 w.heap.size with h' | h'
  · exact h'
  · simp [TabAt, World.cell?, Array.getElem?_eq_none h'] at h
theorem TabAt.keep {w w' : World} {L : Blocks} (h : TabAt w) (hs : St w L w') (hL : 5 ∉ keys L) : TabAt w' := by
  have h1 := World.cell?_of_block (a := ⟨5, 15, none⟩) (hs.fr 5 h.lt hL)
  exact h1.trans h
theorem tz_index : ((((16 : UInt64) &&& ((0 : UInt64) - 16)) * 285870213051353865) >>> UInt64.ofNat 58).toNat = 15 := by decide
theorem tz64_any (w : World) (hT : TabAt w) : C Tryd.prog 90 ⟨[qv 16]⟩ w fun v w' => v = iv 4 ∧ St w [] w' := by
  refine C_enter (n := 14) Tryd.func90 rfl rfl rfl (fun w1 hs1 => ?_)
  refine W_seq ?_
  refine W_region ?_
  refine L0 (wanted_none rfl) rfl (y_assign (v := Value.int _ _) rfl rfl) ?_
  refine Lnil ?_
  refine W_seq ?_
  refine W_seq ?_
  refine W_region ?_
  refine L0 (wanted_none rfl) rfl (y_move (v := Value.int _ _) rfl rfl) ?_
  refine L0 (wanted_none rfl) rfl (y_eq rfl rfl rfl) ?_
  refine Lnil ?_
  refine Wkn (t := 4) (b0 := false) rfl (by rfl) (fun h2 => ?_)
  refine W_condF rfl h2 ?_
  refine W_skip ?_
  refine W_seq ?_
  refine W_region ?_
  refine L0 (wanted_none rfl) rfl (y_move (v := Value.int _ _) rfl rfl) ?_
  refine L0 (wanted_none rfl) rfl (y_move (v := Value.int _ _) rfl rfl) ?_
  refine L0 (wanted_none rfl) rfl (y_neg64u rfl rfl) ?_
  refine L0 (wanted_none rfl) rfl (y_and64u rfl rfl rfl) ?_
  refine L0 (wanted_none rfl) rfl (y_mul64u (q' := 285870213051353865) rfl rfl rfl) ?_
  refine L0 (wanted_none rfl) rfl (y_shr64 rfl rfl rfl (s := 58) (by first | rfl | omega) (by omega)) ?_
  refine L0 (wanted_none rfl) rfl (y_indexArr rfl Tryd.underlying161 sz5 rfl rfl (by omega) (by rw [tz_index]; decide)) ?_
  refine L1 (wanted_none rfl) rfl hs1 ((y_loadOld (v := bv 4) rfl Tryd.underlying5 rfl rfl (by rw [tz_index]; exact hT) (by simp [keys]))) ?_
  refine L0 (wanted_none rfl) rfl (y_c8toi rfl Tryd.underlying5 Tryd.underlying3 rfl) ?_
  refine L0 (wanted_none rfl) rfl (y_assign (v := Value.int _ _) rfl rfl) ?_
  refine Lnil ?_
  refine W_ret ?_
  refine fin1 (fn := Tryd.f90) rfl rfl ?_
  exact ⟨rfl, hs1⟩
theorem tz_any (w : World) (hT : TabAt w) : C Tryd.prog 86 ⟨[qv 16]⟩ w fun v w' => v = iv 4 ∧ St w [] w' := by
  refine C_enter (n := 8) Tryd.func86 rfl rfl rfl (fun w1 hs1 => ?_)
  refine W_seq ?_
  refine W_region ?_
  refine L0 (wanted_none rfl) rfl (y_assign (v := Value.int _ _) rfl rfl) ?_
  refine Lnil ?_
  refine W_seq ?_
  refine W_condF rfl rfl ?_
  refine W_skip ?_
  refine W_seq ?_
  refine W_region ?_
  refine L0 (wanted_none rfl) rfl (y_move (v := Value.int _ _) rfl rfl) ?_
  refine Lc (wanted_none rfl) (c_call rfl rfl rfl Tryd.func90 (by kernel_rfl) rfl (tz64_any w1 (hT.keep hs1 (by simp [keys]))) rfl ?_)
  rintro _ w2 ⟨rfl, hc3⟩
  have hs4 := hs1.call0 hc3
  refine L0 (wanted_none rfl) rfl (y_assign (v := Value.int _ _) rfl rfl) ?_
  refine Lnil ?_
  refine W_ret ?_
  refine fin1 (fn := Tryd.f86) rfl rfl ?_
  exact ⟨rfl, hs4⟩
/-! a number at base 16 -/
def dig36 : List UInt8 := [48, 49, 50, 51, 52, 53, 54, 55, 56, 57, 97, 98, 99, 100, 101, 102, 103, 104, 105, 106, 107, 108, 109, 110, 111, 112, 113, 114, 115, 116, 117, 118, 119, 120, 121, 122]
def sh4 (q : UInt64) : Nat → UInt64
  | 0 => q
  | k + 1 => sh4 q k >>> UInt64.ofNat 4
theorem sh4_nat (q : UInt64) : ∀ k, (sh4 q k).toNat = q.toNat / 16 ^ k
  | 0 => by simp [sh4]
  | k + 1 => by
    have e : (UInt64.ofNat 4).toNat % 64 = 4 := rfl
    rw [sh4, UInt64.toNat_shiftRight, sh4_nat q k, e, Nat.shiftRight_eq_div_pow, show (2 : Nat) ^ 4 = 16 from rfl, Nat.div_div_eq_div_mul, ← Nat.pow_succ]
/-- The digits, from the last place on. -/
def arr16 (q : UInt64) : Nat → List UInt8
  | 0 => List.replicate 65 0
  | k + 1 => (arr16 q k).set (64 - k) (dig36.getD (sh4 q k &&& 15).toNat 0)
theorem arr16_len (q : UInt64) : ∀ k, (arr16 q k).length = 65
  | 0 => rfl
  | k + 1 => by rw [arr16, List.length_set, arr16_len q k]
theorem and15 (q : UInt64) : (q &&& 15).toNat = q.toNat % 16 := by
  rw [UInt64.toNat_and]
  have e : (15 : UInt64).toNat = 2 ^ 4 - 1 := rfl
  rw [e, Nat.and_two_pow_sub_one_eq_mod]
@[reducible] def bA (l : List UInt8) : Array Value := ⟨l.map bv⟩
theorem bA_set (l : List UInt8) (i : Int) (j : Nat) (h : i.toNat = j) (x : UInt8) : (bA l).setIfInBounds (0 + i.toNat * 1) (bv x) = bA (l.set j x) := by
  subst h; simp [bA, List.map_set]
theorem bA_size (l : List UInt8) : (bA l).size = l.length := by simp [bA]
def fin16 (q : UInt64) : List UInt8 := (arr16 q 2).set 62 (dig36.getD (sh4 q 2).toNat 0)
theorem drop_set_last {l : List UInt8} {a b c : UInt8} (h : l.length = 65) : (((l.set 64 a).set 63 b).set 62 c).drop 62 = [c, b, a] := by
  apply List.ext_getElem?
  intro i
  rw [List.getElem?_drop]
  simp only [List.getElem?_set, List.length_set, h]
  match i with
  | 0 => rfl
  | 1 => rfl
  | 2 => rfl
  | i + 3 =>
    rw [if_neg (by omega), if_neg (by omega), if_neg (by omega), List.getElem?_eq_none (by omega)]
    simp
theorem dig36_eq : ∀ n, n < 16 → dig36.getD n 0 = hexDigits.getD n 0 := by decide
theorem fin16_eq (c : UInt8) (q : UInt64) (hq : q.toNat = 256 + c.toNat) : (fin16 q).drop 62 = 49 :: hex2 c := by
  have hc := c.toNat_lt
  unfold fin16 arr16 arr16
  rw [drop_set_last rfl]
  have e0 : (sh4 q 0 &&& 15).toNat = (c &&& 15).toNat := by
    rw [and15, sh4_nat, UInt8.toNat_and, hq]
    have e : (15 : UInt8).toNat = 2 ^ 4 - 1 := rfl
    rw [e, Nat.and_two_pow_sub_one_eq_mod]; omega
  have e1 : (sh4 q 1 &&& 15).toNat = (c >>> 4).toNat := by
    rw [and15, sh4_nat, UInt8.toNat_shiftRight, hq]
    have e : (4 : UInt8).toNat % 8 = 4 := rfl
    rw [e, Nat.shiftRight_eq_div_pow]; omega
  have e2 : (sh4 q 2).toNat = 1 := by rw [sh4_nat, hq]; omega
  have l0 : (c &&& 15).toNat < 16 := and15_lt c
  have l1 : (c >>> 4).toNat < 16 := shr4_lt c
  rw [e0, e1, e2, dig36_eq _ l0, dig36_eq _ l1]; rfl
theorem pow2_any (w : World) : C Tryd.prog 85 ⟨[iv 16]⟩ w fun v w' => v = .bool true ∧ St w [] w' := by
  refine C_enter (n := 8) Tryd.func85 rfl rfl rfl (fun w1 hs1 => ?_)
  refine W_seq ?_
  refine W_region ?_
  refine L0 (wanted_none rfl) rfl (y_assign (v := Value.bool _) rfl rfl) ?_
  refine Lnil ?_
  refine W_seq ?_
  refine W_region ?_
  refine L0 (wanted_none rfl) rfl (y_move (v := Value.int _ _) rfl rfl) ?_
  refine L0 (wanted_none rfl) rfl (y_move (v := Value.int _ _) rfl rfl) ?_
  refine L0 (wanted_none rfl) rfl (y_sub64 rfl rfl rfl (by omega)) ?_
  refine L0 (wanted_none rfl) rfl (y_andi64 rfl rfl rfl) ?_
  refine L0 (wanted_none rfl) rfl (y_eq rfl rfl rfl) ?_
  refine L0 (wanted_none rfl) rfl (y_assign (v := Value.bool _) rfl rfl) ?_
  refine Lnil ?_
  refine W_ret ?_
  refine fin1 (fn := Tryd.f85) rfl rfl ?_
  exact ⟨congrArg Value.bool (by decide), hs1⟩
theorem fbits_any (c : UInt8) (q : UInt64) (hq : q.toNat = 256 + c.toNat) (w : World) (hT : TabAt w) :
    C Tryd.prog 76 ⟨[.slice none 0 0, qv q, iv 16, .bool false, .bool false]⟩ w fun v w' => v = .tuple #[.slice none 0 0, str (49 :: hex2 c)] ∧ St w [] w' := by
  have hc := c.toNat_lt
  have htl := hT.lt
  refine C_enter (n := 102) Tryd.func76 rfl rfl rfl (fun w1 hs1 => ?_)
  refine W_seq ?_
  refine W_region ?_
  refine L0 (wanted_none rfl) rfl (y_assign (v := Value.slice _ _ _) rfl rfl) ?_
  refine L0 (wanted_none rfl) rfl (y_assign (v := Value.string ⟨⟨_⟩⟩) rfl rfl) ?_
  refine Lnil ?_
  refine W_seq ?_
  refine W_seq ?_
  refine W_region ?_
  refine L0 (wanted_none rfl) rfl (y_move (v := Value.int _ _) rfl rfl) ?_
  refine L0 (wanted_none rfl) rfl (y_lt rfl rfl rfl) ?_
  refine L0 (wanted_none rfl) rfl (y_move (v := Value.bool _) rfl rfl) ?_
  refine Lkn (t := 21) (b0 := false) rfl (by rfl) (fun h2 => ?_)
  refine L0 (wanted_yesB rfl rfl rfl h2) rfl (y_move (v := Value.int _ _) rfl rfl) ?_
  refine L0 (wanted_yesB rfl rfl rfl h2) rfl (y_eq rfl rfl rfl) ?_
  refine L0 (wanted_none rfl) rfl (y_pickF rfl rfl h2 rfl) ?_
  refine L0 (wanted_none rfl) rfl (y_move (v := Value.bool _) rfl rfl) ?_
  refine Lkn (t := 25) (b0 := false) rfl (by rfl) (fun h3 => ?_)
  refine L0 (wanted_yesB rfl rfl rfl h3) rfl (y_move (v := Value.int _ _) rfl rfl) ?_
  refine L0 (wanted_yesB rfl rfl rfl h3) rfl (y_gt rfl rfl rfl) ?_
  refine L0 (wanted_none rfl) rfl (y_pickF rfl rfl h3 rfl) ?_
  refine Lnil ?_
  refine Wkn (t := 28) (b0 := false) rfl (by rfl) (fun h4 => ?_)
  refine W_condF rfl h4 ?_
  refine W_skip ?_
  refine W_seq ?_
  refine W_region ?_
  refine Lc (wanted_none rfl) (c_alloc hs1 rfl rfl zr154 (fun b5 w6 hbb5 hs7 => ?_))
  change St w [(_, .cells (bA (arr16 q 0)) 154 (0, 0))] _ at hs7
  refine Lnil ?_
  refine W_seq ?_
  refine W_region ?_
  refine L0 (wanted_none rfl) rfl (y_assign (v := Value.int _ _) rfl rfl) ?_
  refine Lnil ?_
  refine W_seq ?_
  refine W_seq ?_
  refine W_region ?_
  refine L0 (wanted_none rfl) rfl (y_move (v := Value.bool _) rfl rfl) ?_
  refine Lnil ?_
  refine Wkn (t := 30) (b0 := false) rfl (by rfl) (fun h8 => ?_)
  refine W_condF rfl h8 ?_
  refine W_skip ?_
  refine W_seq ?_
  refine W_seq ?_
  refine W_region ?_
  refine L0 (wanted_none rfl) rfl (y_move (v := Value.int _ _) rfl rfl) ?_
  refine Lc (wanted_none rfl) (c_call rfl rfl rfl Tryd.func85 (by kernel_rfl) rfl (pow2_any w6) rfl ?_)
  rintro _ w9 ⟨rfl, hc10⟩
  have hs11 := hs7.call0 hc10
  refine Lnil ?_
  refine Wkn (t := 34) (b0 := true) rfl (by rfl) (fun h12 => ?_)
  refine W_condT rfl h12 ?_
  refine W_seq ?_
  refine W_region ?_
  refine L0 (wanted_none rfl) rfl (y_move (v := Value.int _ _) rfl rfl) ?_
  refine L0 (wanted_none rfl) rfl (y_cito64 rfl Tryd.underlying3 Tryd.underlying64 rfl) ?_
  refine Lc (wanted_none rfl) (c_call rfl rfl rfl Tryd.func86 (by kernel_rfl) rfl (tz_any w9 (hT.keep hs11 (by have := hbb5; simp [keys]; omega))) rfl ?_)
  rintro _ w13 ⟨rfl, hc14⟩
  have hs15 := hs11.call0 hc14
  refine L0 (wanted_none rfl) rfl (y_cito64 rfl Tryd.underlying3 Tryd.underlying64 rfl) ?_
  refine L0 (wanted_none rfl) rfl (y_assign (v := Value.int _ _) rfl rfl) ?_
  refine Lnil ?_
  refine W_seq ?_
  refine W_region ?_
  refine L0 (wanted_none rfl) rfl (y_move (v := Value.int _ _) rfl rfl) ?_
  refine L0 (wanted_none rfl) rfl (y_cito64 rfl Tryd.underlying3 Tryd.underlying61 rfl) ?_
  refine L0 (wanted_none rfl) rfl (y_assign (v := Value.int _ _) rfl rfl) ?_
  refine Lnil ?_
  refine W_seq ?_
  refine W_region ?_
  refine L0 (wanted_none rfl) rfl (y_move (v := Value.int _ _) rfl rfl) ?_
  refine L0 (wanted_none rfl) rfl (y_cito64 rfl Tryd.underlying3 Tryd.underlying64 rfl) ?_
  refine L0 (wanted_none rfl) rfl (y_sub64u (q' := 1) rfl rfl rfl) ?_
  refine L0 (wanted_none rfl) rfl (y_assign (v := Value.int _ _) rfl rfl) ?_
  refine Lnil ?_
  refine W_seq ?_
  refine W_block ?_
  refine W_loop (G := Nat) (fun k aL wl => ∃ e, aL = A 102 ((13, iv (65 - (k : Int))) :: (1, qv (sh4 q k)) :: (12, pv b5 0) :: (14, qv (u64of 4)) :: (15, qv (u64of 16)) :: (16, qv (u64of 16 - 1)) :: (10, .slice none 0 0) :: (11, str []) :: (0, .slice none 0 0) :: (3, .bool false) :: (4, .bool false) :: e) ∧ k ≤ 2 ∧ St w [(b5, .cells (bA (arr16 q k)) 154 (0, 0))] wl) (fun k => 3 - k) (0) ?_ ?_
  · exact ⟨_, A_pins _ _ [13, 1, 12, 14, 15, 16, 10, 11, 0, 3, 4], by omega, hs15⟩
  rintro k _ w16 ⟨ehs17, rfl, hk, hs17⟩
  have hsh := sh4_nat q k
  have h16 : ((u64of 16).toNat : Int) = 16 := rfl
  have hk2 : k = 2 → q.toNat / 16 ^ k = 1 := fun h => by rw [h, hq]; omega
  have hk1 : k < 2 → 16 ≤ q.toNat / 16 ^ k := fun h => by
    have h01 : k = 0 ∨ k = 1 := by omega
    rcases h01 with rfl | rfl <;> omega
  have hla := arr16_len q k
  refine W_seq ?_
  refine W_seq ?_
  refine W_region ?_
  refine L0 (wanted_none rfl) rfl (y_move (v := Value.int _ _) rfl rfl) ?_
  refine L0 (wanted_none rfl) rfl (y_move (v := Value.int _ _) rfl rfl) ?_
  refine L0 (wanted_none rfl) rfl (y_ge rfl rfl rfl) ?_
  refine Lnil ?_
  refine Wsp (t := 46) rfl (fun h18 => ?_) (fun h18 => ?_)
  · have h18' := h18
    first | replace h18' := of_decide_eq_true h18' | replace h18' := bnT' h18' | skip
    refine W_condT rfl h18 ?_
    refine W_skip ?_
    refine W_block ?_
    refine W_seq ?_
    refine W_region ?_
    refine L0 (wanted_none rfl) rfl (y_move (v := Value.int _ _) rfl rfl) ?_
    refine L0 (wanted_none rfl) rfl (y_sub64 rfl rfl rfl (by omega)) ?_
    refine L0 (wanted_none rfl) rfl (y_assign (v := Value.int _ _) rfl rfl) ?_
    refine Lnil ?_
    refine W_seq ?_
    refine W_region ?_
    refine L0 (wanted_none rfl) rfl (y_move (v := Value.int _ _) rfl rfl) ?_
    refine L0 (wanted_none rfl) rfl (y_move (v := Value.int _ _) rfl rfl) ?_
    refine L0 (wanted_none rfl) rfl (y_move (v := Value.int _ _) rfl rfl) ?_
    refine L0 (wanted_none rfl) rfl (y_and64u rfl rfl rfl) ?_
    refine L0 (wanted_none rfl) rfl (y_sindex rfl Tryd.underlying9 rfl rfl (by omega) (by rw [show (u64of 16 - 1) = 15 from rfl, and15]; simp only [List.length_cons, List.length_nil]; omega)) ?_
    refine L0 (wanted_none rfl) rfl (y_indexArr rfl Tryd.underlying154 sz5 rfl rfl (by omega) (by omega)) ?_
    refine Lc (wanted_none rfl) (c_store (i := 0) (v := bv _) hs17 rfl rfl rfl rfl sz5 rfl rfl (by rw [bA_size]; omega) (Fz.zero _) (fun w19 hs20 => ?_))
    rw [List.set_cons_zero, bA_set _ _ (64 - k) (by omega)] at hs20
    refine Lnil ?_
    refine W_region ?_
    refine L0 (wanted_none rfl) rfl (y_move (v := Value.int _ _) rfl rfl) ?_
    refine L0 (wanted_none rfl) rfl (y_move (v := Value.int _ _) rfl rfl) ?_
    refine L0 (wanted_none rfl) rfl (y_shr64 rfl rfl rfl (s := 4) (by first | rfl | omega) (by omega)) ?_
    refine L0 (wanted_none rfl) rfl (y_assign (v := Value.int _ _) rfl rfl) ?_
    refine Lnil ?_
    exact ⟨k + 1, by omega, _, A_c (iv_eq (by (try dsimp only); omega)) (A_c rfl (A_c rfl (A_c rfl (A_c rfl (A_c rfl (A_c rfl (A_c rfl (A_c rfl (A_c rfl (A_c rfl (rfl))))))))))), by omega, hs20⟩
  · have h18' := h18
    first | replace h18' := of_decide_eq_false h18' | replace h18' := bnF' h18' | skip
    refine W_condF rfl h18 ?_
    refine W_exit ?_
    refine W_seq ?_
    have hkk : k = 2 := by omega
    subst hkk
    refine W_region ?_
    refine L0 (wanted_none rfl) rfl (y_move (v := Value.int _ _) rfl rfl) ?_
    refine L0 (wanted_none rfl) rfl (y_sub64 rfl rfl rfl (by omega)) ?_
    refine L0 (wanted_none rfl) rfl (y_assign (v := Value.int _ _) rfl rfl) ?_
    refine Lnil ?_
    refine W_region ?_
    refine L0 (wanted_none rfl) rfl (y_move (v := Value.int _ _) rfl rfl) ?_
    refine L0 (wanted_none rfl) rfl (y_move (v := Value.int _ _) rfl rfl) ?_
    refine L0 (wanted_none rfl) rfl (y_sindex rfl Tryd.underlying9 rfl rfl (by omega) (by simp only [List.length_cons, List.length_nil]; omega)) ?_
    refine L0 (wanted_none rfl) rfl (y_indexArr rfl Tryd.underlying154 sz5 rfl rfl (by omega) (by omega)) ?_
    refine Lc (wanted_none rfl) (c_store (i := 0) (v := bv _) hs17 rfl rfl rfl rfl sz5 rfl rfl (by rw [bA_size]; omega) (Fz.zero _) (fun w21 hs22 => ?_))
    rw [List.set_cons_zero, bA_set _ _ 62 (by omega)] at hs22
    change St w [(_, .cells (bA (fin16 q)) _ _)] _ at hs22
    have hfin := fin16_eq c q hq
    refine Lnil ?_
    refine W_seq ?_
    refine W_seq ?_
    refine W_region ?_
    refine L0 (wanted_none rfl) rfl (y_move (v := Value.bool _) rfl rfl) ?_
    refine Lnil ?_
    refine Wkn (t := 89) (b0 := false) rfl (by rfl) (fun h23 => ?_)
    refine W_condF rfl h23 ?_
    refine W_skip ?_
    refine W_seq ?_
    refine W_seq ?_
    refine W_region ?_
    refine L0 (wanted_none rfl) rfl (y_move (v := Value.bool _) rfl rfl) ?_
    refine Lnil ?_
    refine Wkn (t := 94) (b0 := false) rfl (by rfl) (fun h24 => ?_)
    refine W_condF rfl h24 ?_
    refine W_skip ?_
    refine W_seq ?_
    refine W_region ?_
    refine L0 (wanted_none rfl) rfl (y_move (v := Value.int _ _) rfl rfl) ?_
    refine L0 (wanted_none rfl) rfl (y_slArrLo rfl Tryd.underlying154 sz5 rfl rfl (by omega)) ?_
    refine L1 (wanted_none rfl) rfl hs22 (y_bsub rfl Tryd.underlying58 Tryd.underlying5 Tryd.underlying9 rfl (l := 49 :: hex2 c) rfl (List.mem_singleton.2 rfl) (by show ((bA (fin16 q)).toList.drop 62).take 3 = _; rw [show (bA (fin16 q)).toList = (fin16 q).map bv from rfl, ← List.map_drop, hfin]; rfl)) ?_
    refine L0 (wanted_none rfl) rfl (y_assign (v := Value.string ⟨⟨_⟩⟩) rfl rfl) ?_
    refine Lnil ?_
    refine W_ret ?_
    refine fin2 (fn := Tryd.f76) rfl rfl rfl ?_
    exact ⟨rfl, hs22.drop (.inl hbb5)⟩
theorem ifmt_any (c : UInt8) (w : World) (hT : TabAt w) :
    C Tryd.prog 62 ⟨[iv ((c.toNat : Int) + 256), iv 16]⟩ w fun v w' => v = str (49 :: hex2 c) ∧ St w [] w' := by
  have hc := c.toNat_lt
  have hq : (u64of ((c.toNat : Int) + 256)).toNat = 256 + c.toNat := by simp [u64of]; omega
  refine C_enter (n := 54) Tryd.func62 rfl rfl rfl (fun w1 hs1 => ?_)
  refine W_seq ?_
  refine W_region ?_
  refine L0 (wanted_none rfl) rfl (y_assign (v := Value.string ⟨⟨_⟩⟩) rfl rfl) ?_
  refine Lnil ?_
  refine W_seq ?_
  refine W_seq ?_
  refine W_region ?_
  refine L0 (wanted_none rfl) rfl (y_move (v := Value.int _ _) rfl rfl) ?_
  refine L0 (wanted_none rfl) rfl (y_eq rfl rfl rfl) ?_
  refine Lnil ?_
  refine Wkn (t := 11) (b0 := false) rfl (by rfl) (fun h2 => ?_)
  refine W_condF rfl h2 ?_
  refine W_skip ?_
  refine W_seq ?_
  refine W_region ?_
  refine L0 (wanted_none rfl) rfl (y_move (v := Value.int _ _) rfl rfl) ?_
  refine L0 (wanted_none rfl) rfl (y_cito64 rfl Tryd.underlying2 Tryd.underlying61 rfl) ?_
  refine L0 (wanted_none rfl) rfl (y_move (v := Value.int _ _) rfl rfl) ?_
  refine L0 (wanted_none rfl) rfl (y_move (v := Value.int _ _) rfl rfl) ?_
  refine L0 (wanted_none rfl) rfl (y_lt rfl rfl rfl) ?_
  refine Lc (wanted_none rfl) (c_call rfl rfl rfl Tryd.func76 (by kernel_rfl) rfl (fbits_any c _ hq w1 (hT.keep hs1 (by simp [keys]))) rfl ?_)
  rintro _ w3 ⟨rfl, hc4⟩
  have hs5 := hs1.call0 hc4
  refine L0 (wanted_none rfl) rfl (y_move (v := Value.tuple ⟨_⟩) rfl rfl) ?_
  refine L0 (wanted_none rfl) rfl (y_extract rfl rfl rfl) ?_
  refine L0 (wanted_none rfl) rfl (y_extract rfl rfl rfl) ?_
  refine L0 (wanted_none rfl) rfl (y_assign (v := Value.slice _ _ _) rfl rfl) ?_
  refine L0 (wanted_none rfl) rfl (y_assign (v := Value.string ⟨⟨_⟩⟩) rfl rfl) ?_
  refine Lnil ?_
  refine W_seq ?_
  refine W_region ?_
  refine L0 (wanted_none rfl) rfl (y_move (v := Value.string ⟨⟨_⟩⟩) rfl rfl) ?_
  refine L0 (wanted_none rfl) rfl (y_assign (v := Value.string ⟨⟨_⟩⟩) rfl rfl) ?_
  refine Lnil ?_
  refine W_ret ?_
  refine fin1 (fn := Tryd.f62) rfl rfl ?_
  exact ⟨rfl, hs5⟩
theorem fmt_any (c : UInt8) (w : World) (hT : TabAt w) :
    C Tryd.prog 50 ⟨[iv ((c.toNat : Int) + 256), iv 16]⟩ w fun v w' => v = str (49 :: hex2 c) ∧ St w [] w' := by
  refine C_enter (n := 8) Tryd.func50 rfl rfl rfl (fun w1 hs1 => ?_)
  refine W_seq ?_
  refine W_region ?_
  refine L0 (wanted_none rfl) rfl (y_assign (v := Value.string ⟨⟨_⟩⟩) rfl rfl) ?_
  refine Lnil ?_
  refine W_seq ?_
  refine W_region ?_
  refine L0 (wanted_none rfl) rfl (y_move (v := Value.int _ _) rfl rfl) ?_
  refine L0 (wanted_none rfl) rfl (y_move (v := Value.int _ _) rfl rfl) ?_
  refine Lc (wanted_none rfl) (c_call rfl rfl rfl Tryd.func62 (by kernel_rfl) rfl (ifmt_any c w1 (hT.keep hs1 (by simp [keys]))) rfl ?_)
  rintro _ w2 ⟨rfl, hc3⟩
  have hs4 := hs1.call0 hc3
  refine L0 (wanted_none rfl) rfl (y_assign (v := Value.string ⟨⟨_⟩⟩) rfl rfl) ?_
  refine Lnil ?_
  refine W_ret ?_
  refine fin1 (fn := Tryd.f50) rfl rfl ?_
  exact ⟨rfl, hs4⟩
theorem rhex_any (l : List UInt8) (hl : l.length ≤ 1099511627776) (w : World) (hT : TabAt w) :
    C Tryd.prog 31 ⟨[str l]⟩ w fun v w' => v = str (hexOf l) ∧ St w [] w' := by
  refine C_enter (n := 21) Tryd.func31 rfl rfl rfl (fun w1 hs1 => ?_)
  refine W_seq ?_
  refine W_region ?_
  refine L0 (wanted_none rfl) rfl (y_assign (v := Value.string ⟨⟨_⟩⟩) rfl rfl) ?_
  refine Lnil ?_
  refine W_seq ?_
  refine W_region ?_
  refine L0 (wanted_none rfl) rfl (y_assign (v := Value.string ⟨⟨_⟩⟩) rfl rfl) ?_
  refine Lnil ?_
  refine W_seq ?_
  refine W_seq ?_
  refine W_region ?_
  refine L0 (wanted_none rfl) rfl (y_move (v := Value.string ⟨⟨_⟩⟩) rfl rfl) ?_
  refine L0 (wanted_none rfl) rfl (y_len rfl Tryd.underlying9 rfl) ?_
  refine L0 (wanted_none rfl) rfl (y_move (v := Value.int _ _) rfl rfl) ?_
  refine Lnil ?_
  refine W_block ?_
  refine W_loop (G := Nat) (fun i aL wl => ∃ e, aL = A 21 ((7, iv i) :: (6, iv l.length) :: (3, str (hexOf (l.take i))) :: (0, str l) :: e) ∧ i ≤ l.length ∧ St w [] wl) (fun i => l.length - i) (0) ?_ ?_
  · exact ⟨_, A_pins _ _ [7, 6, 3, 0], by omega, hs1⟩
  rintro i _ w2 ⟨ehs3, rfl, hi, hs3⟩
  have hlh := hexOf_len (l.take i)
  have hlt : (l.take i).length = i := by rw [List.length_take]; omega
  have hcl := (l.getD (i : Int).toNat 0).toNat_lt
  refine W_seq ?_
  refine W_region ?_
  refine L0 (wanted_none rfl) rfl (y_lt rfl rfl rfl) ?_
  refine Lnil ?_
  refine W_seq ?_
  refine Wsp (t := 8) rfl (fun h4 => ?_) (fun h4 => ?_)
  · have h4' := h4
    first | replace h4' := of_decide_eq_true h4' | replace h4' := bnT' h4' | skip
    refine W_condT rfl h4 ?_
    refine W_skip ?_
    refine W_seq ?_
    refine W_block ?_
    refine W_seq ?_
    refine W_region ?_
    refine L0 (wanted_none rfl) rfl (y_move (v := Value.int _ _) rfl rfl) ?_
    refine L0 (wanted_none rfl) rfl (y_assign (v := Value.int _ _) rfl rfl) ?_
    refine Lnil ?_
    refine W_region ?_
    refine L0 (wanted_none rfl) rfl (y_move (v := Value.string ⟨⟨_⟩⟩) rfl rfl) ?_
    refine L0 (wanted_none rfl) rfl (y_move (v := Value.string ⟨⟨_⟩⟩) rfl rfl) ?_
    refine L0 (wanted_none rfl) rfl (y_move (v := Value.int _ _) rfl rfl) ?_
    refine L0 (wanted_none rfl) rfl (y_sindex rfl Tryd.underlying9 rfl rfl (by omega) (by omega)) ?_
    refine L0 (wanted_none rfl) rfl (y_c8toi rfl Tryd.underlying5 Tryd.underlying2 rfl) ?_
    refine L0 (wanted_none rfl) rfl (y_add64 rfl rfl rfl (by omega)) ?_
    refine Lc (wanted_none rfl) (c_call rfl rfl rfl Tryd.func50 (by kernel_rfl) rfl (fmt_any (l.getD i 0) w2 (hT.keep hs3 (by simp [keys]))) rfl ?_)
    rintro _ w5 ⟨rfl, hc6⟩
    have hs7 := hs3.call0 hc6
    refine L0 (wanted_none rfl) rfl (y_sslice_lo rfl Tryd.underlying9 rfl rfl (by simp only [List.length_cons]; omega)) ?_
    refine L0 (wanted_none rfl) rfl (y_scat (l' := hex2 (l.getD i 0)) rfl rfl rfl (by rw [show (hex2 (l.getD i 0)).length = 2 from rfl]; omega)) ?_
    refine L0 (wanted_none rfl) rfl (y_assign (v := Value.string ⟨⟨_⟩⟩) rfl rfl) ?_
    refine Lnil ?_
    refine W_region ?_
    refine L0 (wanted_none rfl) rfl (y_add64 rfl rfl rfl (by omega)) ?_
    refine L0 (wanted_none rfl) rfl (y_move (v := Value.int _ _) rfl rfl) ?_
    refine Lnil ?_
    have hms : str (hexOf (l.take i) ++ hex2 (l.getD i 0)) = str (hexOf (l.take (i + 1))) := by rw [hexOf_succ (by omega)]
    exact ⟨i + 1, by (try dsimp only); omega, _, A_c (iv_eq (by (try dsimp only); omega)) (A_c rfl (A_c hms (A_c rfl (rfl)))), by omega, hs7⟩
  · have h4' := h4
    first | replace h4' := of_decide_eq_false h4' | replace h4' := bnF' h4' | skip
    refine W_condF rfl h4 ?_
    refine W_exit ?_
    refine W_seq ?_
    refine W_region ?_
    refine L0 (wanted_none rfl) rfl (y_move (v := Value.string ⟨⟨_⟩⟩) rfl rfl) ?_
    refine L0 (wanted_none rfl) rfl (y_assign (v := Value.string ⟨⟨_⟩⟩) rfl rfl) ?_
    refine Lnil ?_
    refine W_ret ?_
    refine fin1 (fn := Tryd.f31) rfl rfl ?_
    obtain rfl : i = l.length := by omega
    rw [List.take_length]
    exact ⟨rfl, hs3⟩
end Go.Proofs.YtkolfgmpmnelmaaDoor

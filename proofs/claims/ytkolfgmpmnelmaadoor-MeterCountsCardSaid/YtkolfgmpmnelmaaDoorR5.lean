/-
  Walks: ref.Num, ref.R.Mark, ref.R.Key, law.MeterCounts.
-/
import Derived.Test.YtkolfgmpmnelmaaDoorR4
import Derived.Test.YtkolfgmpmnelmaaDoorH5
import Derived.Test.YtkolfgmpmnelmaaDoorB3
import Derived.Test.YtkolfgmpmnelmaaDoorM2
namespace Go.Proofs.YtkolfgmpmnelmaaDoor
open Go Vx Go.Proofs
set_option linter.unusedVariables false
set_option maxRecDepth 4000
set_option maxHeartbeats 400000

/-! numbers as bytes, the last one first -/
def div64 (q : UInt64) : Nat → UInt64
  | 0 => q
  | j + 1 => div64 q j / 256
def numR (q : UInt64) : Nat → List UInt8
  | 0 => []
  | j + 1 => [(div64 q j % 256).toUInt8] ++ numR q j
theorem numR_len (q : UInt64) : ∀ j, (numR q j).length = j
  | 0 => rfl
  | j + 1 => by rw [numR, List.length_append, numR_len q j]; simp; omega
theorem div64_nat (q : UInt64) : ∀ j, (div64 q j).toNat = q.toNat / 256 ^ j
  | 0 => by simp [div64]
  | j + 1 => by
    have e : (256 : UInt64).toNat = 256 := rfl
    rw [div64, UInt64.toNat_div, div64_nat q j, e, Nat.div_div_eq_div_mul, Nat.pow_succ]
theorem div64_byte (q : UInt64) {j : Nat} (h : j < 8) : (div64 q j % 256).toUInt8 = (q >>> UInt64.ofNat (8 * j)).toUInt8 := by
  have e : (256 : UInt64).toNat = 256 := rfl
  have e2 : (UInt64.ofNat (8 * j)).toNat % 64 = 8 * j := by simp; omega
  apply UInt8.toNat_inj.1
  rw [UInt64.toNat_toUInt8, UInt64.toNat_toUInt8, UInt64.toNat_mod, UInt64.toNat_shiftRight, div64_nat, e, e2, Nat.shiftRight_eq_div_pow, Nat.pow_mul, show (2 : Nat) ^ 8 = 256 from rfl]
  omega
theorem numR_num8 (q : UInt64) : numR q 8 = num8 q 8 := by
  simp only [numR, num8, div64_byte q (show 0 < 8 by omega), div64_byte q (show 1 < 8 by omega), div64_byte q (show 2 < 8 by omega), div64_byte q (show 3 < 8 by omega), div64_byte q (show 4 < 8 by omega), div64_byte q (show 5 < 8 by omega), div64_byte q (show 6 < 8 by omega), div64_byte q (show 7 < 8 by omega)]
  rfl
theorem rnum_any (n : Int) (w : World) :
    C Tryd.prog 33 ⟨[iv n]⟩ w fun v w' => v = str (numOf n) ∧ St w [] w' := by
  refine C_enter (n := 20) Tryd.func33 rfl rfl rfl (fun w1 hs1 => ?_)
  refine W_seq ?_
  refine W_region ?_
  refine L0 (wanted_none rfl) rfl (y_assign (v := Value.string ⟨⟨_⟩⟩) rfl rfl) ?_
  refine Lnil ?_
  refine W_seq ?_
  refine W_region ?_
  refine L0 (wanted_none rfl) rfl (y_assign (v := Value.string ⟨⟨_⟩⟩) rfl rfl) ?_
  refine Lnil ?_
  refine W_seq ?_
  refine W_region ?_
  refine L0 (wanted_none rfl) rfl (y_move (v := Value.int _ _) rfl rfl) ?_
  refine L0 (wanted_none rfl) rfl (y_cito64 rfl Tryd.underlying3 Tryd.underlying61 rfl) ?_
  refine L0 (wanted_none rfl) rfl (y_assign (v := Value.int _ _) rfl rfl) ?_
  refine Lnil ?_
  refine W_seq ?_
  refine W_seq ?_
  refine W_region ?_
  refine L0 (wanted_none rfl) rfl (y_move (v := Value.int _ _) rfl rfl) ?_
  refine Lnil ?_
  refine W_block ?_
  refine W_loop (G := Nat) (fun j aL wl => ∃ e, aL = A 20 ((7, iv j) :: (4, qv (div64 (u64of n) j)) :: (3, str (numR (u64of n) j)) :: e) ∧ j ≤ 8 ∧ St w [] wl) (fun j => 8 - j) (0) ?_ ?_
  · exact ⟨_, A_pins _ _ [7, 4, 3], by omega, hs1⟩
  rintro j _ w2 ⟨ehs3, rfl, hj, hs3⟩
  have hlen := numR_len (u64of n) j
  refine W_seq ?_
  refine W_region ?_
  refine L0 (wanted_none rfl) rfl (y_lt rfl rfl rfl) ?_
  refine Lnil ?_
  refine W_seq ?_
  refine Wsp (t := 8) rfl (fun h4 => ?_) (fun h4 => ?_)
  · have h4' := h4
    first | replace h4' := of_decide_eq_true h4' | replace h4' := bnT' h4' | skip
    refine W_condT rfl h4 ?_
    refine W_skip ?_
    refine W_seq ?_
    refine W_block ?_
    refine W_seq ?_
    refine W_region ?_
    refine L0 (wanted_none rfl) rfl (y_move (v := Value.int _ _) rfl rfl) ?_
    refine L0 (wanted_none rfl) rfl (y_rem64u (q' := 256) rfl rfl rfl (by decide)) ?_
    refine L0 (wanted_none rfl) rfl (y_c64to8 rfl Tryd.underlying61 Tryd.underlying5 rfl) ?_
    refine Lc (wanted_none rfl) (c_bs1 (v0 := bv _) hs3 rfl rfl Tryd.underlying58 sz5 zr5 rfl rfl (fun b5 w6 hbb5 hs7 => ?_))
    refine L1 (wanted_none rfl) rfl hs7 (y_bstr rfl Tryd.underlying58 Tryd.underlying5 Tryd.underlying9 rfl (Row.of_block (E := 5) (xs := bs [(div64 (u64of n) j % 256).toUInt8]) hbb5 (by simp)) (fun x hx => by first | exact hx | exact List.mem_cons.2 (.inl (List.mem_singleton.1 hx)) | simp [hx])) ?_
    refine L0 (wanted_none rfl) rfl (y_move (v := Value.string ⟨⟨_⟩⟩) rfl rfl) ?_
    refine L0 (wanted_none rfl) rfl (y_scat rfl rfl rfl (by first | omega | (simp; omega) | (simp only [List.length_append, List.length_cons, List.length_nil]; omega))) ?_
    refine L0 (wanted_none rfl) rfl (y_assign (v := Value.string ⟨⟨_⟩⟩) rfl rfl) ?_
    refine Lnil ?_
    refine W_region ?_
    refine L0 (wanted_none rfl) rfl (y_move (v := Value.int _ _) rfl rfl) ?_
    refine L0 (wanted_none rfl) rfl (y_quo64u (q' := 256) rfl rfl rfl (by decide)) ?_
    refine L0 (wanted_none rfl) rfl (y_assign (v := Value.int _ _) rfl rfl) ?_
    refine Lnil ?_
    refine W_region ?_
    refine L0 (wanted_none rfl) rfl (y_add64 rfl rfl rfl (by omega)) ?_
    refine L0 (wanted_none rfl) rfl (y_move (v := Value.int _ _) rfl rfl) ?_
    refine Lnil ?_
    exact ⟨j + 1, by (try dsimp only); omega, _, A_c (iv_eq (by (try dsimp only); omega)) (A_c rfl (A_c rfl (rfl))), by omega, hs7.drop (.inl hbb5)⟩
  · have h4' := h4
    first | replace h4' := of_decide_eq_false h4' | replace h4' := bnF' h4' | skip
    refine W_condF rfl h4 ?_
    refine W_exit ?_
    refine W_seq ?_
    refine W_region ?_
    refine L0 (wanted_none rfl) rfl (y_move (v := Value.string ⟨⟨_⟩⟩) rfl rfl) ?_
    refine L0 (wanted_none rfl) rfl (y_assign (v := Value.string ⟨⟨_⟩⟩) rfl rfl) ?_
    refine Lnil ?_
    refine W_ret ?_
    refine fin1 (fn := Tryd.f33) rfl rfl ?_
    obtain rfl : j = 8 := by omega
    rw [numR_num8]
    exact ⟨rfl, hs3⟩
theorem rmark_any (k : UInt8) (l : List (List UInt8)) (va : Value) (hbig : (markS [k] l).length ≤ 1099511627776) (hl : l.length ≤ 9223372036854775807) (rb : Nat) (w : World) (hR : RefAt rb w) (hSa : Sl w va l.length (strs l)) :
    C Tryd.prog 34 ⟨[pv rb 0, bv k, va]⟩ w fun v w' => v = str (markOf k l) ∧ St w [] w' := by
  have hrl := hR.lt
  refine C_enter (n := 32) Tryd.func34 rfl rfl rfl (fun w1 hs1 => ?_)
  refine W_seq ?_
  refine W_region ?_
  refine L0 (wanted_none rfl) rfl (y_assign (v := Value.string ⟨⟨_⟩⟩) rfl rfl) ?_
  refine Lnil ?_
  refine W_seq ?_
  refine W_region ?_
  refine L0 (wanted_none rfl) rfl (y_move (v := Value.int _ _) rfl rfl) ?_
  refine Lc (wanted_none rfl) (c_bs1 (v0 := bv _) hs1 rfl rfl Tryd.underlying58 sz5 zr5 rfl rfl (fun b2 w3 hbb2 hs4 => ?_))
  refine L1 (wanted_none rfl) rfl hs4 (y_bstr rfl Tryd.underlying58 Tryd.underlying5 Tryd.underlying9 rfl (Row.of_block (E := 5) (xs := bs [k]) hbb2 (by simp)) (fun x hx => by first | exact hx | exact List.mem_cons.2 (.inl (List.mem_singleton.1 hx)) | simp [hx])) ?_
  refine L0 (wanted_none rfl) rfl (y_assign (v := Value.string ⟨⟨_⟩⟩) rfl rfl) ?_
  refine Lnil ?_
  refine W_seq ?_
  refine W_seq ?_
  refine W_region ?_
  refine L0 (wanted_none rfl) rfl (y_move (v := va) rfl rfl) ?_
  refine L0 (wanted_none rfl) rfl (y_slenSl rfl Tryd.underlying22 rfl hSa) ?_
  refine L0 (wanted_none rfl) rfl (y_move (v := Value.int _ _) rfl rfl) ?_
  refine Lnil ?_
  refine W_block ?_
  refine W_loop (G := Nat) (fun i aL wl => ∃ e, aL = A 32 ((15, iv i) :: (14, iv l.length) :: (13, va) :: (7, str (markT k l i)) :: (0, pv rb 0) :: e) ∧ i ≤ l.length ∧ St w [(b2, .cells ⟨[bv k]⟩ 5 (0, 0))] wl) (fun i => l.length - i) (0) ?_ ?_
  · exact ⟨_, A_pins _ _ [15, 14, 13, 7, 0], by omega, hs4⟩
  rintro i _ w5 ⟨ehs6, rfl, hi, hs6⟩
  refine W_seq ?_
  refine W_region ?_
  refine L0 (wanted_none rfl) rfl (y_lt rfl rfl rfl) ?_
  refine Lnil ?_
  refine W_seq ?_
  refine Wsp (t := 16) rfl (fun h7 => ?_) (fun h7 => ?_)
  · have h7' := h7
    first | replace h7' := of_decide_eq_true h7' | replace h7' := bnT' h7' | skip
    refine W_condT rfl h7 ?_
    refine W_skip ?_
    refine W_seq ?_
    refine W_block ?_
    refine W_seq ?_
    refine W_region ?_
    refine L0 (wanted_none rfl) rfl (y_indexSlAt rfl Tryd.underlying22 sz9 rfl rfl hSa (by omega) (by omega)) ?_
    refine L1 (wanted_none rfl) rfl hs6 (y_loadSl i rfl Tryd.underlying9 rfl rfl hSa (by omega) (by omega) (by intro k hk; first | (simp [keys] at hk; done) | (simp [keys] at hk; omega))) ?_
    refine L0 (wanted_none rfl) rfl (y_assign (v := Value.string ⟨⟨_⟩⟩) rfl rfl) ?_
    refine Lnil ?_
    refine W_seq ?_
    refine W_region ?_
    refine L0 (wanted_none rfl) rfl (y_move (v := Value.string ⟨⟨_⟩⟩) rfl rfl) ?_
    refine L0 (wanted_none rfl) rfl (y_move (v := Value.string ⟨⟨_⟩⟩) rfl rfl) ?_
    refine L0 (wanted_none rfl) rfl (y_len rfl Tryd.underlying9 rfl) ?_
    refine Lc (wanted_none rfl) (c_call rfl rfl rfl Tryd.func33 (by kernel_rfl) rfl (rnum_any _ w5) rfl ?_)
    rintro _ w8 ⟨rfl, hc9⟩
    have hs10 := hs6.call0 hc9
    refine L0 (wanted_none rfl) rfl (y_scat rfl rfl rfl (by have := markT_lt k l i (by omega); rw [numOf_len]; omega)) ?_
    refine L0 (wanted_none rfl) rfl (y_assign (v := Value.string ⟨⟨_⟩⟩) rfl rfl) ?_
    refine Lnil ?_
    refine W_region ?_
    refine L0 (wanted_none rfl) rfl (y_move (v := Value.string ⟨⟨_⟩⟩) rfl rfl) ?_
    refine L0 (wanted_none rfl) rfl (y_move (v := Value.string ⟨⟨_⟩⟩) rfl rfl) ?_
    refine L0 (wanted_none rfl) rfl (y_scat rfl rfl rfl (by have := markT_lt k l i (by omega); rw [List.length_append, numOf_len]; omega)) ?_
    refine L0 (wanted_none rfl) rfl (y_assign (v := Value.string ⟨⟨_⟩⟩) rfl rfl) ?_
    refine Lnil ?_
    refine W_region ?_
    refine L0 (wanted_none rfl) rfl (y_add64 rfl rfl rfl (by omega)) ?_
    refine L0 (wanted_none rfl) rfl (y_move (v := Value.int _ _) rfl rfl) ?_
    refine Lnil ?_
    have hms : str (markT k l i ++ numOf (l.getD i []).length ++ l.getD i []) = str (markT k l (i + 1)) := by rw [markT_succ k l i (by omega), List.append_assoc]
    exact ⟨i + 1, by (try dsimp only); omega, _, A_c (iv_eq (by (try dsimp only); omega)) (A_c rfl (A_c rfl (A_c hms (A_c rfl (rfl))))), by omega, hs10⟩
  · have h7' := h7
    first | replace h7' := of_decide_eq_false h7' | replace h7' := bnF' h7' | skip
    refine W_condF rfl h7 ?_
    refine W_exit ?_
    refine W_seq ?_
    refine W_region ?_
    refine L0 (wanted_none rfl) rfl (y_move (v := Value.pointer _) rfl rfl) ?_
    refine L0 (wanted_none rfl) rfl (y_move (v := Value.string ⟨⟨_⟩⟩) rfl rfl) ?_
    refine Lc (wanted_none rfl) (c_call rfl rfl rfl Tryd.func29 (by kernel_rfl) rfl (rsum_any _ (by have := markT_le k l i; omega) rb w5 (hR.keep hs6 (by have := hbb2; simp [keys]; omega))) rfl ?_)
    rintro _ w11 ⟨rfl, hc12⟩
    have hs13 := hs6.call0 hc12
    refine L0 (wanted_none rfl) rfl (y_sslice_hi rfl Tryd.underlying9 rfl rfl (by rw [shaOf_len]; omega)) ?_
    refine L0 (wanted_none rfl) rfl (y_assign (v := Value.string ⟨⟨_⟩⟩) rfl rfl) ?_
    refine Lnil ?_
    refine W_ret ?_
    refine fin1 (fn := Tryd.f34) rfl rfl ?_
    obtain rfl : i = l.length := by omega
    rw [markT_all]
    exact ⟨rfl, hs13.drop (.inl hbb2)⟩
/-! keys -/
def keyRes (secret : List UInt8) (c : UInt8) : List UInt8 × Int :=
  if secret.length = 16 then if c = 98 then (keyOf secret blocksW, 0) else if c = 116 then (keyOf secret tablesW, 0) else ([], 8) else ([], 1)
/-- An error that is just this one (0: none), without a place. -/
def BareE (e : Value) (k : Int) : Prop := (e = .nilIface ∧ k = 0) ∨ e = errno k
theorem bare_of {e : Value} {k : Int} (h : BareE e k) (w : World) (he : ErrAt w) : C Tryd.prog 20 ⟨[e, iv k]⟩ w fun v w' => v = .bool true ∧ St w [] w' := by
  rcases h with ⟨rfl, rfl⟩ | rfl
  · exact (bare_nil 0 w).mono fun v w' h => ⟨h.1, h.2⟩
  · exact (bare_errno k k w he).mono fun v w' h => ⟨by rw [h.1]; simp, h.2⟩
theorem mkey_any (secret : List UInt8) (c : UInt8) (w : World) (hr : RoundsAt w) :
    C Tryd.prog 26 ⟨[str secret, bv c]⟩ w fun v w' => (∃ e, v = .tuple #[str (keyRes secret c).1, e] ∧ BareE e (keyRes secret c).2) ∧ St w [] w' := by
  by_cases hl : secret.length = 16
  · by_cases h1 : c = 98
    · subst h1
      refine (key_ok secret blocksW 98 0 hl rfl uses_b w hr).mono fun v w' h => ⟨⟨.nilIface, ?_, .inl ⟨rfl, ?_⟩⟩, h.2⟩
      · rw [h.1, keyRes, if_pos hl, if_pos rfl]
      · rw [keyRes, if_pos hl, if_pos rfl]
    · by_cases h2 : c = 116
      · subst h2
        refine (key_ok secret tablesW 116 1 hl rfl uses_t w hr).mono fun v w' h => ⟨⟨.nilIface, ?_, .inl ⟨rfl, ?_⟩⟩, h.2⟩
        · rw [h.1, keyRes, if_pos hl, if_neg h1, if_pos rfl]
        · rw [keyRes, if_pos hl, if_neg h1, if_pos rfl]
      · refine (key_no secret c hl (uses_no h1 h2) w).mono fun v w' h => ⟨⟨errno 8, ?_, .inr ?_⟩, h.2⟩
        · rw [h.1, keyRes, if_pos hl, if_neg h1, if_neg h2]
        · rw [keyRes, if_pos hl, if_neg h1, if_neg h2]
  · have e : keyRes secret c = ([], 1) := by rw [keyRes, if_neg hl]
    have h : C Tryd.prog 26 ⟨[str secret, bv c]⟩ w fun v w' => v = .tuple #[str [], errno 1] ∧ St w [] w' := by
      by_cases h1 : c = 98
      · subst h1; exact key_lenT secret blocksW 98 0 hl uses_b w
      · by_cases h2 : c = 116
        · subst h2; exact key_lenT secret tablesW 116 1 hl uses_t w
        · exact key_lenF secret c hl (uses_no h1 h2) w
    exact h.mono fun v w' h => ⟨⟨errno 1, by rw [h.1, e], .inr (by rw [e])⟩, h.2⟩
theorem u8_eq_int {c : UInt8} {n : Nat} (hn : n < 256) : ((c.toNat : Int) = (n : Int)) ↔ c = UInt8.ofNat n := by
  constructor
  · intro h; apply UInt8.toNat_inj.1; rw [UInt8.toNat_ofNat']; omega
  · intro h; subst h; rw [UInt8.toNat_ofNat']; omega
theorem rkey_any (secret : List UInt8) (c : UInt8) (rb : Nat) (w : World) (hR : RefAt rb w) :
    C Tryd.prog 28 ⟨[pv rb 0, str secret, bv c]⟩ w fun v w' => v = .tuple #[str (keyRes secret c).1, iv (keyRes secret c).2] ∧ St w [] w' := by
  have hrl := hR.lt
  have e98 : ((c.toNat : Int) = 98) ↔ c = 98 := u8_eq_int (c := c) (n := 98) (by omega)
  have e116 : ((c.toNat : Int) = 116) ↔ c = 116 := u8_eq_int (c := c) (n := 116) (by omega)
  refine C_enter (n := 28) Tryd.func28 rfl rfl rfl (fun w1 hs1 => ?_)
  refine W_seq ?_
  refine W_region ?_
  refine L0 (wanted_none rfl) rfl (y_assign (v := Value.string ⟨⟨_⟩⟩) rfl rfl) ?_
  refine L0 (wanted_none rfl) rfl (y_assign (v := Value.int _ _) rfl rfl) ?_
  refine Lnil ?_
  refine W_seq ?_
  refine W_seq ?_
  refine W_region ?_
  refine L0 (wanted_none rfl) rfl (y_move (v := Value.string ⟨⟨_⟩⟩) rfl rfl) ?_
  refine L0 (wanted_none rfl) rfl (y_len rfl Tryd.underlying9 rfl) ?_
  refine L0 (wanted_none rfl) rfl (y_ne rfl rfl rfl) ?_
  refine Lnil ?_
  refine Wsp (t := 10) rfl (fun h2 => ?_) (fun h2 => ?_)
  · have h2' := h2
    first | replace h2' := of_decide_eq_true h2' | replace h2' := bnT' h2' | skip
    refine W_condT rfl h2 ?_
    refine W_seq ?_
    refine W_region ?_
    refine L0 (wanted_none rfl) rfl (y_assign (v := Value.string ⟨⟨_⟩⟩) rfl rfl) ?_
    refine L0 (wanted_none rfl) rfl (y_assign (v := Value.int _ _) rfl rfl) ?_
    refine Lnil ?_
    refine W_ret ?_
    refine fin2 (fn := Tryd.f28) rfl rfl rfl ?_
    have e : keyRes secret c = ([], 1) := by rw [keyRes, if_neg (by omega)]
    rw [e]; exact ⟨rfl, hs1⟩
  · have h2' := h2
    first | replace h2' := of_decide_eq_false h2' | replace h2' := bnF' h2' | skip
    refine W_condF rfl h2 ?_
    refine W_skip ?_
    refine W_seq ?_
    refine W_seq ?_
    refine W_region ?_
    refine L0 (wanted_none rfl) rfl (y_move (v := Value.int _ _) rfl rfl) ?_
    refine Lnil ?_
    refine W_block ?_
    refine W_seq ?_
    refine W_region ?_
    refine L0 (wanted_none rfl) rfl (y_eq rfl rfl rfl) ?_
    refine L0 (wanted_none rfl) rfl (y_assign (v := Value.bool _) rfl rfl) ?_
    refine Lnil ?_
    refine Wsp (t := 12) rfl (fun h3 => ?_) (fun h3 => ?_)
    · have h3' := h3
      first | replace h3' := of_decide_eq_true h3' | replace h3' := bnT' h3' | skip
      refine W_condT rfl h3 ?_
      refine W_seq ?_
      refine W_region ?_
      refine L0 (wanted_none rfl) rfl (y_move (v := Value.pointer _) rfl rfl) ?_
      refine L0 (wanted_none rfl) rfl (y_move (v := Value.pointer _) rfl rfl) ?_
      refine L0 (wanted_none rfl) rfl (y_move (v := Value.string ⟨⟨_⟩⟩) rfl rfl) ?_
      refine Lc (wanted_none rfl) (c_bs2 (v0 := str _) (v1 := str blocksW) hs1 rfl rfl Tryd.underlying22 sz9 zr9 rfl rfl rfl rfl (fun b4 w5 hbb4 hs6 => ?_))
      refine Lc (wanted_none rfl) (c_call rfl rfl rfl Tryd.func34 (by kernel_rfl) rfl (rmark_any 107 [secret, blocksW] _ (by rw [markS_body, List.length_append]; simp only [body, List.length_append, numOf_len, List.length_cons, List.length_nil]; have h6 : blocksW.length = 6 := rfl; omega) (by simp) rb w5 (hR.keep hs6 (by have := hbb4; simp [keys]; omega)) (sl_two (hs6.get 0 rfl))) rfl ?_)
      rintro _ w7 ⟨rfl, hc8⟩
      have hs9 := hs6.call0 hc8
      refine Lc (wanted_none rfl) (c_call rfl rfl rfl Tryd.func29 (by kernel_rfl) rfl (rsum_any _ (by rw [markOf_len]; decide) rb w7 (hR.keep hs9 (by have := hbb4; simp [keys]; omega))) rfl ?_)
      rintro _ w10 ⟨rfl, hc11⟩
      have hs12 := hs9.call0 hc11
      refine L0 (wanted_none rfl) rfl (y_assign (v := Value.string ⟨⟨_⟩⟩) rfl rfl) ?_
      refine L0 (wanted_none rfl) rfl (y_assign (v := Value.int _ _) rfl rfl) ?_
      refine Lnil ?_
      refine W_ret ?_
      refine fin2 (fn := Tryd.f28) rfl rfl rfl ?_
      have e : keyRes secret c = (keyOf secret blocksW, 0) := by rw [keyRes, if_pos (by omega), if_pos (e98.1 (by assumption))]
      rw [e]; exact ⟨rfl, hs12.drop (.inl hbb4)⟩
    · have h3' := h3
      first | replace h3' := of_decide_eq_false h3' | replace h3' := bnF' h3' | skip
      refine W_condF rfl h3 ?_
      refine W_seq ?_
      refine W_region ?_
      refine L0 (wanted_none rfl) rfl (y_eq rfl rfl rfl) ?_
      refine L0 (wanted_none rfl) rfl (y_assign (v := Value.bool _) rfl rfl) ?_
      refine Lnil ?_
      refine Wsp (t := 20) rfl (fun h13 => ?_) (fun h13 => ?_)
      · have h13' := h13
        first | replace h13' := of_decide_eq_true h13' | replace h13' := bnT' h13' | skip
        refine W_condT rfl h13 ?_
        refine W_seq ?_
        refine W_region ?_
        refine L0 (wanted_none rfl) rfl (y_move (v := Value.pointer _) rfl rfl) ?_
        refine L0 (wanted_none rfl) rfl (y_move (v := Value.pointer _) rfl rfl) ?_
        refine L0 (wanted_none rfl) rfl (y_move (v := Value.string ⟨⟨_⟩⟩) rfl rfl) ?_
        refine Lc (wanted_none rfl) (c_bs2 (v0 := str _) (v1 := str tablesW) hs1 rfl rfl Tryd.underlying22 sz9 zr9 rfl rfl rfl rfl (fun b14 w15 hbb14 hs16 => ?_))
        refine Lc (wanted_none rfl) (c_call rfl rfl rfl Tryd.func34 (by kernel_rfl) rfl (rmark_any 107 [secret, tablesW] _ (by rw [markS_body, List.length_append]; simp only [body, List.length_append, numOf_len, List.length_cons, List.length_nil]; have h6 : tablesW.length = 6 := rfl; omega) (by simp) rb w15 (hR.keep hs16 (by have := hbb14; simp [keys]; omega)) (sl_two (hs16.get 0 rfl))) rfl ?_)
        rintro _ w17 ⟨rfl, hc18⟩
        have hs19 := hs16.call0 hc18
        refine Lc (wanted_none rfl) (c_call rfl rfl rfl Tryd.func29 (by kernel_rfl) rfl (rsum_any _ (by rw [markOf_len]; decide) rb w17 (hR.keep hs19 (by have := hbb14; simp [keys]; omega))) rfl ?_)
        rintro _ w20 ⟨rfl, hc21⟩
        have hs22 := hs19.call0 hc21
        refine L0 (wanted_none rfl) rfl (y_assign (v := Value.string ⟨⟨_⟩⟩) rfl rfl) ?_
        refine L0 (wanted_none rfl) rfl (y_assign (v := Value.int _ _) rfl rfl) ?_
        refine Lnil ?_
        refine W_ret ?_
        refine fin2 (fn := Tryd.f28) rfl rfl rfl ?_
        have e : keyRes secret c = (keyOf secret tablesW, 0) := by rw [keyRes, if_pos (by omega), if_neg (fun h => absurd (e98.2 h) (by assumption)), if_pos (e116.1 (by assumption))]
        rw [e]; exact ⟨rfl, hs22.drop (.inl hbb14)⟩
      · have h13' := h13
        first | replace h13' := of_decide_eq_false h13' | replace h13' := bnF' h13' | skip
        refine W_condF rfl h13 ?_
        refine W_skip ?_
        refine W_seq ?_
        refine W_region ?_
        refine L0 (wanted_none rfl) rfl (y_assign (v := Value.string ⟨⟨_⟩⟩) rfl rfl) ?_
        refine L0 (wanted_none rfl) rfl (y_assign (v := Value.int _ _) rfl rfl) ?_
        refine Lnil ?_
        refine W_ret ?_
        refine fin2 (fn := Tryd.f28) rfl rfl rfl ?_
        have e : keyRes secret c = ([], 8) := by rw [keyRes, if_pos (by omega), if_neg (fun h => absurd (e98.2 h) (by assumption)), if_neg (fun h => absurd (e116.2 h) (by assumption))]
        rw [e]; exact ⟨rfl, hs1⟩
theorem counts_long (l : List Int) (s : List UInt8) (c : UInt8) (va : Value) (h : 60 < l.length ∨ 60 < s.length) (w : World) (hSa : Sl w va l.length (ints l)) :
    C Tryd.prog 6 ⟨[va, str s, bv c]⟩ w fun v w' => v = .bool true ∧ St w [] w' := by
  refine C_enter (n := 72) Tryd.func6 rfl rfl rfl (fun w1 hs1 => ?_)
  refine W_seq ?_
  refine W_region ?_
  refine L0 (wanted_none rfl) rfl (y_assign (v := Value.bool _) rfl rfl) ?_
  refine Lnil ?_
  refine W_seq ?_
  refine W_seq ?_
  refine W_region ?_
  refine L0 (wanted_none rfl) rfl (y_move (v := va) rfl rfl) ?_
  refine L0 (wanted_none rfl) rfl (y_slenSl rfl Tryd.underlying42 rfl hSa) ?_
  refine L0 (wanted_none rfl) rfl (y_gt rfl rfl rfl) ?_
  refine L0 (wanted_none rfl) rfl (y_move (v := Value.bool _) rfl rfl) ?_
  refine Lsp (t := 18) rfl (fun h2 => ?_) (fun h2 => ?_)
  · have h2' := h2
    first | replace h2' := of_decide_eq_true h2' | replace h2' := bnT' h2' | skip
    refine Lno (wanted_noB rfl rfl rfl h2 (by decide)) rfl ?_
    refine Lno (wanted_noB rfl rfl rfl h2 (by decide)) rfl ?_
    refine L0 (wanted_none rfl) rfl (y_pickT rfl rfl h2 rfl) ?_
    refine Lnil ?_
    refine W_condT rfl rfl ?_
    refine W_seq ?_
    refine W_region ?_
    refine L0 (wanted_none rfl) rfl (y_assign (v := Value.bool _) rfl rfl) ?_
    refine Lnil ?_
    refine W_ret ?_
    refine fin1 (fn := Tryd.f6) rfl rfl ?_
    exact ⟨rfl, hs1⟩
  · have h2' := h2
    first | replace h2' := of_decide_eq_false h2' | replace h2' := bnF' h2' | skip
    refine L0 (wanted_yesB rfl rfl rfl h2) rfl (y_move (v := Value.string ⟨⟨_⟩⟩) rfl rfl) ?_
    refine Lc (wanted_yesB rfl rfl rfl h2) (c_call rfl rfl rfl Tryd.func17 (by kernel_rfl) rfl (long_any s w1) rfl ?_)
    rintro _ w3 ⟨rfl, hc4⟩
    have hs5 := hs1.call0 hc4
    refine L0 (wanted_none rfl) rfl (y_pickF rfl rfl h2 rfl) ?_
    refine Lnil ?_
    refine Wkn (t := 21) (b0 := true) rfl (by first | exact decide_eq_true (by omega) | exact bnT (by omega) | (simp; omega)) (fun h6 => ?_)
    refine W_condT rfl h6 ?_
    refine W_seq ?_
    refine W_region ?_
    refine L0 (wanted_none rfl) rfl (y_assign (v := Value.bool _) rfl rfl) ?_
    refine Lnil ?_
    refine W_ret ?_
    refine fin1 (fn := Tryd.f6) rfl rfl ?_
    exact ⟨rfl, hs5⟩
theorem counts_any (l : List Int) (s : List UInt8) (c : UInt8) (va : Value) (l1 : l.length ≤ 60) (l2 : s.length ≤ 60) (w : World) (hr : RoundsAt w) (he : ErrAt w) (hSa : Sl w va l.length (ints l)) :
    C Tryd.prog 6 ⟨[va, str s, bv c]⟩ w fun v w' => v = .bool true ∧ St w [] w' := by
  have hrl := hr.1
  have hel := he.lt
  refine C_enter (n := 72) Tryd.func6 rfl rfl rfl (fun w1 hs1 => ?_)
  refine W_seq ?_
  refine W_region ?_
  refine L0 (wanted_none rfl) rfl (y_assign (v := Value.bool _) rfl rfl) ?_
  refine Lnil ?_
  refine W_seq ?_
  refine W_seq ?_
  refine W_region ?_
  refine L0 (wanted_none rfl) rfl (y_move (v := va) rfl rfl) ?_
  refine L0 (wanted_none rfl) rfl (y_slenSl rfl Tryd.underlying42 rfl hSa) ?_
  refine L0 (wanted_none rfl) rfl (y_gt rfl rfl rfl) ?_
  refine L0 (wanted_none rfl) rfl (y_move (v := Value.bool _) rfl rfl) ?_
  refine Lkn (t := 18) (b0 := false) rfl (by first | exact decide_eq_false (by omega) | exact bnF (by omega) | (simp; omega)) (fun h2 => ?_)
  refine L0 (wanted_yesB rfl rfl rfl h2) rfl (y_move (v := Value.string ⟨⟨_⟩⟩) rfl rfl) ?_
  refine Lc (wanted_yesB rfl rfl rfl h2) (c_call rfl rfl rfl Tryd.func17 (by kernel_rfl) rfl (long_any s w1) rfl ?_)
  rintro _ w3 ⟨rfl, hc4⟩
  have hs5 := hs1.call0 hc4
  refine L0 (wanted_none rfl) rfl (y_pickF rfl rfl h2 rfl) ?_
  refine Lnil ?_
  refine Wkn (t := 21) (b0 := false) rfl (by first | exact decide_eq_false (by omega) | exact bnF (by omega) | (simp; omega)) (fun h6 => ?_)
  refine W_condF rfl h6 ?_
  refine W_skip ?_
  refine W_seq ?_
  refine W_region ?_
  refine Lc (wanted_none rfl) (c_alloc hs5 rfl rfl zr44 (fun b7 w8 hbb7 hs9 => ?_))
  refine Lnil ?_
  refine W_seq ?_
  refine W_region ?_
  refine L0 (wanted_none rfl) rfl (y_assign (v := Value.int _ _) rfl rfl) ?_
  refine Lnil ?_
  refine W_seq ?_
  refine W_seq ?_
  refine W_region ?_
  refine L0 (wanted_none rfl) rfl (y_assign (v := Value.int _ _) rfl rfl) ?_
  refine Lnil ?_
  refine W_block ?_
  refine W_loop (G := Nat) (fun i aL wl => ∃ e, aL = A 72 ((9, iv i) :: (8, iv (maxTo l i)) :: (7, pv b7 0) :: (0, va) :: (1, str s) :: (2, bv c) :: e) ∧ i ≤ l.length ∧ St w [(b7, .cells #[iv (maxTo l i)] 44 (0, 0))] wl) (fun i => l.length - i) (0) ?_ ?_
  · exact ⟨_, A_pins _ _ [9, 8, 7, 0, 1, 2], by omega, hs9⟩
  rintro i _ w10 ⟨ehs11, rfl, hi, hs11⟩
  refine W_seq ?_
  refine W_seq ?_
  refine W_region ?_
  refine L0 (wanted_none rfl) rfl (y_move (v := Value.int _ _) rfl rfl) ?_
  refine L0 (wanted_none rfl) rfl (y_move (v := va) rfl rfl) ?_
  refine L0 (wanted_none rfl) rfl (y_slenSl rfl Tryd.underlying42 rfl hSa) ?_
  refine L0 (wanted_none rfl) rfl (y_lt rfl rfl rfl) ?_
  refine Lnil ?_
  refine Wsp (t := 25) rfl (fun h12 => ?_) (fun h12 => ?_)
  · have h12' := h12
    first | replace h12' := of_decide_eq_true h12' | replace h12' := bnT' h12' | skip
    refine W_condT rfl h12 ?_
    refine W_skip ?_
    refine W_seq ?_
    refine W_block ?_
    refine W_seq ?_
    by_cases hsp : l.getD i 0 ≤ maxTo l i
    · skip
      refine W_region ?_
      refine L0 (wanted_none rfl) rfl (y_assign (v := Value.int _ _) rfl rfl) ?_
      refine Lnil ?_
      refine W_seq ?_
      refine W_seq ?_
      refine W_region ?_
      refine L0 (wanted_none rfl) rfl (y_move (v := va) rfl rfl) ?_
      refine L0 (wanted_none rfl) rfl (y_move (v := Value.int _ _) rfl rfl) ?_
      refine L0 (wanted_none rfl) rfl (y_indexSlAt rfl Tryd.underlying42 sz3 rfl rfl hSa (by omega) (by omega)) ?_
      refine L1 (wanted_none rfl) rfl hs11 (y_loadSl i rfl Tryd.underlying3 rfl rfl hSa (by omega) (by omega) (by have := hbb7; intro k hk; simp [keys] at hk; omega)) ?_
      refine L0 (wanted_none rfl) rfl (y_move (v := Value.int _ _) rfl rfl) ?_
      refine L0 (wanted_none rfl) rfl (y_gt rfl rfl rfl) ?_
      refine Lnil ?_
      refine Wkn (t := 33) (b0 := false) rfl (by first | exact decide_eq_false (by omega) | exact bnF (by omega) | (simp; omega)) (fun h13 => ?_)
      refine W_condF rfl h13 ?_
      refine W_skip ?_
      refine W_seq ?_
      refine W_region ?_
      refine L0 (wanted_none rfl) rfl (y_move (v := va) rfl rfl) ?_
      refine L0 (wanted_none rfl) rfl (y_move (v := Value.int _ _) rfl rfl) ?_
      refine L0 (wanted_none rfl) rfl (y_indexSlAt rfl Tryd.underlying42 sz3 rfl rfl hSa (by omega) (by omega)) ?_
      refine L1 (wanted_none rfl) rfl hs11 (y_loadSl i rfl Tryd.underlying3 rfl rfl hSa (by omega) (by omega) (by have := hbb7; intro k hk; simp [keys] at hk; omega)) ?_
      refine Lc (wanted_none rfl) (c_call rfl rfl rfl Tryd.func23 (by kernel_rfl) rfl (raise_no b7 _ _ hsp w10 (hs11.get 0 rfl)) rfl ?_)
      rintro _ w14 ⟨rfl, hc15⟩
      have hs16 := hs11.call1 0 rfl hc15
      refine L0 (wanted_none rfl) rfl (y_move (v := Value.int _ _) rfl rfl) ?_
      refine Lc (wanted_none rfl) (c_call rfl rfl rfl Tryd.func20 (by kernel_rfl) rfl (bare_errno 10 10 w14 (he.keep hs16 (by have := hbb7; simp [keys]; omega))) rfl ?_)
      rintro _ w17 ⟨rfl, hc18⟩
      have hs19 := hs16.call0 hc18
      refine L0 (wanted_none rfl) rfl (y_not rfl rfl) ?_
      refine L0 (wanted_none rfl) rfl (y_move (v := Value.bool _) rfl rfl) ?_
      refine Lkn (t := 46) (b0 := false) rfl (by rfl) (fun h20 => ?_)
      refine Lc (wanted_yesB rfl rfl rfl h20) (c_call rfl rfl rfl Tryd.func25 (by kernel_rfl) rfl (get_any b7 _ w17 (hs19.get 0 rfl)) rfl ?_)
      rintro _ w21 ⟨rfl, hc22⟩
      have hs23 := hs19.call1 0 rfl hc22
      refine L0 (wanted_yesB rfl rfl rfl h20) rfl (y_move (v := Value.int _ _) rfl rfl) ?_
      refine L0 (wanted_yesB rfl rfl rfl h20) rfl (y_ne rfl rfl rfl) ?_
      refine L0 (wanted_none rfl) rfl (y_pickF rfl rfl h20 rfl) ?_
      refine Lnil ?_
      refine Wkn (t := 50) (b0 := false) rfl (by first | exact decide_eq_false (by omega) | exact bnF (by omega) | (simp; omega)) (fun h24 => ?_)
      refine W_condF rfl h24 ?_
      refine W_skip ?_
      refine W_region ?_
      refine L0 (wanted_none rfl) rfl (y_move (v := Value.int _ _) rfl rfl) ?_
      refine L0 (wanted_none rfl) rfl (y_add64 rfl rfl rfl (by omega)) ?_
      refine L0 (wanted_none rfl) rfl (y_assign (v := Value.int _ _) rfl rfl) ?_
      refine Lnil ?_
      have hm : maxTo l (i + 1) = max (maxTo l i) (l.getD i 0) := rfl
      have e : maxTo l i = maxTo l (i + 1) := by rw [hm]; omega
      have hsF := hs23
      rw [e] at hsF
      have hmx := congrArg iv e
      exact ⟨i + 1, by (try dsimp only); omega, _, A_c (iv_eq (by (try dsimp only); omega)) (A_c hmx (A_c rfl (A_c rfl (A_c rfl (A_c rfl (rfl)))))), by omega, hsF⟩
    · skip
      refine W_region ?_
      refine L0 (wanted_none rfl) rfl (y_assign (v := Value.int _ _) rfl rfl) ?_
      refine Lnil ?_
      refine W_seq ?_
      refine W_seq ?_
      refine W_region ?_
      refine L0 (wanted_none rfl) rfl (y_move (v := va) rfl rfl) ?_
      refine L0 (wanted_none rfl) rfl (y_move (v := Value.int _ _) rfl rfl) ?_
      refine L0 (wanted_none rfl) rfl (y_indexSlAt rfl Tryd.underlying42 sz3 rfl rfl hSa (by omega) (by omega)) ?_
      refine L1 (wanted_none rfl) rfl hs11 (y_loadSl i rfl Tryd.underlying3 rfl rfl hSa (by omega) (by omega) (by have := hbb7; intro k hk; simp [keys] at hk; omega)) ?_
      refine L0 (wanted_none rfl) rfl (y_move (v := Value.int _ _) rfl rfl) ?_
      refine L0 (wanted_none rfl) rfl (y_gt rfl rfl rfl) ?_
      refine Lnil ?_
      refine Wkn (t := 33) (b0 := true) rfl (by first | exact decide_eq_true (by omega) | exact bnT (by omega) | (simp; omega)) (fun h25 => ?_)
      refine W_condT rfl h25 ?_
      refine W_drawSt [(0, 0), (0, 1), (0, 4), (0, 2), (1, 3), (0, 5)] hs11 mixed (by kernel_rfl) (fun w26 hs27 => ?_)
      refine E0 (wanted_none rfl) rfl (y_move (v := va) rfl rfl) ?_
      refine E0 (wanted_none rfl) rfl (y_move (v := Value.int _ _) rfl rfl) ?_
      refine E0 (wanted_none rfl) rfl (y_assign (v := Value.int _ _) rfl rfl) ?_
      refine E0 (wanted_none rfl) rfl (y_indexSlAt rfl Tryd.underlying42 sz3 rfl rfl hSa (by omega) (by omega)) ?_
      refine E1 hs27 (wanted_none rfl) rfl (y_loadSl i rfl Tryd.underlying3 rfl rfl hSa (by omega) (by omega) (by have := hbb7; intro k hk; simp [keys] at hk; omega)) ?_
      refine E0 (wanted_none rfl) rfl (y_assign (v := Value.int _ _) rfl rfl) ?_
      refine Enil ?_
      refine W_seq ?_
      refine W_region ?_
      refine L0 (wanted_none rfl) rfl (y_move (v := va) rfl rfl) ?_
      refine L0 (wanted_none rfl) rfl (y_move (v := Value.int _ _) rfl rfl) ?_
      refine L0 (wanted_none rfl) rfl (y_indexSlAt rfl Tryd.underlying42 sz3 rfl rfl hSa (by omega) (by omega)) ?_
      refine L1 (wanted_none rfl) rfl hs27 (y_loadSl i rfl Tryd.underlying3 rfl rfl hSa (by omega) (by omega) (by have := hbb7; intro k hk; simp [keys] at hk; omega)) ?_
      refine Lc (wanted_none rfl) (c_call rfl rfl rfl Tryd.func23 (by kernel_rfl) rfl (raise_ok b7 _ _ hsp w26 (hs27.get 0 rfl)) rfl ?_)
      rintro _ w28 ⟨rfl, hc29⟩
      have hs30 := hs27.call1 0 rfl hc29
      refine L0 (wanted_none rfl) rfl (y_move (v := Value.int _ _) rfl rfl) ?_
      refine Lc (wanted_none rfl) (c_call rfl rfl rfl Tryd.func20 (by kernel_rfl) rfl (bare_nil 0 w28) rfl ?_)
      rintro _ w31 ⟨rfl, hc32⟩
      have hs33 := hs30.call0 hc32
      refine L0 (wanted_none rfl) rfl (y_not rfl rfl) ?_
      refine L0 (wanted_none rfl) rfl (y_move (v := Value.bool _) rfl rfl) ?_
      refine Lkn (t := 46) (b0 := false) rfl (by rfl) (fun h34 => ?_)
      refine Lc (wanted_yesB rfl rfl rfl h34) (c_call rfl rfl rfl Tryd.func25 (by kernel_rfl) rfl (get_any b7 _ w31 (hs33.get 0 rfl)) rfl ?_)
      rintro _ w35 ⟨rfl, hc36⟩
      have hs37 := hs33.call1 0 rfl hc36
      refine L0 (wanted_yesB rfl rfl rfl h34) rfl (y_move (v := Value.int _ _) rfl rfl) ?_
      refine L0 (wanted_yesB rfl rfl rfl h34) rfl (y_ne rfl rfl rfl) ?_
      refine L0 (wanted_none rfl) rfl (y_pickF rfl rfl h34 rfl) ?_
      refine Lnil ?_
      refine Wkn (t := 50) (b0 := false) rfl (by first | exact decide_eq_false (by omega) | exact bnF (by omega) | (simp; omega)) (fun h38 => ?_)
      refine W_condF rfl h38 ?_
      refine W_skip ?_
      refine W_region ?_
      refine L0 (wanted_none rfl) rfl (y_move (v := Value.int _ _) rfl rfl) ?_
      refine L0 (wanted_none rfl) rfl (y_add64 rfl rfl rfl (by omega)) ?_
      refine L0 (wanted_none rfl) rfl (y_assign (v := Value.int _ _) rfl rfl) ?_
      refine Lnil ?_
      have hm : maxTo l (i + 1) = max (maxTo l i) (l.getD i 0) := rfl
      have e : l.getD i 0 = maxTo l (i + 1) := by rw [hm]; omega
      have hsF := hs37
      rw [e] at hsF
      have hmx := congrArg iv e
      exact ⟨i + 1, by (try dsimp only); omega, _, A_c (iv_eq (by (try dsimp only); omega)) (A_c hmx (A_c rfl (A_c rfl (A_c rfl (A_c rfl (rfl)))))), by omega, hsF⟩
  · have h12' := h12
    first | replace h12' := of_decide_eq_false h12' | replace h12' := bnF' h12' | skip
    refine W_condF rfl h12 ?_
    refine W_exit ?_
    refine W_seq ?_
    refine W_region ?_
    refine Lc (wanted_none rfl) (c_call rfl rfl rfl Tryd.func27 (by kernel_rfl) rfl (new_any w10) rfl ?_)
    rintro _ w39 ⟨rb, rfl, hrb, hc40⟩
    have hrbw : w.heap.size ≤ rb := Nat.le_trans hs11.size hrb
    have hs41 := hs11.call_new hc40 (fun k hk => by simp [keys] at hk; omega)
    refine L0 (wanted_none rfl) rfl (y_move (v := Value.string ⟨⟨_⟩⟩) rfl rfl) ?_
    refine L0 (wanted_none rfl) rfl (y_move (v := Value.int _ _) rfl rfl) ?_
    refine Lc (wanted_none rfl) (c_call rfl rfl rfl Tryd.func28 (by kernel_rfl) rfl (rkey_any s c rb w39 (hs41.get 0 rfl)) rfl ?_)
    rintro _ w42 ⟨rfl, hc43⟩
    have hs44 := hs41.call0 hc43
    refine L0 (wanted_none rfl) rfl (y_move (v := Value.tuple ⟨_⟩) rfl rfl) ?_
    refine L0 (wanted_none rfl) rfl (y_extract rfl rfl rfl) ?_
    refine L0 (wanted_none rfl) rfl (y_extract rfl rfl rfl) ?_
    refine L0 (wanted_none rfl) rfl (y_assign (v := Value.string ⟨⟨_⟩⟩) rfl rfl) ?_
    refine L0 (wanted_none rfl) rfl (y_assign (v := Value.int _ _) rfl rfl) ?_
    refine Lnil ?_
    refine W_seq ?_
    refine W_region ?_
    refine L0 (wanted_none rfl) rfl (y_move (v := Value.string ⟨⟨_⟩⟩) rfl rfl) ?_
    refine L0 (wanted_none rfl) rfl (y_move (v := Value.int _ _) rfl rfl) ?_
    refine Lc (wanted_none rfl) (c_call rfl rfl rfl Tryd.func26 (by kernel_rfl) rfl (mkey_any s c w42 (hr.keep hs44 (by have := hbb7; simp [keys]; omega))) rfl ?_)
    rintro _ w45 ⟨⟨eK, rfl, hK⟩, hc46⟩
    have hs47 := hs44.call0 hc46
    refine L0 (wanted_none rfl) rfl (y_move (v := Value.tuple ⟨_⟩) rfl rfl) ?_
    refine L0 (wanted_none rfl) rfl (y_extract rfl rfl rfl) ?_
    refine L0 (wanted_none rfl) rfl (y_extract rfl rfl rfl) ?_
    refine L0 (wanted_none rfl) rfl (y_assign (v := Value.string ⟨⟨_⟩⟩) rfl rfl) ?_
    refine L0 (wanted_none rfl) rfl (y_assign (v := _) rfl rfl) ?_
    refine Lnil ?_
    refine W_seq ?_
    refine W_region ?_
    refine L0 (wanted_none rfl) rfl (y_move (v := _) rfl rfl) ?_
    refine L0 (wanted_none rfl) rfl (y_move (v := Value.int _ _) rfl rfl) ?_
    refine Lc (wanted_none rfl) (c_call rfl rfl rfl Tryd.func20 (by kernel_rfl) rfl (bare_of hK w45 (he.keep hs47 (by have := hbb7; simp [keys]; omega))) rfl ?_)
    rintro _ w48 ⟨rfl, hc49⟩
    have hs50 := hs47.call0 hc49
    refine L0 (wanted_none rfl) rfl (y_move (v := Value.bool _) rfl rfl) ?_
    refine Lkn (t := 67) (b0 := true) rfl (by rfl) (fun h51 => ?_)
    refine L0 (wanted_yesB rfl rfl rfl h51) rfl (y_move (v := Value.string ⟨⟨_⟩⟩) rfl rfl) ?_
    refine L0 (wanted_yesB rfl rfl rfl h51) rfl (y_move (v := Value.string ⟨⟨_⟩⟩) rfl rfl) ?_
    refine L0 (wanted_yesB rfl rfl rfl h51) rfl (y_seq rfl rfl rfl) ?_
    refine L0 (wanted_none rfl) rfl (y_pickT rfl rfl h51 rfl) ?_
    refine L0 (wanted_none rfl) rfl (y_assign (v := Value.bool _) rfl rfl) ?_
    refine Lnil ?_
    refine W_ret ?_
    refine fin1 (fn := Tryd.f6) rfl rfl ?_
    exact ⟨congrArg Value.bool (decide_eq_true rfl), (hs50.drop (.inl hrbw)).drop (.inl hbb7)⟩
end Go.Proofs.YtkolfgmpmnelmaaDoor

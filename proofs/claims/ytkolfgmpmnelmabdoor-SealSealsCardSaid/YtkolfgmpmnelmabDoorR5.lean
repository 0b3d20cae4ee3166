/-
  Walks: ref.Num, ref.R.Mark.
-/
import Derived.Test.YtkolfgmpmnelmabDoorR4
import Derived.Test.YtkolfgmpmnelmabDoorH5
namespace Go.Proofs.YtkolfgmpmnelmabDoor
open Go Vx Go.Proofs
set_option linter.unusedVariables false
set_option maxRecDepth 4000
set_option maxHeartbeats 400000

/-! numbers as bytes, the last one first -/
def div64 (q : UInt64) : Nat → UInt64
  | 0 => q
  | j + 1 => div64 q j / 256
def numR (q : UInt64) : Nat → List UInt8
  | 0 => []
  | j + 1 => [(div64 q j % 256).toUInt8] ++ numR q j
theorem numR_len (q : UInt64) : ∀ j, (numR q j).length = j
  | 0 => rfl
  | j + 1 => by rw [numR, List.length_append, numR_len q j]; simp; omega
theorem div64_nat (q : UInt64) : ∀ j, (div64 q j).toNat = q.toNat / 256 ^ j
  | 0 => by simp [div64]
  | j + 1 => by
    have e : (256 : UInt64).toNat = 256 := rfl
    rw [div64, UInt64.toNat_div, div64_nat q j, e, Nat.div_div_eq_div_mul, Nat.pow_succ]
theorem div64_byte (q : UInt64) {j : Nat} (h : j < 8) : (div64 q j % 256).toUInt8 = (q >>> UInt64.ofNat (8 * j)).toUInt8 := by
  have e : (256 : UInt64).toNat = 256 := rfl
  have e2 : (UInt64.ofNat (8 * j)).toNat % 64 = 8 * j := by simp; omega
  apply UInt8.toNat_inj.1
  rw [UInt64.toNat_toUInt8, UInt64.toNat_toUInt8, UInt64.toNat_mod, UInt64.toNat_shiftRight, div64_nat, e, e2, Nat.shiftRight_eq_div_pow, Nat.pow_mul, show (2 : Nat) ^ 8 = 256 from rfl]
  omega
theorem numR_num8 (q : UInt64) : numR q 8 = num8 q 8 := by
  simp only [numR, num8, div64_byte q (show 0 < 8 by omega), div64_byte q (show 1 < 8 by omega), div64_byte q (show 2 < 8 by omega), div64_byte q (show 3 < 8 by omega), div64_byte q (show 4 < 8 by omega), div64_byte q (show 5 < 8 by omega), div64_byte q (show 6 < 8 by omega), div64_byte q (show 7 < 8 by omega)]
  rfl
theorem rnum_any (n : Int) (w : World) :
    C Tryd.prog 84 ⟨[iv n]⟩ w fun v w' => v = str (numOf n) ∧ St w [] w' := by
  refine C_enter (n := 20) Tryd.func84 rfl rfl rfl (fun w1 hs1 => ?_)
  refine W_seq ?_
  refine W_region ?_
  refine L0 (wanted_none rfl) rfl (y_assign (v := Value.string ⟨⟨_⟩⟩) rfl rfl) ?_
  refine Lnil ?_
  refine W_seq ?_
  refine W_region ?_
  refine L0 (wanted_none rfl) rfl (y_assign (v := Value.string ⟨⟨_⟩⟩) rfl rfl) ?_
  refine Lnil ?_
  refine W_seq ?_
  refine W_region ?_
  refine L0 (wanted_none rfl) rfl (y_move (v := Value.int _ _) rfl rfl) ?_
  refine L0 (wanted_none rfl) rfl (y_cito64 rfl Tryd.underlying3 Tryd.underlying122 rfl) ?_
  refine L0 (wanted_none rfl) rfl (y_assign (v := Value.int _ _) rfl rfl) ?_
  refine Lnil ?_
  refine W_seq ?_
  refine W_seq ?_
  refine W_region ?_
  refine L0 (wanted_none rfl) rfl (y_move (v := Value.int _ _) rfl rfl) ?_
  refine Lnil ?_
  refine W_block ?_
  refine W_loop (G := Nat) (fun j aL wl => ∃ e, aL = A 20 ((7, iv j) :: (4, qv (div64 (u64of n) j)) :: (3, str (numR (u64of n) j)) :: e) ∧ j ≤ 8 ∧ St w [] wl) (fun j => 8 - j) (0) ?_ ?_
  · exact ⟨_, A_pins _ _ [7, 4, 3], by omega, hs1⟩
  rintro j _ w2 ⟨ehs3, rfl, hj, hs3⟩
  have hlen := numR_len (u64of n) j
  refine W_seq ?_
  refine W_region ?_
  refine L0 (wanted_none rfl) rfl (y_lt rfl rfl rfl) ?_
  refine Lnil ?_
  refine W_seq ?_
  refine Wsp (t := 8) rfl (fun h4 => ?_) (fun h4 => ?_)
  · have h4' := h4
    first | replace h4' := of_decide_eq_true h4' | replace h4' := bnT' h4' | skip
    refine W_condT rfl h4 ?_
    refine W_skip ?_
    refine W_seq ?_
    refine W_block ?_
    refine W_seq ?_
    refine W_region ?_
    refine L0 (wanted_none rfl) rfl (y_move (v := Value.int _ _) rfl rfl) ?_
    refine L0 (wanted_none rfl) rfl (y_rem64u (q' := 256) rfl rfl rfl (by decide)) ?_
    refine L0 (wanted_none rfl) rfl (y_c64to8 rfl Tryd.underlying122 Tryd.underlying5 rfl) ?_
    refine Lc (wanted_none rfl) (c_bs1 (v0 := bv _) hs3 rfl rfl Tryd.underlying113 sz5 zr5 rfl rfl (fun b5 w6 hbb5 hs7 => ?_))
    refine L1 (wanted_none rfl) rfl hs7 (y_bstr rfl Tryd.underlying113 Tryd.underlying5 Tryd.underlying9 rfl (Row.of_block (E := 5) (xs := bs [(div64 (u64of n) j % 256).toUInt8]) hbb5 (by simp)) (fun x hx => by first | exact hx | exact List.mem_cons.2 (.inl (List.mem_singleton.1 hx)) | simp [hx])) ?_
    refine L0 (wanted_none rfl) rfl (y_move (v := Value.string ⟨⟨_⟩⟩) rfl rfl) ?_
    refine L0 (wanted_none rfl) rfl (y_scat rfl rfl rfl (by first | omega | (simp; omega) | (simp only [List.length_append, List.length_cons, List.length_nil]; omega))) ?_
    refine L0 (wanted_none rfl) rfl (y_assign (v := Value.string ⟨⟨_⟩⟩) rfl rfl) ?_
    refine Lnil ?_
    refine W_region ?_
    refine L0 (wanted_none rfl) rfl (y_move (v := Value.int _ _) rfl rfl) ?_
    refine L0 (wanted_none rfl) rfl (y_quo64u (q' := 256) rfl rfl rfl (by decide)) ?_
    refine L0 (wanted_none rfl) rfl (y_assign (v := Value.int _ _) rfl rfl) ?_
    refine Lnil ?_
    refine W_region ?_
    refine L0 (wanted_none rfl) rfl (y_add64 rfl rfl rfl (by omega)) ?_
    refine L0 (wanted_none rfl) rfl (y_move (v := Value.int _ _) rfl rfl) ?_
    refine Lnil ?_
    exact ⟨j + 1, by (try dsimp only); omega, _, A_c (iv_eq (by (try dsimp only); omega)) (A_c rfl (A_c rfl (rfl))), by omega, hs7.drop (.inl hbb5)⟩
  · have h4' := h4
    first | replace h4' := of_decide_eq_false h4' | replace h4' := bnF' h4' | skip
    refine W_condF rfl h4 ?_
    refine W_exit ?_
    refine W_seq ?_
    refine W_region ?_
    refine L0 (wanted_none rfl) rfl (y_move (v := Value.string ⟨⟨_⟩⟩) rfl rfl) ?_
    refine L0 (wanted_none rfl) rfl (y_assign (v := Value.string ⟨⟨_⟩⟩) rfl rfl) ?_
    refine Lnil ?_
    refine W_ret ?_
    refine fin1 (fn := Tryd.f84) rfl rfl ?_
    obtain rfl : j = 8 := by omega
    rw [numR_num8]
    exact ⟨rfl, hs3⟩
theorem rmark_any (k : UInt8) (l : List (List UInt8)) (va : Value) (hbig : (markS [k] l).length ≤ 1099511627776) (hl : l.length ≤ 9223372036854775807) (rb : Nat) (w : World) (hR : RefAt rb w) (hSa : Sl w va l.length (strs l)) :
    C Tryd.prog 83 ⟨[pv rb 0, bv k, va]⟩ w fun v w' => v = str (markOf k l) ∧ St w [] w' := by
  have hrl := hR.lt
  refine C_enter (n := 32) Tryd.func83 rfl rfl rfl (fun w1 hs1 => ?_)
  refine W_seq ?_
  refine W_region ?_
  refine L0 (wanted_none rfl) rfl (y_assign (v := Value.string ⟨⟨_⟩⟩) rfl rfl) ?_
  refine Lnil ?_
  refine W_seq ?_
  refine W_region ?_
  refine L0 (wanted_none rfl) rfl (y_move (v := Value.int _ _) rfl rfl) ?_
  refine Lc (wanted_none rfl) (c_bs1 (v0 := bv _) hs1 rfl rfl Tryd.underlying113 sz5 zr5 rfl rfl (fun b2 w3 hbb2 hs4 => ?_))
  refine L1 (wanted_none rfl) rfl hs4 (y_bstr rfl Tryd.underlying113 Tryd.underlying5 Tryd.underlying9 rfl (Row.of_block (E := 5) (xs := bs [k]) hbb2 (by simp)) (fun x hx => by first | exact hx | exact List.mem_cons.2 (.inl (List.mem_singleton.1 hx)) | simp [hx])) ?_
  refine L0 (wanted_none rfl) rfl (y_assign (v := Value.string ⟨⟨_⟩⟩) rfl rfl) ?_
  refine Lnil ?_
  refine W_seq ?_
  refine W_seq ?_
  refine W_region ?_
  refine L0 (wanted_none rfl) rfl (y_move (v := va) rfl rfl) ?_
  refine L0 (wanted_none rfl) rfl (y_slenSl rfl Tryd.underlying22 rfl hSa) ?_
  refine L0 (wanted_none rfl) rfl (y_move (v := Value.int _ _) rfl rfl) ?_
  refine Lnil ?_
  refine W_block ?_
  refine W_loop (G := Nat) (fun i aL wl => ∃ e, aL = A 32 ((15, iv i) :: (14, iv l.length) :: (13, va) :: (7, str (markT k l i)) :: (0, pv rb 0) :: e) ∧ i ≤ l.length ∧ St w [(b2, .cells ⟨[bv k]⟩ 5 (0, 0))] wl) (fun i => l.length - i) (0) ?_ ?_
  · exact ⟨_, A_pins _ _ [15, 14, 13, 7, 0], by omega, hs4⟩
  rintro i _ w5 ⟨ehs6, rfl, hi, hs6⟩
  refine W_seq ?_
  refine W_region ?_
  refine L0 (wanted_none rfl) rfl (y_lt rfl rfl rfl) ?_
  refine Lnil ?_
  refine W_seq ?_
  refine Wsp (t := 16) rfl (fun h7 => ?_) (fun h7 => ?_)
  · have h7' := h7
    first | replace h7' := of_decide_eq_true h7' | replace h7' := bnT' h7' | skip
    refine W_condT rfl h7 ?_
    refine W_skip ?_
    refine W_seq ?_
    refine W_block ?_
    refine W_seq ?_
    refine W_region ?_
    refine L0 (wanted_none rfl) rfl (y_indexSlAt rfl Tryd.underlying22 sz9 rfl rfl hSa (by omega) (by omega)) ?_
    refine L1 (wanted_none rfl) rfl hs6 (y_loadSl i rfl Tryd.underlying9 rfl rfl hSa (by omega) (by omega) (by intro k hk; first | (simp [keys] at hk; done) | (simp [keys] at hk; omega))) ?_
    refine L0 (wanted_none rfl) rfl (y_assign (v := Value.string ⟨⟨_⟩⟩) rfl rfl) ?_
    refine Lnil ?_
    refine W_seq ?_
    refine W_region ?_
    refine L0 (wanted_none rfl) rfl (y_move (v := Value.string ⟨⟨_⟩⟩) rfl rfl) ?_
    refine L0 (wanted_none rfl) rfl (y_move (v := Value.string ⟨⟨_⟩⟩) rfl rfl) ?_
    refine L0 (wanted_none rfl) rfl (y_len rfl Tryd.underlying9 rfl) ?_
    refine Lc (wanted_none rfl) (c_call rfl rfl rfl Tryd.func84 (by kernel_rfl) rfl (rnum_any _ w5) rfl ?_)
    rintro _ w8 ⟨rfl, hc9⟩
    have hs10 := hs6.call0 hc9
    refine L0 (wanted_none rfl) rfl (y_scat rfl rfl rfl (by have := markT_lt k l i (by omega); rw [numOf_len]; omega)) ?_
    refine L0 (wanted_none rfl) rfl (y_assign (v := Value.string ⟨⟨_⟩⟩) rfl rfl) ?_
    refine Lnil ?_
    refine W_region ?_
    refine L0 (wanted_none rfl) rfl (y_move (v := Value.string ⟨⟨_⟩⟩) rfl rfl) ?_
    refine L0 (wanted_none rfl) rfl (y_move (v := Value.string ⟨⟨_⟩⟩) rfl rfl) ?_
    refine L0 (wanted_none rfl) rfl (y_scat rfl rfl rfl (by have := markT_lt k l i (by omega); rw [List.length_append, numOf_len]; omega)) ?_
    refine L0 (wanted_none rfl) rfl (y_assign (v := Value.string ⟨⟨_⟩⟩) rfl rfl) ?_
    refine Lnil ?_
    refine W_region ?_
    refine L0 (wanted_none rfl) rfl (y_add64 rfl rfl rfl (by omega)) ?_
    refine L0 (wanted_none rfl) rfl (y_move (v := Value.int _ _) rfl rfl) ?_
    refine Lnil ?_
    have hms : str (markT k l i ++ numOf (l.getD i []).length ++ l.getD i []) = str (markT k l (i + 1)) := by rw [markT_succ k l i (by omega), List.append_assoc]
    exact ⟨i + 1, by (try dsimp only); omega, _, A_c (iv_eq (by (try dsimp only); omega)) (A_c rfl (A_c rfl (A_c hms (A_c rfl (rfl))))), by omega, hs10⟩
  · have h7' := h7
    first | replace h7' := of_decide_eq_false h7' | replace h7' := bnF' h7' | skip
    refine W_condF rfl h7 ?_
    refine W_exit ?_
    refine W_seq ?_
    refine W_region ?_
    refine L0 (wanted_none rfl) rfl (y_move (v := Value.pointer _) rfl rfl) ?_
    refine L0 (wanted_none rfl) rfl (y_move (v := Value.string ⟨⟨_⟩⟩) rfl rfl) ?_
    refine Lc (wanted_none rfl) (c_call rfl rfl rfl Tryd.func130 (by kernel_rfl) rfl (rsum_any _ (by have := markT_le k l i; omega) rb w5 (hR.keep hs6 (by have := hbb2; simp [keys]; omega))) rfl ?_)
    rintro _ w11 ⟨rfl, hc12⟩
    have hs13 := hs6.call0 hc12
    refine L0 (wanted_none rfl) rfl (y_sslice_hi rfl Tryd.underlying9 rfl rfl (by rw [shaOf_len]; omega)) ?_
    refine L0 (wanted_none rfl) rfl (y_assign (v := Value.string ⟨⟨_⟩⟩) rfl rfl) ?_
    refine Lnil ?_
    refine W_ret ?_
    refine fin1 (fn := Tryd.f83) rfl rfl ?_
    obtain rfl : i = l.length := by omega
    rw [markT_all]
    exact ⟨rfl, hs13.drop (.inl hbb2)⟩
end Go.Proofs.YtkolfgmpmnelmabDoor

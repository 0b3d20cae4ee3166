/-
  Walks: ref.primes, ref.New.
-/
import Derived.Test.YtkolfgmpmnelmabDoorR2
namespace Go.Proofs.YtkolfgmpmnelmabDoor
open Go Vx Go.Proofs
set_option linter.unusedVariables false
set_option maxRecDepth 4000
set_option maxHeartbeats 400000

@[reducible] def nv (n : Nat) : Value := iv n
theorem sieve_ge : ∀ j, ∀ p ∈ sieve j, 2 ≤ p
  | 0, p, h => by cases h
  | j + 1, p, h => by
    unfold sieve at h
    split at h
    · rcases List.mem_append.1 h with h' | h'
      · exact sieve_ge j p h'
      · rw [List.mem_singleton.1 h']; omega
    · exact sieve_ge j p h
theorem getD_memN {l : List Nat} {i : Nat} (h : i < l.length) : l.getD i 0 ∈ l := by
  rw [List.getD_eq_getElem?_getD, List.getElem?_eq_getElem h]; exact List.getElem_mem h
def allT (l : List Nat) (n i : Nat) : Bool := (l.take i).all (fun p => n % p != 0)
theorem allT_succ {l : List Nat} {n i : Nat} (h : i < l.length) : allT l n (i + 1) = (allT l n i && n % l.getD i 0 != 0) := by
  unfold allT
  rw [List.take_succ_eq_append_getElem h, List.all_append]
  simp [h]
theorem sieve_le : ∀ j, (sieve j).length ≤ j
  | 0 => Nat.le_refl _
  | j + 1 => by
    unfold sieve
    have := sieve_le j
    split
    · rw [List.length_append]; simp only [List.length_cons, List.length_nil]; omega
    · omega
theorem sieve_succ (j : Nat) : sieve (j + 1) = if allT (sieve j) (j + 2) (sieve j).length then sieve j ++ [j + 2] else sieve j := by
  unfold allT; rw [List.take_length]; rfl
theorem sieve_len310 : (sieve 310).length = 64 := by rw [sieve_end]; rfl
theorem allT_T {l : List Nat} {j i : Nat} (h : i < l.length) (ht : allT l (j + 2) i = true) : (!decide (((j : Int) + 2) % ((l.getD i 0 : Nat) : Int) = 0)) = allT l (j + 2) (i + 1) := by
  rw [allT_succ h, ht, Bool.true_and, Bool.eq_iff_iff]
  have e : ((j : Int) + 2) % ((l.getD i 0 : Nat) : Int) = (((j + 2) % l.getD i 0 : Nat) : Int) := by rw [Int.natCast_emod]; rfl
  rw [e]
  generalize (j + 2) % l.getD i 0 = x
  simp
theorem allT_F {l : List Nat} {j i : Nat} (h : i < l.length) (ht : allT l (j + 2) i = false) : false = allT l (j + 2) (i + 1) := by
  rw [allT_succ h, ht, Bool.false_and]
theorem primes_any (w : World) :
    C Tryd.prog 80 ⟨[iv 64]⟩ w fun v w' => ∃ ent, Row w.heap.size 3 1 v 64 (primesT.map nv) ent ∧ St w ent w' := by
  refine C_enter (n := 34) Tryd.func80 rfl rfl rfl (fun w1 hs1 => ?_)
  refine W_seq ?_
  refine W_region ?_
  refine L0 (wanted_none rfl) rfl (y_assign (v := Value.slice _ _ _) rfl rfl) ?_
  refine Lnil ?_
  refine W_seq ?_
  refine W_region ?_
  refine L0 (wanted_none rfl) rfl (y_assign (v := Value.slice _ _ _) rfl rfl) ?_
  refine Lnil ?_
  refine W_seq ?_
  refine W_seq ?_
  refine W_region ?_
  refine L0 (wanted_none rfl) rfl (y_assign (v := Value.int _ _) rfl rfl) ?_
  refine Lnil ?_
  refine W_block ?_
  refine W_loop (G := Nat × Value × Blocks) (fun g aL wl => ∃ e, aL = A 34 ((4, iv ((g.1 : Int) + 2)) :: (3, g.2.1) :: (0, iv 64) :: e) ∧ g.1 ≤ 310 ∧ Row w.heap.size 3 1 g.2.1 (sieve g.1).length ((sieve g.1).map nv) g.2.2 ∧ St w g.2.2 wl) (fun g => 311 - g.1) ((0, .slice none 0 0, [])) ?_ ?_
  · exact ⟨_, A_pins _ _ [4, 3, 0], by omega, Row.nil _ _ _, hs1⟩
  rintro g _ w2 ⟨ehs3, rfl, hj, hrow, hs3⟩
  obtain ⟨j, v, ent⟩ := g
  dsimp only at *
  obtain ⟨l, el⟩ : ∃ x, x = sieve j := ⟨_, rfl⟩
  rw [← el] at hrow
  have hge : ∀ p ∈ l, 2 ≤ p := by rw [el]; exact sieve_ge j
  have h310 : j = 310 → l.length = 64 := fun h => by rw [el, h]; exact sieve_len310
  have hlt : l.length ≤ j := by rw [el]; exact sieve_le j
  refine W_seq ?_
  refine W_seq ?_
  refine W_region ?_
  refine L0 (wanted_none rfl) rfl (y_move (v := v) rfl rfl) ?_
  refine L0 (wanted_none rfl) rfl (y_slenRow rfl Tryd.underlying23 rfl hrow) ?_
  refine L0 (wanted_none rfl) rfl (y_move (v := Value.int _ _) rfl rfl) ?_
  refine L0 (wanted_none rfl) rfl (y_lt rfl rfl rfl) ?_
  refine Lnil ?_
  refine Wsp (t := 11) rfl (fun h4 => ?_) (fun h4 => ?_)
  · have h4' := h4
    first | replace h4' := of_decide_eq_true h4' | replace h4' := bnT' h4' | skip
    refine W_condT rfl h4 ?_
    refine W_skip ?_
    refine W_seq ?_
    refine W_block ?_
    refine W_seq ?_
    refine W_region ?_
    refine L0 (wanted_none rfl) rfl (y_assign (v := Value.bool _) rfl rfl) ?_
    refine Lnil ?_
    refine W_seq ?_
    refine W_seq ?_
    refine W_region ?_
    refine L0 (wanted_none rfl) rfl (y_move (v := v) rfl rfl) ?_
    refine L0 (wanted_none rfl) rfl (y_slenRow rfl Tryd.underlying23 rfl hrow) ?_
    refine L0 (wanted_none rfl) rfl (y_move (v := Value.int _ _) rfl rfl) ?_
    refine Lnil ?_
    refine W_block ?_
    refine W_loop (G := Nat) (fun i aL wl => ∃ e, aL = A 34 ((16, iv i) :: (15, iv l.length) :: (14, v) :: (5, .bool (allT l (j + 2) i)) :: (4, iv ((j : Int) + 2)) :: (3, v) :: (0, iv 64) :: e) ∧ i ≤ l.length ∧ St w ent wl) (fun i => l.length - i) (0) ?_ ?_
    · exact ⟨_, A_pins _ _ [16, 15, 14, 5, 4, 3, 0], Nat.zero_le _, hs3⟩
    rintro i _ w5 ⟨ehs6, rfl, hi, hs6⟩
    refine W_seq ?_
    refine W_region ?_
    refine L0 (wanted_none rfl) rfl (y_lt rfl rfl rfl) ?_
    refine Lnil ?_
    refine W_seq ?_
    refine Wsp (t := 17) rfl (fun h7 => ?_) (fun h7 => ?_)
    · have h7' := h7
      first | replace h7' := of_decide_eq_true h7' | replace h7' := bnT' h7' | skip
      refine W_condT rfl h7 ?_
      refine W_skip ?_
      refine W_seq ?_
      refine W_block ?_
      refine W_seq ?_
      have hil : i < l.length := by omega
      have hp2 := hge _ (getD_memN hil)
      obtain ⟨gv, capv, curv, fzv, rfl, rfl, hgv, hlv, hfv, hmv, hcv⟩ := row_block hrow (by omega) 0
      refine W_region ?_
      refine L0 (wanted_none rfl) rfl (y_indexSl rfl Tryd.underlying23 sz3 rfl rfl (by omega) (by omega)) ?_
      refine L1 (wanted_none rfl) rfl hs6 (y_load 0 rfl Tryd.underlying3 rfl rfl rfl (by rw [ix1]; exact hcv _ hil)) ?_
      refine L0 (wanted_none rfl) rfl (y_assign (v := Value.int _ _) rfl rfl) ?_
      refine Lnil ?_
      refine W_region ?_
      refine L0 (wanted_none rfl) rfl (y_move (v := Value.bool _) rfl rfl) ?_
      refine L0 (wanted_none rfl) rfl (y_move (v := Value.bool _) rfl rfl) ?_
      refine Lsp (t := 21) rfl (fun h8 => ?_) (fun h8 => ?_)
      · have h8' := h8
        first | replace h8' := of_decide_eq_true h8' | replace h8' := bnT' h8' | skip
        refine L0 (wanted_yesB rfl rfl rfl h8) rfl (y_move (v := Value.int _ _) rfl rfl) ?_
        refine L0 (wanted_yesB rfl rfl rfl h8) rfl (y_move (v := Value.int _ _) rfl rfl) ?_
        refine L0 (wanted_yesB rfl rfl rfl h8) rfl (y_rem64 rfl rfl rfl (by omega) (by omega)) ?_
        refine L0 (wanted_yesB rfl rfl rfl h8) rfl (y_ne rfl rfl rfl) ?_
        refine L0 (wanted_none rfl) rfl (y_pickT rfl rfl h8 rfl) ?_
        refine L0 (wanted_none rfl) rfl (y_assign (v := Value.bool _) rfl rfl) ?_
        refine Lnil ?_
        refine W_region ?_
        refine L0 (wanted_none rfl) rfl (y_add64 rfl rfl rfl (by omega)) ?_
        refine L0 (wanted_none rfl) rfl (y_move (v := Value.int _ _) rfl rfl) ?_
        refine Lnil ?_
        exact ⟨i + 1, by (try dsimp only); omega, _, A_c (iv_eq (by (try dsimp only); omega)) (A_c rfl (A_c rfl (A_c (congrArg Value.bool (by first | exact allT_T hil (by assumption) | exact allT_F hil (by assumption))) (A_c rfl (A_c rfl (A_c rfl (rfl))))))), by omega, hs6⟩
      · have h8' := h8
        first | replace h8' := of_decide_eq_false h8' | replace h8' := bnF' h8' | skip
        refine Lno (wanted_noB rfl rfl rfl h8 (by decide)) rfl ?_
        refine Lno (wanted_noB rfl rfl rfl h8 (by decide)) rfl ?_
        refine Lno (wanted_noB rfl rfl rfl h8 (by decide)) rfl ?_
        refine Lno (wanted_noB rfl rfl rfl h8 (by decide)) rfl ?_
        refine L0 (wanted_none rfl) rfl (y_pickF rfl rfl h8 rfl) ?_
        refine L0 (wanted_none rfl) rfl (y_assign (v := Value.bool _) rfl rfl) ?_
        refine Lnil ?_
        refine W_region ?_
        refine L0 (wanted_none rfl) rfl (y_add64 rfl rfl rfl (by omega)) ?_
        refine L0 (wanted_none rfl) rfl (y_move (v := Value.int _ _) rfl rfl) ?_
        refine Lnil ?_
        exact ⟨i + 1, by (try dsimp only); omega, _, A_c (iv_eq (by (try dsimp only); omega)) (A_c rfl (A_c rfl (A_c (congrArg Value.bool (by first | exact allT_T hil (by assumption) | exact allT_F hil (by assumption))) (A_c rfl (A_c rfl (A_c rfl (rfl))))))), by omega, hs6⟩
    · have h7' := h7
      first | replace h7' := of_decide_eq_false h7' | replace h7' := bnF' h7' | skip
      refine W_condF rfl h7 ?_
      refine W_exit ?_
      refine W_seq ?_
      obtain rfl : i = l.length := by omega
      refine W_region ?_
      refine L0 (wanted_none rfl) rfl (y_move (v := Value.bool _) rfl rfl) ?_
      refine Lnil ?_
      refine Wsp (t := 28) rfl (fun h9 => ?_) (fun h9 => ?_)
      · have h9' := h9
        first | replace h9' := of_decide_eq_true h9' | replace h9' := bnT' h9' | skip
        refine W_condT rfl h9 ?_
        refine W_region ?_
        refine L0 (wanted_none rfl) rfl (y_move (v := v) rfl rfl) ?_
        refine L0 (wanted_none rfl) rfl (y_move (v := Value.int _ _) rfl rfl) ?_
        refine Lc (wanted_none rfl) (c_bs1 (v0 := nv _) hs6 rfl rfl Tryd.underlying23 sz3 zr3 rfl rfl (fun b10 w11 hbb10 hs12 => ?_))
        refine Lc (wanted_none rfl) (c_append (L0 := []) (ent := ent) hs12 hbb10 rfl rfl Tryd.underlying23 sz3 zr3 by3 rfl (by decide) rfl hrow rfl (by decide) rfl (by simp [Value.oneCell']) (by omega) (by omega) (fun v13 ent14 w15 hrow' hs16 => ?_))
        have hrow := hrow'
        refine L0 (wanted_none rfl) rfl (y_assign (v := v13) rfl rfl) ?_
        refine Lnil ?_
        refine W_region ?_
        refine L0 (wanted_none rfl) rfl (y_move (v := Value.int _ _) rfl rfl) ?_
        refine L0 (wanted_none rfl) rfl (y_add64 rfl rfl rfl (by omega)) ?_
        refine L0 (wanted_none rfl) rfl (y_assign (v := Value.int _ _) rfl rfl) ?_
        refine Lnil ?_
        obtain ⟨hrow2⟩ : Nonempty (Row w.heap.size 3 1 v13 (sieve (j + 1)).length ((sieve (j + 1)).map nv) ent14) := by
          first
            | (have e : sieve (j + 1) = l ++ [j + 2] := by rw [sieve_succ, ← el, if_pos (by assumption)]
               rw [e, List.map_append, List.length_append]; exact ⟨hrow⟩)
            | (have e : sieve (j + 1) = l := by rw [sieve_succ, ← el, if_neg (by rw [show allT l (j + 2) l.length = false from by assumption]; decide)]
               rw [e]; exact ⟨hrow⟩)
        exact ⟨(j + 1, _, _), by (dsimp only); omega, _, A_c (iv_eq (by (try dsimp only); omega)) (A_c rfl (A_c rfl (rfl))), by (dsimp only); omega, hrow2, hs16⟩
      · have h9' := h9
        first | replace h9' := of_decide_eq_false h9' | replace h9' := bnF' h9' | skip
        refine W_condF rfl h9 ?_
        refine W_skip ?_
        refine W_region ?_
        refine L0 (wanted_none rfl) rfl (y_move (v := Value.int _ _) rfl rfl) ?_
        refine L0 (wanted_none rfl) rfl (y_add64 rfl rfl rfl (by omega)) ?_
        refine L0 (wanted_none rfl) rfl (y_assign (v := Value.int _ _) rfl rfl) ?_
        refine Lnil ?_
        obtain ⟨hrow2⟩ : Nonempty (Row w.heap.size 3 1 v (sieve (j + 1)).length ((sieve (j + 1)).map nv) ent) := by
          first
            | (have e : sieve (j + 1) = l ++ [j + 2] := by rw [sieve_succ, ← el, if_pos (by assumption)]
               rw [e, List.map_append, List.length_append]; exact ⟨hrow⟩)
            | (have e : sieve (j + 1) = l := by rw [sieve_succ, ← el, if_neg (by rw [show allT l (j + 2) l.length = false from by assumption]; decide)]
               rw [e]; exact ⟨hrow⟩)
        exact ⟨(j + 1, _, _), by (dsimp only); omega, _, A_c (iv_eq (by (try dsimp only); omega)) (A_c rfl (A_c rfl (rfl))), by (dsimp only); omega, hrow2, hs6⟩
  · have h4' := h4
    first | replace h4' := of_decide_eq_false h4' | replace h4' := bnF' h4' | skip
    refine W_condF rfl h4 ?_
    refine W_exit ?_
    refine W_seq ?_
    refine W_region ?_
    refine L0 (wanted_none rfl) rfl (y_move (v := v) rfl rfl) ?_
    refine L0 (wanted_none rfl) rfl (y_assign (v := v) rfl rfl) ?_
    refine Lnil ?_
    refine W_ret ?_
    refine fin1 (fn := Tryd.f80) rfl rfl ?_
    have hj310 : j = 310 := by
      rcases Nat.lt_or_ge j 310 with h | h
      · have := sieve_short j h; rw [← el] at this; omega
      · omega
    subst hj310
    rw [el, sieve_end] at hrow
    exact ⟨_, hrow, hs3⟩
/-- The numbers, as far as they are reckoned. -/
def newR : Nat → List UInt32
  | 0 => List.replicate 72 0
  | i + 1 => if i < 8 then ((newR i).set (8 + i) (kT.getD i 0)).set i (h0T.getD i 0) else (newR i).set (8 + i) (kT.getD i 0)
theorem newR_len : ∀ i, (newR i).length = 72
  | 0 => rfl
  | i + 1 => by
    unfold newR; split
    · rw [List.length_set, List.length_set, newR_len i]
    · rw [List.length_set, newR_len i]
theorem newR_end : newR 64 = h0T ++ kT := by decide +kernel
theorem us_setO (cs : List UInt32) (o i : Nat) (x : UInt32) : (us cs).setIfInBounds (0 + o + (i : Int).toNat * 1) (uv x) = us (cs.set (o + i) x) := by
  simp [us, List.map_set]
theorem prime_small : ∀ i, i < 64 → primesT.getD i 0 < 65536 := by decide
theorem prime_u64 {i : Nat} (h : i < 64) : (u64of ((primesT.getD i 0 : Nat) : Int)).toNat = primesT.getD i 0 := by
  have h1 := prime_small i h
  generalize primesT.getD i 0 = p at *
  simp [u64of]; omega
theorem root_kT (i : Nat) (hi : i < 64) (w : World) : C Tryd.prog 81 ⟨[qv (u64of ((primesT.getD i 0 : Nat) : Int)), iv 3]⟩ w fun v w' => v = uv (kT.getD i 0) ∧ St w [] w' := by
  have h := root_any (u64of ((primesT.getD i 0 : Nat) : Int)) 3 (by omega) (by omega) (by rw [prime_u64 hi]; exact prime_small i hi) w
  refine h.mono ?_
  rintro v w' ⟨⟨x, rfl, hx⟩, hs⟩
  rw [prime_u64 hi] at hx
  exact ⟨by rw [root3 hi hx], hs⟩
theorem root_hT (i : Nat) (hi : i < 8) (w : World) : C Tryd.prog 81 ⟨[qv (u64of ((primesT.getD i 0 : Nat) : Int)), iv 2]⟩ w fun v w' => v = uv (h0T.getD i 0) ∧ St w [] w' := by
  have h := root_any (u64of ((primesT.getD i 0 : Nat) : Int)) 2 (by omega) (by omega) (by rw [prime_u64 (by omega)]; exact prime_small i (by omega)) w
  refine h.mono ?_
  rintro v w' ⟨⟨x, rfl, hx⟩, hs⟩
  rw [prime_u64 (by omega)] at hx
  exact ⟨by rw [root2 hi hx], hs⟩
theorem new_any (w : World) :
    C Tryd.prog 27 ⟨[]⟩ w fun v w' => ∃ b, v = pv b 0 ∧ w.heap.size ≤ b ∧ St w [(b, .cells (us (h0T ++ kT)) 127 (0, 0))] w' := by
  refine C_enter (n := 33) Tryd.func27 rfl rfl rfl (fun w1 hs1 => ?_)
  refine W_seq ?_
  refine W_region ?_
  refine L0 (wanted_none rfl) rfl (y_assign (v := Value.pointer _) rfl rfl) ?_
  refine Lnil ?_
  refine W_seq ?_
  refine W_region ?_
  refine L0 (wanted_none rfl) rfl (y_build0 (places := #[(0, 8), (8, 64)]) rfl Tryd.underlying127 zr127 (fun w => by kernel_rfl)) ?_
  refine Lc (wanted_none rfl) (c_box hs1 rfl rfl rfl (fun b2 w3 hbb2 hs4 => ?_))
  change St w [(_, .cells (us (newR 0)) 127 (0, 0))] _ at hs4
  refine L0 (wanted_none rfl) rfl (y_assign (v := Value.pointer _) rfl rfl) ?_
  refine Lnil ?_
  refine W_seq ?_
  refine W_seq ?_
  refine W_region ?_
  refine Lc (wanted_none rfl) (c_call rfl rfl rfl Tryd.func80 (by kernel_rfl) rfl (primes_any w3) rfl ?_)
  rintro vP w5 ⟨entP, hrP, hc6⟩
  have hrP0 := hrP
  replace hrP := hrP.weaken hs4.size
  have hs7 := hs4.call_new hc6 (fun k hk => hrP0.keys_new k hk)
  obtain ⟨gp, capp, curp, fzp, rfl, rfl, hgp, hlp, hfp, hmp, hcp⟩ := row_block hrP (by decide) 0
  refine L0 (wanted_none rfl) rfl (y_slen rfl Tryd.underlying23 rfl) ?_
  refine L0 (wanted_none rfl) rfl (y_move (v := Value.int _ _) rfl rfl) ?_
  refine Lnil ?_
  refine W_block ?_
  refine W_loop (G := Nat) (fun i aL wl => ∃ e, aL = A 33 ((8, iv i) :: (7, iv 64) :: (6, .slice (some ⟨gp, 0, none⟩) 64 capp) :: (1, pv b2 0) :: e) ∧ i ≤ 64 ∧ St w [(gp, .cells curp 3 fzp), (b2, .cells (us (newR i)) 127 (0, 0))] wl) (fun i => 64 - i) (0) ?_ ?_
  · exact ⟨_, A_pins _ _ [8, 7, 6, 1], by omega, hs7⟩
  rintro i _ w8 ⟨ehs9, rfl, hi, hs9⟩
  have hlen := newR_len i
  refine W_seq ?_
  refine W_region ?_
  refine L0 (wanted_none rfl) rfl (y_lt rfl rfl rfl) ?_
  refine Lnil ?_
  refine W_seq ?_
  refine Wsp (t := 9) rfl (fun h10 => ?_) (fun h10 => ?_)
  · have h10' := h10
    first | replace h10' := of_decide_eq_true h10' | replace h10' := bnT' h10' | skip
    refine W_condT rfl h10 ?_
    refine W_skip ?_
    refine W_seq ?_
    refine W_block ?_
    refine W_seq ?_
    refine W_region ?_
    refine L0 (wanted_none rfl) rfl (y_move (v := Value.int _ _) rfl rfl) ?_
    refine L0 (wanted_none rfl) rfl (y_indexSl rfl Tryd.underlying23 sz3 rfl rfl (by omega) (by omega)) ?_
    refine L1 (wanted_none rfl) rfl hs9 (y_load 0 rfl Tryd.underlying3 rfl rfl rfl (by rw [ix1]; exact hcp _ (by omega))) ?_
    refine L0 (wanted_none rfl) rfl (y_assign (v := Value.int _ _) rfl rfl) ?_
    refine L0 (wanted_none rfl) rfl (y_assign (v := Value.int _ _) rfl rfl) ?_
    refine Lnil ?_
    refine W_seq ?_
    refine W_drawSt [(0, 0), (0, 1), (0, 2), (0, 3), (0, 5), (0, 6), (2, 4), (0, 7), (2, 8)] hs9 mixed (by kernel_rfl) (fun w11 hs12 => ?_)
    refine E0 (wanted_none rfl) rfl (y_move (v := Value.pointer _) rfl rfl) ?_
    refine E0 (wanted_none rfl) rfl (y_move (v := Value.int _ _) rfl rfl) ?_
    refine E0 (wanted_none rfl) rfl (y_move (v := Value.int _ _) rfl rfl) ?_
    refine E0 (wanted_none rfl) rfl (y_cito64 rfl Tryd.underlying3 Tryd.underlying122 rfl) ?_
    refine E0 (wanted_none rfl) rfl (y_nilCheck rfl rfl) ?_
    refine E0 (wanted_none rfl) rfl (y_fieldAddr rfl Tryd.underlying127 rfl sz125 rfl) ?_
    refine E2 (wanted_none rfl) (c_call rfl rfl rfl Tryd.func81 (by kernel_rfl) rfl (root_kT i (by omega) w11) rfl ?_)
    rintro _ w13 ⟨rfl, hc14⟩
    have hs15 := hs12.call0 hc14
    refine E0 (wanted_none rfl) rfl (y_indexArr rfl Tryd.underlying125 sz123 rfl rfl (by omega) (by omega)) ?_
    refine E2 (wanted_none rfl) (c_store (i := 1) (v := uv _) hs15 rfl rfl rfl rfl sz123 rfl rfl (by rw [us_size, hlen]; simp; omega) (Fz.zero _) (fun w16 hs17 => ?_))
    rw [List.set_cons_succ, List.set_cons_zero, us_setO] at hs17
    refine Enil ?_
    refine W_seq ?_
    refine W_region ?_
    refine L0 (wanted_none rfl) rfl (y_move (v := Value.int _ _) rfl rfl) ?_
    refine L0 (wanted_none rfl) rfl (y_lt rfl rfl rfl) ?_
    refine Lnil ?_
    refine Wsp (t := 22) rfl (fun h18 => ?_) (fun h18 => ?_)
    · have h18' := h18
      first | replace h18' := of_decide_eq_true h18' | replace h18' := bnT' h18' | skip
      refine W_condT rfl h18 ?_
      refine W_drawSt [(0, 0), (0, 1), (0, 2), (0, 3), (0, 5), (0, 6), (2, 4), (0, 7), (2, 8)] hs17 mixed (by kernel_rfl) (fun w19 hs20 => ?_)
      refine E0 (wanted_none rfl) rfl (y_move (v := Value.pointer _) rfl rfl) ?_
      refine E0 (wanted_none rfl) rfl (y_move (v := Value.int _ _) rfl rfl) ?_
      refine E0 (wanted_none rfl) rfl (y_move (v := Value.int _ _) rfl rfl) ?_
      refine E0 (wanted_none rfl) rfl (y_cito64 rfl Tryd.underlying3 Tryd.underlying122 rfl) ?_
      refine E0 (wanted_none rfl) rfl (y_nilCheck rfl rfl) ?_
      refine E0 (wanted_none rfl) rfl (y_fieldAddr rfl Tryd.underlying127 rfl sz124 rfl) ?_
      refine E2 (wanted_none rfl) (c_call rfl rfl rfl Tryd.func81 (by kernel_rfl) rfl (root_hT i (by omega) w19) rfl ?_)
      rintro _ w21 ⟨rfl, hc22⟩
      have hs23 := hs20.call0 hc22
      refine E0 (wanted_none rfl) rfl (y_indexArr rfl Tryd.underlying124 sz123 rfl rfl (by omega) (by omega)) ?_
      refine E2 (wanted_none rfl) (c_store (i := 1) (v := uv _) hs23 rfl rfl rfl rfl sz123 rfl rfl (by rw [us_size, List.length_set, hlen]; simp; omega) (Fz.zero _) (fun w24 hs25 => ?_))
      rw [List.set_cons_succ, List.set_cons_zero, us_setO] at hs25
      refine Enil ?_
      refine W_region ?_
      refine L0 (wanted_none rfl) rfl (y_add64 rfl rfl rfl (by omega)) ?_
      refine L0 (wanted_none rfl) rfl (y_move (v := Value.int _ _) rfl rfl) ?_
      refine Lnil ?_
      have hsF : St w [(gp, .cells curp 3 fzp), (b2, .cells (us (newR (i + 1))) 127 (0, 0))] w24 := by
        first
          | (have e : newR (i + 1) = ((newR i).set (8 + i) (kT.getD i 0)).set (0 + i) (h0T.getD i 0) := by rw [newR, if_pos (by omega), Nat.zero_add]
             rw [e]; exact hs25)
          | (have e : newR (i + 1) = (newR i).set (8 + i) (kT.getD i 0) := by rw [newR, if_neg (by omega)]
             rw [e]; exact hs25)
      exact ⟨i + 1, by (try dsimp only); omega, _, A_c (iv_eq (by (try dsimp only); omega)) (A_c rfl (A_c rfl (A_c rfl (rfl)))), by omega, hsF⟩
    · have h18' := h18
      first | replace h18' := of_decide_eq_false h18' | replace h18' := bnF' h18' | skip
      refine W_condF rfl h18 ?_
      refine W_skip ?_
      refine W_region ?_
      refine L0 (wanted_none rfl) rfl (y_add64 rfl rfl rfl (by omega)) ?_
      refine L0 (wanted_none rfl) rfl (y_move (v := Value.int _ _) rfl rfl) ?_
      refine Lnil ?_
      have hsF : St w [(gp, .cells curp 3 fzp), (b2, .cells (us (newR (i + 1))) 127 (0, 0))] w16 := by
        first
          | (have e : newR (i + 1) = ((newR i).set (8 + i) (kT.getD i 0)).set (0 + i) (h0T.getD i 0) := by rw [newR, if_pos (by omega), Nat.zero_add]
             rw [e]; exact hs17)
          | (have e : newR (i + 1) = (newR i).set (8 + i) (kT.getD i 0) := by rw [newR, if_neg (by omega)]
             rw [e]; exact hs17)
      exact ⟨i + 1, by (try dsimp only); omega, _, A_c (iv_eq (by (try dsimp only); omega)) (A_c rfl (A_c rfl (A_c rfl (rfl)))), by omega, hsF⟩
  · have h10' := h10
    first | replace h10' := of_decide_eq_false h10' | replace h10' := bnF' h10' | skip
    refine W_condF rfl h10 ?_
    refine W_exit ?_
    refine W_seq ?_
    refine W_region ?_
    refine L0 (wanted_none rfl) rfl (y_move (v := Value.pointer _) rfl rfl) ?_
    refine L0 (wanted_none rfl) rfl (y_assign (v := Value.pointer _) rfl rfl) ?_
    refine Lnil ?_
    refine W_ret ?_
    refine fin1 (fn := Tryd.f27) rfl rfl ?_
    obtain rfl : i = 64 := by omega
    rw [newR_end] at hs9
    exact ⟨_, rfl, hbb2, hs9.drop (.inl hgp)⟩
end Go.Proofs.YtkolfgmpmnelmabDoor

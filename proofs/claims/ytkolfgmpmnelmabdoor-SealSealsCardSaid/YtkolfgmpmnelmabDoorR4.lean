/-
  Walks: ref.R.Sum.
-/
import Derived.Test.YtkolfgmpmnelmabDoorR3
import Derived.Test.YtkolfgmpmnelmabDoorH3
namespace Go.Proofs.YtkolfgmpmnelmabDoor
open Go Vx Go.Proofs
set_option linter.unusedVariables false
set_option maxRecDepth 4000
set_option maxHeartbeats 400000

/-- The reference's numbers lie at rb. -/
def RefAt (rb : Nat) (w : World) : Prop := w.heap[rb]? = some (.cells (us (h0T ++ kT)) 127 (0, 0))
theorem RefAt.keep {rb : Nat} {w w' : World} {L : Blocks} (h : RefAt rb w) (hs : St w L w') (hL : rb ∉ keys L) : RefAt rb w' := by
  unfold RefAt at *; exact hs.old h hL
theorem RefAt.lt {rb : Nat} {w : World} (h : RefAt rb w) : rb < w.heap.size := lt_of_has h
theorem refK {rb : Nat} {w : World} (h : RefAt rb w) {i : Nat} (hi : i < 64) : w.cell? ⟨rb, 0 + 8 + (i : Int).toNat * 1, none⟩ = some (uv (kT.getD i 0)) := by
  rw [cell_of_has h]
  have e : 0 + 8 + (i : Int).toNat * 1 = 8 + i := by simp
  rw [e]
  have hl : (h0T ++ kT).length = 72 := rfl
  have h1 : (h0T ++ kT).getD (8 + i) 0 = kT.getD i 0 := by
    rw [List.getD_eq_getElem?_getD, List.getElem?_append_right (by show 8 ≤ 8 + i; omega), show 8 + i - h0T.length = i from by show 8 + i - 8 = i; omega, ← List.getD_eq_getElem?_getD]
  rw [← h1]
  have h2 : 8 + i < (h0T ++ kT).length := by rw [hl]; omega
  simp only [us, List.getElem?_toArray, List.getElem?_map, List.getD_eq_getElem?_getD, List.getElem?_eq_getElem h2, Option.map_some, Option.getD_some]
theorem fillB_zero (s : List UInt8) : ∀ k j, k ≤ j → j < 64 → (fillB s k).getD j 0 = 0
  | 0, j, _, h => by rw [fillB, List.getD_eq_getElem?_getD, List.getElem?_replicate, if_pos h]; rfl
  | k + 1, j, h1, h2 => by
    rw [fillB, List.getD_eq_getElem?_getD, List.getElem?_set_ne (by omega), ← List.getD_eq_getElem?_getD]
    exact fillB_zero s k j (by omega) h2
theorem set_same {l : List UInt32} {j : Nat} {x : UInt32} (h : l.getD j 0 = x) (hj : j < l.length) : l.set j x = l := by
  apply List.ext_getElem?
  intro k
  rw [List.getElem?_set]
  split
  · rename_i hk
    subst hk
    rw [List.getD_eq_getElem?_getD, List.getElem?_eq_getElem hj] at h
    rw [List.getElem?_eq_getElem hj]; simpa using h.symm
  · rfl
theorem sched_at (s : List UInt8) {t : Nat} (h : t < 16) : (sched s t).set t (beR s t 0) = sched s t := by
  have e1 : sched s t = fillB s t := by unfold sched; rw [if_pos (by omega)]
  rw [e1]
  exact set_same (fillB_zero s t t (Nat.le_refl _) (by omega)) (by rw [fillB_len]; omega)
theorem beR_step (s : List UInt8) (t j : Nat) (h : t < 64) : ((sched s t).set t (beR s t j)).getD t 0 * 256 + (s.getD (4 * t + j) 0).toUInt32 = beR s t (j + 1) := by
  have : ((sched s t).set t (beR s t j)).getD t 0 = beR s t j := by
    rw [List.getD_eq_getElem?_getD, List.getElem?_set_self (by rw [sched_len]; exact h)]; rfl
  rw [this]; rfl
theorem eight_at {R : List UInt32} {i : Nat} (h : i < 8) : [uv (R.getD 0 0), uv (R.getD 1 0), uv (R.getD 2 0), uv (R.getD 3 0), uv (R.getD 4 0), uv (R.getD 5 0), uv (R.getD 6 0), uv (R.getD 7 0)][(i : Int).toNat * 1]? = some (uv (R.getD i 0)) := by
  have e : (i : Int).toNat * 1 = i := by simp
  rw [e]
  match i, h with
  | 0, _ => rfl
  | 1, _ => rfl
  | 2, _ => rfl
  | 3, _ => rfl
  | 4, _ => rfl
  | 5, _ => rfl
  | 6, _ => rfl
  | 7, _ => rfl
/-- A byte of a part of what lies in a block. -/
theorem part_at {cur : Array Value} {p blk : List UInt8} {q t j : Nat} (hb : blk = (p.drop (64 * q)).take 64) (h : cur.toList.take (p.length * 1) = bs p) (h1 : 64 * q + 4 * t + j < p.length) (h2 : 4 * t + j < 64) : cur[64 * q + 4 * t + (j : Int).toNat * 1]? = some (bv (blk.getD (4 * t + j) 0)) := by
  subst hb
  have e : 64 * q + 4 * t + (j : Int).toNat * 1 = 64 * q + 4 * t + j := by simp
  rw [e]
  have h3 : (cur.toList.take (p.length * 1))[64 * q + 4 * t + j]? = cur[64 * q + 4 * t + j]? := by rw [List.getElem?_take_of_lt (by omega)]; simp
  rw [← h3, h]
  simp only [bs, List.getElem?_map, List.getElem?_eq_getElem h1, Option.map_some, List.getD_eq_getElem?_getD, List.getElem?_take_of_lt h2, List.getElem?_drop]
  rw [show 64 * q + (4 * t + j) = 64 * q + 4 * t + j from by omega, List.getElem?_eq_getElem h1]; rfl
theorem rotS_any (x : UInt32) (s : Nat) (h0 : 0 < s) (h1 : s < 32) (w : World) :
    C Tryd.prog 153 ⟨[uv x, iv s]⟩ w fun v w' => v = uv (rotr x s) ∧ St w [] w' := by
  refine C_enter (n := 13) Tryd.func153 rfl rfl rfl (fun w1 hs1 => ?_)
  refine W_seq ?_
  refine W_region ?_
  refine L0 (wanted_none rfl) rfl (y_assign (v := Value.int _ _) rfl rfl) ?_
  refine Lnil ?_
  refine W_seq ?_
  refine W_drawSt [(0, 0), (0, 1), (0, 3), (0, 4), (0, 2), (0, 5), (0, 6), (0, 7), (0, 8)] hs1 mixed (by kernel_rfl) (fun w2 hs3 => ?_)
  refine E0 (wanted_none rfl) rfl (y_move (v := Value.int _ _) rfl rfl) ?_
  refine E0 (wanted_none rfl) rfl (y_move (v := Value.int _ _) rfl rfl) ?_
  refine E0 (wanted_none rfl) rfl (y_move (v := Value.int _ _) rfl rfl) ?_
  refine E0 (wanted_none rfl) rfl (y_move (v := Value.int _ _) rfl rfl) ?_
  refine E0 (wanted_none rfl) rfl (y_shr32 rfl rfl rfl (s := s) (by first | rfl | omega) (by omega)) ?_
  refine E0 (wanted_none rfl) rfl (y_sub64 rfl rfl rfl (by omega)) ?_
  refine E0 (wanted_none rfl) rfl (y_shl32 rfl rfl rfl (s := (32 - s)) (by first | rfl | omega) (by omega)) ?_
  refine E0 (wanted_none rfl) rfl (y_add32 rfl rfl rfl) ?_
  refine E0 (wanted_none rfl) rfl (y_assign (v := Value.int _ _) rfl rfl) ?_
  refine Enil ?_
  refine W_ret ?_
  refine fin1 (fn := Tryd.f153) rfl rfl ?_
  exact ⟨congrArg uv (rot_add x s h0 h1), hs3⟩
set_option maxHeartbeats 8000000 in
theorem rsum_any (s : List UInt8) (sl : s.length ≤ 1099511627776) (rb : Nat) (w : World) (hR : RefAt rb w) :
    C Tryd.prog 130 ⟨[pv rb 0, str s]⟩ w fun v w' => v = str (shaOf s) ∧ St w [] w' := by
  have hpz : padZ s.length < 64 := Nat.mod_lt _ (by decide)
  have hrl := hR.lt
  refine C_enter (n := 260) Tryd.func130 rfl rfl rfl (fun w1 hs1 => ?_)
  have hs2 := hs1.borrow hR (by simp [keys])
  refine W_seq ?_
  refine W_region ?_
  refine L0 (wanted_none rfl) rfl (y_assign (v := Value.string ⟨⟨_⟩⟩) rfl rfl) ?_
  refine Lnil ?_
  refine W_seq ?_
  refine W_region ?_
  refine L0 (wanted_none rfl) rfl (y_move (v := Value.pointer _) rfl rfl) ?_
  refine L0 (wanted_none rfl) rfl (y_nilCheck rfl rfl) ?_
  refine L0 (wanted_none rfl) rfl (y_fieldAddr rfl Tryd.underlying127 rfl sz124 rfl) ?_
  refine L1 (wanted_none rfl) rfl hs2 (y_loadN 0 rfl Tryd.underlying124 rfl sz124 rfl rfl (by first | decide | (simp; done) | (simp; omega))) ?_
  refine Lc (wanted_none rfl) (c_alloc hs2 rfl rfl zr124 (fun b2 w3 hbb2 hs4 => ?_))
  refine Lc (wanted_none rfl) (c_storeN (i := 0) hs4 rfl rfl rfl rfl sz124 (by rfl) (by exact us_one') rfl (by decide) (Fz.zero _) (fun w5 hs6 => ?_))
  change St w [(_, .cells (us h0T) 124 (0, 0)), _] _ at hs6
  replace hs6 := (hs6.perm (List.Perm.swap _ _ [])).drop (.inr hR)
  refine Lnil ?_
  refine W_seq ?_
  refine W_region ?_
  refine L0 (wanted_none rfl) rfl (y_assign (v := Value.func _ _ _) rfl rfl) ?_
  refine Lnil ?_
  refine W_seq ?_
  refine W_region ?_
  refine L0 (wanted_none rfl) rfl (y_move (v := Value.string ⟨⟨_⟩⟩) rfl rfl) ?_
  refine Lc (wanted_none rfl) (c_tobytes hs6 rfl rfl Tryd.underlying9 Tryd.underlying113 Tryd.underlying5 rfl (by omega) (fun b7 capb7 curb7 fzb7 w8 hbb7 hs9 => ?_))
  have hs9 := hs9.perm (List.Perm.swap _ _ [])
  have hrow := hbb7.row (E := 5)
  refine Lc (wanted_none rfl) (c_bs1 (v0 := bv 128) hs9 rfl rfl Tryd.underlying113 sz5 zr5 rfl rfl (fun b10 w11 hbb10 hs12 => ?_))
  refine Lc (wanted_none rfl) (c_append (L0 := [(b2, .cells (us h0T) 124 (0, 0))]) (ent := _) hs12 hbb10 rfl rfl Tryd.underlying113 sz5 zr5 by5 rfl (by decide) rfl hrow rfl (by decide) rfl (by simp [Value.oneCell']) (by omega) (by omega) (fun v13 ent14 w15 hrow' hs16 => ?_))
  have hrow := hrow'
  refine L0 (wanted_none rfl) rfl (y_assign (v := v13) rfl rfl) ?_
  refine Lnil ?_
  refine W_seq ?_
  refine W_block ?_
  have hrow0 : Row w.heap.size 5 1 v13 (s.length + 1 + 0) (bs (s ++ [128] ++ List.replicate 0 0)) ent14 := by
    have h := hrow
    simp only [bs, List.map_append, List.replicate_zero, List.append_nil] at h ⊢
    exact h
  refine W_loop (G := Nat × Value × Blocks) (fun g aL wl => ∃ e, aL = A 260 ((7, g.2.1) :: (5, pv b2 0) :: (6, .func (.func 153) #[] #[]) :: (0, pv rb 0) :: (1, str s) :: e) ∧ g.1 ≤ padZ s.length ∧ Row w.heap.size 5 1 g.2.1 (s.length + 1 + g.1) (bs (s ++ [128] ++ List.replicate g.1 0)) g.2.2 ∧ St w ([(b2, .cells (us h0T) 124 (0, 0))] ++ g.2.2) wl) (fun g => padZ s.length - g.1) ((0, v13, ent14)) ?_ ?_
  · exact ⟨_, A_pins _ _ [7, 5, 6, 0, 1], Nat.zero_le _, hrow0, hs16⟩
  rintro g _ w17 ⟨ehs18, rfl, hz, hrow, hs18⟩
  obtain ⟨z, v, ent⟩ := g
  dsimp only at *
  refine W_seq ?_
  refine W_seq ?_
  refine W_region ?_
  refine L0 (wanted_none rfl) rfl (y_move (v := v) rfl rfl) ?_
  refine L0 (wanted_none rfl) rfl (y_slenRow rfl Tryd.underlying113 rfl hrow) ?_
  refine L0 (wanted_none rfl) rfl (y_rem64 rfl rfl rfl (by omega) (by omega)) ?_
  refine L0 (wanted_none rfl) rfl (y_ne rfl rfl rfl) ?_
  refine Lnil ?_
  refine Wsp (t := 42) rfl (fun h19 => ?_) (fun h19 => ?_)
  · have h19' := h19
    first | replace h19' := of_decide_eq_true h19' | replace h19' := bnT' h19' | skip
    refine W_condT rfl h19 ?_
    refine W_skip ?_
    refine W_block ?_
    refine W_region ?_
    refine L0 (wanted_none rfl) rfl (y_move (v := v) rfl rfl) ?_
    refine Lc (wanted_none rfl) (c_bs1 (v0 := bv 0) hs18 rfl rfl Tryd.underlying113 sz5 zr5 rfl rfl (fun b20 w21 hbb20 hs22 => ?_))
    refine Lc (wanted_none rfl) (c_append (L0 := [(b2, .cells (us h0T) 124 (0, 0))]) (ent := ent) hs22 hbb20 rfl rfl Tryd.underlying113 sz5 zr5 by5 rfl (by decide) rfl hrow rfl (by decide) rfl (by simp [Value.oneCell']) (by omega) (by omega) (fun v23 ent24 w25 hrow' hs26 => ?_))
    have hrow := hrow'
    refine L0 (wanted_none rfl) rfl (y_assign (v := v23) rfl rfl) ?_
    refine Lnil ?_
    have hrow2 : Row w.heap.size 5 1 v23 (s.length + 1 + (z + 1)) (bs (s ++ [128] ++ List.replicate (z + 1) 0)) ent24 := by
      have h := hrow
      rw [List.replicate_succ', ← List.append_assoc]
      simp only [bs, List.map_append] at h ⊢
      exact h
    exact ⟨(z + 1, _, _), by (dsimp only); unfold padZ at *; omega, _, A_c rfl (A_c rfl (A_c rfl (A_c rfl (A_c rfl (rfl))))), by (dsimp only); unfold padZ at *; omega, hrow2, hs26⟩
  · have h19' := h19
    first | replace h19' := of_decide_eq_false h19' | replace h19' := bnF' h19' | skip
    refine W_condF rfl h19 ?_
    refine W_exit ?_
    refine W_seq ?_
    refine W_seq ?_
    refine W_region ?_
    refine L0 (wanted_none rfl) rfl (y_assign (v := Value.int _ _) rfl rfl) ?_
    refine Lnil ?_
    refine W_block ?_
    have hz56 : z = padZ s.length := by unfold padZ at *; omega
    subst hz56
    have hrow0 : Row w.heap.size 5 1 v (s.length + 1 + padZ s.length + 0) (bs (s ++ [128] ++ List.replicate (padZ s.length) 0 ++ num8 (u64of s.length * 8) 0)) ent := by
      rw [num8, List.append_nil]; exact hrow
    refine W_loop (G := Nat × Value × Blocks) (fun g aL wl => ∃ e, aL = A 260 ((8, iv (56 - 8 * (g.1 : Int))) :: (7, g.2.1) :: (5, pv b2 0) :: (6, .func (.func 153) #[] #[]) :: (0, pv rb 0) :: (1, str s) :: e) ∧ g.1 ≤ 8 ∧ Row w.heap.size 5 1 g.2.1 (s.length + 1 + padZ s.length + g.1) (bs (s ++ [128] ++ List.replicate (padZ s.length) 0 ++ num8 (u64of s.length * 8) g.1)) g.2.2 ∧ St w ([(b2, .cells (us h0T) 124 (0, 0))] ++ g.2.2) wl) (fun g => 8 - g.1) ((0, v, ent)) ?_ ?_
    · exact ⟨_, A_pins _ _ [8, 7, 5, 6, 0, 1], Nat.zero_le _, hrow0, hs18⟩
    rintro g _ w27 ⟨ehs28, rfl, hk, hrow, hs28⟩
    obtain ⟨k, v, ent⟩ := g
    dsimp only at *
    refine W_seq ?_
    refine W_seq ?_
    refine W_region ?_
    refine L0 (wanted_none rfl) rfl (y_move (v := Value.int _ _) rfl rfl) ?_
    refine L0 (wanted_none rfl) rfl (y_ge rfl rfl rfl) ?_
    refine Lnil ?_
    refine Wsp (t := 47) rfl (fun h29 => ?_) (fun h29 => ?_)
    · have h29' := h29
      first | replace h29' := of_decide_eq_true h29' | replace h29' := bnT' h29' | skip
      refine W_condT rfl h29 ?_
      refine W_skip ?_
      refine W_seq ?_
      refine W_block ?_
      refine W_region ?_
      refine L0 (wanted_none rfl) rfl (y_move (v := v) rfl rfl) ?_
      refine L0 (wanted_none rfl) rfl (y_move (v := Value.string ⟨⟨_⟩⟩) rfl rfl) ?_
      refine L0 (wanted_none rfl) rfl (y_len rfl Tryd.underlying9 rfl) ?_
      refine L0 (wanted_none rfl) rfl (y_cito64 rfl Tryd.underlying3 Tryd.underlying122 rfl) ?_
      refine L0 (wanted_none rfl) rfl (y_mul64u (q' := 8) rfl rfl rfl) ?_
      refine L0 (wanted_none rfl) rfl (y_move (v := Value.int _ _) rfl rfl) ?_
      refine L0 (wanted_none rfl) rfl (y_shr64 rfl rfl rfl (s := (8 * (7 - k))) (by first | rfl | omega) (by omega)) ?_
      refine L0 (wanted_none rfl) rfl (y_c64to8 rfl Tryd.underlying122 Tryd.underlying5 rfl) ?_
      refine Lc (wanted_none rfl) (c_bs1 (v0 := bv _) hs28 rfl rfl Tryd.underlying113 sz5 zr5 rfl rfl (fun b30 w31 hbb30 hs32 => ?_))
      refine Lc (wanted_none rfl) (c_append (L0 := [(b2, .cells (us h0T) 124 (0, 0))]) (ent := ent) hs32 hbb30 rfl rfl Tryd.underlying113 sz5 zr5 by5 rfl (by decide) rfl hrow rfl (by decide) rfl (by simp [Value.oneCell']) (by omega) (by omega) (fun v33 ent34 w35 hrow' hs36 => ?_))
      have hrow := hrow'
      refine L0 (wanted_none rfl) rfl (y_assign (v := v33) rfl rfl) ?_
      refine Lnil ?_
      refine W_region ?_
      refine L0 (wanted_none rfl) rfl (y_move (v := Value.int _ _) rfl rfl) ?_
      refine L0 (wanted_none rfl) rfl (y_sub64 rfl rfl rfl (by omega)) ?_
      refine L0 (wanted_none rfl) rfl (y_assign (v := Value.int _ _) rfl rfl) ?_
      refine Lnil ?_
      have hrow2 : Row w.heap.size 5 1 v33 (s.length + 1 + padZ s.length + (k + 1)) (bs (s ++ [128] ++ List.replicate (padZ s.length) 0 ++ num8 (u64of s.length * 8) (k + 1))) ent34 := by
        have h := hrow
        rw [num8, ← List.append_assoc]
        simp only [bs, List.map_append] at h ⊢
        exact h
      exact ⟨(k + 1, _, _), by (try dsimp only); omega, _, A_c (iv_eq (by (try dsimp only); omega)) (A_c rfl (A_c rfl (A_c rfl (A_c rfl (A_c rfl (rfl)))))), by (dsimp only); omega, hrow2, hs36⟩
    · have h29' := h29
      first | replace h29' := of_decide_eq_false h29' | replace h29' := bnF' h29' | skip
      refine W_condF rfl h29 ?_
      refine W_exit ?_
      refine W_seq ?_
      refine W_block ?_
      have hk8 : k = 8 := by omega
      subst hk8
      obtain ⟨p, ep⟩ : ∃ x, x = padOf s := ⟨_, rfl⟩
      have hpl := padOf_len s
      have hpm := padOf_mod s
      rw [← ep] at hpl hpm
      have hrow0 : Row w.heap.size 5 1 v p.length (bs p) ent := by
        have h := hrow
        rw [hpl, ep]
        have e1 : s.length + 9 + padZ s.length = s.length + 1 + padZ s.length + 8 := by omega
        rw [e1]; exact h
      obtain ⟨gb, cap, cur, fz, rfl, rfl, hgB, hgm, hgc, hgs, hgt, hgf⟩ := hrow0.2.resolve_left (by rintro ⟨_, h, _⟩; omega)
      obtain ⟨N, eN⟩ : ∃ x, x = p.length / 64 := ⟨_, rfl⟩
      rw [← eN] at hpm
      have hlen0 : s.length + 1 + padZ s.length + 8 = p.length - 64 * 0 := by omega
      refine W_loop (G := Nat × Nat) (fun g aL wl => ∃ e, aL = A 260 ((7, .slice (some ⟨gb, g.2, none⟩) (p.length - 64 * g.1) (cap - 64 * g.1)) :: (5, pv b2 0) :: (6, .func (.func 153) #[] #[]) :: (0, pv rb 0) :: e) ∧ g.1 ≤ N ∧ (64 * g.1 < p.length → g.2 = 64 * g.1) ∧ St w [(b2, .cells (us (blkB p g.1)) 124 (0, 0)), (gb, .cells cur 5 fz)] wl) (fun g => N - g.1) ((0, 0)) ?_ ?_
      · exact ⟨_, A_pins _ _ [7, 5, 6, 0], Nat.zero_le _, fun _ => rfl, hs28⟩
      rintro g _ w37 ⟨ehs38, rfl, hq, ho, hs38⟩
      obtain ⟨q, o⟩ := g
      dsimp only at *
      obtain ⟨H, eH⟩ : ∃ x, x = blkB p q := ⟨_, rfl⟩
      rw [← eH] at hs38
      have lH : H.length = 8 := by rw [eH, blkB_len]
      refine W_seq ?_
      refine W_seq ?_
      refine W_region ?_
      refine L0 (wanted_none rfl) rfl (y_move (v := Value.slice _ _ _) rfl rfl) ?_
      refine L0 (wanted_none rfl) rfl (y_slen rfl Tryd.underlying113 rfl) ?_
      refine L0 (wanted_none rfl) rfl (y_gt rfl rfl rfl) ?_
      refine Lnil ?_
      refine Wsp (t := 62) rfl (fun h39 => ?_) (fun h39 => ?_)
      · have h39' := h39
        first | replace h39' := of_decide_eq_true h39' | replace h39' := bnT' h39' | skip
        refine W_condT rfl h39 ?_
        refine W_skip ?_
        refine W_seq ?_
        refine W_block ?_
        refine W_seq ?_
        obtain rfl : o = 64 * q := ho (by omega)
        obtain ⟨blk, ebl⟩ : ∃ x, x = (p.drop (64 * q)).take 64 := ⟨_, rfl⟩
        refine W_region ?_
        refine Lc (wanted_none rfl) (c_alloc hs38 rfl rfl zr125 (fun b40 w41 hbb40 hs42 => ?_))
        change St w [(_, .cells (us (List.replicate 64 0)) 125 (0, 0)), _, _] _ at hs42
        rw [← sched_zero blk] at hs42
        refine Lnil ?_
        refine W_seq ?_
        refine W_seq ?_
        refine W_region ?_
        refine L0 (wanted_none rfl) rfl (y_move (v := Value.int _ _) rfl rfl) ?_
        refine Lnil ?_
        refine W_block ?_
        refine W_loop (G := Nat) (fun t aL wl => ∃ e, aL = A 260 ((65, iv t) :: (9, pv b40 0) :: (7, .slice (some ⟨gb, 64 * q, none⟩) (p.length - 64 * q) (cap - 64 * q)) :: (5, pv b2 0) :: (6, .func (.func 153) #[] #[]) :: (0, pv rb 0) :: e) ∧ t ≤ 64 ∧ St w [(b40, .cells (us (sched blk t)) 125 (0, 0)), (b2, .cells (us H) 124 (0, 0)), (gb, .cells cur 5 fz)] wl) (fun t => 64 - t) (0) ?_ ?_
        · exact ⟨_, A_pins _ _ [65, 9, 7, 5, 6, 0], Nat.zero_le _, hs42⟩
        rintro t _ w43 ⟨ehs44, rfl, ht, hs44⟩
        have lS := sched_len blk t
        refine W_seq ?_
        refine W_region ?_
        refine L0 (wanted_none rfl) rfl (y_lt rfl rfl rfl) ?_
        refine Lnil ?_
        refine W_seq ?_
        refine Wsp (t := 66) rfl (fun h45 => ?_) (fun h45 => ?_)
        · have h45' := h45
          first | replace h45' := of_decide_eq_true h45' | replace h45' := bnT' h45' | skip
          refine W_condT rfl h45 ?_
          refine W_skip ?_
          refine W_seq ?_
          refine W_block ?_
          refine W_seq ?_
          refine W_region ?_
          refine L0 (wanted_none rfl) rfl (y_move (v := Value.int _ _) rfl rfl) ?_
          refine L0 (wanted_none rfl) rfl (y_assign (v := Value.int _ _) rfl rfl) ?_
          refine Lnil ?_
          refine W_seq ?_
          refine W_seq ?_
          refine W_region ?_
          refine L0 (wanted_none rfl) rfl (y_move (v := Value.int _ _) rfl rfl) ?_
          refine L0 (wanted_none rfl) rfl (y_lt rfl rfl rfl) ?_
          refine Lnil ?_
          refine Wsp (t := 69) rfl (fun h46 => ?_) (fun h46 => ?_)
          · have h46' := h46
            first | replace h46' := of_decide_eq_true h46' | replace h46' := bnT' h46' | skip
            refine W_condT rfl h46 ?_
            refine W_seq ?_
            refine W_seq ?_
            refine W_region ?_
            refine L0 (wanted_none rfl) rfl (y_move (v := Value.slice _ _ _) rfl rfl) ?_
            refine L0 (wanted_none rfl) rfl (y_move (v := Value.int _ _) rfl rfl) ?_
            refine L0 (wanted_none rfl) rfl (y_mul64 rfl rfl rfl (by omega)) ?_
            refine L0 (wanted_none rfl) rfl (y_move (v := Value.int _ _) rfl rfl) ?_
            refine L0 (wanted_none rfl) rfl (y_mul64 rfl rfl rfl (by omega)) ?_
            refine L0 (wanted_none rfl) rfl (y_add64 rfl rfl rfl (by omega)) ?_
            refine L0 (wanted_none rfl) rfl (y_slslice rfl Tryd.underlying113 sz5 rfl rfl rfl (by omega)) ?_
            refine L0 (wanted_none rfl) rfl (y_slen rfl Tryd.underlying113 rfl) ?_
            refine L0 (wanted_none rfl) rfl (y_move (v := Value.int _ _) rfl rfl) ?_
            refine Lnil ?_
            refine W_block ?_
            rw [show ((4 * (t : Int) + 4).toNat - (4 * (t : Int)).toNat) = 4 from by omega, show 64 * q + (4 * (t : Int)).toNat * 1 = 64 * q + 4 * t from by omega]
            rw [← sched_at blk (t := t) (by omega)] at hs44
            refine W_loop (G := Nat) (fun j aL wl => ∃ e, aL = A 260 ((78, iv j) :: (77, iv 4) :: (76, .slice (some ⟨gb, 64 * q + 4 * t, none⟩) 4 (cap - 64 * q - (4 * (t : Int)).toNat)) :: (10, iv t) :: (65, iv t) :: (9, pv b40 0) :: (7, .slice (some ⟨gb, 64 * q, none⟩) (p.length - 64 * q) (cap - 64 * q)) :: (5, pv b2 0) :: (6, .func (.func 153) #[] #[]) :: (0, pv rb 0) :: e) ∧ j ≤ 4 ∧ St w [(b40, .cells (us ((sched blk t).set t (beR blk t j))) 125 (0, 0)), (b2, .cells (us H) 124 (0, 0)), (gb, .cells cur 5 fz)] wl) (fun j => 4 - j) (0) ?_ ?_
            · exact ⟨_, A_pins _ _ [78, 77, 76, 10, 65, 9, 7, 5, 6, 0], Nat.zero_le _, hs44⟩
            rintro j _ w47 ⟨ehs48, rfl, hj, hs48⟩
            refine W_seq ?_
            refine W_region ?_
            refine L0 (wanted_none rfl) rfl (y_lt rfl rfl rfl) ?_
            refine Lnil ?_
            refine W_seq ?_
            refine Wsp (t := 79) rfl (fun h49 => ?_) (fun h49 => ?_)
            · have h49' := h49
              first | replace h49' := of_decide_eq_true h49' | replace h49' := bnT' h49' | skip
              refine W_condT rfl h49 ?_
              refine W_skip ?_
              refine W_seq ?_
              refine W_block ?_
              refine W_seq ?_
              refine W_region ?_
              refine L0 (wanted_none rfl) rfl (y_indexSl rfl Tryd.underlying113 sz5 rfl rfl (by omega) (by omega)) ?_
              refine L1 (wanted_none rfl) rfl hs48 (y_load 2 rfl Tryd.underlying5 rfl rfl rfl (part_at ebl hgt (by omega) (by omega))) ?_
              refine L0 (wanted_none rfl) rfl (y_assign (v := Value.int _ _) rfl rfl) ?_
              refine Lnil ?_
              refine W_region ?_
              refine L0 (wanted_none rfl) rfl (y_move (v := Value.int _ _) rfl rfl) ?_
              refine L0 (wanted_none rfl) rfl (y_move (v := Value.int _ _) rfl rfl) ?_
              refine L0 (wanted_none rfl) rfl (y_indexArr rfl Tryd.underlying125 sz123 rfl rfl (by omega) (by omega)) ?_
              refine L1 (wanted_none rfl) rfl hs48 (y_load 0 rfl Tryd.underlying123 rfl rfl rfl (us_at t (by omega) (by rw [List.length_set]; omega))) ?_
              refine L0 (wanted_none rfl) rfl (y_mul32 (u' := 256) rfl rfl rfl) ?_
              refine L0 (wanted_none rfl) rfl (y_move (v := Value.int _ _) rfl rfl) ?_
              refine L0 (wanted_none rfl) rfl (y_c8to32 rfl Tryd.underlying5 Tryd.underlying123 rfl) ?_
              refine L0 (wanted_none rfl) rfl (y_add32 rfl rfl rfl) ?_
              refine L0 (wanted_none rfl) rfl (y_indexArr rfl Tryd.underlying125 sz123 rfl rfl (by omega) (by omega)) ?_
              refine Lc (wanted_none rfl) (c_store (i := 0) (v := uv _) hs48 rfl rfl rfl rfl sz123 rfl rfl (by rw [us_size, List.length_set, sched_len]; simp; omega) (Fz.zero _) (fun w50 hs51 => ?_))
              rw [List.set_cons_zero, us_set, List.set_set, beR_step blk t j (by omega)] at hs51
              refine Lnil ?_
              refine W_region ?_
              refine L0 (wanted_none rfl) rfl (y_add64 rfl rfl rfl (by omega)) ?_
              refine L0 (wanted_none rfl) rfl (y_move (v := Value.int _ _) rfl rfl) ?_
              refine Lnil ?_
              exact ⟨j + 1, by (try dsimp only); omega, _, A_c (iv_eq (by (try dsimp only); omega)) (A_c rfl (A_c rfl (A_c rfl (A_c rfl (A_c rfl (A_c rfl (A_c rfl (A_c rfl (A_c rfl (rfl)))))))))), by omega, hs51⟩
            · have h49' := h49
              first | replace h49' := of_decide_eq_false h49' | replace h49' := bnF' h49' | skip
              refine W_condF rfl h49 ?_
              refine W_exit ?_
              refine W_exit ?_
              first | (obtain rfl : j = 4 := (by omega); rw [beR_be, sched_lo blk t (by omega) _ rfl] at hs48) | skip
              refine W_region ?_
              refine L0 (wanted_none rfl) rfl (y_add64 rfl rfl rfl (by omega)) ?_
              refine L0 (wanted_none rfl) rfl (y_move (v := Value.int _ _) rfl rfl) ?_
              refine Lnil ?_
              exact ⟨t + 1, by (try dsimp only); omega, _, A_c (iv_eq (by (try dsimp only); omega)) (A_c rfl (A_c rfl (A_c rfl (A_c rfl (A_c rfl (rfl)))))), by omega, hs48⟩
          · have h46' := h46
            first | replace h46' := of_decide_eq_false h46' | replace h46' := bnF' h46' | skip
            refine W_condF rfl h46 ?_
            refine W_skip ?_
            refine W_seq ?_
            refine W_drawSt [(0, 0), (0, 4), (0, 1), (0, 5), (0, 2), (0, 6), (1, 3), (1, 7), (0, 8), (0, 9)] hs44 mixed (by kernel_rfl) (fun w52 hs53 => ?_)
            refine E0 (wanted_none rfl) rfl (y_move (v := Value.int _ _) rfl rfl) ?_
            refine E0 (wanted_none rfl) rfl (y_move (v := Value.int _ _) rfl rfl) ?_
            refine E0 (wanted_none rfl) rfl (y_sub64 rfl rfl rfl (by omega)) ?_
            refine E0 (wanted_none rfl) rfl (y_sub64 rfl rfl rfl (by omega)) ?_
            refine E0 (wanted_none rfl) rfl (y_indexArr rfl Tryd.underlying125 sz123 rfl rfl (by omega) (by omega)) ?_
            refine E0 (wanted_none rfl) rfl (y_indexArr rfl Tryd.underlying125 sz123 rfl rfl (by omega) (by omega)) ?_
            refine E1 hs53 (wanted_none rfl) rfl (y_load 0 rfl Tryd.underlying123 rfl rfl rfl (us_at (t - 2) (by omega) (by omega))) ?_
            refine E1 hs53 (wanted_none rfl) rfl (y_load 0 rfl Tryd.underlying123 rfl rfl rfl (us_at (t - 15) (by omega) (by omega))) ?_
            refine E0 (wanted_none rfl) rfl (y_assign (v := Value.int _ _) rfl rfl) ?_
            refine E0 (wanted_none rfl) rfl (y_assign (v := Value.int _ _) rfl rfl) ?_
            refine Enil ?_
            refine W_drawSt [(0, 0), (0, 1), (0, 2), (0, 4), (0, 5), (0, 8), (0, 11), (0, 16), (0, 17), (0, 19), (0, 20), (0, 23), (0, 27), (0, 9), (0, 12), (0, 24), (0, 28), (0, 13), (0, 29), (1, 14), (1, 30), (3, 3), (3, 6), (0, 7), (0, 10), (0, 15), (3, 18), (3, 21), (0, 22), (0, 25), (0, 26), (0, 31), (0, 32), (2, 33)] hs53 mixed (by kernel_rfl) (fun w54 hs55 => ?_)
            refine E0 (wanted_none rfl) rfl (y_move (v := Value.int _ _) rfl rfl) ?_
            refine E0 (wanted_none rfl) rfl (y_move (v := Value.func _ _ _) rfl rfl) ?_
            refine E0 (wanted_none rfl) rfl (y_move (v := Value.int _ _) rfl rfl) ?_
            refine E0 (wanted_none rfl) rfl (y_move (v := Value.func _ _ _) rfl rfl) ?_
            refine E0 (wanted_none rfl) rfl (y_move (v := Value.int _ _) rfl rfl) ?_
            refine E0 (wanted_none rfl) rfl (y_move (v := Value.int _ _) rfl rfl) ?_
            refine E0 (wanted_none rfl) rfl (y_move (v := Value.int _ _) rfl rfl) ?_
            refine E0 (wanted_none rfl) rfl (y_move (v := Value.func _ _ _) rfl rfl) ?_
            refine E0 (wanted_none rfl) rfl (y_move (v := Value.int _ _) rfl rfl) ?_
            refine E0 (wanted_none rfl) rfl (y_move (v := Value.func _ _ _) rfl rfl) ?_
            refine E0 (wanted_none rfl) rfl (y_move (v := Value.int _ _) rfl rfl) ?_
            refine E0 (wanted_none rfl) rfl (y_move (v := Value.int _ _) rfl rfl) ?_
            refine E0 (wanted_none rfl) rfl (y_move (v := Value.int _ _) rfl rfl) ?_
            refine E0 (wanted_none rfl) rfl (y_shr32 rfl rfl rfl (s := 10) (by first | rfl | omega) (by omega)) ?_
            refine E0 (wanted_none rfl) rfl (y_sub64 rfl rfl rfl (by omega)) ?_
            refine E0 (wanted_none rfl) rfl (y_shr32 rfl rfl rfl (s := 3) (by first | rfl | omega) (by omega)) ?_
            refine E0 (wanted_none rfl) rfl (y_sub64 rfl rfl rfl (by omega)) ?_
            refine E0 (wanted_none rfl) rfl (y_indexArr rfl Tryd.underlying125 sz123 rfl rfl (by omega) (by omega)) ?_
            refine E0 (wanted_none rfl) rfl (y_indexArr rfl Tryd.underlying125 sz123 rfl rfl (by omega) (by omega)) ?_
            refine E1 hs55 (wanted_none rfl) rfl (y_load 0 rfl Tryd.underlying123 rfl rfl rfl (us_at (t - 7) (by omega) (by omega))) ?_
            refine E1 hs55 (wanted_none rfl) rfl (y_load 0 rfl Tryd.underlying123 rfl rfl rfl (us_at (t - 16) (by omega) (by omega))) ?_
            refine E3 (wanted_none rfl) (c_call rfl rfl rfl Tryd.func153 (by kernel_rfl) rfl (rotS_any _ 17 (by omega) (by omega) w54) rfl ?_)
            rintro _ w56 ⟨rfl, hc57⟩
            have hs58 := hs55.call0 hc57
            refine ⟨fun _ => hs58, ?_⟩
            refine E3 (wanted_none rfl) (c_call rfl rfl rfl Tryd.func153 (by kernel_rfl) rfl (rotS_any _ 19 (by omega) (by omega) w56) rfl ?_)
            rintro _ w59 ⟨rfl, hc60⟩
            have hs61 := hs58.call0 hc60
            refine ⟨fun _ => hs61, ?_⟩
            refine E0 (wanted_none rfl) rfl (y_xor32 rfl rfl rfl) ?_
            refine E0 (wanted_none rfl) rfl (y_xor32 rfl rfl rfl) ?_
            refine E0 (wanted_none rfl) rfl (y_add32 rfl rfl rfl) ?_
            refine E3 (wanted_none rfl) (c_call rfl rfl rfl Tryd.func153 (by kernel_rfl) rfl (rotS_any _ 7 (by omega) (by omega) w59) rfl ?_)
            rintro _ w62 ⟨rfl, hc63⟩
            have hs64 := hs61.call0 hc63
            refine ⟨fun _ => hs64, ?_⟩
            refine E3 (wanted_none rfl) (c_call rfl rfl rfl Tryd.func153 (by kernel_rfl) rfl (rotS_any _ 18 (by omega) (by omega) w62) rfl ?_)
            rintro _ w65 ⟨rfl, hc66⟩
            have hs67 := hs64.call0 hc66
            refine ⟨fun _ => hs67, ?_⟩
            refine E0 (wanted_none rfl) rfl (y_xor32 rfl rfl rfl) ?_
            refine E0 (wanted_none rfl) rfl (y_xor32 rfl rfl rfl) ?_
            refine E0 (wanted_none rfl) rfl (y_add32 rfl rfl rfl) ?_
            refine E0 (wanted_none rfl) rfl (y_add32 rfl rfl rfl) ?_
            refine E0 (wanted_none rfl) rfl (y_indexArr rfl Tryd.underlying125 sz123 rfl rfl (by omega) (by omega)) ?_
            refine E2 (wanted_none rfl) (c_store (i := 0) (v := uv _) hs67 rfl rfl rfl rfl sz123 rfl rfl (by rw [us_size, sched_len]; simp; omega) (Fz.zero _) (fun w68 hs69 => ?_))
            rw [List.set_cons_zero, us_set] at hs69
            change St w [(_, .cells (us ((sched blk t).set t (sg1 ((sched blk t).getD (t - 2) 0) + (sched blk t).getD (t - 7) 0 + sg0 ((sched blk t).getD (t - 15) 0) + (sched blk t).getD (t - 16) 0))) _ _), _, _] _ at hs69
            rw [sched_hi blk t (by omega) _ rfl] at hs69
            refine Enil ?_
            first | (obtain rfl : j = 4 := (by omega); rw [beR_be, sched_lo blk t (by omega) _ rfl] at hs69) | skip
            refine W_region ?_
            refine L0 (wanted_none rfl) rfl (y_add64 rfl rfl rfl (by omega)) ?_
            refine L0 (wanted_none rfl) rfl (y_move (v := Value.int _ _) rfl rfl) ?_
            refine Lnil ?_
            exact ⟨t + 1, by (try dsimp only); omega, _, A_c (iv_eq (by (try dsimp only); omega)) (A_c rfl (A_c rfl (A_c rfl (A_c rfl (A_c rfl (rfl)))))), by omega, hs69⟩
        · have h45' := h45
          first | replace h45' := of_decide_eq_false h45' | replace h45' := bnF' h45' | skip
          refine W_condF rfl h45 ?_
          refine W_exit ?_
          refine W_seq ?_
          obtain rfl : t = 64 := by omega
          obtain ⟨E, eE⟩ : ∃ x, x = sched blk 64 := ⟨_, rfl⟩
          rw [← eE] at hs44
          have lE : E.length = 64 := by rw [eE, sched_len]
          refine W_drawSt [(0, 0), (0, 2), (0, 4), (0, 6), (0, 8), (0, 10), (0, 12), (0, 14), (1, 1), (1, 3), (1, 5), (1, 7), (1, 9), (1, 11), (1, 13), (1, 15), (0, 16), (0, 17), (0, 18), (0, 19), (0, 20), (0, 21), (0, 22), (0, 23)] hs44 mixed (by kernel_rfl) (fun w70 hs71 => ?_)
          refine E0 (wanted_none rfl) rfl (y_indexArr rfl Tryd.underlying124 sz123 rfl rfl (by omega) (by omega)) ?_
          refine E0 (wanted_none rfl) rfl (y_indexArr rfl Tryd.underlying124 sz123 rfl rfl (by omega) (by omega)) ?_
          refine E0 (wanted_none rfl) rfl (y_indexArr rfl Tryd.underlying124 sz123 rfl rfl (by omega) (by omega)) ?_
          refine E0 (wanted_none rfl) rfl (y_indexArr rfl Tryd.underlying124 sz123 rfl rfl (by omega) (by omega)) ?_
          refine E0 (wanted_none rfl) rfl (y_indexArr rfl Tryd.underlying124 sz123 rfl rfl (by omega) (by omega)) ?_
          refine E0 (wanted_none rfl) rfl (y_indexArr rfl Tryd.underlying124 sz123 rfl rfl (by omega) (by omega)) ?_
          refine E0 (wanted_none rfl) rfl (y_indexArr rfl Tryd.underlying124 sz123 rfl rfl (by omega) (by omega)) ?_
          refine E0 (wanted_none rfl) rfl (y_indexArr rfl Tryd.underlying124 sz123 rfl rfl (by omega) (by omega)) ?_
          refine E1 hs71 (wanted_none rfl) rfl (y_load 1 rfl Tryd.underlying123 rfl rfl rfl (us_at 0 (by rfl) (by omega))) ?_
          refine E1 hs71 (wanted_none rfl) rfl (y_load 1 rfl Tryd.underlying123 rfl rfl rfl (us_at 1 (by rfl) (by omega))) ?_
          refine E1 hs71 (wanted_none rfl) rfl (y_load 1 rfl Tryd.underlying123 rfl rfl rfl (us_at 2 (by rfl) (by omega))) ?_
          refine E1 hs71 (wanted_none rfl) rfl (y_load 1 rfl Tryd.underlying123 rfl rfl rfl (us_at 3 (by rfl) (by omega))) ?_
          refine E1 hs71 (wanted_none rfl) rfl (y_load 1 rfl Tryd.underlying123 rfl rfl rfl (us_at 4 (by rfl) (by omega))) ?_
          refine E1 hs71 (wanted_none rfl) rfl (y_load 1 rfl Tryd.underlying123 rfl rfl rfl (us_at 5 (by rfl) (by omega))) ?_
          refine E1 hs71 (wanted_none rfl) rfl (y_load 1 rfl Tryd.underlying123 rfl rfl rfl (us_at 6 (by rfl) (by omega))) ?_
          refine E1 hs71 (wanted_none rfl) rfl (y_load 1 rfl Tryd.underlying123 rfl rfl rfl (us_at 7 (by rfl) (by omega))) ?_
          refine E0 (wanted_none rfl) rfl (y_assign (v := Value.int _ _) rfl rfl) ?_
          refine E0 (wanted_none rfl) rfl (y_assign (v := Value.int _ _) rfl rfl) ?_
          refine E0 (wanted_none rfl) rfl (y_assign (v := Value.int _ _) rfl rfl) ?_
          refine E0 (wanted_none rfl) rfl (y_assign (v := Value.int _ _) rfl rfl) ?_
          refine E0 (wanted_none rfl) rfl (y_assign (v := Value.int _ _) rfl rfl) ?_
          refine E0 (wanted_none rfl) rfl (y_assign (v := Value.int _ _) rfl rfl) ?_
          refine E0 (wanted_none rfl) rfl (y_assign (v := Value.int _ _) rfl rfl) ?_
          refine E0 (wanted_none rfl) rfl (y_assign (v := Value.int _ _) rfl rfl) ?_
          refine Enil ?_
          refine W_seq ?_
          refine W_seq ?_
          refine W_region ?_
          refine L0 (wanted_none rfl) rfl (y_move (v := Value.int _ _) rfl rfl) ?_
          refine Lnil ?_
          refine W_block ?_
          refine W_loop (G := Nat) (fun i aL wl => ∃ e, aL = A 260 ((150, iv i) :: (15, uv ((rnds H E i).getD 0 0)) :: (16, uv ((rnds H E i).getD 1 0)) :: (17, uv ((rnds H E i).getD 2 0)) :: (18, uv ((rnds H E i).getD 3 0)) :: (19, uv ((rnds H E i).getD 4 0)) :: (20, uv ((rnds H E i).getD 5 0)) :: (21, uv ((rnds H E i).getD 6 0)) :: (22, uv ((rnds H E i).getD 7 0)) :: (9, pv b40 0) :: (7, .slice (some ⟨gb, 64 * q, none⟩) (p.length - 64 * q) (cap - 64 * q)) :: (5, pv b2 0) :: (6, .func (.func 153) #[] #[]) :: (0, pv rb 0) :: e) ∧ i ≤ 64 ∧ St w [(b40, .cells (us E) 125 (0, 0)), (b2, .cells (us H) 124 (0, 0)), (gb, .cells cur 5 fz)] wl) (fun i => 64 - i) (0) ?_ ?_
          · exact ⟨_, A_pins _ _ [150, 15, 16, 17, 18, 19, 20, 21, 22, 9, 7, 5, 6, 0], Nat.zero_le _, hs71⟩
          rintro i _ w72 ⟨ehs73, rfl, hi, hs73⟩
          obtain ⟨V, eV⟩ : ∃ x, x = rnds H E i := ⟨_, rfl⟩
          rw [← eV]
          have hnext : rnds H E (i + 1) = rndB V (kT.getD i 0) (E.getD i 0) := by rw [eV]; rfl
          refine W_seq ?_
          refine W_region ?_
          refine L0 (wanted_none rfl) rfl (y_lt rfl rfl rfl) ?_
          refine Lnil ?_
          refine W_seq ?_
          refine Wsp (t := 151) rfl (fun h74 => ?_) (fun h74 => ?_)
          · have h74' := h74
            first | replace h74' := of_decide_eq_true h74' | replace h74' := bnT' h74' | skip
            refine W_condT rfl h74 ?_
            refine W_skip ?_
            refine W_seq ?_
            refine W_block ?_
            refine W_seq ?_
            refine W_region ?_
            refine L0 (wanted_none rfl) rfl (y_move (v := Value.int _ _) rfl rfl) ?_
            refine L0 (wanted_none rfl) rfl (y_assign (v := Value.int _ _) rfl rfl) ?_
            refine Lnil ?_
            refine W_seq ?_
            refine W_drawSt [(0, 0), (0, 1), (0, 2), (0, 4), (0, 5), (0, 8), (0, 9), (0, 13), (0, 14), (0, 15), (0, 16), (0, 21), (0, 22), (0, 28), (0, 17), (0, 23), (0, 29), (0, 18), (0, 24), (1, 30), (0, 19), (0, 25), (1, 26), (3, 3), (3, 6), (0, 7), (3, 10), (0, 11), (0, 12), (0, 20), (0, 27), (0, 31), (0, 32)] hs73 mixed (by kernel_rfl) (fun w75 hs76 => ?_)
            refine E0 (wanted_none rfl) rfl (y_move (v := Value.int _ _) rfl rfl) ?_
            refine E0 (wanted_none rfl) rfl (y_move (v := Value.func _ _ _) rfl rfl) ?_
            refine E0 (wanted_none rfl) rfl (y_move (v := Value.int _ _) rfl rfl) ?_
            refine E0 (wanted_none rfl) rfl (y_move (v := Value.func _ _ _) rfl rfl) ?_
            refine E0 (wanted_none rfl) rfl (y_move (v := Value.int _ _) rfl rfl) ?_
            refine E0 (wanted_none rfl) rfl (y_move (v := Value.func _ _ _) rfl rfl) ?_
            refine E0 (wanted_none rfl) rfl (y_move (v := Value.int _ _) rfl rfl) ?_
            refine E0 (wanted_none rfl) rfl (y_move (v := Value.int _ _) rfl rfl) ?_
            refine E0 (wanted_none rfl) rfl (y_move (v := Value.int _ _) rfl rfl) ?_
            refine E0 (wanted_none rfl) rfl (y_move (v := Value.int _ _) rfl rfl) ?_
            refine E0 (wanted_none rfl) rfl (y_move (v := Value.int _ _) rfl rfl) ?_
            refine E0 (wanted_none rfl) rfl (y_move (v := Value.pointer _) rfl rfl) ?_
            refine E0 (wanted_none rfl) rfl (y_move (v := Value.int _ _) rfl rfl) ?_
            refine E0 (wanted_none rfl) rfl (y_move (v := Value.int _ _) rfl rfl) ?_
            refine E0 (wanted_none rfl) rfl (y_xor32 rfl rfl rfl) ?_
            refine E0 (wanted_none rfl) rfl (y_nilCheck rfl rfl) ?_
            refine E0 (wanted_none rfl) rfl (y_indexArr rfl Tryd.underlying125 sz123 rfl rfl (by omega) (by omega)) ?_
            refine E0 (wanted_none rfl) rfl (y_and32 rfl rfl rfl) ?_
            refine E0 (wanted_none rfl) rfl (y_fieldAddr rfl Tryd.underlying127 rfl sz125 rfl) ?_
            refine E1 hs76 (wanted_none rfl) rfl (y_load 0 rfl Tryd.underlying123 rfl rfl rfl (us_at i (by omega) (by omega))) ?_
            refine E0 (wanted_none rfl) rfl (y_xor32 rfl rfl rfl) ?_
            refine E0 (wanted_none rfl) rfl (y_indexArr rfl Tryd.underlying125 sz123 rfl rfl (by omega) (by omega)) ?_
            refine E1 hs76 (wanted_none rfl) rfl ((y_loadOld rfl Tryd.underlying123 rfl rfl (refK hR (by omega)) (by have := hbb40; have := hbb2; simp [keys]; omega))) ?_
            refine E3 (wanted_none rfl) (c_call rfl rfl rfl Tryd.func153 (by kernel_rfl) rfl (rotS_any _ 6 (by omega) (by omega) w75) rfl ?_)
            rintro _ w77 ⟨rfl, hc78⟩
            have hs79 := hs76.call0 hc78
            refine ⟨fun _ => hs79, ?_⟩
            refine E3 (wanted_none rfl) (c_call rfl rfl rfl Tryd.func153 (by kernel_rfl) rfl (rotS_any _ 11 (by omega) (by omega) w77) rfl ?_)
            rintro _ w80 ⟨rfl, hc81⟩
            have hs82 := hs79.call0 hc81
            refine ⟨fun _ => hs82, ?_⟩
            refine E0 (wanted_none rfl) rfl (y_xor32 rfl rfl rfl) ?_
            refine E3 (wanted_none rfl) (c_call rfl rfl rfl Tryd.func153 (by kernel_rfl) rfl (rotS_any _ 25 (by omega) (by omega) w80) rfl ?_)
            rintro _ w83 ⟨rfl, hc84⟩
            have hs85 := hs82.call0 hc84
            refine ⟨fun _ => hs85, ?_⟩
            refine E0 (wanted_none rfl) rfl (y_xor32 rfl rfl rfl) ?_
            refine E0 (wanted_none rfl) rfl (y_add32 rfl rfl rfl) ?_
            refine E0 (wanted_none rfl) rfl (y_add32 rfl rfl rfl) ?_
            refine E0 (wanted_none rfl) rfl (y_add32 rfl rfl rfl) ?_
            refine E0 (wanted_none rfl) rfl (y_add32 rfl rfl rfl) ?_
            refine E0 (wanted_none rfl) rfl (y_assign (v := Value.int _ _) rfl rfl) ?_
            refine Enil ?_
            refine W_seq ?_
            rw [oneB_ref V (kT.getD i 0) (E.getD i 0)]
            refine W_region ?_
            refine L0 (wanted_none rfl) rfl (y_move (v := Value.func _ _ _) rfl rfl) ?_
            refine L0 (wanted_none rfl) rfl (y_move (v := Value.int _ _) rfl rfl) ?_
            refine Lc (wanted_none rfl) (c_call rfl rfl rfl Tryd.func153 (by kernel_rfl) rfl (rotS_any _ 2 (by omega) (by omega) w83) rfl ?_)
            rintro _ w86 ⟨rfl, hc87⟩
            have hs88 := hs85.call0 hc87
            refine L0 (wanted_none rfl) rfl (y_move (v := Value.func _ _ _) rfl rfl) ?_
            refine L0 (wanted_none rfl) rfl (y_move (v := Value.int _ _) rfl rfl) ?_
            refine Lc (wanted_none rfl) (c_call rfl rfl rfl Tryd.func153 (by kernel_rfl) rfl (rotS_any _ 13 (by omega) (by omega) w86) rfl ?_)
            rintro _ w89 ⟨rfl, hc90⟩
            have hs91 := hs88.call0 hc90
            refine L0 (wanted_none rfl) rfl (y_xor32 rfl rfl rfl) ?_
            refine L0 (wanted_none rfl) rfl (y_move (v := Value.func _ _ _) rfl rfl) ?_
            refine L0 (wanted_none rfl) rfl (y_move (v := Value.int _ _) rfl rfl) ?_
            refine Lc (wanted_none rfl) (c_call rfl rfl rfl Tryd.func153 (by kernel_rfl) rfl (rotS_any _ 22 (by omega) (by omega) w89) rfl ?_)
            rintro _ w92 ⟨rfl, hc93⟩
            have hs94 := hs91.call0 hc93
            refine L0 (wanted_none rfl) rfl (y_xor32 rfl rfl rfl) ?_
            refine L0 (wanted_none rfl) rfl (y_move (v := Value.int _ _) rfl rfl) ?_
            refine L0 (wanted_none rfl) rfl (y_move (v := Value.int _ _) rfl rfl) ?_
            refine L0 (wanted_none rfl) rfl (y_and32 rfl rfl rfl) ?_
            refine L0 (wanted_none rfl) rfl (y_move (v := Value.int _ _) rfl rfl) ?_
            refine L0 (wanted_none rfl) rfl (y_move (v := Value.int _ _) rfl rfl) ?_
            refine L0 (wanted_none rfl) rfl (y_move (v := Value.int _ _) rfl rfl) ?_
            refine L0 (wanted_none rfl) rfl (y_or32 rfl rfl rfl) ?_
            refine L0 (wanted_none rfl) rfl (y_and32 rfl rfl rfl) ?_
            refine L0 (wanted_none rfl) rfl (y_or32 rfl rfl rfl) ?_
            refine L0 (wanted_none rfl) rfl (y_add32 rfl rfl rfl) ?_
            refine L0 (wanted_none rfl) rfl (y_assign (v := Value.int _ _) rfl rfl) ?_
            refine Lnil ?_
            rw [twoB_ref V]
            refine W_region ?_
            refine L0 (wanted_none rfl) rfl (y_move (v := Value.int _ _) rfl rfl) ?_
            refine L0 (wanted_none rfl) rfl (y_move (v := Value.int _ _) rfl rfl) ?_
            refine L0 (wanted_none rfl) rfl (y_add32 rfl rfl rfl) ?_
            refine L0 (wanted_none rfl) rfl (y_move (v := Value.int _ _) rfl rfl) ?_
            refine L0 (wanted_none rfl) rfl (y_move (v := Value.int _ _) rfl rfl) ?_
            refine L0 (wanted_none rfl) rfl (y_move (v := Value.int _ _) rfl rfl) ?_
            refine L0 (wanted_none rfl) rfl (y_move (v := Value.int _ _) rfl rfl) ?_
            refine L0 (wanted_none rfl) rfl (y_move (v := Value.int _ _) rfl rfl) ?_
            refine L0 (wanted_none rfl) rfl (y_add32 rfl rfl rfl) ?_
            refine L0 (wanted_none rfl) rfl (y_move (v := Value.int _ _) rfl rfl) ?_
            refine L0 (wanted_none rfl) rfl (y_move (v := Value.int _ _) rfl rfl) ?_
            refine L0 (wanted_none rfl) rfl (y_move (v := Value.int _ _) rfl rfl) ?_
            refine L0 (wanted_none rfl) rfl (y_assign (v := Value.int _ _) rfl rfl) ?_
            refine L0 (wanted_none rfl) rfl (y_assign (v := Value.int _ _) rfl rfl) ?_
            refine L0 (wanted_none rfl) rfl (y_assign (v := Value.int _ _) rfl rfl) ?_
            refine L0 (wanted_none rfl) rfl (y_assign (v := Value.int _ _) rfl rfl) ?_
            refine L0 (wanted_none rfl) rfl (y_assign (v := Value.int _ _) rfl rfl) ?_
            refine L0 (wanted_none rfl) rfl (y_assign (v := Value.int _ _) rfl rfl) ?_
            refine L0 (wanted_none rfl) rfl (y_assign (v := Value.int _ _) rfl rfl) ?_
            refine L0 (wanted_none rfl) rfl (y_assign (v := Value.int _ _) rfl rfl) ?_
            refine Lnil ?_
            refine W_region ?_
            refine L0 (wanted_none rfl) rfl (y_add64 rfl rfl rfl (by omega)) ?_
            refine L0 (wanted_none rfl) rfl (y_move (v := Value.int _ _) rfl rfl) ?_
            refine Lnil ?_
            exact ⟨i + 1, by (try dsimp only); omega, _, A_c (iv_eq (by (try dsimp only); omega)) (A_c (by rw [hnext]; rfl) (A_c (by rw [hnext]; rfl) (A_c (by rw [hnext]; rfl) (A_c (by rw [hnext]; rfl) (A_c (by rw [hnext]; rfl) (A_c (by rw [hnext]; rfl) (A_c (by rw [hnext]; rfl) (A_c (by rw [hnext]; rfl) (A_c rfl (A_c rfl (A_c rfl (A_c rfl (A_c rfl (rfl)))))))))))))), by omega, hs94⟩
          · have h74' := h74
            first | replace h74' := of_decide_eq_false h74' | replace h74' := bnF' h74' | skip
            refine W_condF rfl h74 ?_
            refine W_exit ?_
            refine W_seq ?_
            obtain rfl : i = 64 := by omega
            obtain ⟨R, eR⟩ : ∃ x, x = V := ⟨_, rfl⟩
            rw [← eR]
            rw [eV] at eR
            refine W_region ?_
            refine L0 (wanted_none rfl) rfl (y_move (v := Value.int _ _) rfl rfl) ?_
            refine L0 (wanted_none rfl) rfl (y_move (v := Value.int _ _) rfl rfl) ?_
            refine L0 (wanted_none rfl) rfl (y_move (v := Value.int _ _) rfl rfl) ?_
            refine L0 (wanted_none rfl) rfl (y_move (v := Value.int _ _) rfl rfl) ?_
            refine L0 (wanted_none rfl) rfl (y_move (v := Value.int _ _) rfl rfl) ?_
            refine L0 (wanted_none rfl) rfl (y_move (v := Value.int _ _) rfl rfl) ?_
            refine L0 (wanted_none rfl) rfl (y_move (v := Value.int _ _) rfl rfl) ?_
            refine L0 (wanted_none rfl) rfl (y_move (v := Value.int _ _) rfl rfl) ?_
            refine L0 (wanted_none rfl) rfl (y_buildA8 (v0 := uv _) (v1 := uv _) (v2 := uv _) (v3 := uv _) (v4 := uv _) (v5 := uv _) (v6 := uv _) (v7 := uv _) rfl Tryd.underlying124 zr124 sz123 rfl rfl rfl rfl rfl rfl rfl rfl rfl rfl rfl rfl rfl rfl rfl rfl ) ?_
            refine L0 (wanted_none rfl) rfl (y_move (v := Value.int _ _) rfl rfl) ?_
            refine Lnil ?_
            refine W_block ?_
            refine W_loop (G := Nat) (fun i aL wl => ∃ e, aL = A 260 ((228, iv i) :: (227, .agg ⟨[uv (R.getD 0 0), uv (R.getD 1 0), uv (R.getD 2 0), uv (R.getD 3 0), uv (R.getD 4 0), uv (R.getD 5 0), uv (R.getD 6 0), uv (R.getD 7 0)]⟩) :: (7, .slice (some ⟨gb, 64 * q, none⟩) (p.length - 64 * q) (cap - 64 * q)) :: (5, pv b2 0) :: (6, .func (.func 153) #[] #[]) :: (0, pv rb 0) :: e) ∧ i ≤ 8 ∧ St w [(b40, .cells (us E) 125 (0, 0)), (b2, .cells (us (addB H R i)) 124 (0, 0)), (gb, .cells cur 5 fz)] wl) (fun i => 8 - i) (0) ?_ ?_
            · exact ⟨_, A_pins _ _ [228, 227, 7, 5, 6, 0], Nat.zero_le _, hs73⟩
            rintro i _ w95 ⟨ehs96, rfl, hi, hs96⟩
            have lA := addB_len H R i
            refine W_seq ?_
            refine W_region ?_
            refine L0 (wanted_none rfl) rfl (y_lt rfl rfl rfl) ?_
            refine Lnil ?_
            refine W_seq ?_
            refine Wsp (t := 229) rfl (fun h97 => ?_) (fun h97 => ?_)
            · have h97' := h97
              first | replace h97' := of_decide_eq_true h97' | replace h97' := bnT' h97' | skip
              refine W_condT rfl h97 ?_
              refine W_skip ?_
              refine W_seq ?_
              refine W_block ?_
              refine W_seq ?_
              refine W_region ?_
              refine L0 (wanted_none rfl) rfl (y_move (v := Value.int _ _) rfl rfl) ?_
              refine L0 (wanted_none rfl) rfl (y_iarr rfl Tryd.underlying124 Tryd.underlying123 rfl sz123 rfl rfl (by omega) (by omega) (eight_at (by omega))) ?_
              refine L0 (wanted_none rfl) rfl (y_assign (v := Value.int _ _) rfl rfl) ?_
              refine L0 (wanted_none rfl) rfl (y_assign (v := Value.int _ _) rfl rfl) ?_
              refine Lnil ?_
              refine W_region ?_
              refine L0 (wanted_none rfl) rfl (y_move (v := Value.int _ _) rfl rfl) ?_
              refine L0 (wanted_none rfl) rfl (y_indexArr rfl Tryd.underlying124 sz123 rfl rfl (by omega) (by omega)) ?_
              refine L1 (wanted_none rfl) rfl hs96 (y_load 1 rfl Tryd.underlying123 rfl rfl rfl (us_at i (by omega) (by omega))) ?_
              refine L0 (wanted_none rfl) rfl (y_move (v := Value.int _ _) rfl rfl) ?_
              refine L0 (wanted_none rfl) rfl (y_add32 rfl rfl rfl) ?_
              refine L0 (wanted_none rfl) rfl (y_indexArr rfl Tryd.underlying124 sz123 rfl rfl (by omega) (by omega)) ?_
              refine Lc (wanted_none rfl) (c_store (i := 1) (v := uv _) hs96 rfl rfl rfl rfl sz123 rfl rfl (by rw [us_size]; simp; omega) (Fz.zero _) (fun w98 hs99 => ?_))
              simp only [List.set_cons_succ, List.set_cons_zero] at hs99
              rw [us_set] at hs99
              refine Lnil ?_
              refine W_region ?_
              refine L0 (wanted_none rfl) rfl (y_add64 rfl rfl rfl (by omega)) ?_
              refine L0 (wanted_none rfl) rfl (y_move (v := Value.int _ _) rfl rfl) ?_
              refine Lnil ?_
              exact ⟨i + 1, by (try dsimp only); omega, _, A_c (iv_eq (by (try dsimp only); omega)) (A_c rfl (A_c rfl (A_c rfl (A_c rfl (A_c rfl (rfl)))))), by omega, hs99⟩
            · have h97' := h97
              first | replace h97' := of_decide_eq_false h97' | replace h97' := bnF' h97' | skip
              refine W_condF rfl h97 ?_
              refine W_exit ?_
              refine W_region ?_
              refine L0 (wanted_none rfl) rfl (y_move (v := Value.slice _ _ _) rfl rfl) ?_
              refine L0 (wanted_none rfl) rfl (y_slsliceLo rfl Tryd.underlying113 sz5 rfl rfl (by omega)) ?_
              refine L0 (wanted_none rfl) rfl (y_assign (v := Value.slice _ _ _) rfl rfl) ?_
              refine Lnil ?_
              obtain rfl : i = 8 := by omega
              have hsF := hs96.drop (.inl hbb40)
              have hfin : blkB p (q + 1) = addB H R 8 := by rw [blkB, ← eH, eR, eE, sched_all, ebl]; rfl
              rw [← hfin] at hsF
              have ho2 : 64 * (q + 1) < p.length → (if cap - 64 * q = 64 then 64 * q else 64 * q + 64 * 1) = 64 * (q + 1) := fun h => by rw [if_neg (by omega)]; omega
              exact ⟨(q + 1, _), by (dsimp only); omega, _, A_c rfl (A_c rfl (A_c rfl (A_c rfl (rfl)))), by (dsimp only); omega, ho2, hsF⟩
      · have h39' := h39
        first | replace h39' := of_decide_eq_false h39' | replace h39' := bnF' h39' | skip
        refine W_condF rfl h39 ?_
        refine W_exit ?_
        refine W_seq ?_
        obtain rfl : q = N := by omega
        refine W_region ?_
        refine L0 (wanted_none rfl) rfl (y_assign (v := Value.string ⟨⟨_⟩⟩) rfl rfl) ?_
        refine Lnil ?_
        refine W_seq ?_
        refine W_seq ?_
        refine W_region ?_
        refine L1 (wanted_none rfl) rfl hs38 (y_loadN 0 rfl Tryd.underlying124 rfl sz124 rfl rfl (by first | decide | (simp; done) | (simp; omega))) ?_
        refine L0 (wanted_none rfl) rfl (y_move (v := Value.int _ _) rfl rfl) ?_
        refine Lnil ?_
        refine W_block ?_
        refine W_loop (G := Nat) (fun i aL wl => ∃ e, aL = A 260 ((240, iv i) :: (239, .agg ⟨((us H).toList.drop 0).take 8⟩) :: (28, str (outB H i)) :: e) ∧ i ≤ 8 ∧ St w [(b2, .cells (us H) 124 (0, 0)), (gb, .cells cur 5 fz)] wl) (fun i => 8 - i) (0) ?_ ?_
        · exact ⟨_, A_pins _ _ [240, 239, 28], Nat.zero_le _, hs38⟩
        rintro i _ w100 ⟨ehs101, rfl, hi, hs101⟩
        have lO := outB_len H i
        have l4 : (be4 (H.getD i 0)).length = 4 := rfl
        refine W_seq ?_
        refine W_region ?_
        refine L0 (wanted_none rfl) rfl (y_lt rfl rfl rfl) ?_
        refine Lnil ?_
        refine W_seq ?_
        refine Wsp (t := 241) rfl (fun h102 => ?_) (fun h102 => ?_)
        · have h102' := h102
          first | replace h102' := of_decide_eq_true h102' | replace h102' := bnT' h102' | skip
          refine W_condT rfl h102 ?_
          refine W_skip ?_
          refine W_seq ?_
          refine W_block ?_
          refine W_seq ?_
          refine W_region ?_
          refine L0 (wanted_none rfl) rfl (y_iarr rfl Tryd.underlying124 Tryd.underlying123 rfl sz123 rfl rfl (by omega) (by omega) (us_aggN lH (by omega))) ?_
          refine L0 (wanted_none rfl) rfl (y_assign (v := Value.int _ _) rfl rfl) ?_
          refine Lnil ?_
          refine W_region ?_
          refine L0 (wanted_none rfl) rfl (y_move (v := Value.string ⟨⟨_⟩⟩) rfl rfl) ?_
          refine L0 (wanted_none rfl) rfl (y_move (v := Value.int _ _) rfl rfl) ?_
          refine L0 (wanted_none rfl) rfl (y_shr32 rfl rfl rfl (s := 24) (by first | rfl | omega) (by omega)) ?_
          refine L0 (wanted_none rfl) rfl (y_c32to8 rfl Tryd.underlying123 Tryd.underlying5 rfl) ?_
          refine L0 (wanted_none rfl) rfl (y_move (v := Value.int _ _) rfl rfl) ?_
          refine L0 (wanted_none rfl) rfl (y_shr32 rfl rfl rfl (s := 16) (by first | rfl | omega) (by omega)) ?_
          refine L0 (wanted_none rfl) rfl (y_c32to8 rfl Tryd.underlying123 Tryd.underlying5 rfl) ?_
          refine L0 (wanted_none rfl) rfl (y_move (v := Value.int _ _) rfl rfl) ?_
          refine L0 (wanted_none rfl) rfl (y_shr32 rfl rfl rfl (s := 8) (by first | rfl | omega) (by omega)) ?_
          refine L0 (wanted_none rfl) rfl (y_c32to8 rfl Tryd.underlying123 Tryd.underlying5 rfl) ?_
          refine L0 (wanted_none rfl) rfl (y_move (v := Value.int _ _) rfl rfl) ?_
          refine L0 (wanted_none rfl) rfl (y_c32to8 rfl Tryd.underlying123 Tryd.underlying5 rfl) ?_
          refine Lc (wanted_none rfl) (c_bs4 (v0 := bv _) (v1 := bv _) (v2 := bv _) (v3 := bv _) hs101 rfl rfl Tryd.underlying113 sz5 zr5 rfl rfl rfl rfl rfl rfl rfl rfl (fun b103 w104 hbb103 hs105 => ?_))
          refine L1 (wanted_none rfl) rfl hs105 (y_bstr rfl Tryd.underlying113 Tryd.underlying5 Tryd.underlying9 rfl (Row.of_block (E := 5) (xs := bs (be4 (H.getD i 0))) hbb103 (by simp [be4])) (fun x hx => by first | exact hx | exact List.mem_cons.2 (.inl (List.mem_singleton.1 hx)) | simp [hx])) ?_
          refine L0 (wanted_none rfl) rfl (y_scat rfl rfl rfl (by first | omega | (simp; omega) | (simp only [List.length_append, List.length_cons, List.length_nil]; omega))) ?_
          refine L0 (wanted_none rfl) rfl (y_assign (v := Value.string ⟨⟨_⟩⟩) rfl rfl) ?_
          refine Lnil ?_
          refine W_region ?_
          refine L0 (wanted_none rfl) rfl (y_add64 rfl rfl rfl (by omega)) ?_
          refine L0 (wanted_none rfl) rfl (y_move (v := Value.int _ _) rfl rfl) ?_
          refine Lnil ?_
          exact ⟨i + 1, by (try dsimp only); omega, _, A_c (iv_eq (by (try dsimp only); omega)) (A_c rfl (A_c rfl (rfl))), by omega, hs105.drop (.inl hbb103)⟩
        · have h102' := h102
          first | replace h102' := of_decide_eq_false h102' | replace h102' := bnF' h102' | skip
          refine W_condF rfl h102 ?_
          refine W_exit ?_
          refine W_seq ?_
          refine W_region ?_
          refine L0 (wanted_none rfl) rfl (y_move (v := Value.string ⟨⟨_⟩⟩) rfl rfl) ?_
          refine L0 (wanted_none rfl) rfl (y_assign (v := Value.string ⟨⟨_⟩⟩) rfl rfl) ?_
          refine Lnil ?_
          refine W_ret ?_
          refine fin1 (fn := Tryd.f130) rfl rfl ?_
          obtain rfl : i = 8 := by omega
          have hf : shaOf s = outB H 8 := by rw [eH, eN, ep]; rfl
          rw [hf]
          exact ⟨rfl, (hs101.drop (.inl hbb2)).drop (.inl hgB)⟩
end Go.Proofs.YtkolfgmpmnelmabDoor

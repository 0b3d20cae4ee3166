/-
  Walks: sum.Sum, sum.Num.
-/
import Derived.Test.YtkolfgmpmnelmabDoorH2
namespace Go.Proofs.YtkolfgmpmnelmabDoor
open Go Vx Go.Proofs
set_option linter.unusedVariables false
set_option maxRecDepth 4000

theorem us_aggN {cs : List UInt32} {m i : Nat} (h : cs.length = m) (hi : i < m) : (((us cs).toList.drop 0).take m)[(i : Int).toNat * 1]? = some (uv (cs.getD i 0)) := by
  rw [us_all h]
  simp [h, hi]

theorem part64 {cur : Array Value} {p : List UInt8} (h : cur.toList.take (p.length * 1) = bs p) {a : Nat} (han : a + 64 ≤ p.length) : (cur.toList.drop a).take ((p.drop a).take 64).length = ((p.drop a).take 64).map bv := by
  rw [show ((p.drop a).take 64).length = 64 from by rw [List.length_take, List.length_drop]; omega]
  exact part_of h han

set_option maxHeartbeats 4000000 in
theorem sum_any (s : List UInt8) (sl : s.length ≤ 1099511627776) (w : World) (hr : RoundsAt w) :
    C Tryd.prog 79 ⟨[str s]⟩ w fun v w' => v = str (shaOf s) ∧ St w [] w' := by
  have hpz : padZ s.length < 64 := Nat.mod_lt _ (by decide)
  refine C_enter (n := 74) Tryd.func79 rfl rfl rfl (fun w1 hs1 => ?_)
  refine W_seq ?_
  refine W_region ?_
  refine L0 (wanted_none rfl) rfl (y_assign (v := Value.string ⟨⟨_⟩⟩) rfl rfl) ?_
  refine Lnil ?_
  refine W_seq ?_
  refine W_region ?_
  refine L0 (wanted_none rfl) rfl (y_buildA (cells := (us h0T).toList) rfl Tryd.underlying124 zr124 sz123 (by kernel_rfl)) ?_
  refine Lc (wanted_none rfl) (c_alloc hs1 rfl rfl zr124 (fun b2 w3 hbb2 hs4 => ?_))
  refine Lc (wanted_none rfl) (c_storeN (i := 0) hs4 rfl rfl rfl rfl sz124 (by rfl) (by intro v hv; simp only [us, h0T, List.map_cons, List.map_nil, List.mem_cons, List.not_mem_nil, or_false] at hv; rcases hv with h | h | h | h | h | h | h | h <;> (rw [h]; rfl)) rfl (by decide) (Fz.zero _) (fun w5 hs6 => ?_))
  change St w [(_, .cells (us h0T) 124 (0, 0))] _ at hs6
  refine Lnil ?_
  refine W_seq ?_
  refine W_region ?_
  refine L0 (wanted_none rfl) rfl (y_move (v := Value.string ⟨⟨_⟩⟩) rfl rfl) ?_
  refine Lc (wanted_none rfl) (c_tobytes hs6 rfl rfl Tryd.underlying9 Tryd.underlying113 Tryd.underlying5 rfl (by omega) (fun b7 capb7 curb7 fzb7 w8 hbb7 hs9 => ?_))
  have hs9 := hs9.perm (List.Perm.swap _ _ [])
  have hrow := hbb7.row (E := 5)
  refine L0 (wanted_none rfl) rfl (y_assign (v := Value.slice _ _ _) rfl rfl) ?_
  refine Lnil ?_
  refine W_seq ?_
  refine W_region ?_
  refine L0 (wanted_none rfl) rfl (y_move (v := Value.slice _ _ _) rfl rfl) ?_
  refine Lc (wanted_none rfl) (c_bs1 (v0 := bv 128) hs9 rfl rfl Tryd.underlying113 sz5 zr5 rfl rfl (fun b10 w11 hbb10 hs12 => ?_))
  refine Lc (wanted_none rfl) (c_append (L0 := [(b2, .cells (us h0T) 124 (0, 0))]) (ent := _) hs12 hbb10 rfl rfl Tryd.underlying113 sz5 zr5 by5 rfl (by decide) rfl hrow rfl (by decide) rfl (by simp [Value.oneCell']) (by omega) (by omega) (fun v13 ent14 w15 hrow' hs16 => ?_))
  have hrow := hrow'
  refine L0 (wanted_none rfl) rfl (y_assign (v := v13) rfl rfl) ?_
  refine Lnil ?_
  refine W_seq ?_
  refine W_block ?_
  have hrow0 : Row w.heap.size 5 1 v13 (s.length + 1 + 0) (bs (s ++ [128] ++ List.replicate 0 0)) ent14 := by
    have h := hrow
    simp only [bs, List.map_append, List.replicate_zero, List.append_nil] at h ⊢
    exact h
  refine W_loop (G := Nat × Value × Blocks) (fun g aL wl => ∃ e, aL = A 74 ((4, g.2.1) :: (3, pv b2 0) :: (0, str s) :: e) ∧ g.1 ≤ padZ s.length ∧ Row w.heap.size 5 1 g.2.1 (s.length + 1 + g.1) (bs (s ++ [128] ++ List.replicate g.1 0)) g.2.2 ∧ St w ([(b2, .cells (us h0T) 124 (0, 0))] ++ g.2.2) wl) (fun g => padZ s.length - g.1) ((0, v13, ent14)) ?_ ?_
  · exact ⟨_, A_pins _ _ [4, 3, 0], Nat.zero_le _, hrow0, hs16⟩
  rintro g _ w17 ⟨ehs18, rfl, hz, hrow, hs18⟩
  obtain ⟨z, v, ent⟩ := g
  dsimp only at *
  refine W_seq ?_
  refine W_seq ?_
  refine W_region ?_
  refine L0 (wanted_none rfl) rfl (y_move (v := v) rfl rfl) ?_
  refine L0 (wanted_none rfl) rfl (y_slenRow rfl Tryd.underlying113 rfl hrow) ?_
  refine L0 (wanted_none rfl) rfl (y_rem64 rfl rfl rfl (by omega) (by omega)) ?_
  refine L0 (wanted_none rfl) rfl (y_ne rfl rfl rfl) ?_
  refine Lnil ?_
  refine Wsp (t := 20) rfl (fun h19 => ?_) (fun h19 => ?_)
  · have h19' := h19
    first | replace h19' := of_decide_eq_true h19' | replace h19' := bnT' h19' | skip
    refine W_condT rfl h19 ?_
    refine W_skip ?_
    refine W_block ?_
    refine W_region ?_
    refine L0 (wanted_none rfl) rfl (y_move (v := v) rfl rfl) ?_
    refine Lc (wanted_none rfl) (c_bs1 (v0 := bv 0) hs18 rfl rfl Tryd.underlying113 sz5 zr5 rfl rfl (fun b20 w21 hbb20 hs22 => ?_))
    refine Lc (wanted_none rfl) (c_append (L0 := [(b2, .cells (us h0T) 124 (0, 0))]) (ent := ent) hs22 hbb20 rfl rfl Tryd.underlying113 sz5 zr5 by5 rfl (by decide) rfl hrow rfl (by decide) rfl (by simp [Value.oneCell']) (by omega) (by omega) (fun v23 ent24 w25 hrow' hs26 => ?_))
    have hrow := hrow'
    refine L0 (wanted_none rfl) rfl (y_assign (v := v23) rfl rfl) ?_
    refine Lnil ?_
    have hrow2 : Row w.heap.size 5 1 v23 (s.length + 1 + (z + 1)) (bs (s ++ [128] ++ List.replicate (z + 1) 0)) ent24 := by
      have h := hrow
      rw [List.replicate_succ', ← List.append_assoc]
      simp only [bs, List.map_append] at h ⊢
      exact h
    exact ⟨(z + 1, _, _), by (dsimp only); unfold padZ at *; omega, _, A_c rfl (A_c rfl (A_c rfl (rfl))), by (dsimp only); unfold padZ at *; omega, hrow2, hs26⟩
  · have h19' := h19
    first | replace h19' := of_decide_eq_false h19' | replace h19' := bnF' h19' | skip
    refine W_condF rfl h19 ?_
    refine W_exit ?_
    refine W_seq ?_
    refine W_region ?_
    refine L0 (wanted_none rfl) rfl (y_move (v := Value.string ⟨⟨_⟩⟩) rfl rfl) ?_
    refine L0 (wanted_none rfl) rfl (y_len rfl Tryd.underlying9 rfl) ?_
    refine L0 (wanted_none rfl) rfl (y_cito64 rfl Tryd.underlying3 Tryd.underlying122 rfl) ?_
    refine L0 (wanted_none rfl) rfl (y_mul64u (q' := 8) rfl rfl rfl) ?_
    refine L0 (wanted_none rfl) rfl (y_assign (v := Value.int _ _) rfl rfl) ?_
    refine Lnil ?_
    refine W_seq ?_
    refine W_seq ?_
    refine W_region ?_
    refine L0 (wanted_none rfl) rfl (y_assign (v := Value.int _ _) rfl rfl) ?_
    refine Lnil ?_
    refine W_block ?_
    have hz56 : z = padZ s.length := by unfold padZ at *; omega
    subst hz56
    obtain ⟨q, eq⟩ : ∃ x, x = u64of s.length * 8 := ⟨_, rfl⟩
    rw [← eq]
    have hrow0 : Row w.heap.size 5 1 v (s.length + 1 + padZ s.length + 0) (bs (s ++ [128] ++ List.replicate (padZ s.length) 0 ++ num8 q 0)) ent := by
      rw [num8, List.append_nil]; exact hrow
    refine W_loop (G := Nat × Value × Blocks) (fun g aL wl => ∃ e, aL = A 74 ((6, iv (7 - (g.1 : Int))) :: (4, g.2.1) :: (5, qv q) :: (3, pv b2 0) :: (0, str s) :: e) ∧ g.1 ≤ 8 ∧ Row w.heap.size 5 1 g.2.1 (s.length + 1 + padZ s.length + g.1) (bs (s ++ [128] ++ List.replicate (padZ s.length) 0 ++ num8 q g.1)) g.2.2 ∧ St w ([(b2, .cells (us h0T) 124 (0, 0))] ++ g.2.2) wl) (fun g => 8 - g.1) ((0, v, ent)) ?_ ?_
    · exact ⟨_, A_pins _ _ [6, 4, 5, 3, 0], Nat.zero_le _, hrow0, hs18⟩
    rintro g _ w27 ⟨ehs28, rfl, hk, hrow, hs28⟩
    obtain ⟨k, v, ent⟩ := g
    dsimp only at *
    refine W_seq ?_
    refine W_seq ?_
    refine W_region ?_
    refine L0 (wanted_none rfl) rfl (y_move (v := Value.int _ _) rfl rfl) ?_
    refine L0 (wanted_none rfl) rfl (y_ge rfl rfl rfl) ?_
    refine Lnil ?_
    refine Wsp (t := 29) rfl (fun h29 => ?_) (fun h29 => ?_)
    · have h29' := h29
      first | replace h29' := of_decide_eq_true h29' | replace h29' := bnT' h29' | skip
      refine W_condT rfl h29 ?_
      refine W_skip ?_
      refine W_seq ?_
      refine W_block ?_
      refine W_region ?_
      refine L0 (wanted_none rfl) rfl (y_move (v := v) rfl rfl) ?_
      refine L0 (wanted_none rfl) rfl (y_move (v := Value.int _ _) rfl rfl) ?_
      refine L0 (wanted_none rfl) rfl (y_move (v := Value.int _ _) rfl rfl) ?_
      refine L0 (wanted_none rfl) rfl (y_mul64 rfl rfl rfl (by omega)) ?_
      refine L0 (wanted_none rfl) rfl (y_shr64 rfl rfl rfl (s := (8 * (7 - k))) (by first | rfl | omega) (by omega)) ?_
      refine L0 (wanted_none rfl) rfl (y_c64to8 rfl Tryd.underlying122 Tryd.underlying5 rfl) ?_
      refine Lc (wanted_none rfl) (c_bs1 (v0 := bv _) hs28 rfl rfl Tryd.underlying113 sz5 zr5 rfl rfl (fun b30 w31 hbb30 hs32 => ?_))
      refine Lc (wanted_none rfl) (c_append (L0 := [(b2, .cells (us h0T) 124 (0, 0))]) (ent := ent) hs32 hbb30 rfl rfl Tryd.underlying113 sz5 zr5 by5 rfl (by decide) rfl hrow rfl (by decide) rfl (by simp [Value.oneCell']) (by omega) (by omega) (fun v33 ent34 w35 hrow' hs36 => ?_))
      have hrow := hrow'
      refine L0 (wanted_none rfl) rfl (y_assign (v := v33) rfl rfl) ?_
      refine Lnil ?_
      refine W_region ?_
      refine L0 (wanted_none rfl) rfl (y_move (v := Value.int _ _) rfl rfl) ?_
      refine L0 (wanted_none rfl) rfl (y_sub64 rfl rfl rfl (by omega)) ?_
      refine L0 (wanted_none rfl) rfl (y_assign (v := Value.int _ _) rfl rfl) ?_
      refine Lnil ?_
      have hrow2 : Row w.heap.size 5 1 v33 (s.length + 1 + padZ s.length + (k + 1)) (bs (s ++ [128] ++ List.replicate (padZ s.length) 0 ++ num8 q (k + 1))) ent34 := by
        have h := hrow
        rw [num8, ← List.append_assoc]
        simp only [bs, List.map_append] at h ⊢
        exact h
      exact ⟨(k + 1, _, _), by (try dsimp only); omega, _, A_c (iv_eq (by (try dsimp only); omega)) (A_c rfl (A_c rfl (A_c rfl (A_c rfl (rfl))))), by (dsimp only); omega, hrow2, hs36⟩
    · have h29' := h29
      first | replace h29' := of_decide_eq_false h29' | replace h29' := bnF' h29' | skip
      refine W_condF rfl h29 ?_
      refine W_exit ?_
      refine W_seq ?_
      refine W_seq ?_
      refine W_region ?_
      refine L0 (wanted_none rfl) rfl (y_assign (v := Value.int _ _) rfl rfl) ?_
      refine Lnil ?_
      refine W_block ?_
      have hk8 : k = 8 := by omega
      subst hk8
      obtain ⟨p, ep⟩ : ∃ x, x = padOf s := ⟨_, rfl⟩
      have hpl := padOf_len s
      have hpm := padOf_mod s
      rw [← ep] at hpl hpm
      have hrow0 : Row w.heap.size 5 1 v p.length (bs p) ent := by
        have h := hrow
        rw [eq] at h
        rw [hpl, ep]
        have e1 : s.length + 9 + padZ s.length = s.length + 1 + padZ s.length + 8 := by omega
        rw [e1]; exact h
      obtain ⟨gb, cap, cur, fz, rfl, rfl, hgB, hgm, hgc, hgs, hgt, hgf⟩ := hrow0.2.resolve_left (by rintro ⟨_, h, _⟩; omega)
      obtain ⟨N, eN⟩ : ∃ x, x = p.length / 64 := ⟨_, rfl⟩
      rw [← eN] at hpm
      refine W_loop (G := Nat) (fun g aL wl => ∃ e, aL = A 74 ((7, iv (64 * (g : Int))) :: (4, .slice (some ⟨gb, 0, none⟩) p.length cap) :: (3, pv b2 0) :: e) ∧ g ≤ N ∧ St w [(b2, .cells (us (blkB p g)) 124 (0, 0)), (gb, .cells cur 5 fz)] wl) (fun g => N - g) (0) ?_ ?_
      · exact ⟨_, A_pins _ _ [7, 4, 3], Nat.zero_le _, hs28⟩
      rintro g _ w37 ⟨ehs38, rfl, hg, hs38⟩
      refine W_seq ?_
      refine W_seq ?_
      refine W_region ?_
      refine L0 (wanted_none rfl) rfl (y_move (v := Value.int _ _) rfl rfl) ?_
      refine L0 (wanted_none rfl) rfl (y_move (v := Value.slice _ _ _) rfl rfl) ?_
      refine L0 (wanted_none rfl) rfl (y_slen rfl Tryd.underlying113 rfl) ?_
      refine L0 (wanted_none rfl) rfl (y_lt rfl rfl rfl) ?_
      refine Lnil ?_
      refine Wsp (t := 43) rfl (fun h39 => ?_) (fun h39 => ?_)
      · have h39' := h39
        first | replace h39' := of_decide_eq_true h39' | replace h39' := bnT' h39' | skip
        refine W_condT rfl h39 ?_
        refine W_skip ?_
        refine W_seq ?_
        refine W_block ?_
        refine W_region ?_
        refine L0 (wanted_none rfl) rfl (y_move (v := Value.slice _ _ _) rfl rfl) ?_
        refine L0 (wanted_none rfl) rfl (y_move (v := Value.int _ _) rfl rfl) ?_
        refine L0 (wanted_none rfl) rfl (y_move (v := Value.int _ _) rfl rfl) ?_
        refine L0 (wanted_none rfl) rfl (y_add64 rfl rfl rfl (by omega)) ?_
        refine L0 (wanted_none rfl) rfl (y_slslice rfl Tryd.underlying113 sz5 rfl rfl rfl (by omega)) ?_
        refine L1 (wanted_none rfl) rfl hs38 (y_bsub rfl Tryd.underlying113 Tryd.underlying5 Tryd.underlying9 rfl (l := (p.drop (64 * g)).take 64) (by rw [List.length_take, List.length_drop]; omega) (List.mem_cons_of_mem _ (List.mem_singleton.2 rfl)) (by rw [show 0 + (64 * (g : Int)).toNat * 1 = 64 * g from by omega]; exact part64 hgt (by omega))) ?_
        refine Lc (wanted_none rfl) (c_call rfl rfl rfl Tryd.func128 (by kernel_rfl) rfl (block64_any (blkB p g) b2 ((p.drop (64 * g)).take 64) (blkB_len _ _) (by rw [List.length_take, List.length_drop]; omega) w37 (hs38.get 0 rfl) (hr.keep hs38 (by have := hbb2; have := hr.1; simp [keys]; omega)) (by have := hbb2; have := hr.1; omega)) rfl ?_)
        rintro _ w40 ⟨rfl, hc41⟩
        have hs42 := hs38.call1 0 rfl hc41
        refine Lnil ?_
        refine W_region ?_
        refine L0 (wanted_none rfl) rfl (y_move (v := Value.int _ _) rfl rfl) ?_
        refine L0 (wanted_none rfl) rfl (y_add64 rfl rfl rfl (by omega)) ?_
        refine L0 (wanted_none rfl) rfl (y_assign (v := Value.int _ _) rfl rfl) ?_
        refine Lnil ?_
        exact ⟨g + 1, by (try dsimp only); omega, _, A_c (iv_eq (by (try dsimp only); omega)) (A_c rfl (A_c rfl (rfl))), by omega, hs42⟩
      · have h39' := h39
        first | replace h39' := of_decide_eq_false h39' | replace h39' := bnF' h39' | skip
        refine W_condF rfl h39 ?_
        refine W_exit ?_
        refine W_seq ?_
        obtain rfl : g = N := by omega
        obtain ⟨H, eH⟩ : ∃ x, x = blkB p g := ⟨_, rfl⟩
        rw [← eH] at hs38
        have lH : H.length = 8 := by rw [eH, blkB_len]
        refine W_region ?_
        refine L0 (wanted_none rfl) rfl (y_assign (v := Value.slice _ _ _) rfl rfl) ?_
        refine Lnil ?_
        refine W_seq ?_
        refine W_seq ?_
        refine W_region ?_
        refine L1 (wanted_none rfl) rfl hs38 (y_loadN 0 rfl Tryd.underlying124 rfl sz124 rfl rfl (by first | decide | (simp; done) | (simp; omega))) ?_
        refine L0 (wanted_none rfl) rfl (y_move (v := Value.int _ _) rfl rfl) ?_
        refine Lnil ?_
        refine W_block ?_
        refine W_loop (G := Nat × Value × Blocks) (fun g aL wl => ∃ e, aL = A 74 ((54, iv g.1) :: (8, g.2.1) :: (53, .agg ⟨((us H).toList.drop 0).take 8⟩) :: e) ∧ g.1 ≤ 8 ∧ Row w.heap.size 5 1 g.2.1 (4 * g.1) (bs (outB H g.1)) g.2.2 ∧ St w ([(b2, .cells (us H) 124 (0, 0)), (gb, .cells cur 5 fz)] ++ g.2.2) wl) (fun g => 8 - g.1) ((0, .slice none 0 0, [])) ?_ ?_
        · exact ⟨_, A_pins _ _ [54, 8, 53], Nat.zero_le _, Row.nil _ _ _, hs38⟩
        rintro g _ w43 ⟨ehs44, rfl, hi, hrow, hs44⟩
        obtain ⟨i, v, ent⟩ := g
        dsimp only at *
        refine W_seq ?_
        refine W_region ?_
        refine L0 (wanted_none rfl) rfl (y_lt rfl rfl rfl) ?_
        refine Lnil ?_
        refine W_seq ?_
        refine Wsp (t := 55) rfl (fun h45 => ?_) (fun h45 => ?_)
        · have h45' := h45
          first | replace h45' := of_decide_eq_true h45' | replace h45' := bnT' h45' | skip
          refine W_condT rfl h45 ?_
          refine W_skip ?_
          refine W_seq ?_
          refine W_block ?_
          refine W_seq ?_
          refine W_region ?_
          refine L0 (wanted_none rfl) rfl (y_iarr rfl Tryd.underlying124 Tryd.underlying123 rfl sz123 rfl rfl (by omega) (by omega) (us_aggN lH (by omega))) ?_
          refine L0 (wanted_none rfl) rfl (y_assign (v := Value.int _ _) rfl rfl) ?_
          refine Lnil ?_
          refine W_region ?_
          refine L0 (wanted_none rfl) rfl (y_move (v := v) rfl rfl) ?_
          refine L0 (wanted_none rfl) rfl (y_move (v := Value.int _ _) rfl rfl) ?_
          refine L0 (wanted_none rfl) rfl (y_shr32 rfl rfl rfl (s := 24) (by first | rfl | omega) (by omega)) ?_
          refine L0 (wanted_none rfl) rfl (y_c32to8 rfl Tryd.underlying123 Tryd.underlying5 rfl) ?_
          refine L0 (wanted_none rfl) rfl (y_move (v := Value.int _ _) rfl rfl) ?_
          refine L0 (wanted_none rfl) rfl (y_shr32 rfl rfl rfl (s := 16) (by first | rfl | omega) (by omega)) ?_
          refine L0 (wanted_none rfl) rfl (y_c32to8 rfl Tryd.underlying123 Tryd.underlying5 rfl) ?_
          refine L0 (wanted_none rfl) rfl (y_move (v := Value.int _ _) rfl rfl) ?_
          refine L0 (wanted_none rfl) rfl (y_shr32 rfl rfl rfl (s := 8) (by first | rfl | omega) (by omega)) ?_
          refine L0 (wanted_none rfl) rfl (y_c32to8 rfl Tryd.underlying123 Tryd.underlying5 rfl) ?_
          refine L0 (wanted_none rfl) rfl (y_move (v := Value.int _ _) rfl rfl) ?_
          refine L0 (wanted_none rfl) rfl (y_c32to8 rfl Tryd.underlying123 Tryd.underlying5 rfl) ?_
          refine Lc (wanted_none rfl) (c_bs4 (v0 := bv _) (v1 := bv _) (v2 := bv _) (v3 := bv _) hs44 rfl rfl Tryd.underlying113 sz5 zr5 rfl rfl rfl rfl rfl rfl rfl rfl (fun b46 w47 hbb46 hs48 => ?_))
          refine Lc (wanted_none rfl) (c_append (L0 := [(b2, .cells (us H) 124 (0, 0)), (gb, .cells cur 5 fz)]) (ent := ent) hs48 hbb46 rfl rfl Tryd.underlying113 sz5 zr5 by5 rfl (by decide) rfl hrow rfl (by decide) rfl (by simp [Value.oneCell']) (by omega) (by omega) (fun v49 ent50 w51 hrow' hs52 => ?_))
          have hrow := hrow'
          refine L0 (wanted_none rfl) rfl (y_assign (v := v49) rfl rfl) ?_
          refine Lnil ?_
          refine W_region ?_
          refine L0 (wanted_none rfl) rfl (y_add64 rfl rfl rfl (by omega)) ?_
          refine L0 (wanted_none rfl) rfl (y_move (v := Value.int _ _) rfl rfl) ?_
          refine Lnil ?_
          have hrow2 : Row w.heap.size 5 1 v49 (4 * (i + 1)) (bs (outB H (i + 1))) ent50 := by
            have h := hrow
            simp only [outB, bs, List.map_append]
            exact h
          exact ⟨(i + 1, _, _), by (try dsimp only); omega, _, A_c (iv_eq (by (try dsimp only); omega)) (A_c rfl (A_c rfl (rfl))), by (dsimp only); omega, hrow2, hs52⟩
        · have h45' := h45
          first | replace h45' := of_decide_eq_false h45' | replace h45' := bnF' h45' | skip
          refine W_condF rfl h45 ?_
          refine W_exit ?_
          refine W_seq ?_
          refine W_region ?_
          refine L0 (wanted_none rfl) rfl (y_move (v := v) rfl rfl) ?_
          refine L1 (wanted_none rfl) rfl hs44 (y_bstr rfl Tryd.underlying113 Tryd.underlying5 Tryd.underlying9 rfl hrow (fun x hx => by first | exact hx | exact List.mem_cons.2 (.inl (List.mem_singleton.1 hx)) | simp [hx])) ?_
          refine L0 (wanted_none rfl) rfl (y_assign (v := Value.string ⟨⟨_⟩⟩) rfl rfl) ?_
          refine Lnil ?_
          refine W_ret ?_
          refine fin1 (fn := Tryd.f79) rfl rfl ?_
          obtain rfl : i = 8 := by omega
          have hf : shaOf s = outB H 8 := by rw [eH, eN, ep]; rfl
          rw [hf]
          exact ⟨rfl, hs44.drops (by
            intro x hx
            simp only [List.cons_append, List.nil_append, List.mem_cons] at hx
            rcases hx with rfl | rfl | hx
            · exact .inl hbb2
            · exact .inl hgB
            · exact .inl (hrow.new x hx))⟩
end Go.Proofs.YtkolfgmpmnelmabDoor

/-
  Walks: sum.turn, sum.block.
-/
import Derived.Test.YtkolfgmpmnelmabDoorProg
import Derived.Test.YtkolfgmpmnelmabDoorVh
import Derived.Test.YtkolfgmpmnelmabDoorVt
import Derived.Test.YtkolfgmpmnelmabDoorH1
namespace Go.Proofs.YtkolfgmpmnelmabDoor
open Go Vx Go.Proofs
set_option linter.unusedVariables false
set_option maxRecDepth 4000

theorem rotr_any (x : UInt32) (s : Nat) (h0 : 0 < s) (h1 : s < 32) (w : World) :
    C Tryd.prog 151 ⟨[uv x, iv s]⟩ w fun v w' => v = uv (rotr x s) ∧ St w [] w' := by
  refine C_enter (n := 13) Tryd.func151 rfl rfl rfl (fun w1 hs1 => ?_)
  refine W_seq ?_
  refine W_region ?_
  refine L0 (wanted_none rfl) rfl (y_assign (v := Value.int _ _) rfl rfl) ?_
  refine Lnil ?_
  refine W_seq ?_
  refine W_drawSt [(0, 0), (0, 1), (0, 3), (0, 4), (0, 2), (0, 5), (0, 6), (0, 7), (0, 8)] hs1 mixed (by kernel_rfl) (fun w2 hs3 => ?_)
  refine E0 (wanted_none rfl) rfl (y_move (v := Value.int _ _) rfl rfl) ?_
  refine E0 (wanted_none rfl) rfl (y_move (v := Value.int _ _) rfl rfl) ?_
  refine E0 (wanted_none rfl) rfl (y_move (v := Value.int _ _) rfl rfl) ?_
  refine E0 (wanted_none rfl) rfl (y_move (v := Value.int _ _) rfl rfl) ?_
  refine E0 (wanted_none rfl) rfl (y_shr32 rfl rfl rfl (s := s) (by first | rfl | omega) (by omega)) ?_
  refine E0 (wanted_none rfl) rfl (y_sub64 rfl rfl rfl (by omega)) ?_
  refine E0 (wanted_none rfl) rfl (y_shl32 rfl rfl rfl (s := (32 - s)) (by first | rfl | omega) (by omega)) ?_
  refine E0 (wanted_none rfl) rfl (y_or32 rfl rfl rfl) ?_
  refine E0 (wanted_none rfl) rfl (y_assign (v := Value.int _ _) rfl rfl) ?_
  refine Enil ?_
  refine W_ret ?_
  refine fin1 (fn := Tryd.f151) rfl rfl ?_
  exact ⟨rfl, hs3⟩
/-- The table of the rounds is as it was laid. -/
def RoundsAt (w : World) : Prop := 2 < w.heap.size ∧ ∀ i, i < 64 → w.cell? ⟨2, i, none⟩ = some (uv (kT.getD i 0))
theorem RoundsAt.keep {w w' : World} {L : Blocks} (h : RoundsAt w) (hs : St w L w') (hL : 2 ∉ keys L) : RoundsAt w' :=
  ⟨Nat.lt_of_lt_of_le h.1 hs.size, fun i hi => by rw [← h.2 i hi]; exact World.cell?_of_block (hs.fr _ h.1 hL)⟩
theorem us_at {cs : List UInt32} {i : Int} (j : Nat) (hj : i.toNat = j) (h : j < cs.length) : (us cs)[0 + i.toNat * 1]? = some (uv (cs.getD j 0)) := by
  subst hj; simp [us, h]
theorem us_setAt (cs : List UInt32) (i : Int) (j : Nat) (hj : i.toNat = j) (x : UInt32) : (us cs).setIfInBounds (0 + i.toNat * 1) (uv x) = us (cs.set j x) := by
  subst hj; simp [us, List.map_set]
theorem us_over {cs : List UInt32} {c : Array Value} (h : c.size = cs.length) : (⟨c.toList.take 0 ++ cs.map uv ++ c.toList.drop (0 + (cs.map uv).length)⟩ : Array Value) = us cs := by
  apply Array.ext'
  have h2 : c.toList.drop (0 + (cs.map uv).length) = [] := by simp [h]
  simp only [h2, us]; simp
theorem us_all {cs : List UInt32} {m : Nat} (h : cs.length = m) : ((us cs).toList.drop 0).take m = cs.map uv := by
  rw [show (us cs).toList = cs.map uv from rfl, List.drop_zero, List.take_of_length_le (by simp [h])]
theorem ix0 (j : Nat) : 0 + (j : Int).toNat * 1 = j := by simp
theorem us_one' {cs : List UInt32} {m : Nat} : ∀ v ∈ ((us cs).toList.drop 0).take m, v.oneCell' = true := by
  intro v hv
  have := List.mem_of_mem_take hv
  simp only [us, List.drop_zero, List.mem_map] at this
  obtain ⟨a, _, rfl⟩ := this
  rfl
theorem be_eq (s : List UInt8) (g : Nat) : ((s.getD (4 * (g : Int)).toNat 0).toUInt32 <<< UInt32.ofNat 24 ||| (s.getD (4 * (g : Int) + 1).toNat 0).toUInt32 <<< UInt32.ofNat 16 ||| (s.getD (4 * (g : Int) + 2).toNat 0).toUInt32 <<< UInt32.ofNat 8 ||| (s.getD (4 * (g : Int) + 3).toNat 0).toUInt32) = be s g := by
  rw [show (4 * (g : Int)).toNat = 4 * g from by omega, show (4 * (g : Int) + 1).toNat = 4 * g + 1 from by omega, show (4 * (g : Int) + 2).toNat = 4 * g + 2 from by omega, show (4 * (g : Int) + 3).toNat = 4 * g + 3 from by omega]
  rfl

set_option maxHeartbeats 4000000 in
theorem block64_any (h : List UInt32) (bb : Nat) (s : List UInt8) (hl : h.length = 8) (sl : s.length = 64) (w : World) (hw : w.heap[bb]? = some (.cells (us h) 124 (0, 0))) (hr : RoundsAt w) (hne : bb ≠ 2) :
    C Tryd.prog 128 ⟨[pv bb 0, str s]⟩ w fun v w' => v = .tuple #[] ∧ St w [(bb, .cells (us (shaB h s)) 124 (0, 0))] w' := by
  have hbb := lt_of_has hw
  refine C_enter (n := 212) Tryd.func128 rfl rfl rfl (fun w1 hs1 => ?_)
  have hs2 := hs1.borrow hw (by simp [keys])
  refine W_seq ?_
  refine W_region ?_
  refine Lc (wanted_none rfl) (c_alloc hs2 rfl rfl zr125 (fun b2 w3 hbb2 hs4 => ?_))
  change St w [(_, .cells (us (List.replicate 64 0)) 125 (0, 0)), _] _ at hs4
  refine Lnil ?_
  refine W_seq ?_
  refine W_seq ?_
  refine W_region ?_
  refine L0 (wanted_none rfl) rfl (y_move (v := Value.int _ _) rfl rfl) ?_
  refine Lnil ?_
  refine W_block ?_
  refine W_loop (G := Nat) (fun g aL wl => ∃ e, aL = A 212 ((16, iv g) :: (4, pv b2 0) :: (0, pv bb 0) :: (1, str s) :: e) ∧ g ≤ 16 ∧ St w [(b2, .cells (us (fillB s g)) 125 (0, 0)), (bb, .cells (us h) 124 (0, 0))] wl) (fun g => 16 - g) (0) ?_ ?_
  · exact ⟨_, A_pins _ _ [16, 4, 0, 1], by omega, hs4⟩
  rintro g _ w5 ⟨ehs6, rfl, hg, hs6⟩
  refine W_seq ?_
  refine W_region ?_
  refine L0 (wanted_none rfl) rfl (y_lt rfl rfl rfl) ?_
  refine Lnil ?_
  refine W_seq ?_
  refine Wsp (t := 17) rfl (fun h7 => ?_) (fun h7 => ?_)
  · have h7' := h7
    first | replace h7' := of_decide_eq_true h7' | replace h7' := bnT' h7' | skip
    refine W_condT rfl h7 ?_
    refine W_skip ?_
    refine W_seq ?_
    refine W_block ?_
    refine W_seq ?_
    refine W_region ?_
    refine L0 (wanted_none rfl) rfl (y_move (v := Value.int _ _) rfl rfl) ?_
    refine L0 (wanted_none rfl) rfl (y_assign (v := Value.int _ _) rfl rfl) ?_
    refine Lnil ?_
    refine W_drawSt [(0, 0), (0, 1), (0, 2), (0, 7), (0, 8), (0, 15), (0, 16), (0, 23), (0, 24), (0, 3), (0, 9), (0, 17), (0, 25), (0, 4), (0, 10), (0, 18), (0, 26), (0, 5), (0, 11), (0, 19), (0, 27), (0, 6), (0, 12), (0, 20), (0, 28), (0, 13), (0, 21), (0, 14), (0, 22), (0, 29), (0, 30), (2, 31)] hs6 mixed (by kernel_rfl) (fun w8 hs9 => ?_)
    refine E0 (wanted_none rfl) rfl (y_move (v := Value.int _ _) rfl rfl) ?_
    refine E0 (wanted_none rfl) rfl (y_move (v := Value.string ⟨⟨_⟩⟩) rfl rfl) ?_
    refine E0 (wanted_none rfl) rfl (y_move (v := Value.int _ _) rfl rfl) ?_
    refine E0 (wanted_none rfl) rfl (y_move (v := Value.string ⟨⟨_⟩⟩) rfl rfl) ?_
    refine E0 (wanted_none rfl) rfl (y_move (v := Value.int _ _) rfl rfl) ?_
    refine E0 (wanted_none rfl) rfl (y_move (v := Value.string ⟨⟨_⟩⟩) rfl rfl) ?_
    refine E0 (wanted_none rfl) rfl (y_move (v := Value.int _ _) rfl rfl) ?_
    refine E0 (wanted_none rfl) rfl (y_move (v := Value.string ⟨⟨_⟩⟩) rfl rfl) ?_
    refine E0 (wanted_none rfl) rfl (y_move (v := Value.int _ _) rfl rfl) ?_
    refine E0 (wanted_none rfl) rfl (y_mul64 rfl rfl rfl (by omega)) ?_
    refine E0 (wanted_none rfl) rfl (y_mul64 rfl rfl rfl (by omega)) ?_
    refine E0 (wanted_none rfl) rfl (y_mul64 rfl rfl rfl (by omega)) ?_
    refine E0 (wanted_none rfl) rfl (y_mul64 rfl rfl rfl (by omega)) ?_
    refine E0 (wanted_none rfl) rfl (y_sindex rfl Tryd.underlying9 rfl rfl (by omega) (by omega)) ?_
    refine E0 (wanted_none rfl) rfl (y_add64 rfl rfl rfl (by omega)) ?_
    refine E0 (wanted_none rfl) rfl (y_add64 rfl rfl rfl (by omega)) ?_
    refine E0 (wanted_none rfl) rfl (y_add64 rfl rfl rfl (by omega)) ?_
    refine E0 (wanted_none rfl) rfl (y_c8to32 rfl Tryd.underlying5 Tryd.underlying123 rfl) ?_
    refine E0 (wanted_none rfl) rfl (y_sindex rfl Tryd.underlying9 rfl rfl (by omega) (by omega)) ?_
    refine E0 (wanted_none rfl) rfl (y_sindex rfl Tryd.underlying9 rfl rfl (by omega) (by omega)) ?_
    refine E0 (wanted_none rfl) rfl (y_sindex rfl Tryd.underlying9 rfl rfl (by omega) (by omega)) ?_
    refine E0 (wanted_none rfl) rfl (y_shl32 rfl rfl rfl (s := 24) (by first | rfl | omega) (by omega)) ?_
    refine E0 (wanted_none rfl) rfl (y_c8to32 rfl Tryd.underlying5 Tryd.underlying123 rfl) ?_
    refine E0 (wanted_none rfl) rfl (y_c8to32 rfl Tryd.underlying5 Tryd.underlying123 rfl) ?_
    refine E0 (wanted_none rfl) rfl (y_c8to32 rfl Tryd.underlying5 Tryd.underlying123 rfl) ?_
    refine E0 (wanted_none rfl) rfl (y_shl32 rfl rfl rfl (s := 16) (by first | rfl | omega) (by omega)) ?_
    refine E0 (wanted_none rfl) rfl (y_shl32 rfl rfl rfl (s := 8) (by first | rfl | omega) (by omega)) ?_
    refine E0 (wanted_none rfl) rfl (y_or32 rfl rfl rfl) ?_
    refine E0 (wanted_none rfl) rfl (y_or32 rfl rfl rfl) ?_
    refine E0 (wanted_none rfl) rfl (y_or32 rfl rfl rfl) ?_
    refine E0 (wanted_none rfl) rfl (y_indexArr rfl Tryd.underlying125 sz123 rfl rfl (by omega) (by omega)) ?_
    refine E2 (wanted_none rfl) (c_store (i := 0) (v := uv _) hs9 rfl rfl rfl rfl sz123 rfl rfl (by rw [us_size, fillB_len]; omega) (Fz.zero _) (fun w10 hs11 => ?_))
    rw [List.set_cons_zero, us_set, be_eq] at hs11
    refine Enil ?_
    refine W_region ?_
    refine L0 (wanted_none rfl) rfl (y_add64 rfl rfl rfl (by omega)) ?_
    refine L0 (wanted_none rfl) rfl (y_move (v := Value.int _ _) rfl rfl) ?_
    refine Lnil ?_
    exact ⟨g + 1, by (try dsimp only); omega, _, A_c (iv_eq (by (try dsimp only); omega)) (A_c rfl (A_c rfl (A_c rfl (rfl)))), by omega, hs11⟩
  · have h7' := h7
    first | replace h7' := of_decide_eq_false h7' | replace h7' := bnF' h7' | skip
    refine W_condF rfl h7 ?_
    refine W_exit ?_
    refine W_seq ?_
    refine W_seq ?_
    obtain rfl : g = 16 := by omega
    obtain ⟨W, eW⟩ : ∃ x, x = fillB s 16 := ⟨_, rfl⟩
    rw [← eW] at hs6
    have lW : W.length = 64 := by rw [eW, fillB_len]
    refine W_region ?_
    refine L0 (wanted_none rfl) rfl (y_assign (v := Value.int _ _) rfl rfl) ?_
    refine Lnil ?_
    refine W_block ?_
    refine W_loop (G := Nat) (fun g aL wl => ∃ e, aL = A 212 ((6, iv (16 + (g : Int))) :: (4, pv b2 0) :: (0, pv bb 0) :: (1, str s) :: e) ∧ g ≤ 48 ∧ St w [(b2, .cells (us (extB W g)) 125 (0, 0)), (bb, .cells (us h) 124 (0, 0))] wl) (fun g => 48 - g) (0) ?_ ?_
    · exact ⟨_, A_pins _ _ [6, 4, 0, 1], by omega, hs6⟩
    rintro g _ w12 ⟨ehs13, rfl, hg, hs13⟩
    obtain ⟨V, eV⟩ : ∃ x, x = extB W g := ⟨_, rfl⟩
    rw [← eV] at hs13
    have lV : V.length = 64 := by rw [eV, extB_len, lW]
    refine W_seq ?_
    refine W_seq ?_
    refine W_region ?_
    refine L0 (wanted_none rfl) rfl (y_move (v := Value.int _ _) rfl rfl) ?_
    refine L0 (wanted_none rfl) rfl (y_lt rfl rfl rfl) ?_
    refine Lnil ?_
    refine Wsp (t := 52) rfl (fun h14 => ?_) (fun h14 => ?_)
    · have h14' := h14
      first | replace h14' := of_decide_eq_true h14' | replace h14' := bnT' h14' | skip
      refine W_condT rfl h14 ?_
      refine W_skip ?_
      refine W_seq ?_
      refine W_block ?_
      refine W_seq ?_
      refine W_drawSt [(0, 0), (0, 5), (0, 11), (0, 1), (0, 6), (0, 12), (0, 2), (0, 7), (0, 13), (1, 3), (1, 8), (1, 14), (0, 15), (3, 4), (3, 9), (0, 10), (0, 16), (0, 17)] hs13 mixed (by kernel_rfl) (fun w15 hs16 => ?_)
      refine E0 (wanted_none rfl) rfl (y_move (v := Value.int _ _) rfl rfl) ?_
      refine E0 (wanted_none rfl) rfl (y_move (v := Value.int _ _) rfl rfl) ?_
      refine E0 (wanted_none rfl) rfl (y_move (v := Value.int _ _) rfl rfl) ?_
      refine E0 (wanted_none rfl) rfl (y_sub64 rfl rfl rfl (by omega)) ?_
      refine E0 (wanted_none rfl) rfl (y_sub64 rfl rfl rfl (by omega)) ?_
      refine E0 (wanted_none rfl) rfl (y_sub64 rfl rfl rfl (by omega)) ?_
      refine E0 (wanted_none rfl) rfl (y_indexArr rfl Tryd.underlying125 sz123 rfl rfl (by omega) (by omega)) ?_
      refine E0 (wanted_none rfl) rfl (y_indexArr rfl Tryd.underlying125 sz123 rfl rfl (by omega) (by omega)) ?_
      refine E0 (wanted_none rfl) rfl (y_indexArr rfl Tryd.underlying125 sz123 rfl rfl (by omega) (by omega)) ?_
      refine E1 hs16 (wanted_none rfl) rfl (y_load 0 rfl Tryd.underlying123 rfl rfl rfl (us_at (g + 1) (by omega) (by omega))) ?_
      refine E1 hs16 (wanted_none rfl) rfl (y_load 0 rfl Tryd.underlying123 rfl rfl rfl (us_at (g + 1) (by omega) (by omega))) ?_
      refine E1 hs16 (wanted_none rfl) rfl (y_load 0 rfl Tryd.underlying123 rfl rfl rfl (us_at (g + 1) (by omega) (by omega))) ?_
      refine E0 (wanted_none rfl) rfl (y_shr32 rfl rfl rfl (s := 3) (by first | rfl | omega) (by omega)) ?_
      refine E3 (wanted_none rfl) (c_call rfl rfl rfl Tryd.func151 (by kernel_rfl) rfl (rotr_any _ 7 (by omega) (by omega) w15) rfl ?_)
      rintro _ w17 ⟨rfl, hc18⟩
      have hs19 := hs16.call0 hc18
      refine ⟨fun _ => hs19, ?_⟩
      refine E3 (wanted_none rfl) (c_call rfl rfl rfl Tryd.func151 (by kernel_rfl) rfl (rotr_any _ 18 (by omega) (by omega) w17) rfl ?_)
      rintro _ w20 ⟨rfl, hc21⟩
      have hs22 := hs19.call0 hc21
      refine ⟨fun _ => hs22, ?_⟩
      refine E0 (wanted_none rfl) rfl (y_xor32 rfl rfl rfl) ?_
      refine E0 (wanted_none rfl) rfl (y_xor32 rfl rfl rfl) ?_
      refine E0 (wanted_none rfl) rfl (y_assign (v := Value.int _ _) rfl rfl) ?_
      refine Enil ?_
      refine W_seq ?_
      refine W_drawSt [(0, 0), (0, 5), (0, 11), (0, 1), (0, 6), (0, 12), (0, 2), (0, 7), (0, 13), (1, 3), (1, 8), (1, 14), (0, 15), (3, 4), (3, 9), (0, 10), (0, 16), (0, 17)] hs22 mixed (by kernel_rfl) (fun w23 hs24 => ?_)
      refine E0 (wanted_none rfl) rfl (y_move (v := Value.int _ _) rfl rfl) ?_
      refine E0 (wanted_none rfl) rfl (y_move (v := Value.int _ _) rfl rfl) ?_
      refine E0 (wanted_none rfl) rfl (y_move (v := Value.int _ _) rfl rfl) ?_
      refine E0 (wanted_none rfl) rfl (y_sub64 rfl rfl rfl (by omega)) ?_
      refine E0 (wanted_none rfl) rfl (y_sub64 rfl rfl rfl (by omega)) ?_
      refine E0 (wanted_none rfl) rfl (y_sub64 rfl rfl rfl (by omega)) ?_
      refine E0 (wanted_none rfl) rfl (y_indexArr rfl Tryd.underlying125 sz123 rfl rfl (by omega) (by omega)) ?_
      refine E0 (wanted_none rfl) rfl (y_indexArr rfl Tryd.underlying125 sz123 rfl rfl (by omega) (by omega)) ?_
      refine E0 (wanted_none rfl) rfl (y_indexArr rfl Tryd.underlying125 sz123 rfl rfl (by omega) (by omega)) ?_
      refine E1 hs24 (wanted_none rfl) rfl (y_load 0 rfl Tryd.underlying123 rfl rfl rfl (us_at (g + 14) (by omega) (by omega))) ?_
      refine E1 hs24 (wanted_none rfl) rfl (y_load 0 rfl Tryd.underlying123 rfl rfl rfl (us_at (g + 14) (by omega) (by omega))) ?_
      refine E1 hs24 (wanted_none rfl) rfl (y_load 0 rfl Tryd.underlying123 rfl rfl rfl (us_at (g + 14) (by omega) (by omega))) ?_
      refine E0 (wanted_none rfl) rfl (y_shr32 rfl rfl rfl (s := 10) (by first | rfl | omega) (by omega)) ?_
      refine E3 (wanted_none rfl) (c_call rfl rfl rfl Tryd.func151 (by kernel_rfl) rfl (rotr_any _ 17 (by omega) (by omega) w23) rfl ?_)
      rintro _ w25 ⟨rfl, hc26⟩
      have hs27 := hs24.call0 hc26
      refine ⟨fun _ => hs27, ?_⟩
      refine E3 (wanted_none rfl) (c_call rfl rfl rfl Tryd.func151 (by kernel_rfl) rfl (rotr_any _ 19 (by omega) (by omega) w25) rfl ?_)
      rintro _ w28 ⟨rfl, hc29⟩
      have hs30 := hs27.call0 hc29
      refine ⟨fun _ => hs30, ?_⟩
      refine E0 (wanted_none rfl) rfl (y_xor32 rfl rfl rfl) ?_
      refine E0 (wanted_none rfl) rfl (y_xor32 rfl rfl rfl) ?_
      refine E0 (wanted_none rfl) rfl (y_assign (v := Value.int _ _) rfl rfl) ?_
      refine Enil ?_
      refine W_drawSt [(0, 0), (0, 1), (0, 5), (0, 7), (0, 12), (0, 2), (0, 8), (0, 3), (0, 9), (1, 4), (1, 10), (0, 6), (0, 11), (0, 13), (0, 14), (2, 15)] hs30 mixed (by kernel_rfl) (fun w31 hs32 => ?_)
      refine E0 (wanted_none rfl) rfl (y_move (v := Value.int _ _) rfl rfl) ?_
      refine E0 (wanted_none rfl) rfl (y_move (v := Value.int _ _) rfl rfl) ?_
      refine E0 (wanted_none rfl) rfl (y_move (v := Value.int _ _) rfl rfl) ?_
      refine E0 (wanted_none rfl) rfl (y_move (v := Value.int _ _) rfl rfl) ?_
      refine E0 (wanted_none rfl) rfl (y_move (v := Value.int _ _) rfl rfl) ?_
      refine E0 (wanted_none rfl) rfl (y_sub64 rfl rfl rfl (by omega)) ?_
      refine E0 (wanted_none rfl) rfl (y_sub64 rfl rfl rfl (by omega)) ?_
      refine E0 (wanted_none rfl) rfl (y_indexArr rfl Tryd.underlying125 sz123 rfl rfl (by omega) (by omega)) ?_
      refine E0 (wanted_none rfl) rfl (y_indexArr rfl Tryd.underlying125 sz123 rfl rfl (by omega) (by omega)) ?_
      refine E1 hs32 (wanted_none rfl) rfl (y_load 0 rfl Tryd.underlying123 rfl rfl rfl (us_at g (by omega) (by omega))) ?_
      refine E1 hs32 (wanted_none rfl) rfl (y_load 0 rfl Tryd.underlying123 rfl rfl rfl (us_at (g + 9) (by omega) (by omega))) ?_
      refine E0 (wanted_none rfl) rfl (y_add32 rfl rfl rfl) ?_
      refine E0 (wanted_none rfl) rfl (y_add32 rfl rfl rfl) ?_
      refine E0 (wanted_none rfl) rfl (y_add32 rfl rfl rfl) ?_
      refine E0 (wanted_none rfl) rfl (y_indexArr rfl Tryd.underlying125 sz123 rfl rfl (by omega) (by omega)) ?_
      refine E2 (wanted_none rfl) (c_store (i := 0) (v := uv _) hs32 rfl rfl rfl rfl sz123 rfl rfl (by rw [us_size]; omega) (Fz.zero _) (fun w33 hs34 => ?_))
      rw [List.set_cons_zero, us_setAt _ _ (16 + g) (by omega)] at hs34
      change St w [(_, .cells (us (V.set (16 + g) (V.getD g 0 + sg0 (V.getD (g + 1) 0) + V.getD (g + 9) 0 + sg1 (V.getD (g + 14) 0)))) _ _), _] _ at hs34
      rw [eV] at hs34
      refine Enil ?_
      refine W_region ?_
      refine L0 (wanted_none rfl) rfl (y_move (v := Value.int _ _) rfl rfl) ?_
      refine L0 (wanted_none rfl) rfl (y_add64 rfl rfl rfl (by omega)) ?_
      refine L0 (wanted_none rfl) rfl (y_assign (v := Value.int _ _) rfl rfl) ?_
      refine Lnil ?_
      exact ⟨g + 1, by (try dsimp only); omega, _, A_c (iv_eq (by (try dsimp only); omega)) (A_c rfl (A_c rfl (A_c rfl (rfl)))), by omega, hs34⟩
    · have h14' := h14
      first | replace h14' := of_decide_eq_false h14' | replace h14' := bnF' h14' | skip
      refine W_condF rfl h14 ?_
      refine W_exit ?_
      refine W_seq ?_
      obtain rfl : g = 48 := by omega
      obtain ⟨E, eE⟩ : ∃ x, x = extB W 48 := ⟨_, rfl⟩
      rw [eV, ← eE] at hs13
      have lE : E.length = 64 := by rw [eE, extB_len, lW]
      refine W_region ?_
      refine L0 (wanted_none rfl) rfl (y_move (v := Value.pointer _) rfl rfl) ?_
      refine L0 (wanted_none rfl) rfl (y_nilCheck rfl rfl) ?_
      refine L1 (wanted_none rfl) rfl hs13 (y_loadN 1 rfl Tryd.underlying124 rfl sz124 rfl rfl (by first | decide | (simp; done) | (simp; omega))) ?_
      refine Lc (wanted_none rfl) (c_alloc hs13 rfl rfl zr124 (fun b35 w36 hbb35 hs37 => ?_))
      refine Lc (wanted_none rfl) (c_storeN (i := 0) hs37 rfl rfl rfl rfl sz124 (by rw [us_all hl, List.length_map, hl]) (by exact us_one') rfl (by decide) (Fz.zero _) (fun w38 hs39 => ?_))
      rw [us_all hl, List.set_cons_zero, us_over (by rw [hl]; rfl)] at hs39
      refine Lnil ?_
      refine W_seq ?_
      refine W_seq ?_
      refine W_region ?_
      refine L0 (wanted_none rfl) rfl (y_move (v := Value.int _ _) rfl rfl) ?_
      refine Lnil ?_
      refine W_block ?_
      refine W_loop (G := Nat) (fun g aL wl => ∃ e, aL = A 212 ((107, iv g) :: (9, pv b35 0) :: (4, pv b2 0) :: (0, pv bb 0) :: e) ∧ g ≤ 64 ∧ St w [(b35, .cells (us (rnds h E g)) 124 (0, 0)), (b2, .cells (us E) 125 (0, 0)), (bb, .cells (us h) 124 (0, 0))] wl) (fun g => 64 - g) (0) ?_ ?_
      · exact ⟨_, A_pins _ _ [107, 9, 4, 0], by omega, hs39⟩
      rintro g _ w40 ⟨ehs41, rfl, hg, hs41⟩
      obtain ⟨V, eV⟩ : ∃ x, x = rnds h E g := ⟨_, rfl⟩
      rw [← eV] at hs41
      have lV : V.length = 8 := by rw [eV, rnds_len _ _ hl]
      refine W_seq ?_
      refine W_region ?_
      refine L0 (wanted_none rfl) rfl (y_lt rfl rfl rfl) ?_
      refine Lnil ?_
      refine W_seq ?_
      refine Wsp (t := 108) rfl (fun h42 => ?_) (fun h42 => ?_)
      · have h42' := h42
        first | replace h42' := of_decide_eq_true h42' | replace h42' := bnT' h42' | skip
        refine W_condT rfl h42 ?_
        refine W_skip ?_
        refine W_seq ?_
        refine W_block ?_
        refine W_seq ?_
        refine W_region ?_
        refine L0 (wanted_none rfl) rfl (y_move (v := Value.int _ _) rfl rfl) ?_
        refine L0 (wanted_none rfl) rfl (y_assign (v := Value.int _ _) rfl rfl) ?_
        refine Lnil ?_
        refine W_seq ?_
        refine W_drawSt [(0, 0), (0, 3), (0, 7), (1, 1), (1, 4), (1, 8), (3, 2), (3, 5), (0, 6), (3, 9), (0, 10), (0, 11)] hs41 mixed (by kernel_rfl) (fun w43 hs44 => ?_)
        refine E0 (wanted_none rfl) rfl (y_indexArr rfl Tryd.underlying124 sz123 rfl rfl (by omega) (by omega)) ?_
        refine E0 (wanted_none rfl) rfl (y_indexArr rfl Tryd.underlying124 sz123 rfl rfl (by omega) (by omega)) ?_
        refine E0 (wanted_none rfl) rfl (y_indexArr rfl Tryd.underlying124 sz123 rfl rfl (by omega) (by omega)) ?_
        refine E1 hs44 (wanted_none rfl) rfl (y_load 0 rfl Tryd.underlying123 rfl rfl rfl (us_at 4 rfl (by omega))) ?_
        refine E1 hs44 (wanted_none rfl) rfl (y_load 0 rfl Tryd.underlying123 rfl rfl rfl (us_at 4 rfl (by omega))) ?_
        refine E1 hs44 (wanted_none rfl) rfl (y_load 0 rfl Tryd.underlying123 rfl rfl rfl (us_at 4 rfl (by omega))) ?_
        refine E3 (wanted_none rfl) (c_call rfl rfl rfl Tryd.func151 (by kernel_rfl) rfl (rotr_any _ 6 (by omega) (by omega) w43) rfl ?_)
        rintro _ w45 ⟨rfl, hc46⟩
        have hs47 := hs44.call0 hc46
        refine ⟨fun _ => hs47, ?_⟩
        refine E3 (wanted_none rfl) (c_call rfl rfl rfl Tryd.func151 (by kernel_rfl) rfl (rotr_any _ 11 (by omega) (by omega) w45) rfl ?_)
        rintro _ w48 ⟨rfl, hc49⟩
        have hs50 := hs47.call0 hc49
        refine ⟨fun _ => hs50, ?_⟩
        refine E0 (wanted_none rfl) rfl (y_xor32 rfl rfl rfl) ?_
        refine E3 (wanted_none rfl) (c_call rfl rfl rfl Tryd.func151 (by kernel_rfl) rfl (rotr_any _ 25 (by omega) (by omega) w48) rfl ?_)
        rintro _ w51 ⟨rfl, hc52⟩
        have hs53 := hs50.call0 hc52
        refine ⟨fun _ => hs53, ?_⟩
        refine E0 (wanted_none rfl) rfl (y_xor32 rfl rfl rfl) ?_
        refine E0 (wanted_none rfl) rfl (y_assign (v := Value.int _ _) rfl rfl) ?_
        refine Enil ?_
        refine W_seq ?_
        refine W_drawSt [(0, 0), (0, 2), (0, 4), (0, 6), (0, 9), (0, 12), (0, 17), (0, 21), (1, 1), (1, 5), (1, 7), (1, 10), (1, 13), (0, 18), (0, 22), (0, 3), (0, 8), (0, 11), (1, 19), (1, 23), (0, 14), (0, 15), (0, 16), (0, 20), (0, 24), (0, 25)] hs53 mixed (by kernel_rfl) (fun w54 hs55 => ?_)
        refine E0 (wanted_none rfl) rfl (y_indexArr rfl Tryd.underlying124 sz123 rfl rfl (by omega) (by omega)) ?_
        refine E0 (wanted_none rfl) rfl (y_move (v := Value.int _ _) rfl rfl) ?_
        refine E0 (wanted_none rfl) rfl (y_indexArr rfl Tryd.underlying124 sz123 rfl rfl (by omega) (by omega)) ?_
        refine E0 (wanted_none rfl) rfl (y_indexArr rfl Tryd.underlying124 sz123 rfl rfl (by omega) (by omega)) ?_
        refine E0 (wanted_none rfl) rfl (y_indexArr rfl Tryd.underlying124 sz123 rfl rfl (by omega) (by omega)) ?_
        refine E0 (wanted_none rfl) rfl (y_indexArr rfl Tryd.underlying124 sz123 rfl rfl (by omega) (by omega)) ?_
        refine E0 (wanted_none rfl) rfl (y_move (v := Value.int _ _) rfl rfl) ?_
        refine E0 (wanted_none rfl) rfl (y_move (v := Value.int _ _) rfl rfl) ?_
        refine E1 hs55 (wanted_none rfl) rfl (y_load 0 rfl Tryd.underlying123 rfl rfl rfl (us_at 7 rfl (by omega))) ?_
        refine E1 hs55 (wanted_none rfl) rfl (y_load 0 rfl Tryd.underlying123 rfl rfl rfl (us_at 4 rfl (by omega))) ?_
        refine E1 hs55 (wanted_none rfl) rfl (y_load 0 rfl Tryd.underlying123 rfl rfl rfl (us_at 5 rfl (by omega))) ?_
        refine E1 hs55 (wanted_none rfl) rfl (y_load 0 rfl Tryd.underlying123 rfl rfl rfl (us_at 4 rfl (by omega))) ?_
        refine E1 hs55 (wanted_none rfl) rfl (y_load 0 rfl Tryd.underlying123 rfl rfl rfl (us_at 6 rfl (by omega))) ?_
        refine E0 (wanted_none rfl) rfl (y_indexArr rfl Tryd.underlying125 sz123 rfl rfl (by omega) (by omega)) ?_
        refine E0 (wanted_none rfl) rfl (y_indexArr rfl Tryd.underlying125 sz123 rfl rfl (by omega) (by omega)) ?_
        refine E0 (wanted_none rfl) rfl (y_add32 rfl rfl rfl) ?_
        refine E0 (wanted_none rfl) rfl (y_and32 rfl rfl rfl) ?_
        refine E0 (wanted_none rfl) rfl (y_xorneg32 rfl rfl) ?_
        refine E1 hs55 (wanted_none rfl) rfl ((y_loadOld rfl Tryd.underlying123 rfl rfl (by rw [ix0]; exact hr.2 g (by omega)) (by have := hbb35; have := hbb2; have := hr.1; simp [keys]; omega))) ?_
        refine E1 hs55 (wanted_none rfl) rfl (y_load 1 rfl Tryd.underlying123 rfl rfl rfl (us_at g (by omega) (by omega))) ?_
        refine E0 (wanted_none rfl) rfl (y_and32 rfl rfl rfl) ?_
        refine E0 (wanted_none rfl) rfl (y_xor32 rfl rfl rfl) ?_
        refine E0 (wanted_none rfl) rfl (y_add32 rfl rfl rfl) ?_
        refine E0 (wanted_none rfl) rfl (y_add32 rfl rfl rfl) ?_
        refine E0 (wanted_none rfl) rfl (y_add32 rfl rfl rfl) ?_
        refine E0 (wanted_none rfl) rfl (y_assign (v := Value.int _ _) rfl rfl) ?_
        refine Enil ?_
        refine W_seq ?_
        refine W_drawSt [(0, 0), (0, 3), (0, 7), (1, 1), (1, 4), (1, 8), (3, 2), (3, 5), (0, 6), (3, 9), (0, 10), (0, 11)] hs55 mixed (by kernel_rfl) (fun w56 hs57 => ?_)
        refine E0 (wanted_none rfl) rfl (y_indexArr rfl Tryd.underlying124 sz123 rfl rfl (by omega) (by omega)) ?_
        refine E0 (wanted_none rfl) rfl (y_indexArr rfl Tryd.underlying124 sz123 rfl rfl (by omega) (by omega)) ?_
        refine E0 (wanted_none rfl) rfl (y_indexArr rfl Tryd.underlying124 sz123 rfl rfl (by omega) (by omega)) ?_
        refine E1 hs57 (wanted_none rfl) rfl (y_load 0 rfl Tryd.underlying123 rfl rfl rfl (us_at 0 rfl (by omega))) ?_
        refine E1 hs57 (wanted_none rfl) rfl (y_load 0 rfl Tryd.underlying123 rfl rfl rfl (us_at 0 rfl (by omega))) ?_
        refine E1 hs57 (wanted_none rfl) rfl (y_load 0 rfl Tryd.underlying123 rfl rfl rfl (us_at 0 rfl (by omega))) ?_
        refine E3 (wanted_none rfl) (c_call rfl rfl rfl Tryd.func151 (by kernel_rfl) rfl (rotr_any _ 2 (by omega) (by omega) w56) rfl ?_)
        rintro _ w58 ⟨rfl, hc59⟩
        have hs60 := hs57.call0 hc59
        refine ⟨fun _ => hs60, ?_⟩
        refine E3 (wanted_none rfl) (c_call rfl rfl rfl Tryd.func151 (by kernel_rfl) rfl (rotr_any _ 13 (by omega) (by omega) w58) rfl ?_)
        rintro _ w61 ⟨rfl, hc62⟩
        have hs63 := hs60.call0 hc62
        refine ⟨fun _ => hs63, ?_⟩
        refine E0 (wanted_none rfl) rfl (y_xor32 rfl rfl rfl) ?_
        refine E3 (wanted_none rfl) (c_call rfl rfl rfl Tryd.func151 (by kernel_rfl) rfl (rotr_any _ 22 (by omega) (by omega) w61) rfl ?_)
        rintro _ w64 ⟨rfl, hc65⟩
        have hs66 := hs63.call0 hc65
        refine ⟨fun _ => hs66, ?_⟩
        refine E0 (wanted_none rfl) rfl (y_xor32 rfl rfl rfl) ?_
        refine E0 (wanted_none rfl) rfl (y_assign (v := Value.int _ _) rfl rfl) ?_
        refine Enil ?_
        refine W_seq ?_
        refine W_region ?_
        refine L0 (wanted_none rfl) rfl (y_move (v := Value.int _ _) rfl rfl) ?_
        refine L0 (wanted_none rfl) rfl (y_indexArr rfl Tryd.underlying124 sz123 rfl rfl (by omega) (by omega)) ?_
        refine L1 (wanted_none rfl) rfl hs66 (y_load 0 rfl Tryd.underlying123 rfl rfl rfl (us_at 0 rfl (by omega))) ?_
        refine L0 (wanted_none rfl) rfl (y_indexArr rfl Tryd.underlying124 sz123 rfl rfl (by omega) (by omega)) ?_
        refine L1 (wanted_none rfl) rfl hs66 (y_load 0 rfl Tryd.underlying123 rfl rfl rfl (us_at 1 rfl (by omega))) ?_
        refine L0 (wanted_none rfl) rfl (y_and32 rfl rfl rfl) ?_
        refine L0 (wanted_none rfl) rfl (y_indexArr rfl Tryd.underlying124 sz123 rfl rfl (by omega) (by omega)) ?_
        refine L1 (wanted_none rfl) rfl hs66 (y_load 0 rfl Tryd.underlying123 rfl rfl rfl (us_at 0 rfl (by omega))) ?_
        refine L0 (wanted_none rfl) rfl (y_indexArr rfl Tryd.underlying124 sz123 rfl rfl (by omega) (by omega)) ?_
        refine L1 (wanted_none rfl) rfl hs66 (y_load 0 rfl Tryd.underlying123 rfl rfl rfl (us_at 2 rfl (by omega))) ?_
        refine L0 (wanted_none rfl) rfl (y_and32 rfl rfl rfl) ?_
        refine L0 (wanted_none rfl) rfl (y_xor32 rfl rfl rfl) ?_
        refine L0 (wanted_none rfl) rfl (y_indexArr rfl Tryd.underlying124 sz123 rfl rfl (by omega) (by omega)) ?_
        refine L1 (wanted_none rfl) rfl hs66 (y_load 0 rfl Tryd.underlying123 rfl rfl rfl (us_at 1 rfl (by omega))) ?_
        refine L0 (wanted_none rfl) rfl (y_indexArr rfl Tryd.underlying124 sz123 rfl rfl (by omega) (by omega)) ?_
        refine L1 (wanted_none rfl) rfl hs66 (y_load 0 rfl Tryd.underlying123 rfl rfl rfl (us_at 2 rfl (by omega))) ?_
        refine L0 (wanted_none rfl) rfl (y_and32 rfl rfl rfl) ?_
        refine L0 (wanted_none rfl) rfl (y_xor32 rfl rfl rfl) ?_
        refine L0 (wanted_none rfl) rfl (y_add32 rfl rfl rfl) ?_
        refine L0 (wanted_none rfl) rfl (y_assign (v := Value.int _ _) rfl rfl) ?_
        refine Lnil ?_
        refine W_region ?_
        refine L0 (wanted_none rfl) rfl (y_move (v := Value.int _ _) rfl rfl) ?_
        refine L0 (wanted_none rfl) rfl (y_move (v := Value.int _ _) rfl rfl) ?_
        refine L0 (wanted_none rfl) rfl (y_add32 rfl rfl rfl) ?_
        refine L0 (wanted_none rfl) rfl (y_indexArr rfl Tryd.underlying124 sz123 rfl rfl (by omega) (by omega)) ?_
        refine L1 (wanted_none rfl) rfl hs66 (y_load 0 rfl Tryd.underlying123 rfl rfl rfl (us_at 0 rfl (by omega))) ?_
        refine L0 (wanted_none rfl) rfl (y_indexArr rfl Tryd.underlying124 sz123 rfl rfl (by omega) (by omega)) ?_
        refine L1 (wanted_none rfl) rfl hs66 (y_load 0 rfl Tryd.underlying123 rfl rfl rfl (us_at 1 rfl (by omega))) ?_
        refine L0 (wanted_none rfl) rfl (y_indexArr rfl Tryd.underlying124 sz123 rfl rfl (by omega) (by omega)) ?_
        refine L1 (wanted_none rfl) rfl hs66 (y_load 0 rfl Tryd.underlying123 rfl rfl rfl (us_at 2 rfl (by omega))) ?_
        refine L0 (wanted_none rfl) rfl (y_indexArr rfl Tryd.underlying124 sz123 rfl rfl (by omega) (by omega)) ?_
        refine L1 (wanted_none rfl) rfl hs66 (y_load 0 rfl Tryd.underlying123 rfl rfl rfl (us_at 3 rfl (by omega))) ?_
        refine L0 (wanted_none rfl) rfl (y_move (v := Value.int _ _) rfl rfl) ?_
        refine L0 (wanted_none rfl) rfl (y_add32 rfl rfl rfl) ?_
        refine L0 (wanted_none rfl) rfl (y_indexArr rfl Tryd.underlying124 sz123 rfl rfl (by omega) (by omega)) ?_
        refine L1 (wanted_none rfl) rfl hs66 (y_load 0 rfl Tryd.underlying123 rfl rfl rfl (us_at 4 rfl (by omega))) ?_
        refine L0 (wanted_none rfl) rfl (y_indexArr rfl Tryd.underlying124 sz123 rfl rfl (by omega) (by omega)) ?_
        refine L1 (wanted_none rfl) rfl hs66 (y_load 0 rfl Tryd.underlying123 rfl rfl rfl (us_at 5 rfl (by omega))) ?_
        refine L0 (wanted_none rfl) rfl (y_indexArr rfl Tryd.underlying124 sz123 rfl rfl (by omega) (by omega)) ?_
        refine L1 (wanted_none rfl) rfl hs66 (y_load 0 rfl Tryd.underlying123 rfl rfl rfl (us_at 6 rfl (by omega))) ?_
        refine L0 (wanted_none rfl) rfl (y_buildA8 (v0 := uv _) (v1 := uv _) (v2 := uv _) (v3 := uv _) (v4 := uv _) (v5 := uv _) (v6 := uv _) (v7 := uv _) rfl Tryd.underlying124 zr124 sz123 rfl rfl rfl rfl rfl rfl rfl rfl rfl rfl rfl rfl rfl rfl rfl rfl ) ?_
        refine Lc (wanted_none rfl) (c_storeN (i := 0) hs66 rfl rfl rfl rfl sz124 (by rfl) (by simp [Value.oneCell']) rfl (by rw [us_size, lV]; decide) (Fz.zero _) (fun w67 hs68 => ?_))
        rw [List.set_cons_zero] at hs68
        change St w [(_, .cells ⟨(us V).toList.take 0 ++ (rndB V (kT.getD g 0) (E.getD g 0)).map uv ++ (us V).toList.drop (0 + ((rndB V (kT.getD g 0) (E.getD g 0)).map uv).length)⟩ _ _), _, _] _ at hs68
        rw [us_over (by rw [us_size, lV]; rfl), eV] at hs68
        refine Lnil ?_
        refine W_region ?_
        refine L0 (wanted_none rfl) rfl (y_add64 rfl rfl rfl (by omega)) ?_
        refine L0 (wanted_none rfl) rfl (y_move (v := Value.int _ _) rfl rfl) ?_
        refine Lnil ?_
        exact ⟨g + 1, by (try dsimp only); omega, _, A_c (iv_eq (by (try dsimp only); omega)) (A_c rfl (A_c rfl (A_c rfl (rfl)))), by omega, hs68⟩
      · have h42' := h42
        first | replace h42' := of_decide_eq_false h42' | replace h42' := bnF' h42' | skip
        refine W_condF rfl h42 ?_
        refine W_exit ?_
        refine W_seq ?_
        obtain rfl : g = 64 := by omega
        obtain ⟨R, eR⟩ : ∃ x, x = rnds h E 64 := ⟨_, rfl⟩
        rw [eV, ← eR] at hs41
        have lR : R.length = 8 := by rw [eR, rnds_len _ _ hl]
        refine W_region ?_
        refine L0 (wanted_none rfl) rfl (y_move (v := Value.int _ _) rfl rfl) ?_
        refine Lnil ?_
        refine W_block ?_
        refine W_loop (G := Nat) (fun g aL wl => ∃ e, aL = A 212 ((197, iv g) :: (9, pv b35 0) :: (0, pv bb 0) :: e) ∧ g ≤ 8 ∧ St w [(b35, .cells (us R) 124 (0, 0)), (b2, .cells (us E) 125 (0, 0)), (bb, .cells (us (addB h R g)) 124 (0, 0))] wl) (fun g => 8 - g) (0) ?_ ?_
        · exact ⟨_, A_pins _ _ [197, 9, 0], by omega, hs41⟩
        rintro g _ w69 ⟨ehs70, rfl, hg, hs70⟩
        have lA := addB_len h R g
        refine W_seq ?_
        refine W_region ?_
        refine L0 (wanted_none rfl) rfl (y_lt rfl rfl rfl) ?_
        refine Lnil ?_
        refine W_seq ?_
        refine Wsp (t := 198) rfl (fun h71 => ?_) (fun h71 => ?_)
        · have h71' := h71
          first | replace h71' := of_decide_eq_true h71' | replace h71' := bnT' h71' | skip
          refine W_condT rfl h71 ?_
          refine W_skip ?_
          refine W_seq ?_
          refine W_block ?_
          refine W_seq ?_
          refine W_region ?_
          refine L0 (wanted_none rfl) rfl (y_move (v := Value.int _ _) rfl rfl) ?_
          refine L0 (wanted_none rfl) rfl (y_assign (v := Value.int _ _) rfl rfl) ?_
          refine Lnil ?_
          refine W_drawSt [(0, 0), (0, 1), (0, 5), (0, 2), (0, 6), (0, 9), (0, 3), (1, 7), (1, 4), (0, 8), (0, 10), (2, 11)] hs70 mixed (by kernel_rfl) (fun w72 hs73 => ?_)
          refine E0 (wanted_none rfl) rfl (y_move (v := Value.pointer _) rfl rfl) ?_
          refine E0 (wanted_none rfl) rfl (y_move (v := Value.int _ _) rfl rfl) ?_
          refine E0 (wanted_none rfl) rfl (y_move (v := Value.int _ _) rfl rfl) ?_
          refine E0 (wanted_none rfl) rfl (y_nilCheck rfl rfl) ?_
          refine E0 (wanted_none rfl) rfl (y_indexArr rfl Tryd.underlying124 sz123 rfl rfl (by omega) (by omega)) ?_
          refine E0 (wanted_none rfl) rfl (y_nilCheck rfl rfl) ?_
          refine E0 (wanted_none rfl) rfl (y_indexArr rfl Tryd.underlying124 sz123 rfl rfl (by omega) (by omega)) ?_
          refine E1 hs73 (wanted_none rfl) rfl (y_load 0 rfl Tryd.underlying123 rfl rfl rfl (us_at g (by omega) (by omega))) ?_
          refine E1 hs73 (wanted_none rfl) rfl (y_load 2 rfl Tryd.underlying123 rfl rfl rfl (us_at g (by omega) (by omega))) ?_
          refine E0 (wanted_none rfl) rfl (y_add32 rfl rfl rfl) ?_
          refine E0 (wanted_none rfl) rfl (y_indexArr rfl Tryd.underlying124 sz123 rfl rfl (by omega) (by omega)) ?_
          refine E2 (wanted_none rfl) (c_store (i := 2) (v := uv _) hs73 rfl rfl rfl rfl sz123 rfl rfl (by rw [us_size]; omega) (Fz.zero _) (fun w74 hs75 => ?_))
          simp only [List.set_cons_succ, List.set_cons_zero] at hs75
          rw [us_setAt _ _ g (by omega)] at hs75
          refine Enil ?_
          refine W_region ?_
          refine L0 (wanted_none rfl) rfl (y_add64 rfl rfl rfl (by omega)) ?_
          refine L0 (wanted_none rfl) rfl (y_move (v := Value.int _ _) rfl rfl) ?_
          refine Lnil ?_
          exact ⟨g + 1, by (try dsimp only); omega, _, A_c (iv_eq (by (try dsimp only); omega)) (A_c rfl (A_c rfl (rfl))), by omega, hs75⟩
        · have h71' := h71
          first | replace h71' := of_decide_eq_false h71' | replace h71' := bnF' h71' | skip
          refine W_condF rfl h71 ?_
          refine W_exit ?_
          refine fin0 (fn := Tryd.f128) rfl ?_
          obtain rfl : g = 8 := by omega
          have hf : shaB h s = addB h R 8 := by rw [eR, eE, eW]; rfl
          rw [hf]
          exact ⟨rfl, (hs70.drop (.inl hbb35)).drop (.inl hbb2)⟩
end Go.Proofs.YtkolfgmpmnelmabDoor

/-
  Walks: stream.quarter.
-/
import Derived.Test.YtkolfgmpmnelmabDoorS1
import Derived.Test.YtkolfgmpmnelmabDoorP1
namespace Go.Proofs.YtkolfgmpmnelmabDoor
open Go Vx Go.Proofs
set_option linter.unusedVariables false

theorem turn_rot (x : UInt32) (s : Nat) (h0 : 0 < s) (h1 : s < 32) (w : World) :
    C Tryd.prog 177 ⟨[uv x, iv s]⟩ w fun v w' => v = uv (rot x s) ∧ St w [] w' := turn_any x s h0 h1 w

set_option maxHeartbeats 4000000 in
set_option maxRecDepth 4000 in
theorem quarter_any (cs : List UInt32) (bb a b c d : Nat) (hl : cs.length = 16) (ha : a < 16) (hb : b < 16) (hc : c < 16) (hd : d < 16) (w : World) (hw : w.heap[bb]? = some (.cells (us cs) 206 (0, 0))) :
    C Tryd.prog 150 ⟨[pv bb 0, iv a, iv b, iv c, iv d]⟩ w fun v w' => v = .tuple #[] ∧ St w [(bb, .cells (us (qr cs a b c d)) 206 (0, 0))] w' := by
  obtain ⟨s0, e0⟩ : ∃ x, x = cs := ⟨_, rfl⟩
  have l0 : s0.length = 16 := by rw [e0]; exact hl
  rw [← e0] at hw
  refine C_enter (n := 126) Tryd.func150 rfl rfl rfl (fun w1 hs1 => ?_)
  have hs2 := hs1.borrow hw (by simp [keys])
  refine W_seq ?_
  refine W_drawSt [(0, 0), (0, 1), (0, 5), (0, 6), (0, 2), (0, 7), (0, 11), (0, 3), (0, 8), (1, 4), (1, 9), (0, 10), (0, 12), (2, 13)] hs2 mixed (by kernel_rfl) (fun w2 hs3 => ?_)
  refine E0 (wanted_none rfl) rfl (y_move (v := Value.pointer _) rfl rfl) ?_
  refine E0 (wanted_none rfl) rfl (y_move (v := Value.int _ _) rfl rfl) ?_
  refine E0 (wanted_none rfl) rfl (y_move (v := Value.pointer _) rfl rfl) ?_
  refine E0 (wanted_none rfl) rfl (y_move (v := Value.int _ _) rfl rfl) ?_
  refine E0 (wanted_none rfl) rfl (y_nilCheck rfl rfl) ?_
  refine E0 (wanted_none rfl) rfl (y_nilCheck rfl rfl) ?_
  refine E0 (wanted_none rfl) rfl (y_nilCheck rfl rfl) ?_
  refine E0 (wanted_none rfl) rfl (y_indexArr rfl Tryd.underlying206 sz123 rfl rfl (by omega) (by omega)) ?_
  refine E0 (wanted_none rfl) rfl (y_indexArr rfl Tryd.underlying206 sz123 rfl rfl (by omega) (by omega)) ?_
  refine E1 hs3 (wanted_none rfl) rfl (y_load 0 rfl Tryd.underlying123 rfl rfl rfl (us_get (by omega))) ?_
  refine E1 hs3 (wanted_none rfl) rfl (y_load 0 rfl Tryd.underlying123 rfl rfl rfl (us_get (by omega))) ?_
  refine E0 (wanted_none rfl) rfl (y_add32 rfl rfl rfl) ?_
  refine E0 (wanted_none rfl) rfl (y_indexArr rfl Tryd.underlying206 sz123 rfl rfl (by omega) (by omega)) ?_
  refine E2 (wanted_none rfl) (c_store (i := 0) (v := uv _) hs3 rfl rfl rfl rfl sz123 rfl rfl (by simp only [us_size]; omega) (Fz.zero _) (fun w4 hs5 => ?_))
  rw [List.set_cons_zero, us_set] at hs5
  obtain ⟨s1, e1⟩ : ∃ x, x = addAt s0 a b := ⟨_, rfl⟩
  change St w [(bb, .cells (us (addAt s0 a b)) 206 (0, 0))] _ at hs5
  rw [← e1] at hs5
  have l1 : s1.length = 16 := by rw [e1, addAt_len]; exact l0
  refine Enil ?_
  refine W_seq ?_
  refine W_drawSt [(0, 0), (0, 1), (0, 2), (0, 3), (0, 7), (0, 8), (0, 4), (0, 9), (0, 14), (0, 5), (0, 10), (1, 6), (1, 11), (0, 12), (3, 13), (0, 15), (2, 16)] hs5 mixed (by kernel_rfl) (fun w6 hs7 => ?_)
  refine E0 (wanted_none rfl) rfl (y_move (v := Value.pointer _) rfl rfl) ?_
  refine E0 (wanted_none rfl) rfl (y_move (v := Value.int _ _) rfl rfl) ?_
  refine E0 (wanted_none rfl) rfl (y_move (v := Value.pointer _) rfl rfl) ?_
  refine E0 (wanted_none rfl) rfl (y_move (v := Value.int _ _) rfl rfl) ?_
  refine E0 (wanted_none rfl) rfl (y_move (v := Value.pointer _) rfl rfl) ?_
  refine E0 (wanted_none rfl) rfl (y_move (v := Value.int _ _) rfl rfl) ?_
  refine E0 (wanted_none rfl) rfl (y_nilCheck rfl rfl) ?_
  refine E0 (wanted_none rfl) rfl (y_nilCheck rfl rfl) ?_
  refine E0 (wanted_none rfl) rfl (y_nilCheck rfl rfl) ?_
  refine E0 (wanted_none rfl) rfl (y_indexArr rfl Tryd.underlying206 sz123 rfl rfl (by omega) (by omega)) ?_
  refine E0 (wanted_none rfl) rfl (y_indexArr rfl Tryd.underlying206 sz123 rfl rfl (by omega) (by omega)) ?_
  refine E1 hs7 (wanted_none rfl) rfl (y_load 0 rfl Tryd.underlying123 rfl rfl rfl (us_get (by omega))) ?_
  refine E1 hs7 (wanted_none rfl) rfl (y_load 0 rfl Tryd.underlying123 rfl rfl rfl (us_get (by omega))) ?_
  refine E0 (wanted_none rfl) rfl (y_xor32 rfl rfl rfl) ?_
  refine E3 (wanted_none rfl) (c_call rfl rfl rfl Tryd.func177 (by kernel_rfl) rfl (turn_rot _ 16 (by omega) (by omega) w6) rfl ?_)
  rintro _ w8 ⟨rfl, hc9⟩
  have hs10 := hs7.call0 hc9
  refine ⟨fun _ => hs10, ?_⟩
  refine E0 (wanted_none rfl) rfl (y_indexArr rfl Tryd.underlying206 sz123 rfl rfl (by omega) (by omega)) ?_
  refine E2 (wanted_none rfl) (c_store (i := 0) (v := uv _) hs10 rfl rfl rfl rfl sz123 rfl rfl (by simp only [us_size]; omega) (Fz.zero _) (fun w11 hs12 => ?_))
  rw [List.set_cons_zero, us_set] at hs12
  obtain ⟨s2, e2⟩ : ∃ x, x = rotAt s1 d a 16 := ⟨_, rfl⟩
  change St w [(bb, .cells (us (rotAt s1 d a 16)) 206 (0, 0))] _ at hs12
  rw [← e2] at hs12
  have l2 : s2.length = 16 := by rw [e2, rotAt_len]; exact l1
  refine Enil ?_
  refine W_seq ?_
  refine W_drawSt [(0, 0), (0, 1), (0, 5), (0, 6), (0, 2), (0, 7), (0, 11), (0, 3), (0, 8), (1, 4), (1, 9), (0, 10), (0, 12), (2, 13)] hs12 mixed (by kernel_rfl) (fun w13 hs14 => ?_)
  refine E0 (wanted_none rfl) rfl (y_move (v := Value.pointer _) rfl rfl) ?_
  refine E0 (wanted_none rfl) rfl (y_move (v := Value.int _ _) rfl rfl) ?_
  refine E0 (wanted_none rfl) rfl (y_move (v := Value.pointer _) rfl rfl) ?_
  refine E0 (wanted_none rfl) rfl (y_move (v := Value.int _ _) rfl rfl) ?_
  refine E0 (wanted_none rfl) rfl (y_nilCheck rfl rfl) ?_
  refine E0 (wanted_none rfl) rfl (y_nilCheck rfl rfl) ?_
  refine E0 (wanted_none rfl) rfl (y_nilCheck rfl rfl) ?_
  refine E0 (wanted_none rfl) rfl (y_indexArr rfl Tryd.underlying206 sz123 rfl rfl (by omega) (by omega)) ?_
  refine E0 (wanted_none rfl) rfl (y_indexArr rfl Tryd.underlying206 sz123 rfl rfl (by omega) (by omega)) ?_
  refine E1 hs14 (wanted_none rfl) rfl (y_load 0 rfl Tryd.underlying123 rfl rfl rfl (us_get (by omega))) ?_
  refine E1 hs14 (wanted_none rfl) rfl (y_load 0 rfl Tryd.underlying123 rfl rfl rfl (us_get (by omega))) ?_
  refine E0 (wanted_none rfl) rfl (y_add32 rfl rfl rfl) ?_
  refine E0 (wanted_none rfl) rfl (y_indexArr rfl Tryd.underlying206 sz123 rfl rfl (by omega) (by omega)) ?_
  refine E2 (wanted_none rfl) (c_store (i := 0) (v := uv _) hs14 rfl rfl rfl rfl sz123 rfl rfl (by simp only [us_size]; omega) (Fz.zero _) (fun w15 hs16 => ?_))
  rw [List.set_cons_zero, us_set] at hs16
  obtain ⟨s3, e3⟩ : ∃ x, x = addAt s2 c d := ⟨_, rfl⟩
  change St w [(bb, .cells (us (addAt s2 c d)) 206 (0, 0))] _ at hs16
  rw [← e3] at hs16
  have l3 : s3.length = 16 := by rw [e3, addAt_len]; exact l2
  refine Enil ?_
  refine W_seq ?_
  refine W_drawSt [(0, 0), (0, 1), (0, 2), (0, 3), (0, 7), (0, 8), (0, 4), (0, 9), (0, 14), (0, 5), (0, 10), (1, 6), (1, 11), (0, 12), (3, 13), (0, 15), (2, 16)] hs16 mixed (by kernel_rfl) (fun w17 hs18 => ?_)
  refine E0 (wanted_none rfl) rfl (y_move (v := Value.pointer _) rfl rfl) ?_
  refine E0 (wanted_none rfl) rfl (y_move (v := Value.int _ _) rfl rfl) ?_
  refine E0 (wanted_none rfl) rfl (y_move (v := Value.pointer _) rfl rfl) ?_
  refine E0 (wanted_none rfl) rfl (y_move (v := Value.int _ _) rfl rfl) ?_
  refine E0 (wanted_none rfl) rfl (y_move (v := Value.pointer _) rfl rfl) ?_
  refine E0 (wanted_none rfl) rfl (y_move (v := Value.int _ _) rfl rfl) ?_
  refine E0 (wanted_none rfl) rfl (y_nilCheck rfl rfl) ?_
  refine E0 (wanted_none rfl) rfl (y_nilCheck rfl rfl) ?_
  refine E0 (wanted_none rfl) rfl (y_nilCheck rfl rfl) ?_
  refine E0 (wanted_none rfl) rfl (y_indexArr rfl Tryd.underlying206 sz123 rfl rfl (by omega) (by omega)) ?_
  refine E0 (wanted_none rfl) rfl (y_indexArr rfl Tryd.underlying206 sz123 rfl rfl (by omega) (by omega)) ?_
  refine E1 hs18 (wanted_none rfl) rfl (y_load 0 rfl Tryd.underlying123 rfl rfl rfl (us_get (by omega))) ?_
  refine E1 hs18 (wanted_none rfl) rfl (y_load 0 rfl Tryd.underlying123 rfl rfl rfl (us_get (by omega))) ?_
  refine E0 (wanted_none rfl) rfl (y_xor32 rfl rfl rfl) ?_
  refine E3 (wanted_none rfl) (c_call rfl rfl rfl Tryd.func177 (by kernel_rfl) rfl (turn_rot _ 12 (by omega) (by omega) w17) rfl ?_)
  rintro _ w19 ⟨rfl, hc20⟩
  have hs21 := hs18.call0 hc20
  refine ⟨fun _ => hs21, ?_⟩
  refine E0 (wanted_none rfl) rfl (y_indexArr rfl Tryd.underlying206 sz123 rfl rfl (by omega) (by omega)) ?_
  refine E2 (wanted_none rfl) (c_store (i := 0) (v := uv _) hs21 rfl rfl rfl rfl sz123 rfl rfl (by simp only [us_size]; omega) (Fz.zero _) (fun w22 hs23 => ?_))
  rw [List.set_cons_zero, us_set] at hs23
  obtain ⟨s4, e4⟩ : ∃ x, x = rotAt s3 b c 12 := ⟨_, rfl⟩
  change St w [(bb, .cells (us (rotAt s3 b c 12)) 206 (0, 0))] _ at hs23
  rw [← e4] at hs23
  have l4 : s4.length = 16 := by rw [e4, rotAt_len]; exact l3
  refine Enil ?_
  refine W_seq ?_
  refine W_drawSt [(0, 0), (0, 1), (0, 5), (0, 6), (0, 2), (0, 7), (0, 11), (0, 3), (0, 8), (1, 4), (1, 9), (0, 10), (0, 12), (2, 13)] hs23 mixed (by kernel_rfl) (fun w24 hs25 => ?_)
  refine E0 (wanted_none rfl) rfl (y_move (v := Value.pointer _) rfl rfl) ?_
  refine E0 (wanted_none rfl) rfl (y_move (v := Value.int _ _) rfl rfl) ?_
  refine E0 (wanted_none rfl) rfl (y_move (v := Value.pointer _) rfl rfl) ?_
  refine E0 (wanted_none rfl) rfl (y_move (v := Value.int _ _) rfl rfl) ?_
  refine E0 (wanted_none rfl) rfl (y_nilCheck rfl rfl) ?_
  refine E0 (wanted_none rfl) rfl (y_nilCheck rfl rfl) ?_
  refine E0 (wanted_none rfl) rfl (y_nilCheck rfl rfl) ?_
  refine E0 (wanted_none rfl) rfl (y_indexArr rfl Tryd.underlying206 sz123 rfl rfl (by omega) (by omega)) ?_
  refine E0 (wanted_none rfl) rfl (y_indexArr rfl Tryd.underlying206 sz123 rfl rfl (by omega) (by omega)) ?_
  refine E1 hs25 (wanted_none rfl) rfl (y_load 0 rfl Tryd.underlying123 rfl rfl rfl (us_get (by omega))) ?_
  refine E1 hs25 (wanted_none rfl) rfl (y_load 0 rfl Tryd.underlying123 rfl rfl rfl (us_get (by omega))) ?_
  refine E0 (wanted_none rfl) rfl (y_add32 rfl rfl rfl) ?_
  refine E0 (wanted_none rfl) rfl (y_indexArr rfl Tryd.underlying206 sz123 rfl rfl (by omega) (by omega)) ?_
  refine E2 (wanted_none rfl) (c_store (i := 0) (v := uv _) hs25 rfl rfl rfl rfl sz123 rfl rfl (by simp only [us_size]; omega) (Fz.zero _) (fun w26 hs27 => ?_))
  rw [List.set_cons_zero, us_set] at hs27
  obtain ⟨s5, e5⟩ : ∃ x, x = addAt s4 a b := ⟨_, rfl⟩
  change St w [(bb, .cells (us (addAt s4 a b)) 206 (0, 0))] _ at hs27
  rw [← e5] at hs27
  have l5 : s5.length = 16 := by rw [e5, addAt_len]; exact l4
  refine Enil ?_
  refine W_seq ?_
  refine W_drawSt [(0, 0), (0, 1), (0, 2), (0, 3), (0, 7), (0, 8), (0, 4), (0, 9), (0, 14), (0, 5), (0, 10), (1, 6), (1, 11), (0, 12), (3, 13), (0, 15), (2, 16)] hs27 mixed (by kernel_rfl) (fun w28 hs29 => ?_)
  refine E0 (wanted_none rfl) rfl (y_move (v := Value.pointer _) rfl rfl) ?_
  refine E0 (wanted_none rfl) rfl (y_move (v := Value.int _ _) rfl rfl) ?_
  refine E0 (wanted_none rfl) rfl (y_move (v := Value.pointer _) rfl rfl) ?_
  refine E0 (wanted_none rfl) rfl (y_move (v := Value.int _ _) rfl rfl) ?_
  refine E0 (wanted_none rfl) rfl (y_move (v := Value.pointer _) rfl rfl) ?_
  refine E0 (wanted_none rfl) rfl (y_move (v := Value.int _ _) rfl rfl) ?_
  refine E0 (wanted_none rfl) rfl (y_nilCheck rfl rfl) ?_
  refine E0 (wanted_none rfl) rfl (y_nilCheck rfl rfl) ?_
  refine E0 (wanted_none rfl) rfl (y_nilCheck rfl rfl) ?_
  refine E0 (wanted_none rfl) rfl (y_indexArr rfl Tryd.underlying206 sz123 rfl rfl (by omega) (by omega)) ?_
  refine E0 (wanted_none rfl) rfl (y_indexArr rfl Tryd.underlying206 sz123 rfl rfl (by omega) (by omega)) ?_
  refine E1 hs29 (wanted_none rfl) rfl (y_load 0 rfl Tryd.underlying123 rfl rfl rfl (us_get (by omega))) ?_
  refine E1 hs29 (wanted_none rfl) rfl (y_load 0 rfl Tryd.underlying123 rfl rfl rfl (us_get (by omega))) ?_
  refine E0 (wanted_none rfl) rfl (y_xor32 rfl rfl rfl) ?_
  refine E3 (wanted_none rfl) (c_call rfl rfl rfl Tryd.func177 (by kernel_rfl) rfl (turn_rot _ 8 (by omega) (by omega) w28) rfl ?_)
  rintro _ w30 ⟨rfl, hc31⟩
  have hs32 := hs29.call0 hc31
  refine ⟨fun _ => hs32, ?_⟩
  refine E0 (wanted_none rfl) rfl (y_indexArr rfl Tryd.underlying206 sz123 rfl rfl (by omega) (by omega)) ?_
  refine E2 (wanted_none rfl) (c_store (i := 0) (v := uv _) hs32 rfl rfl rfl rfl sz123 rfl rfl (by simp only [us_size]; omega) (Fz.zero _) (fun w33 hs34 => ?_))
  rw [List.set_cons_zero, us_set] at hs34
  obtain ⟨s6, e6⟩ : ∃ x, x = rotAt s5 d a 8 := ⟨_, rfl⟩
  change St w [(bb, .cells (us (rotAt s5 d a 8)) 206 (0, 0))] _ at hs34
  rw [← e6] at hs34
  have l6 : s6.length = 16 := by rw [e6, rotAt_len]; exact l5
  refine Enil ?_
  refine W_seq ?_
  refine W_drawSt [(0, 0), (0, 1), (0, 5), (0, 6), (0, 2), (0, 7), (0, 11), (0, 3), (0, 8), (1, 4), (1, 9), (0, 10), (0, 12), (2, 13)] hs34 mixed (by kernel_rfl) (fun w35 hs36 => ?_)
  refine E0 (wanted_none rfl) rfl (y_move (v := Value.pointer _) rfl rfl) ?_
  refine E0 (wanted_none rfl) rfl (y_move (v := Value.int _ _) rfl rfl) ?_
  refine E0 (wanted_none rfl) rfl (y_move (v := Value.pointer _) rfl rfl) ?_
  refine E0 (wanted_none rfl) rfl (y_move (v := Value.int _ _) rfl rfl) ?_
  refine E0 (wanted_none rfl) rfl (y_nilCheck rfl rfl) ?_
  refine E0 (wanted_none rfl) rfl (y_nilCheck rfl rfl) ?_
  refine E0 (wanted_none rfl) rfl (y_nilCheck rfl rfl) ?_
  refine E0 (wanted_none rfl) rfl (y_indexArr rfl Tryd.underlying206 sz123 rfl rfl (by omega) (by omega)) ?_
  refine E0 (wanted_none rfl) rfl (y_indexArr rfl Tryd.underlying206 sz123 rfl rfl (by omega) (by omega)) ?_
  refine E1 hs36 (wanted_none rfl) rfl (y_load 0 rfl Tryd.underlying123 rfl rfl rfl (us_get (by omega))) ?_
  refine E1 hs36 (wanted_none rfl) rfl (y_load 0 rfl Tryd.underlying123 rfl rfl rfl (us_get (by omega))) ?_
  refine E0 (wanted_none rfl) rfl (y_add32 rfl rfl rfl) ?_
  refine E0 (wanted_none rfl) rfl (y_indexArr rfl Tryd.underlying206 sz123 rfl rfl (by omega) (by omega)) ?_
  refine E2 (wanted_none rfl) (c_store (i := 0) (v := uv _) hs36 rfl rfl rfl rfl sz123 rfl rfl (by simp only [us_size]; omega) (Fz.zero _) (fun w37 hs38 => ?_))
  rw [List.set_cons_zero, us_set] at hs38
  obtain ⟨s7, e7⟩ : ∃ x, x = addAt s6 c d := ⟨_, rfl⟩
  change St w [(bb, .cells (us (addAt s6 c d)) 206 (0, 0))] _ at hs38
  rw [← e7] at hs38
  have l7 : s7.length = 16 := by rw [e7, addAt_len]; exact l6
  refine Enil ?_
  refine W_drawSt [(0, 0), (0, 1), (0, 2), (0, 3), (0, 7), (0, 8), (0, 4), (0, 9), (0, 14), (0, 5), (0, 10), (1, 6), (1, 11), (0, 12), (3, 13), (0, 15), (2, 16)] hs38 mixed (by kernel_rfl) (fun w39 hs40 => ?_)
  refine E0 (wanted_none rfl) rfl (y_move (v := Value.pointer _) rfl rfl) ?_
  refine E0 (wanted_none rfl) rfl (y_move (v := Value.int _ _) rfl rfl) ?_
  refine E0 (wanted_none rfl) rfl (y_move (v := Value.pointer _) rfl rfl) ?_
  refine E0 (wanted_none rfl) rfl (y_move (v := Value.int _ _) rfl rfl) ?_
  refine E0 (wanted_none rfl) rfl (y_move (v := Value.pointer _) rfl rfl) ?_
  refine E0 (wanted_none rfl) rfl (y_move (v := Value.int _ _) rfl rfl) ?_
  refine E0 (wanted_none rfl) rfl (y_nilCheck rfl rfl) ?_
  refine E0 (wanted_none rfl) rfl (y_nilCheck rfl rfl) ?_
  refine E0 (wanted_none rfl) rfl (y_nilCheck rfl rfl) ?_
  refine E0 (wanted_none rfl) rfl (y_indexArr rfl Tryd.underlying206 sz123 rfl rfl (by omega) (by omega)) ?_
  refine E0 (wanted_none rfl) rfl (y_indexArr rfl Tryd.underlying206 sz123 rfl rfl (by omega) (by omega)) ?_
  refine E1 hs40 (wanted_none rfl) rfl (y_load 0 rfl Tryd.underlying123 rfl rfl rfl (us_get (by omega))) ?_
  refine E1 hs40 (wanted_none rfl) rfl (y_load 0 rfl Tryd.underlying123 rfl rfl rfl (us_get (by omega))) ?_
  refine E0 (wanted_none rfl) rfl (y_xor32 rfl rfl rfl) ?_
  refine E3 (wanted_none rfl) (c_call rfl rfl rfl Tryd.func177 (by kernel_rfl) rfl (turn_rot _ 7 (by omega) (by omega) w39) rfl ?_)
  rintro _ w41 ⟨rfl, hc42⟩
  have hs43 := hs40.call0 hc42
  refine ⟨fun _ => hs43, ?_⟩
  refine E0 (wanted_none rfl) rfl (y_indexArr rfl Tryd.underlying206 sz123 rfl rfl (by omega) (by omega)) ?_
  refine E2 (wanted_none rfl) (c_store (i := 0) (v := uv _) hs43 rfl rfl rfl rfl sz123 rfl rfl (by simp only [us_size]; omega) (Fz.zero _) (fun w44 hs45 => ?_))
  rw [List.set_cons_zero, us_set] at hs45
  obtain ⟨s8, e8⟩ : ∃ x, x = rotAt s7 b c 7 := ⟨_, rfl⟩
  change St w [(bb, .cells (us (rotAt s7 b c 7)) 206 (0, 0))] _ at hs45
  rw [← e8] at hs45
  have l8 : s8.length = 16 := by rw [e8, rotAt_len]; exact l7
  refine Enil ?_
  refine fin0 (fn := Tryd.f150) rfl ?_
  refine ⟨rfl, ?_⟩; rw [e8, e7, e6, e5, e4, e3, e2, e1, e0] at hs45; exact hs45
end Go.Proofs.YtkolfgmpmnelmabDoor

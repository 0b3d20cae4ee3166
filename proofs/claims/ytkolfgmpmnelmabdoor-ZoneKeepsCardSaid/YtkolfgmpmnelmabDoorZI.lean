/-
  Walks: a spent fuse; (*zone.Device).Reset, Fuse.
-/
import Derived.Test.YtkolfgmpmnelmabDoorZH
namespace Go.Proofs.YtkolfgmpmnelmabDoor
open Go Vx Go.Proofs
set_option linter.unusedVariables false
set_option maxRecDepth 4000
set_option maxHeartbeats 400000

theorem burn_zero (b : Nat) (vz : Nat → Value) (sure : Nat → Nat) (slot : Nat → List UInt8) (vw : Value) (w : World) (hd : w.heap[b]? = some (.cells ⟨dcells vz sure slot vw 0⟩ 104 (0, 0))) :
    C Tryd.prog 67 ⟨[pv b 0]⟩ w fun v w' => v = .bool false ∧ St w [] w' := by
  have hc : w.cell? ⟨b, 0 + 19, none⟩ = some (iv 0) := by rw [cell_of_has hd]; rfl
  refine C_enter (n := 20) Tryd.func67 rfl rfl rfl (fun w1 hs1 => ?_)
  refine W_seq ?_
  refine W_region ?_
  refine L0 (wanted_none rfl) rfl (y_assign (v := Value.bool _) rfl rfl) ?_
  refine Lnil ?_
  refine W_seq ?_
  refine W_seq ?_
  refine W_region ?_
  refine L0 (wanted_none rfl) rfl (y_move (v := Value.pointer _) rfl rfl) ?_
  refine L0 (wanted_none rfl) rfl (y_nilCheck rfl rfl) ?_
  refine L0 (wanted_none rfl) rfl (y_fieldAddr rfl Tryd.underlying104 rfl sz3 rfl) ?_
  refine L1 (wanted_none rfl) rfl hs1 ((y_loadOld rfl Tryd.underlying3 rfl rfl hc (by simp [keys]))) ?_
  refine L0 (wanted_none rfl) rfl (y_gt rfl rfl rfl) ?_
  refine Lnil ?_
  refine Wkn (t := 7) (b0 := false) rfl (by rfl) (fun h2 => ?_)
  refine W_condF rfl h2 ?_
  refine W_skip ?_
  refine W_seq ?_
  refine W_region ?_
  refine L0 (wanted_none rfl) rfl (y_move (v := Value.pointer _) rfl rfl) ?_
  refine L0 (wanted_none rfl) rfl (y_nilCheck rfl rfl) ?_
  refine L0 (wanted_none rfl) rfl (y_fieldAddr rfl Tryd.underlying104 rfl sz3 rfl) ?_
  refine L1 (wanted_none rfl) rfl hs1 ((y_loadOld rfl Tryd.underlying3 rfl rfl hc (by simp [keys]))) ?_
  refine L0 (wanted_none rfl) rfl (y_lt rfl rfl rfl) ?_
  refine L0 (wanted_none rfl) rfl (y_assign (v := Value.bool _) rfl rfl) ?_
  refine Lnil ?_
  refine W_ret ?_
  refine fin1 (fn := Tryd.f67) rfl rfl ?_
  exact ⟨rfl, hs1⟩
section
variable (b : Nat) (vz : Nat → Value) (sure : Nat → Nat) (slot : Nat → List UInt8) (vw : Value) (w : World) (hd : w.heap[b]? = some (.cells ⟨dcells vz sure slot vw 0⟩ 104 (0, 0)))
include hd
theorem app_e14 (i : Int) (s : List UInt8) (h0 : 0 ≤ i) (h1 : i < 8) (hs : s.length ≤ 128) (l : List (List UInt8)) (hz : Sl w (vz i.toNat) l.length (zstrs l)) (hl : l.length ≠ 16) : C Tryd.prog 15 ⟨[pv b 0, iv i, str s]⟩ w fun v w' => v = .tuple #[iv 0, .iface 35 (iv 14)] ∧ St w [] w' := by
  refine C_enter (n := 60) Tryd.func15 rfl rfl rfl (fun w1 hs1 => ?_)
  refine W_seq ?_
  refine W_region ?_
  refine L0 (wanted_none rfl) rfl (y_assign (v := Value.int _ _) rfl rfl) ?_
  refine L0 (wanted_none rfl) rfl (y_assign (v := Value.nilIface) rfl rfl) ?_
  refine Lnil ?_
  refine W_seq ?_
  refine W_block ?_
  refine W_seq ?_
  refine W_region ?_
  refine L0 (wanted_none rfl) rfl (y_move (v := Value.int _ _) rfl rfl) ?_
  refine L0 (wanted_none rfl) rfl (y_lt rfl rfl rfl) ?_
  refine L0 (wanted_none rfl) rfl (y_move (v := Value.bool _) rfl rfl) ?_
  refine Lkn (t := 11) (b0 := false) rfl (by first | exact decide_eq_false (by omega) | exact bnF (by omega) | (simp; omega)) (fun h2 => ?_)
  refine L0 (wanted_yesB rfl rfl rfl h2) rfl (y_move (v := Value.int _ _) rfl rfl) ?_
  refine L0 (wanted_yesB rfl rfl rfl h2) rfl (y_ge rfl rfl rfl) ?_
  refine L0 (wanted_none rfl) rfl (y_pickF rfl rfl h2 rfl) ?_
  refine L0 (wanted_none rfl) rfl (y_assign (v := Value.bool _) rfl rfl) ?_
  refine Lnil ?_
  refine Wkn (t := 8) (b0 := false) rfl (by first | exact decide_eq_false (by omega) | exact bnF (by omega) | (simp; omega)) (fun h3 => ?_)
  refine W_condF rfl h3 ?_
  refine W_seq ?_
  refine W_region ?_
  refine L0 (wanted_none rfl) rfl (y_move (v := Value.string ⟨⟨_⟩⟩) rfl rfl) ?_
  refine L0 (wanted_none rfl) rfl (y_len rfl Tryd.underlying9 rfl) ?_
  refine L0 (wanted_none rfl) rfl (y_gt rfl rfl rfl) ?_
  refine L0 (wanted_none rfl) rfl (y_assign (v := Value.bool _) rfl rfl) ?_
  refine Lnil ?_
  refine Wkn (t := 16) (b0 := false) rfl (by first | exact decide_eq_false (by omega) | exact bnF (by omega) | (simp; omega)) (fun h4 => ?_)
  refine W_condF rfl h4 ?_
  refine W_seq ?_
  refine W_region ?_
  refine L0 (wanted_none rfl) rfl (y_move (v := Value.pointer _) rfl rfl) ?_
  refine L0 (wanted_none rfl) rfl (y_move (v := Value.int _ _) rfl rfl) ?_
  refine L0 (wanted_none rfl) rfl (y_nilCheck rfl rfl) ?_
  refine L0 (wanted_none rfl) rfl (y_fieldAddr rfl Tryd.underlying104 rfl sz29 rfl) ?_
  refine L0 (wanted_none rfl) rfl (y_indexArr rfl Tryd.underlying29 sz22 rfl rfl (by omega) (by omega)) ?_
  refine L1 (wanted_none rfl) rfl hs1 ((y_loadOld rfl Tryd.underlying22 rfl rfl (dc_old hd (dc_z _ _ _ _ _ h0 h1)) (by simp [keys]))) ?_
  refine L0 (wanted_none rfl) rfl (y_slenSl rfl Tryd.underlying22 rfl hz) ?_
  refine L0 (wanted_none rfl) rfl (y_eq rfl rfl rfl) ?_
  refine L0 (wanted_none rfl) rfl (y_assign (v := Value.bool _) rfl rfl) ?_
  refine Lnil ?_
  refine Wkn (t := 21) (b0 := false) rfl (by exact decide_eq_false (by omega)) (fun h5 => ?_)
  refine W_condF rfl h5 ?_
  refine W_seq ?_
  refine W_region ?_
  refine L0 (wanted_none rfl) rfl (y_move (v := Value.pointer _) rfl rfl) ?_
  refine Lc (wanted_none rfl) (c_call rfl rfl rfl Tryd.func67 (by kernel_rfl) rfl (burn_zero b _ _ _ _ w1 ((hs1.fr b (lt_of_has hd) (by simp [keys])).trans hd)) rfl ?_)
  rintro _ w6 ⟨rfl, hc7⟩
  have hs8 := hs1.call0 hc7
  refine L0 (wanted_none rfl) rfl (y_not rfl rfl) ?_
  refine L0 (wanted_none rfl) rfl (y_assign (v := Value.bool _) rfl rfl) ?_
  refine Lnil ?_
  refine Wkn (t := 31) (b0 := true) rfl (by rfl) (fun h9 => ?_)
  refine W_condT rfl h9 ?_
  refine W_seq ?_
  refine W_region ?_
  refine L0 (wanted_none rfl) rfl (y_mkif rfl Tryd.underlying35 rfl rfl) ?_
  refine L0 (wanted_none rfl) rfl (y_assign (v := Value.int _ _) rfl rfl) ?_
  refine L0 (wanted_none rfl) rfl (y_assign (v := Value.iface _ _) rfl rfl) ?_
  refine Lnil ?_
  refine W_ret ?_
  refine fin2 (fn := Tryd.f15) rfl rfl rfl ?_
  exact ⟨rfl, hs8⟩
theorem sync_e14 : C Tryd.prog 38 ⟨[pv b 0]⟩ w fun v w' => v = .iface 35 (iv 14) ∧ St w [] w' := by
  refine C_enter (n := 47) Tryd.func38 rfl rfl rfl (fun w1 hs1 => ?_)
  refine W_seq ?_
  refine W_region ?_
  refine L0 (wanted_none rfl) rfl (y_assign (v := Value.nilIface) rfl rfl) ?_
  refine Lnil ?_
  refine W_seq ?_
  refine W_seq ?_
  refine W_region ?_
  refine L0 (wanted_none rfl) rfl (y_move (v := Value.pointer _) rfl rfl) ?_
  refine Lc (wanted_none rfl) (c_call rfl rfl rfl Tryd.func67 (by kernel_rfl) rfl (burn_zero b _ _ _ _ w1 ((hs1.fr b (lt_of_has hd) (by simp [keys])).trans hd)) rfl ?_)
  rintro _ w2 ⟨rfl, hc3⟩
  have hs4 := hs1.call0 hc3
  refine L0 (wanted_none rfl) rfl (y_not rfl rfl) ?_
  refine Lnil ?_
  refine Wkn (t := 8) (b0 := true) rfl (by rfl) (fun h5 => ?_)
  refine W_condT rfl h5 ?_
  refine W_seq ?_
  refine W_region ?_
  refine L0 (wanted_none rfl) rfl (y_mkif rfl Tryd.underlying35 rfl rfl) ?_
  refine L0 (wanted_none rfl) rfl (y_assign (v := Value.iface _ _) rfl rfl) ?_
  refine Lnil ?_
  refine W_ret ?_
  refine fin1 (fn := Tryd.f38) rfl rfl ?_
  exact ⟨rfl, hs4⟩
theorem reset_e14 (i : Int) (h0 : 0 ≤ i) (h1 : i < 8) : C Tryd.prog 34 ⟨[pv b 0, iv i]⟩ w fun v w' => v = .iface 35 (iv 14) ∧ St w [] w' := by
  refine C_enter (n := 28) Tryd.func34 rfl rfl rfl (fun w1 hs1 => ?_)
  refine W_seq ?_
  refine W_region ?_
  refine L0 (wanted_none rfl) rfl (y_assign (v := Value.nilIface) rfl rfl) ?_
  refine Lnil ?_
  refine W_seq ?_
  refine W_block ?_
  refine W_seq ?_
  refine W_region ?_
  refine L0 (wanted_none rfl) rfl (y_move (v := Value.int _ _) rfl rfl) ?_
  refine L0 (wanted_none rfl) rfl (y_lt rfl rfl rfl) ?_
  refine L0 (wanted_none rfl) rfl (y_move (v := Value.bool _) rfl rfl) ?_
  refine Lkn (t := 8) (b0 := false) rfl (by first | exact decide_eq_false (by omega) | exact bnF (by omega) | (simp; omega)) (fun h2 => ?_)
  refine L0 (wanted_yesB rfl rfl rfl h2) rfl (y_move (v := Value.int _ _) rfl rfl) ?_
  refine L0 (wanted_yesB rfl rfl rfl h2) rfl (y_ge rfl rfl rfl) ?_
  refine L0 (wanted_none rfl) rfl (y_pickF rfl rfl h2 rfl) ?_
  refine L0 (wanted_none rfl) rfl (y_assign (v := Value.bool _) rfl rfl) ?_
  refine Lnil ?_
  refine Wkn (t := 5) (b0 := false) rfl (by first | exact decide_eq_false (by omega) | exact bnF (by omega) | (simp; omega)) (fun h3 => ?_)
  refine W_condF rfl h3 ?_
  refine W_seq ?_
  refine W_region ?_
  refine L0 (wanted_none rfl) rfl (y_move (v := Value.pointer _) rfl rfl) ?_
  refine Lc (wanted_none rfl) (c_call rfl rfl rfl Tryd.func67 (by kernel_rfl) rfl (burn_zero b _ _ _ _ w1 ((hs1.fr b (lt_of_has hd) (by simp [keys])).trans hd)) rfl ?_)
  rintro _ w4 ⟨rfl, hc5⟩
  have hs6 := hs1.call0 hc5
  refine L0 (wanted_none rfl) rfl (y_not rfl rfl) ?_
  refine L0 (wanted_none rfl) rfl (y_assign (v := Value.bool _) rfl rfl) ?_
  refine Lnil ?_
  refine Wkn (t := 13) (b0 := true) rfl (by rfl) (fun h7 => ?_)
  refine W_condT rfl h7 ?_
  refine W_seq ?_
  refine W_region ?_
  refine L0 (wanted_none rfl) rfl (y_mkif rfl Tryd.underlying35 rfl rfl) ?_
  refine L0 (wanted_none rfl) rfl (y_assign (v := Value.iface _ _) rfl rfl) ?_
  refine Lnil ?_
  refine W_ret ?_
  refine fin1 (fn := Tryd.f34) rfl rfl ?_
  exact ⟨rfl, hs6⟩
end
theorem reset_ok {W0 : World} {K : Blocks} {b : Nat} {D : Dv} {w : World} {vz : Nat → Value} {vw : Value} {went rows : Blocks} (h : DSt W0 K b D w vz vw went rows) (hf : D.fuse < 0) (i : Int) (h0 : 0 ≤ i) (h1 : i < 8) :
    C Tryd.prog 34 ⟨[pv b 0, iv i]⟩ w fun v w' => ∃ vz', v = .nilIface ∧ DSt W0 K b { D with z := updF D.z i.toNat [], sure := updF D.sure i.toNat 0 } w' vz' vw went rows := by
  refine C_enter (n := 28) Tryd.func34 rfl rfl rfl (fun w1 hs1 => ?_)
  have hs0 := (h.st.call0 hs1).perm List.perm_middle
  refine W_seq ?_
  refine W_region ?_
  refine L0 (wanted_none rfl) rfl (y_assign (v := Value.nilIface) rfl rfl) ?_
  refine Lnil ?_
  refine W_seq ?_
  refine W_block ?_
  refine W_seq ?_
  refine W_region ?_
  refine L0 (wanted_none rfl) rfl (y_move (v := Value.int _ _) rfl rfl) ?_
  refine L0 (wanted_none rfl) rfl (y_lt rfl rfl rfl) ?_
  refine L0 (wanted_none rfl) rfl (y_move (v := Value.bool _) rfl rfl) ?_
  refine Lkn (t := 8) (b0 := false) rfl (by first | exact decide_eq_false (by omega) | exact bnF (by omega) | (simp; omega)) (fun h2 => ?_)
  refine L0 (wanted_yesB rfl rfl rfl h2) rfl (y_move (v := Value.int _ _) rfl rfl) ?_
  refine L0 (wanted_yesB rfl rfl rfl h2) rfl (y_ge rfl rfl rfl) ?_
  refine L0 (wanted_none rfl) rfl (y_pickF rfl rfl h2 rfl) ?_
  refine L0 (wanted_none rfl) rfl (y_assign (v := Value.bool _) rfl rfl) ?_
  refine Lnil ?_
  refine Wkn (t := 5) (b0 := false) rfl (by first | exact decide_eq_false (by omega) | exact bnF (by omega) | (simp; omega)) (fun h3 => ?_)
  refine W_condF rfl h3 ?_
  refine W_seq ?_
  refine W_region ?_
  refine L0 (wanted_none rfl) rfl (y_move (v := Value.pointer _) rfl rfl) ?_
  refine Lc (wanted_none rfl) (c_call rfl rfl rfl Tryd.func67 (by kernel_rfl) rfl (burn_neg b _ _ _ _ _ hf w1 (hs0.get 0 rfl)) rfl ?_)
  rintro _ w4 ⟨rfl, hc5⟩
  have hs6 := hs0.call0 hc5
  refine L0 (wanted_none rfl) rfl (y_not rfl rfl) ?_
  refine L0 (wanted_none rfl) rfl (y_assign (v := Value.bool _) rfl rfl) ?_
  refine Lnil ?_
  refine Wkn (t := 13) (b0 := false) rfl (by rfl) (fun h7 => ?_)
  refine W_condF rfl h7 ?_
  refine W_skip ?_
  refine W_seq ?_
  refine W_drawSt [(0, 0), (0, 1), (0, 2), (0, 3), (0, 4), (0, 8), (0, 5), (0, 9), (0, 6), (2, 7), (0, 10), (2, 11)] hs6 mixed (by kernel_rfl) (fun w8 hs9 => ?_)
  refine E0 (wanted_none rfl) rfl (y_move (v := Value.pointer _) rfl rfl) ?_
  refine E0 (wanted_none rfl) rfl (y_move (v := Value.int _ _) rfl rfl) ?_
  refine E0 (wanted_none rfl) rfl (y_move (v := Value.pointer _) rfl rfl) ?_
  refine E0 (wanted_none rfl) rfl (y_move (v := Value.int _ _) rfl rfl) ?_
  refine E0 (wanted_none rfl) rfl (y_nilCheck rfl rfl) ?_
  refine E0 (wanted_none rfl) rfl (y_nilCheck rfl rfl) ?_
  refine E0 (wanted_none rfl) rfl (y_fieldAddr rfl Tryd.underlying104 rfl sz29 rfl) ?_
  refine E0 (wanted_none rfl) rfl (y_fieldAddr rfl Tryd.underlying104 rfl sz101 rfl) ?_
  refine E0 (wanted_none rfl) rfl (y_indexArr rfl Tryd.underlying29 sz22 rfl rfl (by omega) (by omega)) ?_
  refine E2 (wanted_none rfl) (c_store (i := 0) (v := .slice none 0 0) hs9 rfl rfl rfl rfl sz22 rfl rfl (by (show 0 + 0 + i.toNat * 1 < 20; omega)) (Fz.zero _) (fun w10 hs11 => ?_))
  have hs11 := hs11.at0 (dc_setz _ _ _ _ _ h0 h1 _)
  refine E0 (wanted_none rfl) rfl (y_indexArr rfl Tryd.underlying101 sz3 rfl rfl (by omega) (by omega)) ?_
  refine E2 (wanted_none rfl) (c_store (i := 0) (v := iv 0) hs11 rfl rfl rfl rfl sz3 rfl rfl (by (show 0 + 8 + i.toNat * 1 < 20; omega)) (Fz.zero _) (fun w12 hs13 => ?_))
  have hs13 := hs13.at0 (dc_sets _ _ _ _ _ h0 h1 0)
  refine Enil ?_
  refine W_seq ?_
  refine W_region ?_
  refine L0 (wanted_none rfl) rfl (y_assign (v := Value.nilIface) rfl rfl) ?_
  refine Lnil ?_
  refine W_ret ?_
  refine fin1 (fn := Tryd.f34) rfl rfl ?_
  exact ⟨updF vz i.toNat (.slice none 0 0), rfl, hs13.re (fun a => by simp only [ct_append, ct_cons]; omega), updR h.rz (RowIn.nil _), h.rw, h.newb, h.newr⟩
theorem fuse_ok {W0 : World} {K : Blocks} {b : Nat} {D : Dv} {w : World} {vz : Nat → Value} {vw : Value} {went rows : Blocks} (h : DSt W0 K b D w vz vw went rows) (n : Int) :
    C Tryd.prog 40 ⟨[pv b 0, iv n]⟩ w fun v w' => v = .tuple #[] ∧ DSt W0 K b { D with fuse := max n (-1) } w' vz vw went rows := by
  refine C_enter (n := 9) Tryd.func40 rfl rfl rfl (fun w1 hs1 => ?_)
  have hs0 := (h.st.call0 hs1).perm List.perm_middle
  refine W_region ?_
  refine L0 (wanted_none rfl) rfl (y_move (v := Value.pointer _) rfl rfl) ?_
  refine L0 (wanted_none rfl) rfl (y_move (v := Value.int _ _) rfl rfl) ?_
  refine L0 (wanted_none rfl) rfl (y_max rfl rfl rfl) ?_
  refine L0 (wanted_none rfl) rfl (y_nilCheck rfl rfl) ?_
  refine L0 (wanted_none rfl) rfl (y_fieldAddr rfl Tryd.underlying104 rfl sz3 rfl) ?_
  refine Lc (wanted_none rfl) (c_store (i := 0) (v := iv (max n (-1))) hs0 rfl rfl rfl rfl sz3 rfl rfl (by (show 19 < 20; omega)) (Fz.zero _) (fun w2 hs3 => ?_))
  have hs3 := hs3.at0 (c' := ⟨dcells vz D.sure D.slot vw (max n (-1))⟩) rfl
  refine Lnil ?_
  refine fin0 (fn := Tryd.f40) rfl ?_
  exact ⟨rfl, hs3.re (fun a => by simp only [ct_append, ct_cons]; omega), h.rz, h.rw, h.newb, h.newr⟩
end Go.Proofs.YtkolfgmpmnelmabDoor

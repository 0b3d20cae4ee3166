/-
  Walks: the device with any fuse.
-/
import Derived.Test.YtkolfgmpmnelmabDoorZI
namespace Go.Proofs.YtkolfgmpmnelmabDoor
open Go Vx Go.Proofs
set_option linter.unusedVariables false
set_option maxRecDepth 4000
set_option maxHeartbeats 400000

def burnF (f : Int) : Int := if 0 < f then f - 1 else f
theorem burn_pos {W0 : World} {K : Blocks} {b : Nat} {D : Dv} {w : World} {vz : Nat → Value} {vw : Value} {went rows : Blocks} (h : DSt W0 K b D w vz vw went rows) (hr : D.fuse ≤ 9223372036854775807) (hf : 0 < D.fuse) :
    C Tryd.prog 67 ⟨[pv b 0]⟩ w fun v w' => v = .bool (decide (D.fuse ≠ 0)) ∧ DSt W0 K b { D with fuse := burnF D.fuse } w' vz vw went rows := by
  refine C_enter (n := 20) Tryd.func67 rfl rfl rfl (fun w1 hs1 => ?_)
  have hs0 := (h.st.call0 hs1).perm List.perm_middle
  refine W_seq ?_
  refine W_region ?_
  refine L0 (wanted_none rfl) rfl (y_assign (v := Value.bool _) rfl rfl) ?_
  refine Lnil ?_
  refine W_seq ?_
  refine W_seq ?_
  refine W_region ?_
  refine L0 (wanted_none rfl) rfl (y_move (v := Value.pointer _) rfl rfl) ?_
  refine L0 (wanted_none rfl) rfl (y_nilCheck rfl rfl) ?_
  refine L0 (wanted_none rfl) rfl (y_fieldAddr rfl Tryd.underlying104 rfl sz3 rfl) ?_
  refine L1 (wanted_none rfl) rfl hs0 (y_load 0 rfl Tryd.underlying3 rfl rfl rfl rfl) ?_
  refine L0 (wanted_none rfl) rfl (y_gt rfl rfl rfl) ?_
  refine Lnil ?_
  refine Wkn (t := 7) (b0 := true) rfl (by first | exact decide_eq_true (by omega) | exact bnT (by omega) | (simp; omega)) (fun h2 => ?_)
  refine W_condT rfl h2 ?_
  refine W_seq ?_
  refine W_region ?_
  refine L0 (wanted_none rfl) rfl (y_move (v := Value.pointer _) rfl rfl) ?_
  refine L0 (wanted_none rfl) rfl (y_nilCheck rfl rfl) ?_
  refine L0 (wanted_none rfl) rfl (y_fieldAddr rfl Tryd.underlying104 rfl sz3 rfl) ?_
  refine L1 (wanted_none rfl) rfl hs0 (y_load 0 rfl Tryd.underlying3 rfl rfl rfl rfl) ?_
  refine L0 (wanted_none rfl) rfl (y_sub64 rfl rfl rfl (by omega)) ?_
  refine L0 (wanted_none rfl) rfl (y_nilCheck rfl rfl) ?_
  refine L0 (wanted_none rfl) rfl (y_fieldAddr rfl Tryd.underlying104 rfl sz3 rfl) ?_
  refine Lc (wanted_none rfl) (c_store (i := 0) (v := iv (D.fuse - 1)) hs0 rfl rfl rfl rfl sz3 rfl rfl (by (show 19 < 20; omega)) (Fz.zero _) (fun w3 hs4 => ?_))
  have hs4 := hs4.at0 (c' := ⟨dcells vz D.sure D.slot vw (D.fuse - 1)⟩) rfl
  refine Lnil ?_
  refine W_seq ?_
  refine W_region ?_
  refine L0 (wanted_none rfl) rfl (y_assign (v := Value.bool _) rfl rfl) ?_
  refine Lnil ?_
  refine W_ret ?_
  refine fin1 (fn := Tryd.f67) rfl rfl ?_
  refine ⟨congrArg Value.bool (decide_eq_true (by omega)).symm, ?_⟩
  rw [show burnF D.fuse = D.fuse - 1 from if_pos hf]
  exact ⟨hs4.re (fun a => by simp only [ct_append, ct_cons]; omega), h.rz, h.rw, h.newb, h.newr⟩
theorem burn_np {W0 : World} {K : Blocks} {b : Nat} {D : Dv} {w : World} {vz : Nat → Value} {vw : Value} {went rows : Blocks} (h : DSt W0 K b D w vz vw went rows) (hr : D.fuse ≤ 9223372036854775807) (hf : ¬ 0 < D.fuse) :
    C Tryd.prog 67 ⟨[pv b 0]⟩ w fun v w' => v = .bool (decide (D.fuse ≠ 0)) ∧ DSt W0 K b { D with fuse := burnF D.fuse } w' vz vw went rows := by
  refine C_enter (n := 20) Tryd.func67 rfl rfl rfl (fun w1 hs1 => ?_)
  have hs0 := (h.st.call0 hs1).perm List.perm_middle
  refine W_seq ?_
  refine W_region ?_
  refine L0 (wanted_none rfl) rfl (y_assign (v := Value.bool _) rfl rfl) ?_
  refine Lnil ?_
  refine W_seq ?_
  refine W_seq ?_
  refine W_region ?_
  refine L0 (wanted_none rfl) rfl (y_move (v := Value.pointer _) rfl rfl) ?_
  refine L0 (wanted_none rfl) rfl (y_nilCheck rfl rfl) ?_
  refine L0 (wanted_none rfl) rfl (y_fieldAddr rfl Tryd.underlying104 rfl sz3 rfl) ?_
  refine L1 (wanted_none rfl) rfl hs0 (y_load 0 rfl Tryd.underlying3 rfl rfl rfl rfl) ?_
  refine L0 (wanted_none rfl) rfl (y_gt rfl rfl rfl) ?_
  refine Lnil ?_
  refine Wkn (t := 7) (b0 := false) rfl (by first | exact decide_eq_false (by omega) | exact bnF (by omega) | (simp; omega)) (fun h2 => ?_)
  refine W_condF rfl h2 ?_
  refine W_skip ?_
  refine W_seq ?_
  refine W_region ?_
  refine L0 (wanted_none rfl) rfl (y_move (v := Value.pointer _) rfl rfl) ?_
  refine L0 (wanted_none rfl) rfl (y_nilCheck rfl rfl) ?_
  refine L0 (wanted_none rfl) rfl (y_fieldAddr rfl Tryd.underlying104 rfl sz3 rfl) ?_
  refine L1 (wanted_none rfl) rfl hs0 (y_load 0 rfl Tryd.underlying3 rfl rfl rfl rfl) ?_
  refine L0 (wanted_none rfl) rfl (y_lt rfl rfl rfl) ?_
  refine L0 (wanted_none rfl) rfl (y_assign (v := Value.bool _) rfl rfl) ?_
  refine Lnil ?_
  refine W_ret ?_
  refine fin1 (fn := Tryd.f67) rfl rfl ?_
  refine ⟨congrArg Value.bool (by rw [decide_eq_decide]; omega), ?_⟩
  rw [show burnF D.fuse = D.fuse from if_neg hf]
  exact ⟨hs0.perm List.perm_middle.symm, h.rz, h.rw, h.newb, h.newr⟩
theorem burn_ok {W0 : World} {K : Blocks} {b : Nat} {D : Dv} {w : World} {vz : Nat → Value} {vw : Value} {went rows : Blocks} (h : DSt W0 K b D w vz vw went rows) (hr : D.fuse ≤ 9223372036854775807) :
    C Tryd.prog 67 ⟨[pv b 0]⟩ w fun v w' => v = .bool (decide (D.fuse ≠ 0)) ∧ DSt W0 K b { D with fuse := burnF D.fuse } w' vz vw went rows := by
  by_cases hf : 0 < D.fuse
  · exact burn_pos h hr hf
  · exact burn_np h hr hf
theorem app_g {W0 : World} {K : Blocks} {b : Nat} {D : Dv} {w : World} {vz : Nat → Value} {vw : Value} {went rows : Blocks} (h : DSt W0 K b D w vz vw went rows) (hf : D.fuse ≠ 0) (hfr : D.fuse ≤ 9223372036854775807) (i : Int) (s : List UInt8) (h0 : 0 ≤ i) (h1 : i < 8) (hs : s.length ≤ 128) (hl : (D.z i.toNat).length < 16) :
    C Tryd.prog 15 ⟨[pv b 0, iv i, str s]⟩ w fun v w' => ∃ vz' rows', v = .tuple #[iv (D.z i.toNat).length, .nilIface] ∧ DSt W0 K b { D with z := updF D.z i.toNat (D.z i.toNat ++ [fillN s 128]), fuse := burnF D.fuse } w' vz' vw went rows' := by
  have hj : i.toNat < 8 := by omega
  have hd := h.has
  have hz := h.sl hj
  have hz2 := h.rz _ hj
  obtain ⟨a, cap, hv, ha, hle, hax⟩ := hz2.shape
  rw [hv] at hz2
  have hz3 := hz2.clip
  refine C_enter (n := 60) Tryd.func15 rfl rfl rfl (fun w1 hs1 => ?_)
  have hs0 := (h.st.call0 hs1).perm List.perm_middle
  refine W_seq ?_
  refine W_region ?_
  refine L0 (wanted_none rfl) rfl (y_assign (v := Value.int _ _) rfl rfl) ?_
  refine L0 (wanted_none rfl) rfl (y_assign (v := Value.nilIface) rfl rfl) ?_
  refine Lnil ?_
  refine W_seq ?_
  refine W_block ?_
  refine W_seq ?_
  refine W_region ?_
  refine L0 (wanted_none rfl) rfl (y_move (v := Value.int _ _) rfl rfl) ?_
  refine L0 (wanted_none rfl) rfl (y_lt rfl rfl rfl) ?_
  refine L0 (wanted_none rfl) rfl (y_move (v := Value.bool _) rfl rfl) ?_
  refine Lkn (t := 11) (b0 := false) rfl (by first | exact decide_eq_false (by omega) | exact bnF (by omega) | (simp; omega)) (fun h2 => ?_)
  refine L0 (wanted_yesB rfl rfl rfl h2) rfl (y_move (v := Value.int _ _) rfl rfl) ?_
  refine L0 (wanted_yesB rfl rfl rfl h2) rfl (y_ge rfl rfl rfl) ?_
  refine L0 (wanted_none rfl) rfl (y_pickF rfl rfl h2 rfl) ?_
  refine L0 (wanted_none rfl) rfl (y_assign (v := Value.bool _) rfl rfl) ?_
  refine Lnil ?_
  refine Wkn (t := 8) (b0 := false) rfl (by first | exact decide_eq_false (by omega) | exact bnF (by omega) | (simp; omega)) (fun h3 => ?_)
  refine W_condF rfl h3 ?_
  refine W_seq ?_
  refine W_region ?_
  refine L0 (wanted_none rfl) rfl (y_move (v := Value.string ⟨⟨_⟩⟩) rfl rfl) ?_
  refine L0 (wanted_none rfl) rfl (y_len rfl Tryd.underlying9 rfl) ?_
  refine L0 (wanted_none rfl) rfl (y_gt rfl rfl rfl) ?_
  refine L0 (wanted_none rfl) rfl (y_assign (v := Value.bool _) rfl rfl) ?_
  refine Lnil ?_
  refine Wkn (t := 16) (b0 := false) rfl (by first | exact decide_eq_false (by omega) | exact bnF (by omega) | (simp; omega)) (fun h4 => ?_)
  refine W_condF rfl h4 ?_
  refine W_seq ?_
  refine W_region ?_
  refine L0 (wanted_none rfl) rfl (y_move (v := Value.pointer _) rfl rfl) ?_
  refine L0 (wanted_none rfl) rfl (y_move (v := Value.int _ _) rfl rfl) ?_
  refine L0 (wanted_none rfl) rfl (y_nilCheck rfl rfl) ?_
  refine L0 (wanted_none rfl) rfl (y_fieldAddr rfl Tryd.underlying104 rfl sz29 rfl) ?_
  refine L0 (wanted_none rfl) rfl (y_indexArr rfl Tryd.underlying29 sz22 rfl rfl (by omega) (by omega)) ?_
  refine L1 (wanted_none rfl) rfl hs0 (y_load 0 rfl Tryd.underlying22 rfl rfl rfl (dc_zv h0 h1 hv)) ?_
  refine L0 (wanted_none rfl) rfl (y_slen rfl Tryd.underlying22 rfl) ?_
  refine L0 (wanted_none rfl) rfl (y_eq rfl rfl rfl) ?_
  refine L0 (wanted_none rfl) rfl (y_assign (v := Value.bool _) rfl rfl) ?_
  refine Lnil ?_
  refine Wkn (t := 21) (b0 := false) rfl (by exact decide_eq_false (by omega)) (fun h5 => ?_)
  refine W_condF rfl h5 ?_
  refine W_seq ?_
  refine W_region ?_
  refine L0 (wanted_none rfl) rfl (y_move (v := Value.pointer _) rfl rfl) ?_
  refine Lc (wanted_none rfl) (c_call rfl rfl rfl Tryd.func67 (by kernel_rfl) rfl (burn_ok (h.drewn (hs0.perm List.perm_middle.symm)) hfr) rfl ?_)
  rintro vq w6 ⟨rfl, hB⟩
  have hs8 := hB.st.perm List.perm_middle
  refine L0 (wanted_none rfl) rfl (y_not rfl rfl) ?_
  refine L0 (wanted_none rfl) rfl (y_assign (v := Value.bool _) rfl rfl) ?_
  refine Lnil ?_
  refine Wkn (t := 31) (b0 := false) rfl (by exact bnF hf) (fun h9 => ?_)
  refine W_condF rfl h9 ?_
  refine W_skip ?_
  refine W_seq ?_
  refine W_drawSt [(0, 0), (0, 1), (0, 2), (0, 3), (0, 9), (0, 4), (0, 13), (0, 5), (0, 14), (0, 6), (1, 7), (2, 8), (3, 10), (3, 11), (3, 12), (0, 15), (2, 16)] hs8 mixed (by kernel_rfl) (fun w10 hs11 => ?_)
  refine E0 (wanted_none rfl) rfl (y_move (v := Value.pointer _) rfl rfl) ?_
  refine E0 (wanted_none rfl) rfl (y_move (v := Value.int _ _) rfl rfl) ?_
  refine E0 (wanted_none rfl) rfl (y_move (v := Value.pointer _) rfl rfl) ?_
  refine E0 (wanted_none rfl) rfl (y_move (v := Value.int _ _) rfl rfl) ?_
  refine E0 (wanted_none rfl) rfl (y_move (v := Value.string ⟨⟨_⟩⟩) rfl rfl) ?_
  refine E0 (wanted_none rfl) rfl (y_nilCheck rfl rfl) ?_
  refine E0 (wanted_none rfl) rfl (y_nilCheck rfl rfl) ?_
  refine E0 (wanted_none rfl) rfl (y_fieldAddr rfl Tryd.underlying104 rfl sz29 rfl) ?_
  refine E0 (wanted_none rfl) rfl (y_fieldAddr rfl Tryd.underlying104 rfl sz29 rfl) ?_
  refine E0 (wanted_none rfl) rfl (y_indexArr rfl Tryd.underlying29 sz22 rfl rfl (by omega) (by omega)) ?_
  refine E1 hs11 (wanted_none rfl) rfl (y_load 0 rfl Tryd.underlying22 rfl rfl rfl (dc_zv h0 h1 hv)) ?_
  refine E2 (wanted_none rfl) (c_call rfl rfl rfl Tryd.func68 (by kernel_rfl) rfl (clip_any a _ cap hle ha w10) rfl ?_)
  rintro _ w12 ⟨rfl, hc13⟩
  have hs14 := hs11.call0 hc13
  refine E3 (wanted_none rfl) (c_call rfl rfl rfl Tryd.func69 (by kernel_rfl) rfl (fill_any s 128 (by decide) (by omega) w12) rfl ?_)
  rintro _ w15 ⟨rfl, hc16⟩
  have hs17 := hs14.call0 hc16
  refine ⟨fun _ => hs17, ?_⟩
  refine E3 (wanted_none rfl) (c_bs1 (v0 := str _) hs17 rfl rfl Tryd.underlying22 sz9 zr9 rfl rfl  (fun b18 w19 hbb18 hs20 => ?_))
  refine ⟨fun _ => hs20.drop (.inl hbb18), ?_⟩
  refine E3 (wanted_none rfl) (c_appendFull hs20 rfl rfl Tryd.underlying22 sz9 zr9 by9 rfl rfl (((hz3.sl hs20 (fun x hx => by simp [hx])).srcs)) (hax) rfl (Src.ofBlock (kk := 1) (hs20.get 0 rfl) rfl) (by decide) (by omega) (by omega) (fun vN entN w21 hrow' hn23 hs22 => ?_))
  have hrow := hrow'
  have hnew_hrow := hn23
  have hN := hrow.new
  have hN1 := hrow.one
  have hs22 := ((hs22.perm List.perm_middle).drop (.inl hbb18)).perm List.perm_middle
  have hsK := (hs22.perm (List.perm_middle (l₁ := entN)).symm).dropL (M := entN) hN
  refine ⟨fun _ => hsK, ?_⟩
  refine E0 (wanted_none rfl) rfl (y_indexArr rfl Tryd.underlying29 sz22 rfl rfl (by omega) (by omega)) ?_
  refine E2 (wanted_none rfl) (c_store (i := 0) (v := vN) hs22 rfl rfl rfl rfl sz22 hN1 rfl (by (show _ < 20; simp; omega)) (Fz.zero _) (fun w24 hs25 => ?_))
  have hs25 := hs25.at0 (dc_setz _ _ _ _ _ h0 h1 _)
  refine Enil ?_
  refine W_seq ?_
  refine W_region ?_
  refine L0 (wanted_none rfl) rfl (y_move (v := Value.pointer _) rfl rfl) ?_
  refine L0 (wanted_none rfl) rfl (y_move (v := Value.int _ _) rfl rfl) ?_
  refine L0 (wanted_none rfl) rfl (y_nilCheck rfl rfl) ?_
  refine L0 (wanted_none rfl) rfl (y_fieldAddr rfl Tryd.underlying104 rfl sz29 rfl) ?_
  refine L0 (wanted_none rfl) rfl (y_indexArr rfl Tryd.underlying29 sz22 rfl rfl (by omega) (by omega)) ?_
  refine L1 (wanted_none rfl) rfl hs25 (y_load 0 rfl Tryd.underlying22 rfl rfl rfl (dc_zv h0 h1 (updF_at _ _ _))) ?_
  refine L0 (wanted_none rfl) rfl (y_slenRow rfl Tryd.underlying22 rfl hrow) ?_
  refine L0 (wanted_none rfl) rfl (y_sub64 rfl rfl rfl (by omega)) ?_
  refine L0 (wanted_none rfl) rfl (y_assign (v := Value.int _ _) rfl rfl) ?_
  refine L0 (wanted_none rfl) rfl (y_assign (v := Value.nilIface) rfl rfl) ?_
  refine Lnil ?_
  refine W_ret ?_
  refine fin2 (fn := Tryd.f15) rfl rfl rfl ?_
  refine ⟨updF vz i.toNat vN, entN ++ rows, congrArg Value.tuple (congrArg (fun x => #[x, Value.nilIface]) (iv_eq (by omega))), ?_⟩
  refine ⟨hs25.re (fun a => by simp only [ct_append, ct_cons]; omega), ?_, h.rw, h.newb, ?_⟩
  · have hr2 : RowIn entN vN (D.z i.toNat ++ [fillN s 128]) := RowIn.ofRow (by rw [List.map_append]; exact hrow)
    exact updR (fun j hj => (h.rz j hj).mono (fun x hx => List.mem_append_right _ hx)) (hr2.mono (fun x hx => List.mem_append_left _ hx))
  · intro x hx
    rcases List.mem_append.1 hx with hx | hx
    · exact hN x hx
    · exact h.newr x hx
theorem put_g {W0 : World} {K : Blocks} {b : Nat} {D : Dv} {w : World} {vz : Nat → Value} {vw : Value} {went rows : Blocks} (h : DSt W0 K b D w vz vw went rows) (hf : D.fuse ≠ 0) (hfr : D.fuse ≤ 9223372036854775807) (i : Nat) (s : List UInt8) (h1 : i < 2) (hs : s.length ≤ 500) (hw : D.wait.length ≤ 1000) :
    C Tryd.prog 36 ⟨[pv b 0, iv i, str s]⟩ w fun v w' => ∃ vw' went', v = .nilIface ∧ DSt W0 K b { D with wait := D.wait ++ [(i, fillN s 500)], fuse := burnF D.fuse } w' vz vw' went' rows := by
  refine C_enter (n := 38) Tryd.func36 rfl rfl rfl (fun w1 hs1 => ?_)
  have hs0 := (h.st.call0 hs1).perm List.perm_middle
  refine W_seq ?_
  refine W_region ?_
  refine L0 (wanted_none rfl) rfl (y_assign (v := Value.nilIface) rfl rfl) ?_
  refine Lnil ?_
  refine W_seq ?_
  refine W_block ?_
  refine W_seq ?_
  refine W_region ?_
  refine L0 (wanted_none rfl) rfl (y_move (v := Value.int _ _) rfl rfl) ?_
  refine L0 (wanted_none rfl) rfl (y_lt rfl rfl rfl) ?_
  refine L0 (wanted_none rfl) rfl (y_move (v := Value.bool _) rfl rfl) ?_
  refine Lkn (t := 10) (b0 := false) rfl (by first | exact decide_eq_false (by omega) | exact bnF (by omega) | (simp; omega)) (fun h2 => ?_)
  refine L0 (wanted_yesB rfl rfl rfl h2) rfl (y_move (v := Value.int _ _) rfl rfl) ?_
  refine L0 (wanted_yesB rfl rfl rfl h2) rfl (y_gt rfl rfl rfl) ?_
  refine L0 (wanted_none rfl) rfl (y_pickF rfl rfl h2 rfl) ?_
  refine L0 (wanted_none rfl) rfl (y_assign (v := Value.bool _) rfl rfl) ?_
  refine Lnil ?_
  refine Wkn (t := 7) (b0 := false) rfl (by first | exact decide_eq_false (by omega) | exact bnF (by omega) | (simp; omega)) (fun h3 => ?_)
  refine W_condF rfl h3 ?_
  refine W_seq ?_
  refine W_region ?_
  refine L0 (wanted_none rfl) rfl (y_move (v := Value.string ⟨⟨_⟩⟩) rfl rfl) ?_
  refine L0 (wanted_none rfl) rfl (y_len rfl Tryd.underlying9 rfl) ?_
  refine L0 (wanted_none rfl) rfl (y_gt rfl rfl rfl) ?_
  refine L0 (wanted_none rfl) rfl (y_assign (v := Value.bool _) rfl rfl) ?_
  refine Lnil ?_
  refine Wkn (t := 15) (b0 := false) rfl (by first | exact decide_eq_false (by omega) | exact bnF (by omega) | (simp; omega)) (fun h4 => ?_)
  refine W_condF rfl h4 ?_
  refine W_seq ?_
  refine W_region ?_
  refine L0 (wanted_none rfl) rfl (y_move (v := Value.pointer _) rfl rfl) ?_
  refine Lc (wanted_none rfl) (c_call rfl rfl rfl Tryd.func67 (by kernel_rfl) rfl (burn_ok (h.drewn (hs0.perm List.perm_middle.symm)) hfr) rfl ?_)
  rintro vq w5 ⟨rfl, hB⟩
  have hs7 := hB.st.perm List.perm_middle
  refine L0 (wanted_none rfl) rfl (y_not rfl rfl) ?_
  refine L0 (wanted_none rfl) rfl (y_assign (v := Value.bool _) rfl rfl) ?_
  refine Lnil ?_
  refine Wkn (t := 20) (b0 := false) rfl (by exact bnF hf) (fun h8 => ?_)
  refine W_condF rfl h8 ?_
  refine W_skip ?_
  refine W_seq ?_
  refine W_drawSt [(0, 0), (0, 1), (0, 5), (0, 6), (0, 2), (0, 3), (1, 4), (3, 7), (0, 8), (3, 9), (2, 10), (0, 11), (0, 12), (2, 13)] hs7 mixed (by kernel_rfl) (fun w9 hs10 => ?_)
  refine E0 (wanted_none rfl) rfl (y_move (v := Value.pointer _) rfl rfl) ?_
  refine E0 (wanted_none rfl) rfl (y_move (v := Value.pointer _) rfl rfl) ?_
  refine E0 (wanted_none rfl) rfl (y_move (v := Value.int _ _) rfl rfl) ?_
  refine E0 (wanted_none rfl) rfl (y_move (v := Value.string ⟨⟨_⟩⟩) rfl rfl) ?_
  refine E0 (wanted_none rfl) rfl (y_nilCheck rfl rfl) ?_
  refine E0 (wanted_none rfl) rfl (y_fieldAddr rfl Tryd.underlying104 rfl sz102 rfl) ?_
  refine E1 hs10 (wanted_none rfl) rfl (y_load 0 rfl Tryd.underlying102 rfl rfl rfl rfl) ?_
  refine E3 (wanted_none rfl) (c_call rfl rfl rfl Tryd.func69 (by kernel_rfl) rfl (fill_any s 500 (by decide) (by omega) w9) rfl ?_)
  rintro _ w11 ⟨rfl, hc12⟩
  have hs13 := hs10.call0 hc12
  refine ⟨fun _ => hs13, ?_⟩
  refine E0 (wanted_none rfl) rfl (y_buildSG (places := #[(0, 1), (1, 1)]) (cells := [iv i, str (fillN s 500)]) rfl Tryd.underlying137 zr137 (fun w => by kernel_rfl) (by kernel_rfl)) ?_
  refine E3 (wanted_none rfl) (c_buildSlice (cells := [iv i, str (fillN s 500)]) hs13 rfl rfl Tryd.underlying102 sz137 zr137 (by decide) (by kernel_rfl) (fun b14 w15 hbb14 hs16 => ?_))
  refine ⟨fun _ => hs16.drop (.inl hbb14), ?_⟩
  refine E2 (wanted_none rfl) (c_appendG (L0 := (b14, .cells ⟨[iv i, str (fillN s 500)]⟩ 137 (0, 0)) :: (b, .cells ⟨dcells vz D.sure D.slot vw (burnF D.fuse)⟩ 104 (0, 0)) :: (K ++ rows)) (ent := went) hs16 (perm_ct (fun a => by simp only [ct_append, ct_cons]; omega)) rfl rfl Tryd.underlying102 sz137 zr137 by137 rfl rfl h.rw (Nat.le_refl _) (fun x hx => .inl (h.rw.new x hx)) rfl (Src.ofBlock (kk := 1) (hs16.get 0 rfl) rfl) (by simp [Value.oneCell']) (by omega) (by omega) (fun vN entN w17 hrow' hn19 hs18 => ?_))
  have hrow := hrow'
  have hnew_hrow := hn19
  have hN := hrow.new
  have hN1 := hrow.one
  have hs18 := (hs18.re (L' := (b14, .cells ⟨[iv i, str (fillN s 500)]⟩ 137 (0, 0)) :: (b, .cells ⟨dcells vz D.sure D.slot vw (burnF D.fuse)⟩ 104 (0, 0)) :: (entN ++ (K ++ rows))) (fun a => by simp only [ct_append, ct_cons]; omega)).drop (.inl hbb14)
  refine E0 (wanted_none rfl) rfl (y_nilCheck rfl rfl) ?_
  refine E0 (wanted_none rfl) rfl (y_fieldAddr rfl Tryd.underlying104 rfl sz102 rfl) ?_
  refine E2 (wanted_none rfl) (c_store (i := 0) (v := vN) hs18 rfl rfl rfl rfl sz102 hN1 rfl (by (show 18 < 20; omega)) (Fz.zero _) (fun w20 hs21 => ?_))
  have hs21 := hs21.at0 (c' := ⟨dcells vz D.sure D.slot vN (burnF D.fuse)⟩) rfl
  refine Enil ?_
  refine W_seq ?_
  refine W_region ?_
  refine L0 (wanted_none rfl) rfl (y_assign (v := Value.nilIface) rfl rfl) ?_
  refine Lnil ?_
  refine W_ret ?_
  refine fin1 (fn := Tryd.f36) rfl rfl ?_
  refine ⟨vN, entN, rfl, ?_⟩
  refine ⟨hs21.re (fun a => by simp only [ct_append, ct_cons]; omega), h.rz, ?_, h.newb, h.newr⟩
  rw [List.length_append, flatW_append]; exact hrow
theorem sync_g {W0 : World} {K : Blocks} {b : Nat} {D : Dv} {w : World} {vz : Nat → Value} {vw : Value} {went rows : Blocks} (h : DSt W0 K b D w vz vw went rows) (hf : D.fuse ≠ 0) (hfr : D.fuse ≤ 9223372036854775807) (hok : ∀ j, j < D.wait.length → (D.wait.getD j (0, [])).1 < 2) (hwl : D.wait.length ≤ 1000) :
    C Tryd.prog 38 ⟨[pv b 0]⟩ w fun v w' => v = .nilIface ∧ DSt W0 K b { D with sure := sureF D.z D.sure 8, slot := landF D.slot D.wait (fun _ => true) D.wait.length, wait := [], fuse := burnF D.fuse } w' vz (.slice none 0 0) [] rows := by
  refine C_enter (n := 47) Tryd.func38 rfl rfl rfl (fun w1 hs1 => ?_)
  have hs0 := (h.st.call0 hs1).perm List.perm_middle
  refine W_seq ?_
  refine W_region ?_
  refine L0 (wanted_none rfl) rfl (y_assign (v := Value.nilIface) rfl rfl) ?_
  refine Lnil ?_
  refine W_seq ?_
  refine W_seq ?_
  refine W_region ?_
  refine L0 (wanted_none rfl) rfl (y_move (v := Value.pointer _) rfl rfl) ?_
  refine Lc (wanted_none rfl) (c_call rfl rfl rfl Tryd.func67 (by kernel_rfl) rfl (burn_ok (h.drewn (hs0.perm List.perm_middle.symm)) hfr) rfl ?_)
  rintro vq w2 ⟨rfl, hB⟩
  have hs4 := hB.st.perm List.perm_middle
  refine L0 (wanted_none rfl) rfl (y_not rfl rfl) ?_
  refine Lnil ?_
  refine Wkn (t := 8) (b0 := false) rfl (by exact bnF hf) (fun h5 => ?_)
  refine W_condF rfl h5 ?_
  refine W_skip ?_
  refine W_seq ?_
  refine W_seq ?_
  refine W_region ?_
  refine L0 (wanted_none rfl) rfl (y_move (v := Value.int _ _) rfl rfl) ?_
  refine Lnil ?_
  refine W_block ?_
  refine W_loop (G := Nat) (fun i aL wl => ∃ e, aL = A 47 ((10, iv i) :: (0, pv b 0) :: e) ∧ i ≤ 8 ∧ St W0 ((b, .cells ⟨dcells vz (sureF D.z D.sure i) D.slot vw (burnF D.fuse)⟩ 104 (0, 0)) :: (K ++ (went ++ rows))) wl) (fun i => 8 - i) (0) ?_ ?_
  · exact ⟨_, A_pins _ _ [10, 0], Nat.zero_le _, by rw [sureF_zero]; exact hs4⟩
  rintro i _ w6 ⟨ehs7, rfl, hi, hs7⟩
  refine W_seq ?_
  refine W_region ?_
  refine L0 (wanted_none rfl) rfl (y_lt rfl rfl rfl) ?_
  refine Lnil ?_
  refine W_seq ?_
  refine Wsp (t := 11) rfl (fun h8 => ?_) (fun h8 => ?_)
  · have h8' := h8
    first | replace h8' := of_decide_eq_true h8' | replace h8' := bnT' h8' | skip
    refine W_condT rfl h8 ?_
    refine W_skip ?_
    refine W_seq ?_
    refine W_block ?_
    refine W_seq ?_
    refine W_region ?_
    refine L0 (wanted_none rfl) rfl (y_move (v := Value.int _ _) rfl rfl) ?_
    refine L0 (wanted_none rfl) rfl (y_assign (v := Value.int _ _) rfl rfl) ?_
    refine Lnil ?_
    refine W_drawSt [(0, 0), (0, 1), (0, 2), (0, 3), (0, 4), (0, 9), (0, 5), (0, 10), (0, 6), (1, 7), (0, 8), (0, 11), (2, 12)] hs7 mixed (by kernel_rfl) (fun w9 hs10 => ?_)
    refine E0 (wanted_none rfl) rfl (y_move (v := Value.pointer _) rfl rfl) ?_
    refine E0 (wanted_none rfl) rfl (y_move (v := Value.int _ _) rfl rfl) ?_
    refine E0 (wanted_none rfl) rfl (y_move (v := Value.pointer _) rfl rfl) ?_
    refine E0 (wanted_none rfl) rfl (y_move (v := Value.int _ _) rfl rfl) ?_
    refine E0 (wanted_none rfl) rfl (y_nilCheck rfl rfl) ?_
    refine E0 (wanted_none rfl) rfl (y_nilCheck rfl rfl) ?_
    refine E0 (wanted_none rfl) rfl (y_fieldAddr rfl Tryd.underlying104 rfl sz29 rfl) ?_
    refine E0 (wanted_none rfl) rfl (y_fieldAddr rfl Tryd.underlying104 rfl sz101 rfl) ?_
    refine E0 (wanted_none rfl) rfl (y_indexArr rfl Tryd.underlying29 sz22 rfl rfl (by omega) (by omega)) ?_
    refine E1 hs10 (wanted_none rfl) rfl (y_load 0 rfl Tryd.underlying22 rfl rfl rfl (dc_z _ _ _ _ _ (by omega) (by omega))) ?_
    refine E0 (wanted_none rfl) rfl (y_slenSl rfl Tryd.underlying22 rfl (h.sl (by omega))) ?_
    refine E0 (wanted_none rfl) rfl (y_indexArr rfl Tryd.underlying101 sz3 rfl rfl (by omega) (by omega)) ?_
    refine E2 (wanted_none rfl) (c_store (i := 0) (v := iv _) hs10 rfl rfl rfl rfl sz3 rfl rfl (by (show _ < 20; simp; omega)) (Fz.zero _) (fun w11 hs12 => ?_))
    have hs12 := hs12.at0 (dc_sets _ _ _ _ _ (by omega) (by omega) _)
    refine Enil ?_
    refine W_region ?_
    refine L0 (wanted_none rfl) rfl (y_add64 rfl rfl rfl (by omega)) ?_
    refine L0 (wanted_none rfl) rfl (y_move (v := Value.int _ _) rfl rfl) ?_
    refine Lnil ?_
    exact ⟨i + 1, by first | omega | (dsimp only; done) | (dsimp only; omega), _, A_c (iv_eq (by first | omega | (dsimp only; done) | (dsimp only; omega))) (A_c rfl (rfl)), by omega, hs12.at0 (congrArg (fun f => (⟨dcells vz f D.slot vw (burnF D.fuse)⟩ : Array Value)) (sureF_succ D.z D.sure i))⟩
  · have h8' := h8
    first | replace h8' := of_decide_eq_false h8' | replace h8' := bnF' h8' | skip
    refine W_condF rfl h8 ?_
    refine W_exit ?_
    refine W_seq ?_
    refine W_seq ?_
    obtain rfl : i = 8 := by omega
    refine W_region ?_
    refine L0 (wanted_none rfl) rfl (y_move (v := Value.pointer _) rfl rfl) ?_
    refine L0 (wanted_none rfl) rfl (y_nilCheck rfl rfl) ?_
    refine L0 (wanted_none rfl) rfl (y_fieldAddr rfl Tryd.underlying104 rfl sz102 rfl) ?_
    refine L1 (wanted_none rfl) rfl hs7 (y_load 0 rfl Tryd.underlying102 rfl rfl rfl rfl) ?_
    refine L0 (wanted_none rfl) rfl (y_slenRow rfl Tryd.underlying102 rfl h.rw) ?_
    refine L0 (wanted_none rfl) rfl (y_move (v := Value.int _ _) rfl rfl) ?_
    refine Lnil ?_
    refine W_block ?_
    refine W_loop (G := Nat) (fun i aL wl => ∃ e, aL = A 47 ((31, iv i) :: (30, iv D.wait.length) :: (29, vw) :: (0, pv b 0) :: e) ∧ i ≤ D.wait.length ∧ St W0 ((b, .cells ⟨dcells vz (sureF D.z D.sure 8) (landF D.slot D.wait (fun _ => true) i) vw (burnF D.fuse)⟩ 104 (0, 0)) :: (K ++ (went ++ rows))) wl) (fun i => D.wait.length - i) (0) ?_ ?_
    · exact ⟨_, A_pins _ _ [31, 30, 29, 0], Nat.zero_le _, hs7⟩
    rintro i _ w13 ⟨ehs14, rfl, hi, hs14⟩
    refine W_seq ?_
    refine W_region ?_
    refine L0 (wanted_none rfl) rfl (y_lt rfl rfl rfl) ?_
    refine Lnil ?_
    refine W_seq ?_
    refine Wsp (t := 32) rfl (fun h15 => ?_) (fun h15 => ?_)
    · have h15' := h15
      first | replace h15' := of_decide_eq_true h15' | replace h15' := bnT' h15' | skip
      refine W_condT rfl h15 ?_
      refine W_skip ?_
      refine W_seq ?_
      refine W_block ?_
      refine W_seq ?_
      refine W_region ?_
      refine L0 (wanted_none rfl) rfl (y_indexRow rfl Tryd.underlying102 sz137 rfl rfl h.rw (by omega) (by omega)) ?_
      refine L1 (wanted_none rfl) rfl hs14 ((y_loadRowN i rfl Tryd.underlying137 rfl sz137 rfl h.rw (fun x hx => by simp [hx]) rfl (by omega) (flatW_at _ _ (by omega)))) ?_
      refine Lc (wanted_none rfl) (c_alloc hs14 rfl rfl zr137 (fun b16 w17 hbb16 hs18 => ?_))
      refine Lc (wanted_none rfl) (c_storeN (i := 0) hs18 rfl rfl rfl rfl sz137 (by rfl) (by simp [Value.oneCell']) rfl (by decide) (Fz.zero _) (fun w19 hs20 => ?_))
      refine Lnil ?_
      refine W_drawSt [(0, 0), (0, 1), (0, 3), (1, 2), (1, 4), (0, 5), (0, 6), (0, 7), (2, 8)] hs20 mixed (by kernel_rfl) (fun w21 hs22 => ?_)
      refine E0 (wanted_none rfl) rfl (y_move (v := Value.pointer _) rfl rfl) ?_
      refine E0 (wanted_none rfl) rfl (y_fieldAddr rfl Tryd.underlying137 rfl sz3 rfl) ?_
      refine E0 (wanted_none rfl) rfl (y_fieldAddr rfl Tryd.underlying137 rfl sz9 rfl) ?_
      refine E1 hs22 (wanted_none rfl) rfl (y_load 0 rfl Tryd.underlying3 rfl rfl rfl rfl) ?_
      refine E1 hs22 (wanted_none rfl) rfl (y_load 0 rfl Tryd.underlying9 rfl rfl rfl rfl) ?_
      refine E0 (wanted_none rfl) rfl (y_nilCheck rfl rfl) ?_
      refine E0 (wanted_none rfl) rfl (y_fieldAddr rfl Tryd.underlying104 rfl sz57 rfl) ?_
      refine E0 (wanted_none rfl) rfl (y_indexArr rfl Tryd.underlying57 sz9 rfl rfl (by omega) (by have := hok i (by omega); omega)) ?_
      refine E2 (wanted_none rfl) (c_store (i := 1) (v := Value.string ⟨⟨_⟩⟩) hs22 rfl rfl rfl rfl sz9 rfl rfl (by (show 0 + 16 + ((D.wait.getD i (0, [])).1 : Int).toNat * 1 < 20; have := hok i (by omega); omega)) (Fz.zero _) (fun w23 hs24 => ?_))
      have hs24 := hs24.at1 (dc_setl _ _ _ _ _ (by omega) (by have := hok i (by omega); omega) _)
      refine Enil ?_
      refine W_region ?_
      refine L0 (wanted_none rfl) rfl (y_add64 rfl rfl rfl (by omega)) ?_
      refine L0 (wanted_none rfl) rfl (y_move (v := Value.int _ _) rfl rfl) ?_
      refine Lnil ?_
      exact ⟨i + 1, by first | omega | (dsimp only; done) | (dsimp only; omega), _, A_c (iv_eq (by first | omega | (dsimp only; done) | (dsimp only; omega))) (A_c rfl (A_c rfl (A_c rfl (rfl)))), by omega, (hs24.drop (.inl hbb16)).at0 (congrArg (fun f => (⟨dcells vz (sureF D.z D.sure 8) f vw (burnF D.fuse)⟩ : Array Value)) (landF_yes rfl))⟩
    · have h15' := h15
      first | replace h15' := of_decide_eq_false h15' | replace h15' := bnF' h15' | skip
      refine W_condF rfl h15 ?_
      refine W_exit ?_
      refine W_seq ?_
      obtain rfl : i = D.wait.length := by omega
      refine W_region ?_
      refine L0 (wanted_none rfl) rfl (y_move (v := Value.pointer _) rfl rfl) ?_
      refine L0 (wanted_none rfl) rfl (y_nilCheck rfl rfl) ?_
      refine L0 (wanted_none rfl) rfl (y_fieldAddr rfl Tryd.underlying104 rfl sz102 rfl) ?_
      refine Lc (wanted_none rfl) (c_store (i := 0) (v := .slice none 0 0) hs14 rfl rfl rfl rfl sz102 rfl rfl (by (show 18 < 20; omega)) (Fz.zero _) (fun w25 hs26 => ?_))
      have hs26 := hs26.at0 (c' := ⟨dcells vz (sureF D.z D.sure 8) (landF D.slot D.wait (fun _ => true) D.wait.length) (.slice none 0 0) (burnF D.fuse)⟩) rfl
      refine Lnil ?_
      refine W_seq ?_
      refine W_region ?_
      refine L0 (wanted_none rfl) rfl (y_assign (v := Value.nilIface) rfl rfl) ?_
      refine Lnil ?_
      refine W_ret ?_
      refine fin1 (fn := Tryd.f38) rfl rfl ?_
      refine ⟨rfl, (hs26.re (L' := went ++ (K ++ ((b, .cells ⟨dcells vz (sureF D.z D.sure 8) (landF D.slot D.wait (fun _ => true) D.wait.length) (.slice none 0 0) (burnF D.fuse)⟩ 104 (0, 0)) :: ([] ++ rows)))) (fun a => by simp only [ct_append, ct_cons, ct_nil]; omega)).dropL h.rw.new, h.rz, Row.nil _ _ _, h.newb, h.newr⟩
theorem reset_g {W0 : World} {K : Blocks} {b : Nat} {D : Dv} {w : World} {vz : Nat → Value} {vw : Value} {went rows : Blocks} (h : DSt W0 K b D w vz vw went rows) (hf : D.fuse ≠ 0) (hfr : D.fuse ≤ 9223372036854775807) (i : Int) (h0 : 0 ≤ i) (h1 : i < 8) :
    C Tryd.prog 34 ⟨[pv b 0, iv i]⟩ w fun v w' => ∃ vz', v = .nilIface ∧ DSt W0 K b { D with z := updF D.z i.toNat [], sure := updF D.sure i.toNat 0, fuse := burnF D.fuse } w' vz' vw went rows := by
  refine C_enter (n := 28) Tryd.func34 rfl rfl rfl (fun w1 hs1 => ?_)
  have hs0 := (h.st.call0 hs1).perm List.perm_middle
  refine W_seq ?_
  refine W_region ?_
  refine L0 (wanted_none rfl) rfl (y_assign (v := Value.nilIface) rfl rfl) ?_
  refine Lnil ?_
  refine W_seq ?_
  refine W_block ?_
  refine W_seq ?_
  refine W_region ?_
  refine L0 (wanted_none rfl) rfl (y_move (v := Value.int _ _) rfl rfl) ?_
  refine L0 (wanted_none rfl) rfl (y_lt rfl rfl rfl) ?_
  refine L0 (wanted_none rfl) rfl (y_move (v := Value.bool _) rfl rfl) ?_
  refine Lkn (t := 8) (b0 := false) rfl (by first | exact decide_eq_false (by omega) | exact bnF (by omega) | (simp; omega)) (fun h2 => ?_)
  refine L0 (wanted_yesB rfl rfl rfl h2) rfl (y_move (v := Value.int _ _) rfl rfl) ?_
  refine L0 (wanted_yesB rfl rfl rfl h2) rfl (y_ge rfl rfl rfl) ?_
  refine L0 (wanted_none rfl) rfl (y_pickF rfl rfl h2 rfl) ?_
  refine L0 (wanted_none rfl) rfl (y_assign (v := Value.bool _) rfl rfl) ?_
  refine Lnil ?_
  refine Wkn (t := 5) (b0 := false) rfl (by first | exact decide_eq_false (by omega) | exact bnF (by omega) | (simp; omega)) (fun h3 => ?_)
  refine W_condF rfl h3 ?_
  refine W_seq ?_
  refine W_region ?_
  refine L0 (wanted_none rfl) rfl (y_move (v := Value.pointer _) rfl rfl) ?_
  refine Lc (wanted_none rfl) (c_call rfl rfl rfl Tryd.func67 (by kernel_rfl) rfl (burn_ok (h.drewn (hs0.perm List.perm_middle.symm)) hfr) rfl ?_)
  rintro vq w4 ⟨rfl, hB⟩
  have hs6 := hB.st.perm List.perm_middle
  refine L0 (wanted_none rfl) rfl (y_not rfl rfl) ?_
  refine L0 (wanted_none rfl) rfl (y_assign (v := Value.bool _) rfl rfl) ?_
  refine Lnil ?_
  refine Wkn (t := 13) (b0 := false) rfl (by exact bnF hf) (fun h7 => ?_)
  refine W_condF rfl h7 ?_
  refine W_skip ?_
  refine W_seq ?_
  refine W_drawSt [(0, 0), (0, 1), (0, 2), (0, 3), (0, 4), (0, 8), (0, 5), (0, 9), (0, 6), (2, 7), (0, 10), (2, 11)] hs6 mixed (by kernel_rfl) (fun w8 hs9 => ?_)
  refine E0 (wanted_none rfl) rfl (y_move (v := Value.pointer _) rfl rfl) ?_
  refine E0 (wanted_none rfl) rfl (y_move (v := Value.int _ _) rfl rfl) ?_
  refine E0 (wanted_none rfl) rfl (y_move (v := Value.pointer _) rfl rfl) ?_
  refine E0 (wanted_none rfl) rfl (y_move (v := Value.int _ _) rfl rfl) ?_
  refine E0 (wanted_none rfl) rfl (y_nilCheck rfl rfl) ?_
  refine E0 (wanted_none rfl) rfl (y_nilCheck rfl rfl) ?_
  refine E0 (wanted_none rfl) rfl (y_fieldAddr rfl Tryd.underlying104 rfl sz29 rfl) ?_
  refine E0 (wanted_none rfl) rfl (y_fieldAddr rfl Tryd.underlying104 rfl sz101 rfl) ?_
  refine E0 (wanted_none rfl) rfl (y_indexArr rfl Tryd.underlying29 sz22 rfl rfl (by omega) (by omega)) ?_
  refine E2 (wanted_none rfl) (c_store (i := 0) (v := .slice none 0 0) hs9 rfl rfl rfl rfl sz22 rfl rfl (by (show 0 + 0 + i.toNat * 1 < 20; omega)) (Fz.zero _) (fun w10 hs11 => ?_))
  have hs11 := hs11.at0 (dc_setz _ _ _ _ _ h0 h1 _)
  refine E0 (wanted_none rfl) rfl (y_indexArr rfl Tryd.underlying101 sz3 rfl rfl (by omega) (by omega)) ?_
  refine E2 (wanted_none rfl) (c_store (i := 0) (v := iv 0) hs11 rfl rfl rfl rfl sz3 rfl rfl (by (show 0 + 8 + i.toNat * 1 < 20; omega)) (Fz.zero _) (fun w12 hs13 => ?_))
  have hs13 := hs13.at0 (dc_sets _ _ _ _ _ h0 h1 0)
  refine Enil ?_
  refine W_seq ?_
  refine W_region ?_
  refine L0 (wanted_none rfl) rfl (y_assign (v := Value.nilIface) rfl rfl) ?_
  refine Lnil ?_
  refine W_ret ?_
  refine fin1 (fn := Tryd.f34) rfl rfl ?_
  exact ⟨updF vz i.toNat (.slice none 0 0), rfl, hs13.re (fun a => by simp only [ct_append, ct_cons]; omega), updR h.rz (RowIn.nil _), h.rw, h.newb, h.newr⟩
end Go.Proofs.YtkolfgmpmnelmabDoor

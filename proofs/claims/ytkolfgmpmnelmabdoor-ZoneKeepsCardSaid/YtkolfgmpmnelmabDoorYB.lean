/-
  Walks: the reference's device: in, zeros, long, spent, Fuse, Have, Read, Append, Reset, Put, Get.
-/
import Derived.Test.YtkolfgmpmnelmabDoorYA
import Derived.Test.YtkolfgmpmnelmabDoorZN
namespace Go.Proofs.YtkolfgmpmnelmabDoor
open Go Vx Go.Proofs
set_option linter.unusedVariables false
set_option maxRecDepth 4000
set_option maxHeartbeats 400000

theorem rin_any (n lo hi : Int) (w : World) : C Tryd.prog 82 ⟨[iv n, iv lo, iv hi]⟩ w fun v w' => v = .bool (decide (lo ≤ n ∧ n ≤ hi)) ∧ St w [] w' := by
  refine C_enter (n := 15) Tryd.func82 rfl rfl rfl (fun w1 hs1 => ?_)
  refine W_seq ?_
  refine W_region ?_
  refine L0 (wanted_none rfl) rfl (y_assign (v := Value.bool _) rfl rfl) ?_
  refine Lnil ?_
  refine W_seq ?_
  refine W_region ?_
  refine L0 (wanted_none rfl) rfl (y_move (v := Value.int _ _) rfl rfl) ?_
  refine L0 (wanted_none rfl) rfl (y_move (v := Value.int _ _) rfl rfl) ?_
  refine L0 (wanted_none rfl) rfl (y_le rfl rfl rfl) ?_
  refine L0 (wanted_none rfl) rfl (y_move (v := Value.bool _) rfl rfl) ?_
  refine Lsp (t := 10) rfl (fun h2 => ?_) (fun h2 => ?_)
  · have h2' := h2
    first | replace h2' := of_decide_eq_true h2' | replace h2' := bnT' h2' | skip
    refine L0 (wanted_yesB rfl rfl rfl h2) rfl (y_move (v := Value.int _ _) rfl rfl) ?_
    refine L0 (wanted_yesB rfl rfl rfl h2) rfl (y_move (v := Value.int _ _) rfl rfl) ?_
    refine L0 (wanted_yesB rfl rfl rfl h2) rfl (y_le rfl rfl rfl) ?_
    refine L0 (wanted_none rfl) rfl (y_pickT rfl rfl h2 rfl) ?_
    refine L0 (wanted_none rfl) rfl (y_assign (v := Value.bool _) rfl rfl) ?_
    refine Lnil ?_
    refine W_ret ?_
    refine fin1 (fn := Tryd.f82) rfl rfl ?_
    first | exact ⟨congrArg Value.bool (by rw [decide_eq_decide]; omega), hs1⟩ | exact ⟨congrArg Value.bool (decide_eq_false (by omega)).symm, hs1⟩
  · have h2' := h2
    first | replace h2' := of_decide_eq_false h2' | replace h2' := bnF' h2' | skip
    refine Lno (wanted_noB rfl rfl rfl h2 (by decide)) rfl ?_
    refine Lno (wanted_noB rfl rfl rfl h2 (by decide)) rfl ?_
    refine Lno (wanted_noB rfl rfl rfl h2 (by decide)) rfl ?_
    refine L0 (wanted_none rfl) rfl (y_pickF rfl rfl h2 rfl) ?_
    refine L0 (wanted_none rfl) rfl (y_assign (v := Value.bool _) rfl rfl) ?_
    refine Lnil ?_
    refine W_ret ?_
    refine fin1 (fn := Tryd.f82) rfl rfl ?_
    first | exact ⟨congrArg Value.bool (by rw [decide_eq_decide]; omega), hs1⟩ | exact ⟨congrArg Value.bool (decide_eq_false (by omega)).symm, hs1⟩
theorem yzeros_any (c : Int) (m : Nat) (hc : c = m) (h : m ≤ 100000) (w : World) : C Tryd.prog 88 ⟨[iv c]⟩ w fun v w' => v = str (List.replicate m 0) ∧ St w [] w' := by
  refine C_enter (n := 5) Tryd.func88 rfl rfl rfl (fun w1 hs1 => ?_)
  refine W_seq ?_
  refine W_region ?_
  refine L0 (wanted_none rfl) rfl (y_assign (v := Value.string ⟨⟨_⟩⟩) rfl rfl) ?_
  refine Lnil ?_
  refine W_seq ?_
  refine W_region ?_
  refine L0 (wanted_none rfl) rfl (y_move (v := Value.int _ _) rfl rfl) ?_
  refine Lc (wanted_none rfl) (c_call rfl rfl rfl Tryd.func17 (by kernel_rfl) rfl (zrepeat_int 0 c m hc h w1) rfl ?_)
  rintro _ w2 ⟨rfl, hc3⟩
  have hs4 := hs1.call0 hc3
  refine L0 (wanted_none rfl) rfl (y_assign (v := Value.string ⟨⟨_⟩⟩) rfl rfl) ?_
  refine Lnil ?_
  refine W_ret ?_
  refine fin1 (fn := Tryd.f88) rfl rfl ?_
  exact ⟨rfl, hs4⟩
theorem fillN_long {s : List UInt8} {n : Nat} (h : n ≤ s.length) : s.take n = fillN s n := by rw [fillN, List.take_append_of_le_length h]
theorem ylong_any (s : List UInt8) (n : Nat) (hs : s.length ≤ 100000) (hn : n ≤ 100000) (w : World) :
    C Tryd.prog 86 ⟨[str s, iv n]⟩ w fun v w' => v = str (fillN s n) ∧ St w [] w' := by
  refine C_enter (n := 19) Tryd.func86 rfl rfl rfl (fun w1 hs1 => ?_)
  refine W_seq ?_
  refine W_region ?_
  refine L0 (wanted_none rfl) rfl (y_assign (v := Value.string ⟨⟨_⟩⟩) rfl rfl) ?_
  refine Lnil ?_
  refine W_seq ?_
  refine W_seq ?_
  refine W_region ?_
  refine L0 (wanted_none rfl) rfl (y_move (v := Value.string ⟨⟨_⟩⟩) rfl rfl) ?_
  refine L0 (wanted_none rfl) rfl (y_len rfl Tryd.underlying9 rfl) ?_
  refine L0 (wanted_none rfl) rfl (y_move (v := Value.int _ _) rfl rfl) ?_
  refine L0 (wanted_none rfl) rfl (y_lt rfl rfl rfl) ?_
  refine Lnil ?_
  refine Wsp (t := 8) rfl (fun h2 => ?_) (fun h2 => ?_)
  · have h2' := h2
    first | replace h2' := of_decide_eq_true h2' | replace h2' := bnT' h2' | skip
    refine W_condT rfl h2 ?_
    refine W_region ?_
    refine L0 (wanted_none rfl) rfl (y_move (v := Value.string ⟨⟨_⟩⟩) rfl rfl) ?_
    refine L0 (wanted_none rfl) rfl (y_move (v := Value.int _ _) rfl rfl) ?_
    refine L0 (wanted_none rfl) rfl (y_move (v := Value.string ⟨⟨_⟩⟩) rfl rfl) ?_
    refine L0 (wanted_none rfl) rfl (y_len rfl Tryd.underlying9 rfl) ?_
    refine L0 (wanted_none rfl) rfl (y_sub64 rfl rfl rfl (by omega)) ?_
    refine Lc (wanted_none rfl) (c_call rfl rfl rfl Tryd.func88 (by kernel_rfl) rfl (yzeros_any _ (n - s.length) (by omega) (by omega) w1) rfl ?_)
    rintro _ w3 ⟨rfl, hc4⟩
    have hs5 := hs1.call0 hc4
    refine L0 (wanted_none rfl) rfl (y_scat rfl rfl rfl (by rw [List.length_replicate]; omega)) ?_
    refine L0 (wanted_none rfl) rfl (y_assign (v := Value.string ⟨⟨_⟩⟩) rfl rfl) ?_
    refine Lnil ?_
    refine W_seq ?_
    refine W_region ?_
    refine L0 (wanted_none rfl) rfl (y_move (v := Value.string ⟨⟨_⟩⟩) rfl rfl) ?_
    refine L0 (wanted_none rfl) rfl (y_move (v := Value.int _ _) rfl rfl) ?_
    refine L0 (wanted_none rfl) rfl (y_sslice_hi rfl Tryd.underlying9 rfl rfl (by first | (rw [List.length_append, List.length_replicate]; omega) | omega)) ?_
    refine L0 (wanted_none rfl) rfl (y_assign (v := Value.string ⟨⟨_⟩⟩) rfl rfl) ?_
    refine Lnil ?_
    refine W_ret ?_
    refine fin1 (fn := Tryd.f86) rfl rfl ?_
    first | exact ⟨congrArg str (fillN_long (by omega)), hs5⟩ | exact ⟨congrArg str (by rw [fillN_short (by omega), List.take_of_length_le (by rw [fillN_len]; omega)]), hs5⟩
  · have h2' := h2
    first | replace h2' := of_decide_eq_false h2' | replace h2' := bnF' h2' | skip
    refine W_condF rfl h2 ?_
    refine W_skip ?_
    refine W_seq ?_
    refine W_region ?_
    refine L0 (wanted_none rfl) rfl (y_move (v := Value.string ⟨⟨_⟩⟩) rfl rfl) ?_
    refine L0 (wanted_none rfl) rfl (y_move (v := Value.int _ _) rfl rfl) ?_
    refine L0 (wanted_none rfl) rfl (y_sslice_hi rfl Tryd.underlying9 rfl rfl (by first | (rw [List.length_append, List.length_replicate]; omega) | omega)) ?_
    refine L0 (wanted_none rfl) rfl (y_assign (v := Value.string ⟨⟨_⟩⟩) rfl rfl) ?_
    refine Lnil ?_
    refine W_ret ?_
    refine fin1 (fn := Tryd.f86) rfl rfl ?_
    first | exact ⟨congrArg str (fillN_long (by omega)), hs1⟩ | exact ⟨congrArg str (by rw [fillN_short (by omega), List.take_of_length_le (by rw [fillN_len]; omega)]), hs1⟩
section
variable {W0 : World} {K : Blocks} {b : Nat} {D : Dv} {w : World} {vz : Nat → Value} {vA vW : Value} {wA wW rows : Blocks} {k : Nat}
theorem spent_pos (h : RSt W0 K b D w vz vA vW wA wW rows) (hr : D.fuse ≤ 9223372036854775807) (hf : 0 < D.fuse) :
    C Tryd.prog 89 ⟨[pv b 0]⟩ w fun v w' => v = .bool (decide (D.fuse = 0)) ∧ RSt W0 K b { D with fuse := burnF D.fuse } w' vz vA vW wA wW rows := by
  refine C_enter (n := 20) Tryd.func89 rfl rfl rfl (fun w1 hs1 => ?_)
  have hs0 := (h.st.call0 hs1).perm List.perm_middle
  refine W_seq ?_
  refine W_region ?_
  refine L0 (wanted_none rfl) rfl (y_assign (v := Value.bool _) rfl rfl) ?_
  refine Lnil ?_
  refine W_seq ?_
  refine W_seq ?_
  refine W_region ?_
  refine L0 (wanted_none rfl) rfl (y_move (v := Value.pointer _) rfl rfl) ?_
  refine L0 (wanted_none rfl) rfl (y_nilCheck rfl rfl) ?_
  refine L0 (wanted_none rfl) rfl (y_fieldAddr rfl Tryd.underlying135 rfl sz3 rfl) ?_
  refine L1 (wanted_none rfl) rfl hs0 (y_load 0 rfl Tryd.underlying3 rfl rfl rfl rfl) ?_
  refine L0 (wanted_none rfl) rfl (y_gt rfl rfl rfl) ?_
  refine Lnil ?_
  refine Wkn (t := 7) (b0 := true) rfl (by first | exact decide_eq_true (by omega) | exact bnT (by omega) | (simp; omega)) (fun h2 => ?_)
  refine W_condT rfl h2 ?_
  refine W_seq ?_
  refine W_region ?_
  refine L0 (wanted_none rfl) rfl (y_move (v := Value.pointer _) rfl rfl) ?_
  refine L0 (wanted_none rfl) rfl (y_nilCheck rfl rfl) ?_
  refine L0 (wanted_none rfl) rfl (y_fieldAddr rfl Tryd.underlying135 rfl sz3 rfl) ?_
  refine L1 (wanted_none rfl) rfl hs0 (y_load 0 rfl Tryd.underlying3 rfl rfl rfl rfl) ?_
  refine L0 (wanted_none rfl) rfl (y_sub64 rfl rfl rfl (by omega)) ?_
  refine L0 (wanted_none rfl) rfl (y_nilCheck rfl rfl) ?_
  refine L0 (wanted_none rfl) rfl (y_fieldAddr rfl Tryd.underlying135 rfl sz3 rfl) ?_
  refine Lc (wanted_none rfl) (c_store (i := 0) (v := iv (D.fuse - 1)) hs0 rfl rfl rfl rfl sz3 rfl rfl (by (show 20 < 21; omega)) (Fz.zero _) (fun w3 hs4 => ?_))
  have hs4 := hs4.at0 (c' := ⟨rcells vz D.sure D.slot vA vW (D.fuse - 1)⟩) rfl
  refine Lnil ?_
  refine W_seq ?_
  refine W_region ?_
  refine L0 (wanted_none rfl) rfl (y_assign (v := Value.bool _) rfl rfl) ?_
  refine Lnil ?_
  refine W_ret ?_
  refine fin1 (fn := Tryd.f89) rfl rfl ?_
  refine ⟨congrArg Value.bool (decide_eq_false (by omega)).symm, ?_⟩
  rw [show burnF D.fuse = D.fuse - 1 from if_pos hf]
  exact ⟨hs4.re (fun a => by simp only [ct_append, ct_cons]; omega), h.rz, h.rA, h.rW, h.newb, h.newr⟩
theorem spent_np (h : RSt W0 K b D w vz vA vW wA wW rows) (hf : ¬ 0 < D.fuse) :
    C Tryd.prog 89 ⟨[pv b 0]⟩ w fun v w' => v = .bool (decide (D.fuse = 0)) ∧ RSt W0 K b { D with fuse := burnF D.fuse } w' vz vA vW wA wW rows := by
  refine C_enter (n := 20) Tryd.func89 rfl rfl rfl (fun w1 hs1 => ?_)
  have hs0 := (h.st.call0 hs1).perm List.perm_middle
  refine W_seq ?_
  refine W_region ?_
  refine L0 (wanted_none rfl) rfl (y_assign (v := Value.bool _) rfl rfl) ?_
  refine Lnil ?_
  refine W_seq ?_
  refine W_seq ?_
  refine W_region ?_
  refine L0 (wanted_none rfl) rfl (y_move (v := Value.pointer _) rfl rfl) ?_
  refine L0 (wanted_none rfl) rfl (y_nilCheck rfl rfl) ?_
  refine L0 (wanted_none rfl) rfl (y_fieldAddr rfl Tryd.underlying135 rfl sz3 rfl) ?_
  refine L1 (wanted_none rfl) rfl hs0 (y_load 0 rfl Tryd.underlying3 rfl rfl rfl rfl) ?_
  refine L0 (wanted_none rfl) rfl (y_gt rfl rfl rfl) ?_
  refine Lnil ?_
  refine Wkn (t := 7) (b0 := false) rfl (by first | exact decide_eq_false (by omega) | exact bnF (by omega) | (simp; omega)) (fun h2 => ?_)
  refine W_condF rfl h2 ?_
  refine W_skip ?_
  refine W_seq ?_
  refine W_region ?_
  refine L0 (wanted_none rfl) rfl (y_move (v := Value.pointer _) rfl rfl) ?_
  refine L0 (wanted_none rfl) rfl (y_nilCheck rfl rfl) ?_
  refine L0 (wanted_none rfl) rfl (y_fieldAddr rfl Tryd.underlying135 rfl sz3 rfl) ?_
  refine L1 (wanted_none rfl) rfl hs0 (y_load 0 rfl Tryd.underlying3 rfl rfl rfl rfl) ?_
  refine L0 (wanted_none rfl) rfl (y_eq rfl rfl rfl) ?_
  refine L0 (wanted_none rfl) rfl (y_assign (v := Value.bool _) rfl rfl) ?_
  refine Lnil ?_
  refine W_ret ?_
  refine fin1 (fn := Tryd.f89) rfl rfl ?_
  refine ⟨rfl, ?_⟩
  rw [show burnF D.fuse = D.fuse from if_neg hf]
  exact ⟨hs0.perm List.perm_middle.symm, h.rz, h.rA, h.rW, h.newb, h.newr⟩
theorem spent_ok (h : RSt W0 K b D w vz vA vW wA wW rows) (hr : D.fuse ≤ 9223372036854775807) :
    C Tryd.prog 89 ⟨[pv b 0]⟩ w fun v w' => v = .bool (decide (D.fuse = 0)) ∧ RSt W0 K b { D with fuse := burnF D.fuse } w' vz vA vW wA wW rows := by
  by_cases hf : 0 < D.fuse
  · exact spent_pos h hr hf
  · exact spent_np h hf
theorem rfuse_ok (h : RSt W0 K b D w vz vA vW wA wW rows) (n : Int) :
    C Tryd.prog 41 ⟨[pv b 0, iv n]⟩ w fun v w' => v = .tuple #[] ∧ RSt W0 K b (fusD D n) w' vz vA vW wA wW rows := by
  refine C_enter (n := 13) Tryd.func41 rfl rfl rfl (fun w1 hs1 => ?_)
  have hs0 := (h.st.call0 hs1).perm List.perm_middle
  refine W_seq ?_
  refine W_region ?_
  refine L0 (wanted_none rfl) rfl (y_move (v := Value.pointer _) rfl rfl) ?_
  refine L0 (wanted_none rfl) rfl (y_move (v := Value.int _ _) rfl rfl) ?_
  refine L0 (wanted_none rfl) rfl (y_nilCheck rfl rfl) ?_
  refine L0 (wanted_none rfl) rfl (y_fieldAddr rfl Tryd.underlying135 rfl sz3 rfl) ?_
  refine Lc (wanted_none rfl) (c_store (i := 0) (v := iv n) hs0 rfl rfl rfl rfl sz3 rfl rfl (by (show 20 < 21; omega)) (Fz.zero _) (fun w2 hs3 => ?_))
  have hs3 := hs3.at0 (c' := ⟨rcells vz D.sure D.slot vA vW n⟩) rfl
  refine Lnil ?_
  refine W_seq ?_
  refine W_region ?_
  refine L0 (wanted_none rfl) rfl (y_move (v := Value.int _ _) rfl rfl) ?_
  refine L0 (wanted_none rfl) rfl (y_lt rfl rfl rfl) ?_
  refine Lnil ?_
  refine Wsp (t := 9) rfl (fun h4 => ?_) (fun h4 => ?_)
  · have h4' := h4
    first | replace h4' := of_decide_eq_true h4' | replace h4' := bnT' h4' | skip
    refine W_condT rfl h4 ?_
    refine W_region ?_
    refine L0 (wanted_none rfl) rfl (y_move (v := Value.pointer _) rfl rfl) ?_
    refine L0 (wanted_none rfl) rfl (y_nilCheck rfl rfl) ?_
    refine L0 (wanted_none rfl) rfl (y_fieldAddr rfl Tryd.underlying135 rfl sz3 rfl) ?_
    refine Lc (wanted_none rfl) (c_store (i := 0) (v := iv (-1)) hs3 rfl rfl rfl rfl sz3 rfl rfl (by (show 20 < 21; omega)) (Fz.zero _) (fun w5 hs6 => ?_))
    have hs6 := hs6.at0 (c' := ⟨rcells vz D.sure D.slot vA vW (-1)⟩) rfl
    refine Lnil ?_
    refine fin0 (fn := Tryd.f41) rfl ?_
    have e : fusD D n = { D with fuse := -1 } := by rw [fusD, show max n (-1) = -1 by omega]
    rw [e]
    exact ⟨rfl, hs6.re (fun a => by simp only [ct_append, ct_cons]; omega), h.rz, h.rA, h.rW, h.newb, h.newr⟩
  · have h4' := h4
    first | replace h4' := of_decide_eq_false h4' | replace h4' := bnF' h4' | skip
    refine W_condF rfl h4 ?_
    refine W_skip ?_
    refine fin0 (fn := Tryd.f41) rfl ?_
    have e : fusD D n = { D with fuse := n } := by rw [fusD, show max n (-1) = n by omega]
    rw [e]
    exact ⟨rfl, hs3.re (fun a => by simp only [ct_append, ct_cons]; omega), h.rz, h.rA, h.rW, h.newb, h.newr⟩
theorem have_e2 (i : Int) (hi : i < 0 ∨ 8 ≤ i) : C Tryd.prog 49 ⟨[pv b 0, iv i]⟩ w fun v w' => v = .tuple #[iv 0, iv 2] ∧ St w [] w' := by
  refine C_enter (n := 16) Tryd.func49 rfl rfl rfl (fun w1 hs1 => ?_)
  refine W_seq ?_
  refine W_region ?_
  refine L0 (wanted_none rfl) rfl (y_assign (v := Value.int _ _) rfl rfl) ?_
  refine L0 (wanted_none rfl) rfl (y_assign (v := Value.int _ _) rfl rfl) ?_
  refine Lnil ?_
  refine W_seq ?_
  refine W_seq ?_
  refine W_region ?_
  refine L0 (wanted_none rfl) rfl (y_move (v := Value.int _ _) rfl rfl) ?_
  refine Lc (wanted_none rfl) (c_call rfl rfl rfl Tryd.func82 (by kernel_rfl) rfl (rin_any i 0 7 w1) rfl ?_)
  rintro _ w2 ⟨rfl, hc3⟩
  have hs4 := hs1.call0 hc3
  refine L0 (wanted_none rfl) rfl (y_not rfl rfl) ?_
  refine Lnil ?_
  refine Wkn (t := 8) (b0 := true) rfl (by first | exact decide_eq_true (by omega) | exact bnT (by omega) | (simp; omega)) (fun h5 => ?_)
  refine W_condT rfl h5 ?_
  refine W_seq ?_
  refine W_region ?_
  refine L0 (wanted_none rfl) rfl (y_assign (v := Value.int _ _) rfl rfl) ?_
  refine L0 (wanted_none rfl) rfl (y_assign (v := Value.int _ _) rfl rfl) ?_
  refine Lnil ?_
  refine W_ret ?_
  refine fin2 (fn := Tryd.f49) rfl rfl rfl ?_
  exact ⟨rfl, hs4⟩
theorem have_ok (h : RSt W0 K b D w vz vA vW wA wW rows) (i : Int) (h0 : 0 ≤ i) (h1 : i < 8) : C Tryd.prog 49 ⟨[pv b 0, iv i]⟩ w fun v w' => v = .tuple #[iv (D.z i.toNat).length, iv 0] ∧ St w [] w' := by
  have hd := h.has
  refine C_enter (n := 16) Tryd.func49 rfl rfl rfl (fun w1 hs1 => ?_)
  refine W_seq ?_
  refine W_region ?_
  refine L0 (wanted_none rfl) rfl (y_assign (v := Value.int _ _) rfl rfl) ?_
  refine L0 (wanted_none rfl) rfl (y_assign (v := Value.int _ _) rfl rfl) ?_
  refine Lnil ?_
  refine W_seq ?_
  refine W_seq ?_
  refine W_region ?_
  refine L0 (wanted_none rfl) rfl (y_move (v := Value.int _ _) rfl rfl) ?_
  refine Lc (wanted_none rfl) (c_call rfl rfl rfl Tryd.func82 (by kernel_rfl) rfl (rin_any i 0 7 w1) rfl ?_)
  rintro _ w2 ⟨rfl, hc3⟩
  have hs4 := hs1.call0 hc3
  refine L0 (wanted_none rfl) rfl (y_not rfl rfl) ?_
  refine Lnil ?_
  refine Wkn (t := 8) (b0 := false) rfl (by first | exact decide_eq_false (by omega) | exact bnF (by omega) | (simp; omega)) (fun h5 => ?_)
  refine W_condF rfl h5 ?_
  refine W_skip ?_
  refine W_seq ?_
  refine W_region ?_
  refine L0 (wanted_none rfl) rfl (y_move (v := Value.pointer _) rfl rfl) ?_
  refine L0 (wanted_none rfl) rfl (y_move (v := Value.int _ _) rfl rfl) ?_
  refine L0 (wanted_none rfl) rfl (y_nilCheck rfl rfl) ?_
  refine L0 (wanted_none rfl) rfl (y_fieldAddr rfl Tryd.underlying135 rfl sz29 rfl) ?_
  refine L0 (wanted_none rfl) rfl (y_indexArr rfl Tryd.underlying29 sz22 rfl rfl (by omega) (by omega)) ?_
  refine L1 (wanted_none rfl) rfl hs4 ((y_loadOld rfl Tryd.underlying22 rfl rfl (dc_old hd (rc_z _ _ _ _ _ _ h0 h1)) (by simp [keys]))) ?_
  refine L0 (wanted_none rfl) rfl (y_slenSl rfl Tryd.underlying22 rfl (h.sl (by omega))) ?_
  refine L0 (wanted_none rfl) rfl (y_assign (v := Value.int _ _) rfl rfl) ?_
  refine L0 (wanted_none rfl) rfl (y_assign (v := Value.int _ _) rfl rfl) ?_
  refine Lnil ?_
  refine W_ret ?_
  refine fin2 (fn := Tryd.f49) rfl rfl rfl ?_
  exact ⟨rfl, hs4⟩
theorem have_all (h : RSt W0 K b D w vz vA vW wA wW rows) (i : Int) :
    C Tryd.prog 49 ⟨[pv b 0, iv i]⟩ w fun v w' => v = .tuple #[iv (atN D i), iv (atE i)] ∧ St w [] w' := by
  by_cases h1 : i < 0 ∨ 8 ≤ i
  · rw [atN, atE, if_pos h1, if_pos h1]; exact have_e2 i h1
  · rw [atN, atE, if_neg h1, if_neg h1]; exact have_ok h i (by omega) (by omega)
theorem rread_e2 (i c : Int) (hi : i < 0 ∨ 8 ≤ i) : C Tryd.prog 50 ⟨[pv b 0, iv i, iv c]⟩ w fun v w' => v = .tuple #[str [], iv 2] ∧ St w [] w' := by
  refine C_enter (n := 31) Tryd.func50 rfl rfl rfl (fun w1 hs1 => ?_)
  refine W_seq ?_
  refine W_region ?_
  refine L0 (wanted_none rfl) rfl (y_assign (v := Value.string ⟨⟨_⟩⟩) rfl rfl) ?_
  refine L0 (wanted_none rfl) rfl (y_assign (v := Value.int _ _) rfl rfl) ?_
  refine Lnil ?_
  refine W_seq ?_
  refine W_seq ?_
  refine W_region ?_
  refine L0 (wanted_none rfl) rfl (y_move (v := Value.int _ _) rfl rfl) ?_
  refine Lc (wanted_none rfl) (c_call rfl rfl rfl Tryd.func82 (by kernel_rfl) rfl (rin_any i 0 7 w1) rfl ?_)
  rintro _ w2 ⟨rfl, hc3⟩
  have hs4 := hs1.call0 hc3
  refine L0 (wanted_none rfl) rfl (y_not rfl rfl) ?_
  refine Lnil ?_
  refine Wkn (t := 10) (b0 := true) rfl (by first | exact decide_eq_true (by omega) | exact bnT (by omega) | (simp; omega)) (fun h5 => ?_)
  refine W_condT rfl h5 ?_
  refine W_seq ?_
  refine W_region ?_
  refine L0 (wanted_none rfl) rfl (y_assign (v := Value.string ⟨⟨_⟩⟩) rfl rfl) ?_
  refine L0 (wanted_none rfl) rfl (y_assign (v := Value.int _ _) rfl rfl) ?_
  refine Lnil ?_
  refine W_ret ?_
  refine fin2 (fn := Tryd.f50) rfl rfl rfl ?_
  exact ⟨rfl, hs4⟩
theorem rread_e7 (h : RSt W0 K b D w vz vA vW wA wW rows) (i c : Int) (h0 : 0 ≤ i) (h1 : i < 8) (hl : (D.z i.toNat).length ≤ 16) (hc : c < 0 ∨ (D.z i.toNat).length ≤ c) : C Tryd.prog 50 ⟨[pv b 0, iv i, iv c]⟩ w fun v w' => v = .tuple #[str [], iv 7] ∧ St w [] w' := by
  have hd := h.has
  refine C_enter (n := 31) Tryd.func50 rfl rfl rfl (fun w1 hs1 => ?_)
  refine W_seq ?_
  refine W_region ?_
  refine L0 (wanted_none rfl) rfl (y_assign (v := Value.string ⟨⟨_⟩⟩) rfl rfl) ?_
  refine L0 (wanted_none rfl) rfl (y_assign (v := Value.int _ _) rfl rfl) ?_
  refine Lnil ?_
  refine W_seq ?_
  refine W_seq ?_
  refine W_region ?_
  refine L0 (wanted_none rfl) rfl (y_move (v := Value.int _ _) rfl rfl) ?_
  refine Lc (wanted_none rfl) (c_call rfl rfl rfl Tryd.func82 (by kernel_rfl) rfl (rin_any i 0 7 w1) rfl ?_)
  rintro _ w2 ⟨rfl, hc3⟩
  have hs4 := hs1.call0 hc3
  refine L0 (wanted_none rfl) rfl (y_not rfl rfl) ?_
  refine Lnil ?_
  refine Wkn (t := 10) (b0 := false) rfl (by first | exact decide_eq_false (by omega) | exact bnF (by omega) | (simp; omega)) (fun h5 => ?_)
  refine W_condF rfl h5 ?_
  refine W_skip ?_
  refine W_seq ?_
  refine W_seq ?_
  refine W_region ?_
  refine L0 (wanted_none rfl) rfl (y_move (v := Value.int _ _) rfl rfl) ?_
  refine L0 (wanted_none rfl) rfl (y_move (v := Value.pointer _) rfl rfl) ?_
  refine L0 (wanted_none rfl) rfl (y_move (v := Value.int _ _) rfl rfl) ?_
  refine L0 (wanted_none rfl) rfl (y_nilCheck rfl rfl) ?_
  refine L0 (wanted_none rfl) rfl (y_fieldAddr rfl Tryd.underlying135 rfl sz29 rfl) ?_
  refine L0 (wanted_none rfl) rfl (y_indexArr rfl Tryd.underlying29 sz22 rfl rfl (by omega) (by omega)) ?_
  refine L1 (wanted_none rfl) rfl hs4 ((y_loadOld rfl Tryd.underlying22 rfl rfl (dc_old hd (rc_z _ _ _ _ _ _ h0 h1)) (by simp [keys]))) ?_
  refine L0 (wanted_none rfl) rfl (y_slenSl rfl Tryd.underlying22 rfl (h.sl (by omega))) ?_
  refine L0 (wanted_none rfl) rfl (y_sub64 rfl rfl rfl (by omega)) ?_
  refine Lc (wanted_none rfl) (c_call rfl rfl rfl Tryd.func82 (by kernel_rfl) rfl (rin_any c 0 _ w2) rfl ?_)
  rintro _ w6 ⟨rfl, hc7⟩
  have hs8 := hs4.call0 hc7
  refine L0 (wanted_none rfl) rfl (y_not rfl rfl) ?_
  refine Lnil ?_
  refine Wkn (t := 21) (b0 := true) rfl (by first | exact decide_eq_true (by omega) | exact bnT (by omega) | (simp; omega)) (fun h9 => ?_)
  refine W_condT rfl h9 ?_
  refine W_seq ?_
  refine W_region ?_
  refine L0 (wanted_none rfl) rfl (y_assign (v := Value.string ⟨⟨_⟩⟩) rfl rfl) ?_
  refine L0 (wanted_none rfl) rfl (y_assign (v := Value.int _ _) rfl rfl) ?_
  refine Lnil ?_
  refine W_ret ?_
  refine fin2 (fn := Tryd.f50) rfl rfl rfl ?_
  exact ⟨rfl, hs8⟩
theorem rread_ok (h : RSt W0 K b D w vz vA vW wA wW rows) (i c : Int) (h0 : 0 ≤ i) (h1 : i < 8) (hl : (D.z i.toNat).length ≤ 16) (c0 : 0 ≤ c) (c1 : c < (D.z i.toNat).length) : C Tryd.prog 50 ⟨[pv b 0, iv i, iv c]⟩ w fun v w' => v = .tuple #[str ((D.z i.toNat).getD c.toNat []), iv 0] ∧ St w [] w' := by
  have hd := h.has
  have hz := h.sl (j := i.toNat) (by omega)
  refine C_enter (n := 31) Tryd.func50 rfl rfl rfl (fun w1 hs1 => ?_)
  refine W_seq ?_
  refine W_region ?_
  refine L0 (wanted_none rfl) rfl (y_assign (v := Value.string ⟨⟨_⟩⟩) rfl rfl) ?_
  refine L0 (wanted_none rfl) rfl (y_assign (v := Value.int _ _) rfl rfl) ?_
  refine Lnil ?_
  refine W_seq ?_
  refine W_seq ?_
  refine W_region ?_
  refine L0 (wanted_none rfl) rfl (y_move (v := Value.int _ _) rfl rfl) ?_
  refine Lc (wanted_none rfl) (c_call rfl rfl rfl Tryd.func82 (by kernel_rfl) rfl (rin_any i 0 7 w1) rfl ?_)
  rintro _ w2 ⟨rfl, hc3⟩
  have hs4 := hs1.call0 hc3
  refine L0 (wanted_none rfl) rfl (y_not rfl rfl) ?_
  refine Lnil ?_
  refine Wkn (t := 10) (b0 := false) rfl (by first | exact decide_eq_false (by omega) | exact bnF (by omega) | (simp; omega)) (fun h5 => ?_)
  refine W_condF rfl h5 ?_
  refine W_skip ?_
  refine W_seq ?_
  refine W_seq ?_
  refine W_region ?_
  refine L0 (wanted_none rfl) rfl (y_move (v := Value.int _ _) rfl rfl) ?_
  refine L0 (wanted_none rfl) rfl (y_move (v := Value.pointer _) rfl rfl) ?_
  refine L0 (wanted_none rfl) rfl (y_move (v := Value.int _ _) rfl rfl) ?_
  refine L0 (wanted_none rfl) rfl (y_nilCheck rfl rfl) ?_
  refine L0 (wanted_none rfl) rfl (y_fieldAddr rfl Tryd.underlying135 rfl sz29 rfl) ?_
  refine L0 (wanted_none rfl) rfl (y_indexArr rfl Tryd.underlying29 sz22 rfl rfl (by omega) (by omega)) ?_
  refine L1 (wanted_none rfl) rfl hs4 ((y_loadOld rfl Tryd.underlying22 rfl rfl (dc_old hd (rc_z _ _ _ _ _ _ h0 h1)) (by simp [keys]))) ?_
  refine L0 (wanted_none rfl) rfl (y_slenSl rfl Tryd.underlying22 rfl hz) ?_
  refine L0 (wanted_none rfl) rfl (y_sub64 rfl rfl rfl (by omega)) ?_
  refine Lc (wanted_none rfl) (c_call rfl rfl rfl Tryd.func82 (by kernel_rfl) rfl (rin_any c 0 _ w2) rfl ?_)
  rintro _ w6 ⟨rfl, hc7⟩
  have hs8 := hs4.call0 hc7
  refine L0 (wanted_none rfl) rfl (y_not rfl rfl) ?_
  refine Lnil ?_
  refine Wkn (t := 21) (b0 := false) rfl (by first | exact decide_eq_false (by omega) | exact bnF (by omega) | (simp; omega)) (fun h9 => ?_)
  refine W_condF rfl h9 ?_
  refine W_skip ?_
  refine W_seq ?_
  refine W_region ?_
  refine L0 (wanted_none rfl) rfl (y_move (v := Value.pointer _) rfl rfl) ?_
  refine L0 (wanted_none rfl) rfl (y_move (v := Value.int _ _) rfl rfl) ?_
  refine L0 (wanted_none rfl) rfl (y_nilCheck rfl rfl) ?_
  refine L0 (wanted_none rfl) rfl (y_fieldAddr rfl Tryd.underlying135 rfl sz29 rfl) ?_
  refine L0 (wanted_none rfl) rfl (y_indexArr rfl Tryd.underlying29 sz22 rfl rfl (by omega) (by omega)) ?_
  refine L1 (wanted_none rfl) rfl hs8 ((y_loadOld rfl Tryd.underlying22 rfl rfl (dc_old hd (rc_z _ _ _ _ _ _ h0 h1)) (by simp [keys]))) ?_
  refine L0 (wanted_none rfl) rfl (y_move (v := Value.int _ _) rfl rfl) ?_
  refine L0 (wanted_none rfl) rfl (y_indexSlAt rfl Tryd.underlying22 sz9 rfl rfl hz (by omega) (by omega)) ?_
  refine L1 (wanted_none rfl) rfl hs8 ((y_loadSl c.toNat rfl Tryd.underlying9 rfl rfl hz rfl (by omega) (by simp [keys]))) ?_
  refine L0 (wanted_none rfl) rfl (y_assign (v := Value.string ⟨⟨_⟩⟩) rfl rfl) ?_
  refine L0 (wanted_none rfl) rfl (y_assign (v := Value.int _ _) rfl rfl) ?_
  refine Lnil ?_
  refine W_ret ?_
  refine fin2 (fn := Tryd.f50) rfl rfl rfl ?_
  exact ⟨rfl, hs8⟩
theorem rread_all (h : RSt W0 K b D w vz vA vW wA wW rows) (hi : DInv D k) (i c : Int) :
    C Tryd.prog 50 ⟨[pv b 0, iv i, iv c]⟩ w fun v w' => v = .tuple #[str (redS D i c), iv (redE D i c)] ∧ St w [] w' := by
  by_cases h1 : i < 0 ∨ 8 ≤ i
  · have e : redE D i c = 2 := if_pos h1
    rw [redS, e]; exact rread_e2 i c h1
  have hl := (hi.z i.toNat (by omega)).2
  by_cases h2 : c < 0 ∨ (D.z i.toNat).length ≤ c
  · have e : redE D i c = 7 := by rw [redE, if_neg h1, if_pos h2]
    rw [redS, e]; exact rread_e7 h i c (by omega) (by omega) hl h2
  have e : redE D i c = 0 := by rw [redE, if_neg h1, if_neg h2]
  rw [redS, e, if_pos rfl]; exact rread_ok h i c (by omega) (by omega) hl (by omega) (by omega)
theorem rapp_e2 (i : Int) (s : List UInt8) (hi : i < 0 ∨ 8 ≤ i) : C Tryd.prog 33 ⟨[pv b 0, iv i, str s]⟩ w fun v w' => v = .tuple #[iv 0, iv 2] ∧ St w [] w' := by
  refine C_enter (n := 49) Tryd.func33 rfl rfl rfl (fun w1 hs1 => ?_)
  refine W_seq ?_
  refine W_region ?_
  refine L0 (wanted_none rfl) rfl (y_assign (v := Value.int _ _) rfl rfl) ?_
  refine L0 (wanted_none rfl) rfl (y_assign (v := Value.int _ _) rfl rfl) ?_
  refine Lnil ?_
  refine W_seq ?_
  refine W_seq ?_
  refine W_region ?_
  refine L0 (wanted_none rfl) rfl (y_move (v := Value.int _ _) rfl rfl) ?_
  refine Lc (wanted_none rfl) (c_call rfl rfl rfl Tryd.func82 (by kernel_rfl) rfl (rin_any i 0 7 w1) rfl ?_)
  rintro _ w2 ⟨rfl, hc3⟩
  have hs4 := hs1.call0 hc3
  refine L0 (wanted_none rfl) rfl (y_not rfl rfl) ?_
  refine Lnil ?_
  refine Wkn (t := 10) (b0 := true) rfl (by first | exact decide_eq_true (by omega) | exact bnT (by omega) | (simp; omega)) (fun h5 => ?_)
  refine W_condT rfl h5 ?_
  refine W_seq ?_
  refine W_region ?_
  refine L0 (wanted_none rfl) rfl (y_assign (v := Value.int _ _) rfl rfl) ?_
  refine L0 (wanted_none rfl) rfl (y_assign (v := Value.int _ _) rfl rfl) ?_
  refine Lnil ?_
  refine W_ret ?_
  refine fin2 (fn := Tryd.f33) rfl rfl rfl ?_
  exact ⟨rfl, hs4⟩
theorem rapp_e4 (i : Int) (s : List UInt8) (h0 : 0 ≤ i) (h1 : i < 8) (hs : 128 < s.length) : C Tryd.prog 33 ⟨[pv b 0, iv i, str s]⟩ w fun v w' => v = .tuple #[iv 0, iv 4] ∧ St w [] w' := by
  refine C_enter (n := 49) Tryd.func33 rfl rfl rfl (fun w1 hs1 => ?_)
  refine W_seq ?_
  refine W_region ?_
  refine L0 (wanted_none rfl) rfl (y_assign (v := Value.int _ _) rfl rfl) ?_
  refine L0 (wanted_none rfl) rfl (y_assign (v := Value.int _ _) rfl rfl) ?_
  refine Lnil ?_
  refine W_seq ?_
  refine W_seq ?_
  refine W_region ?_
  refine L0 (wanted_none rfl) rfl (y_move (v := Value.int _ _) rfl rfl) ?_
  refine Lc (wanted_none rfl) (c_call rfl rfl rfl Tryd.func82 (by kernel_rfl) rfl (rin_any i 0 7 w1) rfl ?_)
  rintro _ w2 ⟨rfl, hc3⟩
  have hs4 := hs1.call0 hc3
  refine L0 (wanted_none rfl) rfl (y_not rfl rfl) ?_
  refine Lnil ?_
  refine Wkn (t := 10) (b0 := false) rfl (by first | exact decide_eq_false (by omega) | exact bnF (by omega) | (simp; omega)) (fun h5 => ?_)
  refine W_condF rfl h5 ?_
  refine W_skip ?_
  refine W_seq ?_
  refine W_seq ?_
  refine W_region ?_
  refine L0 (wanted_none rfl) rfl (y_move (v := Value.string ⟨⟨_⟩⟩) rfl rfl) ?_
  refine L0 (wanted_none rfl) rfl (y_len rfl Tryd.underlying9 rfl) ?_
  refine L0 (wanted_none rfl) rfl (y_gt rfl rfl rfl) ?_
  refine Lnil ?_
  refine Wkn (t := 13) (b0 := true) rfl (by first | exact decide_eq_true (by omega) | exact bnT (by omega) | (simp; omega)) (fun h6 => ?_)
  refine W_condT rfl h6 ?_
  refine W_seq ?_
  refine W_region ?_
  refine L0 (wanted_none rfl) rfl (y_assign (v := Value.int _ _) rfl rfl) ?_
  refine L0 (wanted_none rfl) rfl (y_assign (v := Value.int _ _) rfl rfl) ?_
  refine Lnil ?_
  refine W_ret ?_
  refine fin2 (fn := Tryd.f33) rfl rfl rfl ?_
  exact ⟨rfl, hs4⟩
theorem rapp_e12 (h : RSt W0 K b D w vz vA vW wA wW rows) (i : Int) (s : List UInt8) (h0 : 0 ≤ i) (h1 : i < 8) (hs : s.length ≤ 128) (hl : (D.z i.toNat).length = 16) : C Tryd.prog 33 ⟨[pv b 0, iv i, str s]⟩ w fun v w' => v = .tuple #[iv 0, iv 12] ∧ St w [] w' := by
  have hd := h.has
  refine C_enter (n := 49) Tryd.func33 rfl rfl rfl (fun w1 hs1 => ?_)
  refine W_seq ?_
  refine W_region ?_
  refine L0 (wanted_none rfl) rfl (y_assign (v := Value.int _ _) rfl rfl) ?_
  refine L0 (wanted_none rfl) rfl (y_assign (v := Value.int _ _) rfl rfl) ?_
  refine Lnil ?_
  refine W_seq ?_
  refine W_seq ?_
  refine W_region ?_
  refine L0 (wanted_none rfl) rfl (y_move (v := Value.int _ _) rfl rfl) ?_
  refine Lc (wanted_none rfl) (c_call rfl rfl rfl Tryd.func82 (by kernel_rfl) rfl (rin_any i 0 7 w1) rfl ?_)
  rintro _ w2 ⟨rfl, hc3⟩
  have hs4 := hs1.call0 hc3
  refine L0 (wanted_none rfl) rfl (y_not rfl rfl) ?_
  refine Lnil ?_
  refine Wkn (t := 10) (b0 := false) rfl (by first | exact decide_eq_false (by omega) | exact bnF (by omega) | (simp; omega)) (fun h5 => ?_)
  refine W_condF rfl h5 ?_
  refine W_skip ?_
  refine W_seq ?_
  refine W_seq ?_
  refine W_region ?_
  refine L0 (wanted_none rfl) rfl (y_move (v := Value.string ⟨⟨_⟩⟩) rfl rfl) ?_
  refine L0 (wanted_none rfl) rfl (y_len rfl Tryd.underlying9 rfl) ?_
  refine L0 (wanted_none rfl) rfl (y_gt rfl rfl rfl) ?_
  refine Lnil ?_
  refine Wkn (t := 13) (b0 := false) rfl (by first | exact decide_eq_false (by omega) | exact bnF (by omega) | (simp; omega)) (fun h6 => ?_)
  refine W_condF rfl h6 ?_
  refine W_skip ?_
  refine W_seq ?_
  refine W_seq ?_
  refine W_region ?_
  refine L0 (wanted_none rfl) rfl (y_move (v := Value.pointer _) rfl rfl) ?_
  refine L0 (wanted_none rfl) rfl (y_move (v := Value.int _ _) rfl rfl) ?_
  refine L0 (wanted_none rfl) rfl (y_nilCheck rfl rfl) ?_
  refine L0 (wanted_none rfl) rfl (y_fieldAddr rfl Tryd.underlying135 rfl sz29 rfl) ?_
  refine L0 (wanted_none rfl) rfl (y_indexArr rfl Tryd.underlying29 sz22 rfl rfl (by omega) (by omega)) ?_
  refine L1 (wanted_none rfl) rfl hs4 ((y_loadOld rfl Tryd.underlying22 rfl rfl (dc_old hd (rc_z _ _ _ _ _ _ h0 h1)) (by simp [keys]))) ?_
  refine L0 (wanted_none rfl) rfl (y_slenSl rfl Tryd.underlying22 rfl (h.sl (by omega))) ?_
  refine L0 (wanted_none rfl) rfl (y_ge rfl rfl rfl) ?_
  refine Lnil ?_
  refine Wkn (t := 21) (b0 := true) rfl (by first | exact decide_eq_true (by omega) | exact bnT (by omega) | (simp; omega)) (fun h7 => ?_)
  refine W_condT rfl h7 ?_
  refine W_seq ?_
  refine W_region ?_
  refine L0 (wanted_none rfl) rfl (y_assign (v := Value.int _ _) rfl rfl) ?_
  refine L0 (wanted_none rfl) rfl (y_assign (v := Value.int _ _) rfl rfl) ?_
  refine Lnil ?_
  refine W_ret ?_
  refine fin2 (fn := Tryd.f33) rfl rfl rfl ?_
  exact ⟨rfl, hs4⟩
theorem RSt.call0 (h : RSt W0 K b D w vz vA vW wA wW rows) {w' : World} (h' : St w [] w') : RSt W0 K b D w' vz vA vW wA wW rows := h.drewn (h.st.call0 h')
theorem rapp_ok (h : RSt W0 K b D w vz vA vW wA wW rows) (hi : DInv D k) (i : Int) (s : List UInt8) (h0 : 0 ≤ i) (h1 : i < 8) (hs : s.length ≤ 128) (hl : (D.z i.toNat).length < 16) :
    C Tryd.prog 33 ⟨[pv b 0, iv i, str s]⟩ w fun v w' => (D.fuse = 0 → ∃ vz' rows', v = .tuple #[iv 0, iv 14] ∧ RSt W0 K b D w' vz' vA vW wA wW rows') ∧ (D.fuse ≠ 0 → ∃ vz' rows', v = .tuple #[iv (D.z i.toNat).length, iv 0] ∧ RSt W0 K b { D with z := updF D.z i.toNat (D.z i.toNat ++ [fillN s 128]), fuse := burnF D.fuse } w' vz' vA vW wA wW rows') := by
  have hj : i.toNat < 8 := by omega
  have hz2 := h.rz _ hj
  refine C_enter (n := 49) Tryd.func33 rfl rfl rfl (fun w1 hs1 => ?_)
  have hs0 := (h.st.call0 hs1).perm List.perm_middle
  refine W_seq ?_
  refine W_region ?_
  refine L0 (wanted_none rfl) rfl (y_assign (v := Value.int _ _) rfl rfl) ?_
  refine L0 (wanted_none rfl) rfl (y_assign (v := Value.int _ _) rfl rfl) ?_
  refine Lnil ?_
  refine W_seq ?_
  refine W_seq ?_
  refine W_region ?_
  refine L0 (wanted_none rfl) rfl (y_move (v := Value.int _ _) rfl rfl) ?_
  refine Lc (wanted_none rfl) (c_call rfl rfl rfl Tryd.func82 (by kernel_rfl) rfl (rin_any i 0 7 w1) rfl ?_)
  rintro _ w2 ⟨rfl, hc3⟩
  have hs4 := hs0.call0 hc3
  refine L0 (wanted_none rfl) rfl (y_not rfl rfl) ?_
  refine Lnil ?_
  refine Wkn (t := 10) (b0 := false) rfl (by first | exact decide_eq_false (by omega) | exact bnF (by omega) | (simp; omega)) (fun h5 => ?_)
  refine W_condF rfl h5 ?_
  refine W_skip ?_
  refine W_seq ?_
  refine W_seq ?_
  refine W_region ?_
  refine L0 (wanted_none rfl) rfl (y_move (v := Value.string ⟨⟨_⟩⟩) rfl rfl) ?_
  refine L0 (wanted_none rfl) rfl (y_len rfl Tryd.underlying9 rfl) ?_
  refine L0 (wanted_none rfl) rfl (y_gt rfl rfl rfl) ?_
  refine Lnil ?_
  refine Wkn (t := 13) (b0 := false) rfl (by first | exact decide_eq_false (by omega) | exact bnF (by omega) | (simp; omega)) (fun h6 => ?_)
  refine W_condF rfl h6 ?_
  refine W_skip ?_
  refine W_seq ?_
  refine W_seq ?_
  refine W_region ?_
  refine L0 (wanted_none rfl) rfl (y_move (v := Value.pointer _) rfl rfl) ?_
  refine L0 (wanted_none rfl) rfl (y_move (v := Value.int _ _) rfl rfl) ?_
  refine L0 (wanted_none rfl) rfl (y_nilCheck rfl rfl) ?_
  refine L0 (wanted_none rfl) rfl (y_fieldAddr rfl Tryd.underlying135 rfl sz29 rfl) ?_
  refine L0 (wanted_none rfl) rfl (y_indexArr rfl Tryd.underlying29 sz22 rfl rfl (by omega) (by omega)) ?_
  refine L1 (wanted_none rfl) rfl hs4 (y_load 0 rfl Tryd.underlying22 rfl rfl rfl (rc_z _ _ _ _ _ _ h0 h1)) ?_
  refine L0 (wanted_none rfl) rfl (y_slenSl rfl Tryd.underlying22 rfl (hz2.sl hs4 (fun x hx => by simp [hx]))) ?_
  refine L0 (wanted_none rfl) rfl (y_ge rfl rfl rfl) ?_
  refine Lnil ?_
  refine Wkn (t := 21) (b0 := false) rfl (by first | exact decide_eq_false (by omega) | exact bnF (by omega) | (simp; omega)) (fun h7 => ?_)
  refine W_condF rfl h7 ?_
  refine W_skip ?_
  refine W_seq ?_
  refine W_seq ?_
  refine W_region ?_
  refine L0 (wanted_none rfl) rfl (y_move (v := Value.pointer _) rfl rfl) ?_
  refine Lc (wanted_none rfl) (c_call rfl rfl rfl Tryd.func89 (by kernel_rfl) rfl (spent_ok (h.drewn (hs4.perm List.perm_middle.symm)) hi.f1) rfl ?_)
  rintro vq w8 ⟨rfl, hB⟩
  have hs10 := hB.st.perm List.perm_middle
  refine Lnil ?_
  refine Wsp (t := 23) rfl (fun h11 => ?_) (fun h11 => ?_)
  · have h11' := h11
    first | replace h11' := of_decide_eq_true h11' | replace h11' := bnT' h11' | skip
    refine W_condT rfl h11 ?_
    refine W_seq ?_
    refine W_region ?_
    refine L0 (wanted_none rfl) rfl (y_assign (v := Value.int _ _) rfl rfl) ?_
    refine L0 (wanted_none rfl) rfl (y_assign (v := Value.int _ _) rfl rfl) ?_
    refine Lnil ?_
    refine W_ret ?_
    refine fin2 (fn := Tryd.f33) rfl rfl rfl ?_
    refine ⟨fun e0 => ⟨vz, rows, rfl, ?_⟩, fun e => absurd h11' e⟩
    have e : burnF D.fuse = D.fuse := by rw [e0]; rfl
    rw [e] at hs10
    exact h.drewn (hs10.perm List.perm_middle.symm)
  · have h11' := h11
    first | replace h11' := of_decide_eq_false h11' | replace h11' := bnF' h11' | skip
    refine W_condF rfl h11 ?_
    refine W_skip ?_
    refine W_seq ?_
    refine W_drawSt [(0, 0), (0, 1), (0, 3), (0, 4), (0, 10), (0, 5), (0, 14), (0, 6), (0, 15), (0, 7), (1, 8), (3, 2), (2, 9), (3, 11), (3, 12), (3, 13), (0, 16), (2, 17)] hs10 mixed (by kernel_rfl) (fun w12 hs13 => ?_)
    refine E0 (wanted_none rfl) rfl (y_move (v := Value.pointer _) rfl rfl) ?_
    refine E0 (wanted_none rfl) rfl (y_move (v := Value.int _ _) rfl rfl) ?_
    refine E0 (wanted_none rfl) rfl (y_move (v := Value.pointer _) rfl rfl) ?_
    refine E0 (wanted_none rfl) rfl (y_move (v := Value.int _ _) rfl rfl) ?_
    refine E0 (wanted_none rfl) rfl (y_move (v := Value.string ⟨⟨_⟩⟩) rfl rfl) ?_
    refine E0 (wanted_none rfl) rfl (y_nilCheck rfl rfl) ?_
    refine E0 (wanted_none rfl) rfl (y_nilCheck rfl rfl) ?_
    refine E0 (wanted_none rfl) rfl (y_fieldAddr rfl Tryd.underlying135 rfl sz29 rfl) ?_
    refine E0 (wanted_none rfl) rfl (y_fieldAddr rfl Tryd.underlying135 rfl sz29 rfl) ?_
    refine E0 (wanted_none rfl) rfl (y_indexArr rfl Tryd.underlying29 sz22 rfl rfl (by omega) (by omega)) ?_
    refine E1 hs13 (wanted_none rfl) rfl (y_load 0 rfl Tryd.underlying22 rfl rfl rfl (rc_z _ _ _ _ _ _ h0 h1)) ?_
    refine E3 (wanted_none rfl) (c_buildSlice0 hs13 rfl rfl Tryd.underlying22 sz9 (fun b14 w15 hbb14 hs16 => ?_))
    refine ⟨fun _ => hs16.drop (.inl hbb14), ?_⟩
    refine E2 (wanted_none rfl) (c_appendG (L0 := (b, .cells ⟨rcells vz D.sure D.slot vA vW (burnF D.fuse)⟩ 135 (0, 0)) :: (K ++ (wA ++ (wW ++ rows)))) (ent := [(b14, .cells ⟨[]⟩ 9 (0, 0))]) hs16 (perm_ct (fun a => by simp only [ct_append, ct_cons, ct_nil]; omega)) rfl rfl Tryd.underlying22 sz9 zr9 by9 rfl rfl (row0 hbb14) (Nat.le_refl _) (fun x hx => .inl ((row0 hbb14).new x hx)) rfl ((hz2.sl hs16 (fun x hx => by simp [hx])).srcs) (by intro u hu; obtain ⟨x, _, rfl⟩ := List.mem_map.1 hu; rfl) (by omega) (by omega) (fun vM entM w17 hrowM' hn19 hs18 => ?_))
    have hrowM := hrowM'
    have hnew_hrowM := hn19
    have hM := hrowM.new
    have hs18 := hs18.re (L' := (b, .cells ⟨rcells vz D.sure D.slot vA vW (burnF D.fuse)⟩ 135 (0, 0)) :: (entM ++ (K ++ (wA ++ (wW ++ rows))))) (fun a => by simp only [ct_append, ct_cons, ct_nil]; omega)
    have hsK := (hs18.perm (List.perm_middle (l₁ := entM)).symm).dropL (M := entM) hM
    refine E3 (wanted_none rfl) (c_call rfl rfl rfl Tryd.func86 (by kernel_rfl) rfl (ylong_any s 128 (by omega) (by decide) w17) rfl ?_)
    rintro _ w20 ⟨rfl, hc21⟩
    have hs22 := hs18.call0 hc21
    refine ⟨fun _ => (hs22.perm (List.perm_middle (l₁ := entM)).symm).dropL (M := entM) hM, ?_⟩
    refine E3 (wanted_none rfl) (c_bs1 (v0 := str _) hs22 rfl rfl Tryd.underlying22 sz9 zr9 rfl rfl  (fun b23 w24 hbb23 hs25 => ?_))
    refine ⟨fun _ => ((hs25.drop (.inl hbb23)).perm (List.perm_middle (l₁ := entM)).symm).dropL (M := entM) hM, ?_⟩
    refine E3 (wanted_none rfl) (c_appendG (L0 := (b23, .cells ⟨[str (fillN s 128)]⟩ 9 (0, 0)) :: (b, .cells ⟨rcells vz D.sure D.slot vA vW (burnF D.fuse)⟩ 135 (0, 0)) :: (K ++ (wA ++ (wW ++ rows)))) (ent := entM) hs25 (perm_ct (fun a => by simp only [ct_append, ct_cons, ct_nil]; omega)) rfl rfl Tryd.underlying22 sz9 zr9 by9 rfl rfl hrowM (Nat.le_refl _) (fun x hx => .inl (hrowM.new x hx)) rfl (Src.ofBlock (kk := 1) (hs25.get 0 rfl) rfl) (by simp [Value.oneCell']) (by omega) (by omega) (fun vN entN w26 hrow' hn28 hs27 => ?_))
    have hrow := hrow'
    have hnew_hrow := hn28
    have hN := hrow.new
    have hN1 := hrow.one
    have hs27 := (hs27.re (L' := (b23, .cells ⟨[str (fillN s 128)]⟩ 9 (0, 0)) :: (b, .cells ⟨rcells vz D.sure D.slot vA vW (burnF D.fuse)⟩ 135 (0, 0)) :: (entN ++ (K ++ (wA ++ (wW ++ rows))))) (fun a => by simp only [ct_append, ct_cons, ct_nil]; omega)).drop (.inl hbb23)
    have hsN := (hs27.perm (List.perm_middle (l₁ := entN)).symm).dropL (M := entN) hN
    refine ⟨fun _ => hsN, ?_⟩
    refine E0 (wanted_none rfl) rfl (y_indexArr rfl Tryd.underlying29 sz22 rfl rfl (by omega) (by omega)) ?_
    refine E2 (wanted_none rfl) (c_store (i := 0) (v := vN) hs27 rfl rfl rfl rfl sz22 hN1 rfl (by (show 0 + 0 + i.toNat * 1 < 21; omega)) (Fz.zero _) (fun w29 hs30 => ?_))
    have hs30 := hs30.at0 (rc_setz _ _ _ _ _ _ h0 h1 _)
    refine Enil ?_
    refine W_seq ?_
    refine W_region ?_
    refine L0 (wanted_none rfl) rfl (y_move (v := Value.pointer _) rfl rfl) ?_
    refine L0 (wanted_none rfl) rfl (y_move (v := Value.int _ _) rfl rfl) ?_
    refine L0 (wanted_none rfl) rfl (y_nilCheck rfl rfl) ?_
    refine L0 (wanted_none rfl) rfl (y_fieldAddr rfl Tryd.underlying135 rfl sz29 rfl) ?_
    refine L0 (wanted_none rfl) rfl (y_indexArr rfl Tryd.underlying29 sz22 rfl rfl (by omega) (by omega)) ?_
    refine L1 (wanted_none rfl) rfl hs30 (y_load 0 rfl Tryd.underlying22 rfl rfl rfl (rc_zv h0 h1 (updF_at _ _ _))) ?_
    refine L0 (wanted_none rfl) rfl (y_slenRow rfl Tryd.underlying22 rfl hrow) ?_
    refine L0 (wanted_none rfl) rfl (y_sub64 rfl rfl rfl (by omega)) ?_
    refine L0 (wanted_none rfl) rfl (y_assign (v := Value.int _ _) rfl rfl) ?_
    refine L0 (wanted_none rfl) rfl (y_assign (v := Value.int _ _) rfl rfl) ?_
    refine Lnil ?_
    refine W_ret ?_
    refine fin2 (fn := Tryd.f33) rfl rfl rfl ?_
    refine ⟨fun e0 => absurd e0 h11', fun _ => ⟨updF vz i.toNat vN, entN ++ rows, congrArg Value.tuple (congrArg (fun x => #[x, iv 0]) (iv_eq (by omega))), ?_⟩⟩
    refine ⟨hs30.re (fun a => by simp only [ct_append, ct_cons]; omega), ?_, h.rA, h.rW, h.newb, ?_⟩
    · have hr2 : RowIn entN vN (D.z i.toNat ++ [fillN s 128]) := RowIn.ofRow (m := 0 + (D.z i.toNat).length + 1) (by rw [List.map_append]; exact hrow)
      exact updR (fun j hj => (h.rz j hj).mono (fun x hx => List.mem_append_right _ hx)) (hr2.mono (fun x hx => List.mem_append_left _ hx))
    · intro x hx
      rcases List.mem_append.1 hx with hx | hx
      · exact hN x hx
      · exact h.newr x hx
theorem rapp_all (h : RSt W0 K b D w vz vA vW wA wW rows) (hi : DInv D k) (i : Int) (s : List UInt8) (hs : s.length ≤ 100000) :
    C Tryd.prog 33 ⟨[pv b 0, iv i, str s]⟩ w fun v w' => ∃ vz' rows', v = .tuple #[iv (appN D i s), iv (appE D i s)] ∧ RSt W0 K b (appD D i s) w' vz' vA vW wA wW rows' := by
  by_cases h1 : i < 0 ∨ 8 ≤ i
  · have e : appE D i s = 2 := if_pos h1
    rw [appD, appN, e]
    exact (rapp_e2 i s h1).mono fun v w' hv => ⟨vz, rows, hv.1, h.call0 hv.2⟩
  by_cases h2 : 128 < s.length
  · have e : appE D i s = 4 := by rw [appE, if_neg h1, if_pos h2]
    rw [appD, appN, e]
    exact (rapp_e4 i s (by omega) (by omega) h2).mono fun v w' hv => ⟨vz, rows, hv.1, h.call0 hv.2⟩
  have hl := (hi.z i.toNat (by omega)).2
  by_cases h3 : (D.z i.toNat).length = 16
  · have e : appE D i s = 12 := by rw [appE, if_neg h1, if_neg h2, if_pos h3]
    rw [appD, appN, e]
    exact (rapp_e12 h i s (by omega) (by omega) (by omega) h3).mono fun v w' hv => ⟨vz, rows, hv.1, h.call0 hv.2⟩
  have hok := rapp_ok h hi i s (by omega) (by omega) (by omega) (by omega)
  by_cases h4 : D.fuse = 0
  · have e : appE D i s = 14 := by rw [appE, if_neg h1, if_neg h2, if_neg h3, if_pos h4]
    rw [appD, appN, e]
    exact hok.mono fun v w' hv => hv.1 h4
  have e : appE D i s = 0 := by rw [appE, if_neg h1, if_neg h2, if_neg h3, if_neg h4]
  rw [appD, appN, e, if_pos rfl, if_pos rfl]
  exact hok.mono fun v w' hv => hv.2 h4
theorem rreset_e2 (i : Int) (hi : i < 0 ∨ 8 ≤ i) : C Tryd.prog 35 ⟨[pv b 0, iv i]⟩ w fun v w' => v = iv 2 ∧ St w [] w' := by
  refine C_enter (n := 20) Tryd.func35 rfl rfl rfl (fun w1 hs1 => ?_)
  refine W_seq ?_
  refine W_region ?_
  refine L0 (wanted_none rfl) rfl (y_assign (v := Value.int _ _) rfl rfl) ?_
  refine Lnil ?_
  refine W_seq ?_
  refine W_seq ?_
  refine W_region ?_
  refine L0 (wanted_none rfl) rfl (y_move (v := Value.int _ _) rfl rfl) ?_
  refine Lc (wanted_none rfl) (c_call rfl rfl rfl Tryd.func82 (by kernel_rfl) rfl (rin_any i 0 7 w1) rfl ?_)
  rintro _ w2 ⟨rfl, hc3⟩
  have hs4 := hs1.call0 hc3
  refine L0 (wanted_none rfl) rfl (y_not rfl rfl) ?_
  refine Lnil ?_
  refine Wkn (t := 7) (b0 := true) rfl (by first | exact decide_eq_true (by omega) | exact bnT (by omega) | (simp; omega)) (fun h5 => ?_)
  refine W_condT rfl h5 ?_
  refine W_seq ?_
  refine W_region ?_
  refine L0 (wanted_none rfl) rfl (y_assign (v := Value.int _ _) rfl rfl) ?_
  refine Lnil ?_
  refine W_ret ?_
  refine fin1 (fn := Tryd.f35) rfl rfl ?_
  exact ⟨rfl, hs4⟩
theorem rreset_ok (h : RSt W0 K b D w vz vA vW wA wW rows) (hi : DInv D k) (i : Int) (h0 : 0 ≤ i) (h1 : i < 8) :
    C Tryd.prog 35 ⟨[pv b 0, iv i]⟩ w fun v w' => (D.fuse = 0 → ∃ vz', v = iv 14 ∧ RSt W0 K b D w' vz' vA vW wA wW rows) ∧ (D.fuse ≠ 0 → ∃ vz', v = iv 0 ∧ RSt W0 K b { D with z := updF D.z i.toNat [], sure := updF D.sure i.toNat 0, fuse := burnF D.fuse } w' vz' vA vW wA wW rows) := by
  refine C_enter (n := 20) Tryd.func35 rfl rfl rfl (fun w1 hs1 => ?_)
  have hs0 := (h.st.call0 hs1).perm List.perm_middle
  refine W_seq ?_
  refine W_region ?_
  refine L0 (wanted_none rfl) rfl (y_assign (v := Value.int _ _) rfl rfl) ?_
  refine Lnil ?_
  refine W_seq ?_
  refine W_seq ?_
  refine W_region ?_
  refine L0 (wanted_none rfl) rfl (y_move (v := Value.int _ _) rfl rfl) ?_
  refine Lc (wanted_none rfl) (c_call rfl rfl rfl Tryd.func82 (by kernel_rfl) rfl (rin_any i 0 7 w1) rfl ?_)
  rintro _ w2 ⟨rfl, hc3⟩
  have hs4 := hs0.call0 hc3
  refine L0 (wanted_none rfl) rfl (y_not rfl rfl) ?_
  refine Lnil ?_
  refine Wkn (t := 7) (b0 := false) rfl (by first | exact decide_eq_false (by omega) | exact bnF (by omega) | (simp; omega)) (fun h5 => ?_)
  refine W_condF rfl h5 ?_
  refine W_skip ?_
  refine W_seq ?_
  refine W_seq ?_
  refine W_region ?_
  refine L0 (wanted_none rfl) rfl (y_move (v := Value.pointer _) rfl rfl) ?_
  refine Lc (wanted_none rfl) (c_call rfl rfl rfl Tryd.func89 (by kernel_rfl) rfl (spent_ok (h.drewn (hs4.perm List.perm_middle.symm)) hi.f1) rfl ?_)
  rintro vq w6 ⟨rfl, hB⟩
  have hs8 := hB.st.perm List.perm_middle
  refine Lnil ?_
  refine Wsp (t := 9) rfl (fun h9 => ?_) (fun h9 => ?_)
  · have h9' := h9
    first | replace h9' := of_decide_eq_true h9' | replace h9' := bnT' h9' | skip
    refine W_condT rfl h9 ?_
    refine W_seq ?_
    refine W_region ?_
    refine L0 (wanted_none rfl) rfl (y_assign (v := Value.int _ _) rfl rfl) ?_
    refine Lnil ?_
    refine W_ret ?_
    refine fin1 (fn := Tryd.f35) rfl rfl ?_
    first | (refine ⟨fun e0 => ⟨vz, rfl, ?_⟩, fun e => absurd (by assumption) e⟩; have e : burnF D.fuse = D.fuse := (by rw [e0]; rfl); have hs8 := hs8; rw [e] at hs8; exact h.drewn (hs8.perm List.perm_middle.symm)) | exact ⟨fun e0 => absurd e0 (by assumption), fun _ => ⟨updF vz i.toNat (.slice none 0 0), rfl, hs8.re (fun a => by simp only [ct_append, ct_cons]; omega), updR h.rz (RowIn.nil _), h.rA, h.rW, h.newb, h.newr⟩⟩
  · have h9' := h9
    first | replace h9' := of_decide_eq_false h9' | replace h9' := bnF' h9' | skip
    refine W_condF rfl h9 ?_
    refine W_skip ?_
    refine W_seq ?_
    refine W_drawSt [(0, 0), (0, 1), (0, 2), (0, 3), (0, 4), (0, 8), (0, 5), (0, 9), (0, 6), (2, 7), (0, 10), (2, 11)] hs8 mixed (by kernel_rfl) (fun w10 hs11 => ?_)
    refine E0 (wanted_none rfl) rfl (y_move (v := Value.pointer _) rfl rfl) ?_
    refine E0 (wanted_none rfl) rfl (y_move (v := Value.int _ _) rfl rfl) ?_
    refine E0 (wanted_none rfl) rfl (y_move (v := Value.pointer _) rfl rfl) ?_
    refine E0 (wanted_none rfl) rfl (y_move (v := Value.int _ _) rfl rfl) ?_
    refine E0 (wanted_none rfl) rfl (y_nilCheck rfl rfl) ?_
    refine E0 (wanted_none rfl) rfl (y_nilCheck rfl rfl) ?_
    refine E0 (wanted_none rfl) rfl (y_fieldAddr rfl Tryd.underlying135 rfl sz29 rfl) ?_
    refine E0 (wanted_none rfl) rfl (y_fieldAddr rfl Tryd.underlying135 rfl sz101 rfl) ?_
    refine E0 (wanted_none rfl) rfl (y_indexArr rfl Tryd.underlying29 sz22 rfl rfl (by omega) (by omega)) ?_
    refine E2 (wanted_none rfl) (c_store (i := 0) (v := .slice none 0 0) hs11 rfl rfl rfl rfl sz22 rfl rfl (by (show 0 + 0 + i.toNat * 1 < 21; omega)) (Fz.zero _) (fun w12 hs13 => ?_))
    have hs13 := hs13.at0 (rc_setz _ _ _ _ _ _ h0 h1 _)
    refine E0 (wanted_none rfl) rfl (y_indexArr rfl Tryd.underlying101 sz3 rfl rfl (by omega) (by omega)) ?_
    refine E2 (wanted_none rfl) (c_store (i := 0) (v := iv 0) hs13 rfl rfl rfl rfl sz3 rfl rfl (by (show 0 + 8 + i.toNat * 1 < 21; omega)) (Fz.zero _) (fun w14 hs15 => ?_))
    have hs15 := hs15.at0 (rc_sets _ _ _ _ _ _ h0 h1 0)
    refine Enil ?_
    refine W_seq ?_
    refine W_region ?_
    refine L0 (wanted_none rfl) rfl (y_assign (v := Value.int _ _) rfl rfl) ?_
    refine Lnil ?_
    refine W_ret ?_
    refine fin1 (fn := Tryd.f35) rfl rfl ?_
    first | (refine ⟨fun e0 => ⟨vz, rfl, ?_⟩, fun e => absurd (by assumption) e⟩; have e : burnF D.fuse = D.fuse := (by rw [e0]; rfl); have hs15 := hs15; rw [e] at hs15; exact h.drewn (hs15.perm List.perm_middle.symm)) | exact ⟨fun e0 => absurd e0 (by assumption), fun _ => ⟨updF vz i.toNat (.slice none 0 0), rfl, hs15.re (fun a => by simp only [ct_append, ct_cons]; omega), updR h.rz (RowIn.nil _), h.rA, h.rW, h.newb, h.newr⟩⟩
theorem rreset_all (h : RSt W0 K b D w vz vA vW wA wW rows) (hi : DInv D k) (i : Int) :
    C Tryd.prog 35 ⟨[pv b 0, iv i]⟩ w fun v w' => ∃ vz', v = iv (rstE D i) ∧ RSt W0 K b (rstD D i) w' vz' vA vW wA wW rows := by
  by_cases h1 : i < 0 ∨ 8 ≤ i
  · have e : rstE D i = 2 := if_pos h1
    rw [rstD, e]
    exact (rreset_e2 i h1).mono fun v w' hv => ⟨vz, hv.1, h.call0 hv.2⟩
  have hok := rreset_ok h hi i (by omega) (by omega)
  by_cases h4 : D.fuse = 0
  · have e : rstE D i = 14 := by rw [rstE, if_neg h1, if_pos h4]
    rw [rstD, e]
    exact hok.mono fun v w' hv => hv.1 h4
  have e : rstE D i = 0 := by rw [rstE, if_neg h1, if_neg h4]
  rw [rstD, e, if_pos rfl]
  exact hok.mono fun v w' hv => hv.2 h4
end
end Go.Proofs.YtkolfgmpmnelmabDoor

/-
  Walks: the reference's device: Put, Get.
-/
import Derived.Test.YtkolfgmpmnelmabDoorYB
namespace Go.Proofs.YtkolfgmpmnelmabDoor
open Go Vx Go.Proofs
set_option linter.unusedVariables false
set_option maxRecDepth 4000
set_option maxHeartbeats 400000

theorem land_hit {slot : Nat → List UInt8} {l : List (Nat × List UInt8)} {q : Nat} {i : Int} (h : ((l.getD q (0, [])).1 : Int) = i) : (l.getD q (0, [])).2 = landF slot l (fun _ => true) (q + 1) i.toNat := by
  rw [landF, if_pos rfl]
  have e : i.toNat = (l.getD q (0, [])).1 := by omega
  rw [e, updF_at]
theorem land_miss {slot : Nat → List UInt8} {l : List (Nat × List UInt8)} {q : Nat} {i : Int} (h : ¬ ((l.getD q (0, [])).1 : Int) = i ∧ 0 ≤ i) : landF slot l (fun _ => true) q i.toNat = landF slot l (fun _ => true) (q + 1) i.toNat := by
  rw [landF, if_pos rfl, updF_ne _ _ (by omega)]
section
variable {W0 : World} {K : Blocks} {b : Nat} {D : Dv} {w : World} {vz : Nat → Value} {vA vW : Value} {wA wW rows : Blocks} {k : Nat}
theorem Vx.Row.slAt {B E m : Nat} {v : Value} {xs : List Value} {ent : Blocks} {W0 w : World} {L : Blocks} {f : Nat → Value} (h : Row B E 1 v m xs ent) (hs : St W0 L w) (hin : ∀ x ∈ ent, x ∈ L) (hf : ∀ j, j < m → xs[j]? = some (f j)) : Sl w v m f := by
  rcases h.2 with ⟨rfl, rfl, _⟩ | ⟨g, cap, cur, fz, rfl, rfl, _, hmc, _, hcs, htake, _⟩
  · exact Sl.nil _ _ _ _
  · refine Sl.of fun j hj => ?_
    rw [cell_of_has (hs.has (g, .cells cur E fz) (hin _ (by simp))), Nat.zero_add]
    have h1 := hf j hj
    rw [← htake, List.getElem?_take_of_lt (by omega)] at h1
    simpa using h1
theorem rput_e2 (i : Int) (s : List UInt8) (hi : i < 0 ∨ 2 ≤ i) : C Tryd.prog 37 ⟨[pv b 0, iv i, str s]⟩ w fun v w' => v = iv 2 ∧ St w [] w' := by
  refine C_enter (n := 36) Tryd.func37 rfl rfl rfl (fun w1 hs1 => ?_)
  refine W_seq ?_
  refine W_region ?_
  refine L0 (wanted_none rfl) rfl (y_assign (v := Value.int _ _) rfl rfl) ?_
  refine Lnil ?_
  refine W_seq ?_
  refine W_seq ?_
  refine W_region ?_
  refine L0 (wanted_none rfl) rfl (y_move (v := Value.int _ _) rfl rfl) ?_
  refine Lc (wanted_none rfl) (c_call rfl rfl rfl Tryd.func82 (by kernel_rfl) rfl (rin_any i 0 1 w1) rfl ?_)
  rintro _ w2 ⟨rfl, hc3⟩
  have hs4 := hs1.call0 hc3
  refine L0 (wanted_none rfl) rfl (y_not rfl rfl) ?_
  refine Lnil ?_
  refine Wkn (t := 9) (b0 := true) rfl (by first | exact decide_eq_true (by omega) | exact bnT (by omega) | (simp; omega)) (fun h5 => ?_)
  refine W_condT rfl h5 ?_
  refine W_seq ?_
  refine W_region ?_
  refine L0 (wanted_none rfl) rfl (y_assign (v := Value.int _ _) rfl rfl) ?_
  refine Lnil ?_
  refine W_ret ?_
  refine fin1 (fn := Tryd.f37) rfl rfl ?_
  exact ⟨rfl, hs4⟩
theorem rput_e4 (i : Int) (s : List UInt8) (h0 : 0 ≤ i) (h1 : i < 2) (hs : 500 < s.length) : C Tryd.prog 37 ⟨[pv b 0, iv i, str s]⟩ w fun v w' => v = iv 4 ∧ St w [] w' := by
  refine C_enter (n := 36) Tryd.func37 rfl rfl rfl (fun w1 hs1 => ?_)
  refine W_seq ?_
  refine W_region ?_
  refine L0 (wanted_none rfl) rfl (y_assign (v := Value.int _ _) rfl rfl) ?_
  refine Lnil ?_
  refine W_seq ?_
  refine W_seq ?_
  refine W_region ?_
  refine L0 (wanted_none rfl) rfl (y_move (v := Value.int _ _) rfl rfl) ?_
  refine Lc (wanted_none rfl) (c_call rfl rfl rfl Tryd.func82 (by kernel_rfl) rfl (rin_any i 0 1 w1) rfl ?_)
  rintro _ w2 ⟨rfl, hc3⟩
  have hs4 := hs1.call0 hc3
  refine L0 (wanted_none rfl) rfl (y_not rfl rfl) ?_
  refine Lnil ?_
  refine Wkn (t := 9) (b0 := false) rfl (by first | exact decide_eq_false (by omega) | exact bnF (by omega) | (simp; omega)) (fun h5 => ?_)
  refine W_condF rfl h5 ?_
  refine W_skip ?_
  refine W_seq ?_
  refine W_seq ?_
  refine W_region ?_
  refine L0 (wanted_none rfl) rfl (y_move (v := Value.string ⟨⟨_⟩⟩) rfl rfl) ?_
  refine L0 (wanted_none rfl) rfl (y_len rfl Tryd.underlying9 rfl) ?_
  refine L0 (wanted_none rfl) rfl (y_gt rfl rfl rfl) ?_
  refine Lnil ?_
  refine Wkn (t := 12) (b0 := true) rfl (by first | exact decide_eq_true (by omega) | exact bnT (by omega) | (simp; omega)) (fun h6 => ?_)
  refine W_condT rfl h6 ?_
  refine W_seq ?_
  refine W_region ?_
  refine L0 (wanted_none rfl) rfl (y_assign (v := Value.int _ _) rfl rfl) ?_
  refine Lnil ?_
  refine W_ret ?_
  refine fin1 (fn := Tryd.f37) rfl rfl ?_
  exact ⟨rfl, hs4⟩
theorem rput_ok (h : RSt W0 K b D w vz vA vW wA wW rows) (hi : DInv D k) (hk : k ≤ 1000) (i : Nat) (s : List UInt8) (h1 : i < 2) (hs : s.length ≤ 500) :
    C Tryd.prog 37 ⟨[pv b 0, iv i, str s]⟩ w fun v w' => (D.fuse = 0 → v = iv 14 ∧ RSt W0 K b D w' vz vA vW wA wW rows) ∧ (D.fuse ≠ 0 → ∃ vA' vW' wA' wW', v = iv 0 ∧ RSt W0 K b { D with wait := D.wait ++ [(i, fillN s 500)], fuse := burnF D.fuse } w' vz vA' vW' wA' wW' rows) := by
  have hl := hi.len
  refine C_enter (n := 36) Tryd.func37 rfl rfl rfl (fun w1 hs1 => ?_)
  have hs0 := (h.st.call0 hs1).perm List.perm_middle
  refine W_seq ?_
  refine W_region ?_
  refine L0 (wanted_none rfl) rfl (y_assign (v := Value.int _ _) rfl rfl) ?_
  refine Lnil ?_
  refine W_seq ?_
  refine W_seq ?_
  refine W_region ?_
  refine L0 (wanted_none rfl) rfl (y_move (v := Value.int _ _) rfl rfl) ?_
  refine Lc (wanted_none rfl) (c_call rfl rfl rfl Tryd.func82 (by kernel_rfl) rfl (rin_any i 0 1 w1) rfl ?_)
  rintro _ w2 ⟨rfl, hc3⟩
  have hs4 := hs0.call0 hc3
  refine L0 (wanted_none rfl) rfl (y_not rfl rfl) ?_
  refine Lnil ?_
  refine Wkn (t := 9) (b0 := false) rfl (by first | exact decide_eq_false (by omega) | exact bnF (by omega) | (simp; omega)) (fun h5 => ?_)
  refine W_condF rfl h5 ?_
  refine W_skip ?_
  refine W_seq ?_
  refine W_seq ?_
  refine W_region ?_
  refine L0 (wanted_none rfl) rfl (y_move (v := Value.string ⟨⟨_⟩⟩) rfl rfl) ?_
  refine L0 (wanted_none rfl) rfl (y_len rfl Tryd.underlying9 rfl) ?_
  refine L0 (wanted_none rfl) rfl (y_gt rfl rfl rfl) ?_
  refine Lnil ?_
  refine Wkn (t := 12) (b0 := false) rfl (by first | exact decide_eq_false (by omega) | exact bnF (by omega) | (simp; omega)) (fun h6 => ?_)
  refine W_condF rfl h6 ?_
  refine W_skip ?_
  refine W_seq ?_
  refine W_seq ?_
  refine W_region ?_
  refine L0 (wanted_none rfl) rfl (y_move (v := Value.pointer _) rfl rfl) ?_
  refine Lc (wanted_none rfl) (c_call rfl rfl rfl Tryd.func89 (by kernel_rfl) rfl (spent_ok (h.drewn (hs4.perm List.perm_middle.symm)) hi.f1) rfl ?_)
  rintro vq w7 ⟨rfl, hB⟩
  have hs9 := hB.st.perm List.perm_middle
  refine Lnil ?_
  refine Wsp (t := 14) rfl (fun h10 => ?_) (fun h10 => ?_)
  · have h10' := h10
    first | replace h10' := of_decide_eq_true h10' | replace h10' := bnT' h10' | skip
    refine W_condT rfl h10 ?_
    refine W_seq ?_
    refine W_region ?_
    refine L0 (wanted_none rfl) rfl (y_assign (v := Value.int _ _) rfl rfl) ?_
    refine Lnil ?_
    refine W_ret ?_
    refine fin1 (fn := Tryd.f37) rfl rfl ?_
    refine ⟨fun e0 => ⟨rfl, ?_⟩, fun e => absurd (by assumption) e⟩
    have e : burnF D.fuse = D.fuse := (by rw [e0]; rfl)
    have hq := hs9
    rw [e] at hq
    exact h.drewn (hq.perm List.perm_middle.symm)
  · have h10' := h10
    first | replace h10' := of_decide_eq_false h10' | replace h10' := bnF' h10' | skip
    refine W_condF rfl h10 ?_
    refine W_skip ?_
    refine W_seq ?_
    refine W_drawS [(0, 0), (0, 1), (0, 2), (0, 6), (0, 9), (0, 13), (0, 3), (0, 10), (0, 4), (0, 11), (1, 5), (1, 12), (3, 7), (3, 8), (3, 14), (3, 15), (3, 16), (0, 17), (0, 18), (2, 19), (0, 20), (0, 21), (2, 22)] (fun w2 => St W0 ((b, .cells ⟨rcells vz D.sure D.slot vA vW (burnF D.fuse)⟩ 135 (0, 0)) :: (K ++ rows)) w2 ∧ True) hs9 mixed (by kernel_rfl) (fun w11 hs12 => ?_)
    refine E0 (wanted_none rfl) rfl (y_move (v := Value.pointer _) rfl rfl) ?_
    refine E0 (wanted_none rfl) rfl (y_move (v := Value.pointer _) rfl rfl) ?_
    refine E0 (wanted_none rfl) rfl (y_move (v := Value.pointer _) rfl rfl) ?_
    refine E0 (wanted_none rfl) rfl (y_move (v := Value.int _ _) rfl rfl) ?_
    refine E0 (wanted_none rfl) rfl (y_move (v := Value.pointer _) rfl rfl) ?_
    refine E0 (wanted_none rfl) rfl (y_move (v := Value.string ⟨⟨_⟩⟩) rfl rfl) ?_
    refine E0 (wanted_none rfl) rfl (y_nilCheck rfl rfl) ?_
    refine E0 (wanted_none rfl) rfl (y_nilCheck rfl rfl) ?_
    refine E0 (wanted_none rfl) rfl (y_fieldAddr rfl Tryd.underlying135 rfl sz23 rfl) ?_
    refine E0 (wanted_none rfl) rfl (y_fieldAddr rfl Tryd.underlying135 rfl sz22 rfl) ?_
    refine E1 ⟨(((hs12.re (L' := wA ++ (wW ++ ((b, .cells ⟨rcells vz D.sure D.slot vA vW (burnF D.fuse)⟩ 135 (0, 0)) :: (K ++ rows)))) (fun a => by simp only [ct_append, ct_cons, ct_nil]; omega)).dropL h.rA.new).dropL h.rW.new), trivial⟩ (wanted_none rfl) rfl (fun w2 hSS => by obtain ⟨h2, _⟩ := hSS; exact (y_load 0 rfl Tryd.underlying23 rfl rfl rfl rfl) w2 h2) ?_
    refine E1 ⟨(((hs12.re (L' := wA ++ (wW ++ ((b, .cells ⟨rcells vz D.sure D.slot vA vW (burnF D.fuse)⟩ 135 (0, 0)) :: (K ++ rows)))) (fun a => by simp only [ct_append, ct_cons, ct_nil]; omega)).dropL h.rA.new).dropL h.rW.new), trivial⟩ (wanted_none rfl) rfl (fun w2 hSS => by obtain ⟨h2, _⟩ := hSS; exact (y_load 0 rfl Tryd.underlying22 rfl rfl rfl rfl) w2 h2) ?_
    refine E3 (wanted_none rfl) (c_bs1 (v0 := iv _) hs12 rfl rfl Tryd.underlying23 sz3 zr3 rfl rfl  (fun b13 w14 hbb13 hs15 => ?_))
    refine ⟨fun _ => ⟨(((hs15.drop (.inl hbb13)).re (L' := wA ++ (wW ++ ((b, .cells ⟨rcells vz D.sure D.slot vA vW (burnF D.fuse)⟩ 135 (0, 0)) :: (K ++ rows)))) (fun a => by simp only [ct_append, ct_cons, ct_nil]; omega)).dropL h.rA.new).dropL h.rW.new, trivial⟩, ?_⟩
    refine E3 (wanted_none rfl) (c_appendG (L0 := (b13, .cells ⟨[iv i]⟩ 3 (0, 0)) :: (b, .cells ⟨rcells vz D.sure D.slot vA vW (burnF D.fuse)⟩ 135 (0, 0)) :: (K ++ (wW ++ rows))) (ent := wA) hs15 (perm_ct (fun a => by simp only [ct_append, ct_cons, ct_nil]; omega)) rfl rfl Tryd.underlying23 sz3 zr3 by3 rfl rfl h.rA (Nat.le_refl _) (fun x hx => .inl (h.rA.new x hx)) rfl (Src.ofBlock (kk := 1) (hs15.get 0 rfl) rfl) (by simp [Value.oneCell']) (by omega) (by omega) (fun vM entM w16 hrowM' hn18 hs17 => ?_))
    have hrowM := hrowM'
    have hnew_hrowM := hn18
    have hM := hrowM.new
    have hM1 := hrowM.one
    have hs17 := (hs17.re (L' := (b13, .cells ⟨[iv i]⟩ 3 (0, 0)) :: (b, .cells ⟨rcells vz D.sure D.slot vA vW (burnF D.fuse)⟩ 135 (0, 0)) :: (entM ++ (K ++ (wW ++ rows)))) (fun a => by simp only [ct_append, ct_cons, ct_nil]; omega)).drop (.inl hbb13)
    have hsK := ((hs17.re (L' := entM ++ (wW ++ ((b, .cells ⟨rcells vz D.sure D.slot vA vW (burnF D.fuse)⟩ 135 (0, 0)) :: (K ++ rows)))) (fun a => by simp only [ct_append, ct_cons, ct_nil]; omega)).dropL hM).dropL h.rW.new
    refine ⟨fun _ => ⟨hsK, trivial⟩, ?_⟩
    refine E3 (wanted_none rfl) (c_call rfl rfl rfl Tryd.func86 (by kernel_rfl) rfl (ylong_any s 500 (by omega) (by decide) w16) rfl ?_)
    rintro _ w19 ⟨rfl, hc20⟩
    have hs21 := hs17.call0 hc20
    refine ⟨fun _ => ⟨((hs21.re (L' := entM ++ (wW ++ ((b, .cells ⟨rcells vz D.sure D.slot vA vW (burnF D.fuse)⟩ 135 (0, 0)) :: (K ++ rows)))) (fun a => by simp only [ct_append, ct_cons, ct_nil]; omega)).dropL hM).dropL h.rW.new, trivial⟩, ?_⟩
    refine E3 (wanted_none rfl) (c_bs1 (v0 := str _) hs21 rfl rfl Tryd.underlying22 sz9 zr9 rfl rfl  (fun b22 w23 hbb22 hs24 => ?_))
    refine ⟨fun _ => ⟨(((hs24.drop (.inl hbb22)).re (L' := entM ++ (wW ++ ((b, .cells ⟨rcells vz D.sure D.slot vA vW (burnF D.fuse)⟩ 135 (0, 0)) :: (K ++ rows)))) (fun a => by simp only [ct_append, ct_cons, ct_nil]; omega)).dropL hM).dropL h.rW.new, trivial⟩, ?_⟩
    refine E3 (wanted_none rfl) (c_appendG (L0 := (b22, .cells ⟨[str (fillN s 500)]⟩ 9 (0, 0)) :: (b, .cells ⟨rcells vz D.sure D.slot vA vW (burnF D.fuse)⟩ 135 (0, 0)) :: (entM ++ (K ++ rows))) (ent := wW) hs24 (perm_ct (fun a => by simp only [ct_append, ct_cons, ct_nil]; omega)) rfl rfl Tryd.underlying22 sz9 zr9 by9 rfl rfl h.rW (Nat.le_refl _) (fun x hx => .inl (h.rW.new x hx)) rfl (Src.ofBlock (kk := 1) (hs24.get 0 rfl) rfl) (by simp [Value.oneCell']) (by omega) (by omega) (fun vN entN w25 hrow' hn27 hs26 => ?_))
    have hrow := hrow'
    have hnew_hrow := hn27
    have hN := hrow.new
    have hN1 := hrow.one
    have hs26 := (hs26.re (L' := (b22, .cells ⟨[str (fillN s 500)]⟩ 9 (0, 0)) :: (b, .cells ⟨rcells vz D.sure D.slot vA vW (burnF D.fuse)⟩ 135 (0, 0)) :: (entN ++ (entM ++ (K ++ rows)))) (fun a => by simp only [ct_append, ct_cons, ct_nil]; omega)).drop (.inl hbb22)
    have hsN := ((hs26.re (L' := entN ++ (entM ++ ((b, .cells ⟨rcells vz D.sure D.slot vA vW (burnF D.fuse)⟩ 135 (0, 0)) :: (K ++ rows)))) (fun a => by simp only [ct_append, ct_cons, ct_nil]; omega)).dropL hN).dropL hM
    refine ⟨fun _ => ⟨hsN, trivial⟩, ?_⟩
    refine E0 (wanted_none rfl) rfl (y_nilCheck rfl rfl) ?_
    refine E0 (wanted_none rfl) rfl (y_fieldAddr rfl Tryd.underlying135 rfl sz23 rfl) ?_
    refine E2 (wanted_none rfl) (c_store (i := 0) (v := vM) hs26 rfl rfl rfl rfl sz23 hM1 rfl (by (show 18 < 21; omega)) (Fz.zero _) (fun w28 hs29 => ?_))
    have hs29 := hs29.at0 (c' := ⟨rcells vz D.sure D.slot vM vW (burnF D.fuse)⟩) rfl
    refine E0 (wanted_none rfl) rfl (y_nilCheck rfl rfl) ?_
    refine E0 (wanted_none rfl) rfl (y_fieldAddr rfl Tryd.underlying135 rfl sz22 rfl) ?_
    refine E2 (wanted_none rfl) (c_store (i := 0) (v := vN) hs29 rfl rfl rfl rfl sz22 hN1 rfl (by (show 19 < 21; omega)) (Fz.zero _) (fun w30 hs31 => ?_))
    have hs31 := hs31.at0 (c' := ⟨rcells vz D.sure D.slot vM vN (burnF D.fuse)⟩) rfl
    refine Enil ?_
    refine W_seq ?_
    refine W_region ?_
    refine L0 (wanted_none rfl) rfl (y_assign (v := Value.int _ _) rfl rfl) ?_
    refine Lnil ?_
    refine W_ret ?_
    refine fin1 (fn := Tryd.f37) rfl rfl ?_
    refine ⟨fun e0 => absurd e0 (by assumption), fun _ => ⟨vM, vN, entM, entN, rfl, ?_⟩⟩
    refine ⟨hs31.re (fun a => by simp only [ct_append, ct_cons, ct_nil]; omega), h.rz, ?_, ?_, h.newb, h.newr⟩
    · rw [List.length_append, atL, List.map_append]; exact hrowM
    · rw [List.length_append, whatL, List.map_append]; exact hrow
theorem rput_all (h : RSt W0 K b D w vz vA vW wA wW rows) (hi : DInv D k) (hk : k ≤ 1000) (i : Int) (s : List UInt8) (hs : s.length ≤ 100000) :
    C Tryd.prog 37 ⟨[pv b 0, iv i, str s]⟩ w fun v w' => ∃ vA' vW' wA' wW', v = iv (putE D i s) ∧ RSt W0 K b (putD D i s) w' vz vA' vW' wA' wW' rows := by
  by_cases h1 : i < 0 ∨ 2 ≤ i
  · have e : putE D i s = 2 := if_pos h1
    rw [putD, e]
    exact (rput_e2 i s h1).mono fun v w' hv => ⟨vA, vW, wA, wW, hv.1, h.call0 hv.2⟩
  by_cases h2 : 500 < s.length
  · have e : putE D i s = 4 := by rw [putE, if_neg h1, if_pos h2]
    rw [putD, e]
    exact (rput_e4 i s (by omega) (by omega) h2).mono fun v w' hv => ⟨vA, vW, wA, wW, hv.1, h.call0 hv.2⟩
  obtain ⟨q, rfl⟩ : ∃ q : Nat, i = (q : Int) := ⟨i.toNat, by omega⟩
  have hok := rput_ok h hi hk q s (by omega) (by omega)
  by_cases h4 : D.fuse = 0
  · have e : putE D q s = 14 := by rw [putE, if_neg h1, if_neg h2, if_pos h4]
    rw [putD, e]
    exact hok.mono fun v w' hv => ⟨vA, vW, wA, wW, (hv.1 h4).1, (hv.1 h4).2⟩
  have e : putE D q s = 0 := by rw [putE, if_neg h1, if_neg h2, if_neg h4]
  rw [putD, e, if_pos rfl]
  exact hok.mono fun v w' hv => hv.2 h4
theorem rget_e2 (i : Int) (hi : i < 0 ∨ 2 ≤ i) : C Tryd.prog 51 ⟨[pv b 0, iv i]⟩ w fun v w' => v = .tuple #[str [], iv 2] ∧ St w [] w' := by
  refine C_enter (n := 40) Tryd.func51 rfl rfl rfl (fun w1 hs1 => ?_)
  refine W_seq ?_
  refine W_region ?_
  refine L0 (wanted_none rfl) rfl (y_assign (v := Value.string ⟨⟨_⟩⟩) rfl rfl) ?_
  refine L0 (wanted_none rfl) rfl (y_assign (v := Value.int _ _) rfl rfl) ?_
  refine Lnil ?_
  refine W_seq ?_
  refine W_seq ?_
  refine W_region ?_
  refine L0 (wanted_none rfl) rfl (y_move (v := Value.int _ _) rfl rfl) ?_
  refine Lc (wanted_none rfl) (c_call rfl rfl rfl Tryd.func82 (by kernel_rfl) rfl (rin_any i 0 1 w1) rfl ?_)
  rintro _ w2 ⟨rfl, hc3⟩
  have hs4 := hs1.call0 hc3
  refine L0 (wanted_none rfl) rfl (y_not rfl rfl) ?_
  refine Lnil ?_
  refine Wkn (t := 11) (b0 := true) rfl (by first | exact decide_eq_true (by omega) | exact bnT (by omega) | (simp; omega)) (fun h5 => ?_)
  refine W_condT rfl h5 ?_
  refine W_seq ?_
  refine W_region ?_
  refine L0 (wanted_none rfl) rfl (y_assign (v := Value.string ⟨⟨_⟩⟩) rfl rfl) ?_
  refine L0 (wanted_none rfl) rfl (y_assign (v := Value.int _ _) rfl rfl) ?_
  refine Lnil ?_
  refine W_ret ?_
  refine fin2 (fn := Tryd.f51) rfl rfl rfl ?_
  exact ⟨rfl, hs4⟩
theorem rget_ok (h : RSt W0 K b D w vz vA vW wA wW rows) (hl : D.wait.length ≤ 1000) (i : Int) (h0 : 0 ≤ i) (h1 : i < 2) :
    C Tryd.prog 51 ⟨[pv b 0, iv i]⟩ w fun v w' => v = .tuple #[str (landF D.slot D.wait (fun _ => true) D.wait.length i.toNat), iv 0] ∧ St w [] w' := by
  have hd := h.has
  have hA : Sl w vA D.wait.length (fun j => iv ((D.wait.getD j (0, [])).1 : Int)) := h.rA.slAt h.st (fun x hx => by simp [hx]) (fun j hj => atL_at hj)
  have hW : Sl w vW D.wait.length (fun j => str (D.wait.getD j (0, [])).2) := h.rW.slAt h.st (fun x hx => by simp [hx]) (fun j hj => whatL_at hj)
  refine C_enter (n := 40) Tryd.func51 rfl rfl rfl (fun w1 hs1 => ?_)
  refine W_seq ?_
  refine W_region ?_
  refine L0 (wanted_none rfl) rfl (y_assign (v := Value.string ⟨⟨_⟩⟩) rfl rfl) ?_
  refine L0 (wanted_none rfl) rfl (y_assign (v := Value.int _ _) rfl rfl) ?_
  refine Lnil ?_
  refine W_seq ?_
  refine W_seq ?_
  refine W_region ?_
  refine L0 (wanted_none rfl) rfl (y_move (v := Value.int _ _) rfl rfl) ?_
  refine Lc (wanted_none rfl) (c_call rfl rfl rfl Tryd.func82 (by kernel_rfl) rfl (rin_any i 0 1 w1) rfl ?_)
  rintro _ w2 ⟨rfl, hc3⟩
  have hs4 := hs1.call0 hc3
  refine L0 (wanted_none rfl) rfl (y_not rfl rfl) ?_
  refine Lnil ?_
  refine Wkn (t := 11) (b0 := false) rfl (by first | exact decide_eq_false (by omega) | exact bnF (by omega) | (simp; omega)) (fun h5 => ?_)
  refine W_condF rfl h5 ?_
  refine W_skip ?_
  refine W_seq ?_
  refine W_region ?_
  refine L0 (wanted_none rfl) rfl (y_move (v := Value.pointer _) rfl rfl) ?_
  refine L0 (wanted_none rfl) rfl (y_move (v := Value.int _ _) rfl rfl) ?_
  refine L0 (wanted_none rfl) rfl (y_nilCheck rfl rfl) ?_
  refine L0 (wanted_none rfl) rfl (y_fieldAddr rfl Tryd.underlying135 rfl sz57 rfl) ?_
  refine L0 (wanted_none rfl) rfl (y_indexArr rfl Tryd.underlying57 sz9 rfl rfl (by omega) (by omega)) ?_
  refine L1 (wanted_none rfl) rfl hs4 ((y_loadOld rfl Tryd.underlying9 rfl rfl (dc_old hd (rc_l _ _ _ _ _ _ h0 h1)) (by simp [keys]))) ?_
  refine L0 (wanted_none rfl) rfl (y_assign (v := Value.string ⟨⟨_⟩⟩) rfl rfl) ?_
  refine Lnil ?_
  refine W_seq ?_
  refine W_seq ?_
  refine W_region ?_
  refine L0 (wanted_none rfl) rfl (y_move (v := Value.pointer _) rfl rfl) ?_
  refine L0 (wanted_none rfl) rfl (y_nilCheck rfl rfl) ?_
  refine L0 (wanted_none rfl) rfl (y_fieldAddr rfl Tryd.underlying135 rfl sz23 rfl) ?_
  refine L1 (wanted_none rfl) rfl hs4 ((y_loadOld rfl Tryd.underlying23 rfl rfl (dc_old (k := 18) (v := vA) hd rfl) (by simp [keys]))) ?_
  refine L0 (wanted_none rfl) rfl (y_slenRow rfl Tryd.underlying23 rfl h.rA) ?_
  refine L0 (wanted_none rfl) rfl (y_move (v := Value.int _ _) rfl rfl) ?_
  refine Lnil ?_
  refine W_block ?_
  refine W_loop (G := Nat) (fun q aL wl => ∃ e, aL = A 40 ((23, iv q) :: (22, iv D.wait.length) :: (21, vA) :: (0, pv b 0) :: (1, iv i) :: (6, str (landF D.slot D.wait (fun _ => true) q i.toNat)) :: e) ∧ q ≤ D.wait.length ∧ St w [] wl) (fun q => D.wait.length - q) (0) ?_ ?_
  · exact ⟨_, A_pins _ _ [23, 22, 21, 0, 1, 6], Nat.zero_le _, hs4⟩
  rintro q _ w6 ⟨ehs7, rfl, hq, hs7⟩
  refine W_seq ?_
  refine W_region ?_
  refine L0 (wanted_none rfl) rfl (y_lt rfl rfl rfl) ?_
  refine Lnil ?_
  refine W_seq ?_
  refine Wsp (t := 24) rfl (fun h8 => ?_) (fun h8 => ?_)
  · have h8' := h8
    first | replace h8' := of_decide_eq_true h8' | replace h8' := bnT' h8' | skip
    refine W_condT rfl h8 ?_
    refine W_skip ?_
    refine W_seq ?_
    refine W_block ?_
    refine W_seq ?_
    refine W_region ?_
    refine L0 (wanted_none rfl) rfl (y_move (v := Value.int _ _) rfl rfl) ?_
    refine L0 (wanted_none rfl) rfl (y_indexSlAt rfl Tryd.underlying23 sz3 rfl rfl hA (by omega) (by omega)) ?_
    refine L1 (wanted_none rfl) rfl hs7 ((y_loadSl q rfl Tryd.underlying3 rfl rfl hA rfl (by omega) (by simp [keys]))) ?_
    refine L0 (wanted_none rfl) rfl (y_assign (v := Value.int _ _) rfl rfl) ?_
    refine L0 (wanted_none rfl) rfl (y_assign (v := Value.int _ _) rfl rfl) ?_
    refine Lnil ?_
    refine W_seq ?_
    refine W_region ?_
    refine L0 (wanted_none rfl) rfl (y_move (v := Value.int _ _) rfl rfl) ?_
    refine L0 (wanted_none rfl) rfl (y_move (v := Value.int _ _) rfl rfl) ?_
    refine L0 (wanted_none rfl) rfl (y_eq rfl rfl rfl) ?_
    refine Lnil ?_
    refine Wsp (t := 30) rfl (fun h9 => ?_) (fun h9 => ?_)
    · have h9' := h9
      first | replace h9' := of_decide_eq_true h9' | replace h9' := bnT' h9' | skip
      refine W_condT rfl h9 ?_
      refine W_region ?_
      refine L0 (wanted_none rfl) rfl (y_move (v := Value.pointer _) rfl rfl) ?_
      refine L0 (wanted_none rfl) rfl (y_nilCheck rfl rfl) ?_
      refine L0 (wanted_none rfl) rfl (y_fieldAddr rfl Tryd.underlying135 rfl sz22 rfl) ?_
      refine L1 (wanted_none rfl) rfl hs7 ((y_loadOld rfl Tryd.underlying22 rfl rfl (dc_old (k := 19) (v := vW) hd rfl) (by simp [keys]))) ?_
      refine L0 (wanted_none rfl) rfl (y_move (v := Value.int _ _) rfl rfl) ?_
      refine L0 (wanted_none rfl) rfl (y_indexSlAt rfl Tryd.underlying22 sz9 rfl rfl hW (by omega) (by omega)) ?_
      refine L1 (wanted_none rfl) rfl hs7 ((y_loadSl q rfl Tryd.underlying9 rfl rfl hW rfl (by omega) (by simp [keys]))) ?_
      refine L0 (wanted_none rfl) rfl (y_assign (v := Value.string ⟨⟨_⟩⟩) rfl rfl) ?_
      refine Lnil ?_
      refine W_region ?_
      refine L0 (wanted_none rfl) rfl (y_add64 rfl rfl rfl (by omega)) ?_
      refine L0 (wanted_none rfl) rfl (y_move (v := Value.int _ _) rfl rfl) ?_
      refine Lnil ?_
      exact ⟨q + 1, by first | omega | (dsimp only; done) | (dsimp only; omega), _, A_c (iv_eq (by first | omega | (dsimp only; done) | (dsimp only; omega))) (A_c rfl (A_c rfl (A_c rfl (A_c rfl (A_c (congrArg str (land_hit (by omega))) (rfl)))))), by omega, hs7⟩
    · have h9' := h9
      first | replace h9' := of_decide_eq_false h9' | replace h9' := bnF' h9' | skip
      refine W_condF rfl h9 ?_
      refine W_skip ?_
      refine W_region ?_
      refine L0 (wanted_none rfl) rfl (y_add64 rfl rfl rfl (by omega)) ?_
      refine L0 (wanted_none rfl) rfl (y_move (v := Value.int _ _) rfl rfl) ?_
      refine Lnil ?_
      exact ⟨q + 1, by first | omega | (dsimp only; done) | (dsimp only; omega), _, A_c (iv_eq (by first | omega | (dsimp only; done) | (dsimp only; omega))) (A_c rfl (A_c rfl (A_c rfl (A_c rfl (A_c (congrArg str (land_miss (by omega))) (rfl)))))), by omega, hs7⟩
  · have h8' := h8
    first | replace h8' := of_decide_eq_false h8' | replace h8' := bnF' h8' | skip
    refine W_condF rfl h8 ?_
    refine W_exit ?_
    refine W_seq ?_
    refine W_region ?_
    refine L0 (wanted_none rfl) rfl (y_move (v := Value.string ⟨⟨_⟩⟩) rfl rfl) ?_
    refine L0 (wanted_none rfl) rfl (y_assign (v := Value.string ⟨⟨_⟩⟩) rfl rfl) ?_
    refine L0 (wanted_none rfl) rfl (y_assign (v := Value.int _ _) rfl rfl) ?_
    refine Lnil ?_
    refine W_ret ?_
    refine fin2 (fn := Tryd.f51) rfl rfl rfl ?_
    obtain rfl : q = D.wait.length := by omega
    exact ⟨rfl, hs7⟩
theorem rget_all (h : RSt W0 K b D w vz vA vW wA wW rows) (hi : DInv D k) (hk : k ≤ 1000) (i : Int) :
    C Tryd.prog 51 ⟨[pv b 0, iv i]⟩ w fun v w' => v = .tuple #[str (getS D i), iv (getE i)] ∧ St w [] w' := by
  by_cases h1 : i < 0 ∨ 2 ≤ i
  · rw [getS, getE, if_pos h1, if_pos h1]; exact rget_e2 i h1
  · rw [getS, getE, if_neg h1, if_neg h1]
    have := hi.len
    exact rget_ok h (by omega) i (by omega) (by omega)
end
end Go.Proofs.YtkolfgmpmnelmabDoor

/-
  Walks: the reference's device: Image, NewDevice.
-/
import Derived.Test.YtkolfgmpmnelmabDoorYH
namespace Go.Proofs.YtkolfgmpmnelmabDoor
open Go Vx Go.Proofs
set_option linter.unusedVariables false
set_option maxRecDepth 4000
set_option maxHeartbeats 1000000

section
variable {W0 : World} {K : Blocks} {b : Nat} {D : Dv} {w : World} {vz : Nat → Value} {vA vW : Value} {wA wW rows : Blocks} {k : Nat}
theorem rimage_ok (h : RSt W0 K b D w vz vA vW wA wW rows) (hz16 : ∀ j, j < 8 → D.sure j ≤ (D.z j).length ∧ (D.z j).length ≤ 16) :
    C Tryd.prog 48 ⟨[pv b 0]⟩ w fun v w' => ∃ vs im, v = .agg ⟨icells vs D.slot⟩ ∧ RSt W0 (im ++ K) b D w' vz vA vW wA wW rows ∧ (∀ j, j < 8 → RowIn im (vs j) (imZ D 8 j)) ∧ ∀ x ∈ im, W0.heap.size ≤ x.1 := by
  refine C_enter (n := 33) Tryd.func48 rfl rfl rfl (fun w1 hs1 => ?_)
  have hs0 := (h.st.call0 hs1).perm List.perm_middle
  refine W_seq ?_
  refine W_region ?_
  refine Lc (wanted_none rfl) (c_alloc hs0 rfl rfl zr59 (fun b2 w3 hbb2 hs4 => ?_))
  refine Lnil ?_
  refine W_seq ?_
  refine W_region ?_
  refine L0 (wanted_none rfl) rfl (y_move (v := Value.pointer _) rfl rfl) ?_
  refine L0 (wanted_none rfl) rfl (y_nilCheck rfl rfl) ?_
  refine L0 (wanted_none rfl) rfl (y_fieldAddr rfl Tryd.underlying135 rfl sz57 rfl) ?_
  refine L1 (wanted_none rfl) rfl hs4 ((y_loadN 1 rfl Tryd.underlying57 rfl sz57 rfl rfl (by show 16 + 2 ≤ 21; omega))) ?_
  refine L0 (wanted_none rfl) rfl (y_buildSG (places := #[(0, 8), (8, 2)]) (cells := icells (fun _ => .slice none 0 0) D.slot) rfl Tryd.underlying59 zr59 (fun w => by kernel_rfl) (by kernel_rfl)) ?_
  refine Lc (wanted_none rfl) (c_alloc hs4 rfl rfl zr59 (fun b5 w6 hbb5 hs7 => ?_))
  refine Lc (wanted_none rfl) (c_storeN (i := 0) hs7 rfl rfl rfl rfl sz59 (by rfl) (by intro v hv; simp only [icells, List.mem_cons, List.not_mem_nil, or_false] at hv; rcases hv with rfl | rfl | rfl | rfl | rfl | rfl | rfl | rfl | rfl | rfl <;> rfl) rfl (by decide) (Fz.zero _) (fun w8 hs9 => ?_))
  refine Lnil ?_
  refine W_seq ?_
  refine W_seq ?_
  refine W_region ?_
  refine L0 (wanted_none rfl) rfl (y_move (v := Value.int _ _) rfl rfl) ?_
  refine Lnil ?_
  refine W_block ?_
  refine W_loop (G := Nat × (Nat → Value) × Blocks) (fun g aL wl => ∃ e, aL = A 33 ((10, iv g.1) :: (0, pv b 0) :: (3, pv b5 0) :: (2, pv b2 0) :: e) ∧ g.1 ≤ 8 ∧ (∀ j, j < 8 → RowIn g.2.2 (g.2.1 j) (imZ D g.1 j)) ∧ (∀ x ∈ g.2.2, W0.heap.size ≤ x.1) ∧ St W0 ((b5, .cells ⟨icells g.2.1 D.slot⟩ 59 (0, 0)) :: (b2, .cells ⟨icells (fun _ => .slice none 0 0) (fun _ => [])⟩ 59 (0, 0)) :: (b, .cells ⟨rcells vz D.sure D.slot vA vW D.fuse⟩ 135 (0, 0)) :: (g.2.2 ++ (K ++ (wA ++ (wW ++ rows))))) wl) (fun g => 8 - g.1) ((0, (fun _ => .slice none 0 0), [])) ?_ ?_
  · exact ⟨_, A_pins _ _ [10, 0, 3, 2], Nat.zero_le _, (fun j _ => .inl ⟨rfl, rfl⟩), (fun x hx => by cases hx), hs9⟩
  rintro g _ w10 ⟨ehs11, rfl, hi, hR, hI, hs11⟩
  obtain ⟨i, vs, im⟩ := g
  dsimp only at *
  refine W_seq ?_
  refine W_region ?_
  refine L0 (wanted_none rfl) rfl (y_lt rfl rfl rfl) ?_
  refine Lnil ?_
  refine W_seq ?_
  refine Wsp (t := 11) rfl (fun h12 => ?_) (fun h12 => ?_)
  · have h12' := h12
    first | replace h12' := of_decide_eq_true h12' | replace h12' := bnT' h12' | skip
    refine W_condT rfl h12 ?_
    refine W_skip ?_
    refine W_seq ?_
    refine W_block ?_
    refine W_seq ?_
    have hRi := h.rz i (by omega)
    obtain ⟨a, cap, hv, ha, hle, _⟩ := hRi.shape
    rw [hv] at hRi
    have hz := hz16 i (by omega)
    refine W_region ?_
    refine L0 (wanted_none rfl) rfl (y_move (v := Value.int _ _) rfl rfl) ?_
    refine L0 (wanted_none rfl) rfl (y_assign (v := Value.int _ _) rfl rfl) ?_
    refine Lnil ?_
    refine W_drawSt [(0, 0), (0, 2), (0, 3), (0, 8), (0, 9), (0, 16), (0, 4), (0, 10), (0, 5), (0, 11), (0, 6), (0, 12), (1, 7), (1, 13), (0, 14), (3, 1), (3, 15), (0, 17), (2, 18)] hs11 mixed (by kernel_rfl) (fun w13 hs14 => ?_)
    refine E0 (wanted_none rfl) rfl (y_move (v := Value.int _ _) rfl rfl) ?_
    refine E0 (wanted_none rfl) rfl (y_move (v := Value.pointer _) rfl rfl) ?_
    refine E0 (wanted_none rfl) rfl (y_move (v := Value.int _ _) rfl rfl) ?_
    refine E0 (wanted_none rfl) rfl (y_move (v := Value.pointer _) rfl rfl) ?_
    refine E0 (wanted_none rfl) rfl (y_move (v := Value.int _ _) rfl rfl) ?_
    refine E0 (wanted_none rfl) rfl (y_fieldAddr rfl Tryd.underlying59 rfl sz29 rfl) ?_
    refine E0 (wanted_none rfl) rfl (y_nilCheck rfl rfl) ?_
    refine E0 (wanted_none rfl) rfl (y_nilCheck rfl rfl) ?_
    refine E0 (wanted_none rfl) rfl (y_fieldAddr rfl Tryd.underlying135 rfl sz29 rfl) ?_
    refine E0 (wanted_none rfl) rfl (y_fieldAddr rfl Tryd.underlying135 rfl sz101 rfl) ?_
    refine E0 (wanted_none rfl) rfl (y_indexArr rfl Tryd.underlying29 sz22 rfl rfl (by omega) (by omega)) ?_
    refine E0 (wanted_none rfl) rfl (y_indexArr rfl Tryd.underlying101 sz3 rfl rfl (by omega) (by omega)) ?_
    refine E1 hs14 (wanted_none rfl) rfl (y_load 2 rfl Tryd.underlying22 rfl rfl rfl (rc_zv (by omega) (by omega) hv)) ?_
    refine E1 hs14 (wanted_none rfl) rfl (y_load 2 rfl Tryd.underlying3 rfl rfl rfl (rc_sv (k := D.sure i) (by omega) (by omega) rfl)) ?_
    refine E0 (wanted_none rfl) rfl (y_slHi rfl Tryd.underlying22 sz9 rfl ha rfl (by have := hz16 i (by omega); omega)) ?_
    refine E3 (wanted_none rfl) (c_buildSlice0 hs14 rfl rfl Tryd.underlying22 sz9 (fun b15 w16 hbb15 hs17 => ?_))
    refine ⟨fun _ => hs17.drop (.inl hbb15), ?_⟩
    refine E3 (wanted_none rfl) (c_appendG (L0 := (b5, .cells ⟨icells vs D.slot⟩ 59 (0, 0)) :: (b2, .cells ⟨icells (fun _ => .slice none 0 0) (fun _ => [])⟩ 59 (0, 0)) :: (b, .cells ⟨rcells vz D.sure D.slot vA vW D.fuse⟩ 135 (0, 0)) :: (im ++ (K ++ (wA ++ (wW ++ rows))))) (ent := [(b15, .cells ⟨[]⟩ 9 (0, 0))]) hs17 (perm_ct (fun a => by simp only [ct_append, ct_cons, ct_nil]; omega)) rfl rfl Tryd.underlying22 sz9 zr9 by9 rfl rfl (row0 hbb15) (Nat.le_refl _) (fun x hx => .inl ((row0 hbb15).new x hx)) rfl (((hRi.take hz.1).sl hs17 (fun x hx => by simp [hx])).srcs) (by intro u hu; obtain ⟨x, _, rfl⟩ := List.mem_map.1 hu; rfl) (by rw [List.length_take]; omega) (by rw [List.length_take]; omega) (fun vN entN w18 hrow' hn20 hs19 => ?_))
    have hrow := hrow'
    have hnew_hrow := hn20
    have hN := hrow.new
    have hN1 := hrow.one
    have hrN : RowIn entN vN ((D.z i).take (D.sure i)) := RowIn.ofRow (B := W0.heap.size) hrow
    have hs19 := hs19.re (L' := (b5, .cells ⟨icells vs D.slot⟩ 59 (0, 0)) :: (b2, .cells ⟨icells (fun _ => .slice none 0 0) (fun _ => [])⟩ 59 (0, 0)) :: (b, .cells ⟨rcells vz D.sure D.slot vA vW D.fuse⟩ 135 (0, 0)) :: ((entN ++ im) ++ (K ++ (wA ++ (wW ++ rows))))) (fun a => by simp only [ct_append, ct_cons, ct_nil]; omega)
    refine ⟨fun _ => (hs19.re (L' := entN ++ ((b5, .cells ⟨icells vs D.slot⟩ 59 (0, 0)) :: (b2, .cells ⟨icells (fun _ => .slice none 0 0) (fun _ => [])⟩ 59 (0, 0)) :: (b, .cells ⟨rcells vz D.sure D.slot vA vW D.fuse⟩ 135 (0, 0)) :: (im ++ (K ++ (wA ++ (wW ++ rows)))))) (fun a => by simp only [ct_append, ct_cons, ct_nil]; omega)).dropL hN, ?_⟩
    refine E0 (wanted_none rfl) rfl (y_indexArr rfl Tryd.underlying29 sz22 rfl rfl (by omega) (by omega)) ?_
    refine E2 (wanted_none rfl) (c_store (i := 0) (v := vN) hs19 rfl rfl rfl rfl sz22 hN1 rfl (by (show 0 + 0 + (i : Int).toNat * 1 < 10; omega)) (Fz.zero _) (fun w21 hs22 => ?_))
    have hs22 := hs22.at0 (ic_setz _ _ (by omega) (by omega) _)
    refine Enil ?_
    refine W_region ?_
    refine L0 (wanted_none rfl) rfl (y_add64 rfl rfl rfl (by omega)) ?_
    refine L0 (wanted_none rfl) rfl (y_move (v := Value.int _ _) rfl rfl) ?_
    refine Lnil ?_
    exact ⟨(i + 1, updF vs i vN, entN ++ im), by first | omega | (dsimp only; done) | (dsimp only; omega), _, A_c (iv_eq (by first | omega | (dsimp only; done) | (dsimp only; omega))) (A_c rfl (A_c rfl (A_c rfl (rfl)))), by first | omega | (dsimp only; done) | (dsimp only; omega), imR (fun j hj => (hR j hj).mono (fun x hx => List.mem_append_right _ hx)) (hrN.mono (fun x hx => List.mem_append_left _ hx)), (fun x hx => (List.mem_append.1 hx).elim (hN x) (hI x)), hs22⟩
  · have h12' := h12
    first | replace h12' := of_decide_eq_false h12' | replace h12' := bnF' h12' | skip
    refine W_condF rfl h12 ?_
    refine W_exit ?_
    refine W_seq ?_
    obtain rfl : i = 8 := by omega
    refine W_region ?_
    refine L1 (wanted_none rfl) rfl hs11 ((y_loadN 0 rfl Tryd.underlying59 rfl sz59 rfl rfl (by show 0 + 10 ≤ 10; omega))) ?_
    refine Lc (wanted_none rfl) (c_storeN (i := 1) hs11 rfl rfl rfl rfl sz59 (by rfl) (by intro v hv; exact ic_one hR v hv) rfl (by (show 0 + 10 ≤ 10; omega)) (Fz.zero _) (fun w23 hs24 => ?_))
    refine Lnil ?_
    refine W_ret ?_
    refine finC (fn := Tryd.f48) rfl rfl (hs24.get 1 rfl) Tryd.underlying59 rfl sz59 ⟨vs, im, rfl, ⟨?_, h.rz, h.rA, h.rW, h.newb, h.newr⟩, hR, hI⟩
    exact ((hs24.drop (.inl hbb5)).drop (.inl hbb2)).re (fun a => by simp only [ct_append, ct_cons]; omega)
theorem zero_fill : (List.replicate 500 (0 : UInt8)) = fillN [] 500 := (fillN_short (s := []) (n := 500) (by decide))
theorem rcells_new : (⟨rcells (fun _ => .slice none 0 0) (fun _ => 0) (fun _ => List.replicate 500 0) (.slice none 0 0) (.slice none 0 0) (-1)⟩ : Array Value) = ⟨rcells (fun _ => .slice none 0 0) newD.sure newD.slot (.slice none 0 0) (.slice none 0 0) newD.fuse⟩ := by
  rw [zero_fill]; rfl
theorem rnew_ok (h : St W0 K w) : C Tryd.prog 32 ⟨[]⟩ w fun v w' => ∃ b, v = pv b 0 ∧ RSt W0 K b newD w' (fun _ => .slice none 0 0) (.slice none 0 0) (.slice none 0 0) [] [] [] := by
  refine C_enter (n := 6) Tryd.func32 rfl rfl rfl (fun w1 hs1 => ?_)
  have hs0 := h.call0 hs1
  refine W_seq ?_
  refine W_region ?_
  refine L0 (wanted_none rfl) rfl (y_assign (v := Value.pointer _) rfl rfl) ?_
  refine Lnil ?_
  refine W_seq ?_
  refine W_region ?_
  refine Lc (wanted_none rfl) (c_call rfl rfl rfl Tryd.func88 (by kernel_rfl) rfl (yzeros_any 500 500 rfl (by decide) w1) rfl ?_)
  rintro _ w2 ⟨rfl, hc3⟩
  have hs4 := hs0.call0 hc3
  refine Lc (wanted_none rfl) (c_call rfl rfl rfl Tryd.func88 (by kernel_rfl) rfl (yzeros_any 500 500 rfl (by decide) w2) rfl ?_)
  rintro _ w5 ⟨rfl, hc6⟩
  have hs7 := hs4.call0 hc6
  refine L0 (wanted_none rfl) rfl (y_buildA (cells := [str (List.replicate 500 0), str (List.replicate 500 0)]) rfl Tryd.underlying57 zr57 sz9 (by kernel_rfl)) ?_
  refine L0 (wanted_none rfl) rfl (y_buildSG (places := #[(0, 8), (8, 8), (16, 2), (18, 1), (19, 1), (20, 1)]) (cells := rcells (fun _ => .slice none 0 0) (fun _ => 0) (fun _ => List.replicate 500 0) (.slice none 0 0) (.slice none 0 0) (-1)) rfl Tryd.underlying135 zr135 (fun w => by kernel_rfl) (by kernel_rfl)) ?_
  refine Lc (wanted_none rfl) (c_box hs7 rfl rfl rfl (fun b8 w9 hbb8 hs10 => ?_))
  have hs10 := (hs10.at0 (c' := ⟨rcells (fun _ => .slice none 0 0) (fun _ => 0) (fun _ => List.replicate 500 0) (.slice none 0 0) (.slice none 0 0) (-1)⟩) rfl).at0 rcells_new
  refine L0 (wanted_none rfl) rfl (y_assign (v := Value.pointer _) rfl rfl) ?_
  refine Lnil ?_
  refine W_ret ?_
  refine fin1 (fn := Tryd.f32) rfl rfl ?_
  exact ⟨b8, rfl, hs10.re (fun a => by simp only [ct_append, ct_cons, ct_nil]; omega), fun j _ => RowIn.nil _, Row.nil _ _ _, Row.nil _ _ _, hbb8, fun x hx => by cases hx⟩
end
end Go.Proofs.YtkolfgmpmnelmabDoor

/-
  Walk: keep.ZoneRests.
-/
import Derived.Test.YtkolfgmpmnelmabDoorZJ
namespace Go.Proofs.YtkolfgmpmnelmabDoor
open Go Vx Go.Proofs
set_option linter.unusedVariables false
set_option maxRecDepth 8000
set_option maxHeartbeats 1000000

theorem Vx.Sl.one {w : World} {v : Value} {m : Nat} {f : Nat → Value} (h : Sl w v m f) : v.oneCell' = true := by
  obtain ⟨a, cap, h1, _⟩ := h.shape
  rw [h1]; rfl
theorem sureF_lt {z : Nat → List (List UInt8)} {sure : Nat → Nat} {k j : Nat} (h : j < k) : sureF z sure k j = (z j).length := if_pos h
theorem imZ_all {D : Dv} {j : Nat} (hj : j < 8) (h : D.sure j = (D.z j).length) : imZ D 8 j = D.z j := by rw [imZ, if_pos hj, h, List.take_length]
theorem icells_congr {vs : Nat → Value} {s t : Nat → List UInt8} (h0 : s 0 = t 0) (h1 : s 1 = t 1) : icells vs s = icells vs t := by rw [icells, icells, h0, h1]
theorem full_getD {z : Nat → List (List UInt8)} (hF : Full128 z) {j : Nat} (hj : j < 8) (k : Nat) : ((z j).getD k []).length ≤ 1000000 := by
  rcases Nat.lt_or_ge k (z j).length with h | h
  · rw [List.getD_eq_getElem?_getD, List.getElem?_eq_getElem h]
    have := hF j hj _ (List.getElem_mem h)
    show ((z j)[k]).length ≤ 1000000
    omega
  · rw [List.getD_eq_getElem?_getD, List.getElem?_eq_none h]; decide
theorem newD_slot (j : Nat) : (newD.slot j).length ≤ 1000000 := by
  show (lyL (fun _ => []) (fun _ => []) 2 j).length ≤ 1000000
  rw [lyL]
  split
  · rw [fillN_len]; omega
  · exact Nat.zero_le _
theorem rests_any (l1 l2 : List (List UInt8)) (at_ : List Int) (va vb vt : Value) (hl1 : l1.length ≤ 9223372036854775807) (hl2 : l2.length ≤ 9223372036854775807) (w : World)
    (hSa : Sl w va l1.length (zstrs l1)) (hSb : Sl w vb l2.length (zstrs l2)) (hSt : Sl w vt at_.length (fun j => iv (at_.getD j 0))) (he : ErrAt w) :
    C Tryd.prog 7 ⟨[va, vb, vt]⟩ w fun v w' => v = .bool true ∧ St w [] w' := by
  have hel := he.lt
  have hvt := cells_one hSt.one
  have hD0f : newD.fuse < 0 := by decide
  refine C_enter (n := 135) Tryd.func7 rfl rfl rfl (fun w1 hs1 => ?_)
  refine W_seq ?_
  refine W_region ?_
  refine Lc (wanted_none rfl) (c_box hs1 rfl rfl rfl (fun b2 w3 hbb2 hs4 => ?_))
  have hs4 := hs4.at0 hvt
  refine L0 (wanted_none rfl) rfl (y_assign (v := Value.bool _) rfl rfl) ?_
  refine Lnil ?_
  refine W_seq ?_
  refine W_seq ?_
  refine W_region ?_
  refine L0 (wanted_none rfl) rfl (y_move (v := va) rfl rfl) ?_
  refine Lc (wanted_none rfl) (c_call rfl rfl rfl Tryd.func53 (by kernel_rfl) rfl (few_any l1 va hl1 w3 (hSa.keep hs4 (by intro k hk; simp [keys] at hk; omega))) rfl ?_)
  rintro vf w5 ⟨⟨bo1, rfl, hfew1⟩, hc6⟩
  have hs7 := hs4.call0 hc6
  refine L0 (wanted_none rfl) rfl (y_not rfl rfl) ?_
  refine L0 (wanted_none rfl) rfl (y_move (v := Value.bool _) rfl rfl) ?_
  refine Lsp (t := 20) rfl (fun h8 => ?_) (fun h8 => ?_)
  · have h8' := h8
    first | replace h8' := of_decide_eq_true h8' | replace h8' := bnT' h8' | skip
    refine Lno (wanted_noB rfl rfl rfl h8 (by decide)) rfl ?_
    refine Lno (wanted_noB rfl rfl rfl h8 (by decide)) rfl ?_
    refine Lno (wanted_noB rfl rfl rfl h8 (by decide)) rfl ?_
    refine L0 (wanted_none rfl) rfl (y_pickT rfl rfl h8 rfl) ?_
    refine L0 (wanted_none rfl) rfl (y_move (v := Value.bool _) rfl rfl) ?_
    refine Lno (wanted_noB rfl rfl rfl rfl (by decide)) rfl ?_
    refine Lno (wanted_noB rfl rfl rfl rfl (by decide)) rfl ?_
    refine Lno (wanted_noB rfl rfl rfl rfl (by decide)) rfl ?_
    refine L0 (wanted_none rfl) rfl (y_pickT rfl rfl (rfl : true = true) rfl) ?_
    refine L0 (wanted_none rfl) rfl (y_move (v := Value.bool _) rfl rfl) ?_
    refine Lno (wanted_noB rfl rfl rfl rfl (by decide)) rfl ?_
    refine Lno (wanted_noB rfl rfl rfl rfl (by decide)) rfl ?_
    refine Lno (wanted_noB rfl rfl rfl rfl (by decide)) rfl ?_
    refine L0 (wanted_none rfl) rfl (y_pickT rfl rfl (rfl : true = true) rfl) ?_
    refine Lnil ?_
    refine W_condT rfl rfl ?_
    refine W_seq ?_
    refine W_region ?_
    refine L0 (wanted_none rfl) rfl (y_assign (v := Value.bool _) rfl rfl) ?_
    refine Lnil ?_
    refine W_ret ?_
    refine fin1 (fn := Tryd.f7) rfl rfl ?_
    first | exact ⟨rfl, hs7.drop (.inl hbb2)⟩ | exact ⟨rfl, hD9.forget (hs7.dropL (M := im9) hI10) hK4⟩
  · have h8' := h8
    first | replace h8' := of_decide_eq_false h8' | replace h8' := bnF' h8' | skip
    refine L0 (wanted_yesB rfl rfl rfl h8) rfl (y_move (v := vb) rfl rfl) ?_
    refine Lc (wanted_yesB rfl rfl rfl h8) (c_call rfl rfl rfl Tryd.func53 (by kernel_rfl) rfl (few_any l2 vb hl2 w5 (hSb.keep hs7 (by intro k hk; simp [keys] at hk; omega))) rfl ?_)
    rintro vf w9 ⟨⟨bo2, rfl, hfew2⟩, hc10⟩
    have hs11 := hs7.call0 hc10
    refine L0 (wanted_yesB rfl rfl rfl h8) rfl (y_not rfl rfl) ?_
    refine L0 (wanted_none rfl) rfl (y_pickF rfl rfl h8 rfl) ?_
    refine L0 (wanted_none rfl) rfl (y_move (v := Value.bool _) rfl rfl) ?_
    refine Lsp (t := 25) rfl (fun h12 => ?_) (fun h12 => ?_)
    · have h12' := h12
      first | replace h12' := of_decide_eq_true h12' | replace h12' := bnT' h12' | skip
      refine Lno (wanted_noB rfl rfl rfl h12 (by decide)) rfl ?_
      refine Lno (wanted_noB rfl rfl rfl h12 (by decide)) rfl ?_
      refine Lno (wanted_noB rfl rfl rfl h12 (by decide)) rfl ?_
      refine L0 (wanted_none rfl) rfl (y_pickT rfl rfl h12 rfl) ?_
      refine L0 (wanted_none rfl) rfl (y_move (v := Value.bool _) rfl rfl) ?_
      refine Lno (wanted_noB rfl rfl rfl rfl (by decide)) rfl ?_
      refine Lno (wanted_noB rfl rfl rfl rfl (by decide)) rfl ?_
      refine Lno (wanted_noB rfl rfl rfl rfl (by decide)) rfl ?_
      refine L0 (wanted_none rfl) rfl (y_pickT rfl rfl (rfl : true = true) rfl) ?_
      refine Lnil ?_
      refine W_condT rfl rfl ?_
      refine W_seq ?_
      refine W_region ?_
      refine L0 (wanted_none rfl) rfl (y_assign (v := Value.bool _) rfl rfl) ?_
      refine Lnil ?_
      refine W_ret ?_
      refine fin1 (fn := Tryd.f7) rfl rfl ?_
      first | exact ⟨rfl, hs11.drop (.inl hbb2)⟩ | exact ⟨rfl, hD9.forget (hs11.dropL (M := im9) hI10) hK4⟩
    · have h12' := h12
      first | replace h12' := of_decide_eq_false h12' | replace h12' := bnF' h12' | skip
      refine L1 (wanted_yesB rfl rfl rfl h12) rfl hs11 (y_load 0 rfl Tryd.underlying23 rfl rfl rfl rfl) ?_
      refine L0 (wanted_yesB rfl rfl rfl h12) rfl (y_slenSl rfl Tryd.underlying23 rfl hSt) ?_
      refine L0 (wanted_yesB rfl rfl rfl h12) rfl (y_eq rfl rfl rfl) ?_
      refine L0 (wanted_none rfl) rfl (y_pickF rfl rfl h12 rfl) ?_
      refine L0 (wanted_none rfl) rfl (y_move (v := Value.bool _) rfl rfl) ?_
      refine Lsp (t := 30) rfl (fun h13 => ?_) (fun h13 => ?_)
      · have h13' := h13
        first | replace h13' := of_decide_eq_true h13' | replace h13' := bnT' h13' | skip
        refine Lno (wanted_noB rfl rfl rfl h13 (by decide)) rfl ?_
        refine Lno (wanted_noB rfl rfl rfl h13 (by decide)) rfl ?_
        refine Lno (wanted_noB rfl rfl rfl h13 (by decide)) rfl ?_
        refine L0 (wanted_none rfl) rfl (y_pickT rfl rfl h13 rfl) ?_
        refine Lnil ?_
        refine W_condT rfl rfl ?_
        refine W_seq ?_
        refine W_region ?_
        refine L0 (wanted_none rfl) rfl (y_assign (v := Value.bool _) rfl rfl) ?_
        refine Lnil ?_
        refine W_ret ?_
        refine fin1 (fn := Tryd.f7) rfl rfl ?_
        first | exact ⟨rfl, hs11.drop (.inl hbb2)⟩ | exact ⟨rfl, hD9.forget (hs11.dropL (M := im9) hI10) hK4⟩
      · have h13' := h13
        first | replace h13' := of_decide_eq_false h13' | replace h13' := bnF' h13' | skip
        refine L1 (wanted_yesB rfl rfl rfl h13) rfl hs11 (y_load 0 rfl Tryd.underlying23 rfl rfl rfl rfl) ?_
        refine L0 (wanted_yesB rfl rfl rfl h13) rfl (y_slenSl rfl Tryd.underlying23 rfl hSt) ?_
        refine L0 (wanted_yesB rfl rfl rfl h13) rfl (y_gt rfl rfl rfl) ?_
        refine L0 (wanted_none rfl) rfl (y_pickF rfl rfl h13 rfl) ?_
        refine Lnil ?_
        refine Wsp (t := 34) rfl (fun h14 => ?_) (fun h14 => ?_)
        · have h14' := h14
          first | replace h14' := of_decide_eq_true h14' | replace h14' := bnT' h14' | skip
          refine W_condT rfl h14 ?_
          refine W_seq ?_
          refine W_region ?_
          refine L0 (wanted_none rfl) rfl (y_assign (v := Value.bool _) rfl rfl) ?_
          refine Lnil ?_
          refine W_ret ?_
          refine fin1 (fn := Tryd.f7) rfl rfl ?_
          first | exact ⟨rfl, hs11.drop (.inl hbb2)⟩ | exact ⟨rfl, hD9.forget (hs11.dropL (M := im9) hI10) hK4⟩
        · have h14' := h14
          first | replace h14' := of_decide_eq_false h14' | replace h14' := bnF' h14' | skip
          refine W_condF rfl h14 ?_
          refine W_skip ?_
          refine W_seq ?_
          refine W_seq ?_
          have hfA : Few l1 := hfew1 (by cases bo1 <;> simp_all)
          have hfB : Few l2 := hfew2 (by cases bo2 <;> simp_all)
          refine W_region ?_
          refine Lc (wanted_none rfl) (c_call rfl rfl rfl Tryd.func12 (by kernel_rfl) rfl (zoned_any w9) rfl ?_)
          rintro _ w15 ⟨rfl, hc16⟩
          have hs17 := hs11.call0 hc16
          refine L0 (wanted_none rfl) rfl (y_not rfl rfl) ?_
          refine Lnil ?_
          refine Wkn (t := 36) (b0 := false) rfl (by rfl) (fun h18 => ?_)
          refine W_condF rfl h18 ?_
          refine W_skip ?_
          refine W_seq ?_
          refine W_region ?_
          refine Lc (wanted_none rfl) (c_call rfl rfl rfl Tryd.func13 (by kernel_rfl) rfl (new_ok (K := [(b2, .cells #[vt] 23 (0, 0))]) hs17) rfl ?_)
          rintro vq w19 ⟨b, vz0, rows0, rfl, hD0⟩
          have hs21 := hD0.st
          refine Lc (wanted_none rfl) (c_alloc hs21 rfl rfl zr27 (fun b22 w23 hbb22 hs24 => ?_))
          refine Lc (wanted_none rfl) (c_store (i := 0) (v := pv b 0) hs24 rfl rfl rfl rfl sz27 rfl rfl (by decide) (Fz.zero _) (fun w25 hs26 => ?_))
          have hs26 := hs26.at0 (c' := #[pv b 0]) rfl
          refine Lnil ?_
          refine W_seq ?_
          refine W_region ?_
          refine L0 (wanted_none rfl) rfl (y_makeFunc (vs := [pv b22 0, pv b2 0]) rfl rfl) ?_
          refine L0 (wanted_none rfl) rfl (y_assign (v := Value.func _ _ _) rfl rfl) ?_
          refine Lnil ?_
          refine W_seq ?_
          refine W_region ?_
          refine L0 (wanted_none rfl) rfl (y_move (v := Value.func _ _ _) rfl rfl) ?_
          refine L0 (wanted_none rfl) rfl (y_move (v := va) rfl rfl) ?_
          refine Lc (wanted_none rfl) (c_call rfl rfl rfl Tryd.func54 (by kernel_rfl) rfl (rwrite_ok (K := []) l1 at_ va vt (hD0.drewn (K' := [(b22, .cells #[pv b 0] 27 (0, 0)), (b2, .cells #[vt] 23 (0, 0))]) hs26) hD0f hfA (by omega) (by omega) (fun w2 L2 h2 hf2 => keepH hSa h2 (fun x hx => by cases hx) hf2) (fun w2 L2 h2 hf2 => keepH hSt h2 (fun x hx => by cases hx) hf2) hbb22 hbb2 (Ext.refl (fun j _ => by show 0 ≤ 16; omega) (fun j hj => absurd hj (Nat.not_lt_zero _))) (fun j _ s hs => by cases hs)) rfl ?_)
          rintro vq w27 ⟨z1, vz1, rows1, rfl, hD1, hE1, hF1⟩
          have hs29 := hD1.st
          refine Lnil ?_
          refine W_seq ?_
          refine W_seq ?_
          refine W_region ?_
          refine L1 (wanted_none rfl) rfl hs29 (y_load 0 rfl Tryd.underlying27 rfl rfl rfl rfl) ?_
          refine Lc (wanted_none rfl) (c_call rfl rfl rfl Tryd.func38 (by kernel_rfl) rfl (sync_ok (hD1.drewn (K' := [(b22, .cells #[pv b 0] 27 (0, 0)), (b2, .cells #[vt] 23 (0, 0))]) hs29) hD0f (fun j hj => absurd hj (Nat.not_lt_zero _)) (by show 0 ≤ 1000; omega)) rfl ?_)
          rintro vq w30 ⟨rfl, hD2⟩
          obtain ⟨D2, hD2, e2z, e2s, e2w, e2f, e2l⟩ : ∃ D2 : Dv, DSt w [(b22, .cells #[pv b 0] 27 (0, 0)), (b2, .cells #[vt] 23 (0, 0))] b D2 w30 vz1 (.slice none 0 0) [] rows1 ∧ D2.z = z1 ∧ (∀ j, j < 8 → D2.sure j = (z1 j).length) ∧ D2.wait = [] ∧ D2.fuse < 0 ∧ D2.slot = newD.slot := ⟨_, hD2, rfl, fun j hj => sureF_lt hj, rfl, hD0f, rfl⟩
          have hs32 := hD2.st
          have hz2 : ∀ j, j < 8 → D2.sure j ≤ (D2.z j).length ∧ (D2.z j).length ≤ 16 := fun j hj => by rw [e2z, e2s j hj]; exact ⟨Nat.le_refl _, hE1.room j hj⟩
          refine L0 (wanted_none rfl) rfl (y_neNilNil rfl Tryd.underlying32 rfl) ?_
          refine Lnil ?_
          refine W_condF rfl rfl ?_
          refine W_skip ?_
          refine W_seq ?_
          refine W_region ?_
          refine L1 (wanted_none rfl) rfl hs32 (y_load 0 rfl Tryd.underlying27 rfl rfl rfl rfl) ?_
          refine Lc (wanted_none rfl) (c_call rfl rfl rfl Tryd.func47 (by kernel_rfl) rfl (image_ok (hD2.drewn (K' := [(b22, .cells #[pv b 0] 27 (0, 0)), (b2, .cells #[vt] 23 (0, 0))]) hs32) hz2) rfl ?_)
          rintro vq w33 ⟨vs3, im3, rfl, hD3, hR3, hI3⟩
          have hs35 := hD3.st.re (L' := (b22, .cells #[pv b 0] 27 (0, 0)) :: (b2, .cells #[vt] 23 (0, 0)) :: (im3 ++ ((b, .cells ⟨dcells vz1 D2.sure D2.slot (.slice none 0 0) D2.fuse⟩ 104 (0, 0)) :: ([] ++ rows1)))) (fun a => by simp only [ct_append, ct_cons, ct_nil]; omega)
          refine Lc (wanted_none rfl) (c_alloc hs35 rfl rfl zr59 (fun b36 w37 hbb36 hs38 => ?_))
          refine Lc (wanted_none rfl) (c_storeN (i := 0) hs38 rfl rfl rfl rfl sz59 (by rfl) (by intro v hv; exact ic_one hR3 v hv) rfl (by decide) (Fz.zero _) (fun w39 hs40 => ?_))
          have hs40 := hs40.at0 (c' := ⟨icells vs3 D2.slot⟩) rfl
          refine Lnil ?_
          refine W_seq ?_
          have hKf2 : ∀ x ∈ ((b36, Obj.cells ⟨icells vs3 D2.slot⟩ 59 (0, 0)) :: im3), w.heap.size ≤ x.1 := fun x hx => (List.mem_cons.1 hx).elim (fun h => h ▸ hbb36) (hI3 x)
          have hR3' : ∀ j, j < 8 → RowIn im3 (vs3 j) (z1 j) := fun j hj => by have h7 := hR3 j hj; rwa [imZ_all hj (by rw [e2z, e2s j hj]), e2z] at h7
          have hK4 : ∀ x ∈ ((b22, Obj.cells #[pv b 0] 27 (0, 0)) :: (b2, Obj.cells #[vt] 23 (0, 0)) :: (b36, Obj.cells ⟨icells vs3 D2.slot⟩ 59 (0, 0)) :: im3), w.heap.size ≤ x.1 := fun x hx => by
            simp only [List.mem_cons] at hx
            rcases hx with rfl | rfl | rfl | hx
            · exact hbb22
            · exact hbb2
            · exact hbb36
            · exact hI3 x hx
          have h2s := hs40.re (L' := ((b22, .cells #[pv b 0] 27 (0, 0)) :: (b2, .cells #[vt] 23 (0, 0)) :: (b36, .cells ⟨icells vs3 D2.slot⟩ 59 (0, 0)) :: im3) ++ ((b, .cells ⟨dcells vz1 D2.sure D2.slot (.slice none 0 0) D2.fuse⟩ 104 (0, 0)) :: ([] ++ rows1))) (fun a => by simp only [ct_append, ct_cons, ct_nil]; omega)
          refine W_region ?_
          refine L0 (wanted_none rfl) rfl (y_move (v := Value.func _ _ _) rfl rfl) ?_
          refine L0 (wanted_none rfl) rfl (y_move (v := vb) rfl rfl) ?_
          refine Lc (wanted_none rfl) (c_call rfl rfl rfl Tryd.func54 (by kernel_rfl) rfl (rwrite_ok (K := (b36, .cells ⟨icells vs3 D2.slot⟩ 59 (0, 0)) :: im3) l2 at_ vb vt (hD2.drewn (K' := (b22, .cells #[pv b 0] 27 (0, 0)) :: (b2, .cells #[vt] 23 (0, 0)) :: (b36, .cells ⟨icells vs3 D2.slot⟩ 59 (0, 0)) :: im3) h2s) e2f hfB (by omega) (by omega) (fun w2 L2 h2 hf2 => keepH hSb h2 hKf2 hf2) (fun w2 L2 h2 hf2 => keepH hSt h2 hKf2 hf2) hbb22 hbb2 (Ext.refl (fun j hj => (hz2 j hj).2) (fun j hj => by rw [e2w] at hj; cases hj)) (e2z ▸ hF1)) rfl ?_)
          rintro vq w41 ⟨z4, vz4, rows4, rfl, hD4, hE4, hF4⟩
          have hs43 := hD4.st
          refine Lnil ?_
          refine W_seq ?_
          refine W_region ?_
          refine L1 (wanted_none rfl) rfl hs43 (y_load 1 rfl Tryd.underlying23 rfl rfl rfl rfl) ?_
          refine L0 (wanted_none rfl) rfl (y_indexSlAt rfl Tryd.underlying23 sz3 rfl rfl hSt (by omega) (by omega)) ?_
          refine L1 (wanted_none rfl) rfl hs43 ((y_loadAny 0 rfl Tryd.underlying3 rfl rfl (fun w2 h2 => keepH hSt h2 hK4 hD4.fresh) rfl (by omega))) ?_
          refine Lc (wanted_none rfl) (c_call rfl rfl rfl Tryd.func14 (by kernel_rfl) rfl (zpick_any _ 8 (by decide) (by decide) w41) rfl ?_)
          rintro vq w44 ⟨rfl, hc45⟩
          have hs46 := hs43.call0 hc45
          have hpr := zpickOf_range (a := at_.getD 0 0) (n := 8) (by decide)
          obtain ⟨q, hq⟩ : ∃ q : Nat, zpickOf (at_.getD 0 0) 8 = (q : Int) := ⟨(zpickOf (at_.getD 0 0) 8).toNat, by omega⟩
          rw [hq]
          have hq8 : q < 8 := by omega
          refine L0 (wanted_none rfl) rfl (y_assign (v := Value.int _ _) rfl rfl) ?_
          refine Lnil ?_
          refine W_seq ?_
          refine W_seq ?_
          refine W_region ?_
          refine L1 (wanted_none rfl) rfl hs46 (y_load 0 rfl Tryd.underlying27 rfl rfl rfl rfl) ?_
          refine L0 (wanted_none rfl) rfl (y_move (v := Value.int _ _) rfl rfl) ?_
          refine Lc (wanted_none rfl) (c_call rfl rfl rfl Tryd.func34 (by kernel_rfl) rfl (reset_ok (hD4.drewn (K' := (b22, .cells #[pv b 0] 27 (0, 0)) :: (b2, .cells #[vt] 23 (0, 0)) :: (b36, .cells ⟨icells vs3 D2.slot⟩ 59 (0, 0)) :: im3) hs46) e2f q (by omega) (by omega)) rfl ?_)
          rintro vq w47 ⟨vz5, rfl, hD5⟩
          have hs49 := hD5.st
          refine L0 (wanted_none rfl) rfl (y_neNilNil rfl Tryd.underlying32 rfl) ?_
          refine L0 (wanted_none rfl) rfl (y_move (v := Value.bool _) rfl rfl) ?_
          refine L1 (wanted_yesB rfl rfl rfl rfl) rfl hs49 (y_load 0 rfl Tryd.underlying27 rfl rfl rfl rfl) ?_
          refine Lc (wanted_yesB rfl rfl rfl rfl) (c_call rfl rfl rfl Tryd.func38 (by kernel_rfl) rfl (sync_ok (hD5.drewn (K' := (b22, .cells #[pv b 0] 27 (0, 0)) :: (b2, .cells #[vt] 23 (0, 0)) :: (b36, .cells ⟨icells vs3 D2.slot⟩ 59 (0, 0)) :: im3) hs49) e2f (fun j hj => by have h7 : j < D2.wait.length := hj; rw [e2w] at h7; cases h7) (by show D2.wait.length ≤ 1000; rw [e2w]; decide)) rfl ?_)
          rintro vq w50 ⟨rfl, hD6⟩
          obtain ⟨D6, hD6, e6z, e6w, e6f⟩ : ∃ D6 : Dv, DSt w ((b22, .cells #[pv b 0] 27 (0, 0)) :: (b2, .cells #[vt] 23 (0, 0)) :: (b36, .cells ⟨icells vs3 D2.slot⟩ 59 (0, 0)) :: im3) b D6 w50 vz5 (.slice none 0 0) [] rows4 ∧ D6.z = updF z4 q [] ∧ D6.wait = [] ∧ D6.fuse < 0 := ⟨_, hD6, rfl, rfl, e2f⟩
          have hs52 := hD6.st
          refine L0 (wanted_yesB rfl rfl rfl rfl) rfl (y_neNilNil rfl Tryd.underlying32 rfl) ?_
          refine L0 (wanted_none rfl) rfl (y_pickF rfl rfl (rfl : false = false) rfl) ?_
          refine Lnil ?_
          refine W_condF rfl rfl ?_
          refine W_skip ?_
          refine W_seq ?_
          refine W_seq ?_
          refine W_region ?_
          refine L0 (wanted_none rfl) rfl (y_assign (v := Value.int _ _) rfl rfl) ?_
          refine Lnil ?_
          refine W_block ?_
          refine W_loop (G := Nat × (Nat → List (List UInt8)) × (Nat → Value) × Blocks) (fun g aL wl => ∃ e, aL = A 135 ((11, iv g.1) :: (10, iv q) :: (7, pv b22 0) :: (5, pv b2 0) :: (9, pv b36 0) :: e) ∧ g.1 ≤ 16 ∧ DSt w ((b22, .cells #[pv b 0] 27 (0, 0)) :: (b2, .cells #[vt] 23 (0, 0)) :: (b36, .cells ⟨icells vs3 D2.slot⟩ 59 (0, 0)) :: im3) b { D6 with z := g.2.1 } wl g.2.2.1 (.slice none 0 0) [] g.2.2.2 ∧ (g.2.1 q).length = g.1 ∧ (∀ j, j < 8 → (g.2.1 j).length ≤ 16)) (fun g => 16 - g.1) ((0, D6.z, vz5, rows4)) ?_ ?_
          · exact ⟨_, A_pins _ _ [11, 10, 7, 5, 9], Nat.zero_le _, hD6.drewn hs52, (by show (D6.z q).length = 0; rw [e6z, updF_at]; rfl), (fun j hj => by show (D6.z j).length ≤ 16; rw [e6z]; exact lenU hE4.room (by show 0 ≤ 16; omega) j hj)⟩
          rintro g _ w53 ⟨ehs54, rfl, hi, hDi, hlen, hroom⟩
          obtain ⟨i, zi, vzi, rowsi⟩ := g
          dsimp only at *
          have hs54 := hDi.st
          refine W_seq ?_
          refine W_seq ?_
          refine W_region ?_
          refine L0 (wanted_none rfl) rfl (y_move (v := Value.int _ _) rfl rfl) ?_
          refine L0 (wanted_none rfl) rfl (y_lt rfl rfl rfl) ?_
          refine Lnil ?_
          refine Wsp (t := 64) rfl (fun h55 => ?_) (fun h55 => ?_)
          · have h55' := h55
            first | replace h55' := of_decide_eq_true h55' | replace h55' := bnT' h55' | skip
            refine W_condT rfl h55 ?_
            refine W_skip ?_
            refine W_seq ?_
            refine W_block ?_
            refine W_seq ?_
            refine W_region ?_
            refine L1 (wanted_none rfl) rfl hs54 (y_load 0 rfl Tryd.underlying27 rfl rfl rfl rfl) ?_
            refine L0 (wanted_none rfl) rfl (y_move (v := Value.int _ _) rfl rfl) ?_
            refine Lc (wanted_none rfl) (c_call rfl rfl rfl Tryd.func15 (by kernel_rfl) rfl (app_ok (hDi.drewn (K' := (b22, .cells #[pv b 0] 27 (0, 0)) :: (b2, .cells #[vt] 23 (0, 0)) :: (b36, .cells ⟨icells vs3 D2.slot⟩ 59 (0, 0)) :: im3) hs54) e6f q [120] (by omega) (by omega) (by decide) (by show (zi q).length < 16; omega)) rfl ?_)
            rintro vq w56 ⟨vz7, rows7, rfl, hD7⟩
            have hs58 := hD7.st
            refine L0 (wanted_none rfl) rfl (y_move (v := Value.tuple ⟨_⟩) rfl rfl) ?_
            refine L0 (wanted_none rfl) rfl (y_extract rfl rfl rfl) ?_
            refine L0 (wanted_none rfl) rfl (y_extract rfl rfl rfl) ?_
            refine L0 (wanted_none rfl) rfl (y_assign (v := Value.int _ _) rfl rfl) ?_
            refine L0 (wanted_none rfl) rfl (y_assign (v := _) rfl rfl) ?_
            refine Lnil ?_
            refine W_seq ?_
            refine W_region ?_
            refine L0 (wanted_none rfl) rfl (y_move (v := _) rfl rfl) ?_
            refine L0 (wanted_none rfl) rfl (y_neNilNil rfl Tryd.underlying32 rfl) ?_
            refine L0 (wanted_none rfl) rfl (y_move (v := Value.bool _) rfl rfl) ?_
            refine L0 (wanted_yesB rfl rfl rfl rfl) rfl (y_move (v := Value.int _ _) rfl rfl) ?_
            refine L0 (wanted_yesB rfl rfl rfl rfl) rfl (y_move (v := Value.int _ _) rfl rfl) ?_
            refine L0 (wanted_yesB rfl rfl rfl rfl) rfl (y_ne rfl rfl rfl) ?_
            refine L0 (wanted_none rfl) rfl (y_pickF rfl rfl (rfl : false = false) rfl) ?_
            refine Lnil ?_
            refine Wkn (t := 79) (b0 := false) rfl (by exact bnF (by show ((zi q).length : Int) = i; omega)) (fun h59 => ?_)
            refine W_condF rfl h59 ?_
            refine W_skip ?_
            refine W_region ?_
            refine L0 (wanted_none rfl) rfl (y_move (v := Value.int _ _) rfl rfl) ?_
            refine L0 (wanted_none rfl) rfl (y_add64 rfl rfl rfl (by omega)) ?_
            refine L0 (wanted_none rfl) rfl (y_assign (v := Value.int _ _) rfl rfl) ?_
            refine Lnil ?_
            exact ⟨(i + 1, updF zi q (zi q ++ [fillN [120] 128]), vz7, rows7), by first | omega | (dsimp only; done) | (dsimp only; omega), _, A_c (iv_eq (by first | omega | (dsimp only; done) | (dsimp only; omega))) (A_c rfl (A_c rfl (A_c rfl (A_c rfl (rfl))))), by first | omega | (dsimp only; done) | (dsimp only; omega), hD7.drewn hs58, (by dsimp only; rw [updF_at, List.length_append, hlen]; rfl), lenU hroom (by rw [List.length_append, hlen]; show i + 1 ≤ 16; omega)⟩
          · have h55' := h55
            first | replace h55' := of_decide_eq_false h55' | replace h55' := bnF' h55' | skip
            refine W_condF rfl h55 ?_
            refine W_exit ?_
            refine W_seq ?_
            obtain rfl : i = 16 := by omega
            refine W_region ?_
            refine L1 (wanted_none rfl) rfl hs54 (y_load 0 rfl Tryd.underlying27 rfl rfl rfl rfl) ?_
            refine L0 (wanted_none rfl) rfl (y_move (v := Value.int _ _) rfl rfl) ?_
            refine Lc (wanted_none rfl) (c_call rfl rfl rfl Tryd.func15 (by kernel_rfl) rfl (app_e12 b vzi D6.sure D6.slot (.slice none 0 0) D6.fuse w53 (hDi.drewn hs54).has q [120] (by omega) (by omega) (by decide) (zi q) ((hDi.drewn hs54).sl (j := q) (by omega)) hlen) rfl ?_)
            rintro _ w60 ⟨rfl, hc61⟩
            have hs62 := hs54.call0 hc61
            refine L0 (wanted_none rfl) rfl (y_move (v := Value.tuple ⟨_⟩) rfl rfl) ?_
            refine L0 (wanted_none rfl) rfl (y_extract rfl rfl rfl) ?_
            refine L0 (wanted_none rfl) rfl (y_extract rfl rfl rfl) ?_
            refine L0 (wanted_none rfl) rfl (y_assign (v := Value.int _ _) rfl rfl) ?_
            refine L0 (wanted_none rfl) rfl (y_assign (v := _) rfl rfl) ?_
            refine Lnil ?_
            refine W_seq ?_
            refine W_seq ?_
            refine W_region ?_
            refine L0 (wanted_none rfl) rfl (y_move (v := _) rfl rfl) ?_
            refine Lc (wanted_none rfl) (c_call rfl rfl rfl Tryd.func16 (by kernel_rfl) rfl (tell_errno 12 w60 (he.keep hs62 (fun hm => by obtain ⟨x, hx, e⟩ := List.mem_map.1 hm; have h7 := (List.mem_append.1 hx).elim (hK4 x) (hDi.fresh x); omega))) rfl ?_)
            rintro _ w63 ⟨rfl, hc64⟩
            have hs65 := hs62.call0 hc64
            refine L0 (wanted_none rfl) rfl (y_ne rfl rfl rfl) ?_
            refine Lnil ?_
            refine Wkn (t := 88) (b0 := false) rfl (by exact bnF rfl) (fun h66 => ?_)
            refine W_condF rfl h66 ?_
            refine W_skip ?_
            refine W_seq ?_
            refine W_region ?_
            refine L1 (wanted_none rfl) rfl hs65 (y_load 0 rfl Tryd.underlying27 rfl rfl rfl rfl) ?_
            refine L1 (wanted_none rfl) rfl hs65 ((y_loadN 2 rfl Tryd.underlying59 rfl sz59 rfl rfl (by show 0 + 10 ≤ 10; omega))) ?_
            refine Lc (wanted_none rfl) (c_call rfl rfl rfl Tryd.func44 (by kernel_rfl) rfl (lay_ok (D := { D6 with z := zi }) (hDi.drewn (K' := (b22, .cells #[pv b 0] 27 (0, 0)) :: (b2, .cells #[vt] 23 (0, 0)) :: (b36, .cells ⟨icells vs3 D2.slot⟩ 59 (0, 0)) :: im3) hs65).st hDi.newb hDi.rw.new hDi.newr vs3 z1 D2.slot im3 hR3' (fun x hx => by simp [hx]) (fun j hj => ⟨by have := hE1.room j hj; show (z1 j).length ≤ 1000; have h7 : (z1 j).length ≤ 16 := this; omega, fun k => full_getD hF1 hj k⟩) (fun j => by rw [e2l]; exact newD_slot j)) rfl ?_)
            rintro vq w67 ⟨vz8, rows8, rfl, hD8⟩
            obtain ⟨D8, hD8, e8z, e8s, e8w, e8l0, e8l1⟩ : ∃ D8 : Dv, DSt w ((b22, .cells #[pv b 0] 27 (0, 0)) :: (b2, .cells #[vt] 23 (0, 0)) :: (b36, .cells ⟨icells vs3 D2.slot⟩ 59 (0, 0)) :: im3) b D8 w67 vz8 (.slice none 0 0) [] rows8 ∧ (∀ j, j < 8 → D8.z j = z1 j) ∧ (∀ j, j < 8 → D8.sure j = (z1 j).length) ∧ D8.wait = [] ∧ D8.slot 0 = D2.slot 0 ∧ D8.slot 1 = D2.slot 1 := ⟨_, hD8, fun j hj => lyZ_full hF1 hj (hE1.room j hj), fun j hj => (sureF_lt hj).trans (by rw [lyZ_full hF1 hj (hE1.room j hj)]), rfl, by show fillN (D2.slot 0) 500 = _; rw [e2l]; rfl, by show fillN (D2.slot 1) 500 = _; rw [e2l]; rfl⟩
            have hs69 := hD8.st
            refine Lnil ?_
            refine W_seq ?_
            refine W_region ?_
            refine L1 (wanted_none rfl) rfl hs69 (y_load 0 rfl Tryd.underlying27 rfl rfl rfl rfl) ?_
            refine Lc (wanted_none rfl) (c_call rfl rfl rfl Tryd.func40 (by kernel_rfl) rfl (fuse_ok (hD8.drewn (K' := (b22, .cells #[pv b 0] 27 (0, 0)) :: (b2, .cells #[vt] 23 (0, 0)) :: (b36, .cells ⟨icells vs3 D2.slot⟩ 59 (0, 0)) :: im3) hs69) 0) rfl ?_)
            rintro vq w70 ⟨rfl, hD9⟩
            have hs72 := hD9.st
            refine Lnil ?_
            refine W_seq ?_
            by_cases c9 : (z1 ((q + 1) % 8)).length = 16
            · skip
              refine W_region ?_
              refine L1 (wanted_none rfl) rfl hs72 (y_load 0 rfl Tryd.underlying27 rfl rfl rfl rfl) ?_
              refine L0 (wanted_none rfl) rfl (y_move (v := Value.int _ _) rfl rfl) ?_
              refine L0 (wanted_none rfl) rfl (y_add64 rfl rfl rfl (by omega)) ?_
              refine L0 (wanted_none rfl) rfl (zy_rem64x rfl rfl rfl (by omega) (by decide) (z := (((q + 1) % 8 : Nat) : Int)) (by omega)) ?_
              refine Lc (wanted_none rfl) (c_call rfl rfl rfl Tryd.func15 (by kernel_rfl) rfl (app_e12 b vz8 D8.sure D8.slot (.slice none 0 0) (max 0 (-1)) w70 (hD9.drewn (K' := (b22, .cells #[pv b 0] 27 (0, 0)) :: (b2, .cells #[vt] 23 (0, 0)) :: (b36, .cells ⟨icells vs3 D2.slot⟩ 59 (0, 0)) :: im3) hs72).has (((q + 1) % 8) : Nat) [120] (by omega) (by omega) (by decide) (D8.z ((q + 1) % 8)) ((hD9.drewn (K' := (b22, .cells #[pv b 0] 27 (0, 0)) :: (b2, .cells #[vt] 23 (0, 0)) :: (b36, .cells ⟨icells vs3 D2.slot⟩ 59 (0, 0)) :: im3) hs72).sl (j := ((q + 1) % 8)) (by omega)) (by rw [e8z _ (by omega)]; exact c9)) rfl ?_)
              rintro _ w73 ⟨rfl, hc74⟩
              have hs75 := hs72.call0 hc74
              refine L0 (wanted_none rfl) rfl (y_move (v := Value.tuple ⟨_⟩) rfl rfl) ?_
              refine L0 (wanted_none rfl) rfl (y_extract rfl rfl rfl) ?_
              refine L0 (wanted_none rfl) rfl (y_extract rfl rfl rfl) ?_
              refine L0 (wanted_none rfl) rfl (y_assign (v := _) rfl rfl) ?_
              refine Lnil ?_
              refine W_seq ?_
              refine W_region ?_
              refine L0 (wanted_none rfl) rfl (y_move (v := Value.int _ _) rfl rfl) ?_
              refine L0 (wanted_none rfl) rfl (y_add64 rfl rfl rfl (by omega)) ?_
              refine L0 (wanted_none rfl) rfl (zy_rem64x rfl rfl rfl (by omega) (by decide) (z := (((q + 1) % 8 : Nat) : Int)) (by omega)) ?_
              refine L0 (wanted_none rfl) rfl (y_fieldAddr rfl Tryd.underlying59 rfl sz29 rfl) ?_
              refine L0 (wanted_none rfl) rfl (y_indexArr rfl Tryd.underlying29 sz22 rfl rfl (by omega) (by omega)) ?_
              refine L1 (wanted_none rfl) rfl hs75 (y_load 2 rfl Tryd.underlying22 rfl rfl rfl (ic_z vs3 D2.slot (by omega) (by omega))) ?_
              refine L0 (wanted_none rfl) rfl (y_slenSl rfl Tryd.underlying22 rfl ((hR3' ((q + 1) % 8) (by omega)).sl hs75 (fun x hx => by simp [hx]))) ?_
              refine L0 (wanted_none rfl) rfl (y_eq rfl rfl rfl) ?_
              refine L0 (wanted_none rfl) rfl (y_assign (v := Value.bool _) rfl rfl) ?_
              refine Lnil ?_
              refine W_seq ?_
              refine W_drawSt [(0, 0), (0, 1), (0, 2), (3, 3), (0, 4), (0, 5), (0, 6), (1, 7), (3, 8), (3, 9), (0, 10), (0, 11), (0, 12), (1, 13), (0, 14), (3, 15), (3, 16), (0, 17), (0, 18), (0, 19), (1, 20), (1, 22), (3, 21), (3, 23), (0, 24), (0, 25)] hs75 mixed (by kernel_rfl) (fun w76 hs77 => ?_)
              refine E0 (wanted_none rfl) rfl (y_move (v := Value.bool _) rfl rfl) ?_
              refine E0 (wanted_none rfl) rfl (y_move (v := Value.bool _) rfl rfl) ?_
              refine Ekn (t := 111) (b0 := true) rfl (by exact decide_eq_true (by omega)) (fun h78 => ?_)
              refine Eno (wanted_noB rfl rfl rfl h78 (by decide)) rfl ?_
              refine E3no (wanted_noB rfl rfl rfl h78 (by decide)) rfl ?_
              refine Eno (wanted_noB rfl rfl rfl h78 (by decide)) rfl ?_
              refine E0 (wanted_none rfl) rfl (y_pickT rfl rfl h78 rfl) ?_
              refine E0 (wanted_none rfl) rfl (y_move (v := Value.bool _) rfl rfl) ?_
              refine E1 hs77 (wanted_yesB rfl rfl rfl rfl) rfl (y_load 0 rfl Tryd.underlying27 rfl rfl rfl rfl) ?_
              refine E3 (wanted_yesB rfl rfl rfl rfl) (c_call rfl rfl rfl Tryd.func38 (by kernel_rfl) rfl (sync_e14 b vz8 D8.sure D8.slot (.slice none 0 0) w76 (hD9.drewn (K' := (b22, .cells #[pv b 0] 27 (0, 0)) :: (b2, .cells #[vt] 23 (0, 0)) :: (b36, .cells ⟨icells vs3 D2.slot⟩ 59 (0, 0)) :: im3) hs77).has) rfl ?_)
              rintro _ w79 ⟨rfl, hc80⟩
              have hs81 := hs77.call0 hc80
              refine ⟨fun _ => hs81, ?_⟩
              refine E3 (wanted_yesB rfl rfl rfl rfl) (c_call rfl rfl rfl Tryd.func16 (by kernel_rfl) rfl (tell_errno 14 w79 (he.keep hs81 (fun hm => by obtain ⟨x, hx, e⟩ := List.mem_map.1 hm; have h7 := (List.mem_append.1 hx).elim (hK4 x) (hD9.fresh x); omega))) rfl ?_)
              rintro _ w82 ⟨rfl, hc83⟩
              have hs84 := hs81.call0 hc83
              refine ⟨fun _ => hs84, ?_⟩
              refine E0 (wanted_yesB rfl rfl rfl rfl) rfl (y_eq rfl rfl rfl) ?_
              refine E0 (wanted_none rfl) rfl (y_pickT rfl rfl (rfl : true = true) rfl) ?_
              refine E0 (wanted_none rfl) rfl (y_move (v := Value.bool _) rfl rfl) ?_
              refine Ekn (t := 122) (b0 := true) rfl (by exact decide_eq_true rfl) (fun h85 => ?_)
              refine E1 hs84 (wanted_yesB rfl rfl rfl h85) rfl (y_load 0 rfl Tryd.underlying27 rfl rfl rfl rfl) ?_
              refine E0 (wanted_yesB rfl rfl rfl h85) rfl (y_move (v := Value.int _ _) rfl rfl) ?_
              refine E3 (wanted_yesB rfl rfl rfl h85) (c_call rfl rfl rfl Tryd.func34 (by kernel_rfl) rfl (reset_e14 b vz8 D8.sure D8.slot (.slice none 0 0) w82 (hD9.drewn (K' := (b22, .cells #[pv b 0] 27 (0, 0)) :: (b2, .cells #[vt] 23 (0, 0)) :: (b36, .cells ⟨icells vs3 D2.slot⟩ 59 (0, 0)) :: im3) hs84).has q (by omega) (by omega)) rfl ?_)
              rintro _ w86 ⟨rfl, hc87⟩
              have hs88 := hs84.call0 hc87
              refine ⟨fun _ => hs88, ?_⟩
              refine E3 (wanted_yesB rfl rfl rfl h85) (c_call rfl rfl rfl Tryd.func16 (by kernel_rfl) rfl (tell_errno 14 w86 (he.keep hs88 (fun hm => by obtain ⟨x, hx, e⟩ := List.mem_map.1 hm; have h7 := (List.mem_append.1 hx).elim (hK4 x) (hD9.fresh x); omega))) rfl ?_)
              rintro _ w89 ⟨rfl, hc90⟩
              have hs91 := hs88.call0 hc90
              refine ⟨fun _ => hs91, ?_⟩
              refine E0 (wanted_yesB rfl rfl rfl h85) rfl (y_eq rfl rfl rfl) ?_
              refine E0 (wanted_none rfl) rfl (y_pickT rfl rfl h85 rfl) ?_
              refine E0 (wanted_none rfl) rfl (y_move (v := Value.bool _) rfl rfl) ?_
              refine Ekn (t := 129) (b0 := true) rfl (by exact decide_eq_true rfl) (fun h92 => ?_)
              refine E1 hs91 (wanted_yesB rfl rfl rfl h92) rfl (y_load 0 rfl Tryd.underlying27 rfl rfl rfl rfl) ?_
              refine E1 hs91 (wanted_yesB rfl rfl rfl h92) rfl ((y_loadN 2 rfl Tryd.underlying59 rfl sz59 rfl rfl (by show 0 + 10 ≤ 10; omega))) ?_
              refine E3 (wanted_yesB rfl rfl rfl h92) (c_call rfl rfl rfl Tryd.func47 (by kernel_rfl) rfl (image_ok (hD9.drewn (K' := (b22, .cells #[pv b 0] 27 (0, 0)) :: (b2, .cells #[vt] 23 (0, 0)) :: (b36, .cells ⟨icells vs3 D2.slot⟩ 59 (0, 0)) :: im3) hs91) (fun j hj => by show D8.sure j ≤ (D8.z j).length ∧ (D8.z j).length ≤ 16; rw [e8s j hj, e8z j hj]; exact ⟨Nat.le_refl _, hE1.room j hj⟩)) rfl ?_)
              rintro vq w93 ⟨vs9, im9, rfl, hD10, hR10, hI10⟩
              have hs95 := hD10.st.re (L' := im9 ++ ((b22, .cells #[pv b 0] 27 (0, 0)) :: (b2, .cells #[vt] 23 (0, 0)) :: (b36, .cells ⟨icells vs3 D2.slot⟩ 59 (0, 0)) :: (im3 ++ ((b, .cells ⟨dcells vz8 D8.sure D8.slot (.slice none 0 0) (max 0 (-1))⟩ 104 (0, 0)) :: ([] ++ rows8))))) (fun a => by simp only [ct_append, ct_cons, ct_nil]; omega)
              have hR10' : ∀ j, j < 8 → RowIn im9 (vs9 j) (z1 j) := fun j hj => by have h7 := hR10 j hj; rw [imZ_all hj (by show D8.sure j = (D8.z j).length; rw [e8s j hj, e8z j hj])] at h7; exact (e8z j hj) ▸ h7
              rw [icells_congr (vs := vs9) e8l0 e8l1]
              refine ⟨fun _ => hs95.dropL (M := im9) hI10, ?_⟩
              refine E3 (wanted_yesB rfl rfl rfl h92) (c_call rfl rfl rfl Tryd.func55 (by kernel_rfl) rfl (alike_any vs9 vs3 D2.slot z1 w93 (fun j hj => by have h7 : (z1 j).length ≤ 16 := hE1.room j hj; omega) (fun j hj => (hR10' j hj).sl hs95 (fun x hx => by simp [hx])) (fun j hj => (hR3' j hj).sl hs95 (fun x hx => by simp [hx]))) rfl ?_)
              rintro _ w96 ⟨rfl, hc97⟩
              have hs98 := hs95.call0 hc97
              refine ⟨fun _ => hs98.dropL (M := im9) hI10, ?_⟩
              refine E0 (wanted_none rfl) rfl (y_pickT rfl rfl h92 rfl) ?_
              refine E0 (wanted_none rfl) rfl (y_assign (v := Value.bool _) rfl rfl) ?_
              refine Enil ?_
              refine W_ret ?_
              refine fin1 (fn := Tryd.f7) rfl rfl ?_
              first | exact ⟨rfl, hs98.drop (.inl hbb2)⟩ | exact ⟨rfl, hD9.forget (hs98.dropL (M := im9) hI10) hK4⟩
            · skip
              refine W_region ?_
              refine L1 (wanted_none rfl) rfl hs72 (y_load 0 rfl Tryd.underlying27 rfl rfl rfl rfl) ?_
              refine L0 (wanted_none rfl) rfl (y_move (v := Value.int _ _) rfl rfl) ?_
              refine L0 (wanted_none rfl) rfl (y_add64 rfl rfl rfl (by omega)) ?_
              refine L0 (wanted_none rfl) rfl (zy_rem64x rfl rfl rfl (by omega) (by decide) (z := (((q + 1) % 8 : Nat) : Int)) (by omega)) ?_
              refine Lc (wanted_none rfl) (c_call rfl rfl rfl Tryd.func15 (by kernel_rfl) rfl (app_e14 b vz8 D8.sure D8.slot (.slice none 0 0) w70 (hD9.drewn (K' := (b22, .cells #[pv b 0] 27 (0, 0)) :: (b2, .cells #[vt] 23 (0, 0)) :: (b36, .cells ⟨icells vs3 D2.slot⟩ 59 (0, 0)) :: im3) hs72).has (((q + 1) % 8) : Nat) [120] (by omega) (by omega) (by decide) (D8.z ((q + 1) % 8)) ((hD9.drewn (K' := (b22, .cells #[pv b 0] 27 (0, 0)) :: (b2, .cells #[vt] 23 (0, 0)) :: (b36, .cells ⟨icells vs3 D2.slot⟩ 59 (0, 0)) :: im3) hs72).sl (j := ((q + 1) % 8)) (by omega)) (by rw [e8z _ (by omega)]; exact c9)) rfl ?_)
              rintro _ w99 ⟨rfl, hc100⟩
              have hs101 := hs72.call0 hc100
              refine L0 (wanted_none rfl) rfl (y_move (v := Value.tuple ⟨_⟩) rfl rfl) ?_
              refine L0 (wanted_none rfl) rfl (y_extract rfl rfl rfl) ?_
              refine L0 (wanted_none rfl) rfl (y_extract rfl rfl rfl) ?_
              refine L0 (wanted_none rfl) rfl (y_assign (v := _) rfl rfl) ?_
              refine Lnil ?_
              refine W_seq ?_
              refine W_region ?_
              refine L0 (wanted_none rfl) rfl (y_move (v := Value.int _ _) rfl rfl) ?_
              refine L0 (wanted_none rfl) rfl (y_add64 rfl rfl rfl (by omega)) ?_
              refine L0 (wanted_none rfl) rfl (zy_rem64x rfl rfl rfl (by omega) (by decide) (z := (((q + 1) % 8 : Nat) : Int)) (by omega)) ?_
              refine L0 (wanted_none rfl) rfl (y_fieldAddr rfl Tryd.underlying59 rfl sz29 rfl) ?_
              refine L0 (wanted_none rfl) rfl (y_indexArr rfl Tryd.underlying29 sz22 rfl rfl (by omega) (by omega)) ?_
              refine L1 (wanted_none rfl) rfl hs101 (y_load 2 rfl Tryd.underlying22 rfl rfl rfl (ic_z vs3 D2.slot (by omega) (by omega))) ?_
              refine L0 (wanted_none rfl) rfl (y_slenSl rfl Tryd.underlying22 rfl ((hR3' ((q + 1) % 8) (by omega)).sl hs101 (fun x hx => by simp [hx]))) ?_
              refine L0 (wanted_none rfl) rfl (y_eq rfl rfl rfl) ?_
              refine L0 (wanted_none rfl) rfl (y_assign (v := Value.bool _) rfl rfl) ?_
              refine Lnil ?_
              refine W_seq ?_
              refine W_drawSt [(0, 0), (0, 1), (0, 2), (3, 3), (0, 4), (0, 5), (0, 6), (1, 7), (3, 8), (3, 9), (0, 10), (0, 11), (0, 12), (1, 13), (0, 14), (3, 15), (3, 16), (0, 17), (0, 18), (0, 19), (1, 20), (1, 22), (3, 21), (3, 23), (0, 24), (0, 25)] hs101 mixed (by kernel_rfl) (fun w102 hs103 => ?_)
              refine E0 (wanted_none rfl) rfl (y_move (v := Value.bool _) rfl rfl) ?_
              refine E0 (wanted_none rfl) rfl (y_move (v := Value.bool _) rfl rfl) ?_
              refine Ekn (t := 111) (b0 := false) rfl (by exact decide_eq_false (by omega)) (fun h104 => ?_)
              refine E0 (wanted_yesB rfl rfl rfl h104) rfl (y_move (v := _) rfl rfl) ?_
              refine E3 (wanted_yesB rfl rfl rfl h104) (c_call rfl rfl rfl Tryd.func16 (by kernel_rfl) rfl (tell_errno 14 w102 (he.keep hs103 (fun hm => by obtain ⟨x, hx, e⟩ := List.mem_map.1 hm; have h7 := (List.mem_append.1 hx).elim (hK4 x) (hD9.fresh x); omega))) rfl ?_)
              rintro _ w105 ⟨rfl, hc106⟩
              have hs107 := hs103.call0 hc106
              refine ⟨fun _ => hs107, ?_⟩
              refine E0 (wanted_yesB rfl rfl rfl h104) rfl (y_eq rfl rfl rfl) ?_
              refine E0 (wanted_none rfl) rfl (y_pickF rfl rfl h104 rfl) ?_
              refine E0 (wanted_none rfl) rfl (y_move (v := Value.bool _) rfl rfl) ?_
              refine Ekn (t := 116) (b0 := true) rfl (by exact decide_eq_true rfl) (fun h108 => ?_)
              refine E1 hs107 (wanted_yesB rfl rfl rfl h108) rfl (y_load 0 rfl Tryd.underlying27 rfl rfl rfl rfl) ?_
              refine E3 (wanted_yesB rfl rfl rfl h108) (c_call rfl rfl rfl Tryd.func38 (by kernel_rfl) rfl (sync_e14 b vz8 D8.sure D8.slot (.slice none 0 0) w105 (hD9.drewn (K' := (b22, .cells #[pv b 0] 27 (0, 0)) :: (b2, .cells #[vt] 23 (0, 0)) :: (b36, .cells ⟨icells vs3 D2.slot⟩ 59 (0, 0)) :: im3) hs107).has) rfl ?_)
              rintro _ w109 ⟨rfl, hc110⟩
              have hs111 := hs107.call0 hc110
              refine ⟨fun _ => hs111, ?_⟩
              refine E3 (wanted_yesB rfl rfl rfl h108) (c_call rfl rfl rfl Tryd.func16 (by kernel_rfl) rfl (tell_errno 14 w109 (he.keep hs111 (fun hm => by obtain ⟨x, hx, e⟩ := List.mem_map.1 hm; have h7 := (List.mem_append.1 hx).elim (hK4 x) (hD9.fresh x); omega))) rfl ?_)
              rintro _ w112 ⟨rfl, hc113⟩
              have hs114 := hs111.call0 hc113
              refine ⟨fun _ => hs114, ?_⟩
              refine E0 (wanted_yesB rfl rfl rfl h108) rfl (y_eq rfl rfl rfl) ?_
              refine E0 (wanted_none rfl) rfl (y_pickT rfl rfl h108 rfl) ?_
              refine E0 (wanted_none rfl) rfl (y_move (v := Value.bool _) rfl rfl) ?_
              refine Ekn (t := 122) (b0 := true) rfl (by exact decide_eq_true rfl) (fun h115 => ?_)
              refine E1 hs114 (wanted_yesB rfl rfl rfl h115) rfl (y_load 0 rfl Tryd.underlying27 rfl rfl rfl rfl) ?_
              refine E0 (wanted_yesB rfl rfl rfl h115) rfl (y_move (v := Value.int _ _) rfl rfl) ?_
              refine E3 (wanted_yesB rfl rfl rfl h115) (c_call rfl rfl rfl Tryd.func34 (by kernel_rfl) rfl (reset_e14 b vz8 D8.sure D8.slot (.slice none 0 0) w112 (hD9.drewn (K' := (b22, .cells #[pv b 0] 27 (0, 0)) :: (b2, .cells #[vt] 23 (0, 0)) :: (b36, .cells ⟨icells vs3 D2.slot⟩ 59 (0, 0)) :: im3) hs114).has q (by omega) (by omega)) rfl ?_)
              rintro _ w116 ⟨rfl, hc117⟩
              have hs118 := hs114.call0 hc117
              refine ⟨fun _ => hs118, ?_⟩
              refine E3 (wanted_yesB rfl rfl rfl h115) (c_call rfl rfl rfl Tryd.func16 (by kernel_rfl) rfl (tell_errno 14 w116 (he.keep hs118 (fun hm => by obtain ⟨x, hx, e⟩ := List.mem_map.1 hm; have h7 := (List.mem_append.1 hx).elim (hK4 x) (hD9.fresh x); omega))) rfl ?_)
              rintro _ w119 ⟨rfl, hc120⟩
              have hs121 := hs118.call0 hc120
              refine ⟨fun _ => hs121, ?_⟩
              refine E0 (wanted_yesB rfl rfl rfl h115) rfl (y_eq rfl rfl rfl) ?_
              refine E0 (wanted_none rfl) rfl (y_pickT rfl rfl h115 rfl) ?_
              refine E0 (wanted_none rfl) rfl (y_move (v := Value.bool _) rfl rfl) ?_
              refine Ekn (t := 129) (b0 := true) rfl (by exact decide_eq_true rfl) (fun h122 => ?_)
              refine E1 hs121 (wanted_yesB rfl rfl rfl h122) rfl (y_load 0 rfl Tryd.underlying27 rfl rfl rfl rfl) ?_
              refine E1 hs121 (wanted_yesB rfl rfl rfl h122) rfl ((y_loadN 2 rfl Tryd.underlying59 rfl sz59 rfl rfl (by show 0 + 10 ≤ 10; omega))) ?_
              refine E3 (wanted_yesB rfl rfl rfl h122) (c_call rfl rfl rfl Tryd.func47 (by kernel_rfl) rfl (image_ok (hD9.drewn (K' := (b22, .cells #[pv b 0] 27 (0, 0)) :: (b2, .cells #[vt] 23 (0, 0)) :: (b36, .cells ⟨icells vs3 D2.slot⟩ 59 (0, 0)) :: im3) hs121) (fun j hj => by show D8.sure j ≤ (D8.z j).length ∧ (D8.z j).length ≤ 16; rw [e8s j hj, e8z j hj]; exact ⟨Nat.le_refl _, hE1.room j hj⟩)) rfl ?_)
              rintro vq w123 ⟨vs9, im9, rfl, hD10, hR10, hI10⟩
              have hs125 := hD10.st.re (L' := im9 ++ ((b22, .cells #[pv b 0] 27 (0, 0)) :: (b2, .cells #[vt] 23 (0, 0)) :: (b36, .cells ⟨icells vs3 D2.slot⟩ 59 (0, 0)) :: (im3 ++ ((b, .cells ⟨dcells vz8 D8.sure D8.slot (.slice none 0 0) (max 0 (-1))⟩ 104 (0, 0)) :: ([] ++ rows8))))) (fun a => by simp only [ct_append, ct_cons, ct_nil]; omega)
              have hR10' : ∀ j, j < 8 → RowIn im9 (vs9 j) (z1 j) := fun j hj => by have h7 := hR10 j hj; rw [imZ_all hj (by show D8.sure j = (D8.z j).length; rw [e8s j hj, e8z j hj])] at h7; exact (e8z j hj) ▸ h7
              rw [icells_congr (vs := vs9) e8l0 e8l1]
              refine ⟨fun _ => hs125.dropL (M := im9) hI10, ?_⟩
              refine E3 (wanted_yesB rfl rfl rfl h122) (c_call rfl rfl rfl Tryd.func55 (by kernel_rfl) rfl (alike_any vs9 vs3 D2.slot z1 w123 (fun j hj => by have h7 : (z1 j).length ≤ 16 := hE1.room j hj; omega) (fun j hj => (hR10' j hj).sl hs125 (fun x hx => by simp [hx])) (fun j hj => (hR3' j hj).sl hs125 (fun x hx => by simp [hx]))) rfl ?_)
              rintro _ w126 ⟨rfl, hc127⟩
              have hs128 := hs125.call0 hc127
              refine ⟨fun _ => hs128.dropL (M := im9) hI10, ?_⟩
              refine E0 (wanted_none rfl) rfl (y_pickT rfl rfl h122 rfl) ?_
              refine E0 (wanted_none rfl) rfl (y_assign (v := Value.bool _) rfl rfl) ?_
              refine Enil ?_
              refine W_ret ?_
              refine fin1 (fn := Tryd.f7) rfl rfl ?_
              first | exact ⟨rfl, hs128.drop (.inl hbb2)⟩ | exact ⟨rfl, hD9.forget (hs128.dropL (M := im9) hI10) hK4⟩
end Go.Proofs.YtkolfgmpmnelmabDoor

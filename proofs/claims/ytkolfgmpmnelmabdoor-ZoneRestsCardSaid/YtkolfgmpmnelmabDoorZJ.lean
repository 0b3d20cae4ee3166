/-
  Walk: what keep.ZoneRests writes.
-/
import Derived.Test.YtkolfgmpmnelmabDoorZI
namespace Go.Proofs.YtkolfgmpmnelmabDoor
open Go Vx Go.Proofs
set_option linter.unusedVariables false
set_option maxRecDepth 4000
set_option maxHeartbeats 400000

def Full128 (z : Nat → List (List UInt8)) : Prop := ∀ j, j < 8 → ∀ s ∈ z j, s.length = 128
theorem app_stepF {W0 : World} {K : Blocks} {b : Nat} {D : Dv} {w : World} {vz : Nat → Value} {vw : Value} {went rows : Blocks} (h : DSt W0 K b D w vz vw went rows) (hf : D.fuse < 0) (i : Int) (s : List UInt8) (h0 : 0 ≤ i) (h1 : i < 8) (hs : s.length ≤ 128) (hr : ∀ j, j < 8 → (D.z j).length ≤ 16) (hF : Full128 D.z) :
    C Tryd.prog 15 ⟨[pv b 0, iv i, str s]⟩ w fun v w' => ∃ z' vz' rows', DSt W0 K b { D with z := z' } w' vz' vw went rows' ∧ (∀ j, j < 8 → ∃ m, z' j = D.z j ++ m) ∧ (∀ j, j < 8 → (z' j).length ≤ 16) ∧ Full128 z' := by
  have hj : i.toNat < 8 := by omega
  by_cases hl : (D.z i.toNat).length < 16
  · refine (app_ok h hf i s h0 h1 hs hl).mono fun v w' ⟨vz', rows', _, h2⟩ => ⟨_, vz', rows', h2, fun j hj => ?_, fun j hj => ?_, fun j hj => ?_⟩
    · by_cases e : j = i.toNat
      · subst e; rw [updF_at]; exact ⟨_, rfl⟩
      · rw [updF_ne _ _ e]; exact ⟨[], (List.append_nil _).symm⟩
    · by_cases e : j = i.toNat
      · subst e; rw [updF_at, List.length_append]; simp; omega
      · rw [updF_ne _ _ e]; exact hr j hj
    · by_cases e : j = i.toNat
      · subst e; rw [updF_at]
        intro t ht
        rcases List.mem_append.1 ht with ht | ht
        · exact hF _ hj t ht
        · rw [List.mem_singleton.1 ht]; exact fillN_len s 128
      · rw [updF_ne _ _ e]; exact hF j hj
  · have h16 := hr _ hj
    refine (app_e12 b vz D.sure D.slot vw D.fuse w h.has i s h0 h1 hs (D.z i.toNat) (h.sl hj) (by omega)).mono fun v w' ⟨_, h2⟩ => ⟨D.z, vz, rows, h.call0 h2, fun j _ => ⟨[], (List.append_nil _).symm⟩, hr, hF⟩
theorem fillN_full {s : List UInt8} {n : Nat} (h : s.length = n) : fillN s n = s := by
  rw [fillN, List.take_append_of_le_length (by omega), List.take_of_length_le (by omega)]
theorem lyZ_full {z : Nat → List (List UInt8)} (hF : Full128 z) {j : Nat} (hj : j < 8) (h16 : (z j).length ≤ 16) : lyZ z j = z j := by
  rw [lyZ, List.take_of_length_le h16]
  have h : ∀ s ∈ z j, fillN s 128 = id s := fun s hs => fillN_full (hF j hj s hs)
  rw [List.map_congr_left h, List.map_id]
theorem rwrite_ok {W0 : World} {K : Blocks} {b b11 b7 : Nat} {D : Dv} {w : World} {vz : Nat → Value} {vw : Value} {went rows : Blocks} (l : List (List UInt8)) (at_ : List Int) (va vt : Value) (h : DSt W0 ((b11, .cells #[pv b 0] 27 (0, 0)) :: (b7, .cells #[vt] 23 (0, 0)) :: K) b D w vz vw went rows) (hf : D.fuse < 0) (hfew : Few l) (hat : 0 < at_.length) (hat2 : at_.length ≤ 20)
    (hS : ∀ w' L', St W0 (K ++ L') w' → (∀ x ∈ L', W0.heap.size ≤ x.1) → Sl w' va l.length (zstrs l)) (hT : ∀ w' L', St W0 (K ++ L') w' → (∀ x ∈ L', W0.heap.size ≤ x.1) → Sl w' vt at_.length (fun j => iv (at_.getD j 0)))
    (hn1 : W0.heap.size ≤ b11) (hn2 : W0.heap.size ≤ b7) (hE : Ext D D) (hF : Full128 D.z) :
    C Tryd.prog 54 ⟨[va, pv b11 0, pv b7 0]⟩ w fun v w' => ∃ z' vz' rows', v = .tuple #[] ∧ DSt W0 ((b11, .cells #[pv b 0] 27 (0, 0)) :: (b7, .cells #[vt] 23 (0, 0)) :: K) b { D with z := z' } w' vz' vw went rows' ∧ Ext D { D with z := z' } ∧ Full128 z' := by
  have hl20 := hfew.1
  have hS2 : ∀ (M : Blocks) (w2 : World), St W0 ((b11, .cells #[pv b 0] 27 (0, 0)) :: (b7, .cells #[vt] 23 (0, 0)) :: (K ++ M)) w2 → (∀ x ∈ M, W0.heap.size ≤ x.1) → Sl w2 va l.length (zstrs l) ∧ Sl w2 vt at_.length (fun j => iv (at_.getD j 0)) := fun M w2 h2 hM => by
    have h3 := h2.re (L' := K ++ ((b11, .cells #[pv b 0] 27 (0, 0)) :: (b7, .cells #[vt] 23 (0, 0)) :: M)) (fun a => by simp only [ct_append, ct_cons]; omega)
    have hfr : ∀ x ∈ ((b11, Obj.cells #[pv b 0] 27 (0, 0)) :: (b7, Obj.cells #[vt] 23 (0, 0)) :: M), W0.heap.size ≤ x.1 := fun x hx => by
      simp only [List.mem_cons] at hx
      rcases hx with rfl | rfl | hx
      · exact hn1
      · exact hn2
      · exact hM x hx
    exact ⟨hS w2 _ h3 hfr, hT w2 _ h3 hfr⟩
  have hSw := (hS2 _ w h.st h.fresh).1
  have hTw := (hS2 _ w h.st h.fresh).2
  refine C_enter (n := 27) Tryd.func54 rfl rfl rfl (fun w1 hs1 => ?_)
  have hs0 := h.st.call0 hs1
  refine W_seq ?_
  refine W_region ?_
  refine L0 (wanted_none rfl) rfl (y_assign (v := Value.int _ _) rfl rfl) ?_
  refine Lnil ?_
  refine W_block ?_
  refine W_loop (G := Nat × (Nat → List (List UInt8)) × (Nat → Value) × Blocks) (fun g aL wl => ∃ e, aL = A 27 ((4, iv g.1) :: (0, va) :: (1, pv b11 0) :: (2, pv b7 0) :: e) ∧ g.1 ≤ l.length ∧ DSt W0 ((b11, .cells #[pv b 0] 27 (0, 0)) :: (b7, .cells #[vt] 23 (0, 0)) :: K) b { D with z := g.2.1 } wl g.2.2.1 vw went g.2.2.2 ∧ Ext D { D with z := g.2.1 } ∧ Full128 g.2.1) (fun g => l.length - g.1) ((0, D.z, vz, rows)) ?_ ?_
  · exact ⟨_, A_pins _ _ [4, 0, 1, 2], Nat.zero_le _, h.drewn hs0, hE, hF⟩
  rintro g _ w2 ⟨ehs3, rfl, hi, hDi, hEi, hFi⟩
  obtain ⟨i, zi, vzi, rowsi⟩ := g
  dsimp only at *
  have hs3 := hDi.st
  refine W_seq ?_
  refine W_seq ?_
  refine W_region ?_
  refine L0 (wanted_none rfl) rfl (y_move (v := Value.int _ _) rfl rfl) ?_
  refine L0 (wanted_none rfl) rfl (y_move (v := va) rfl rfl) ?_
  refine L0 (wanted_none rfl) rfl (y_slenSl rfl Tryd.underlying22 rfl hSw) ?_
  refine L0 (wanted_none rfl) rfl (y_lt rfl rfl rfl) ?_
  refine Lnil ?_
  refine Wsp (t := 8) rfl (fun h4 => ?_) (fun h4 => ?_)
  · have h4' := h4
    first | replace h4' := of_decide_eq_true h4' | replace h4' := bnT' h4' | skip
    refine W_condT rfl h4 ?_
    refine W_skip ?_
    refine W_seq ?_
    refine W_block ?_
    have hm0 := Int.emod_nonneg (i : Int) (b := (at_.length : Int)) (by omega)
    have hm1 := Int.emod_lt_of_pos (i : Int) (b := (at_.length : Int)) (by omega)
    have h80 := hfew.2 i
    have hfi : D.fuse < 0 := hf
    refine W_drawS [(1, 0), (1, 1), (0, 2), (1, 3), (0, 8), (0, 11), (0, 12), (0, 4), (0, 13), (0, 5), (1, 14), (0, 6), (1, 7), (0, 9), (3, 10), (3, 15)] (fun w2 => ∃ M2, St W0 ((b11, .cells #[pv b 0] 27 (0, 0)) :: (b7, .cells #[vt] 23 (0, 0)) :: (K ++ M2)) w2 ∧ ∀ x ∈ M2, W0.heap.size ≤ x.1) hs3 mixed (by kernel_rfl) (fun w5 hs6 => ?_)
    refine E1 ⟨_, hs6, (by first | exact hDi.fresh | exact hD2.fresh)⟩ (wanted_none rfl) rfl (fun w2 hSS => by obtain ⟨M2, h2, hf2⟩ := hSS; exact (y_load 0 rfl Tryd.underlying27 rfl rfl rfl rfl) w2 h2) ?_
    refine E1 ⟨_, hs6, (by first | exact hDi.fresh | exact hD2.fresh)⟩ (wanted_none rfl) rfl (fun w2 hSS => by obtain ⟨M2, h2, hf2⟩ := hSS; exact (y_load 1 rfl Tryd.underlying23 rfl rfl rfl rfl) w2 h2) ?_
    refine E0 (wanted_none rfl) rfl (y_move (v := Value.int _ _) rfl rfl) ?_
    refine E1 ⟨_, hs6, (by first | exact hDi.fresh | exact hD2.fresh)⟩ (wanted_none rfl) rfl (fun w2 hSS => by obtain ⟨M2, h2, hf2⟩ := hSS; exact (y_load 1 rfl Tryd.underlying23 rfl rfl rfl rfl) w2 h2) ?_
    refine E0 (wanted_none rfl) rfl (y_move (v := Value.int _ _) rfl rfl) ?_
    refine E0 (wanted_none rfl) rfl (y_move (v := va) rfl rfl) ?_
    refine E0 (wanted_none rfl) rfl (y_move (v := Value.int _ _) rfl rfl) ?_
    refine E0 (wanted_none rfl) rfl (y_slenSl rfl Tryd.underlying23 rfl hTw) ?_
    refine E0 (wanted_none rfl) rfl (y_indexSlAt rfl Tryd.underlying22 sz9 rfl rfl hSw (by omega) (by omega)) ?_
    refine E0 (wanted_none rfl) rfl (y_rem64 rfl rfl rfl (by omega) (by omega)) ?_
    refine E1 ⟨_, hs6, (by first | exact hDi.fresh | exact hD2.fresh)⟩ (wanted_none rfl) rfl (fun w2 hSS => by obtain ⟨M2, h2, hf2⟩ := hSS; exact ((y_loadAny i rfl Tryd.underlying9 rfl rfl (fun w2 h2 => (hS2 _ w2 h2 hf2).1) rfl (by omega))) w2 h2) ?_
    refine E0 (wanted_none rfl) rfl (y_indexSlAt rfl Tryd.underlying23 sz3 rfl rfl hTw hm0 hm1) ?_
    refine E1 ⟨_, hs6, (by first | exact hDi.fresh | exact hD2.fresh)⟩ (wanted_none rfl) rfl (fun w2 hSS => by obtain ⟨M2, h2, hf2⟩ := hSS; exact ((y_loadAny ((i : Int) % (at_.length : Int)).toNat rfl Tryd.underlying3 rfl rfl (fun w2 h2 => (hS2 _ w2 h2 hf2).2) rfl (by omega))) w2 h2) ?_
    refine E0 (wanted_none rfl) rfl (y_add rfl rfl rfl) ?_
    refine E3 (wanted_none rfl) (c_call rfl rfl rfl Tryd.func14 (by kernel_rfl) rfl (zpick_any _ 8 (by decide) (by decide) w5) rfl ?_)
    rintro _ w7 ⟨rfl, hc8⟩
    have hs9 := hs6.call0 hc8
    refine ⟨fun _ => ⟨_, hs9, (by first | exact hDi.fresh | exact hD2.fresh)⟩, ?_⟩
    refine E3 (wanted_none rfl) (c_call rfl rfl rfl Tryd.func15 (by kernel_rfl) rfl (app_stepF (hDi.drewn (K' := ((b11, .cells #[pv b 0] 27 (0, 0)) :: (b7, .cells #[vt] 23 (0, 0)) :: K)) hs9) hfi (zpickOf _ 8) (l.getD i []) (zpickOf_range (by decide)).1 (zpickOf_range (by decide)).2 (by omega) hEi.room hFi) rfl ?_)
    rintro vv w10 ⟨z2, vz2, rows2, hD2, hm2, hr2, hF2⟩
    have hs12 := hD2.st
    refine ⟨fun _ => ⟨_, hs12, (by first | exact hDi.fresh | exact hD2.fresh)⟩, ?_⟩
    refine Enil ?_
    refine W_region ?_
    refine L0 (wanted_none rfl) rfl (y_move (v := Value.int _ _) rfl rfl) ?_
    refine L0 (wanted_none rfl) rfl (y_add64 rfl rfl rfl (by omega)) ?_
    refine L0 (wanted_none rfl) rfl (y_assign (v := Value.int _ _) rfl rfl) ?_
    refine Lnil ?_
    exact ⟨(i + 1, z2, vz2, rows2), by first | omega | (dsimp only; done) | (dsimp only; omega), _, A_c (iv_eq (by first | omega | (dsimp only; done) | (dsimp only; omega))) (A_c rfl (A_c rfl (A_c rfl (rfl)))), by first | omega | (dsimp only; done) | (dsimp only; omega), hD2.drewn hs12, hEi.app hm2 hr2, hF2⟩
  · have h4' := h4
    first | replace h4' := of_decide_eq_false h4' | replace h4' := bnF' h4' | skip
    refine W_condF rfl h4 ?_
    refine W_exit ?_
    refine fin0 (fn := Tryd.f54) rfl ?_
    obtain rfl : i = l.length := by omega
    exact ⟨zi, vzi, rowsi, rfl, hDi.drewn hs3, hEi, hFi⟩
end Go.Proofs.YtkolfgmpmnelmabDoor

/-
  Walks: the reference's device: Sync, Crash.
-/
import Derived.Test.YtkolfgmpmnelmabDoorYE
namespace Go.Proofs.YtkolfgmpmnelmabDoor
open Go Vx Go.Proofs
set_option linter.unusedVariables false
set_option maxRecDepth 4000
set_option maxHeartbeats 1000000

theorem fresh2 {n b c : Nat} {o p : Obj} {L : Blocks} (hb : n ≤ b) (hc : n ≤ c) (hL : ∀ x ∈ L, n ≤ x.1) : ∀ x ∈ ((b, o) :: (c, p) :: L), n ≤ x.1 := fun x hx => by
  rcases List.mem_cons.1 hx with rfl | hx
  · exact hb
  · rcases List.mem_cons.1 hx with rfl | hx
    · exact hc
    · exact hL x hx
theorem sync1_any (z : Nat) (w : World) : C Tryd.prog 91 ⟨[iv z]⟩ w fun v w' => v = iv (16 : Nat) ∧ St w [] w' := by
  refine C_enter (n := 3) Tryd.func91 rfl rfl rfl (fun w1 hs1 => ?_)
  refine W_seq ?_
  refine W_region ?_
  refine L0 (wanted_none rfl) rfl (y_assign (v := Value.int _ _) rfl rfl) ?_
  refine Lnil ?_
  refine W_seq ?_
  refine W_region ?_
  refine L0 (wanted_none rfl) rfl (y_assign (v := Value.int _ _) rfl rfl) ?_
  refine Lnil ?_
  refine W_ret ?_
  refine fin1 (fn := Tryd.f91) rfl rfl ?_
  exact ⟨rfl, hs1⟩
theorem sync2_any (z : Nat) (w : World) : C Tryd.prog 92 ⟨[iv z]⟩ w fun v w' => v = .bool true ∧ St w [] w' := by
  refine C_enter (n := 3) Tryd.func92 rfl rfl rfl (fun w1 hs1 => ?_)
  refine W_seq ?_
  refine W_region ?_
  refine L0 (wanted_none rfl) rfl (y_assign (v := Value.bool _) rfl rfl) ?_
  refine Lnil ?_
  refine W_seq ?_
  refine W_region ?_
  refine L0 (wanted_none rfl) rfl (y_assign (v := Value.bool _) rfl rfl) ?_
  refine Lnil ?_
  refine W_ret ?_
  refine fin1 (fn := Tryd.f92) rfl rfl ?_
  exact ⟨rfl, hs1⟩
theorem ls_sync {D : Dv} {k : Nat} (h : DInv D k) : lsZ D (fun _ => 16) 8 = D.z ∧ lsS D (fun _ => 16) 8 = sureF D.z D.sure 8 := by
  constructor
  · funext j
    rw [lsZ]
    split
    · rename_i hj
      have := h.z j hj
      rw [lsN, Nat.min_eq_right (by omega), List.take_length]
    · rfl
  · funext j
    rw [lsS, sureF]
    split
    · rename_i hj
      have := h.z j hj
      rw [lsN]; omega
    · rfl
def kfOf (keep : List Int) (z : Nat) : Nat := (min (max (keep.getD z 0) 0) 16).toNat
theorem ls_crash {D : Dv} {k : Nat} (h : DInv D k) (keep : List Int) : lsZ D (kfOf keep) 8 = crZ D keep 8 ∧ lsS D (kfOf keep) 8 = crS D keep 8 := by
  have e : ∀ j, j < 8 → lsN D (kfOf keep) j = crN D keep j := fun j hj => by
    have := h.z j hj
    rw [lsN, crN, kfOf]; omega
  constructor
  · funext j
    rw [lsZ, crZ]
    split
    · rename_i hj; rw [e j hj]
    · rfl
  · funext j
    rw [lsS, crS]
    split
    · rename_i hj; rw [e j hj]
    · rfl
theorem crash1_any (z bk : Nat) (keep : List Int) (vk : Value) (w : World) (hb : w.heap[bk]? = some (.cells #[vk] 23 (0, 0))) (hS : Sl w vk keep.length (fun j => iv (keep.getD j 0))) (hz : z < 8) (hl : keep.length ≤ 1000) :
    C Tryd.prog 93 ⟨[iv z, pv bk 0]⟩ w fun v w' => v = iv (kfOf keep z) ∧ St w [] w' := by
  have hcell : w.cell? ⟨bk, 0, none⟩ = some vk := by rw [cell_of_has hb]; rfl
  have e0 : keep.length ≤ z → keep.getD z 0 = 0 := fun h => by rw [List.getD_eq_getElem?_getD, List.getElem?_eq_none h]; rfl
  refine C_enter (n := 24) Tryd.func93 rfl rfl rfl (fun w1 hs1 => ?_)
  refine W_seq ?_
  refine W_region ?_
  refine L0 (wanted_none rfl) rfl (y_assign (v := Value.int _ _) rfl rfl) ?_
  refine Lnil ?_
  refine W_seq ?_
  refine W_seq ?_
  refine W_region ?_
  refine L0 (wanted_none rfl) rfl (y_move (v := Value.int _ _) rfl rfl) ?_
  refine L1 (wanted_none rfl) rfl hs1 ((y_loadOld rfl Tryd.underlying23 rfl rfl hcell (by simp [keys]))) ?_
  refine L0 (wanted_none rfl) rfl (y_slenSl rfl Tryd.underlying23 rfl hS) ?_
  refine L0 (wanted_none rfl) rfl (y_ge rfl rfl rfl) ?_
  refine L0 (wanted_none rfl) rfl (y_move (v := Value.bool _) rfl rfl) ?_
  refine Lsp (t := 8) rfl (fun h2 => ?_) (fun h2 => ?_)
  · have h2' := h2
    first | replace h2' := of_decide_eq_true h2' | replace h2' := bnT' h2' | skip
    refine Lno (wanted_noB rfl rfl rfl h2 (by decide)) rfl ?_
    refine Lno (wanted_noB rfl rfl rfl h2 (by decide)) rfl ?_
    refine Lno (wanted_noB rfl rfl rfl h2 (by decide)) rfl ?_
    refine Lno (wanted_noB rfl rfl rfl h2 (by decide)) rfl ?_
    refine Lno (wanted_noB rfl rfl rfl h2 (by decide)) rfl ?_
    refine L0 (wanted_none rfl) rfl (y_pickT rfl rfl h2 rfl) ?_
    refine Lnil ?_
    refine W_condT rfl rfl ?_
    refine W_seq ?_
    refine W_region ?_
    refine L0 (wanted_none rfl) rfl (y_assign (v := Value.int _ _) rfl rfl) ?_
    refine Lnil ?_
    refine W_ret ?_
    refine fin1 (fn := Tryd.f93) rfl rfl ?_
    first | exact ⟨iv_eq (by rw [kfOf]; omega), hs1⟩ | exact ⟨iv_eq (by rw [kfOf, e0 (by omega)]; rfl), hs1⟩
  · have h2' := h2
    first | replace h2' := of_decide_eq_false h2' | replace h2' := bnF' h2' | skip
    refine L1 (wanted_yesB rfl rfl rfl h2) rfl hs1 ((y_loadOld rfl Tryd.underlying23 rfl rfl hcell (by simp [keys]))) ?_
    refine L0 (wanted_yesB rfl rfl rfl h2) rfl (y_move (v := Value.int _ _) rfl rfl) ?_
    refine L0 (wanted_yesB rfl rfl rfl h2) rfl (y_indexSlAt rfl Tryd.underlying23 sz3 rfl rfl hS (by omega) (by omega)) ?_
    refine L1 (wanted_yesB rfl rfl rfl h2) rfl hs1 ((y_loadSl z rfl Tryd.underlying3 rfl rfl hS rfl (by omega) (by simp [keys]))) ?_
    refine L0 (wanted_yesB rfl rfl rfl h2) rfl (y_lt rfl rfl rfl) ?_
    refine L0 (wanted_none rfl) rfl (y_pickF rfl rfl h2 rfl) ?_
    refine Lnil ?_
    refine Wsp (t := 14) rfl (fun h3 => ?_) (fun h3 => ?_)
    · have h3' := h3
      first | replace h3' := of_decide_eq_true h3' | replace h3' := bnT' h3' | skip
      refine W_condT rfl h3 ?_
      refine W_seq ?_
      refine W_region ?_
      refine L0 (wanted_none rfl) rfl (y_assign (v := Value.int _ _) rfl rfl) ?_
      refine Lnil ?_
      refine W_ret ?_
      refine fin1 (fn := Tryd.f93) rfl rfl ?_
      first | exact ⟨iv_eq (by rw [kfOf]; omega), hs1⟩ | exact ⟨iv_eq (by rw [kfOf, e0 (by omega)]; rfl), hs1⟩
    · have h3' := h3
      first | replace h3' := of_decide_eq_false h3' | replace h3' := bnF' h3' | skip
      refine W_condF rfl h3 ?_
      refine W_skip ?_
      refine W_seq ?_
      refine W_seq ?_
      refine W_region ?_
      refine L1 (wanted_none rfl) rfl hs1 ((y_loadOld rfl Tryd.underlying23 rfl rfl hcell (by simp [keys]))) ?_
      refine L0 (wanted_none rfl) rfl (y_move (v := Value.int _ _) rfl rfl) ?_
      refine L0 (wanted_none rfl) rfl (y_indexSlAt rfl Tryd.underlying23 sz3 rfl rfl hS (by omega) (by omega)) ?_
      refine L1 (wanted_none rfl) rfl hs1 ((y_loadSl z rfl Tryd.underlying3 rfl rfl hS rfl (by omega) (by simp [keys]))) ?_
      refine L0 (wanted_none rfl) rfl (y_gt rfl rfl rfl) ?_
      refine Lnil ?_
      refine Wsp (t := 19) rfl (fun h4 => ?_) (fun h4 => ?_)
      · have h4' := h4
        first | replace h4' := of_decide_eq_true h4' | replace h4' := bnT' h4' | skip
        refine W_condT rfl h4 ?_
        refine W_seq ?_
        refine W_region ?_
        refine L0 (wanted_none rfl) rfl (y_assign (v := Value.int _ _) rfl rfl) ?_
        refine Lnil ?_
        refine W_ret ?_
        refine fin1 (fn := Tryd.f93) rfl rfl ?_
        first | exact ⟨iv_eq (by rw [kfOf]; omega), hs1⟩ | exact ⟨iv_eq (by rw [kfOf, e0 (by omega)]; rfl), hs1⟩
      · have h4' := h4
        first | replace h4' := of_decide_eq_false h4' | replace h4' := bnF' h4' | skip
        refine W_condF rfl h4 ?_
        refine W_skip ?_
        refine W_seq ?_
        refine W_region ?_
        refine L1 (wanted_none rfl) rfl hs1 ((y_loadOld rfl Tryd.underlying23 rfl rfl hcell (by simp [keys]))) ?_
        refine L0 (wanted_none rfl) rfl (y_move (v := Value.int _ _) rfl rfl) ?_
        refine L0 (wanted_none rfl) rfl (y_indexSlAt rfl Tryd.underlying23 sz3 rfl rfl hS (by omega) (by omega)) ?_
        refine L1 (wanted_none rfl) rfl hs1 ((y_loadSl z rfl Tryd.underlying3 rfl rfl hS rfl (by omega) (by simp [keys]))) ?_
        refine L0 (wanted_none rfl) rfl (y_assign (v := Value.int _ _) rfl rfl) ?_
        refine Lnil ?_
        refine W_ret ?_
        refine fin1 (fn := Tryd.f93) rfl rfl ?_
        first | exact ⟨iv_eq (by rw [kfOf]; omega), hs1⟩ | exact ⟨iv_eq (by rw [kfOf, e0 (by omega)]; rfl), hs1⟩
theorem crash2_any (z bl : Nat) (land : List Bool) (vl : Value) (w : World) (hb : w.heap[bl]? = some (.cells #[vl] 63 (0, 0))) (hS : Sl w vl land.length (fun j => .bool (land.getD j false))) (hl : land.length ≤ 1000) :
    C Tryd.prog 94 ⟨[iv z, pv bl 0]⟩ w fun v w' => v = .bool (land.getD z false) ∧ St w [] w' := by
  have hcell : w.cell? ⟨bl, 0, none⟩ = some vl := by rw [cell_of_has hb]; rfl
  refine C_enter (n := 14) Tryd.func94 rfl rfl rfl (fun w1 hs1 => ?_)
  refine W_seq ?_
  refine W_region ?_
  refine L0 (wanted_none rfl) rfl (y_assign (v := Value.bool _) rfl rfl) ?_
  refine Lnil ?_
  refine W_seq ?_
  refine W_region ?_
  refine L0 (wanted_none rfl) rfl (y_move (v := Value.int _ _) rfl rfl) ?_
  refine L1 (wanted_none rfl) rfl hs1 ((y_loadOld rfl Tryd.underlying63 rfl rfl hcell (by simp [keys]))) ?_
  refine L0 (wanted_none rfl) rfl (y_slenSl rfl Tryd.underlying63 rfl hS) ?_
  refine L0 (wanted_none rfl) rfl (y_lt rfl rfl rfl) ?_
  refine L0 (wanted_none rfl) rfl (y_move (v := Value.bool _) rfl rfl) ?_
  refine Lsp (t := 8) rfl (fun h2 => ?_) (fun h2 => ?_)
  · have h2' := h2
    first | replace h2' := of_decide_eq_true h2' | replace h2' := bnT' h2' | skip
    refine L1 (wanted_yesB rfl rfl rfl h2) rfl hs1 ((y_loadOld rfl Tryd.underlying63 rfl rfl hcell (by simp [keys]))) ?_
    refine L0 (wanted_yesB rfl rfl rfl h2) rfl (y_move (v := Value.int _ _) rfl rfl) ?_
    refine L0 (wanted_yesB rfl rfl rfl h2) rfl (y_indexSlAt rfl Tryd.underlying63 sz4 rfl rfl hS (by omega) (by omega)) ?_
    refine L1 (wanted_yesB rfl rfl rfl h2) rfl hs1 ((y_loadSl z rfl Tryd.underlying4 rfl rfl hS rfl (by omega) (by simp [keys]))) ?_
    refine L0 (wanted_none rfl) rfl (y_pickT rfl rfl h2 rfl) ?_
    refine L0 (wanted_none rfl) rfl (y_assign (v := Value.bool _) rfl rfl) ?_
    refine Lnil ?_
    refine W_ret ?_
    refine fin1 (fn := Tryd.f94) rfl rfl ?_
    first | exact ⟨rfl, hs1⟩ | exact ⟨congrArg Value.bool (getD_none (by omega)).symm, hs1⟩
  · have h2' := h2
    first | replace h2' := of_decide_eq_false h2' | replace h2' := bnF' h2' | skip
    refine Lno (wanted_noB rfl rfl rfl h2 (by decide)) rfl ?_
    refine Lno (wanted_noB rfl rfl rfl h2 (by decide)) rfl ?_
    refine Lno (wanted_noB rfl rfl rfl h2 (by decide)) rfl ?_
    refine Lno (wanted_noB rfl rfl rfl h2 (by decide)) rfl ?_
    refine L0 (wanted_none rfl) rfl (y_pickF rfl rfl h2 rfl) ?_
    refine L0 (wanted_none rfl) rfl (y_assign (v := Value.bool _) rfl rfl) ?_
    refine Lnil ?_
    refine W_ret ?_
    refine fin1 (fn := Tryd.f94) rfl rfl ?_
    first | exact ⟨rfl, hs1⟩ | exact ⟨congrArg Value.bool (getD_none (by omega)).symm, hs1⟩
section
variable {W0 : World} {K : Blocks} {b : Nat} {D : Dv} {w : World} {vz : Nat → Value} {vA vW : Value} {wA wW rows : Blocks} {k : Nat}
theorem rsync_all (h : RSt W0 K b D w vz vA vW wA wW rows) (hi : DInv D k) (hk : k ≤ 1000) :
    C Tryd.prog 39 ⟨[pv b 0]⟩ w fun v w' => ∃ vz' vA' vW' wA' wW' rows', v = iv (synE D) ∧ RSt W0 K b (synD D) w' vz' vA' vW' wA' wW' rows' := by
  have hi2 : DInv { D with fuse := burnF D.fuse } k := ⟨hi.z, hi.wait, hi.len, by have := hi.f0; simp only [burnF]; split <;> omega, by have := hi.f1; simp only [burnF]; split <;> omega⟩
  refine C_enter (n := 7) Tryd.func39 rfl rfl rfl (fun w1 hs1 => ?_)
  refine W_seq ?_
  refine W_region ?_
  refine L0 (wanted_none rfl) rfl (y_assign (v := Value.int _ _) rfl rfl) ?_
  refine Lnil ?_
  refine W_seq ?_
  refine W_seq ?_
  refine W_region ?_
  refine L0 (wanted_none rfl) rfl (y_move (v := Value.pointer _) rfl rfl) ?_
  refine Lc (wanted_none rfl) (c_call rfl rfl rfl Tryd.func89 (by kernel_rfl) rfl (spent_ok (h.drewn (h.st.call0 hs1)) hi.f1) rfl ?_)
  rintro vq w2 ⟨rfl, hB⟩
  have hs4 := hB.st
  refine Lnil ?_
  refine Wsp (t := 4) rfl (fun h5 => ?_) (fun h5 => ?_)
  · have h5' := h5
    first | replace h5' := of_decide_eq_true h5' | replace h5' := bnT' h5' | skip
    refine W_condT rfl h5 ?_
    refine W_seq ?_
    refine W_region ?_
    refine L0 (wanted_none rfl) rfl (y_assign (v := Value.int _ _) rfl rfl) ?_
    refine Lnil ?_
    refine W_ret ?_
    refine fin1 (fn := Tryd.f39) rfl rfl ?_
    have e0 : D.fuse = 0 := (by assumption)
    refine ⟨vz, vA, vW, wA, wW, rows, (show iv 14 = iv (synE D) from by rw [synE, if_pos e0]), ?_⟩
    have e : burnF D.fuse = D.fuse := (by rw [e0]; rfl)
    rw [e] at hB
    rw [synD, synE, if_pos e0]
    exact hB
  · have h5' := h5
    first | replace h5' := of_decide_eq_false h5' | replace h5' := bnF' h5' | skip
    refine W_condF rfl h5 ?_
    refine W_skip ?_
    refine W_seq ?_
    refine W_region ?_
    refine L0 (wanted_none rfl) rfl (y_move (v := Value.pointer _) rfl rfl) ?_
    refine Lc (wanted_none rfl) (c_call rfl rfl rfl Tryd.func90 (by kernel_rfl) rfl (lose_ok hB hi2 hk 91 92 _ _ [] [] (fun _ => 16) (fun _ => true) (fun _ => Nat.le_refl _) Tryd.func91 (by kernel_rfl) rfl Tryd.func92 (by kernel_rfl) rfl (fun z w2 L2 _ _ _ => sync1_any z w2) (fun z w2 L2 _ _ _ => sync2_any z w2)) rfl ?_)
    rintro vr w6 ⟨vz6, rows6, rfl, hE⟩
    have hs8 := hE.st
    refine Lnil ?_
    refine W_seq ?_
    refine W_region ?_
    refine L0 (wanted_none rfl) rfl (y_assign (v := Value.int _ _) rfl rfl) ?_
    refine Lnil ?_
    refine W_ret ?_
    refine fin1 (fn := Tryd.f39) rfl rfl ?_
    have e0 : ¬ D.fuse = 0 := (by assumption)
    refine ⟨vz6, .slice none 0 0, .slice none 0 0, [], [], rows6, (show iv 0 = iv (synE D) from by rw [synE, if_neg e0]), ?_⟩
    obtain ⟨e1, e2⟩ := ls_sync hi2
    rw [synD, synE, if_neg e0, if_pos rfl]
    rw [e1, e2] at hE
    exact hE
theorem rcrash_ok (h : RSt W0 K b D w vz vA vW wA wW rows) (hi : DInv D k) (hk1 : k ≤ 1000) (keep : List Int) (land : List Bool) (vk vl : Value) (hkl : keep.length ≤ 1000) (hll : land.length ≤ 1000)
    (hk : ∀ w' L', St W0 (K ++ L') w' → (∀ x ∈ L', W0.heap.size ≤ x.1) → Sl w' vk keep.length (fun j => iv (keep.getD j 0))) (hl : ∀ w' L', St W0 (K ++ L') w' → (∀ x ∈ L', W0.heap.size ≤ x.1) → Sl w' vl land.length (fun j => .bool (land.getD j false)))
    (ok : vk.oneCell' = true) (ol : vl.oneCell' = true) :
    C Tryd.prog 43 ⟨[pv b 0, vk, vl]⟩ w fun v w' => ∃ vz' rows', v = .tuple #[] ∧ RSt W0 K b (craD D keep land) w' vz' (.slice none 0 0) (.slice none 0 0) [] [] rows' := by
  refine C_enter (n := 13) Tryd.func43 rfl rfl rfl (fun w1 hs1 => ?_)
  have hs0 := h.st.call0 hs1
  refine W_seq ?_
  refine W_region ?_
  refine Lc (wanted_none rfl) (c_box hs0 rfl rfl rfl (fun b2 w3 hbb2 hs4 => ?_))
  have hs4 := hs4.at0 (c' := #[vk]) (cells_one ok)
  refine Lc (wanted_none rfl) (c_box hs4 rfl rfl rfl (fun b5 w6 hbb5 hs7 => ?_))
  have hs7 := hs7.at0 (c' := #[vl]) (cells_one ol)
  refine Lnil ?_
  refine W_seq ?_
  refine W_region ?_
  refine L0 (wanted_none rfl) rfl (y_move (v := Value.pointer _) rfl rfl) ?_
  refine L0 (wanted_none rfl) rfl (y_makeFunc (vs := [pv b2 0]) rfl rfl) ?_
  refine L0 (wanted_none rfl) rfl (y_makeFunc (vs := [pv b5 0]) rfl rfl) ?_
  refine Lc (wanted_none rfl) (c_call rfl rfl rfl Tryd.func90 (by kernel_rfl) rfl (lose_ok (K := (b5, .cells #[vl] 63 (0, 0)) :: (b2, .cells #[vk] 23 (0, 0)) :: K) (h.drewn hs7) hi hk1 93 94 _ _ [pv b2 0] [pv b5 0] (kfOf keep) (fun j => land.getD j false) (fun j => by rw [kfOf]; omega) Tryd.func93 (by kernel_rfl) rfl Tryd.func94 (by kernel_rfl) rfl (fun z w2 L2 hz h2 hf2 => crash1_any z b2 keep vk w2 (h2.get 1 rfl) (hk w2 ((b5, .cells #[vl] 63 (0, 0)) :: (b2, .cells #[vk] 23 (0, 0)) :: L2) (h2.re (fun a => by simp only [List.cons_append, ct_append, ct_cons]; omega)) (fresh2 hbb5 hbb2 hf2)) hz hkl) (fun z w2 L2 hz h2 hf2 => crash2_any z b5 land vl w2 (h2.get 0 rfl) (hl w2 ((b5, .cells #[vl] 63 (0, 0)) :: (b2, .cells #[vk] 23 (0, 0)) :: L2) (h2.re (fun a => by simp only [List.cons_append, ct_append, ct_cons]; omega)) (fresh2 hbb5 hbb2 hf2)) hll)) rfl ?_)
  rintro vr w8 ⟨vz6, rows6, rfl, hE⟩
  have hs10 := ((hE.st.drop (.inl hbb5)).drop (.inl hbb2)).perm List.perm_middle
  refine Lnil ?_
  refine W_region ?_
  refine L0 (wanted_none rfl) rfl (y_move (v := Value.pointer _) rfl rfl) ?_
  refine L0 (wanted_none rfl) rfl (y_nilCheck rfl rfl) ?_
  refine L0 (wanted_none rfl) rfl (y_fieldAddr rfl Tryd.underlying135 rfl sz3 rfl) ?_
  refine Lc (wanted_none rfl) (c_store (i := 0) (v := iv (-1)) hs10 rfl rfl rfl rfl sz3 rfl rfl (by (show 20 < 21; omega)) (Fz.zero _) (fun w11 hs12 => ?_))
  have hs12 := hs12.at0 (c' := ⟨rcells vz6 (lsS D (kfOf keep) 8) (landF D.slot D.wait (fun j => land.getD j false) D.wait.length) (.slice none 0 0) (.slice none 0 0) (-1)⟩) rfl
  refine Lnil ?_
  refine fin0 (fn := Tryd.f43) rfl ?_
  obtain ⟨e1, e2⟩ := ls_crash hi keep
  refine ⟨vz6, rows6, rfl, ?_⟩
  rw [craD, ← e1, ← e2]
  exact ⟨hs12.perm List.perm_middle.symm, hE.rz, hE.rA, hE.rW, hE.newb, hE.newr⟩
end
end Go.Proofs.YtkolfgmpmnelmabDoor

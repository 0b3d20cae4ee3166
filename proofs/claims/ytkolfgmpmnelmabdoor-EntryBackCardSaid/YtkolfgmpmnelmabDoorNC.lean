/-
  Walk: keep.EntryFree.
-/
import Derived.Test.YtkolfgmpmnelmabDoorNB
namespace Go.Proofs.YtkolfgmpmnelmabDoor.Ent
open Go Vx Go.Proofs Go.RowKit
set_option linter.unusedVariables false
set_option maxRecDepth 8000
set_option maxHeartbeats 1000000
theorem free_no {l : List Fl} {i k : Nat} (hi : i < l.length) (hk : k < (l.getD i default).cs.length) : (l.getD i default).cs.getD k 0 ∉ freeTo (allCells l) 21 := fun h => by
  have h1 := (freeTo_mem.1 h).2.2
  exact h1 (List.mem_flatMap.2 ⟨_, getDFl_mem hi, getD_mem hk⟩)
theorem free_sorted (all : List Int) : ∀ j k, j ≤ k → k < (freeTo all 21).length → (freeTo all 21).getD j 0 ≤ (freeTo all 21).getD k 0 := fun j k hjk hk => by
  have h := freeTo_sorted all 21
  rw [List.getD_eq_getElem?_getD, List.getD_eq_getElem?_getD, List.getElem?_eq_getElem (by omega), List.getElem?_eq_getElem hk]
  rcases Nat.lt_or_ge j k with h1 | h1
  · exact Int.le_of_lt (List.pairwise_iff_getElem.1 h j k (by omega) hk h1)
  · have : j = k := by omega
    subst this; exact Int.le_refl _
theorem entryFree_any (l : List Fl) (v0 : Value) (vc : Nat → Value) (hl : l.length ≤ 9223372036854775807) (w : World) (hF : FlsAt w v0 l vc) (hE : EntAt w) : C Tryd.prog 9 ⟨[v0]⟩ w fun v w' => v = .bool true ∧ St w [] w' := by
  refine C_enter (n := 69) Tryd.func9 rfl rfl rfl (fun w1 hs1 => ?_)
  refine W_seq ?_
  refine W_region ?_
  refine L0 (wanted_none rfl) rfl (y_assign (v := Value.bool _) rfl rfl) ?_
  refine Lnil ?_
  refine W_seq ?_
  refine W_seq ?_
  refine W_region ?_
  refine L0 (wanted_none rfl) rfl (y_move (v := v0) rfl rfl) ?_
  refine Lc (wanted_none rfl) (c_call rfl rfl rfl Tryd.func56 (by kernel_rfl) rfl (held_any l v0 vc hl w1 (hF.keep0 hs1)) rfl ?_)
  rintro vh w2 ⟨⟨bo, rfl, hbo⟩, hc3⟩
  have hs4 := hs1.call0 hc3
  refine L0 (wanted_none rfl) rfl (y_not rfl rfl) ?_
  refine Lnil ?_
  refine Wsp (t := 11) rfl (fun h5 => ?_) (fun h5 => ?_)
  · have h5' := h5
    first | replace h5' := of_decide_eq_true h5' | replace h5' := bnT' h5' | skip
    refine W_condT rfl h5 ?_
    refine W_seq ?_
    refine W_region ?_
    refine L0 (wanted_none rfl) rfl (y_assign (v := Value.bool _) rfl rfl) ?_
    refine Lnil ?_
    refine W_ret ?_
    refine fin1 (fn := Tryd.f9) rfl rfl ?_
    first | exact ⟨rfl, hsA.trans0 hs4⟩ | exact ⟨rfl, hs4⟩
  · have h5' := h5
    first | replace h5' := of_decide_eq_false h5' | replace h5' := bnF' h5' | skip
    refine W_condF rfl h5 ?_
    refine W_skip ?_
    refine W_seq ?_
    refine W_seq ?_
    have hheld := hbo (by simpa using ‹(!bo) = false›)
    refine W_region ?_
    refine Lc (wanted_none rfl) (c_call rfl rfl rfl Tryd.func57 (by kernel_rfl) rfl (entered_any w2 (hE.keep0 hs4)) rfl ?_)
    rintro _ w6 ⟨rfl, hc7⟩
    have hs8 := hs4.call0 hc7
    refine L0 (wanted_none rfl) rfl (y_not rfl rfl) ?_
    refine Lnil ?_
    refine Wkn (t := 13) (b0 := false) rfl (by rfl) (fun h9 => ?_)
    refine W_condF rfl h9 ?_
    refine W_skip ?_
    refine W_seq ?_
    refine W_region ?_
    refine L0 (wanted_none rfl) rfl (y_move (v := v0) rfl rfl) ?_
    refine Lc (wanted_none rfl) (c_call rfl rfl rfl Tryd.func59 (by kernel_rfl) rfl (print2_any l v0 vc w6 (hF.keep0 hs8) (hE.keep0 hs8)) rfl ?_)
    rintro vp w10 ⟨⟨t, ev, rfl, hp1, hp2⟩, hc11⟩
    have hs12 := hs8.call0 hc11
    refine L0 (wanted_none rfl) rfl (y_move (v := Value.tuple ⟨_⟩) rfl rfl) ?_
    refine L0 (wanted_none rfl) rfl (y_extract rfl rfl rfl) ?_
    refine L0 (wanted_none rfl) rfl (y_extract rfl rfl rfl) ?_
    refine L0 (wanted_none rfl) rfl (y_assign (v := Value.string ⟨⟨_⟩⟩) rfl rfl) ?_
    refine L0 (wanted_none rfl) rfl (y_assign (v := _) rfl rfl) ?_
    refine Lnil ?_
    refine W_seq ?_
    refine W_seq ?_
    by_cases hRP : RightP l
    · skip
      obtain ⟨rfl, rfl⟩ := hp1 hRP
      have h240 := hRP.len240
      have hcnt := hRP.free
      refine W_region ?_
      refine L0 (wanted_none rfl) rfl (y_move (v := _) rfl rfl) ?_
      refine L0 (wanted_none rfl) rfl (y_neNilNil rfl Tryd.underlying32 rfl) ?_
      refine Lnil ?_
      refine W_condF rfl rfl ?_
      refine W_skip ?_
      refine W_seq ?_
      refine W_seq ?_
      refine W_region ?_
      refine L0 (wanted_none rfl) rfl (y_move (v := Value.string ⟨⟨_⟩⟩) rfl rfl) ?_
      refine L0 (wanted_none rfl) rfl (y_len rfl Tryd.underlying9 rfl) ?_
      refine L0 (wanted_none rfl) rfl (y_gt rfl rfl rfl) ?_
      refine Lnil ?_
      refine Wkn (t := 23) (b0 := false) rfl (by exact decide_eq_false (by omega)) (fun h13 => ?_)
      refine W_condF rfl h13 ?_
      refine W_skip ?_
      refine W_seq ?_
      refine W_region ?_
      refine L0 (wanted_none rfl) rfl (y_move (v := v0) rfl rfl) ?_
      refine Lc (wanted_none rfl) (c_call rfl rfl rfl Tryd.func63 (by kernel_rfl) rfl (free_any l v0 vc hl (fun f hf => by have := (hheld.2 f hf).2; omega) w10 (hF.keep0 hs12)) rfl ?_)
      rintro vfr w14 ⟨hSf, hc15⟩
      have hsA := hs12.call0 hc15
      have hs16 := St.init w14
      have hFn := hF.keep0 hsA
      obtain ⟨wB, hwB⟩ : ∃ wB, wB = w14 := ⟨_, rfl⟩
      subst hwB
      refine L0 (wanted_none rfl) rfl (y_assign (v := vfr) rfl rfl) ?_
      refine Lnil ?_
      refine W_seq ?_
      refine W_region ?_
      refine L0 (wanted_none rfl) rfl (y_assign (v := Value.int _ _) rfl rfl) ?_
      refine Lnil ?_
      refine W_seq ?_
      refine W_seq ?_
      refine W_region ?_
      refine L0 (wanted_none rfl) rfl (y_assign (v := Value.int _ _) rfl rfl) ?_
      refine Lnil ?_
      refine W_block ?_
      refine W_loop (G := Nat) (fun i aL wl => ∃ e, aL = A 69 ((7, iv i) :: (6, iv (allCells (l.take i)).length) :: (5, vfr) :: (0, v0) :: e) ∧ i ≤ l.length ∧ St wB [] wl) (fun i => l.length - i) (0) ?_ ?_
      · exact ⟨_, A_pins _ _ [7, 6, 5, 0], Nat.zero_le _, hs16⟩
      rintro i _ w17 ⟨ehs18, rfl, hi, hs18⟩
      refine W_seq ?_
      refine W_seq ?_
      refine W_region ?_
      refine L0 (wanted_none rfl) rfl (y_move (v := Value.int _ _) rfl rfl) ?_
      refine L0 (wanted_none rfl) rfl (y_move (v := v0) rfl rfl) ?_
      refine L0 (wanted_none rfl) rfl (y_slenOps (v := v0) rfl Tryd.underlying87 rfl hF.shape) ?_
      refine L0 (wanted_none rfl) rfl (y_lt rfl rfl rfl) ?_
      refine Lnil ?_
      refine Wsp (t := 29) rfl (fun h19 => ?_) (fun h19 => ?_)
      · have h19' := h19
        first | replace h19' := of_decide_eq_true h19' | replace h19' := bnT' h19' | skip
        refine W_condT rfl h19 ?_
        refine W_skip ?_
        refine W_seq ?_
        refine W_block ?_
        refine W_seq ?_
        have hKe := hFn.cells i (by omega)
        have hat := allCells_take (l := l) (i := i) (by omega)
        have hal := congrArg List.length hat
        rw [List.length_append] at hal
        have hcl := (hheld.2 _ (getDFl_mem (l := l) (i := i) (by omega))).2
        have htk : (allCells (l.take i)).length ≤ (allCells l).length := by
          have h1 : l.take i ++ l.drop i = l := List.take_append_drop i l
          have h2 : allCells l = allCells (l.take i) ++ allCells (l.drop i) := by rw [allCells, allCells, allCells, ← List.flatMap_append, h1]
          rw [h2, List.length_append]; omega
        refine W_region ?_
        refine L0 (wanted_none rfl) rfl (y_move (v := Value.int _ _) rfl rfl) ?_
        refine L0 (wanted_none rfl) rfl (y_move (v := v0) rfl rfl) ?_
        refine L0 (wanted_none rfl) rfl (y_move (v := Value.int _ _) rfl rfl) ?_
        refine L0 (wanted_none rfl) rfl (y_indexOps (v := v0) rfl Tryd.underlying87 sz97 rfl rfl hF.shape (by omega) (by omega)) ?_
        refine L0 (wanted_none rfl) rfl (y_fieldAddr rfl Tryd.underlying97 rfl sz23 rfl) ?_
        refine L1 (wanted_none rfl) rfl hs18 ((y_loadOld rfl Tryd.underlying23 rfl rfl (hFn.cell i (by omega) 2 _ rfl) (by simp [keys]))) ?_
        refine L0 (wanted_none rfl) rfl (y_slenSl rfl Tryd.underlying23 rfl hKe) ?_
        refine L0 (wanted_none rfl) rfl (y_add64 rfl rfl rfl (by omega)) ?_
        refine L0 (wanted_none rfl) rfl (y_assign (v := Value.int _ _) rfl rfl) ?_
        refine Lnil ?_
        refine W_seq ?_
        refine W_region ?_
        refine L0 (wanted_none rfl) rfl (y_assign (v := Value.int _ _) rfl rfl) ?_
        refine Lnil ?_
        refine W_block ?_
        refine W_loop (G := Nat) (fun k aL wl => ∃ e, aL = A 69 ((8, iv k) :: (7, iv i) :: (6, iv ((allCells (l.take i)).length + (l.getD i default).cs.length : Int)) :: (5, vfr) :: (0, v0) :: e) ∧ k ≤ (l.getD i default).cs.length ∧ St wB [] wl) (fun k => (l.getD i default).cs.length - k) (0) ?_ ?_
        · exact ⟨_, A_pins _ _ [8, 7, 6, 5, 0], Nat.zero_le _, hs18⟩
        rintro k _ w20 ⟨ehs21, rfl, hk, hs21⟩
        refine W_seq ?_
        refine W_seq ?_
        refine W_region ?_
        refine L0 (wanted_none rfl) rfl (y_move (v := Value.int _ _) rfl rfl) ?_
        refine L0 (wanted_none rfl) rfl (y_move (v := v0) rfl rfl) ?_
        refine L0 (wanted_none rfl) rfl (y_move (v := Value.int _ _) rfl rfl) ?_
        refine L0 (wanted_none rfl) rfl (y_indexOps (v := v0) rfl Tryd.underlying87 sz97 rfl rfl hF.shape (by omega) (by omega)) ?_
        refine L0 (wanted_none rfl) rfl (y_fieldAddr rfl Tryd.underlying97 rfl sz23 rfl) ?_
        refine L1 (wanted_none rfl) rfl hs21 ((y_loadOld rfl Tryd.underlying23 rfl rfl (hFn.cell i (by omega) 2 _ rfl) (by simp [keys]))) ?_
        refine L0 (wanted_none rfl) rfl (y_slenSl rfl Tryd.underlying23 rfl hKe) ?_
        refine L0 (wanted_none rfl) rfl (y_lt rfl rfl rfl) ?_
        refine Lnil ?_
        refine Wsp (t := 47) rfl (fun h22 => ?_) (fun h22 => ?_)
        · have h22' := h22
          first | replace h22' := of_decide_eq_true h22' | replace h22' := bnT' h22' | skip
          refine W_condT rfl h22 ?_
          refine W_skip ?_
          refine W_seq ?_
          refine W_block ?_
          refine W_seq ?_
          refine W_region ?_
          refine L0 (wanted_none rfl) rfl (y_move (v := vfr) rfl rfl) ?_
          refine L0 (wanted_none rfl) rfl (y_move (v := v0) rfl rfl) ?_
          refine L0 (wanted_none rfl) rfl (y_move (v := Value.int _ _) rfl rfl) ?_
          refine L0 (wanted_none rfl) rfl (y_indexOps (v := v0) rfl Tryd.underlying87 sz97 rfl rfl hF.shape (by omega) (by omega)) ?_
          refine L0 (wanted_none rfl) rfl (y_fieldAddr rfl Tryd.underlying97 rfl sz23 rfl) ?_
          refine L1 (wanted_none rfl) rfl hs21 ((y_loadOld rfl Tryd.underlying23 rfl rfl (hFn.cell i (by omega) 2 _ rfl) (by simp [keys]))) ?_
          refine L0 (wanted_none rfl) rfl (y_move (v := Value.int _ _) rfl rfl) ?_
          refine L0 (wanted_none rfl) rfl (y_indexSlAt rfl Tryd.underlying23 sz3 rfl rfl hKe (by omega) (by omega)) ?_
          refine L1 (wanted_none rfl) rfl hs21 ((y_loadSl k rfl Tryd.underlying3 rfl rfl hKe (by omega) (by omega) (by simp [keys]))) ?_
          refine Lc (wanted_none rfl) (c_call rfl rfl rfl Tryd.func64 (by kernel_rfl) rfl (contains_any (freeTo (allCells l) 21) ((l.getD i default).cs.getD k 0) vfr (by have := freeTo_len (allCells l) 21; omega) w20 (hSf.keep0 hs21)) rfl ?_)
          rintro _ w23 ⟨rfl, hc24⟩
          have hs25 := hs21.call0 hc24
          refine Lnil ?_
          refine Wkn (t := 59) (b0 := false) rfl (by exact decide_eq_false (free_no (by omega) (by omega))) (fun h26 => ?_)
          refine W_condF rfl h26 ?_
          refine W_skip ?_
          refine W_region ?_
          refine L0 (wanted_none rfl) rfl (y_move (v := Value.int _ _) rfl rfl) ?_
          refine L0 (wanted_none rfl) rfl (y_add64 rfl rfl rfl (by omega)) ?_
          refine L0 (wanted_none rfl) rfl (y_assign (v := Value.int _ _) rfl rfl) ?_
          refine Lnil ?_
          exact ⟨k + 1, by first | omega | (dsimp only; done) | (dsimp only; omega), _, A_c (iv_eq (by first | omega | (dsimp only; done) | (dsimp only; omega))) (A_c rfl (A_c rfl (A_c rfl (A_c rfl (rfl))))), by omega, hs25⟩
        · have h22' := h22
          first | replace h22' := of_decide_eq_false h22' | replace h22' := bnF' h22' | skip
          refine W_condF rfl h22 ?_
          refine W_exit ?_
          refine W_region ?_
          refine L0 (wanted_none rfl) rfl (y_move (v := Value.int _ _) rfl rfl) ?_
          refine L0 (wanted_none rfl) rfl (y_add64 rfl rfl rfl (by omega)) ?_
          refine L0 (wanted_none rfl) rfl (y_assign (v := Value.int _ _) rfl rfl) ?_
          refine Lnil ?_
          exact ⟨i + 1, by first | omega | (dsimp only; done) | (dsimp only; omega), _, A_c (iv_eq (by first | omega | (dsimp only; done) | (dsimp only; omega))) (A_c (iv_eq (by omega)) (A_c rfl (A_c rfl (rfl)))), by omega, hs21⟩
      · have h19' := h19
        first | replace h19' := of_decide_eq_false h19' | replace h19' := bnF' h19' | skip
        refine W_condF rfl h19 ?_
        refine W_exit ?_
        refine W_seq ?_
        have eti : l.take i = l := List.take_of_length_le (by omega)
        rw [eti]
        refine W_region ?_
        refine L0 (wanted_none rfl) rfl (y_move (v := Value.int _ _) rfl rfl) ?_
        refine L0 (wanted_none rfl) rfl (y_move (v := vfr) rfl rfl) ?_
        refine L0 (wanted_none rfl) rfl (y_slenSl rfl Tryd.underlying23 rfl hSf) ?_
        refine L0 (wanted_none rfl) rfl (y_add64 rfl rfl rfl (by omega)) ?_
        refine L0 (wanted_none rfl) rfl (y_eq rfl rfl rfl) ?_
        refine L0 (wanted_none rfl) rfl (y_move (v := Value.bool _) rfl rfl) ?_
        refine Lkn (t := 65) (b0 := true) rfl (by exact decide_eq_true (by omega)) (fun h27 => ?_)
        refine L0 (wanted_yesB rfl rfl rfl h27) rfl (y_move (v := vfr) rfl rfl) ?_
        refine Lc (wanted_yesB rfl rfl rfl h27) (c_call rfl rfl rfl Tryd.func65 (by kernel_rfl) rfl (isSorted_any (freeTo (allCells l) 21) vfr (by have := freeTo_len (allCells l) 21; omega) (free_sorted _) w17 (hSf.keep0 hs18)) rfl ?_)
        rintro _ w28 ⟨rfl, hc29⟩
        have hs30 := hs18.call0 hc29
        refine L0 (wanted_none rfl) rfl (y_pickT rfl rfl h27 rfl) ?_
        refine L0 (wanted_none rfl) rfl (y_assign (v := Value.bool _) rfl rfl) ?_
        refine Lnil ?_
        refine W_ret ?_
        refine fin1 (fn := Tryd.f9) rfl rfl ?_
        first | exact ⟨rfl, hsA.trans0 hs30⟩ | exact ⟨rfl, hs30⟩
    · skip
      obtain ⟨rfl, rfl⟩ := hp2 hRP
      refine W_region ?_
      refine L0 (wanted_none rfl) rfl (y_move (v := _) rfl rfl) ?_
      refine L0 (wanted_none rfl) rfl (y_neNil rfl Tryd.underlying32 rfl) ?_
      refine Lnil ?_
      refine W_condT rfl rfl ?_
      refine W_seq ?_
      refine W_region ?_
      refine L0 (wanted_none rfl) rfl (y_assign (v := Value.bool _) rfl rfl) ?_
      refine Lnil ?_
      refine W_ret ?_
      refine fin1 (fn := Tryd.f9) rfl rfl ?_
      first | exact ⟨rfl, hsA.trans0 hs12⟩ | exact ⟨rfl, hs12⟩
end Go.Proofs.YtkolfgmpmnelmabDoor.Ent

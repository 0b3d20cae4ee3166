/-
  Walks: law.sameTexts, law.sameImage, law.wide.
-/
import Derived.Test.YtkolfgmpmnelmabDoorYI
namespace Go.Proofs.YtkolfgmpmnelmabDoor
open Go Vx Go.Proofs
set_option linter.unusedVariables false
set_option maxRecDepth 4000
set_option maxHeartbeats 1000000

theorem sameTexts_any (l : List (List UInt8)) (va vb : Value) (hl : l.length ≤ 1000) (w : World) (hSa : Sl w va l.length (zstrs l)) (hSb : Sl w vb l.length (zstrs l)) :
    C Tryd.prog 95 ⟨[va, vb]⟩ w fun v w' => v = .bool true ∧ St w [] w' := by
  refine C_enter (n := 26) Tryd.func95 rfl rfl rfl (fun w1 hs1 => ?_)
  refine W_seq ?_
  refine W_region ?_
  refine L0 (wanted_none rfl) rfl (y_assign (v := Value.bool _) rfl rfl) ?_
  refine Lnil ?_
  refine W_seq ?_
  refine W_seq ?_
  refine W_region ?_
  refine L0 (wanted_none rfl) rfl (y_move (v := va) rfl rfl) ?_
  refine L0 (wanted_none rfl) rfl (y_slenSl rfl Tryd.underlying22 rfl hSa) ?_
  refine L0 (wanted_none rfl) rfl (y_move (v := vb) rfl rfl) ?_
  refine L0 (wanted_none rfl) rfl (y_slenSl rfl Tryd.underlying22 rfl hSb) ?_
  refine L0 (wanted_none rfl) rfl (y_ne rfl rfl rfl) ?_
  refine Lnil ?_
  refine Wkn (t := 10) (b0 := false) rfl (by exact bnF rfl) (fun h2 => ?_)
  refine W_condF rfl h2 ?_
  refine W_skip ?_
  refine W_seq ?_
  refine W_seq ?_
  refine W_region ?_
  refine L0 (wanted_none rfl) rfl (y_assign (v := Value.int _ _) rfl rfl) ?_
  refine Lnil ?_
  refine W_block ?_
  refine W_loop (G := Nat) (fun i aL wl => ∃ e, aL = A 26 ((5, iv i) :: (0, va) :: (1, vb) :: e) ∧ i ≤ l.length ∧ St w [] wl) (fun i => l.length - i) (0) ?_ ?_
  · exact ⟨_, A_pins _ _ [5, 0, 1], Nat.zero_le _, hs1⟩
  rintro i _ w3 ⟨ehs4, rfl, hi, hs4⟩
  refine W_seq ?_
  refine W_seq ?_
  refine W_region ?_
  refine L0 (wanted_none rfl) rfl (y_move (v := Value.int _ _) rfl rfl) ?_
  refine L0 (wanted_none rfl) rfl (y_move (v := va) rfl rfl) ?_
  refine L0 (wanted_none rfl) rfl (y_slenSl rfl Tryd.underlying22 rfl hSa) ?_
  refine L0 (wanted_none rfl) rfl (y_lt rfl rfl rfl) ?_
  refine Lnil ?_
  refine Wsp (t := 14) rfl (fun h5 => ?_) (fun h5 => ?_)
  · have h5' := h5
    first | replace h5' := of_decide_eq_true h5' | replace h5' := bnT' h5' | skip
    refine W_condT rfl h5 ?_
    refine W_skip ?_
    refine W_seq ?_
    refine W_block ?_
    refine W_seq ?_
    refine W_drawSt [(0, 0), (0, 1), (0, 4), (0, 5), (0, 2), (0, 6), (1, 3), (1, 7), (0, 8)] hs4 mixed (by kernel_rfl) (fun w6 hs7 => ?_)
    refine E0 (wanted_none rfl) rfl (y_move (v := va) rfl rfl) ?_
    refine E0 (wanted_none rfl) rfl (y_move (v := Value.int _ _) rfl rfl) ?_
    refine E0 (wanted_none rfl) rfl (y_move (v := vb) rfl rfl) ?_
    refine E0 (wanted_none rfl) rfl (y_move (v := Value.int _ _) rfl rfl) ?_
    refine E0 (wanted_none rfl) rfl (y_indexSlAt rfl Tryd.underlying22 sz9 rfl rfl hSa (by omega) (by omega)) ?_
    refine E0 (wanted_none rfl) rfl (y_indexSlAt rfl Tryd.underlying22 sz9 rfl rfl hSb (by omega) (by omega)) ?_
    refine E1 hs7 (wanted_none rfl) rfl (y_loadSl i rfl Tryd.underlying9 rfl rfl hSa (by omega) (by omega) (by intro k hk; first | (simp [keys] at hk; done) | (simp [keys] at hk; omega))) ?_
    refine E1 hs7 (wanted_none rfl) rfl (y_loadSl i rfl Tryd.underlying9 rfl rfl hSb (by omega) (by omega) (by intro k hk; first | (simp [keys] at hk; done) | (simp [keys] at hk; omega))) ?_
    refine E0 (wanted_none rfl) rfl (y_sne rfl rfl rfl) ?_
    refine Enil ?_
    refine Wkn (t := 25) (b0 := false) rfl (by exact bnF rfl) (fun h8 => ?_)
    refine W_condF rfl h8 ?_
    refine W_skip ?_
    refine W_region ?_
    refine L0 (wanted_none rfl) rfl (y_move (v := Value.int _ _) rfl rfl) ?_
    refine L0 (wanted_none rfl) rfl (y_add64 rfl rfl rfl (by omega)) ?_
    refine L0 (wanted_none rfl) rfl (y_assign (v := Value.int _ _) rfl rfl) ?_
    refine Lnil ?_
    exact ⟨i + 1, by first | omega | (dsimp only; done) | (dsimp only; omega), _, A_c (iv_eq (by first | omega | (dsimp only; done) | (dsimp only; omega))) (A_c rfl (A_c rfl (rfl))), by omega, hs7⟩
  · have h5' := h5
    first | replace h5' := of_decide_eq_false h5' | replace h5' := bnF' h5' | skip
    refine W_condF rfl h5 ?_
    refine W_exit ?_
    refine W_seq ?_
    refine W_region ?_
    refine L0 (wanted_none rfl) rfl (y_assign (v := Value.bool _) rfl rfl) ?_
    refine Lnil ?_
    refine W_ret ?_
    refine fin1 (fn := Tryd.f95) rfl rfl ?_
    exact ⟨rfl, hs4⟩
theorem sameImage_any (vs1 vs2 : Nat → Value) (slot : Nat → List UInt8) (z : Nat → List (List UInt8)) (w : World) (hl : ∀ j, j < 8 → (z j).length ≤ 1000) (h1 : ∀ j, j < 8 → Sl w (vs1 j) (z j).length (zstrs (z j))) (h2 : ∀ j, j < 8 → Sl w (vs2 j) (z j).length (zstrs (z j))) :
    C Tryd.prog 46 ⟨[.agg ⟨icells vs1 slot⟩, .agg ⟨icells vs2 slot⟩]⟩ w fun v w' => v = .bool true ∧ St w [] w' := by
  refine C_enter (n := 25) Tryd.func46 rfl rfl rfl (fun w1 hs1 => ?_)
  refine W_seq ?_
  refine W_region ?_
  refine Lc (wanted_none rfl) (c_box hs1 rfl rfl rfl (fun b2 w3 hbb2 hs4 => ?_))
  refine Lc (wanted_none rfl) (c_box hs4 rfl rfl rfl (fun b5 w6 hbb5 hs7 => ?_))
  refine L0 (wanted_none rfl) rfl (y_assign (v := Value.bool _) rfl rfl) ?_
  refine Lnil ?_
  refine W_seq ?_
  refine W_seq ?_
  refine W_region ?_
  refine L0 (wanted_none rfl) rfl (y_assign (v := Value.int _ _) rfl rfl) ?_
  refine Lnil ?_
  refine W_block ?_
  refine W_loop (G := Nat) (fun i aL wl => ∃ e, aL = A 25 ((5, iv i) :: (2, pv b2 0) :: (3, pv b5 0) :: e) ∧ i ≤ 8 ∧ St w [(b5, .cells ⟨icells vs2 slot⟩ 59 (0, 0)), (b2, .cells ⟨icells vs1 slot⟩ 59 (0, 0))] wl) (fun i => 8 - i) (0) ?_ ?_
  · exact ⟨_, A_pins _ _ [5, 2, 3], Nat.zero_le _, hs7⟩
  rintro i _ w8 ⟨ehs9, rfl, hi, hs9⟩
  refine W_seq ?_
  refine W_seq ?_
  refine W_region ?_
  refine L0 (wanted_none rfl) rfl (y_move (v := Value.int _ _) rfl rfl) ?_
  refine L0 (wanted_none rfl) rfl (y_lt rfl rfl rfl) ?_
  refine Lnil ?_
  refine Wsp (t := 7) rfl (fun h10 => ?_) (fun h10 => ?_)
  · have h10' := h10
    first | replace h10' := of_decide_eq_true h10' | replace h10' := bnT' h10' | skip
    refine W_condT rfl h10 ?_
    refine W_skip ?_
    refine W_seq ?_
    refine W_block ?_
    refine W_seq ?_
    refine W_drawSt [(0, 0), (0, 1), (0, 4), (0, 5), (0, 2), (0, 6), (1, 3), (1, 7), (2, 8), (0, 9)] hs9 mixed (by kernel_rfl) (fun w11 hs12 => ?_)
    refine E0 (wanted_none rfl) rfl (y_move (v := Value.int _ _) rfl rfl) ?_
    refine E0 (wanted_none rfl) rfl (y_fieldAddr rfl Tryd.underlying59 rfl sz29 rfl) ?_
    refine E0 (wanted_none rfl) rfl (y_move (v := Value.int _ _) rfl rfl) ?_
    refine E0 (wanted_none rfl) rfl (y_fieldAddr rfl Tryd.underlying59 rfl sz29 rfl) ?_
    refine E0 (wanted_none rfl) rfl (y_indexArr rfl Tryd.underlying29 sz22 rfl rfl (by omega) (by omega)) ?_
    refine E0 (wanted_none rfl) rfl (y_indexArr rfl Tryd.underlying29 sz22 rfl rfl (by omega) (by omega)) ?_
    refine E1 hs12 (wanted_none rfl) rfl (y_load 1 rfl Tryd.underlying22 rfl rfl rfl (ic_z vs1 slot (by omega) (by omega))) ?_
    refine E1 hs12 (wanted_none rfl) rfl (y_load 0 rfl Tryd.underlying22 rfl rfl rfl (ic_z vs2 slot (by omega) (by omega))) ?_
    refine E2 (wanted_none rfl) (c_call rfl rfl rfl Tryd.func95 (by kernel_rfl) rfl (sameTexts_any (z i) (vs1 i) (vs2 i) (hl i (by omega)) w11 ((h1 i (by omega)).keep hs12 (by intro k hk; simp [keys] at hk; omega)) ((h2 i (by omega)).keep hs12 (by intro k hk; simp [keys] at hk; omega))) rfl ?_)
    rintro _ w13 ⟨rfl, hc14⟩
    have hs15 := hs12.call0 hc14
    refine E0 (wanted_none rfl) rfl (y_not rfl rfl) ?_
    refine Enil ?_
    refine Wkn (t := 19) (b0 := false) rfl (by rfl) (fun h16 => ?_)
    refine W_condF rfl h16 ?_
    refine W_skip ?_
    refine W_region ?_
    refine L0 (wanted_none rfl) rfl (y_move (v := Value.int _ _) rfl rfl) ?_
    refine L0 (wanted_none rfl) rfl (y_add64 rfl rfl rfl (by omega)) ?_
    refine L0 (wanted_none rfl) rfl (y_assign (v := Value.int _ _) rfl rfl) ?_
    refine Lnil ?_
    exact ⟨i + 1, by first | omega | (dsimp only; done) | (dsimp only; omega), _, A_c (iv_eq (by first | omega | (dsimp only; done) | (dsimp only; omega))) (A_c rfl (A_c rfl (rfl))), by omega, hs15⟩
  · have h10' := h10
    first | replace h10' := of_decide_eq_false h10' | replace h10' := bnF' h10' | skip
    refine W_condF rfl h10 ?_
    refine W_exit ?_
    refine W_seq ?_
    refine W_region ?_
    refine L0 (wanted_none rfl) rfl (y_fieldAddr rfl Tryd.underlying59 rfl sz57 rfl) ?_
    refine L1 (wanted_none rfl) rfl hs9 ((y_loadN 1 rfl Tryd.underlying57 rfl sz57 rfl rfl (by show 8 + 2 ≤ 10; omega))) ?_
    refine L0 (wanted_none rfl) rfl (y_fieldAddr rfl Tryd.underlying59 rfl sz57 rfl) ?_
    refine L1 (wanted_none rfl) rfl hs9 ((y_loadN 0 rfl Tryd.underlying57 rfl sz57 rfl rfl (by show 8 + 2 ≤ 10; omega))) ?_
    refine L0 (wanted_none rfl) rfl (y_eqStr2 (i := (Tryd.prog.info? 9).get rfl) rfl Tryd.underlying57 (by kernel_rfl) Tryd.underlying9 (by kernel_rfl) (by kernel_rfl) rfl rfl) ?_
    refine L0 (wanted_none rfl) rfl (y_assign (v := Value.bool _) rfl rfl) ?_
    refine Lnil ?_
    refine W_ret ?_
    refine fin1 (fn := Tryd.f46) rfl rfl ?_
    exact ⟨rfl, (hs9.drop (.inl hbb5)).drop (.inl hbb2)⟩
theorem step_all {p : Nat → Prop} {i : Nat} (h : ∀ j, j < i → p j) (hi : p i) : ∀ j, j < i + 1 → p j := fun j hj => by
  by_cases e : j = i
  · subst e; exact hi
  · exact h j (by omega)
structure Narrow (zi : Nat → List (List UInt8)) (si : Nat → List UInt8) : Prop where
  z : ∀ j, j < 8 → (zi j).length ≤ 20 ∧ ∀ k, k < (zi j).length → ((zi j).getD k []).length ≤ 200
  s : (si 0).length ≤ 600 ∧ (si 1).length ≤ 600
theorem wide_any (vs : Nat → Value) (zi : Nat → List (List UInt8)) (si : Nat → List UInt8) (w : World) (h : ∀ j, j < 8 → Sl w (vs j) (zi j).length (zstrs (zi j))) :
    C Tryd.prog 31 ⟨[.agg ⟨icells vs si⟩]⟩ w fun v w' => (∃ bo, v = .bool bo ∧ (bo = false → Narrow zi si)) ∧ St w [] w' := by
  refine C_enter (n := 45) Tryd.func31 rfl rfl rfl (fun w1 hs1 => ?_)
  refine W_seq ?_
  refine W_region ?_
  refine Lc (wanted_none rfl) (c_box hs1 rfl rfl rfl (fun b2 w3 hbb2 hs4 => ?_))
  refine L0 (wanted_none rfl) rfl (y_assign (v := Value.bool _) rfl rfl) ?_
  refine Lnil ?_
  refine W_seq ?_
  refine W_seq ?_
  refine W_region ?_
  refine L0 (wanted_none rfl) rfl (y_assign (v := Value.int _ _) rfl rfl) ?_
  refine Lnil ?_
  refine W_block ?_
  refine W_loop (G := Nat) (fun i aL wl => ∃ e, aL = A 45 ((3, iv i) :: (1, pv b2 0) :: e) ∧ i ≤ 8 ∧ (∀ j, j < i → (zi j).length ≤ 20 ∧ ∀ k, k < (zi j).length → ((zi j).getD k []).length ≤ 200) ∧ St w [(b2, .cells ⟨icells vs si⟩ 59 (0, 0))] wl) (fun i => 8 - i) (0) ?_ ?_
  · exact ⟨_, A_pins _ _ [3, 1], Nat.zero_le _, (fun j hj => absurd hj (Nat.not_lt_zero _)), hs4⟩
  rintro i _ w5 ⟨ehs6, rfl, hi, hN, hs6⟩
  refine W_seq ?_
  refine W_seq ?_
  refine W_region ?_
  refine L0 (wanted_none rfl) rfl (y_move (v := Value.int _ _) rfl rfl) ?_
  refine L0 (wanted_none rfl) rfl (y_lt rfl rfl rfl) ?_
  refine Lnil ?_
  refine Wsp (t := 6) rfl (fun h7 => ?_) (fun h7 => ?_)
  · have h7' := h7
    first | replace h7' := of_decide_eq_true h7' | replace h7' := bnT' h7' | skip
    refine W_condT rfl h7 ?_
    refine W_skip ?_
    refine W_seq ?_
    refine W_block ?_
    refine W_seq ?_
    refine W_seq ?_
    refine W_region ?_
    refine L0 (wanted_none rfl) rfl (y_move (v := Value.int _ _) rfl rfl) ?_
    refine L0 (wanted_none rfl) rfl (y_fieldAddr rfl Tryd.underlying59 rfl sz29 rfl) ?_
    refine L0 (wanted_none rfl) rfl (y_indexArr rfl Tryd.underlying29 sz22 rfl rfl (by omega) (by omega)) ?_
    refine L1 (wanted_none rfl) rfl hs6 (y_load 0 rfl Tryd.underlying22 rfl rfl rfl (ic_z vs si (by omega) (by omega))) ?_
    refine L0 (wanted_none rfl) rfl (y_slenSl rfl Tryd.underlying22 rfl (h i (by omega))) ?_
    refine L0 (wanted_none rfl) rfl (y_gt rfl rfl rfl) ?_
    refine Lnil ?_
    refine Wsp (t := 14) rfl (fun h8 => ?_) (fun h8 => ?_)
    · have h8' := h8
      first | replace h8' := of_decide_eq_true h8' | replace h8' := bnT' h8' | skip
      refine W_condT rfl h8 ?_
      refine W_seq ?_
      refine W_region ?_
      refine L0 (wanted_none rfl) rfl (y_assign (v := Value.bool _) rfl rfl) ?_
      refine Lnil ?_
      refine W_ret ?_
      refine fin1 (fn := Tryd.f31) rfl rfl ?_
      first | exact ⟨⟨_, rfl, fun hb => by cases hb⟩, hs6.drop (.inl hbb2)⟩ | (obtain rfl : i = 8 := (by omega); exact ⟨⟨true, rfl, fun hb => by cases hb⟩, hs6.drop (.inl hbb2)⟩) | (obtain rfl : i = 8 := (by omega); exact ⟨⟨_, rfl, fun hb => ⟨hN, by simp at hb; omega⟩⟩, hs6.drop (.inl hbb2)⟩)
    · have h8' := h8
      first | replace h8' := of_decide_eq_false h8' | replace h8' := bnF' h8' | skip
      refine W_condF rfl h8 ?_
      refine W_skip ?_
      refine W_seq ?_
      refine W_region ?_
      refine L0 (wanted_none rfl) rfl (y_assign (v := Value.int _ _) rfl rfl) ?_
      refine Lnil ?_
      refine W_block ?_
      refine W_loop (G := Nat) (fun q aL wl => ∃ e, aL = A 45 ((4, iv q) :: (3, iv i) :: (1, pv b2 0) :: e) ∧ q ≤ (zi i).length ∧ (∀ k, k < q → ((zi i).getD k []).length ≤ 200) ∧ St w [(b2, .cells ⟨icells vs si⟩ 59 (0, 0))] wl) (fun q => (zi i).length - q) (0) ?_ ?_
      · exact ⟨_, A_pins _ _ [4, 3, 1], Nat.zero_le _, (fun k hk => absurd hk (Nat.not_lt_zero _)), hs6⟩
      rintro q _ w9 ⟨ehs10, rfl, hq, hQ, hs10⟩
      refine W_seq ?_
      refine W_seq ?_
      refine W_region ?_
      refine L0 (wanted_none rfl) rfl (y_move (v := Value.int _ _) rfl rfl) ?_
      refine L0 (wanted_none rfl) rfl (y_move (v := Value.int _ _) rfl rfl) ?_
      refine L0 (wanted_none rfl) rfl (y_fieldAddr rfl Tryd.underlying59 rfl sz29 rfl) ?_
      refine L0 (wanted_none rfl) rfl (y_indexArr rfl Tryd.underlying29 sz22 rfl rfl (by omega) (by omega)) ?_
      refine L1 (wanted_none rfl) rfl hs10 (y_load 0 rfl Tryd.underlying22 rfl rfl rfl (ic_z vs si (by omega) (by omega))) ?_
      refine L0 (wanted_none rfl) rfl (y_slenSl rfl Tryd.underlying22 rfl (h i (by omega))) ?_
      refine L0 (wanted_none rfl) rfl (y_lt rfl rfl rfl) ?_
      refine Lnil ?_
      refine Wsp (t := 21) rfl (fun h11 => ?_) (fun h11 => ?_)
      · have h11' := h11
        first | replace h11' := of_decide_eq_true h11' | replace h11' := bnT' h11' | skip
        refine W_condT rfl h11 ?_
        refine W_skip ?_
        refine W_seq ?_
        refine W_block ?_
        refine W_seq ?_
        refine W_region ?_
        refine L0 (wanted_none rfl) rfl (y_move (v := Value.int _ _) rfl rfl) ?_
        refine L0 (wanted_none rfl) rfl (y_fieldAddr rfl Tryd.underlying59 rfl sz29 rfl) ?_
        refine L0 (wanted_none rfl) rfl (y_indexArr rfl Tryd.underlying29 sz22 rfl rfl (by omega) (by omega)) ?_
        refine L1 (wanted_none rfl) rfl hs10 (y_load 0 rfl Tryd.underlying22 rfl rfl rfl (ic_z vs si (by omega) (by omega))) ?_
        refine L0 (wanted_none rfl) rfl (y_move (v := Value.int _ _) rfl rfl) ?_
        refine L0 (wanted_none rfl) rfl (y_indexSlAt rfl Tryd.underlying22 sz9 rfl rfl (h i (by omega)) (by omega) (by omega)) ?_
        refine L1 (wanted_none rfl) rfl hs10 ((y_loadSl q rfl Tryd.underlying9 rfl rfl (h i (by omega)) rfl (by omega) (by intro k hk; simp [keys] at hk; omega))) ?_
        refine L0 (wanted_none rfl) rfl (y_len rfl Tryd.underlying9 rfl) ?_
        refine L0 (wanted_none rfl) rfl (y_gt rfl rfl rfl) ?_
        refine Lnil ?_
        refine Wsp (t := 32) rfl (fun h12 => ?_) (fun h12 => ?_)
        · have h12' := h12
          first | replace h12' := of_decide_eq_true h12' | replace h12' := bnT' h12' | skip
          refine W_condT rfl h12 ?_
          refine W_seq ?_
          refine W_region ?_
          refine L0 (wanted_none rfl) rfl (y_assign (v := Value.bool _) rfl rfl) ?_
          refine Lnil ?_
          refine W_ret ?_
          refine fin1 (fn := Tryd.f31) rfl rfl ?_
          first | exact ⟨⟨_, rfl, fun hb => by cases hb⟩, hs10.drop (.inl hbb2)⟩ | (obtain rfl : i = 8 := (by omega); exact ⟨⟨true, rfl, fun hb => by cases hb⟩, hs10.drop (.inl hbb2)⟩) | (obtain rfl : i = 8 := (by omega); exact ⟨⟨_, rfl, fun hb => ⟨hN, by simp at hb; omega⟩⟩, hs10.drop (.inl hbb2)⟩)
        · have h12' := h12
          first | replace h12' := of_decide_eq_false h12' | replace h12' := bnF' h12' | skip
          refine W_condF rfl h12 ?_
          refine W_skip ?_
          refine W_region ?_
          refine L0 (wanted_none rfl) rfl (y_move (v := Value.int _ _) rfl rfl) ?_
          refine L0 (wanted_none rfl) rfl (y_add64 rfl rfl rfl (by omega)) ?_
          refine L0 (wanted_none rfl) rfl (y_assign (v := Value.int _ _) rfl rfl) ?_
          refine Lnil ?_
          exact ⟨q + 1, by first | omega | (dsimp only; done) | (dsimp only; omega), _, A_c (iv_eq (by first | omega | (dsimp only; done) | (dsimp only; omega))) (A_c rfl (A_c rfl (rfl))), by omega, step_all hQ (by omega), hs10⟩
      · have h11' := h11
        first | replace h11' := of_decide_eq_false h11' | replace h11' := bnF' h11' | skip
        refine W_condF rfl h11 ?_
        refine W_exit ?_
        refine W_region ?_
        refine L0 (wanted_none rfl) rfl (y_move (v := Value.int _ _) rfl rfl) ?_
        refine L0 (wanted_none rfl) rfl (y_add64 rfl rfl rfl (by omega)) ?_
        refine L0 (wanted_none rfl) rfl (y_assign (v := Value.int _ _) rfl rfl) ?_
        refine Lnil ?_
        exact ⟨i + 1, by first | omega | (dsimp only; done) | (dsimp only; omega), _, A_c (iv_eq (by first | omega | (dsimp only; done) | (dsimp only; omega))) (A_c rfl (rfl)), by omega, step_all hN ⟨by omega, fun k hk => hQ k (by omega)⟩, hs10⟩
  · have h7' := h7
    first | replace h7' := of_decide_eq_false h7' | replace h7' := bnF' h7' | skip
    refine W_condF rfl h7 ?_
    refine W_exit ?_
    refine W_seq ?_
    refine W_region ?_
    refine L0 (wanted_none rfl) rfl (y_fieldAddr rfl Tryd.underlying59 rfl sz57 rfl) ?_
    refine L0 (wanted_none rfl) rfl (y_indexArr rfl Tryd.underlying57 sz9 rfl rfl (by omega) (by omega)) ?_
    refine L1 (wanted_none rfl) rfl hs6 (y_load 0 rfl Tryd.underlying9 rfl rfl rfl rfl) ?_
    refine L0 (wanted_none rfl) rfl (y_len rfl Tryd.underlying9 rfl) ?_
    refine L0 (wanted_none rfl) rfl (y_gt rfl rfl rfl) ?_
    refine L0 (wanted_none rfl) rfl (y_move (v := Value.bool _) rfl rfl) ?_
    refine Lsp (t := 38) rfl (fun h13 => ?_) (fun h13 => ?_)
    · have h13' := h13
      first | replace h13' := of_decide_eq_true h13' | replace h13' := bnT' h13' | skip
      refine Lno (wanted_noB rfl rfl rfl h13 (by decide)) rfl ?_
      refine Lno (wanted_noB rfl rfl rfl h13 (by decide)) rfl ?_
      refine Lno (wanted_noB rfl rfl rfl h13 (by decide)) rfl ?_
      refine Lno (wanted_noB rfl rfl rfl h13 (by decide)) rfl ?_
      refine Lno (wanted_noB rfl rfl rfl h13 (by decide)) rfl ?_
      refine L0 (wanted_none rfl) rfl (y_pickT rfl rfl h13 rfl) ?_
      refine L0 (wanted_none rfl) rfl (y_assign (v := Value.bool _) rfl rfl) ?_
      refine Lnil ?_
      refine W_ret ?_
      refine fin1 (fn := Tryd.f31) rfl rfl ?_
      first | exact ⟨⟨_, rfl, fun hb => by cases hb⟩, hs6.drop (.inl hbb2)⟩ | (obtain rfl : i = 8 := (by omega); exact ⟨⟨true, rfl, fun hb => by cases hb⟩, hs6.drop (.inl hbb2)⟩) | (obtain rfl : i = 8 := (by omega); exact ⟨⟨_, rfl, fun hb => ⟨hN, by simp at hb; omega⟩⟩, hs6.drop (.inl hbb2)⟩)
    · have h13' := h13
      first | replace h13' := of_decide_eq_false h13' | replace h13' := bnF' h13' | skip
      refine L0 (wanted_yesB rfl rfl rfl h13) rfl (y_fieldAddr rfl Tryd.underlying59 rfl sz57 rfl) ?_
      refine L0 (wanted_yesB rfl rfl rfl h13) rfl (y_indexArr rfl Tryd.underlying57 sz9 rfl rfl (by omega) (by omega)) ?_
      refine L1 (wanted_yesB rfl rfl rfl h13) rfl hs6 (y_load 0 rfl Tryd.underlying9 rfl rfl rfl rfl) ?_
      refine L0 (wanted_yesB rfl rfl rfl h13) rfl (y_len rfl Tryd.underlying9 rfl) ?_
      refine L0 (wanted_yesB rfl rfl rfl h13) rfl (y_gt rfl rfl rfl) ?_
      refine L0 (wanted_none rfl) rfl (y_pickF rfl rfl h13 rfl) ?_
      refine L0 (wanted_none rfl) rfl (y_assign (v := Value.bool _) rfl rfl) ?_
      refine Lnil ?_
      refine W_ret ?_
      refine fin1 (fn := Tryd.f31) rfl rfl ?_
      first | exact ⟨⟨_, rfl, fun hb => by cases hb⟩, hs6.drop (.inl hbb2)⟩ | (obtain rfl : i = 8 := (by omega); exact ⟨⟨true, rfl, fun hb => by cases hb⟩, hs6.drop (.inl hbb2)⟩) | (obtain rfl : i = 8 := (by omega); exact ⟨⟨_, rfl, fun hb => ⟨hN, by simp at hb; omega⟩⟩, hs6.drop (.inl hbb2)⟩)
end Go.Proofs.YtkolfgmpmnelmabDoor

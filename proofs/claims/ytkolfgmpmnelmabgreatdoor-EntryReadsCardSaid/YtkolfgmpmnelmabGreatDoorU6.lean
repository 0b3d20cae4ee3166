/-
  Walks: law.short, law.sameInts, law.sameFiles (at one and the same files), law.EntryReads.
-/
import Derived.Test.YtkolfgmpmnelmabGreatDoorU5
import Derived.Test.YtkolfgmpmnelmabGreatDoorL1
namespace Go.Proofs.YtkolfgmpmnelmabGreatDoor.Ent
open Go Vx Go.Proofs Go.RowKit
set_option linter.unusedVariables false
set_option maxRecDepth 8000
set_option maxHeartbeats 4000000
def Short (l : List Fl) : Prop := l.length ≤ 12 ∧ ∀ j, j < l.length → (l.getD j default).nm.length ≤ 60 ∧ (l.getD j default).cs.length ≤ 30
theorem Short.few {l : List Fl} (h : Short l) : FewL l := by
  have e : ∀ f ∈ l, f.nm.length ≤ 60 ∧ f.cs.length ≤ 30 := fun f hf => by
    obtain ⟨j, hj, rfl⟩ := List.getElem_of_mem hf
    have h1 := h.2 j hj
    rw [List.getD_eq_getElem?_getD, List.getElem?_eq_getElem hj] at h1
    exact h1
  exact ⟨by have := h.1; omega, fun f hf => by have := e f hf; omega, fun f hf => by have := e f hf; omega⟩
theorem short_any (l : List Fl) (v0 : Value) (vc : Nat → Value) (w : World) (hF : FlsAt w v0 l vc) : C Tryz.prog 4 ⟨[v0]⟩ w fun v w' => (∃ bo, v = .bool bo ∧ (bo = true → Short l)) ∧ St w [] w' := by
  refine C_enter (n := 28) Tryz.func4 rfl rfl rfl (fun w1 hs1 => ?_)
  refine W_seq ?_
  refine W_region ?_
  refine L0 (wanted_none rfl) rfl (y_assign (v := Value.bool _) rfl rfl) ?_
  refine Lnil ?_
  refine W_seq ?_
  refine W_seq ?_
  refine W_region ?_
  refine L0 (wanted_none rfl) rfl (y_move (v := v0) rfl rfl) ?_
  refine L0 (wanted_none rfl) rfl (y_slenOps (v := v0) rfl Tryz.underlying22 rfl hF.shape) ?_
  refine L0 (wanted_none rfl) rfl (y_gt rfl rfl rfl) ?_
  refine Lnil ?_
  refine Wsp (t := 6) rfl (fun h2 => ?_) (fun h2 => ?_)
  · have h2' := h2
    first | replace h2' := of_decide_eq_true h2' | replace h2' := bnT' h2' | skip
    refine W_condT rfl h2 ?_
    refine W_seq ?_
    refine W_region ?_
    refine L0 (wanted_none rfl) rfl (y_assign (v := Value.bool _) rfl rfl) ?_
    refine Lnil ?_
    refine W_ret ?_
    refine fin1 (fn := Tryz.f4) rfl rfl ?_
    first
    | exact ⟨⟨false, rfl, fun h => (by cases h)⟩, hs1⟩
    | (obtain rfl : i = l.length := by omega
       exact ⟨⟨true, rfl, fun _ => ⟨by omega, hsh⟩⟩, hs1⟩)
  · have h2' := h2
    first | replace h2' := of_decide_eq_false h2' | replace h2' := bnF' h2' | skip
    refine W_condF rfl h2 ?_
    refine W_skip ?_
    refine W_seq ?_
    refine W_seq ?_
    refine W_region ?_
    refine L0 (wanted_none rfl) rfl (y_assign (v := Value.int _ _) rfl rfl) ?_
    refine Lnil ?_
    refine W_block ?_
    refine W_loop (G := Nat) (fun i aL wl => ∃ e, aL = A 28 ((3, iv i) :: (0, v0) :: e) ∧ i ≤ l.length ∧ (∀ j, j < i → (l.getD j default).nm.length ≤ 60 ∧ (l.getD j default).cs.length ≤ 30) ∧ St w [] wl) (fun i => l.length - i) (0) ?_ ?_
    · exact ⟨_, A_pins _ _ [3, 0], Nat.zero_le _, (fun j hj => absurd hj (Nat.not_lt_zero _)), hs1⟩
    rintro i _ w3 ⟨ehs4, rfl, hi, hsh, hs4⟩
    refine W_seq ?_
    refine W_seq ?_
    refine W_region ?_
    refine L0 (wanted_none rfl) rfl (y_move (v := Value.int _ _) rfl rfl) ?_
    refine L0 (wanted_none rfl) rfl (y_move (v := v0) rfl rfl) ?_
    refine L0 (wanted_none rfl) rfl (y_slenOps (v := v0) rfl Tryz.underlying22 rfl hF.shape) ?_
    refine L0 (wanted_none rfl) rfl (y_lt rfl rfl rfl) ?_
    refine Lnil ?_
    refine Wsp (t := 10) rfl (fun h5 => ?_) (fun h5 => ?_)
    · have h5' := h5
      first | replace h5' := of_decide_eq_true h5' | replace h5' := bnT' h5' | skip
      refine W_condT rfl h5 ?_
      refine W_skip ?_
      refine W_seq ?_
      refine W_block ?_
      refine W_seq ?_
      have hc0 : w.cell? ⟨adB v0, adO v0 + (i : Int).toNat * 3 + 0, none⟩ = some (str (l.getD i default).nm) := hF.cell i (by omega) 0 _ rfl
      have hc2 : w.cell? ⟨adB v0, adO v0 + (i : Int).toNat * 3 + 2, none⟩ = some (vc i) := hF.cell i (by omega) 2 _ rfl
      refine W_region ?_
      refine L0 (wanted_none rfl) rfl (y_move (v := v0) rfl rfl) ?_
      refine L0 (wanted_none rfl) rfl (y_move (v := Value.int _ _) rfl rfl) ?_
      refine L0 (wanted_none rfl) rfl (y_indexOps (v := v0) rfl Tryz.underlying22 sz44 rfl rfl hF.shape (by omega) (by omega)) ?_
      refine L0 (wanted_none rfl) rfl (y_fieldAddr rfl Tryz.underlying44 rfl sz9 rfl) ?_
      refine L1 (wanted_none rfl) rfl hs4 ((y_loadOld rfl Tryz.underlying9 rfl rfl hc0 (by simp [keys]))) ?_
      refine Lc (wanted_none rfl) (c_call rfl rfl rfl Tryz.func20 (by kernel_rfl) rfl (long_any (l.getD i default).nm w3) rfl ?_)
      rintro _ w6 ⟨rfl, hc7⟩
      have hs8 := hs4.call0 hc7
      refine L0 (wanted_none rfl) rfl (y_move (v := Value.bool _) rfl rfl) ?_
      refine Lsp (t := 19) rfl (fun h9 => ?_) (fun h9 => ?_)
      · have h9' := h9
        first | replace h9' := of_decide_eq_true h9' | replace h9' := bnT' h9' | skip
        refine Lno (wanted_noB rfl rfl rfl h9 (by decide)) rfl ?_
        refine Lno (wanted_noB rfl rfl rfl h9 (by decide)) rfl ?_
        refine Lno (wanted_noB rfl rfl rfl h9 (by decide)) rfl ?_
        refine Lno (wanted_noB rfl rfl rfl h9 (by decide)) rfl ?_
        refine Lno (wanted_noB rfl rfl rfl h9 (by decide)) rfl ?_
        refine Lno (wanted_noB rfl rfl rfl h9 (by decide)) rfl ?_
        refine Lno (wanted_noB rfl rfl rfl h9 (by decide)) rfl ?_
        refine L0 (wanted_none rfl) rfl (y_pickT rfl rfl h9 rfl) ?_
        refine Lnil ?_
        refine W_condT rfl rfl ?_
        refine W_seq ?_
        refine W_region ?_
        refine L0 (wanted_none rfl) rfl (y_assign (v := Value.bool _) rfl rfl) ?_
        refine Lnil ?_
        refine W_ret ?_
        refine fin1 (fn := Tryz.f4) rfl rfl ?_
        first
        | exact ⟨⟨false, rfl, fun h => (by cases h)⟩, hs8⟩
        | (obtain rfl : i = l.length := by omega
           exact ⟨⟨true, rfl, fun _ => ⟨by omega, hsh⟩⟩, hs8⟩)
      · have h9' := h9
        first | replace h9' := of_decide_eq_false h9' | replace h9' := bnF' h9' | skip
        refine L0 (wanted_yesB rfl rfl rfl h9) rfl (y_move (v := v0) rfl rfl) ?_
        refine L0 (wanted_yesB rfl rfl rfl h9) rfl (y_move (v := Value.int _ _) rfl rfl) ?_
        refine L0 (wanted_yesB rfl rfl rfl h9) rfl (y_indexOps (v := v0) rfl Tryz.underlying22 sz44 rfl rfl hF.shape (by omega) (by omega)) ?_
        refine L0 (wanted_yesB rfl rfl rfl h9) rfl (y_fieldAddr rfl Tryz.underlying44 rfl sz35 rfl) ?_
        refine L1 (wanted_yesB rfl rfl rfl h9) rfl hs8 ((y_loadOld rfl Tryz.underlying35 rfl rfl hc2 (by simp [keys]))) ?_
        refine L0 (wanted_yesB rfl rfl rfl h9) rfl (y_slenSl rfl Tryz.underlying35 rfl (hF.cells i (by omega))) ?_
        refine L0 (wanted_yesB rfl rfl rfl h9) rfl (y_gt rfl rfl rfl) ?_
        refine L0 (wanted_none rfl) rfl (y_pickF rfl rfl h9 rfl) ?_
        refine Lnil ?_
        refine Wsp (t := 27) rfl (fun h10 => ?_) (fun h10 => ?_)
        · have h10' := h10
          first | replace h10' := of_decide_eq_true h10' | replace h10' := bnT' h10' | skip
          refine W_condT rfl h10 ?_
          refine W_seq ?_
          refine W_region ?_
          refine L0 (wanted_none rfl) rfl (y_assign (v := Value.bool _) rfl rfl) ?_
          refine Lnil ?_
          refine W_ret ?_
          refine fin1 (fn := Tryz.f4) rfl rfl ?_
          first
          | exact ⟨⟨false, rfl, fun h => (by cases h)⟩, hs8⟩
          | (obtain rfl : i = l.length := by omega
             exact ⟨⟨true, rfl, fun _ => ⟨by omega, hsh⟩⟩, hs8⟩)
        · have h10' := h10
          first | replace h10' := of_decide_eq_false h10' | replace h10' := bnF' h10' | skip
          refine W_condF rfl h10 ?_
          refine W_skip ?_
          refine W_region ?_
          refine L0 (wanted_none rfl) rfl (y_move (v := Value.int _ _) rfl rfl) ?_
          refine L0 (wanted_none rfl) rfl (y_add64 rfl rfl rfl (by omega)) ?_
          refine L0 (wanted_none rfl) rfl (y_assign (v := Value.int _ _) rfl rfl) ?_
          refine Lnil ?_
          have hsh2 : ∀ j, j < i + 1 → (l.getD j default).nm.length ≤ 60 ∧ (l.getD j default).cs.length ≤ 30 := fun j hj => by
            rcases Nat.lt_or_ge j i with h7 | h7
            · exact hsh j h7
            · obtain rfl : j = i := by omega
              constructor <;> omega
          exact ⟨i + 1, by first | omega | (dsimp only; done) | (dsimp only; omega), _, A_c (iv_eq (by first | omega | (dsimp only; done) | (dsimp only; omega))) (A_c rfl (rfl)), by omega, hsh2, hs8⟩
    · have h5' := h5
      first | replace h5' := of_decide_eq_false h5' | replace h5' := bnF' h5' | skip
      refine W_condF rfl h5 ?_
      refine W_exit ?_
      refine W_seq ?_
      refine W_region ?_
      refine L0 (wanted_none rfl) rfl (y_assign (v := Value.bool _) rfl rfl) ?_
      refine Lnil ?_
      refine W_ret ?_
      refine fin1 (fn := Tryz.f4) rfl rfl ?_
      first
      | exact ⟨⟨false, rfl, fun h => (by cases h)⟩, hs4⟩
      | (obtain rfl : i = l.length := by omega
         exact ⟨⟨true, rfl, fun _ => ⟨by omega, hsh⟩⟩, hs4⟩)
theorem sameInts_any (l : List Int) (va vb : Value) (hl : l.length ≤ 1000) (w : World) (hSa : Sl w va l.length (ivs l)) (hSb : Sl w vb l.length (ivs l)) : C Tryz.prog 14 ⟨[va, vb]⟩ w fun v w' => v = .bool true ∧ St w [] w' := by
  refine C_enter (n := 26) Tryz.func14 rfl rfl rfl (fun w1 hs1 => ?_)
  refine W_seq ?_
  refine W_region ?_
  refine L0 (wanted_none rfl) rfl (y_assign (v := Value.bool _) rfl rfl) ?_
  refine Lnil ?_
  refine W_seq ?_
  refine W_seq ?_
  refine W_region ?_
  refine L0 (wanted_none rfl) rfl (y_move (v := va) rfl rfl) ?_
  refine L0 (wanted_none rfl) rfl (y_slenSl rfl Tryz.underlying35 rfl hSa) ?_
  refine L0 (wanted_none rfl) rfl (y_move (v := vb) rfl rfl) ?_
  refine L0 (wanted_none rfl) rfl (y_slenSl rfl Tryz.underlying35 rfl hSb) ?_
  refine L0 (wanted_none rfl) rfl (y_ne rfl rfl rfl) ?_
  refine Lnil ?_
  refine Wkn (t := 10) (b0 := false) rfl (by first | exact decide_eq_false (by omega) | exact bnF (by omega) | (simp; omega)) (fun h2 => ?_)
  refine W_condF rfl h2 ?_
  refine W_skip ?_
  refine W_seq ?_
  refine W_seq ?_
  refine W_region ?_
  refine L0 (wanted_none rfl) rfl (y_assign (v := Value.int _ _) rfl rfl) ?_
  refine Lnil ?_
  refine W_block ?_
  refine W_loop (G := Nat) (fun i aL wl => ∃ e, aL = A 26 ((5, iv i) :: (0, va) :: (1, vb) :: e) ∧ i ≤ l.length ∧ St w [] wl) (fun i => l.length - i) (0) ?_ ?_
  · exact ⟨_, A_pins _ _ [5, 0, 1], Nat.zero_le _, hs1⟩
  rintro i _ w3 ⟨ehs4, rfl, hi, hs4⟩
  refine W_seq ?_
  refine W_seq ?_
  refine W_region ?_
  refine L0 (wanted_none rfl) rfl (y_move (v := Value.int _ _) rfl rfl) ?_
  refine L0 (wanted_none rfl) rfl (y_move (v := va) rfl rfl) ?_
  refine L0 (wanted_none rfl) rfl (y_slenSl rfl Tryz.underlying35 rfl hSa) ?_
  refine L0 (wanted_none rfl) rfl (y_lt rfl rfl rfl) ?_
  refine Lnil ?_
  refine Wsp (t := 14) rfl (fun h5 => ?_) (fun h5 => ?_)
  · have h5' := h5
    first | replace h5' := of_decide_eq_true h5' | replace h5' := bnT' h5' | skip
    refine W_condT rfl h5 ?_
    refine W_skip ?_
    refine W_seq ?_
    refine W_block ?_
    refine W_seq ?_
    refine W_drawSt [(0, 0), (0, 1), (0, 4), (0, 5), (0, 2), (0, 6), (1, 3), (1, 7), (0, 8)] hs4 mixed (by kernel_rfl) (fun w6 hs7 => ?_)
    refine E0 (wanted_none rfl) rfl (y_move (v := va) rfl rfl) ?_
    refine E0 (wanted_none rfl) rfl (y_move (v := Value.int _ _) rfl rfl) ?_
    refine E0 (wanted_none rfl) rfl (y_move (v := vb) rfl rfl) ?_
    refine E0 (wanted_none rfl) rfl (y_move (v := Value.int _ _) rfl rfl) ?_
    refine E0 (wanted_none rfl) rfl (y_indexSlAt rfl Tryz.underlying35 sz3 rfl rfl hSa (by omega) (by omega)) ?_
    refine E0 (wanted_none rfl) rfl (y_indexSlAt rfl Tryz.underlying35 sz3 rfl rfl hSb (by omega) (by omega)) ?_
    refine E1 hs7 (wanted_none rfl) rfl (y_loadSl i rfl Tryz.underlying3 rfl rfl hSa (by omega) (by omega) (by intro k hk; first | (simp [keys] at hk; done) | (simp [keys] at hk; omega))) ?_
    refine E1 hs7 (wanted_none rfl) rfl (y_loadSl i rfl Tryz.underlying3 rfl rfl hSb (by omega) (by omega) (by intro k hk; first | (simp [keys] at hk; done) | (simp [keys] at hk; omega))) ?_
    refine E0 (wanted_none rfl) rfl (y_ne rfl rfl rfl) ?_
    refine Enil ?_
    refine Wkn (t := 25) (b0 := false) rfl (by first | exact decide_eq_false (by omega) | exact bnF (by omega) | (simp; omega)) (fun h8 => ?_)
    refine W_condF rfl h8 ?_
    refine W_skip ?_
    refine W_region ?_
    refine L0 (wanted_none rfl) rfl (y_move (v := Value.int _ _) rfl rfl) ?_
    refine L0 (wanted_none rfl) rfl (y_add64 rfl rfl rfl (by omega)) ?_
    refine L0 (wanted_none rfl) rfl (y_assign (v := Value.int _ _) rfl rfl) ?_
    refine Lnil ?_
    exact ⟨i + 1, by first | omega | (dsimp only; done) | (dsimp only; omega), _, A_c (iv_eq (by first | omega | (dsimp only; done) | (dsimp only; omega))) (A_c rfl (A_c rfl (rfl))), by omega, hs7⟩
  · have h5' := h5
    first | replace h5' := of_decide_eq_false h5' | replace h5' := bnF' h5' | skip
    refine W_condF rfl h5 ?_
    refine W_exit ?_
    refine W_seq ?_
    refine W_region ?_
    refine L0 (wanted_none rfl) rfl (y_assign (v := Value.bool _) rfl rfl) ?_
    refine Lnil ?_
    refine W_ret ?_
    refine fin1 (fn := Tryz.f14) rfl rfl ?_
    exact ⟨rfl, hs4⟩
theorem sameFiles_any (l : List Fl) (va vb : Value) (vc vd : Nat → Value) (hl : l.length ≤ 1000) (hc : ∀ f ∈ l, f.cs.length ≤ 1000) (w : World) (hF : FlsAt w va l vc) (hG : FlsAt w vb l vd) : C Tryz.prog 19 ⟨[va, vb]⟩ w fun v w' => v = .bool true ∧ St w [] w' := by
  refine C_enter (n := 55) Tryz.func19 rfl rfl rfl (fun w1 hs1 => ?_)
  refine W_seq ?_
  refine W_region ?_
  refine L0 (wanted_none rfl) rfl (y_assign (v := Value.bool _) rfl rfl) ?_
  refine Lnil ?_
  refine W_seq ?_
  refine W_seq ?_
  refine W_region ?_
  refine L0 (wanted_none rfl) rfl (y_move (v := va) rfl rfl) ?_
  refine L0 (wanted_none rfl) rfl (y_slenOps (v := va) rfl Tryz.underlying22 rfl hF.shape) ?_
  refine L0 (wanted_none rfl) rfl (y_move (v := vb) rfl rfl) ?_
  refine L0 (wanted_none rfl) rfl (y_slenOps (v := vb) rfl Tryz.underlying22 rfl hG.shape) ?_
  refine L0 (wanted_none rfl) rfl (y_ne rfl rfl rfl) ?_
  refine Lnil ?_
  refine Wkn (t := 10) (b0 := false) rfl (by first | exact decide_eq_false (by omega) | exact bnF (by omega) | (simp; omega)) (fun h2 => ?_)
  refine W_condF rfl h2 ?_
  refine W_skip ?_
  refine W_seq ?_
  refine W_seq ?_
  refine W_region ?_
  refine L0 (wanted_none rfl) rfl (y_assign (v := Value.int _ _) rfl rfl) ?_
  refine Lnil ?_
  refine W_block ?_
  refine W_loop (G := Nat) (fun i aL wl => ∃ e, aL = A 55 ((5, iv i) :: (0, va) :: (1, vb) :: e) ∧ i ≤ l.length ∧ St w [] wl) (fun i => l.length - i) (0) ?_ ?_
  · exact ⟨_, A_pins _ _ [5, 0, 1], Nat.zero_le _, hs1⟩
  rintro i _ w3 ⟨ehs4, rfl, hi, hs4⟩
  refine W_seq ?_
  refine W_seq ?_
  refine W_region ?_
  refine L0 (wanted_none rfl) rfl (y_move (v := Value.int _ _) rfl rfl) ?_
  refine L0 (wanted_none rfl) rfl (y_move (v := va) rfl rfl) ?_
  refine L0 (wanted_none rfl) rfl (y_slenOps (v := va) rfl Tryz.underlying22 rfl hF.shape) ?_
  refine L0 (wanted_none rfl) rfl (y_lt rfl rfl rfl) ?_
  refine Lnil ?_
  refine Wsp (t := 14) rfl (fun h5 => ?_) (fun h5 => ?_)
  · have h5' := h5
    first | replace h5' := of_decide_eq_true h5' | replace h5' := bnT' h5' | skip
    refine W_condT rfl h5 ?_
    refine W_skip ?_
    refine W_seq ?_
    refine W_block ?_
    refine W_seq ?_
    have a0 : w.cell? ⟨adB va, adO va + (i : Int).toNat * 3 + 0, none⟩ = some (str (l.getD i default).nm) := hF.cell i (by omega) 0 _ rfl
    have a1 : w.cell? ⟨adB va, adO va + (i : Int).toNat * 3 + 1, none⟩ = some (iv (l.getD i default).sz) := hF.cell i (by omega) 1 _ rfl
    have a2 : w.cell? ⟨adB va, adO va + (i : Int).toNat * 3 + 2, none⟩ = some (vc i) := hF.cell i (by omega) 2 _ rfl
    have b0 : w.cell? ⟨adB vb, adO vb + (i : Int).toNat * 3 + 0, none⟩ = some (str (l.getD i default).nm) := hG.cell i (by omega) 0 _ rfl
    have b1 : w.cell? ⟨adB vb, adO vb + (i : Int).toNat * 3 + 1, none⟩ = some (iv (l.getD i default).sz) := hG.cell i (by omega) 1 _ rfl
    have b2 : w.cell? ⟨adB vb, adO vb + (i : Int).toNat * 3 + 2, none⟩ = some (vd i) := hG.cell i (by omega) 2 _ rfl
    refine W_drawSt [(0, 0), (0, 1), (0, 5), (0, 6), (0, 2), (0, 7), (0, 3), (0, 8), (1, 4), (1, 9), (0, 10), (0, 11), (0, 12), (0, 13), (0, 17), (0, 18), (0, 14), (0, 19), (0, 15), (0, 20), (1, 16), (1, 21), (0, 22), (0, 23), (0, 24), (0, 25), (0, 26), (0, 30), (0, 31), (0, 27), (0, 32), (0, 28), (0, 33), (1, 29), (1, 34), (3, 35), (0, 36), (0, 37)] hs4 mixed (by kernel_rfl) (fun w6 hs7 => ?_)
    refine E0 (wanted_none rfl) rfl (y_move (v := va) rfl rfl) ?_
    refine E0 (wanted_none rfl) rfl (y_move (v := Value.int _ _) rfl rfl) ?_
    refine E0 (wanted_none rfl) rfl (y_move (v := vb) rfl rfl) ?_
    refine E0 (wanted_none rfl) rfl (y_move (v := Value.int _ _) rfl rfl) ?_
    refine E0 (wanted_none rfl) rfl (y_indexOps (v := va) rfl Tryz.underlying22 sz44 rfl rfl hF.shape (by omega) (by omega)) ?_
    refine E0 (wanted_none rfl) rfl (y_indexOps (v := vb) rfl Tryz.underlying22 sz44 rfl rfl hG.shape (by omega) (by omega)) ?_
    refine E0 (wanted_none rfl) rfl (y_fieldAddr rfl Tryz.underlying44 rfl sz9 rfl) ?_
    refine E0 (wanted_none rfl) rfl (y_fieldAddr rfl Tryz.underlying44 rfl sz9 rfl) ?_
    refine E1 hs7 (wanted_none rfl) rfl ((y_loadOld rfl Tryz.underlying9 rfl rfl a0 (by simp [keys]))) ?_
    refine E1 hs7 (wanted_none rfl) rfl ((y_loadOld rfl Tryz.underlying9 rfl rfl b0 (by simp [keys]))) ?_
    refine E0 (wanted_none rfl) rfl (y_sne rfl rfl rfl) ?_
    refine E0 (wanted_none rfl) rfl (y_move (v := Value.bool _) rfl rfl) ?_
    refine Ekn (t := 28) (b0 := false) rfl (by simp) (fun h8 => ?_)
    refine E0 (wanted_yesB rfl rfl rfl h8) rfl (y_move (v := va) rfl rfl) ?_
    refine E0 (wanted_yesB rfl rfl rfl h8) rfl (y_move (v := Value.int _ _) rfl rfl) ?_
    refine E0 (wanted_yesB rfl rfl rfl h8) rfl (y_move (v := vb) rfl rfl) ?_
    refine E0 (wanted_yesB rfl rfl rfl h8) rfl (y_move (v := Value.int _ _) rfl rfl) ?_
    refine E0 (wanted_yesB rfl rfl rfl h8) rfl (y_indexOps (v := va) rfl Tryz.underlying22 sz44 rfl rfl hF.shape (by omega) (by omega)) ?_
    refine E0 (wanted_yesB rfl rfl rfl h8) rfl (y_indexOps (v := vb) rfl Tryz.underlying22 sz44 rfl rfl hG.shape (by omega) (by omega)) ?_
    refine E0 (wanted_yesB rfl rfl rfl h8) rfl (y_fieldAddr rfl Tryz.underlying44 rfl sz3 rfl) ?_
    refine E0 (wanted_yesB rfl rfl rfl h8) rfl (y_fieldAddr rfl Tryz.underlying44 rfl sz3 rfl) ?_
    refine E1 hs7 (wanted_yesB rfl rfl rfl h8) rfl ((y_loadOld rfl Tryz.underlying3 rfl rfl a1 (by simp [keys]))) ?_
    refine E1 hs7 (wanted_yesB rfl rfl rfl h8) rfl ((y_loadOld rfl Tryz.underlying3 rfl rfl b1 (by simp [keys]))) ?_
    refine E0 (wanted_yesB rfl rfl rfl h8) rfl (y_ne rfl rfl rfl) ?_
    refine E0 (wanted_none rfl) rfl (y_pickF rfl rfl h8 rfl) ?_
    refine E0 (wanted_none rfl) rfl (y_move (v := Value.bool _) rfl rfl) ?_
    refine Ekn (t := 41) (b0 := false) rfl (by first | exact decide_eq_false (by omega) | exact bnF (by omega) | (simp; omega)) (fun h9 => ?_)
    refine E0 (wanted_yesB rfl rfl rfl h9) rfl (y_move (v := va) rfl rfl) ?_
    refine E0 (wanted_yesB rfl rfl rfl h9) rfl (y_move (v := Value.int _ _) rfl rfl) ?_
    refine E0 (wanted_yesB rfl rfl rfl h9) rfl (y_move (v := vb) rfl rfl) ?_
    refine E0 (wanted_yesB rfl rfl rfl h9) rfl (y_move (v := Value.int _ _) rfl rfl) ?_
    refine E0 (wanted_yesB rfl rfl rfl h9) rfl (y_indexOps (v := va) rfl Tryz.underlying22 sz44 rfl rfl hF.shape (by omega) (by omega)) ?_
    refine E0 (wanted_yesB rfl rfl rfl h9) rfl (y_indexOps (v := vb) rfl Tryz.underlying22 sz44 rfl rfl hG.shape (by omega) (by omega)) ?_
    refine E0 (wanted_yesB rfl rfl rfl h9) rfl (y_fieldAddr rfl Tryz.underlying44 rfl sz35 rfl) ?_
    refine E0 (wanted_yesB rfl rfl rfl h9) rfl (y_fieldAddr rfl Tryz.underlying44 rfl sz35 rfl) ?_
    refine E1 hs7 (wanted_yesB rfl rfl rfl h9) rfl ((y_loadOld rfl Tryz.underlying35 rfl rfl a2 (by simp [keys]))) ?_
    refine E1 hs7 (wanted_yesB rfl rfl rfl h9) rfl ((y_loadOld rfl Tryz.underlying35 rfl rfl b2 (by simp [keys]))) ?_
    refine E3 (wanted_yesB rfl rfl rfl h9) (c_call rfl rfl rfl Tryz.func14 (by kernel_rfl) rfl (sameInts_any (l.getD i default).cs (vc i) (vd i) (hc _ (getDFl_mem (by omega))) w6 ((hF.cells i (by omega)).keep0 hs7) ((hG.cells i (by omega)).keep0 hs7)) rfl ?_)
    rintro _ w10 ⟨rfl, hc11⟩
    have hs12 := hs7.call0 hc11
    refine ⟨fun _ => hs12, ?_⟩
    refine E0 (wanted_yesB rfl rfl rfl h9) rfl (y_not rfl rfl) ?_
    refine E0 (wanted_none rfl) rfl (y_pickF rfl rfl h9 rfl) ?_
    refine Enil ?_
    refine Wkn (t := 54) (b0 := false) rfl (by rfl) (fun h13 => ?_)
    refine W_condF rfl h13 ?_
    refine W_skip ?_
    refine W_region ?_
    refine L0 (wanted_none rfl) rfl (y_move (v := Value.int _ _) rfl rfl) ?_
    refine L0 (wanted_none rfl) rfl (y_add64 rfl rfl rfl (by omega)) ?_
    refine L0 (wanted_none rfl) rfl (y_assign (v := Value.int _ _) rfl rfl) ?_
    refine Lnil ?_
    exact ⟨i + 1, by first | omega | (dsimp only; done) | (dsimp only; omega), _, A_c (iv_eq (by first | omega | (dsimp only; done) | (dsimp only; omega))) (A_c rfl (A_c rfl (rfl))), by omega, hs12⟩
  · have h5' := h5
    first | replace h5' := of_decide_eq_false h5' | replace h5' := bnF' h5' | skip
    refine W_condF rfl h5 ?_
    refine W_exit ?_
    refine W_seq ?_
    refine W_region ?_
    refine L0 (wanted_none rfl) rfl (y_assign (v := Value.bool _) rfl rfl) ?_
    refine Lnil ?_
    refine W_ret ?_
    refine fin1 (fn := Tryz.f19) rfl rfl ?_
    exact ⟨rfl, hs4⟩
end Go.Proofs.YtkolfgmpmnelmabGreatDoor.Ent

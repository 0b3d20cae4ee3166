/-
  Walk: keep.SpaceFits, and its plain law.
-/
import Derived.Test.YtkolfgmpmnelmaaX5
namespace Go.Proofs.Ytkolfgmpmnelmaa
open Go Vx Go.Proofs
set_option linter.unusedVariables false
set_option maxRecDepth 4000
set_option maxHeartbeats 400000

theorem isNaN_any (a : Int) (w : World) : C Try.prog 67 ⟨[iv a]⟩ w fun v w' => v = .bool false ∧ St w [] w' := by
  refine C_enter (n := 6) Try.func67 rfl rfl rfl (fun w1 hs1 => ?_)
  refine W_seq ?_
  refine W_region ?_
  refine L0 (wanted_none rfl) rfl (y_assign (v := Value.bool _) rfl rfl) ?_
  refine Lnil ?_
  refine W_seq ?_
  refine W_region ?_
  refine L0 (wanted_none rfl) rfl (y_move (v := Value.int _ _) rfl rfl) ?_
  refine L0 (wanted_none rfl) rfl (y_move (v := Value.int _ _) rfl rfl) ?_
  refine L0 (wanted_none rfl) rfl (y_ne rfl rfl rfl) ?_
  refine L0 (wanted_none rfl) rfl (y_assign (v := Value.bool _) rfl rfl) ?_
  refine Lnil ?_
  refine W_ret ?_
  refine fin1 (fn := Try.f67) rfl rfl ?_
  exact ⟨congrArg Value.bool (bnF rfl : (!decide (a = a)) = false), hs1⟩
theorem cmpLess_any (a b : Int) (w : World) : C Try.prog 55 ⟨[iv a, iv b]⟩ w fun v w' => v = .bool (decide (a < b)) ∧ St w [] w' := by
  refine C_enter (n := 17) Try.func55 rfl rfl rfl (fun w1 hs1 => ?_)
  refine W_seq ?_
  refine W_region ?_
  refine L0 (wanted_none rfl) rfl (y_assign (v := Value.bool _) rfl rfl) ?_
  refine Lnil ?_
  refine W_seq ?_
  refine W_region ?_
  refine L0 (wanted_none rfl) rfl (y_move (v := Value.int _ _) rfl rfl) ?_
  refine Lc (wanted_none rfl) (c_call rfl rfl rfl Try.func67 (by kernel_rfl) rfl (isNaN_any _ w1) rfl ?_)
  rintro _ w2 ⟨rfl, hc3⟩
  have hs4 := hs1.call0 hc3
  refine L0 (wanted_none rfl) rfl (y_move (v := Value.bool _) rfl rfl) ?_
  refine Lkn (t := 7) (b0 := false) rfl (by rfl) (fun h5 => ?_)
  refine Lno (wanted_noB rfl rfl rfl h5 (by decide)) rfl ?_
  refine Lno (wanted_noB rfl rfl rfl h5 (by decide)) rfl ?_
  refine Lno (wanted_noB rfl rfl rfl h5 (by decide)) rfl ?_
  refine L0 (wanted_none rfl) rfl (y_pickF rfl rfl h5 rfl) ?_
  refine L0 (wanted_none rfl) rfl (y_move (v := Value.bool _) rfl rfl) ?_
  refine L0 (wanted_yesB rfl rfl rfl rfl) rfl (y_move (v := Value.int _ _) rfl rfl) ?_
  refine L0 (wanted_yesB rfl rfl rfl rfl) rfl (y_move (v := Value.int _ _) rfl rfl) ?_
  refine L0 (wanted_yesB rfl rfl rfl rfl) rfl (y_lt rfl rfl rfl) ?_
  refine L0 (wanted_none rfl) rfl (y_pickF rfl rfl (rfl : false = false) rfl) ?_
  refine L0 (wanted_none rfl) rfl (y_assign (v := Value.bool _) rfl rfl) ?_
  refine Lnil ?_
  refine W_ret ?_
  refine fin1 (fn := Try.f55) rfl rfl ?_
  exact ⟨rfl, hs4⟩
theorem isSorted_any (l : List Int) (va : Value) (hl : l.length ≤ 1000) (hsrt : ∀ j k, j ≤ k → k < l.length → l.getD j 0 ≤ l.getD k 0) (w : World) (hSa : Sl w va l.length (nums l)) :
    C Try.prog 39 ⟨[va]⟩ w fun v w' => v = .bool true ∧ St w [] w' := by
  refine C_enter (n := 21) Try.func39 rfl rfl rfl (fun w1 hs1 => ?_)
  refine W_seq ?_
  refine W_region ?_
  refine L0 (wanted_none rfl) rfl (y_assign (v := Value.bool _) rfl rfl) ?_
  refine Lnil ?_
  refine W_seq ?_
  refine W_seq ?_
  refine W_region ?_
  refine L0 (wanted_none rfl) rfl (y_move (v := va) rfl rfl) ?_
  refine L0 (wanted_none rfl) rfl (y_slenSl rfl Try.underlying34 rfl hSa) ?_
  refine L0 (wanted_none rfl) rfl (y_sub64 rfl rfl rfl (by omega)) ?_
  refine L0 (wanted_none rfl) rfl (y_assign (v := Value.int _ _) rfl rfl) ?_
  refine Lnil ?_
  refine W_block ?_
  refine W_loop (G := Nat) (fun g aL wl => ∃ e, aL = A 21 ((3, iv ((g : Int) - 1)) :: (0, va) :: e) ∧ g ≤ l.length ∧ St w [] wl) (fun g => g) (l.length) ?_ ?_
  · exact ⟨_, A_pins _ _ [3, 0], Nat.le_refl _, hs1⟩
  rintro g _ w2 ⟨ehs3, rfl, hi, hs3⟩
  refine W_seq ?_
  refine W_seq ?_
  refine W_region ?_
  refine L0 (wanted_none rfl) rfl (y_move (v := Value.int _ _) rfl rfl) ?_
  refine L0 (wanted_none rfl) rfl (y_gt rfl rfl rfl) ?_
  refine Lnil ?_
  refine Wsp (t := 8) rfl (fun h4 => ?_) (fun h4 => ?_)
  · have h4' := h4
    first | replace h4' := of_decide_eq_true h4' | replace h4' := bnT' h4' | skip
    refine W_condT rfl h4 ?_
    refine W_skip ?_
    refine W_seq ?_
    refine W_block ?_
    refine W_seq ?_
    refine W_drawSt [(0, 0), (0, 1), (0, 4), (0, 5), (0, 2), (0, 6), (1, 3), (0, 7), (1, 8), (2, 9)] hs3 mixed (by kernel_rfl) (fun w5 hs6 => ?_)
    refine E0 (wanted_none rfl) rfl (y_move (v := va) rfl rfl) ?_
    refine E0 (wanted_none rfl) rfl (y_move (v := Value.int _ _) rfl rfl) ?_
    refine E0 (wanted_none rfl) rfl (y_move (v := va) rfl rfl) ?_
    refine E0 (wanted_none rfl) rfl (y_move (v := Value.int _ _) rfl rfl) ?_
    refine E0 (wanted_none rfl) rfl (y_indexSlAt rfl Try.underlying34 sz3 rfl rfl hSa (by omega) (by omega)) ?_
    refine E0 (wanted_none rfl) rfl (y_sub64 rfl rfl rfl (by omega)) ?_
    refine E1 hs6 (wanted_none rfl) rfl (y_loadSl (g - 1) rfl Try.underlying3 rfl rfl hSa (by omega) (by omega) (by intro k hk; first | (simp [keys] at hk; done) | (simp [keys] at hk; omega))) ?_
    refine E0 (wanted_none rfl) rfl (y_indexSlAt rfl Try.underlying34 sz3 rfl rfl hSa (by omega) (by omega)) ?_
    refine E1 hs6 (wanted_none rfl) rfl (y_loadSl (g - 2) rfl Try.underlying3 rfl rfl hSa (by omega) (by omega) (by intro k hk; first | (simp [keys] at hk; done) | (simp [keys] at hk; omega))) ?_
    refine E2 (wanted_none rfl) (c_call rfl rfl rfl Try.func55 (by kernel_rfl) rfl (cmpLess_any _ _ w5) rfl ?_)
    rintro _ w7 ⟨rfl, hc8⟩
    have hs9 := hs6.call0 hc8
    refine Enil ?_
    refine Wkn (t := 20) (b0 := false) rfl (by exact decide_eq_false (by have := hsrt (g - 2) (g - 1) (by omega) (by omega); omega)) (fun h10 => ?_)
    refine W_condF rfl h10 ?_
    refine W_skip ?_
    refine W_region ?_
    refine L0 (wanted_none rfl) rfl (y_move (v := Value.int _ _) rfl rfl) ?_
    refine L0 (wanted_none rfl) rfl (y_sub64 rfl rfl rfl (by omega)) ?_
    refine L0 (wanted_none rfl) rfl (y_assign (v := Value.int _ _) rfl rfl) ?_
    refine Lnil ?_
    exact ⟨g - 1, by first | omega | (dsimp only; done) | (dsimp only; omega), _, A_c (iv_eq (by first | omega | (dsimp only; done) | (dsimp only; omega))) (A_c rfl (rfl)), by omega, hs9⟩
  · have h4' := h4
    first | replace h4' := of_decide_eq_false h4' | replace h4' := bnF' h4' | skip
    refine W_condF rfl h4 ?_
    refine W_exit ?_
    refine W_seq ?_
    refine W_region ?_
    refine L0 (wanted_none rfl) rfl (y_assign (v := Value.bool _) rfl rfl) ?_
    refine Lnil ?_
    refine W_ret ?_
    refine fin1 (fn := Try.f39) rfl rfl ?_
    exact ⟨rfl, hs3⟩
theorem sl_ints3 {w : World} {b : Nat} {p q r : Int} {T : TypeId} {fz : Nat × Nat} (h : w.heap[b]? = some (.cells ⟨[iv p, iv q, iv r]⟩ T fz)) : Sl w (.slice (some ⟨b, 0, none⟩) 3 3) [p, q, r].length (nums [p, q, r]) :=
  Sl.of (fun j hj => by
    have hj' : j = 0 ∨ j = 1 ∨ j = 2 := by have h2 : j < 3 := hj; omega
    rw [cell_of_has h]
    rcases hj' with rfl | rfl | rfl <;> rfl)
theorem best3 {b : Int} (h : Best [16, 3, 16] [4, 0, 2] 0 3 b) : b = 2 := by
  refine h.uniq (.inr ⟨2, rfl, by decide, by decide, ⟨by decide, by decide⟩, fun j _ hj hf => ?_, fun j _ hj hf => ?_⟩)
  · have hj' : j = 0 ∨ j = 1 ∨ j = 2 := by omega
    rcases hj' with rfl | rfl | rfl
    · decide
    · exact absurd hf.1 (by decide)
    · decide
  · have hj' : j = 0 ∨ j = 1 := by omega
    rcases hj' with rfl | rfl
    · decide
    · exact absurd hf.1 (by decide)
theorem spaced_any (w : World) : C Try.prog 38 ⟨[]⟩ w fun v w' => v = .bool true ∧ St w [] w' := by
  refine C_enter (n := 33) Try.func38 rfl rfl rfl (fun w1 hs1 => ?_)
  refine W_seq ?_
  refine W_region ?_
  refine L0 (wanted_none rfl) rfl (y_assign (v := Value.bool _) rfl rfl) ?_
  refine Lnil ?_
  refine W_seq ?_
  refine W_region ?_
  refine Lc (wanted_none rfl) (c_bs3 (v0 := iv _) (v1 := iv _) (v2 := iv _) hs1 rfl rfl Try.underlying34 sz3 zr3 rfl rfl rfl rfl rfl rfl (fun b2 w3 hbb2 hs4 => ?_))
  refine Lc (wanted_none rfl) (c_call rfl rfl rfl Try.func28 (by kernel_rfl) rfl (open_space [16, 3, 0] 1 _ (by decide) w3 (sl_ints3 (hs4.get 0 rfl))) rfl ?_)
  rintro _ w5 ⟨rfl, hc6⟩
  have hs7 := hs4.call0 hc6
  refine L0 (wanted_none rfl) rfl (y_move (v := Value.tuple ⟨_⟩) rfl rfl) ?_
  refine L0 (wanted_none rfl) rfl (y_extract rfl rfl rfl) ?_
  refine L0 (wanted_none rfl) rfl (y_extract rfl rfl rfl) ?_
  refine L0 (wanted_none rfl) rfl (y_assign (v := Value.int _ _) rfl rfl) ?_
  refine L0 (wanted_none rfl) rfl (y_assign (v := Value.bool _) rfl rfl) ?_
  refine Lnil ?_
  refine W_seq ?_
  refine W_region ?_
  refine Lc (wanted_none rfl) (c_bs3 (v0 := iv _) (v1 := iv _) (v2 := iv _) hs7 rfl rfl Try.underlying34 sz3 zr3 rfl rfl rfl rfl rfl rfl (fun b8 w9 hbb8 hs10 => ?_))
  refine Lc (wanted_none rfl) (c_bs3 (v0 := iv _) (v1 := iv _) (v2 := iv _) hs10 rfl rfl Try.underlying34 sz3 zr3 rfl rfl rfl rfl rfl rfl (fun b11 w12 hbb11 hs13 => ?_))
  refine Lc (wanted_none rfl) (c_call rfl rfl rfl Try.func32 (by kernel_rfl) rfl (victim_any [16, 3, 16] [4, 0, 2] _ _ (by decide) (by decide) w12 (sl_ints3 (hs13.get 1 rfl)) (sl_ints3 (hs13.get 0 rfl))) rfl ?_)
  rintro vt w14 ⟨⟨bb, hB, rfl⟩, hc15⟩
  have hs16 := hs13.call0 hc15
  obtain rfl := best3 hB
  refine L0 (wanted_none rfl) rfl (y_move (v := Value.tuple ⟨_⟩) rfl rfl) ?_
  refine L0 (wanted_none rfl) rfl (y_extract rfl rfl rfl) ?_
  refine L0 (wanted_none rfl) rfl (y_extract rfl rfl rfl) ?_
  refine L0 (wanted_none rfl) rfl (y_assign (v := Value.int _ _) rfl rfl) ?_
  refine L0 (wanted_none rfl) rfl (y_assign (v := Value.bool _) rfl rfl) ?_
  refine Lnil ?_
  refine W_seq ?_
  refine W_region ?_
  refine L0 (wanted_none rfl) rfl (y_move (v := Value.bool _) rfl rfl) ?_
  refine L0 (wanted_none rfl) rfl (y_move (v := Value.bool _) rfl rfl) ?_
  refine Lkn (t := 17) (b0 := true) rfl (by decide) (fun h17 => ?_)
  refine L0 (wanted_yesB rfl rfl rfl h17) rfl (y_move (v := Value.int _ _) rfl rfl) ?_
  refine L0 (wanted_yesB rfl rfl rfl h17) rfl (y_eq rfl rfl rfl) ?_
  refine L0 (wanted_none rfl) rfl (y_pickT rfl rfl h17 rfl) ?_
  refine L0 (wanted_none rfl) rfl (y_move (v := Value.bool _) rfl rfl) ?_
  refine Lkn (t := 21) (b0 := true) rfl (by exact decide_eq_true (by decide)) (fun h18 => ?_)
  refine L0 (wanted_yesB rfl rfl rfl h18) rfl (y_move (v := Value.bool _) rfl rfl) ?_
  refine L0 (wanted_none rfl) rfl (y_pickT rfl rfl h18 rfl) ?_
  refine L0 (wanted_none rfl) rfl (y_move (v := Value.bool _) rfl rfl) ?_
  refine Lkn (t := 24) (b0 := true) rfl (by decide) (fun h19 => ?_)
  refine L0 (wanted_yesB rfl rfl rfl h19) rfl (y_move (v := Value.int _ _) rfl rfl) ?_
  refine L0 (wanted_yesB rfl rfl rfl h19) rfl (y_eq rfl rfl rfl) ?_
  refine L0 (wanted_none rfl) rfl (y_pickT rfl rfl h19 rfl) ?_
  refine L0 (wanted_none rfl) rfl (y_move (v := Value.bool _) rfl rfl) ?_
  refine Lkn (t := 28) (b0 := true) rfl (by exact decide_eq_true (by decide)) (fun h20 => ?_)
  refine Lc (wanted_yesB rfl rfl rfl h20) (c_bs3 (v0 := iv _) (v1 := iv _) (v2 := iv _) hs16 rfl rfl Try.underlying34 sz3 zr3 rfl rfl rfl rfl rfl rfl (fun b21 w22 hbb21 hs23 => ?_))
  refine Lc (wanted_yesB rfl rfl rfl h20) (c_call rfl rfl rfl Try.func29 (by kernel_rfl) rfl (free_any [16, 3, 0] _ (by decide) (by intro j; match j with | 0 => decide | 1 => decide | 2 => decide | j + 3 => exact ⟨by simp, by simp⟩) w22 (sl_ints3 (hs23.get 0 rfl))) rfl ?_)
  rintro _ w24 ⟨rfl, hc25⟩
  have hs26 := hs23.call0 hc25
  refine L0 (wanted_yesB rfl rfl rfl h20) rfl (y_eq rfl rfl rfl) ?_
  refine L0 (wanted_none rfl) rfl (y_pickT rfl rfl h20 rfl) ?_
  refine L0 (wanted_none rfl) rfl (y_assign (v := Value.bool _) rfl rfl) ?_
  refine Lnil ?_
  refine W_ret ?_
  refine fin1 (fn := Try.f38) rfl rfl ?_
  exact ⟨rfl, forget hs26 (by intro x hx; simp only [List.mem_cons, List.not_mem_nil, or_false] at hx; rcases hx with rfl | rfl | rfl | rfl <;> assumption)⟩
end Go.Proofs.Ytkolfgmpmnelmaa

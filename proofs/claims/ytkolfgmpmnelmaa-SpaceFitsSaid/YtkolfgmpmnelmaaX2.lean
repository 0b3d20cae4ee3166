/-
  Walks: space.Free, Open, Victim, and the reference's.
-/
import Derived.Test.YtkolfgmpmnelmaaX1
namespace Go.Proofs.Ytkolfgmpmnelmaa
open Go Vx Go.Proofs
set_option linter.unusedVariables false
set_option maxRecDepth 4000
set_option maxHeartbeats 400000

@[reducible] def nums (l : List Int) (j : Nat) : Value := iv (l.getD j 0)
def I64 (l : List Int) : Prop := ∀ j, -9223372036854775808 ≤ l.getD j 0 ∧ l.getD j 0 ≤ 9223372036854775807
/-! room -/
def freeOf (l : List Int) : Nat → Int
  | 0 => 0
  | i + 1 => freeOf l i + max (16 - max (l.getD i 0) 0) 0
theorem freeOf_bound (l : List Int) : ∀ i : Nat, 0 ≤ freeOf l i ∧ freeOf l i ≤ 16 * (i : Int)
  | 0 => by simp [freeOf]
  | i + 1 => by have := freeOf_bound l i; simp only [freeOf]; omega
theorem free_any (l : List Int) (va : Value) (hl : l.length ≤ 1000) (hb : I64 l) (w : World) (hSa : Sl w va l.length (nums l)) :
    C Try.prog 29 ⟨[va]⟩ w fun v w' => v = iv (freeOf l l.length) ∧ St w [] w' := by
  refine C_enter (n := 20) Try.func29 rfl rfl rfl (fun w1 hs1 => ?_)
  refine W_seq ?_
  refine W_region ?_
  refine L0 (wanted_none rfl) rfl (y_assign (v := Value.int _ _) rfl rfl) ?_
  refine Lnil ?_
  refine W_seq ?_
  refine W_region ?_
  refine L0 (wanted_none rfl) rfl (y_assign (v := Value.int _ _) rfl rfl) ?_
  refine Lnil ?_
  refine W_seq ?_
  refine W_seq ?_
  refine W_region ?_
  refine L0 (wanted_none rfl) rfl (y_move (v := va) rfl rfl) ?_
  refine L0 (wanted_none rfl) rfl (y_slenSl rfl Try.underlying34 rfl hSa) ?_
  refine L0 (wanted_none rfl) rfl (y_move (v := Value.int _ _) rfl rfl) ?_
  refine Lnil ?_
  refine W_block ?_
  refine W_loop (G := Nat) (fun i aL wl => ∃ e, aL = A 20 ((8, iv i) :: (7, iv l.length) :: (6, va) :: (3, iv (freeOf l i)) :: e) ∧ i ≤ l.length ∧ St w [] wl) (fun i => l.length - i) (0) ?_ ?_
  · exact ⟨_, A_pins _ _ [8, 7, 6, 3], by omega, hs1⟩
  rintro i _ w2 ⟨ehs3, rfl, hi, hs3⟩
  have hbi := hb i
  have hfb := freeOf_bound l i
  refine W_seq ?_
  refine W_region ?_
  refine L0 (wanted_none rfl) rfl (y_lt rfl rfl rfl) ?_
  refine Lnil ?_
  refine W_seq ?_
  refine Wsp (t := 9) rfl (fun h4 => ?_) (fun h4 => ?_)
  · have h4' := h4
    first | replace h4' := of_decide_eq_true h4' | replace h4' := bnT' h4' | skip
    refine W_condT rfl h4 ?_
    refine W_skip ?_
    refine W_seq ?_
    refine W_block ?_
    refine W_seq ?_
    refine W_region ?_
    refine L0 (wanted_none rfl) rfl (y_indexSlAt rfl Try.underlying34 sz3 rfl rfl hSa (by omega) (by omega)) ?_
    refine L1 (wanted_none rfl) rfl hs3 (y_loadSl i rfl Try.underlying3 rfl rfl hSa (by omega) (by omega) (by intro k hk; first | (simp [keys] at hk; done) | (simp [keys] at hk; omega))) ?_
    refine L0 (wanted_none rfl) rfl (y_assign (v := Value.int _ _) rfl rfl) ?_
    refine Lnil ?_
    refine W_region ?_
    refine L0 (wanted_none rfl) rfl (y_move (v := Value.int _ _) rfl rfl) ?_
    refine L0 (wanted_none rfl) rfl (y_move (v := Value.int _ _) rfl rfl) ?_
    refine L0 (wanted_none rfl) rfl (y_max rfl rfl rfl) ?_
    refine L0 (wanted_none rfl) rfl (y_sub64 rfl rfl rfl (by omega)) ?_
    refine L0 (wanted_none rfl) rfl (y_max rfl rfl rfl) ?_
    refine L0 (wanted_none rfl) rfl (y_add64 rfl rfl rfl (by omega)) ?_
    refine L0 (wanted_none rfl) rfl (y_assign (v := Value.int _ _) rfl rfl) ?_
    refine Lnil ?_
    refine W_region ?_
    refine L0 (wanted_none rfl) rfl (y_add64 rfl rfl rfl (by omega)) ?_
    refine L0 (wanted_none rfl) rfl (y_move (v := Value.int _ _) rfl rfl) ?_
    refine Lnil ?_
    exact ⟨i + 1, by first | omega | (dsimp only; done) | (dsimp only; omega), _, A_c (iv_eq (by first | omega | (dsimp only; done) | (dsimp only; omega))) (A_c rfl (A_c rfl (A_c rfl (rfl)))), by omega, hs3⟩
  · have h4' := h4
    first | replace h4' := of_decide_eq_false h4' | replace h4' := bnF' h4' | skip
    refine W_condF rfl h4 ?_
    refine W_exit ?_
    refine W_seq ?_
    refine W_region ?_
    refine L0 (wanted_none rfl) rfl (y_move (v := Value.int _ _) rfl rfl) ?_
    refine L0 (wanted_none rfl) rfl (y_assign (v := Value.int _ _) rfl rfl) ?_
    refine Lnil ?_
    refine W_ret ?_
    refine fin1 (fn := Try.f29) rfl rfl ?_
    obtain rfl : i = l.length := by omega
    exact ⟨rfl, hs3⟩
theorem rfree_any (l : List Int) (va : Value) (hl : l.length ≤ 1000) (hb : I64 l) (w : World) (hSa : Sl w va l.length (nums l)) :
    C Try.prog 30 ⟨[va]⟩ w fun v w' => v = iv (freeOf l l.length) ∧ St w [] w' := by
  refine C_enter (n := 22) Try.func30 rfl rfl rfl (fun w1 hs1 => ?_)
  refine W_seq ?_
  refine W_region ?_
  refine L0 (wanted_none rfl) rfl (y_assign (v := Value.int _ _) rfl rfl) ?_
  refine Lnil ?_
  refine W_seq ?_
  refine W_region ?_
  refine L0 (wanted_none rfl) rfl (y_assign (v := Value.int _ _) rfl rfl) ?_
  refine Lnil ?_
  refine W_seq ?_
  refine W_seq ?_
  refine W_region ?_
  refine L0 (wanted_none rfl) rfl (y_move (v := va) rfl rfl) ?_
  refine L0 (wanted_none rfl) rfl (y_slenSl rfl Try.underlying34 rfl hSa) ?_
  refine L0 (wanted_none rfl) rfl (y_move (v := Value.int _ _) rfl rfl) ?_
  refine Lnil ?_
  refine W_block ?_
  refine W_loop (G := Nat) (fun i aL wl => ∃ e, aL = A 22 ((8, iv i) :: (7, iv l.length) :: (6, va) :: (3, iv (freeOf l i)) :: e) ∧ i ≤ l.length ∧ St w [] wl) (fun i => l.length - i) (0) ?_ ?_
  · exact ⟨_, A_pins _ _ [8, 7, 6, 3], by omega, hs1⟩
  rintro i _ w2 ⟨ehs3, rfl, hi, hs3⟩
  have hbi := hb i
  have hfb := freeOf_bound l i
  refine W_seq ?_
  refine W_region ?_
  refine L0 (wanted_none rfl) rfl (y_lt rfl rfl rfl) ?_
  refine Lnil ?_
  refine W_seq ?_
  refine Wsp (t := 9) rfl (fun h4 => ?_) (fun h4 => ?_)
  · have h4' := h4
    first | replace h4' := of_decide_eq_true h4' | replace h4' := bnT' h4' | skip
    refine W_condT rfl h4 ?_
    refine W_skip ?_
    refine W_seq ?_
    refine W_block ?_
    refine W_seq ?_
    refine W_region ?_
    refine L0 (wanted_none rfl) rfl (y_indexSlAt rfl Try.underlying34 sz3 rfl rfl hSa (by omega) (by omega)) ?_
    refine L1 (wanted_none rfl) rfl hs3 (y_loadSl i rfl Try.underlying3 rfl rfl hSa (by omega) (by omega) (by intro k hk; first | (simp [keys] at hk; done) | (simp [keys] at hk; omega))) ?_
    refine L0 (wanted_none rfl) rfl (y_assign (v := Value.int _ _) rfl rfl) ?_
    refine Lnil ?_
    refine W_seq ?_
    refine W_seq ?_
    refine W_region ?_
    refine L0 (wanted_none rfl) rfl (y_move (v := Value.int _ _) rfl rfl) ?_
    refine L0 (wanted_none rfl) rfl (y_lt rfl rfl rfl) ?_
    refine Lnil ?_
    refine Wsp (t := 13) rfl (fun h5 => ?_) (fun h5 => ?_)
    · have h5' := h5
      first | replace h5' := of_decide_eq_true h5' | replace h5' := bnT' h5' | skip
      refine W_condT rfl h5 ?_
      refine W_region ?_
      refine L0 (wanted_none rfl) rfl (y_assign (v := Value.int _ _) rfl rfl) ?_
      refine Lnil ?_
      refine W_seq ?_
      refine W_region ?_
      refine L0 (wanted_none rfl) rfl (y_move (v := Value.int _ _) rfl rfl) ?_
      refine L0 (wanted_none rfl) rfl (y_lt rfl rfl rfl) ?_
      refine Lnil ?_
      refine Wsp (t := 15) rfl (fun h6 => ?_) (fun h6 => ?_)
      · have h6' := h6
        first | replace h6' := of_decide_eq_true h6' | replace h6' := bnT' h6' | skip
        refine W_condT rfl h6 ?_
        refine W_region ?_
        refine L0 (wanted_none rfl) rfl (y_move (v := Value.int _ _) rfl rfl) ?_
        refine L0 (wanted_none rfl) rfl (y_move (v := Value.int _ _) rfl rfl) ?_
        refine L0 (wanted_none rfl) rfl (y_sub64 rfl rfl rfl (by omega)) ?_
        refine L0 (wanted_none rfl) rfl (y_add64 rfl rfl rfl (by omega)) ?_
        refine L0 (wanted_none rfl) rfl (y_assign (v := Value.int _ _) rfl rfl) ?_
        refine Lnil ?_
        refine W_region ?_
        refine L0 (wanted_none rfl) rfl (y_add64 rfl rfl rfl (by omega)) ?_
        refine L0 (wanted_none rfl) rfl (y_move (v := Value.int _ _) rfl rfl) ?_
        refine Lnil ?_
        exact ⟨i + 1, by first | omega | (dsimp only; done) | (dsimp only; omega), _, A_c (iv_eq (by first | omega | (dsimp only; done) | (dsimp only; omega))) (A_c rfl (A_c rfl (A_c (iv_eq (by simp only [freeOf]; omega)) (rfl)))), by omega, hs3⟩
      · have h6' := h6
        first | replace h6' := of_decide_eq_false h6' | replace h6' := bnF' h6' | skip
        refine W_condF rfl h6 ?_
        refine W_skip ?_
        refine W_region ?_
        refine L0 (wanted_none rfl) rfl (y_add64 rfl rfl rfl (by omega)) ?_
        refine L0 (wanted_none rfl) rfl (y_move (v := Value.int _ _) rfl rfl) ?_
        refine Lnil ?_
        exact ⟨i + 1, by first | omega | (dsimp only; done) | (dsimp only; omega), _, A_c (iv_eq (by first | omega | (dsimp only; done) | (dsimp only; omega))) (A_c rfl (A_c rfl (A_c (iv_eq (by simp only [freeOf]; omega)) (rfl)))), by omega, hs3⟩
    · have h5' := h5
      first | replace h5' := of_decide_eq_false h5' | replace h5' := bnF' h5' | skip
      refine W_condF rfl h5 ?_
      refine W_skip ?_
      refine W_seq ?_
      refine W_region ?_
      refine L0 (wanted_none rfl) rfl (y_move (v := Value.int _ _) rfl rfl) ?_
      refine L0 (wanted_none rfl) rfl (y_lt rfl rfl rfl) ?_
      refine Lnil ?_
      refine Wsp (t := 15) rfl (fun h7 => ?_) (fun h7 => ?_)
      · have h7' := h7
        first | replace h7' := of_decide_eq_true h7' | replace h7' := bnT' h7' | skip
        refine W_condT rfl h7 ?_
        refine W_region ?_
        refine L0 (wanted_none rfl) rfl (y_move (v := Value.int _ _) rfl rfl) ?_
        refine L0 (wanted_none rfl) rfl (y_move (v := Value.int _ _) rfl rfl) ?_
        refine L0 (wanted_none rfl) rfl (y_sub64 rfl rfl rfl (by omega)) ?_
        refine L0 (wanted_none rfl) rfl (y_add64 rfl rfl rfl (by omega)) ?_
        refine L0 (wanted_none rfl) rfl (y_assign (v := Value.int _ _) rfl rfl) ?_
        refine Lnil ?_
        refine W_region ?_
        refine L0 (wanted_none rfl) rfl (y_add64 rfl rfl rfl (by omega)) ?_
        refine L0 (wanted_none rfl) rfl (y_move (v := Value.int _ _) rfl rfl) ?_
        refine Lnil ?_
        exact ⟨i + 1, by first | omega | (dsimp only; done) | (dsimp only; omega), _, A_c (iv_eq (by first | omega | (dsimp only; done) | (dsimp only; omega))) (A_c rfl (A_c rfl (A_c (iv_eq (by simp only [freeOf]; omega)) (rfl)))), by omega, hs3⟩
      · have h7' := h7
        first | replace h7' := of_decide_eq_false h7' | replace h7' := bnF' h7' | skip
        refine W_condF rfl h7 ?_
        refine W_skip ?_
        refine W_region ?_
        refine L0 (wanted_none rfl) rfl (y_add64 rfl rfl rfl (by omega)) ?_
        refine L0 (wanted_none rfl) rfl (y_move (v := Value.int _ _) rfl rfl) ?_
        refine Lnil ?_
        exact ⟨i + 1, by first | omega | (dsimp only; done) | (dsimp only; omega), _, A_c (iv_eq (by first | omega | (dsimp only; done) | (dsimp only; omega))) (A_c rfl (A_c rfl (A_c (iv_eq (by simp only [freeOf]; omega)) (rfl)))), by omega, hs3⟩
  · have h4' := h4
    first | replace h4' := of_decide_eq_false h4' | replace h4' := bnF' h4' | skip
    refine W_condF rfl h4 ?_
    refine W_exit ?_
    refine W_seq ?_
    refine W_region ?_
    refine L0 (wanted_none rfl) rfl (y_move (v := Value.int _ _) rfl rfl) ?_
    refine L0 (wanted_none rfl) rfl (y_assign (v := Value.int _ _) rfl rfl) ?_
    refine Lnil ?_
    refine W_ret ?_
    refine fin1 (fn := Try.f30) rfl rfl ?_
    obtain rfl : i = l.length := by omega
    exact ⟨rfl, hs3⟩
def openF (l : List Int) (but : Int) : Nat → Nat → Int × Bool
  | _, 0 => (0, false)
  | i, k + 1 => if l.getD i 0 < 16 ∧ (i : Int) ≠ but then ((i : Int), true) else openF l but (i + 1) k
theorem openF_hit {l : List Int} {but : Int} {i m : Nat} (h : l.getD i 0 < 16) (h2 : (i : Int) ≠ but) (hm : 0 < m) : openF l but i m = ((i : Int), true) := by
  obtain ⟨k, rfl⟩ : ∃ k, m = k + 1 := ⟨m - 1, by omega⟩
  rw [openF, if_pos ⟨h, h2⟩]
theorem openF_miss {l : List Int} {but : Int} {i m : Nat} (h : ¬ (l.getD i 0 < 16 ∧ (i : Int) ≠ but)) (hm : i < m) : openF l but i (m - i) = openF l but (i + 1) (m - (i + 1)) := by
  obtain ⟨k, hk⟩ : ∃ k, m - i = k + 1 := ⟨m - i - 1, by omega⟩
  rw [hk, openF, if_neg h]
  congr 1; omega
theorem openF_end {l : List Int} {but : Int} {i : Nat} : openF l but i 0 = (0, false) := rfl
theorem open_space (l : List Int) (but : Int) (va : Value) (hl : l.length ≤ 1000) (w : World) (hSa : Sl w va l.length (nums l)) :
    C Try.prog 28 ⟨[va, iv but]⟩ w fun v w' => v = .tuple #[iv (openF l but 0 l.length).1, .bool (openF l but 0 l.length).2] ∧ St w [] w' := by
  refine C_enter (n := 24) Try.func28 rfl rfl rfl (fun w1 hs1 => ?_)
  refine W_seq ?_
  refine W_region ?_
  refine L0 (wanted_none rfl) rfl (y_assign (v := Value.int _ _) rfl rfl) ?_
  refine L0 (wanted_none rfl) rfl (y_assign (v := Value.bool _) rfl rfl) ?_
  refine Lnil ?_
  refine W_seq ?_
  refine W_seq ?_
  refine W_region ?_
  refine L0 (wanted_none rfl) rfl (y_move (v := va) rfl rfl) ?_
  refine L0 (wanted_none rfl) rfl (y_slenSl rfl Try.underlying34 rfl hSa) ?_
  refine L0 (wanted_none rfl) rfl (y_move (v := Value.int _ _) rfl rfl) ?_
  refine Lnil ?_
  refine W_block ?_
  refine W_loop (G := Nat) (fun i aL wl => ∃ e, aL = A 24 ((10, iv i) :: (9, iv l.length) :: (8, va) :: (1, iv but) :: e) ∧ i ≤ l.length ∧ openF l but 0 l.length = openF l but i (l.length - i) ∧ St w [] wl) (fun i => l.length - i) (0) ?_ ?_
  · exact ⟨_, A_pins _ _ [10, 9, 8, 1], by omega, rfl, hs1⟩
  rintro i _ w2 ⟨ehs3, rfl, hi, hI, hs3⟩
  refine W_seq ?_
  refine W_region ?_
  refine L0 (wanted_none rfl) rfl (y_lt rfl rfl rfl) ?_
  refine Lnil ?_
  refine W_seq ?_
  refine Wsp (t := 11) rfl (fun h4 => ?_) (fun h4 => ?_)
  · have h4' := h4
    first | replace h4' := of_decide_eq_true h4' | replace h4' := bnT' h4' | skip
    refine W_condT rfl h4 ?_
    refine W_skip ?_
    refine W_seq ?_
    refine W_block ?_
    refine W_seq ?_
    refine W_region ?_
    refine L0 (wanted_none rfl) rfl (y_move (v := Value.int _ _) rfl rfl) ?_
    refine L0 (wanted_none rfl) rfl (y_indexSlAt rfl Try.underlying34 sz3 rfl rfl hSa (by omega) (by omega)) ?_
    refine L1 (wanted_none rfl) rfl hs3 (y_loadSl i rfl Try.underlying3 rfl rfl hSa (by omega) (by omega) (by intro k hk; first | (simp [keys] at hk; done) | (simp [keys] at hk; omega))) ?_
    refine L0 (wanted_none rfl) rfl (y_assign (v := Value.int _ _) rfl rfl) ?_
    refine L0 (wanted_none rfl) rfl (y_assign (v := Value.int _ _) rfl rfl) ?_
    refine Lnil ?_
    refine W_seq ?_
    refine W_region ?_
    refine L0 (wanted_none rfl) rfl (y_move (v := Value.int _ _) rfl rfl) ?_
    refine L0 (wanted_none rfl) rfl (y_lt rfl rfl rfl) ?_
    refine L0 (wanted_none rfl) rfl (y_move (v := Value.bool _) rfl rfl) ?_
    refine Lsp (t := 17) rfl (fun h5 => ?_) (fun h5 => ?_)
    · have h5' := h5
      first | replace h5' := of_decide_eq_true h5' | replace h5' := bnT' h5' | skip
      refine L0 (wanted_yesB rfl rfl rfl h5) rfl (y_move (v := Value.int _ _) rfl rfl) ?_
      refine L0 (wanted_yesB rfl rfl rfl h5) rfl (y_move (v := Value.int _ _) rfl rfl) ?_
      refine L0 (wanted_yesB rfl rfl rfl h5) rfl (y_ne rfl rfl rfl) ?_
      refine L0 (wanted_none rfl) rfl (y_pickT rfl rfl h5 rfl) ?_
      refine Lnil ?_
      refine Wsp (t := 21) rfl (fun h6 => ?_) (fun h6 => ?_)
      · have h6' := h6
        first | replace h6' := of_decide_eq_true h6' | replace h6' := bnT' h6' | skip
        refine W_condT rfl h6 ?_
        refine W_seq ?_
        refine W_region ?_
        refine L0 (wanted_none rfl) rfl (y_move (v := Value.int _ _) rfl rfl) ?_
        refine L0 (wanted_none rfl) rfl (y_assign (v := Value.int _ _) rfl rfl) ?_
        refine L0 (wanted_none rfl) rfl (y_assign (v := Value.bool _) rfl rfl) ?_
        refine Lnil ?_
        refine W_ret ?_
        refine fin2 (fn := Try.f28) rfl rfl rfl ?_
        rw [hI, openF_hit (by omega) (by omega) (by omega)]
        exact ⟨rfl, hs3⟩
      · have h6' := h6
        first | replace h6' := of_decide_eq_false h6' | replace h6' := bnF' h6' | skip
        refine W_condF rfl h6 ?_
        refine W_skip ?_
        refine W_region ?_
        refine L0 (wanted_none rfl) rfl (y_add64 rfl rfl rfl (by omega)) ?_
        refine L0 (wanted_none rfl) rfl (y_move (v := Value.int _ _) rfl rfl) ?_
        refine Lnil ?_
        exact ⟨i + 1, by first | omega | (dsimp only; done) | (dsimp only; omega), _, A_c (iv_eq (by first | omega | (dsimp only; done) | (dsimp only; omega))) (A_c rfl (A_c rfl (A_c rfl (rfl)))), by omega, hI.trans (openF_miss (by omega) (by omega)), hs3⟩
    · have h5' := h5
      first | replace h5' := of_decide_eq_false h5' | replace h5' := bnF' h5' | skip
      refine Lno (wanted_noB rfl rfl rfl h5 (by decide)) rfl ?_
      refine Lno (wanted_noB rfl rfl rfl h5 (by decide)) rfl ?_
      refine Lno (wanted_noB rfl rfl rfl h5 (by decide)) rfl ?_
      refine L0 (wanted_none rfl) rfl (y_pickF rfl rfl h5 rfl) ?_
      refine Lnil ?_
      refine W_condF rfl rfl ?_
      refine W_skip ?_
      refine W_region ?_
      refine L0 (wanted_none rfl) rfl (y_add64 rfl rfl rfl (by omega)) ?_
      refine L0 (wanted_none rfl) rfl (y_move (v := Value.int _ _) rfl rfl) ?_
      refine Lnil ?_
      exact ⟨i + 1, by first | omega | (dsimp only; done) | (dsimp only; omega), _, A_c (iv_eq (by first | omega | (dsimp only; done) | (dsimp only; omega))) (A_c rfl (A_c rfl (A_c rfl (rfl)))), by omega, hI.trans (openF_miss (by omega) (by omega)), hs3⟩
  · have h4' := h4
    first | replace h4' := of_decide_eq_false h4' | replace h4' := bnF' h4' | skip
    refine W_condF rfl h4 ?_
    refine W_exit ?_
    refine W_seq ?_
    refine W_region ?_
    refine L0 (wanted_none rfl) rfl (y_assign (v := Value.int _ _) rfl rfl) ?_
    refine L0 (wanted_none rfl) rfl (y_assign (v := Value.bool _) rfl rfl) ?_
    refine Lnil ?_
    refine W_ret ?_
    refine fin2 (fn := Try.f28) rfl rfl rfl ?_
    have e0 : l.length - i = 0 := by omega
    rw [hI, e0, openF_end]
    exact ⟨rfl, hs3⟩
theorem room_any (l : List Int) (but : Int) (va : Value) (hl : l.length ≤ 1000) (w : World) (hSa : Sl w va l.length (nums l)) :
    C Try.prog 27 ⟨[va, iv but]⟩ w fun v w' => v = .tuple #[iv (openF l but 0 l.length).1, .bool (openF l but 0 l.length).2] ∧ St w [] w' := by
  refine C_enter (n := 24) Try.func27 rfl rfl rfl (fun w1 hs1 => ?_)
  refine W_seq ?_
  refine W_region ?_
  refine L0 (wanted_none rfl) rfl (y_assign (v := Value.int _ _) rfl rfl) ?_
  refine L0 (wanted_none rfl) rfl (y_assign (v := Value.bool _) rfl rfl) ?_
  refine Lnil ?_
  refine W_seq ?_
  refine W_seq ?_
  refine W_region ?_
  refine L0 (wanted_none rfl) rfl (y_move (v := va) rfl rfl) ?_
  refine L0 (wanted_none rfl) rfl (y_slenSl rfl Try.underlying34 rfl hSa) ?_
  refine L0 (wanted_none rfl) rfl (y_move (v := Value.int _ _) rfl rfl) ?_
  refine Lnil ?_
  refine W_block ?_
  refine W_loop (G := Nat) (fun i aL wl => ∃ e, aL = A 24 ((9, iv i) :: (8, iv l.length) :: (0, va) :: (1, iv but) :: e) ∧ i ≤ l.length ∧ openF l but 0 l.length = openF l but i (l.length - i) ∧ St w [] wl) (fun i => l.length - i) (0) ?_ ?_
  · exact ⟨_, A_pins _ _ [9, 8, 0, 1], by omega, rfl, hs1⟩
  rintro i _ w2 ⟨ehs3, rfl, hi, hI, hs3⟩
  refine W_seq ?_
  refine W_region ?_
  refine L0 (wanted_none rfl) rfl (y_lt rfl rfl rfl) ?_
  refine Lnil ?_
  refine W_seq ?_
  refine Wsp (t := 10) rfl (fun h4 => ?_) (fun h4 => ?_)
  · have h4' := h4
    first | replace h4' := of_decide_eq_true h4' | replace h4' := bnT' h4' | skip
    refine W_condT rfl h4 ?_
    refine W_skip ?_
    refine W_seq ?_
    refine W_block ?_
    refine W_seq ?_
    refine W_region ?_
    refine L0 (wanted_none rfl) rfl (y_move (v := Value.int _ _) rfl rfl) ?_
    refine L0 (wanted_none rfl) rfl (y_assign (v := Value.int _ _) rfl rfl) ?_
    refine Lnil ?_
    refine W_seq ?_
    refine W_region ?_
    refine L0 (wanted_none rfl) rfl (y_move (v := Value.int _ _) rfl rfl) ?_
    refine L0 (wanted_none rfl) rfl (y_move (v := Value.int _ _) rfl rfl) ?_
    refine L0 (wanted_none rfl) rfl (y_ne rfl rfl rfl) ?_
    refine L0 (wanted_none rfl) rfl (y_move (v := Value.bool _) rfl rfl) ?_
    refine Lsp (t := 15) rfl (fun h5 => ?_) (fun h5 => ?_)
    · have h5' := h5
      first | replace h5' := of_decide_eq_true h5' | replace h5' := bnT' h5' | skip
      refine L0 (wanted_yesB rfl rfl rfl h5) rfl (y_move (v := va) rfl rfl) ?_
      refine L0 (wanted_yesB rfl rfl rfl h5) rfl (y_move (v := Value.int _ _) rfl rfl) ?_
      refine L0 (wanted_yesB rfl rfl rfl h5) rfl (y_indexSlAt rfl Try.underlying34 sz3 rfl rfl hSa (by omega) (by omega)) ?_
      refine L1 (wanted_yesB rfl rfl rfl h5) rfl hs3 (y_loadSl i rfl Try.underlying3 rfl rfl hSa (by omega) (by omega) (by intro k hk; first | (simp [keys] at hk; done) | (simp [keys] at hk; omega))) ?_
      refine L0 (wanted_yesB rfl rfl rfl h5) rfl (y_lt rfl rfl rfl) ?_
      refine L0 (wanted_none rfl) rfl (y_pickT rfl rfl h5 rfl) ?_
      refine Lnil ?_
      refine Wsp (t := 21) rfl (fun h6 => ?_) (fun h6 => ?_)
      · have h6' := h6
        first | replace h6' := of_decide_eq_true h6' | replace h6' := bnT' h6' | skip
        refine W_condT rfl h6 ?_
        refine W_seq ?_
        refine W_region ?_
        refine L0 (wanted_none rfl) rfl (y_move (v := Value.int _ _) rfl rfl) ?_
        refine L0 (wanted_none rfl) rfl (y_assign (v := Value.int _ _) rfl rfl) ?_
        refine L0 (wanted_none rfl) rfl (y_assign (v := Value.bool _) rfl rfl) ?_
        refine Lnil ?_
        refine W_ret ?_
        refine fin2 (fn := Try.f27) rfl rfl rfl ?_
        rw [hI, openF_hit (by omega) (by omega) (by omega)]
        exact ⟨rfl, hs3⟩
      · have h6' := h6
        first | replace h6' := of_decide_eq_false h6' | replace h6' := bnF' h6' | skip
        refine W_condF rfl h6 ?_
        refine W_skip ?_
        refine W_region ?_
        refine L0 (wanted_none rfl) rfl (y_add64 rfl rfl rfl (by omega)) ?_
        refine L0 (wanted_none rfl) rfl (y_move (v := Value.int _ _) rfl rfl) ?_
        refine Lnil ?_
        exact ⟨i + 1, by first | omega | (dsimp only; done) | (dsimp only; omega), _, A_c (iv_eq (by first | omega | (dsimp only; done) | (dsimp only; omega))) (A_c rfl (A_c rfl (A_c rfl (rfl)))), by omega, hI.trans (openF_miss (by omega) (by omega)), hs3⟩
    · have h5' := h5
      first | replace h5' := of_decide_eq_false h5' | replace h5' := bnF' h5' | skip
      refine Lno (wanted_noB rfl rfl rfl h5 (by decide)) rfl ?_
      refine Lno (wanted_noB rfl rfl rfl h5 (by decide)) rfl ?_
      refine Lno (wanted_noB rfl rfl rfl h5 (by decide)) rfl ?_
      refine Lno (wanted_noB rfl rfl rfl h5 (by decide)) rfl ?_
      refine Lno (wanted_noB rfl rfl rfl h5 (by decide)) rfl ?_
      refine L0 (wanted_none rfl) rfl (y_pickF rfl rfl h5 rfl) ?_
      refine Lnil ?_
      refine W_condF rfl rfl ?_
      refine W_skip ?_
      refine W_region ?_
      refine L0 (wanted_none rfl) rfl (y_add64 rfl rfl rfl (by omega)) ?_
      refine L0 (wanted_none rfl) rfl (y_move (v := Value.int _ _) rfl rfl) ?_
      refine Lnil ?_
      exact ⟨i + 1, by first | omega | (dsimp only; done) | (dsimp only; omega), _, A_c (iv_eq (by first | omega | (dsimp only; done) | (dsimp only; omega))) (A_c rfl (A_c rfl (A_c rfl (rfl)))), by omega, hI.trans (openF_miss (by omega) (by omega)), hs3⟩
  · have h4' := h4
    first | replace h4' := of_decide_eq_false h4' | replace h4' := bnF' h4' | skip
    refine W_condF rfl h4 ?_
    refine W_exit ?_
    refine W_seq ?_
    refine W_region ?_
    refine L0 (wanted_none rfl) rfl (y_assign (v := Value.int _ _) rfl rfl) ?_
    refine L0 (wanted_none rfl) rfl (y_assign (v := Value.bool _) rfl rfl) ?_
    refine Lnil ?_
    refine W_ret ?_
    refine fin2 (fn := Try.f27) rfl rfl rfl ?_
    have e0 : l.length - i = 0 := by omega
    rw [hI, e0, openF_end]
    exact ⟨rfl, hs3⟩
/-! what is to be emptied -/
def Full (l v : List Int) (j : Nat) : Prop := 16 ≤ l.getD j 0 ∧ j < v.length
/-- b is the first of those that are full, from lo on and below hi, of which v is least; -1: none is full. -/
def Best (l v : List Int) (lo hi : Nat) (b : Int) : Prop :=
  (b = -1 ∧ ∀ j, lo ≤ j → j < hi → ¬ Full l v j) ∨ ∃ k : Nat, b = (k : Int) ∧ lo ≤ k ∧ k < hi ∧ Full l v k ∧ (∀ j, lo ≤ j → j < hi → Full l v j → v.getD k 0 ≤ v.getD j 0) ∧ ∀ j, lo ≤ j → j < k → Full l v j → v.getD k 0 < v.getD j 0
theorem Best.ge {l v : List Int} {lo hi : Nat} {b : Int} (h : Best l v lo hi b) : -1 ≤ b ∧ b < hi ∨ b = -1 := by
  rcases h with ⟨h, _⟩ | ⟨k, rfl, h1, h2, _⟩ <;> omega
theorem Best.lt {l v : List Int} {lo hi : Nat} {b : Int} (h : Best l v lo hi b) (hb : 0 ≤ b) : b < v.length ∧ b < hi := by
  rcases h with ⟨h, _⟩ | ⟨k, rfl, h1, h2, h3, _⟩
  · omega
  · have := h3.2; omega
theorem Best.uniq {l v : List Int} {lo hi : Nat} {a b : Int} (ha : Best l v lo hi a) (hb : Best l v lo hi b) : a = b := by
  rcases ha with ⟨rfl, h1⟩ | ⟨k, rfl, k1, k2, k3, k4, k5⟩ <;> rcases hb with ⟨rfl, h2⟩ | ⟨m, rfl, m1, m2, m3, m4, m5⟩
  · rfl
  · exact absurd m3 (h1 m m1 m2)
  · exact absurd k3 (h2 k k1 k2)
  · rcases Nat.lt_trichotomy k m with h | h | h
    · have x1 := m5 k k1 h k3; have x2 := k4 m m1 m2 m3; omega
    · rw [h]
    · have x1 := k5 m m1 h m3; have x2 := m4 k k1 k2 k3; omega
theorem Best.none (l v : List Int) (i : Nat) : Best l v i i (-1) := .inl ⟨rfl, fun j h1 h2 => by omega⟩
theorem Best.take {l v : List Int} {i : Nat} {b : Int} (h : Best l v 0 i b) (hf : 16 ≤ l.getD i 0) (hi : i < v.length) (hv : b < 0 ∨ v.getD i 0 < v.getD b.toNat 0) : Best l v 0 (i + 1) (i : Int) := by
  refine .inr ⟨i, rfl, Nat.zero_le _, Nat.lt_succ_self _, ⟨hf, hi⟩, ?_, ?_⟩
  all_goals
    intro j _ hj hfj
    rcases h with ⟨rfl, h1⟩ | ⟨k, rfl, k1, k2, k3, k4, k5⟩
  · rcases Nat.lt_or_ge j i with h' | h'
    · exact absurd hfj (h1 j (Nat.zero_le _) h')
    · obtain rfl : j = i := by omega
      exact Int.le_refl _
  · rcases Nat.lt_or_ge j i with h' | h'
    · have := k4 j (Nat.zero_le _) h' hfj
      rw [show ((k : Int)).toNat = k from rfl] at hv; omega
    · obtain rfl : j = i := by omega
      exact Int.le_refl _
  · exact absurd hfj (h1 j (Nat.zero_le _) hj)
  · have := k4 j (Nat.zero_le _) hj hfj
    rw [show ((k : Int)).toNat = k from rfl] at hv; omega
theorem Best.skip {l v : List Int} {i : Nat} {b : Int} (h : Best l v 0 i b) (hn : ¬ ((16 ≤ l.getD i 0 ∧ i < v.length) ∧ (b < 0 ∨ v.getD i 0 < v.getD b.toNat 0))) : Best l v 0 (i + 1) b := by
  rcases h with ⟨rfl, h1⟩ | ⟨k, rfl, k1, k2, k3, k4, k5⟩
  · refine .inl ⟨rfl, fun j _ hj hf => ?_⟩
    rcases Nat.lt_or_ge j i with h' | h'
    · exact h1 j (Nat.zero_le _) h' hf
    · obtain rfl : j = i := by omega
      exact hn ⟨hf, .inl (by omega)⟩
  · refine .inr ⟨k, rfl, k1, by omega, k3, fun j _ hj hf => ?_, k5⟩
    rcases Nat.lt_or_ge j i with h' | h'
    · exact k4 j (Nat.zero_le _) h' hf
    · obtain rfl : j = i := by omega
      rcases Int.lt_or_le (v.getD j 0) (v.getD k 0) with h2 | h2
      · exact absurd ⟨hf, .inr h2⟩ hn
      · exact h2
theorem Best.takeR {l v : List Int} {i hi : Nat} {b : Int} (h : Best l v (i + 1) hi b) (hh : i < hi) (hf : 16 ≤ l.getD i 0) (hi2 : i < v.length) (hv : b < 0 ∨ v.getD i 0 ≤ v.getD (max b 0).toNat 0) : Best l v i hi (i : Int) := by
  refine .inr ⟨i, rfl, Nat.le_refl _, hh, ⟨hf, hi2⟩, ?_, fun j h1 h2 => by omega⟩
  intro j hj1 hj2 hfj
  rcases Nat.lt_or_ge i j with h' | h'
  · rcases h with ⟨rfl, h1⟩ | ⟨k, rfl, k1, k2, k3, k4, k5⟩
    · exact absurd hfj (h1 j h' hj2)
    · have := k4 j h' hj2 hfj
      rw [show (max (k : Int) 0).toNat = k from by omega] at hv; omega
  · obtain rfl : j = i := by omega
    exact Int.le_refl _
theorem Best.skipR {l v : List Int} {i hi : Nat} {b : Int} (h : Best l v (i + 1) hi b) (hn : ¬ ((16 ≤ l.getD i 0 ∧ i < v.length) ∧ (b < 0 ∨ v.getD i 0 ≤ v.getD (max b 0).toNat 0))) : Best l v i hi b := by
  rcases h with ⟨rfl, h1⟩ | ⟨k, rfl, k1, k2, k3, k4, k5⟩
  · refine .inl ⟨rfl, fun j hj1 hj hf => ?_⟩
    rcases Nat.lt_or_ge i j with h' | h'
    · exact h1 j h' hj hf
    · obtain rfl : j = i := by omega
      exact hn ⟨hf, .inl (by omega)⟩
  · have key : Full l v i → v.getD k 0 < v.getD i 0 := fun hf => by
      rcases Int.lt_or_le (v.getD k 0) (v.getD i 0) with h2 | h2
      · exact h2
      · exact absurd ⟨hf, .inr (by rw [show (max (k : Int) 0).toNat = k from by omega]; exact h2)⟩ hn
    refine .inr ⟨k, rfl, by omega, k2, k3, fun j hj1 hj hf => ?_, fun j hj1 hj hf => ?_⟩
    · rcases Nat.lt_or_ge i j with h' | h'
      · exact k4 j h' hj hf
      · obtain rfl : j = i := by omega
        exact Int.le_of_lt (key hf)
    · rcases Nat.lt_or_ge i j with h' | h'
      · exact k5 j h' hj hf
      · obtain rfl : j = i := by omega
        exact key hf
theorem victim_any (l v : List Int) (va vb : Value) (hl : l.length ≤ 1000) (hl2 : v.length ≤ 1000) (w : World) (hSa : Sl w va l.length (nums l)) (hSb : Sl w vb v.length (nums v)) :
    C Try.prog 32 ⟨[va, vb]⟩ w fun r w' => (∃ b, Best l v 0 l.length b ∧ r = .tuple #[iv (max b 0), .bool (decide (0 ≤ b))]) ∧ St w [] w' := by
  refine C_enter (n := 45) Try.func32 rfl rfl rfl (fun w1 hs1 => ?_)
  refine W_seq ?_
  refine W_region ?_
  refine L0 (wanted_none rfl) rfl (y_assign (v := Value.int _ _) rfl rfl) ?_
  refine L0 (wanted_none rfl) rfl (y_assign (v := Value.bool _) rfl rfl) ?_
  refine Lnil ?_
  refine W_seq ?_
  refine W_region ?_
  refine L0 (wanted_none rfl) rfl (y_assign (v := Value.int _ _) rfl rfl) ?_
  refine Lnil ?_
  refine W_seq ?_
  refine W_seq ?_
  refine W_region ?_
  refine L0 (wanted_none rfl) rfl (y_move (v := va) rfl rfl) ?_
  refine L0 (wanted_none rfl) rfl (y_slenSl rfl Try.underlying34 rfl hSa) ?_
  refine L0 (wanted_none rfl) rfl (y_move (v := Value.int _ _) rfl rfl) ?_
  refine Lnil ?_
  refine W_block ?_
  refine W_loop (G := Nat × Int) (fun g aL wl => ∃ e, aL = A 45 ((11, iv g.1) :: (10, iv l.length) :: (9, va) :: (6, iv g.2) :: (1, vb) :: e) ∧ g.1 ≤ l.length ∧ Best l v 0 g.1 g.2 ∧ St w [] wl) (fun g => l.length - g.1) ((0, -1)) ?_ ?_
  · exact ⟨_, A_pins _ _ [11, 10, 9, 6, 1], Nat.zero_le _, Best.none l v 0, hs1⟩
  rintro g _ w2 ⟨ehs3, rfl, hi, hB, hs3⟩
  obtain ⟨i, b⟩ := g
  dsimp only at *
  have hge := hB.ge
  have hlt : 0 ≤ b → b < v.length ∧ b < i := fun h => hB.lt h
  refine W_seq ?_
  refine W_region ?_
  refine L0 (wanted_none rfl) rfl (y_lt rfl rfl rfl) ?_
  refine Lnil ?_
  refine W_seq ?_
  refine Wsp (t := 12) rfl (fun h4 => ?_) (fun h4 => ?_)
  · have h4' := h4
    first | replace h4' := of_decide_eq_true h4' | replace h4' := bnT' h4' | skip
    refine W_condT rfl h4 ?_
    refine W_skip ?_
    refine W_seq ?_
    refine W_block ?_
    refine W_seq ?_
    refine W_region ?_
    refine L0 (wanted_none rfl) rfl (y_move (v := Value.int _ _) rfl rfl) ?_
    refine L0 (wanted_none rfl) rfl (y_indexSlAt rfl Try.underlying34 sz3 rfl rfl hSa (by omega) (by omega)) ?_
    refine L1 (wanted_none rfl) rfl hs3 (y_loadSl i rfl Try.underlying3 rfl rfl hSa (by omega) (by omega) (by intro k hk; first | (simp [keys] at hk; done) | (simp [keys] at hk; omega))) ?_
    refine L0 (wanted_none rfl) rfl (y_assign (v := Value.int _ _) rfl rfl) ?_
    refine L0 (wanted_none rfl) rfl (y_assign (v := Value.int _ _) rfl rfl) ?_
    refine Lnil ?_
    refine W_seq ?_
    refine W_drawSt [(0, 0), (0, 1), (0, 2), (0, 3), (0, 4), (0, 5), (0, 6), (0, 7), (0, 8), (0, 9), (0, 10), (0, 11), (0, 12), (0, 13), (0, 16), (0, 17), (0, 14), (0, 18), (1, 15), (1, 19), (0, 20), (0, 21), (0, 22)] hs3 mixed (by kernel_rfl) (fun w5 hs6 => ?_)
    refine E0 (wanted_none rfl) rfl (y_move (v := Value.int _ _) rfl rfl) ?_
    refine E0 (wanted_none rfl) rfl (y_ge rfl rfl rfl) ?_
    refine E0 (wanted_none rfl) rfl (y_move (v := Value.bool _) rfl rfl) ?_
    refine Esp (t := 18) rfl (fun h7 => ?_) (fun h7 => ?_)
    · have h7' := h7
      first | replace h7' := of_decide_eq_true h7' | replace h7' := bnT' h7' | skip
      refine E0 (wanted_yesB rfl rfl rfl h7) rfl (y_move (v := Value.int _ _) rfl rfl) ?_
      refine E0 (wanted_yesB rfl rfl rfl h7) rfl (y_move (v := vb) rfl rfl) ?_
      refine E0 (wanted_yesB rfl rfl rfl h7) rfl (y_slenSl rfl Try.underlying34 rfl hSb) ?_
      refine E0 (wanted_yesB rfl rfl rfl h7) rfl (y_lt rfl rfl rfl) ?_
      refine E0 (wanted_none rfl) rfl (y_pickT rfl rfl h7 rfl) ?_
      refine E0 (wanted_none rfl) rfl (y_move (v := Value.bool _) rfl rfl) ?_
      refine Esp (t := 24) rfl (fun h8 => ?_) (fun h8 => ?_)
      · have h8' := h8
        first | replace h8' := of_decide_eq_true h8' | replace h8' := bnT' h8' | skip
        refine E0 (wanted_yesB rfl rfl rfl h8) rfl (y_move (v := Value.int _ _) rfl rfl) ?_
        refine E0 (wanted_yesB rfl rfl rfl h8) rfl (y_lt rfl rfl rfl) ?_
        refine E0 (wanted_yesB rfl rfl rfl h8) rfl (y_move (v := Value.bool _) rfl rfl) ?_
        refine Esp (t := 27) rfl (fun h9 => ?_) (fun h9 => ?_)
        · have h9' := h9
          first | replace h9' := of_decide_eq_true h9' | replace h9' := bnT' h9' | skip
          refine Eno (wanted_noB rfl rfl rfl h9 (by decide)) rfl ?_
          refine Eno (wanted_noB rfl rfl rfl h9 (by decide)) rfl ?_
          refine Eno (wanted_noB rfl rfl rfl h9 (by decide)) rfl ?_
          refine Eno (wanted_noB rfl rfl rfl h9 (by decide)) rfl ?_
          refine Eno (wanted_noB rfl rfl rfl h9 (by decide)) rfl ?_
          refine Eno (wanted_noB rfl rfl rfl h9 (by decide)) rfl ?_
          refine E1no hs6 (wanted_noB rfl rfl rfl h9 (by decide)) rfl ?_
          refine E1no hs6 (wanted_noB rfl rfl rfl h9 (by decide)) rfl ?_
          refine Eno (wanted_noB rfl rfl rfl h9 (by decide)) rfl ?_
          refine E0 (wanted_yesB rfl rfl rfl h8) rfl (y_pickT rfl rfl h9 rfl) ?_
          refine E0 (wanted_none rfl) rfl (y_pickT rfl rfl h8 rfl) ?_
          refine Enil ?_
          refine W_condT rfl rfl ?_
          refine W_region ?_
          refine L0 (wanted_none rfl) rfl (y_move (v := Value.int _ _) rfl rfl) ?_
          refine L0 (wanted_none rfl) rfl (y_assign (v := Value.int _ _) rfl rfl) ?_
          refine Lnil ?_
          refine W_region ?_
          refine L0 (wanted_none rfl) rfl (y_add64 rfl rfl rfl (by omega)) ?_
          refine L0 (wanted_none rfl) rfl (y_move (v := Value.int _ _) rfl rfl) ?_
          refine Lnil ?_
          exact ⟨(i + 1, _), by first | omega | ((try dsimp only); done) | ((try dsimp only); omega), _, A_c (iv_eq (by first | omega | (dsimp only; done) | (dsimp only; omega))) (A_c rfl (A_c rfl (A_c rfl (A_c rfl (rfl))))), by first | omega | (dsimp only; done) | (dsimp only; omega), by first | exact hB.take (by omega) (by omega) (by omega) | exact hB.skip (by omega), hs6⟩
        · have h9' := h9
          first | replace h9' := of_decide_eq_false h9' | replace h9' := bnF' h9' | skip
          refine E0 (wanted_yesB rfl rfl rfl h9) rfl (y_move (v := vb) rfl rfl) ?_
          refine E0 (wanted_yesB rfl rfl rfl h9) rfl (y_move (v := Value.int _ _) rfl rfl) ?_
          refine E0 (wanted_yesB rfl rfl rfl h9) rfl (y_move (v := vb) rfl rfl) ?_
          refine E0 (wanted_yesB rfl rfl rfl h9) rfl (y_move (v := Value.int _ _) rfl rfl) ?_
          refine E0 (wanted_yesB rfl rfl rfl h9) rfl (y_indexSlAt rfl Try.underlying34 sz3 rfl rfl hSb (by omega) (by omega)) ?_
          refine E0 (wanted_yesB rfl rfl rfl h9) rfl (y_indexSlAt rfl Try.underlying34 sz3 rfl rfl hSb (by omega) (by omega)) ?_
          refine E1 hs6 (wanted_yesB rfl rfl rfl h9) rfl (y_loadSl i rfl Try.underlying3 rfl rfl hSb (by omega) (by omega) (by intro k hk; first | (simp [keys] at hk; done) | (simp [keys] at hk; omega))) ?_
          refine E1 hs6 (wanted_yesB rfl rfl rfl h9) rfl (y_loadSl b.toNat rfl Try.underlying3 rfl rfl hSb (by omega) (by omega) (by intro k hk; first | (simp [keys] at hk; done) | (simp [keys] at hk; omega))) ?_
          refine E0 (wanted_yesB rfl rfl rfl h9) rfl (y_lt rfl rfl rfl) ?_
          refine E0 (wanted_yesB rfl rfl rfl h8) rfl (y_pickF rfl rfl h9 rfl) ?_
          refine E0 (wanted_none rfl) rfl (y_pickT rfl rfl h8 rfl) ?_
          refine Enil ?_
          refine Wsp (t := 38) rfl (fun h10 => ?_) (fun h10 => ?_)
          · have h10' := h10
            first | replace h10' := of_decide_eq_true h10' | replace h10' := bnT' h10' | skip
            refine W_condT rfl h10 ?_
            refine W_region ?_
            refine L0 (wanted_none rfl) rfl (y_move (v := Value.int _ _) rfl rfl) ?_
            refine L0 (wanted_none rfl) rfl (y_assign (v := Value.int _ _) rfl rfl) ?_
            refine Lnil ?_
            refine W_region ?_
            refine L0 (wanted_none rfl) rfl (y_add64 rfl rfl rfl (by omega)) ?_
            refine L0 (wanted_none rfl) rfl (y_move (v := Value.int _ _) rfl rfl) ?_
            refine Lnil ?_
            exact ⟨(i + 1, _), by first | omega | ((try dsimp only); done) | ((try dsimp only); omega), _, A_c (iv_eq (by first | omega | (dsimp only; done) | (dsimp only; omega))) (A_c rfl (A_c rfl (A_c rfl (A_c rfl (rfl))))), by first | omega | (dsimp only; done) | (dsimp only; omega), by first | exact hB.take (by omega) (by omega) (by omega) | exact hB.skip (by omega), hs6⟩
          · have h10' := h10
            first | replace h10' := of_decide_eq_false h10' | replace h10' := bnF' h10' | skip
            refine W_condF rfl h10 ?_
            refine W_skip ?_
            refine W_region ?_
            refine L0 (wanted_none rfl) rfl (y_add64 rfl rfl rfl (by omega)) ?_
            refine L0 (wanted_none rfl) rfl (y_move (v := Value.int _ _) rfl rfl) ?_
            refine Lnil ?_
            exact ⟨(i + 1, _), by first | omega | ((try dsimp only); done) | ((try dsimp only); omega), _, A_c (iv_eq (by first | omega | (dsimp only; done) | (dsimp only; omega))) (A_c rfl (A_c rfl (A_c rfl (A_c rfl (rfl))))), by first | omega | (dsimp only; done) | (dsimp only; omega), by first | exact hB.take (by omega) (by omega) (by omega) | exact hB.skip (by omega), hs6⟩
      · have h8' := h8
        first | replace h8' := of_decide_eq_false h8' | replace h8' := bnF' h8' | skip
        refine Eno (wanted_noB rfl rfl rfl h8 (by decide)) rfl ?_
        refine Eno (wanted_noB rfl rfl rfl h8 (by decide)) rfl ?_
        refine Eno (wanted_noB rfl rfl rfl h8 (by decide)) rfl ?_
        refine Eno (wanted_noU rfl rfl rfl) rfl ?_
        refine Eno (wanted_noU rfl rfl rfl) rfl ?_
        refine Eno (wanted_noU rfl rfl rfl) rfl ?_
        refine Eno (wanted_noU rfl rfl rfl) rfl ?_
        refine Eno (wanted_noU rfl rfl rfl) rfl ?_
        refine Eno (wanted_noU rfl rfl rfl) rfl ?_
        refine E1no hs6 (wanted_noU rfl rfl rfl) rfl ?_
        refine E1no hs6 (wanted_noU rfl rfl rfl) rfl ?_
        refine Eno (wanted_noU rfl rfl rfl) rfl ?_
        refine Eno (wanted_noB rfl rfl rfl h8 (by decide)) rfl ?_
        refine E0 (wanted_none rfl) rfl (y_pickF rfl rfl h8 rfl) ?_
        refine Enil ?_
        refine W_condF rfl rfl ?_
        refine W_skip ?_
        refine W_region ?_
        refine L0 (wanted_none rfl) rfl (y_add64 rfl rfl rfl (by omega)) ?_
        refine L0 (wanted_none rfl) rfl (y_move (v := Value.int _ _) rfl rfl) ?_
        refine Lnil ?_
        exact ⟨(i + 1, _), by first | omega | ((try dsimp only); done) | ((try dsimp only); omega), _, A_c (iv_eq (by first | omega | (dsimp only; done) | (dsimp only; omega))) (A_c rfl (A_c rfl (A_c rfl (A_c rfl (rfl))))), by first | omega | (dsimp only; done) | (dsimp only; omega), by first | exact hB.take (by omega) (by omega) (by omega) | exact hB.skip (by omega), hs6⟩
    · have h7' := h7
      first | replace h7' := of_decide_eq_false h7' | replace h7' := bnF' h7' | skip
      refine Eno (wanted_noB rfl rfl rfl h7 (by decide)) rfl ?_
      refine Eno (wanted_noB rfl rfl rfl h7 (by decide)) rfl ?_
      refine Eno (wanted_noB rfl rfl rfl h7 (by decide)) rfl ?_
      refine Eno (wanted_noB rfl rfl rfl h7 (by decide)) rfl ?_
      refine E0 (wanted_none rfl) rfl (y_pickF rfl rfl h7 rfl) ?_
      refine E0 (wanted_none rfl) rfl (y_move (v := Value.bool _) rfl rfl) ?_
      refine Eno (wanted_noB rfl rfl rfl rfl (by decide)) rfl ?_
      refine Eno (wanted_noB rfl rfl rfl rfl (by decide)) rfl ?_
      refine Eno (wanted_noB rfl rfl rfl rfl (by decide)) rfl ?_
      refine Eno (wanted_noU rfl rfl rfl) rfl ?_
      refine Eno (wanted_noU rfl rfl rfl) rfl ?_
      refine Eno (wanted_noU rfl rfl rfl) rfl ?_
      refine Eno (wanted_noU rfl rfl rfl) rfl ?_
      refine Eno (wanted_noU rfl rfl rfl) rfl ?_
      refine Eno (wanted_noU rfl rfl rfl) rfl ?_
      refine E1no hs6 (wanted_noU rfl rfl rfl) rfl ?_
      refine E1no hs6 (wanted_noU rfl rfl rfl) rfl ?_
      refine Eno (wanted_noU rfl rfl rfl) rfl ?_
      refine Eno (wanted_noB rfl rfl rfl rfl (by decide)) rfl ?_
      refine E0 (wanted_none rfl) rfl (y_pickF rfl rfl (rfl : false = false) rfl) ?_
      refine Enil ?_
      refine W_condF rfl rfl ?_
      refine W_skip ?_
      refine W_region ?_
      refine L0 (wanted_none rfl) rfl (y_add64 rfl rfl rfl (by omega)) ?_
      refine L0 (wanted_none rfl) rfl (y_move (v := Value.int _ _) rfl rfl) ?_
      refine Lnil ?_
      exact ⟨(i + 1, _), by first | omega | ((try dsimp only); done) | ((try dsimp only); omega), _, A_c (iv_eq (by first | omega | (dsimp only; done) | (dsimp only; omega))) (A_c rfl (A_c rfl (A_c rfl (A_c rfl (rfl))))), by first | omega | (dsimp only; done) | (dsimp only; omega), by first | exact hB.take (by omega) (by omega) (by omega) | exact hB.skip (by omega), hs6⟩
  · have h4' := h4
    first | replace h4' := of_decide_eq_false h4' | replace h4' := bnF' h4' | skip
    refine W_condF rfl h4 ?_
    refine W_exit ?_
    refine W_seq ?_
    refine W_region ?_
    refine L0 (wanted_none rfl) rfl (y_move (v := Value.int _ _) rfl rfl) ?_
    refine L0 (wanted_none rfl) rfl (y_max rfl rfl rfl) ?_
    refine L0 (wanted_none rfl) rfl (y_move (v := Value.int _ _) rfl rfl) ?_
    refine L0 (wanted_none rfl) rfl (y_ge rfl rfl rfl) ?_
    refine L0 (wanted_none rfl) rfl (y_assign (v := Value.int _ _) rfl rfl) ?_
    refine L0 (wanted_none rfl) rfl (y_assign (v := Value.bool _) rfl rfl) ?_
    refine Lnil ?_
    refine W_ret ?_
    refine fin2 (fn := Try.f32) rfl rfl rfl ?_
    obtain rfl : i = l.length := by omega
    exact ⟨⟨b, hB, rfl⟩, hs3⟩
theorem rvictim_any (l v : List Int) (va vb : Value) (hl : l.length ≤ 1000) (hl2 : v.length ≤ 1000) (w : World) (hSa : Sl w va l.length (nums l)) (hSb : Sl w vb v.length (nums v)) :
    C Try.prog 31 ⟨[va, vb]⟩ w fun r w' => (∃ b, Best l v 0 l.length b ∧ r = .tuple #[iv (max b 0), .bool (decide (0 ≤ b))]) ∧ St w [] w' := by
  refine C_enter (n := 45) Try.func31 rfl rfl rfl (fun w1 hs1 => ?_)
  refine W_seq ?_
  refine W_region ?_
  refine L0 (wanted_none rfl) rfl (y_assign (v := Value.int _ _) rfl rfl) ?_
  refine L0 (wanted_none rfl) rfl (y_assign (v := Value.bool _) rfl rfl) ?_
  refine Lnil ?_
  refine W_seq ?_
  refine W_region ?_
  refine L0 (wanted_none rfl) rfl (y_assign (v := Value.int _ _) rfl rfl) ?_
  refine L0 (wanted_none rfl) rfl (y_assign (v := Value.bool _) rfl rfl) ?_
  refine Lnil ?_
  refine W_seq ?_
  refine W_seq ?_
  refine W_region ?_
  refine L0 (wanted_none rfl) rfl (y_move (v := va) rfl rfl) ?_
  refine L0 (wanted_none rfl) rfl (y_slenSl rfl Try.underlying34 rfl hSa) ?_
  refine L0 (wanted_none rfl) rfl (y_sub64 rfl rfl rfl (by omega)) ?_
  refine L0 (wanted_none rfl) rfl (y_assign (v := Value.int _ _) rfl rfl) ?_
  refine Lnil ?_
  refine W_block ?_
  refine W_loop (G := Nat × Int) (fun g aL wl => ∃ e, aL = A 45 ((8, iv ((g.1 : Int) - 1)) :: (6, iv (max g.2 0)) :: (7, .bool (decide (0 ≤ g.2))) :: (0, va) :: (1, vb) :: e) ∧ g.1 ≤ l.length ∧ Best l v g.1 l.length g.2 ∧ St w [] wl) (fun g => g.1) ((l.length, -1)) ?_ ?_
  · exact ⟨_, A_pins _ _ [8, 6, 7, 0, 1], Nat.le_refl _, Best.none l v l.length, hs1⟩
  rintro g _ w2 ⟨ehs3, rfl, hi, hB, hs3⟩
  obtain ⟨n, b⟩ := g
  dsimp only at *
  have hge := hB.ge
  have hlt : 0 ≤ b → b < v.length ∧ b < l.length := fun h => hB.lt h
  refine W_seq ?_
  refine W_seq ?_
  refine W_region ?_
  refine L0 (wanted_none rfl) rfl (y_move (v := Value.int _ _) rfl rfl) ?_
  refine L0 (wanted_none rfl) rfl (y_ge rfl rfl rfl) ?_
  refine Lnil ?_
  refine Wsp (t := 13) rfl (fun h4 => ?_) (fun h4 => ?_)
  · have h4' := h4
    first | replace h4' := of_decide_eq_true h4' | replace h4' := bnT' h4' | skip
    refine W_condT rfl h4 ?_
    refine W_skip ?_
    refine W_seq ?_
    refine W_block ?_
    refine W_seq ?_
    obtain ⟨i, rfl⟩ : ∃ i : Nat, n = i + 1 := ⟨n - 1, by omega⟩
    rw [show (((i + 1 : Nat) : Int) - 1) = (i : Int) from by omega]
    refine W_drawSt [(0, 0), (0, 1), (0, 2), (0, 3), (0, 4), (0, 5), (0, 6), (0, 7), (1, 8), (0, 9), (0, 10), (0, 11), (0, 12), (0, 13), (0, 14), (0, 15), (0, 16), (0, 19), (0, 20), (0, 17), (0, 21), (1, 18), (1, 22), (0, 23), (0, 24), (0, 25)] hs3 mixed (by kernel_rfl) (fun w5 hs6 => ?_)
    refine E0 (wanted_none rfl) rfl (y_move (v := Value.int _ _) rfl rfl) ?_
    refine E0 (wanted_none rfl) rfl (y_move (v := vb) rfl rfl) ?_
    refine E0 (wanted_none rfl) rfl (y_slenSl rfl Try.underlying34 rfl hSb) ?_
    refine E0 (wanted_none rfl) rfl (y_lt rfl rfl rfl) ?_
    refine E0 (wanted_none rfl) rfl (y_move (v := Value.bool _) rfl rfl) ?_
    refine Esp (t := 20) rfl (fun h7 => ?_) (fun h7 => ?_)
    · have h7' := h7
      first | replace h7' := of_decide_eq_true h7' | replace h7' := bnT' h7' | skip
      refine E0 (wanted_yesB rfl rfl rfl h7) rfl (y_move (v := va) rfl rfl) ?_
      refine E0 (wanted_yesB rfl rfl rfl h7) rfl (y_move (v := Value.int _ _) rfl rfl) ?_
      refine E0 (wanted_yesB rfl rfl rfl h7) rfl (y_indexSlAt rfl Try.underlying34 sz3 rfl rfl hSa (by omega) (by omega)) ?_
      refine E1 hs6 (wanted_yesB rfl rfl rfl h7) rfl (y_loadSl i rfl Try.underlying3 rfl rfl hSa (by omega) (by omega) (by intro k hk; first | (simp [keys] at hk; done) | (simp [keys] at hk; omega))) ?_
      refine E0 (wanted_yesB rfl rfl rfl h7) rfl (y_ge rfl rfl rfl) ?_
      refine E0 (wanted_none rfl) rfl (y_pickT rfl rfl h7 rfl) ?_
      refine E0 (wanted_none rfl) rfl (y_move (v := Value.bool _) rfl rfl) ?_
      refine Esp (t := 27) rfl (fun h8 => ?_) (fun h8 => ?_)
      · have h8' := h8
        first | replace h8' := of_decide_eq_true h8' | replace h8' := bnT' h8' | skip
        refine E0 (wanted_yesB rfl rfl rfl h8) rfl (y_move (v := Value.bool _) rfl rfl) ?_
        refine E0 (wanted_yesB rfl rfl rfl h8) rfl (y_not rfl rfl) ?_
        refine E0 (wanted_yesB rfl rfl rfl h8) rfl (y_move (v := Value.bool _) rfl rfl) ?_
        refine Esp (t := 30) rfl (fun h9 => ?_) (fun h9 => ?_)
        · have h9' := h9
          first | replace h9' := of_decide_eq_true h9' | replace h9' := bnT' h9' | skip
          refine Eno (wanted_noB rfl rfl rfl h9 (by decide)) rfl ?_
          refine Eno (wanted_noB rfl rfl rfl h9 (by decide)) rfl ?_
          refine Eno (wanted_noB rfl rfl rfl h9 (by decide)) rfl ?_
          refine Eno (wanted_noB rfl rfl rfl h9 (by decide)) rfl ?_
          refine Eno (wanted_noB rfl rfl rfl h9 (by decide)) rfl ?_
          refine Eno (wanted_noB rfl rfl rfl h9 (by decide)) rfl ?_
          refine E1no hs6 (wanted_noB rfl rfl rfl h9 (by decide)) rfl ?_
          refine E1no hs6 (wanted_noB rfl rfl rfl h9 (by decide)) rfl ?_
          refine Eno (wanted_noB rfl rfl rfl h9 (by decide)) rfl ?_
          refine E0 (wanted_yesB rfl rfl rfl h8) rfl (y_pickT rfl rfl h9 rfl) ?_
          refine E0 (wanted_none rfl) rfl (y_pickT rfl rfl h8 rfl) ?_
          refine Enil ?_
          refine W_condT rfl rfl ?_
          refine W_region ?_
          refine L0 (wanted_none rfl) rfl (y_move (v := Value.int _ _) rfl rfl) ?_
          refine L0 (wanted_none rfl) rfl (y_assign (v := Value.int _ _) rfl rfl) ?_
          refine L0 (wanted_none rfl) rfl (y_assign (v := Value.bool _) rfl rfl) ?_
          refine Lnil ?_
          refine W_region ?_
          refine L0 (wanted_none rfl) rfl (y_move (v := Value.int _ _) rfl rfl) ?_
          refine L0 (wanted_none rfl) rfl (y_sub64 rfl rfl rfl (by omega)) ?_
          refine L0 (wanted_none rfl) rfl (y_assign (v := Value.int _ _) rfl rfl) ?_
          refine Lnil ?_
          exact ⟨(i, (i : Int)), by first | omega | ((try dsimp only); done) | ((try dsimp only); omega), _, A_c (iv_eq (by first | omega | (dsimp only; done) | (dsimp only; omega))) (A_c (by first | rfl | exact iv_eq (by omega)) (A_c (by first | rfl | exact congrArg Value.bool (decide_eq_true (by omega)).symm) (A_c rfl (A_c rfl (rfl))))), by first | omega | (dsimp only; done) | (dsimp only; omega), hB.takeR (by omega) (by omega) (by omega) (by omega), hs6⟩
        · have h9' := h9
          first | replace h9' := of_decide_eq_false h9' | replace h9' := bnF' h9' | skip
          refine E0 (wanted_yesB rfl rfl rfl h9) rfl (y_move (v := vb) rfl rfl) ?_
          refine E0 (wanted_yesB rfl rfl rfl h9) rfl (y_move (v := Value.int _ _) rfl rfl) ?_
          refine E0 (wanted_yesB rfl rfl rfl h9) rfl (y_move (v := vb) rfl rfl) ?_
          refine E0 (wanted_yesB rfl rfl rfl h9) rfl (y_move (v := Value.int _ _) rfl rfl) ?_
          refine E0 (wanted_yesB rfl rfl rfl h9) rfl (y_indexSlAt rfl Try.underlying34 sz3 rfl rfl hSb (by omega) (by omega)) ?_
          refine E0 (wanted_yesB rfl rfl rfl h9) rfl (y_indexSlAt rfl Try.underlying34 sz3 rfl rfl hSb (by omega) (by omega)) ?_
          refine E1 hs6 (wanted_yesB rfl rfl rfl h9) rfl (y_loadSl i rfl Try.underlying3 rfl rfl hSb (by omega) (by omega) (by intro k hk; first | (simp [keys] at hk; done) | (simp [keys] at hk; omega))) ?_
          refine E1 hs6 (wanted_yesB rfl rfl rfl h9) rfl (y_loadSl (max b 0).toNat rfl Try.underlying3 rfl rfl hSb (by omega) (by omega) (by intro k hk; first | (simp [keys] at hk; done) | (simp [keys] at hk; omega))) ?_
          refine E0 (wanted_yesB rfl rfl rfl h9) rfl (y_le rfl rfl rfl) ?_
          refine E0 (wanted_yesB rfl rfl rfl h8) rfl (y_pickF rfl rfl h9 rfl) ?_
          refine E0 (wanted_none rfl) rfl (y_pickT rfl rfl h8 rfl) ?_
          refine Enil ?_
          refine Wsp (t := 41) rfl (fun h10 => ?_) (fun h10 => ?_)
          · have h10' := h10
            first | replace h10' := of_decide_eq_true h10' | replace h10' := bnT' h10' | skip
            refine W_condT rfl h10 ?_
            refine W_region ?_
            refine L0 (wanted_none rfl) rfl (y_move (v := Value.int _ _) rfl rfl) ?_
            refine L0 (wanted_none rfl) rfl (y_assign (v := Value.int _ _) rfl rfl) ?_
            refine L0 (wanted_none rfl) rfl (y_assign (v := Value.bool _) rfl rfl) ?_
            refine Lnil ?_
            refine W_region ?_
            refine L0 (wanted_none rfl) rfl (y_move (v := Value.int _ _) rfl rfl) ?_
            refine L0 (wanted_none rfl) rfl (y_sub64 rfl rfl rfl (by omega)) ?_
            refine L0 (wanted_none rfl) rfl (y_assign (v := Value.int _ _) rfl rfl) ?_
            refine Lnil ?_
            exact ⟨(i, (i : Int)), by first | omega | ((try dsimp only); done) | ((try dsimp only); omega), _, A_c (iv_eq (by first | omega | (dsimp only; done) | (dsimp only; omega))) (A_c (by first | rfl | exact iv_eq (by omega)) (A_c (by first | rfl | exact congrArg Value.bool (decide_eq_true (by omega)).symm) (A_c rfl (A_c rfl (rfl))))), by first | omega | (dsimp only; done) | (dsimp only; omega), hB.takeR (by omega) (by omega) (by omega) (by omega), hs6⟩
          · have h10' := h10
            first | replace h10' := of_decide_eq_false h10' | replace h10' := bnF' h10' | skip
            refine W_condF rfl h10 ?_
            refine W_skip ?_
            refine W_region ?_
            refine L0 (wanted_none rfl) rfl (y_move (v := Value.int _ _) rfl rfl) ?_
            refine L0 (wanted_none rfl) rfl (y_sub64 rfl rfl rfl (by omega)) ?_
            refine L0 (wanted_none rfl) rfl (y_assign (v := Value.int _ _) rfl rfl) ?_
            refine Lnil ?_
            exact ⟨(i, b), by first | omega | ((try dsimp only); done) | ((try dsimp only); omega), _, A_c (iv_eq (by first | omega | (dsimp only; done) | (dsimp only; omega))) (A_c (by first | rfl | exact iv_eq (by omega)) (A_c (by first | rfl | exact congrArg Value.bool (decide_eq_true (by omega)).symm) (A_c rfl (A_c rfl (rfl))))), by first | omega | (dsimp only; done) | (dsimp only; omega), hB.skipR (by omega), hs6⟩
      · have h8' := h8
        first | replace h8' := of_decide_eq_false h8' | replace h8' := bnF' h8' | skip
        refine Eno (wanted_noB rfl rfl rfl h8 (by decide)) rfl ?_
        refine Eno (wanted_noB rfl rfl rfl h8 (by decide)) rfl ?_
        refine Eno (wanted_noB rfl rfl rfl h8 (by decide)) rfl ?_
        refine Eno (wanted_noU rfl rfl rfl) rfl ?_
        refine Eno (wanted_noU rfl rfl rfl) rfl ?_
        refine Eno (wanted_noU rfl rfl rfl) rfl ?_
        refine Eno (wanted_noU rfl rfl rfl) rfl ?_
        refine Eno (wanted_noU rfl rfl rfl) rfl ?_
        refine Eno (wanted_noU rfl rfl rfl) rfl ?_
        refine E1no hs6 (wanted_noU rfl rfl rfl) rfl ?_
        refine E1no hs6 (wanted_noU rfl rfl rfl) rfl ?_
        refine Eno (wanted_noU rfl rfl rfl) rfl ?_
        refine Eno (wanted_noB rfl rfl rfl h8 (by decide)) rfl ?_
        refine E0 (wanted_none rfl) rfl (y_pickF rfl rfl h8 rfl) ?_
        refine Enil ?_
        refine W_condF rfl rfl ?_
        refine W_skip ?_
        refine W_region ?_
        refine L0 (wanted_none rfl) rfl (y_move (v := Value.int _ _) rfl rfl) ?_
        refine L0 (wanted_none rfl) rfl (y_sub64 rfl rfl rfl (by omega)) ?_
        refine L0 (wanted_none rfl) rfl (y_assign (v := Value.int _ _) rfl rfl) ?_
        refine Lnil ?_
        exact ⟨(i, b), by first | omega | ((try dsimp only); done) | ((try dsimp only); omega), _, A_c (iv_eq (by first | omega | (dsimp only; done) | (dsimp only; omega))) (A_c (by first | rfl | exact iv_eq (by omega)) (A_c (by first | rfl | exact congrArg Value.bool (decide_eq_true (by omega)).symm) (A_c rfl (A_c rfl (rfl))))), by first | omega | (dsimp only; done) | (dsimp only; omega), hB.skipR (by omega), hs6⟩
    · have h7' := h7
      first | replace h7' := of_decide_eq_false h7' | replace h7' := bnF' h7' | skip
      refine Eno (wanted_noB rfl rfl rfl h7 (by decide)) rfl ?_
      refine Eno (wanted_noB rfl rfl rfl h7 (by decide)) rfl ?_
      refine Eno (wanted_noB rfl rfl rfl h7 (by decide)) rfl ?_
      refine E1no hs6 (wanted_noB rfl rfl rfl h7 (by decide)) rfl ?_
      refine Eno (wanted_noB rfl rfl rfl h7 (by decide)) rfl ?_
      refine E0 (wanted_none rfl) rfl (y_pickF rfl rfl h7 rfl) ?_
      refine E0 (wanted_none rfl) rfl (y_move (v := Value.bool _) rfl rfl) ?_
      refine Eno (wanted_noB rfl rfl rfl rfl (by decide)) rfl ?_
      refine Eno (wanted_noB rfl rfl rfl rfl (by decide)) rfl ?_
      refine Eno (wanted_noB rfl rfl rfl rfl (by decide)) rfl ?_
      refine Eno (wanted_noU rfl rfl rfl) rfl ?_
      refine Eno (wanted_noU rfl rfl rfl) rfl ?_
      refine Eno (wanted_noU rfl rfl rfl) rfl ?_
      refine Eno (wanted_noU rfl rfl rfl) rfl ?_
      refine Eno (wanted_noU rfl rfl rfl) rfl ?_
      refine Eno (wanted_noU rfl rfl rfl) rfl ?_
      refine E1no hs6 (wanted_noU rfl rfl rfl) rfl ?_
      refine E1no hs6 (wanted_noU rfl rfl rfl) rfl ?_
      refine Eno (wanted_noU rfl rfl rfl) rfl ?_
      refine Eno (wanted_noB rfl rfl rfl rfl (by decide)) rfl ?_
      refine E0 (wanted_none rfl) rfl (y_pickF rfl rfl (rfl : false = false) rfl) ?_
      refine Enil ?_
      refine W_condF rfl rfl ?_
      refine W_skip ?_
      refine W_region ?_
      refine L0 (wanted_none rfl) rfl (y_move (v := Value.int _ _) rfl rfl) ?_
      refine L0 (wanted_none rfl) rfl (y_sub64 rfl rfl rfl (by omega)) ?_
      refine L0 (wanted_none rfl) rfl (y_assign (v := Value.int _ _) rfl rfl) ?_
      refine Lnil ?_
      exact ⟨(i, b), by first | omega | ((try dsimp only); done) | ((try dsimp only); omega), _, A_c (iv_eq (by first | omega | (dsimp only; done) | (dsimp only; omega))) (A_c (by first | rfl | exact iv_eq (by omega)) (A_c (by first | rfl | exact congrArg Value.bool (decide_eq_true (by omega)).symm) (A_c rfl (A_c rfl (rfl))))), by first | omega | (dsimp only; done) | (dsimp only; omega), hB.skipR (by omega), hs6⟩
  · have h4' := h4
    first | replace h4' := of_decide_eq_false h4' | replace h4' := bnF' h4' | skip
    refine W_condF rfl h4 ?_
    refine W_exit ?_
    refine W_seq ?_
    refine W_region ?_
    refine L0 (wanted_none rfl) rfl (y_move (v := Value.int _ _) rfl rfl) ?_
    refine L0 (wanted_none rfl) rfl (y_move (v := Value.bool _) rfl rfl) ?_
    refine L0 (wanted_none rfl) rfl (y_assign (v := Value.int _ _) rfl rfl) ?_
    refine L0 (wanted_none rfl) rfl (y_assign (v := Value.bool _) rfl rfl) ?_
    refine Lnil ?_
    refine W_ret ?_
    refine fin2 (fn := Try.f31) rfl rfl rfl ?_
    obtain rfl : n = 0 := by omega
    exact ⟨⟨b, hB, rfl⟩, hs3⟩
end Go.Proofs.Ytkolfgmpmnelmaa

/-
  Walks: keep.MeterRises, and its plain law.
-/
import Derived.Test.YtkolfgmpmnelmaaDoorM1
namespace Go.Proofs.YtkolfgmpmnelmaaDoor
open Go Vx Go.Proofs
set_option linter.unusedVariables false
set_option maxRecDepth 4000
set_option maxHeartbeats 1000000

@[reducible] def ints (l : List Int) (j : Nat) : Value := iv (l.getD j 0)
theorem bneF {a b : Bool} (h : a = b) : (!(a == b)) = false := by subst h; simp
def maxTo (l : List Int) : Nat → Int
  | 0 => 0
  | i + 1 => max (maxTo l i) (l.getD i 0)
def useOf (b : Bool) : UInt8 := if b then 116 else 98
def wordOf (b : Bool) : List UInt8 := if b then tablesW else blocksW
theorem rises_long (l : List Int) (s t : List UInt8) (b1 b2 : Bool) (va : Value) (h : 60 < l.length ∨ 40 < s.length ∨ 40 < t.length) (w : World) (hSa : Sl w va l.length (ints l)) :
    C Tryd.prog 5 ⟨[va, str s, str t, .bool b1, .bool b2]⟩ w fun v w' => v = .bool true ∧ St w [] w' := by
  refine C_enter (n := 125) Tryd.func5 rfl rfl rfl (fun w1 hs1 => ?_)
  refine W_seq ?_
  refine W_region ?_
  refine L0 (wanted_none rfl) rfl (y_assign (v := Value.bool _) rfl rfl) ?_
  refine Lnil ?_
  refine W_seq ?_
  refine W_seq ?_
  refine W_region ?_
  refine L0 (wanted_none rfl) rfl (y_move (v := va) rfl rfl) ?_
  refine L0 (wanted_none rfl) rfl (y_slenSl rfl Tryd.underlying42 rfl hSa) ?_
  refine L0 (wanted_none rfl) rfl (y_gt rfl rfl rfl) ?_
  refine L0 (wanted_none rfl) rfl (y_move (v := Value.bool _) rfl rfl) ?_
  refine Lsp (t := 24) rfl (fun h2 => ?_) (fun h2 => ?_)
  · have h2' := h2
    first | replace h2' := of_decide_eq_true h2' | replace h2' := bnT' h2' | skip
    refine Lno (wanted_noB rfl rfl rfl h2 (by decide)) rfl ?_
    refine Lno (wanted_noB rfl rfl rfl h2 (by decide)) rfl ?_
    refine Lno (wanted_noB rfl rfl rfl h2 (by decide)) rfl ?_
    refine L0 (wanted_none rfl) rfl (y_pickT rfl rfl h2 rfl) ?_
    refine L0 (wanted_none rfl) rfl (y_move (v := Value.bool _) rfl rfl) ?_
    refine Lno (wanted_noB rfl rfl rfl rfl (by decide)) rfl ?_
    refine Lno (wanted_noB rfl rfl rfl rfl (by decide)) rfl ?_
    refine Lno (wanted_noB rfl rfl rfl rfl (by decide)) rfl ?_
    refine L0 (wanted_none rfl) rfl (y_pickT rfl rfl (rfl : true = true) rfl) ?_
    refine Lnil ?_
    refine W_condT rfl rfl ?_
    refine W_seq ?_
    refine W_region ?_
    refine L0 (wanted_none rfl) rfl (y_assign (v := Value.bool _) rfl rfl) ?_
    refine Lnil ?_
    refine W_ret ?_
    refine fin1 (fn := Tryd.f5) rfl rfl ?_
    exact ⟨rfl, hs1⟩
  · have h2' := h2
    first | replace h2' := of_decide_eq_false h2' | replace h2' := bnF' h2' | skip
    refine L0 (wanted_yesB rfl rfl rfl h2) rfl (y_move (v := Value.string ⟨⟨_⟩⟩) rfl rfl) ?_
    refine L0 (wanted_yesB rfl rfl rfl h2) rfl (y_len rfl Tryd.underlying9 rfl) ?_
    refine L0 (wanted_yesB rfl rfl rfl h2) rfl (y_gt rfl rfl rfl) ?_
    refine L0 (wanted_none rfl) rfl (y_pickF rfl rfl h2 rfl) ?_
    refine L0 (wanted_none rfl) rfl (y_move (v := Value.bool _) rfl rfl) ?_
    refine Lsp (t := 29) rfl (fun h3 => ?_) (fun h3 => ?_)
    · have h3' := h3
      first | replace h3' := of_decide_eq_true h3' | replace h3' := bnT' h3' | skip
      refine Lno (wanted_noB rfl rfl rfl h3 (by decide)) rfl ?_
      refine Lno (wanted_noB rfl rfl rfl h3 (by decide)) rfl ?_
      refine Lno (wanted_noB rfl rfl rfl h3 (by decide)) rfl ?_
      refine L0 (wanted_none rfl) rfl (y_pickT rfl rfl h3 rfl) ?_
      refine Lnil ?_
      refine W_condT rfl rfl ?_
      refine W_seq ?_
      refine W_region ?_
      refine L0 (wanted_none rfl) rfl (y_assign (v := Value.bool _) rfl rfl) ?_
      refine Lnil ?_
      refine W_ret ?_
      refine fin1 (fn := Tryd.f5) rfl rfl ?_
      exact ⟨rfl, hs1⟩
    · have h3' := h3
      first | replace h3' := of_decide_eq_false h3' | replace h3' := bnF' h3' | skip
      refine L0 (wanted_yesB rfl rfl rfl h3) rfl (y_move (v := Value.string ⟨⟨_⟩⟩) rfl rfl) ?_
      refine L0 (wanted_yesB rfl rfl rfl h3) rfl (y_len rfl Tryd.underlying9 rfl) ?_
      refine L0 (wanted_yesB rfl rfl rfl h3) rfl (y_gt rfl rfl rfl) ?_
      refine L0 (wanted_none rfl) rfl (y_pickF rfl rfl h3 rfl) ?_
      refine Lnil ?_
      refine Wkn (t := 33) (b0 := true) rfl (by first | exact decide_eq_true (by omega) | exact bnT (by omega) | (simp; omega)) (fun h4 => ?_)
      refine W_condT rfl h4 ?_
      refine W_seq ?_
      refine W_region ?_
      refine L0 (wanted_none rfl) rfl (y_assign (v := Value.bool _) rfl rfl) ?_
      refine Lnil ?_
      refine W_ret ?_
      refine fin1 (fn := Tryd.f5) rfl rfl ?_
      exact ⟨rfl, hs1⟩
theorem rises_any (l : List Int) (s t : List UInt8) (b1 b2 : Bool) (va : Value) (l1 : l.length ≤ 60) (l2 : s.length ≤ 40) (l3 : t.length ≤ 40) (w : World) (hr : RoundsAt w) (he : ErrAt w) (hSa : Sl w va l.length (ints l)) :
    C Tryd.prog 5 ⟨[va, str s, str t, .bool b1, .bool b2]⟩ w fun v w' => v = .bool true ∧ St w [] w' := by
  refine C_enter (n := 125) Tryd.func5 rfl rfl rfl (fun w1 hs1 => ?_)
  refine W_seq ?_
  refine W_region ?_
  refine L0 (wanted_none rfl) rfl (y_assign (v := Value.bool _) rfl rfl) ?_
  refine Lnil ?_
  refine W_seq ?_
  refine W_seq ?_
  refine W_region ?_
  refine L0 (wanted_none rfl) rfl (y_move (v := va) rfl rfl) ?_
  refine L0 (wanted_none rfl) rfl (y_slenSl rfl Tryd.underlying42 rfl hSa) ?_
  refine L0 (wanted_none rfl) rfl (y_gt rfl rfl rfl) ?_
  refine L0 (wanted_none rfl) rfl (y_move (v := Value.bool _) rfl rfl) ?_
  refine Lkn (t := 24) (b0 := false) rfl (by first | exact decide_eq_false (by omega) | exact bnF (by omega) | (simp; omega)) (fun h2 => ?_)
  refine L0 (wanted_yesB rfl rfl rfl h2) rfl (y_move (v := Value.string ⟨⟨_⟩⟩) rfl rfl) ?_
  refine L0 (wanted_yesB rfl rfl rfl h2) rfl (y_len rfl Tryd.underlying9 rfl) ?_
  refine L0 (wanted_yesB rfl rfl rfl h2) rfl (y_gt rfl rfl rfl) ?_
  refine L0 (wanted_none rfl) rfl (y_pickF rfl rfl h2 rfl) ?_
  refine L0 (wanted_none rfl) rfl (y_move (v := Value.bool _) rfl rfl) ?_
  refine Lkn (t := 29) (b0 := false) rfl (by first | exact decide_eq_false (by omega) | exact bnF (by omega) | (simp; omega)) (fun h3 => ?_)
  refine L0 (wanted_yesB rfl rfl rfl h3) rfl (y_move (v := Value.string ⟨⟨_⟩⟩) rfl rfl) ?_
  refine L0 (wanted_yesB rfl rfl rfl h3) rfl (y_len rfl Tryd.underlying9 rfl) ?_
  refine L0 (wanted_yesB rfl rfl rfl h3) rfl (y_gt rfl rfl rfl) ?_
  refine L0 (wanted_none rfl) rfl (y_pickF rfl rfl h3 rfl) ?_
  refine Lnil ?_
  refine Wkn (t := 33) (b0 := false) rfl (by first | exact decide_eq_false (by omega) | exact bnF (by omega) | (simp; omega)) (fun h4 => ?_)
  refine W_condF rfl h4 ?_
  refine W_skip ?_
  refine W_seq ?_
  refine W_seq ?_
  refine W_region ?_
  refine Lc (wanted_none rfl) (c_call rfl rfl rfl Tryd.func12 (by kernel_rfl) rfl (summed_any w1 (hr.keep hs1 (by simp [keys]))) rfl ?_)
  rintro _ w5 ⟨rfl, hc6⟩
  have hs7 := hs1.call0 hc6
  refine L0 (wanted_none rfl) rfl (y_not rfl rfl) ?_
  refine Lnil ?_
  refine Wkn (t := 35) (b0 := false) rfl (by rfl) (fun h8 => ?_)
  refine W_condF rfl h8 ?_
  refine W_skip ?_
  refine W_seq ?_
  refine W_region ?_
  refine Lc (wanted_none rfl) (c_alloc hs7 rfl rfl zr44 (fun b9 w10 hbb9 hs11 => ?_))
  refine Lnil ?_
  refine W_seq ?_
  refine W_region ?_
  refine L0 (wanted_none rfl) rfl (y_assign (v := Value.int _ _) rfl rfl) ?_
  refine Lnil ?_
  refine W_seq ?_
  refine W_seq ?_
  refine W_region ?_
  refine L0 (wanted_none rfl) rfl (y_assign (v := Value.int _ _) rfl rfl) ?_
  refine Lnil ?_
  refine W_block ?_
  refine W_loop (G := Nat) (fun i aL wl => ∃ e, aL = A 125 ((13, iv i) :: (12, iv (maxTo l i)) :: (11, pv b9 0) :: (0, va) :: (1, str s) :: (2, str t) :: (3, .bool b1) :: (4, .bool b2) :: e) ∧ i ≤ l.length ∧ St w [(b9, .cells #[iv (maxTo l i)] 44 (0, 0))] wl) (fun i => l.length - i) (0) ?_ ?_
  · exact ⟨_, A_pins _ _ [13, 12, 11, 0, 1, 2, 3, 4], by omega, hs11⟩
  rintro i _ w12 ⟨ehs13, rfl, hi, hs13⟩
  refine W_seq ?_
  refine W_seq ?_
  refine W_region ?_
  refine L0 (wanted_none rfl) rfl (y_move (v := Value.int _ _) rfl rfl) ?_
  refine L0 (wanted_none rfl) rfl (y_move (v := va) rfl rfl) ?_
  refine L0 (wanted_none rfl) rfl (y_slenSl rfl Tryd.underlying42 rfl hSa) ?_
  refine L0 (wanted_none rfl) rfl (y_lt rfl rfl rfl) ?_
  refine Lnil ?_
  refine Wsp (t := 39) rfl (fun h14 => ?_) (fun h14 => ?_)
  · have h14' := h14
    first | replace h14' := of_decide_eq_true h14' | replace h14' := bnT' h14' | skip
    refine W_condT rfl h14 ?_
    refine W_skip ?_
    refine W_seq ?_
    refine W_block ?_
    refine W_seq ?_
    by_cases hsp : l.getD i 0 ≤ maxTo l i
    · skip
      refine W_region ?_
      refine L0 (wanted_none rfl) rfl (y_move (v := va) rfl rfl) ?_
      refine L0 (wanted_none rfl) rfl (y_move (v := Value.int _ _) rfl rfl) ?_
      refine L0 (wanted_none rfl) rfl (y_indexSlAt rfl Tryd.underlying42 sz3 rfl rfl hSa (by omega) (by omega)) ?_
      refine L1 (wanted_none rfl) rfl hs13 (y_loadSl i rfl Tryd.underlying3 rfl rfl hSa (by omega) (by omega) (by have := hbb9; intro k hk; simp [keys] at hk; omega)) ?_
      refine Lc (wanted_none rfl) (c_call rfl rfl rfl Tryd.func23 (by kernel_rfl) rfl (raise_no b9 _ _ hsp w12 (hs13.get 0 rfl)) rfl ?_)
      rintro _ w15 ⟨rfl, hc16⟩
      have hs17 := hs13.call1 0 rfl hc16
      refine L0 (wanted_none rfl) rfl (y_assign (v := _) rfl rfl) ?_
      refine Lnil ?_
      refine W_seq ?_
      refine W_seq ?_
      refine W_drawSt [(0, 0), (0, 2), (0, 3), (0, 6), (0, 1), (0, 4), (1, 5), (0, 7), (0, 8), (0, 9), (0, 10), (0, 11), (0, 12), (0, 13), (3, 14), (0, 15), (0, 16), (0, 17)] hs17 mixed (by kernel_rfl) (fun w18 hs19 => ?_)
      refine E0 (wanted_none rfl) rfl (y_move (v := _) rfl rfl) ?_
      refine E0 (wanted_none rfl) rfl (y_move (v := va) rfl rfl) ?_
      refine E0 (wanted_none rfl) rfl (y_move (v := Value.int _ _) rfl rfl) ?_
      refine E0 (wanted_none rfl) rfl (y_move (v := Value.int _ _) rfl rfl) ?_
      refine E0 (wanted_none rfl) rfl (y_eqNil rfl Tryd.underlying35 rfl) ?_
      refine E0 (wanted_none rfl) rfl (y_indexSlAt rfl Tryd.underlying42 sz3 rfl rfl hSa (by omega) (by omega)) ?_
      refine E1 hs19 (wanted_none rfl) rfl (y_loadSl i rfl Tryd.underlying3 rfl rfl hSa (by omega) (by omega) (by have := hbb9; intro k hk; simp [keys] at hk; omega)) ?_
      refine E0 (wanted_none rfl) rfl (y_gt rfl rfl rfl) ?_
      refine E0 (wanted_none rfl) rfl (y_bne rfl Tryd.underlying4 rfl rfl) ?_
      refine E0 (wanted_none rfl) rfl (y_move (v := Value.bool _) rfl rfl) ?_
      refine Ekn (t := 56) (b0 := false) rfl (by exact bneF (decide_eq_false (by omega)).symm) (fun h20 => ?_)
      refine E0 (wanted_yesB rfl rfl rfl h20) rfl (y_move (v := _) rfl rfl) ?_
      refine E0 (wanted_yesB rfl rfl rfl h20) rfl (y_neNil rfl Tryd.underlying35 rfl) ?_
      refine E0 (wanted_yesB rfl rfl rfl h20) rfl (y_move (v := Value.bool _) rfl rfl) ?_
      refine E0 (wanted_yesB rfl rfl rfl rfl) rfl (y_move (v := _) rfl rfl) ?_
      refine E3 (wanted_yesB rfl rfl rfl rfl) (c_call rfl rfl rfl Tryd.func24 (by kernel_rfl) rfl (tell_errno 10 w18 (he.keep hs19 (by have := hbb9; have := he.lt; simp [keys]; omega))) rfl ?_)
      rintro _ w21 ⟨rfl, hc22⟩
      have hs23 := hs19.call0 hc22
      refine ⟨fun _ => hs23, ?_⟩
      refine E0 (wanted_yesB rfl rfl rfl rfl) rfl (y_ne rfl rfl rfl) ?_
      refine E0 (wanted_yesB rfl rfl rfl h20) rfl (y_pickT rfl rfl (rfl : true = true) rfl) ?_
      refine E0 (wanted_none rfl) rfl (y_pickF rfl rfl h20 rfl) ?_
      refine Enil ?_
      refine Wkn (t := 64) (b0 := false) rfl (by first | exact decide_eq_false (by omega) | exact bnF (by omega) | (simp; omega)) (fun h24 => ?_)
      refine W_condF rfl h24 ?_
      refine W_skip ?_
      refine W_seq ?_
      refine W_region ?_
      refine L0 (wanted_none rfl) rfl (y_move (v := Value.int _ _) rfl rfl) ?_
      refine L0 (wanted_none rfl) rfl (y_move (v := va) rfl rfl) ?_
      refine L0 (wanted_none rfl) rfl (y_move (v := Value.int _ _) rfl rfl) ?_
      refine L0 (wanted_none rfl) rfl (y_indexSlAt rfl Tryd.underlying42 sz3 rfl rfl hSa (by omega) (by omega)) ?_
      refine L1 (wanted_none rfl) rfl hs23 (y_loadSl i rfl Tryd.underlying3 rfl rfl hSa (by omega) (by omega) (by have := hbb9; intro k hk; simp [keys] at hk; omega)) ?_
      refine L0 (wanted_none rfl) rfl (y_max rfl rfl rfl) ?_
      refine L0 (wanted_none rfl) rfl (y_assign (v := Value.int _ _) rfl rfl) ?_
      refine Lnil ?_
      refine W_seq ?_
      refine W_region ?_
      refine Lc (wanted_none rfl) (c_call rfl rfl rfl Tryd.func25 (by kernel_rfl) rfl (get_any b9 _ w21 (hs23.get 0 rfl)) rfl ?_)
      rintro _ w25 ⟨rfl, hc26⟩
      have hs27 := hs23.call1 0 rfl hc26
      refine L0 (wanted_none rfl) rfl (y_move (v := Value.int _ _) rfl rfl) ?_
      refine L0 (wanted_none rfl) rfl (y_ne rfl rfl rfl) ?_
      refine Lnil ?_
      refine Wkn (t := 73) (b0 := false) rfl (by first | exact decide_eq_false (by omega) | exact bnF (by omega) | (simp; omega)) (fun h28 => ?_)
      refine W_condF rfl h28 ?_
      refine W_skip ?_
      refine W_region ?_
      refine L0 (wanted_none rfl) rfl (y_move (v := Value.int _ _) rfl rfl) ?_
      refine L0 (wanted_none rfl) rfl (y_add64 rfl rfl rfl (by omega)) ?_
      refine L0 (wanted_none rfl) rfl (y_assign (v := Value.int _ _) rfl rfl) ?_
      refine Lnil ?_
      have hm : maxTo l (i + 1) = max (maxTo l i) (l.getD i 0) := rfl
      have hsF : St w [(b9, .cells #[iv (maxTo l (i + 1))] 44 (0, 0))] w25 := by
        first
          | (have e : l.getD i 0 = maxTo l (i + 1) := by rw [hm]; omega
             rw [← e]; exact hs27)
          | (have e : maxTo l i = maxTo l (i + 1) := by rw [hm]; omega
             rw [← e]; exact hs27)
      exact ⟨i + 1, by (try dsimp only); omega, _, A_c (iv_eq (by (try dsimp only); omega)) (A_c rfl (A_c rfl (A_c rfl (A_c rfl (A_c rfl (A_c rfl (A_c rfl (rfl)))))))), by omega, hsF⟩
    · skip
      refine W_region ?_
      refine L0 (wanted_none rfl) rfl (y_move (v := va) rfl rfl) ?_
      refine L0 (wanted_none rfl) rfl (y_move (v := Value.int _ _) rfl rfl) ?_
      refine L0 (wanted_none rfl) rfl (y_indexSlAt rfl Tryd.underlying42 sz3 rfl rfl hSa (by omega) (by omega)) ?_
      refine L1 (wanted_none rfl) rfl hs13 (y_loadSl i rfl Tryd.underlying3 rfl rfl hSa (by omega) (by omega) (by have := hbb9; intro k hk; simp [keys] at hk; omega)) ?_
      refine Lc (wanted_none rfl) (c_call rfl rfl rfl Tryd.func23 (by kernel_rfl) rfl (raise_ok b9 _ _ hsp w12 (hs13.get 0 rfl)) rfl ?_)
      rintro _ w29 ⟨rfl, hc30⟩
      have hs31 := hs13.call1 0 rfl hc30
      refine L0 (wanted_none rfl) rfl (y_assign (v := _) rfl rfl) ?_
      refine Lnil ?_
      refine W_seq ?_
      refine W_seq ?_
      refine W_drawSt [(0, 0), (0, 2), (0, 3), (0, 6), (0, 1), (0, 4), (1, 5), (0, 7), (0, 8), (0, 9), (0, 10), (0, 11), (0, 12), (0, 13), (3, 14), (0, 15), (0, 16), (0, 17)] hs31 mixed (by kernel_rfl) (fun w32 hs33 => ?_)
      refine E0 (wanted_none rfl) rfl (y_move (v := _) rfl rfl) ?_
      refine E0 (wanted_none rfl) rfl (y_move (v := va) rfl rfl) ?_
      refine E0 (wanted_none rfl) rfl (y_move (v := Value.int _ _) rfl rfl) ?_
      refine E0 (wanted_none rfl) rfl (y_move (v := Value.int _ _) rfl rfl) ?_
      refine E0 (wanted_none rfl) rfl (y_eqNilNil rfl Tryd.underlying35 rfl) ?_
      refine E0 (wanted_none rfl) rfl (y_indexSlAt rfl Tryd.underlying42 sz3 rfl rfl hSa (by omega) (by omega)) ?_
      refine E1 hs33 (wanted_none rfl) rfl (y_loadSl i rfl Tryd.underlying3 rfl rfl hSa (by omega) (by omega) (by have := hbb9; intro k hk; simp [keys] at hk; omega)) ?_
      refine E0 (wanted_none rfl) rfl (y_gt rfl rfl rfl) ?_
      refine E0 (wanted_none rfl) rfl (y_bne rfl Tryd.underlying4 rfl rfl) ?_
      refine E0 (wanted_none rfl) rfl (y_move (v := Value.bool _) rfl rfl) ?_
      refine Ekn (t := 56) (b0 := false) rfl (by exact bneF (decide_eq_true (by omega)).symm) (fun h34 => ?_)
      refine E0 (wanted_yesB rfl rfl rfl h34) rfl (y_move (v := _) rfl rfl) ?_
      refine E0 (wanted_yesB rfl rfl rfl h34) rfl (y_neNilNil rfl Tryd.underlying35 rfl) ?_
      refine E0 (wanted_yesB rfl rfl rfl h34) rfl (y_move (v := Value.bool _) rfl rfl) ?_
      refine Eno (wanted_noB rfl rfl rfl rfl (by decide)) rfl ?_
      refine E3no (wanted_noB rfl rfl rfl rfl (by decide)) rfl ?_
      refine Eno (wanted_noB rfl rfl rfl rfl (by decide)) rfl ?_
      refine E0 (wanted_yesB rfl rfl rfl h34) rfl (y_pickF rfl rfl (rfl : false = false) rfl) ?_
      refine E0 (wanted_none rfl) rfl (y_pickF rfl rfl h34 rfl) ?_
      refine Enil ?_
      refine W_condF rfl rfl ?_
      refine W_skip ?_
      refine W_seq ?_
      refine W_region ?_
      refine L0 (wanted_none rfl) rfl (y_move (v := Value.int _ _) rfl rfl) ?_
      refine L0 (wanted_none rfl) rfl (y_move (v := va) rfl rfl) ?_
      refine L0 (wanted_none rfl) rfl (y_move (v := Value.int _ _) rfl rfl) ?_
      refine L0 (wanted_none rfl) rfl (y_indexSlAt rfl Tryd.underlying42 sz3 rfl rfl hSa (by omega) (by omega)) ?_
      refine L1 (wanted_none rfl) rfl hs33 (y_loadSl i rfl Tryd.underlying3 rfl rfl hSa (by omega) (by omega) (by have := hbb9; intro k hk; simp [keys] at hk; omega)) ?_
      refine L0 (wanted_none rfl) rfl (y_max rfl rfl rfl) ?_
      refine L0 (wanted_none rfl) rfl (y_assign (v := Value.int _ _) rfl rfl) ?_
      refine Lnil ?_
      refine W_seq ?_
      refine W_region ?_
      refine Lc (wanted_none rfl) (c_call rfl rfl rfl Tryd.func25 (by kernel_rfl) rfl (get_any b9 _ w32 (hs33.get 0 rfl)) rfl ?_)
      rintro _ w35 ⟨rfl, hc36⟩
      have hs37 := hs33.call1 0 rfl hc36
      refine L0 (wanted_none rfl) rfl (y_move (v := Value.int _ _) rfl rfl) ?_
      refine L0 (wanted_none rfl) rfl (y_ne rfl rfl rfl) ?_
      refine Lnil ?_
      refine Wkn (t := 73) (b0 := false) rfl (by first | exact decide_eq_false (by omega) | exact bnF (by omega) | (simp; omega)) (fun h38 => ?_)
      refine W_condF rfl h38 ?_
      refine W_skip ?_
      refine W_region ?_
      refine L0 (wanted_none rfl) rfl (y_move (v := Value.int _ _) rfl rfl) ?_
      refine L0 (wanted_none rfl) rfl (y_add64 rfl rfl rfl (by omega)) ?_
      refine L0 (wanted_none rfl) rfl (y_assign (v := Value.int _ _) rfl rfl) ?_
      refine Lnil ?_
      have hm : maxTo l (i + 1) = max (maxTo l i) (l.getD i 0) := rfl
      have hsF : St w [(b9, .cells #[iv (maxTo l (i + 1))] 44 (0, 0))] w35 := by
        first
          | (have e : l.getD i 0 = maxTo l (i + 1) := by rw [hm]; omega
             rw [← e]; exact hs37)
          | (have e : maxTo l i = maxTo l (i + 1) := by rw [hm]; omega
             rw [← e]; exact hs37)
      exact ⟨i + 1, by (try dsimp only); omega, _, A_c (iv_eq (by (try dsimp only); omega)) (A_c rfl (A_c rfl (A_c rfl (A_c rfl (A_c rfl (A_c rfl (A_c rfl (rfl)))))))), by omega, hsF⟩
  · have h14' := h14
    first | replace h14' := of_decide_eq_false h14' | replace h14' := bnF' h14' | skip
    refine W_condF rfl h14 ?_
    refine W_exit ?_
    refine W_seq ?_
    refine W_region ?_
    refine L0 (wanted_none rfl) rfl (y_assign (v := Value.int _ _) rfl rfl) ?_
    refine L0 (wanted_none rfl) rfl (y_assign (v := Value.int _ _) rfl rfl) ?_
    refine Lnil ?_
    refine W_seq ?_
    refine W_seq ?_
    by_cases hb1x : b1 = true
    · skip
      refine W_region ?_
      refine L0 (wanted_none rfl) rfl (y_move (v := Value.bool _) rfl rfl) ?_
      refine Lnil ?_
      refine Wkn (t := 74) (b0 := true) rfl (by exact hb1x) (fun h39 => ?_)
      refine W_condT rfl h39 ?_
      refine W_region ?_
      refine L0 (wanted_none rfl) rfl (y_assign (v := Value.int _ _) rfl rfl) ?_
      refine Lnil ?_
      refine W_seq ?_
      refine W_seq ?_
      by_cases hb2x : b2 = true
      · skip
        have hu1 := uses_t
        have hw1 : tablesW.length = 6 := rfl
        refine W_region ?_
        refine L0 (wanted_none rfl) rfl (y_move (v := Value.bool _) rfl rfl) ?_
        refine Lnil ?_
        refine Wkn (t := 75) (b0 := true) rfl (by exact hb2x) (fun h40 => ?_)
        refine W_condT rfl h40 ?_
        refine W_region ?_
        refine L0 (wanted_none rfl) rfl (y_assign (v := Value.int _ _) rfl rfl) ?_
        refine Lnil ?_
        refine W_seq ?_
        by_cases h16s : s.length = 16
        · skip
          have hu2 := uses_t
          have hw2 : tablesW.length = 6 := rfl
          refine W_region ?_
          refine L0 (wanted_none rfl) rfl (y_move (v := Value.string ⟨⟨_⟩⟩) rfl rfl) ?_
          refine L0 (wanted_none rfl) rfl (y_move (v := Value.int _ _) rfl rfl) ?_
          refine Lc (wanted_none rfl) (c_call rfl rfl rfl Tryd.func26 (by kernel_rfl) rfl (key_ok s _ _ _ h16s hw1 hu1 w12 (hr.keep hs13 (by have := hbb9; have := hr.1; simp [keys]; omega))) rfl ?_)
          rintro _ w41 ⟨rfl, hc42⟩
          have hs43 := hs13.call0 hc42
          refine L0 (wanted_none rfl) rfl (y_move (v := Value.tuple ⟨_⟩) rfl rfl) ?_
          refine L0 (wanted_none rfl) rfl (y_extract rfl rfl rfl) ?_
          refine L0 (wanted_none rfl) rfl (y_extract rfl rfl rfl) ?_
          refine L0 (wanted_none rfl) rfl (y_assign (v := Value.string ⟨⟨_⟩⟩) rfl rfl) ?_
          refine L0 (wanted_none rfl) rfl (y_assign (v := _) rfl rfl) ?_
          refine Lnil ?_
          refine W_seq ?_
          by_cases h16t : t.length = 16
          · skip
            refine W_region ?_
            refine L0 (wanted_none rfl) rfl (y_move (v := Value.string ⟨⟨_⟩⟩) rfl rfl) ?_
            refine L0 (wanted_none rfl) rfl (y_move (v := Value.int _ _) rfl rfl) ?_
            refine Lc (wanted_none rfl) (c_call rfl rfl rfl Tryd.func26 (by kernel_rfl) rfl (key_ok t _ _ _ h16t hw2 hu2 w41 (hr.keep hs43 (by have := hbb9; have := hr.1; simp [keys]; omega))) rfl ?_)
            rintro _ w44 ⟨rfl, hc45⟩
            have hs46 := hs43.call0 hc45
            refine L0 (wanted_none rfl) rfl (y_move (v := Value.tuple ⟨_⟩) rfl rfl) ?_
            refine L0 (wanted_none rfl) rfl (y_extract rfl rfl rfl) ?_
            refine L0 (wanted_none rfl) rfl (y_extract rfl rfl rfl) ?_
            refine L0 (wanted_none rfl) rfl (y_assign (v := Value.string ⟨⟨_⟩⟩) rfl rfl) ?_
            refine L0 (wanted_none rfl) rfl (y_assign (v := _) rfl rfl) ?_
            refine Lnil ?_
            refine W_seq ?_
            refine W_seq ?_
            refine W_region ?_
            refine L0 (wanted_none rfl) rfl (y_move (v := _) rfl rfl) ?_
            refine L0 (wanted_none rfl) rfl (y_neNilNil rfl Tryd.underlying35 rfl) ?_
            refine L0 (wanted_none rfl) rfl (y_move (v := Value.bool _) rfl rfl) ?_
            refine L0 (wanted_yesB rfl rfl rfl rfl) rfl (y_move (v := _) rfl rfl) ?_
            refine L0 (wanted_yesB rfl rfl rfl rfl) rfl (y_neNilNil rfl Tryd.underlying35 rfl) ?_
            refine L0 (wanted_none rfl) rfl (y_pickF rfl rfl (rfl : false = false) rfl) ?_
            refine Lnil ?_
            refine W_condF rfl rfl ?_
            refine W_skip ?_
            refine W_seq ?_
            refine W_region ?_
            refine L0 (wanted_none rfl) rfl (y_move (v := Value.string ⟨⟨_⟩⟩) rfl rfl) ?_
            refine L0 (wanted_none rfl) rfl (y_len rfl Tryd.underlying9 rfl) ?_
            refine L0 (wanted_none rfl) rfl (y_eq rfl rfl rfl) ?_
            refine L0 (wanted_none rfl) rfl (y_move (v := Value.bool _) rfl rfl) ?_
            refine Lkn (t := 105) (b0 := true) rfl (by exact decide_eq_true (by rw [keyOf, shaOf_len]; rfl)) (fun h47 => ?_)
            refine L0 (wanted_yesB rfl rfl rfl h47) rfl (y_move (v := Value.string ⟨⟨_⟩⟩) rfl rfl) ?_
            refine L0 (wanted_yesB rfl rfl rfl h47) rfl (y_len rfl Tryd.underlying9 rfl) ?_
            refine L0 (wanted_yesB rfl rfl rfl h47) rfl (y_eq rfl rfl rfl) ?_
            refine L0 (wanted_none rfl) rfl (y_pickT rfl rfl h47 rfl) ?_
            refine L0 (wanted_none rfl) rfl (y_move (v := Value.bool _) rfl rfl) ?_
            refine Lkn (t := 110) (b0 := true) rfl (by exact decide_eq_true (by rw [keyOf, shaOf_len]; rfl)) (fun h48 => ?_)
            refine L0 (wanted_yesB rfl rfl rfl h48) rfl (y_move (v := Value.string ⟨⟨_⟩⟩) rfl rfl) ?_
            refine L0 (wanted_yesB rfl rfl rfl h48) rfl (y_move (v := Value.string ⟨⟨_⟩⟩) rfl rfl) ?_
            refine L0 (wanted_yesB rfl rfl rfl h48) rfl (y_sne rfl rfl rfl) ?_
            refine L0 (wanted_yesB rfl rfl rfl h48) rfl (y_move (v := Value.bool _) rfl rfl) ?_
            refine Lsp (t := 114) rfl (fun h49 => ?_) (fun h49 => ?_)
            · have h49' := h49
              first | replace h49' := of_decide_eq_true h49' | replace h49' := bnT' h49' | skip
              refine Lno (wanted_noB rfl rfl rfl h49 (by decide)) rfl ?_
              refine Lno (wanted_noB rfl rfl rfl h49 (by decide)) rfl ?_
              refine Lno (wanted_noB rfl rfl rfl h49 (by decide)) rfl ?_
              refine L0 (wanted_yesB rfl rfl rfl h48) rfl (y_pickT rfl rfl h49 rfl) ?_
              refine L0 (wanted_yesB rfl rfl rfl h48) rfl (y_move (v := Value.bool _) rfl rfl) ?_
              refine Lno (wanted_noB rfl rfl rfl rfl (by decide)) rfl ?_
              refine Lno (wanted_noB rfl rfl rfl rfl (by decide)) rfl ?_
              refine Lno (wanted_noB rfl rfl rfl rfl (by decide)) rfl ?_
              refine L0 (wanted_yesB rfl rfl rfl h48) rfl (y_pickT rfl rfl (rfl : true = true) rfl) ?_
              refine L0 (wanted_none rfl) rfl (y_pickT rfl rfl h48 rfl) ?_
              refine L0 (wanted_none rfl) rfl (y_assign (v := Value.bool _) rfl rfl) ?_
              refine Lnil ?_
              refine W_ret ?_
              refine fin1 (fn := Tryd.f5) rfl rfl ?_
              first | exact ⟨congrArg Value.bool (by assumption), hs46.drop (.inl hbb9)⟩ | exact ⟨rfl, hs46.drop (.inl hbb9)⟩ | exact ⟨congrArg Value.bool (bnT (by omega)), hs46.drop (.inl hbb9)⟩ | exact ⟨congrArg Value.bool (decide_eq_true (by simp_all)), hs46.drop (.inl hbb9)⟩
            · have h49' := h49
              first | replace h49' := of_decide_eq_false h49' | replace h49' := bnF' h49' | skip
              refine L0 (wanted_yesB rfl rfl rfl h49) rfl (y_move (v := Value.int _ _) rfl rfl) ?_
              refine L0 (wanted_yesB rfl rfl rfl h49) rfl (y_move (v := Value.int _ _) rfl rfl) ?_
              refine L0 (wanted_yesB rfl rfl rfl h49) rfl (y_ne rfl rfl rfl) ?_
              refine L0 (wanted_yesB rfl rfl rfl h48) rfl (y_pickF rfl rfl h49 rfl) ?_
              refine L0 (wanted_yesB rfl rfl rfl h48) rfl (y_move (v := Value.bool _) rfl rfl) ?_
              refine Lkn (t := 119) (b0 := false) rfl (by rfl) (fun h50 => ?_)
              refine L0 (wanted_yesB rfl rfl rfl h50) rfl (y_move (v := Value.string ⟨⟨_⟩⟩) rfl rfl) ?_
              refine L0 (wanted_yesB rfl rfl rfl h50) rfl (y_move (v := Value.string ⟨⟨_⟩⟩) rfl rfl) ?_
              refine L0 (wanted_yesB rfl rfl rfl h50) rfl (y_seq rfl rfl rfl) ?_
              refine L0 (wanted_yesB rfl rfl rfl h48) rfl (y_pickF rfl rfl h50 rfl) ?_
              refine L0 (wanted_none rfl) rfl (y_pickT rfl rfl h48 rfl) ?_
              refine L0 (wanted_none rfl) rfl (y_assign (v := Value.bool _) rfl rfl) ?_
              refine Lnil ?_
              refine W_ret ?_
              refine fin1 (fn := Tryd.f5) rfl rfl ?_
              first | exact ⟨congrArg Value.bool (by assumption), hs46.drop (.inl hbb9)⟩ | exact ⟨rfl, hs46.drop (.inl hbb9)⟩ | exact ⟨congrArg Value.bool (bnT (by omega)), hs46.drop (.inl hbb9)⟩ | exact ⟨congrArg Value.bool (decide_eq_true (by simp_all)), hs46.drop (.inl hbb9)⟩
          · skip
            refine W_region ?_
            refine L0 (wanted_none rfl) rfl (y_move (v := Value.string ⟨⟨_⟩⟩) rfl rfl) ?_
            refine L0 (wanted_none rfl) rfl (y_move (v := Value.int _ _) rfl rfl) ?_
            refine Lc (wanted_none rfl) (c_call rfl rfl rfl Tryd.func26 (by kernel_rfl) rfl (key_lenT t _ _ _ h16t hu2 w41) rfl ?_)
            rintro _ w51 ⟨rfl, hc52⟩
            have hs53 := hs43.call0 hc52
            refine L0 (wanted_none rfl) rfl (y_move (v := Value.tuple ⟨_⟩) rfl rfl) ?_
            refine L0 (wanted_none rfl) rfl (y_extract rfl rfl rfl) ?_
            refine L0 (wanted_none rfl) rfl (y_extract rfl rfl rfl) ?_
            refine L0 (wanted_none rfl) rfl (y_assign (v := Value.string ⟨⟨_⟩⟩) rfl rfl) ?_
            refine L0 (wanted_none rfl) rfl (y_assign (v := _) rfl rfl) ?_
            refine Lnil ?_
            refine W_seq ?_
            refine W_seq ?_
            refine W_region ?_
            refine L0 (wanted_none rfl) rfl (y_move (v := _) rfl rfl) ?_
            refine L0 (wanted_none rfl) rfl (y_neNilNil rfl Tryd.underlying35 rfl) ?_
            refine L0 (wanted_none rfl) rfl (y_move (v := Value.bool _) rfl rfl) ?_
            refine L0 (wanted_yesB rfl rfl rfl rfl) rfl (y_move (v := _) rfl rfl) ?_
            refine L0 (wanted_yesB rfl rfl rfl rfl) rfl (y_neNil rfl Tryd.underlying35 rfl) ?_
            refine L0 (wanted_none rfl) rfl (y_pickF rfl rfl (rfl : false = false) rfl) ?_
            refine Lnil ?_
            refine W_condT rfl rfl ?_
            refine W_seq ?_
            refine W_region ?_
            refine L0 (wanted_none rfl) rfl (y_move (v := Value.string ⟨⟨_⟩⟩) rfl rfl) ?_
            refine L0 (wanted_none rfl) rfl (y_len rfl Tryd.underlying9 rfl) ?_
            refine L0 (wanted_none rfl) rfl (y_ne rfl rfl rfl) ?_
            refine L0 (wanted_none rfl) rfl (y_move (v := Value.bool _) rfl rfl) ?_
            refine Lsp (t := 97) rfl (fun h54 => ?_) (fun h54 => ?_)
            · have h54' := h54
              first | replace h54' := of_decide_eq_true h54' | replace h54' := bnT' h54' | skip
              refine Lno (wanted_noB rfl rfl rfl h54 (by decide)) rfl ?_
              refine Lno (wanted_noB rfl rfl rfl h54 (by decide)) rfl ?_
              refine Lno (wanted_noB rfl rfl rfl h54 (by decide)) rfl ?_
              refine L0 (wanted_none rfl) rfl (y_pickT rfl rfl h54 rfl) ?_
              refine L0 (wanted_none rfl) rfl (y_assign (v := Value.bool _) rfl rfl) ?_
              refine Lnil ?_
              refine W_ret ?_
              refine fin1 (fn := Tryd.f5) rfl rfl ?_
              first | exact ⟨congrArg Value.bool (by assumption), hs53.drop (.inl hbb9)⟩ | exact ⟨rfl, hs53.drop (.inl hbb9)⟩ | exact ⟨congrArg Value.bool (bnT (by omega)), hs53.drop (.inl hbb9)⟩ | exact ⟨congrArg Value.bool (decide_eq_true (by simp_all)), hs53.drop (.inl hbb9)⟩
            · have h54' := h54
              first | replace h54' := of_decide_eq_false h54' | replace h54' := bnF' h54' | skip
              refine L0 (wanted_yesB rfl rfl rfl h54) rfl (y_move (v := Value.string ⟨⟨_⟩⟩) rfl rfl) ?_
              refine L0 (wanted_yesB rfl rfl rfl h54) rfl (y_len rfl Tryd.underlying9 rfl) ?_
              refine L0 (wanted_yesB rfl rfl rfl h54) rfl (y_ne rfl rfl rfl) ?_
              refine L0 (wanted_none rfl) rfl (y_pickF rfl rfl h54 rfl) ?_
              refine L0 (wanted_none rfl) rfl (y_assign (v := Value.bool _) rfl rfl) ?_
              refine Lnil ?_
              refine W_ret ?_
              refine fin1 (fn := Tryd.f5) rfl rfl ?_
              first | exact ⟨congrArg Value.bool (by assumption), hs53.drop (.inl hbb9)⟩ | exact ⟨rfl, hs53.drop (.inl hbb9)⟩ | exact ⟨congrArg Value.bool (bnT (by omega)), hs53.drop (.inl hbb9)⟩ | exact ⟨congrArg Value.bool (decide_eq_true (by simp_all)), hs53.drop (.inl hbb9)⟩
        · skip
          have hu2 := uses_t
          have hw2 : tablesW.length = 6 := rfl
          refine W_region ?_
          refine L0 (wanted_none rfl) rfl (y_move (v := Value.string ⟨⟨_⟩⟩) rfl rfl) ?_
          refine L0 (wanted_none rfl) rfl (y_move (v := Value.int _ _) rfl rfl) ?_
          refine Lc (wanted_none rfl) (c_call rfl rfl rfl Tryd.func26 (by kernel_rfl) rfl (key_lenT s _ _ _ h16s hu1 w12) rfl ?_)
          rintro _ w55 ⟨rfl, hc56⟩
          have hs57 := hs13.call0 hc56
          refine L0 (wanted_none rfl) rfl (y_move (v := Value.tuple ⟨_⟩) rfl rfl) ?_
          refine L0 (wanted_none rfl) rfl (y_extract rfl rfl rfl) ?_
          refine L0 (wanted_none rfl) rfl (y_extract rfl rfl rfl) ?_
          refine L0 (wanted_none rfl) rfl (y_assign (v := Value.string ⟨⟨_⟩⟩) rfl rfl) ?_
          refine L0 (wanted_none rfl) rfl (y_assign (v := _) rfl rfl) ?_
          refine Lnil ?_
          refine W_seq ?_
          by_cases h16t : t.length = 16
          · skip
            refine W_region ?_
            refine L0 (wanted_none rfl) rfl (y_move (v := Value.string ⟨⟨_⟩⟩) rfl rfl) ?_
            refine L0 (wanted_none rfl) rfl (y_move (v := Value.int _ _) rfl rfl) ?_
            refine Lc (wanted_none rfl) (c_call rfl rfl rfl Tryd.func26 (by kernel_rfl) rfl (key_ok t _ _ _ h16t hw2 hu2 w55 (hr.keep hs57 (by have := hbb9; have := hr.1; simp [keys]; omega))) rfl ?_)
            rintro _ w58 ⟨rfl, hc59⟩
            have hs60 := hs57.call0 hc59
            refine L0 (wanted_none rfl) rfl (y_move (v := Value.tuple ⟨_⟩) rfl rfl) ?_
            refine L0 (wanted_none rfl) rfl (y_extract rfl rfl rfl) ?_
            refine L0 (wanted_none rfl) rfl (y_extract rfl rfl rfl) ?_
            refine L0 (wanted_none rfl) rfl (y_assign (v := Value.string ⟨⟨_⟩⟩) rfl rfl) ?_
            refine L0 (wanted_none rfl) rfl (y_assign (v := _) rfl rfl) ?_
            refine Lnil ?_
            refine W_seq ?_
            refine W_seq ?_
            refine W_region ?_
            refine L0 (wanted_none rfl) rfl (y_move (v := _) rfl rfl) ?_
            refine L0 (wanted_none rfl) rfl (y_neNil rfl Tryd.underlying35 rfl) ?_
            refine L0 (wanted_none rfl) rfl (y_move (v := Value.bool _) rfl rfl) ?_
            refine Lno (wanted_noB rfl rfl rfl rfl (by decide)) rfl ?_
            refine Lno (wanted_noB rfl rfl rfl rfl (by decide)) rfl ?_
            refine L0 (wanted_none rfl) rfl (y_pickT rfl rfl (rfl : true = true) rfl) ?_
            refine Lnil ?_
            refine W_condT rfl rfl ?_
            refine W_seq ?_
            refine W_region ?_
            refine L0 (wanted_none rfl) rfl (y_move (v := Value.string ⟨⟨_⟩⟩) rfl rfl) ?_
            refine L0 (wanted_none rfl) rfl (y_len rfl Tryd.underlying9 rfl) ?_
            refine L0 (wanted_none rfl) rfl (y_ne rfl rfl rfl) ?_
            refine L0 (wanted_none rfl) rfl (y_move (v := Value.bool _) rfl rfl) ?_
            refine Lsp (t := 97) rfl (fun h61 => ?_) (fun h61 => ?_)
            · have h61' := h61
              first | replace h61' := of_decide_eq_true h61' | replace h61' := bnT' h61' | skip
              refine Lno (wanted_noB rfl rfl rfl h61 (by decide)) rfl ?_
              refine Lno (wanted_noB rfl rfl rfl h61 (by decide)) rfl ?_
              refine Lno (wanted_noB rfl rfl rfl h61 (by decide)) rfl ?_
              refine L0 (wanted_none rfl) rfl (y_pickT rfl rfl h61 rfl) ?_
              refine L0 (wanted_none rfl) rfl (y_assign (v := Value.bool _) rfl rfl) ?_
              refine Lnil ?_
              refine W_ret ?_
              refine fin1 (fn := Tryd.f5) rfl rfl ?_
              first | exact ⟨congrArg Value.bool (by assumption), hs60.drop (.inl hbb9)⟩ | exact ⟨rfl, hs60.drop (.inl hbb9)⟩ | exact ⟨congrArg Value.bool (bnT (by omega)), hs60.drop (.inl hbb9)⟩ | exact ⟨congrArg Value.bool (decide_eq_true (by simp_all)), hs60.drop (.inl hbb9)⟩
            · have h61' := h61
              first | replace h61' := of_decide_eq_false h61' | replace h61' := bnF' h61' | skip
              refine L0 (wanted_yesB rfl rfl rfl h61) rfl (y_move (v := Value.string ⟨⟨_⟩⟩) rfl rfl) ?_
              refine L0 (wanted_yesB rfl rfl rfl h61) rfl (y_len rfl Tryd.underlying9 rfl) ?_
              refine L0 (wanted_yesB rfl rfl rfl h61) rfl (y_ne rfl rfl rfl) ?_
              refine L0 (wanted_none rfl) rfl (y_pickF rfl rfl h61 rfl) ?_
              refine L0 (wanted_none rfl) rfl (y_assign (v := Value.bool _) rfl rfl) ?_
              refine Lnil ?_
              refine W_ret ?_
              refine fin1 (fn := Tryd.f5) rfl rfl ?_
              first | exact ⟨congrArg Value.bool (by assumption), hs60.drop (.inl hbb9)⟩ | exact ⟨rfl, hs60.drop (.inl hbb9)⟩ | exact ⟨congrArg Value.bool (bnT (by omega)), hs60.drop (.inl hbb9)⟩ | exact ⟨congrArg Value.bool (decide_eq_true (by simp_all)), hs60.drop (.inl hbb9)⟩
          · skip
            refine W_region ?_
            refine L0 (wanted_none rfl) rfl (y_move (v := Value.string ⟨⟨_⟩⟩) rfl rfl) ?_
            refine L0 (wanted_none rfl) rfl (y_move (v := Value.int _ _) rfl rfl) ?_
            refine Lc (wanted_none rfl) (c_call rfl rfl rfl Tryd.func26 (by kernel_rfl) rfl (key_lenT t _ _ _ h16t hu2 w55) rfl ?_)
            rintro _ w62 ⟨rfl, hc63⟩
            have hs64 := hs57.call0 hc63
            refine L0 (wanted_none rfl) rfl (y_move (v := Value.tuple ⟨_⟩) rfl rfl) ?_
            refine L0 (wanted_none rfl) rfl (y_extract rfl rfl rfl) ?_
            refine L0 (wanted_none rfl) rfl (y_extract rfl rfl rfl) ?_
            refine L0 (wanted_none rfl) rfl (y_assign (v := Value.string ⟨⟨_⟩⟩) rfl rfl) ?_
            refine L0 (wanted_none rfl) rfl (y_assign (v := _) rfl rfl) ?_
            refine Lnil ?_
            refine W_seq ?_
            refine W_seq ?_
            refine W_region ?_
            refine L0 (wanted_none rfl) rfl (y_move (v := _) rfl rfl) ?_
            refine L0 (wanted_none rfl) rfl (y_neNil rfl Tryd.underlying35 rfl) ?_
            refine L0 (wanted_none rfl) rfl (y_move (v := Value.bool _) rfl rfl) ?_
            refine Lno (wanted_noB rfl rfl rfl rfl (by decide)) rfl ?_
            refine Lno (wanted_noB rfl rfl rfl rfl (by decide)) rfl ?_
            refine L0 (wanted_none rfl) rfl (y_pickT rfl rfl (rfl : true = true) rfl) ?_
            refine Lnil ?_
            refine W_condT rfl rfl ?_
            refine W_seq ?_
            refine W_region ?_
            refine L0 (wanted_none rfl) rfl (y_move (v := Value.string ⟨⟨_⟩⟩) rfl rfl) ?_
            refine L0 (wanted_none rfl) rfl (y_len rfl Tryd.underlying9 rfl) ?_
            refine L0 (wanted_none rfl) rfl (y_ne rfl rfl rfl) ?_
            refine L0 (wanted_none rfl) rfl (y_move (v := Value.bool _) rfl rfl) ?_
            refine Lsp (t := 97) rfl (fun h65 => ?_) (fun h65 => ?_)
            · have h65' := h65
              first | replace h65' := of_decide_eq_true h65' | replace h65' := bnT' h65' | skip
              refine Lno (wanted_noB rfl rfl rfl h65 (by decide)) rfl ?_
              refine Lno (wanted_noB rfl rfl rfl h65 (by decide)) rfl ?_
              refine Lno (wanted_noB rfl rfl rfl h65 (by decide)) rfl ?_
              refine L0 (wanted_none rfl) rfl (y_pickT rfl rfl h65 rfl) ?_
              refine L0 (wanted_none rfl) rfl (y_assign (v := Value.bool _) rfl rfl) ?_
              refine Lnil ?_
              refine W_ret ?_
              refine fin1 (fn := Tryd.f5) rfl rfl ?_
              first | exact ⟨congrArg Value.bool (by assumption), hs64.drop (.inl hbb9)⟩ | exact ⟨rfl, hs64.drop (.inl hbb9)⟩ | exact ⟨congrArg Value.bool (bnT (by omega)), hs64.drop (.inl hbb9)⟩ | exact ⟨congrArg Value.bool (decide_eq_true (by simp_all)), hs64.drop (.inl hbb9)⟩
            · have h65' := h65
              first | replace h65' := of_decide_eq_false h65' | replace h65' := bnF' h65' | skip
              refine L0 (wanted_yesB rfl rfl rfl h65) rfl (y_move (v := Value.string ⟨⟨_⟩⟩) rfl rfl) ?_
              refine L0 (wanted_yesB rfl rfl rfl h65) rfl (y_len rfl Tryd.underlying9 rfl) ?_
              refine L0 (wanted_yesB rfl rfl rfl h65) rfl (y_ne rfl rfl rfl) ?_
              refine L0 (wanted_none rfl) rfl (y_pickF rfl rfl h65 rfl) ?_
              refine L0 (wanted_none rfl) rfl (y_assign (v := Value.bool _) rfl rfl) ?_
              refine Lnil ?_
              refine W_ret ?_
              refine fin1 (fn := Tryd.f5) rfl rfl ?_
              first | exact ⟨congrArg Value.bool (by assumption), hs64.drop (.inl hbb9)⟩ | exact ⟨rfl, hs64.drop (.inl hbb9)⟩ | exact ⟨congrArg Value.bool (bnT (by omega)), hs64.drop (.inl hbb9)⟩ | exact ⟨congrArg Value.bool (decide_eq_true (by simp_all)), hs64.drop (.inl hbb9)⟩
      · skip
        have hu1 := uses_t
        have hw1 : tablesW.length = 6 := rfl
        refine W_region ?_
        refine L0 (wanted_none rfl) rfl (y_move (v := Value.bool _) rfl rfl) ?_
        refine Lnil ?_
        refine Wkn (t := 75) (b0 := false) rfl (by simpa using hb2x) (fun h66 => ?_)
        refine W_condF rfl h66 ?_
        refine W_skip ?_
        refine W_seq ?_
        by_cases h16s : s.length = 16
        · skip
          have hu2 := uses_b
          have hw2 : blocksW.length = 6 := rfl
          refine W_region ?_
          refine L0 (wanted_none rfl) rfl (y_move (v := Value.string ⟨⟨_⟩⟩) rfl rfl) ?_
          refine L0 (wanted_none rfl) rfl (y_move (v := Value.int _ _) rfl rfl) ?_
          refine Lc (wanted_none rfl) (c_call rfl rfl rfl Tryd.func26 (by kernel_rfl) rfl (key_ok s _ _ _ h16s hw1 hu1 w12 (hr.keep hs13 (by have := hbb9; have := hr.1; simp [keys]; omega))) rfl ?_)
          rintro _ w67 ⟨rfl, hc68⟩
          have hs69 := hs13.call0 hc68
          refine L0 (wanted_none rfl) rfl (y_move (v := Value.tuple ⟨_⟩) rfl rfl) ?_
          refine L0 (wanted_none rfl) rfl (y_extract rfl rfl rfl) ?_
          refine L0 (wanted_none rfl) rfl (y_extract rfl rfl rfl) ?_
          refine L0 (wanted_none rfl) rfl (y_assign (v := Value.string ⟨⟨_⟩⟩) rfl rfl) ?_
          refine L0 (wanted_none rfl) rfl (y_assign (v := _) rfl rfl) ?_
          refine Lnil ?_
          refine W_seq ?_
          by_cases h16t : t.length = 16
          · skip
            refine W_region ?_
            refine L0 (wanted_none rfl) rfl (y_move (v := Value.string ⟨⟨_⟩⟩) rfl rfl) ?_
            refine L0 (wanted_none rfl) rfl (y_move (v := Value.int _ _) rfl rfl) ?_
            refine Lc (wanted_none rfl) (c_call rfl rfl rfl Tryd.func26 (by kernel_rfl) rfl (key_ok t _ _ _ h16t hw2 hu2 w67 (hr.keep hs69 (by have := hbb9; have := hr.1; simp [keys]; omega))) rfl ?_)
            rintro _ w70 ⟨rfl, hc71⟩
            have hs72 := hs69.call0 hc71
            refine L0 (wanted_none rfl) rfl (y_move (v := Value.tuple ⟨_⟩) rfl rfl) ?_
            refine L0 (wanted_none rfl) rfl (y_extract rfl rfl rfl) ?_
            refine L0 (wanted_none rfl) rfl (y_extract rfl rfl rfl) ?_
            refine L0 (wanted_none rfl) rfl (y_assign (v := Value.string ⟨⟨_⟩⟩) rfl rfl) ?_
            refine L0 (wanted_none rfl) rfl (y_assign (v := _) rfl rfl) ?_
            refine Lnil ?_
            refine W_seq ?_
            refine W_seq ?_
            refine W_region ?_
            refine L0 (wanted_none rfl) rfl (y_move (v := _) rfl rfl) ?_
            refine L0 (wanted_none rfl) rfl (y_neNilNil rfl Tryd.underlying35 rfl) ?_
            refine L0 (wanted_none rfl) rfl (y_move (v := Value.bool _) rfl rfl) ?_
            refine L0 (wanted_yesB rfl rfl rfl rfl) rfl (y_move (v := _) rfl rfl) ?_
            refine L0 (wanted_yesB rfl rfl rfl rfl) rfl (y_neNilNil rfl Tryd.underlying35 rfl) ?_
            refine L0 (wanted_none rfl) rfl (y_pickF rfl rfl (rfl : false = false) rfl) ?_
            refine Lnil ?_
            refine W_condF rfl rfl ?_
            refine W_skip ?_
            refine W_seq ?_
            refine W_region ?_
            refine L0 (wanted_none rfl) rfl (y_move (v := Value.string ⟨⟨_⟩⟩) rfl rfl) ?_
            refine L0 (wanted_none rfl) rfl (y_len rfl Tryd.underlying9 rfl) ?_
            refine L0 (wanted_none rfl) rfl (y_eq rfl rfl rfl) ?_
            refine L0 (wanted_none rfl) rfl (y_move (v := Value.bool _) rfl rfl) ?_
            refine Lkn (t := 105) (b0 := true) rfl (by exact decide_eq_true (by rw [keyOf, shaOf_len]; rfl)) (fun h73 => ?_)
            refine L0 (wanted_yesB rfl rfl rfl h73) rfl (y_move (v := Value.string ⟨⟨_⟩⟩) rfl rfl) ?_
            refine L0 (wanted_yesB rfl rfl rfl h73) rfl (y_len rfl Tryd.underlying9 rfl) ?_
            refine L0 (wanted_yesB rfl rfl rfl h73) rfl (y_eq rfl rfl rfl) ?_
            refine L0 (wanted_none rfl) rfl (y_pickT rfl rfl h73 rfl) ?_
            refine L0 (wanted_none rfl) rfl (y_move (v := Value.bool _) rfl rfl) ?_
            refine Lkn (t := 110) (b0 := true) rfl (by exact decide_eq_true (by rw [keyOf, shaOf_len]; rfl)) (fun h74 => ?_)
            refine L0 (wanted_yesB rfl rfl rfl h74) rfl (y_move (v := Value.string ⟨⟨_⟩⟩) rfl rfl) ?_
            refine L0 (wanted_yesB rfl rfl rfl h74) rfl (y_move (v := Value.string ⟨⟨_⟩⟩) rfl rfl) ?_
            refine L0 (wanted_yesB rfl rfl rfl h74) rfl (y_sne rfl rfl rfl) ?_
            refine L0 (wanted_yesB rfl rfl rfl h74) rfl (y_move (v := Value.bool _) rfl rfl) ?_
            refine Lsp (t := 114) rfl (fun h75 => ?_) (fun h75 => ?_)
            · have h75' := h75
              first | replace h75' := of_decide_eq_true h75' | replace h75' := bnT' h75' | skip
              refine Lno (wanted_noB rfl rfl rfl h75 (by decide)) rfl ?_
              refine Lno (wanted_noB rfl rfl rfl h75 (by decide)) rfl ?_
              refine Lno (wanted_noB rfl rfl rfl h75 (by decide)) rfl ?_
              refine L0 (wanted_yesB rfl rfl rfl h74) rfl (y_pickT rfl rfl h75 rfl) ?_
              refine L0 (wanted_yesB rfl rfl rfl h74) rfl (y_move (v := Value.bool _) rfl rfl) ?_
              refine Lno (wanted_noB rfl rfl rfl rfl (by decide)) rfl ?_
              refine Lno (wanted_noB rfl rfl rfl rfl (by decide)) rfl ?_
              refine Lno (wanted_noB rfl rfl rfl rfl (by decide)) rfl ?_
              refine L0 (wanted_yesB rfl rfl rfl h74) rfl (y_pickT rfl rfl (rfl : true = true) rfl) ?_
              refine L0 (wanted_none rfl) rfl (y_pickT rfl rfl h74 rfl) ?_
              refine L0 (wanted_none rfl) rfl (y_assign (v := Value.bool _) rfl rfl) ?_
              refine Lnil ?_
              refine W_ret ?_
              refine fin1 (fn := Tryd.f5) rfl rfl ?_
              first | exact ⟨congrArg Value.bool (by assumption), hs72.drop (.inl hbb9)⟩ | exact ⟨rfl, hs72.drop (.inl hbb9)⟩ | exact ⟨congrArg Value.bool (bnT (by omega)), hs72.drop (.inl hbb9)⟩ | exact ⟨congrArg Value.bool (decide_eq_true (by simp_all)), hs72.drop (.inl hbb9)⟩
            · have h75' := h75
              first | replace h75' := of_decide_eq_false h75' | replace h75' := bnF' h75' | skip
              refine L0 (wanted_yesB rfl rfl rfl h75) rfl (y_move (v := Value.int _ _) rfl rfl) ?_
              refine L0 (wanted_yesB rfl rfl rfl h75) rfl (y_move (v := Value.int _ _) rfl rfl) ?_
              refine L0 (wanted_yesB rfl rfl rfl h75) rfl (y_ne rfl rfl rfl) ?_
              refine L0 (wanted_yesB rfl rfl rfl h74) rfl (y_pickF rfl rfl h75 rfl) ?_
              refine L0 (wanted_yesB rfl rfl rfl h74) rfl (y_move (v := Value.bool _) rfl rfl) ?_
              refine Lkn (t := 119) (b0 := true) rfl (by rfl) (fun h76 => ?_)
              refine Lno (wanted_noB rfl rfl rfl h76 (by decide)) rfl ?_
              refine Lno (wanted_noB rfl rfl rfl h76 (by decide)) rfl ?_
              refine Lno (wanted_noB rfl rfl rfl h76 (by decide)) rfl ?_
              refine L0 (wanted_yesB rfl rfl rfl h74) rfl (y_pickT rfl rfl h76 rfl) ?_
              refine L0 (wanted_none rfl) rfl (y_pickT rfl rfl h74 rfl) ?_
              refine L0 (wanted_none rfl) rfl (y_assign (v := Value.bool _) rfl rfl) ?_
              refine Lnil ?_
              refine W_ret ?_
              refine fin1 (fn := Tryd.f5) rfl rfl ?_
              first | exact ⟨congrArg Value.bool (by assumption), hs72.drop (.inl hbb9)⟩ | exact ⟨rfl, hs72.drop (.inl hbb9)⟩ | exact ⟨congrArg Value.bool (bnT (by omega)), hs72.drop (.inl hbb9)⟩ | exact ⟨congrArg Value.bool (decide_eq_true (by simp_all)), hs72.drop (.inl hbb9)⟩
          · skip
            refine W_region ?_
            refine L0 (wanted_none rfl) rfl (y_move (v := Value.string ⟨⟨_⟩⟩) rfl rfl) ?_
            refine L0 (wanted_none rfl) rfl (y_move (v := Value.int _ _) rfl rfl) ?_
            refine Lc (wanted_none rfl) (c_call rfl rfl rfl Tryd.func26 (by kernel_rfl) rfl (key_lenT t _ _ _ h16t hu2 w67) rfl ?_)
            rintro _ w77 ⟨rfl, hc78⟩
            have hs79 := hs69.call0 hc78
            refine L0 (wanted_none rfl) rfl (y_move (v := Value.tuple ⟨_⟩) rfl rfl) ?_
            refine L0 (wanted_none rfl) rfl (y_extract rfl rfl rfl) ?_
            refine L0 (wanted_none rfl) rfl (y_extract rfl rfl rfl) ?_
            refine L0 (wanted_none rfl) rfl (y_assign (v := Value.string ⟨⟨_⟩⟩) rfl rfl) ?_
            refine L0 (wanted_none rfl) rfl (y_assign (v := _) rfl rfl) ?_
            refine Lnil ?_
            refine W_seq ?_
            refine W_seq ?_
            refine W_region ?_
            refine L0 (wanted_none rfl) rfl (y_move (v := _) rfl rfl) ?_
            refine L0 (wanted_none rfl) rfl (y_neNilNil rfl Tryd.underlying35 rfl) ?_
            refine L0 (wanted_none rfl) rfl (y_move (v := Value.bool _) rfl rfl) ?_
            refine L0 (wanted_yesB rfl rfl rfl rfl) rfl (y_move (v := _) rfl rfl) ?_
            refine L0 (wanted_yesB rfl rfl rfl rfl) rfl (y_neNil rfl Tryd.underlying35 rfl) ?_
            refine L0 (wanted_none rfl) rfl (y_pickF rfl rfl (rfl : false = false) rfl) ?_
            refine Lnil ?_
            refine W_condT rfl rfl ?_
            refine W_seq ?_
            refine W_region ?_
            refine L0 (wanted_none rfl) rfl (y_move (v := Value.string ⟨⟨_⟩⟩) rfl rfl) ?_
            refine L0 (wanted_none rfl) rfl (y_len rfl Tryd.underlying9 rfl) ?_
            refine L0 (wanted_none rfl) rfl (y_ne rfl rfl rfl) ?_
            refine L0 (wanted_none rfl) rfl (y_move (v := Value.bool _) rfl rfl) ?_
            refine Lsp (t := 97) rfl (fun h80 => ?_) (fun h80 => ?_)
            · have h80' := h80
              first | replace h80' := of_decide_eq_true h80' | replace h80' := bnT' h80' | skip
              refine Lno (wanted_noB rfl rfl rfl h80 (by decide)) rfl ?_
              refine Lno (wanted_noB rfl rfl rfl h80 (by decide)) rfl ?_
              refine Lno (wanted_noB rfl rfl rfl h80 (by decide)) rfl ?_
              refine L0 (wanted_none rfl) rfl (y_pickT rfl rfl h80 rfl) ?_
              refine L0 (wanted_none rfl) rfl (y_assign (v := Value.bool _) rfl rfl) ?_
              refine Lnil ?_
              refine W_ret ?_
              refine fin1 (fn := Tryd.f5) rfl rfl ?_
              first | exact ⟨congrArg Value.bool (by assumption), hs79.drop (.inl hbb9)⟩ | exact ⟨rfl, hs79.drop (.inl hbb9)⟩ | exact ⟨congrArg Value.bool (bnT (by omega)), hs79.drop (.inl hbb9)⟩ | exact ⟨congrArg Value.bool (decide_eq_true (by simp_all)), hs79.drop (.inl hbb9)⟩
            · have h80' := h80
              first | replace h80' := of_decide_eq_false h80' | replace h80' := bnF' h80' | skip
              refine L0 (wanted_yesB rfl rfl rfl h80) rfl (y_move (v := Value.string ⟨⟨_⟩⟩) rfl rfl) ?_
              refine L0 (wanted_yesB rfl rfl rfl h80) rfl (y_len rfl Tryd.underlying9 rfl) ?_
              refine L0 (wanted_yesB rfl rfl rfl h80) rfl (y_ne rfl rfl rfl) ?_
              refine L0 (wanted_none rfl) rfl (y_pickF rfl rfl h80 rfl) ?_
              refine L0 (wanted_none rfl) rfl (y_assign (v := Value.bool _) rfl rfl) ?_
              refine Lnil ?_
              refine W_ret ?_
              refine fin1 (fn := Tryd.f5) rfl rfl ?_
              first | exact ⟨congrArg Value.bool (by assumption), hs79.drop (.inl hbb9)⟩ | exact ⟨rfl, hs79.drop (.inl hbb9)⟩ | exact ⟨congrArg Value.bool (bnT (by omega)), hs79.drop (.inl hbb9)⟩ | exact ⟨congrArg Value.bool (decide_eq_true (by simp_all)), hs79.drop (.inl hbb9)⟩
        · skip
          have hu2 := uses_b
          have hw2 : blocksW.length = 6 := rfl
          refine W_region ?_
          refine L0 (wanted_none rfl) rfl (y_move (v := Value.string ⟨⟨_⟩⟩) rfl rfl) ?_
          refine L0 (wanted_none rfl) rfl (y_move (v := Value.int _ _) rfl rfl) ?_
          refine Lc (wanted_none rfl) (c_call rfl rfl rfl Tryd.func26 (by kernel_rfl) rfl (key_lenT s _ _ _ h16s hu1 w12) rfl ?_)
          rintro _ w81 ⟨rfl, hc82⟩
          have hs83 := hs13.call0 hc82
          refine L0 (wanted_none rfl) rfl (y_move (v := Value.tuple ⟨_⟩) rfl rfl) ?_
          refine L0 (wanted_none rfl) rfl (y_extract rfl rfl rfl) ?_
          refine L0 (wanted_none rfl) rfl (y_extract rfl rfl rfl) ?_
          refine L0 (wanted_none rfl) rfl (y_assign (v := Value.string ⟨⟨_⟩⟩) rfl rfl) ?_
          refine L0 (wanted_none rfl) rfl (y_assign (v := _) rfl rfl) ?_
          refine Lnil ?_
          refine W_seq ?_
          by_cases h16t : t.length = 16
          · skip
            refine W_region ?_
            refine L0 (wanted_none rfl) rfl (y_move (v := Value.string ⟨⟨_⟩⟩) rfl rfl) ?_
            refine L0 (wanted_none rfl) rfl (y_move (v := Value.int _ _) rfl rfl) ?_
            refine Lc (wanted_none rfl) (c_call rfl rfl rfl Tryd.func26 (by kernel_rfl) rfl (key_ok t _ _ _ h16t hw2 hu2 w81 (hr.keep hs83 (by have := hbb9; have := hr.1; simp [keys]; omega))) rfl ?_)
            rintro _ w84 ⟨rfl, hc85⟩
            have hs86 := hs83.call0 hc85
            refine L0 (wanted_none rfl) rfl (y_move (v := Value.tuple ⟨_⟩) rfl rfl) ?_
            refine L0 (wanted_none rfl) rfl (y_extract rfl rfl rfl) ?_
            refine L0 (wanted_none rfl) rfl (y_extract rfl rfl rfl) ?_
            refine L0 (wanted_none rfl) rfl (y_assign (v := Value.string ⟨⟨_⟩⟩) rfl rfl) ?_
            refine L0 (wanted_none rfl) rfl (y_assign (v := _) rfl rfl) ?_
            refine Lnil ?_
            refine W_seq ?_
            refine W_seq ?_
            refine W_region ?_
            refine L0 (wanted_none rfl) rfl (y_move (v := _) rfl rfl) ?_
            refine L0 (wanted_none rfl) rfl (y_neNil rfl Tryd.underlying35 rfl) ?_
            refine L0 (wanted_none rfl) rfl (y_move (v := Value.bool _) rfl rfl) ?_
            refine Lno (wanted_noB rfl rfl rfl rfl (by decide)) rfl ?_
            refine Lno (wanted_noB rfl rfl rfl rfl (by decide)) rfl ?_
            refine L0 (wanted_none rfl) rfl (y_pickT rfl rfl (rfl : true = true) rfl) ?_
            refine Lnil ?_
            refine W_condT rfl rfl ?_
            refine W_seq ?_
            refine W_region ?_
            refine L0 (wanted_none rfl) rfl (y_move (v := Value.string ⟨⟨_⟩⟩) rfl rfl) ?_
            refine L0 (wanted_none rfl) rfl (y_len rfl Tryd.underlying9 rfl) ?_
            refine L0 (wanted_none rfl) rfl (y_ne rfl rfl rfl) ?_
            refine L0 (wanted_none rfl) rfl (y_move (v := Value.bool _) rfl rfl) ?_
            refine Lsp (t := 97) rfl (fun h87 => ?_) (fun h87 => ?_)
            · have h87' := h87
              first | replace h87' := of_decide_eq_true h87' | replace h87' := bnT' h87' | skip
              refine Lno (wanted_noB rfl rfl rfl h87 (by decide)) rfl ?_
              refine Lno (wanted_noB rfl rfl rfl h87 (by decide)) rfl ?_
              refine Lno (wanted_noB rfl rfl rfl h87 (by decide)) rfl ?_
              refine L0 (wanted_none rfl) rfl (y_pickT rfl rfl h87 rfl) ?_
              refine L0 (wanted_none rfl) rfl (y_assign (v := Value.bool _) rfl rfl) ?_
              refine Lnil ?_
              refine W_ret ?_
              refine fin1 (fn := Tryd.f5) rfl rfl ?_
              first | exact ⟨congrArg Value.bool (by assumption), hs86.drop (.inl hbb9)⟩ | exact ⟨rfl, hs86.drop (.inl hbb9)⟩ | exact ⟨congrArg Value.bool (bnT (by omega)), hs86.drop (.inl hbb9)⟩ | exact ⟨congrArg Value.bool (decide_eq_true (by simp_all)), hs86.drop (.inl hbb9)⟩
            · have h87' := h87
              first | replace h87' := of_decide_eq_false h87' | replace h87' := bnF' h87' | skip
              refine L0 (wanted_yesB rfl rfl rfl h87) rfl (y_move (v := Value.string ⟨⟨_⟩⟩) rfl rfl) ?_
              refine L0 (wanted_yesB rfl rfl rfl h87) rfl (y_len rfl Tryd.underlying9 rfl) ?_
              refine L0 (wanted_yesB rfl rfl rfl h87) rfl (y_ne rfl rfl rfl) ?_
              refine L0 (wanted_none rfl) rfl (y_pickF rfl rfl h87 rfl) ?_
              refine L0 (wanted_none rfl) rfl (y_assign (v := Value.bool _) rfl rfl) ?_
              refine Lnil ?_
              refine W_ret ?_
              refine fin1 (fn := Tryd.f5) rfl rfl ?_
              first | exact ⟨congrArg Value.bool (by assumption), hs86.drop (.inl hbb9)⟩ | exact ⟨rfl, hs86.drop (.inl hbb9)⟩ | exact ⟨congrArg Value.bool (bnT (by omega)), hs86.drop (.inl hbb9)⟩ | exact ⟨congrArg Value.bool (decide_eq_true (by simp_all)), hs86.drop (.inl hbb9)⟩
          · skip
            refine W_region ?_
            refine L0 (wanted_none rfl) rfl (y_move (v := Value.string ⟨⟨_⟩⟩) rfl rfl) ?_
            refine L0 (wanted_none rfl) rfl (y_move (v := Value.int _ _) rfl rfl) ?_
            refine Lc (wanted_none rfl) (c_call rfl rfl rfl Tryd.func26 (by kernel_rfl) rfl (key_lenT t _ _ _ h16t hu2 w81) rfl ?_)
            rintro _ w88 ⟨rfl, hc89⟩
            have hs90 := hs83.call0 hc89
            refine L0 (wanted_none rfl) rfl (y_move (v := Value.tuple ⟨_⟩) rfl rfl) ?_
            refine L0 (wanted_none rfl) rfl (y_extract rfl rfl rfl) ?_
            refine L0 (wanted_none rfl) rfl (y_extract rfl rfl rfl) ?_
            refine L0 (wanted_none rfl) rfl (y_assign (v := Value.string ⟨⟨_⟩⟩) rfl rfl) ?_
            refine L0 (wanted_none rfl) rfl (y_assign (v := _) rfl rfl) ?_
            refine Lnil ?_
            refine W_seq ?_
            refine W_seq ?_
            refine W_region ?_
            refine L0 (wanted_none rfl) rfl (y_move (v := _) rfl rfl) ?_
            refine L0 (wanted_none rfl) rfl (y_neNil rfl Tryd.underlying35 rfl) ?_
            refine L0 (wanted_none rfl) rfl (y_move (v := Value.bool _) rfl rfl) ?_
            refine Lno (wanted_noB rfl rfl rfl rfl (by decide)) rfl ?_
            refine Lno (wanted_noB rfl rfl rfl rfl (by decide)) rfl ?_
            refine L0 (wanted_none rfl) rfl (y_pickT rfl rfl (rfl : true = true) rfl) ?_
            refine Lnil ?_
            refine W_condT rfl rfl ?_
            refine W_seq ?_
            refine W_region ?_
            refine L0 (wanted_none rfl) rfl (y_move (v := Value.string ⟨⟨_⟩⟩) rfl rfl) ?_
            refine L0 (wanted_none rfl) rfl (y_len rfl Tryd.underlying9 rfl) ?_
            refine L0 (wanted_none rfl) rfl (y_ne rfl rfl rfl) ?_
            refine L0 (wanted_none rfl) rfl (y_move (v := Value.bool _) rfl rfl) ?_
            refine Lsp (t := 97) rfl (fun h91 => ?_) (fun h91 => ?_)
            · have h91' := h91
              first | replace h91' := of_decide_eq_true h91' | replace h91' := bnT' h91' | skip
              refine Lno (wanted_noB rfl rfl rfl h91 (by decide)) rfl ?_
              refine Lno (wanted_noB rfl rfl rfl h91 (by decide)) rfl ?_
              refine Lno (wanted_noB rfl rfl rfl h91 (by decide)) rfl ?_
              refine L0 (wanted_none rfl) rfl (y_pickT rfl rfl h91 rfl) ?_
              refine L0 (wanted_none rfl) rfl (y_assign (v := Value.bool _) rfl rfl) ?_
              refine Lnil ?_
              refine W_ret ?_
              refine fin1 (fn := Tryd.f5) rfl rfl ?_
              first | exact ⟨congrArg Value.bool (by assumption), hs90.drop (.inl hbb9)⟩ | exact ⟨rfl, hs90.drop (.inl hbb9)⟩ | exact ⟨congrArg Value.bool (bnT (by omega)), hs90.drop (.inl hbb9)⟩ | exact ⟨congrArg Value.bool (decide_eq_true (by simp_all)), hs90.drop (.inl hbb9)⟩
            · have h91' := h91
              first | replace h91' := of_decide_eq_false h91' | replace h91' := bnF' h91' | skip
              refine L0 (wanted_yesB rfl rfl rfl h91) rfl (y_move (v := Value.string ⟨⟨_⟩⟩) rfl rfl) ?_
              refine L0 (wanted_yesB rfl rfl rfl h91) rfl (y_len rfl Tryd.underlying9 rfl) ?_
              refine L0 (wanted_yesB rfl rfl rfl h91) rfl (y_ne rfl rfl rfl) ?_
              refine L0 (wanted_none rfl) rfl (y_pickF rfl rfl h91 rfl) ?_
              refine L0 (wanted_none rfl) rfl (y_assign (v := Value.bool _) rfl rfl) ?_
              refine Lnil ?_
              refine W_ret ?_
              refine fin1 (fn := Tryd.f5) rfl rfl ?_
              first | exact ⟨congrArg Value.bool (by assumption), hs90.drop (.inl hbb9)⟩ | exact ⟨rfl, hs90.drop (.inl hbb9)⟩ | exact ⟨congrArg Value.bool (bnT (by omega)), hs90.drop (.inl hbb9)⟩ | exact ⟨congrArg Value.bool (decide_eq_true (by simp_all)), hs90.drop (.inl hbb9)⟩
    · skip
      refine W_region ?_
      refine L0 (wanted_none rfl) rfl (y_move (v := Value.bool _) rfl rfl) ?_
      refine Lnil ?_
      refine Wkn (t := 74) (b0 := false) rfl (by simpa using hb1x) (fun h92 => ?_)
      refine W_condF rfl h92 ?_
      refine W_skip ?_
      refine W_seq ?_
      refine W_seq ?_
      by_cases hb2x : b2 = true
      · skip
        have hu1 := uses_b
        have hw1 : blocksW.length = 6 := rfl
        refine W_region ?_
        refine L0 (wanted_none rfl) rfl (y_move (v := Value.bool _) rfl rfl) ?_
        refine Lnil ?_
        refine Wkn (t := 75) (b0 := true) rfl (by exact hb2x) (fun h93 => ?_)
        refine W_condT rfl h93 ?_
        refine W_region ?_
        refine L0 (wanted_none rfl) rfl (y_assign (v := Value.int _ _) rfl rfl) ?_
        refine Lnil ?_
        refine W_seq ?_
        by_cases h16s : s.length = 16
        · skip
          have hu2 := uses_t
          have hw2 : tablesW.length = 6 := rfl
          refine W_region ?_
          refine L0 (wanted_none rfl) rfl (y_move (v := Value.string ⟨⟨_⟩⟩) rfl rfl) ?_
          refine L0 (wanted_none rfl) rfl (y_move (v := Value.int _ _) rfl rfl) ?_
          refine Lc (wanted_none rfl) (c_call rfl rfl rfl Tryd.func26 (by kernel_rfl) rfl (key_ok s _ _ _ h16s hw1 hu1 w12 (hr.keep hs13 (by have := hbb9; have := hr.1; simp [keys]; omega))) rfl ?_)
          rintro _ w94 ⟨rfl, hc95⟩
          have hs96 := hs13.call0 hc95
          refine L0 (wanted_none rfl) rfl (y_move (v := Value.tuple ⟨_⟩) rfl rfl) ?_
          refine L0 (wanted_none rfl) rfl (y_extract rfl rfl rfl) ?_
          refine L0 (wanted_none rfl) rfl (y_extract rfl rfl rfl) ?_
          refine L0 (wanted_none rfl) rfl (y_assign (v := Value.string ⟨⟨_⟩⟩) rfl rfl) ?_
          refine L0 (wanted_none rfl) rfl (y_assign (v := _) rfl rfl) ?_
          refine Lnil ?_
          refine W_seq ?_
          by_cases h16t : t.length = 16
          · skip
            refine W_region ?_
            refine L0 (wanted_none rfl) rfl (y_move (v := Value.string ⟨⟨_⟩⟩) rfl rfl) ?_
            refine L0 (wanted_none rfl) rfl (y_move (v := Value.int _ _) rfl rfl) ?_
            refine Lc (wanted_none rfl) (c_call rfl rfl rfl Tryd.func26 (by kernel_rfl) rfl (key_ok t _ _ _ h16t hw2 hu2 w94 (hr.keep hs96 (by have := hbb9; have := hr.1; simp [keys]; omega))) rfl ?_)
            rintro _ w97 ⟨rfl, hc98⟩
            have hs99 := hs96.call0 hc98
            refine L0 (wanted_none rfl) rfl (y_move (v := Value.tuple ⟨_⟩) rfl rfl) ?_
            refine L0 (wanted_none rfl) rfl (y_extract rfl rfl rfl) ?_
            refine L0 (wanted_none rfl) rfl (y_extract rfl rfl rfl) ?_
            refine L0 (wanted_none rfl) rfl (y_assign (v := Value.string ⟨⟨_⟩⟩) rfl rfl) ?_
            refine L0 (wanted_none rfl) rfl (y_assign (v := _) rfl rfl) ?_
            refine Lnil ?_
            refine W_seq ?_
            refine W_seq ?_
            refine W_region ?_
            refine L0 (wanted_none rfl) rfl (y_move (v := _) rfl rfl) ?_
            refine L0 (wanted_none rfl) rfl (y_neNilNil rfl Tryd.underlying35 rfl) ?_
            refine L0 (wanted_none rfl) rfl (y_move (v := Value.bool _) rfl rfl) ?_
            refine L0 (wanted_yesB rfl rfl rfl rfl) rfl (y_move (v := _) rfl rfl) ?_
            refine L0 (wanted_yesB rfl rfl rfl rfl) rfl (y_neNilNil rfl Tryd.underlying35 rfl) ?_
            refine L0 (wanted_none rfl) rfl (y_pickF rfl rfl (rfl : false = false) rfl) ?_
            refine Lnil ?_
            refine W_condF rfl rfl ?_
            refine W_skip ?_
            refine W_seq ?_
            refine W_region ?_
            refine L0 (wanted_none rfl) rfl (y_move (v := Value.string ⟨⟨_⟩⟩) rfl rfl) ?_
            refine L0 (wanted_none rfl) rfl (y_len rfl Tryd.underlying9 rfl) ?_
            refine L0 (wanted_none rfl) rfl (y_eq rfl rfl rfl) ?_
            refine L0 (wanted_none rfl) rfl (y_move (v := Value.bool _) rfl rfl) ?_
            refine Lkn (t := 105) (b0 := true) rfl (by exact decide_eq_true (by rw [keyOf, shaOf_len]; rfl)) (fun h100 => ?_)
            refine L0 (wanted_yesB rfl rfl rfl h100) rfl (y_move (v := Value.string ⟨⟨_⟩⟩) rfl rfl) ?_
            refine L0 (wanted_yesB rfl rfl rfl h100) rfl (y_len rfl Tryd.underlying9 rfl) ?_
            refine L0 (wanted_yesB rfl rfl rfl h100) rfl (y_eq rfl rfl rfl) ?_
            refine L0 (wanted_none rfl) rfl (y_pickT rfl rfl h100 rfl) ?_
            refine L0 (wanted_none rfl) rfl (y_move (v := Value.bool _) rfl rfl) ?_
            refine Lkn (t := 110) (b0 := true) rfl (by exact decide_eq_true (by rw [keyOf, shaOf_len]; rfl)) (fun h101 => ?_)
            refine L0 (wanted_yesB rfl rfl rfl h101) rfl (y_move (v := Value.string ⟨⟨_⟩⟩) rfl rfl) ?_
            refine L0 (wanted_yesB rfl rfl rfl h101) rfl (y_move (v := Value.string ⟨⟨_⟩⟩) rfl rfl) ?_
            refine L0 (wanted_yesB rfl rfl rfl h101) rfl (y_sne rfl rfl rfl) ?_
            refine L0 (wanted_yesB rfl rfl rfl h101) rfl (y_move (v := Value.bool _) rfl rfl) ?_
            refine Lsp (t := 114) rfl (fun h102 => ?_) (fun h102 => ?_)
            · have h102' := h102
              first | replace h102' := of_decide_eq_true h102' | replace h102' := bnT' h102' | skip
              refine Lno (wanted_noB rfl rfl rfl h102 (by decide)) rfl ?_
              refine Lno (wanted_noB rfl rfl rfl h102 (by decide)) rfl ?_
              refine Lno (wanted_noB rfl rfl rfl h102 (by decide)) rfl ?_
              refine L0 (wanted_yesB rfl rfl rfl h101) rfl (y_pickT rfl rfl h102 rfl) ?_
              refine L0 (wanted_yesB rfl rfl rfl h101) rfl (y_move (v := Value.bool _) rfl rfl) ?_
              refine Lno (wanted_noB rfl rfl rfl rfl (by decide)) rfl ?_
              refine Lno (wanted_noB rfl rfl rfl rfl (by decide)) rfl ?_
              refine Lno (wanted_noB rfl rfl rfl rfl (by decide)) rfl ?_
              refine L0 (wanted_yesB rfl rfl rfl h101) rfl (y_pickT rfl rfl (rfl : true = true) rfl) ?_
              refine L0 (wanted_none rfl) rfl (y_pickT rfl rfl h101 rfl) ?_
              refine L0 (wanted_none rfl) rfl (y_assign (v := Value.bool _) rfl rfl) ?_
              refine Lnil ?_
              refine W_ret ?_
              refine fin1 (fn := Tryd.f5) rfl rfl ?_
              first | exact ⟨congrArg Value.bool (by assumption), hs99.drop (.inl hbb9)⟩ | exact ⟨rfl, hs99.drop (.inl hbb9)⟩ | exact ⟨congrArg Value.bool (bnT (by omega)), hs99.drop (.inl hbb9)⟩ | exact ⟨congrArg Value.bool (decide_eq_true (by simp_all)), hs99.drop (.inl hbb9)⟩
            · have h102' := h102
              first | replace h102' := of_decide_eq_false h102' | replace h102' := bnF' h102' | skip
              refine L0 (wanted_yesB rfl rfl rfl h102) rfl (y_move (v := Value.int _ _) rfl rfl) ?_
              refine L0 (wanted_yesB rfl rfl rfl h102) rfl (y_move (v := Value.int _ _) rfl rfl) ?_
              refine L0 (wanted_yesB rfl rfl rfl h102) rfl (y_ne rfl rfl rfl) ?_
              refine L0 (wanted_yesB rfl rfl rfl h101) rfl (y_pickF rfl rfl h102 rfl) ?_
              refine L0 (wanted_yesB rfl rfl rfl h101) rfl (y_move (v := Value.bool _) rfl rfl) ?_
              refine Lkn (t := 119) (b0 := true) rfl (by rfl) (fun h103 => ?_)
              refine Lno (wanted_noB rfl rfl rfl h103 (by decide)) rfl ?_
              refine Lno (wanted_noB rfl rfl rfl h103 (by decide)) rfl ?_
              refine Lno (wanted_noB rfl rfl rfl h103 (by decide)) rfl ?_
              refine L0 (wanted_yesB rfl rfl rfl h101) rfl (y_pickT rfl rfl h103 rfl) ?_
              refine L0 (wanted_none rfl) rfl (y_pickT rfl rfl h101 rfl) ?_
              refine L0 (wanted_none rfl) rfl (y_assign (v := Value.bool _) rfl rfl) ?_
              refine Lnil ?_
              refine W_ret ?_
              refine fin1 (fn := Tryd.f5) rfl rfl ?_
              first | exact ⟨congrArg Value.bool (by assumption), hs99.drop (.inl hbb9)⟩ | exact ⟨rfl, hs99.drop (.inl hbb9)⟩ | exact ⟨congrArg Value.bool (bnT (by omega)), hs99.drop (.inl hbb9)⟩ | exact ⟨congrArg Value.bool (decide_eq_true (by simp_all)), hs99.drop (.inl hbb9)⟩
          · skip
            refine W_region ?_
            refine L0 (wanted_none rfl) rfl (y_move (v := Value.string ⟨⟨_⟩⟩) rfl rfl) ?_
            refine L0 (wanted_none rfl) rfl (y_move (v := Value.int _ _) rfl rfl) ?_
            refine Lc (wanted_none rfl) (c_call rfl rfl rfl Tryd.func26 (by kernel_rfl) rfl (key_lenT t _ _ _ h16t hu2 w94) rfl ?_)
            rintro _ w104 ⟨rfl, hc105⟩
            have hs106 := hs96.call0 hc105
            refine L0 (wanted_none rfl) rfl (y_move (v := Value.tuple ⟨_⟩) rfl rfl) ?_
            refine L0 (wanted_none rfl) rfl (y_extract rfl rfl rfl) ?_
            refine L0 (wanted_none rfl) rfl (y_extract rfl rfl rfl) ?_
            refine L0 (wanted_none rfl) rfl (y_assign (v := Value.string ⟨⟨_⟩⟩) rfl rfl) ?_
            refine L0 (wanted_none rfl) rfl (y_assign (v := _) rfl rfl) ?_
            refine Lnil ?_
            refine W_seq ?_
            refine W_seq ?_
            refine W_region ?_
            refine L0 (wanted_none rfl) rfl (y_move (v := _) rfl rfl) ?_
            refine L0 (wanted_none rfl) rfl (y_neNilNil rfl Tryd.underlying35 rfl) ?_
            refine L0 (wanted_none rfl) rfl (y_move (v := Value.bool _) rfl rfl) ?_
            refine L0 (wanted_yesB rfl rfl rfl rfl) rfl (y_move (v := _) rfl rfl) ?_
            refine L0 (wanted_yesB rfl rfl rfl rfl) rfl (y_neNil rfl Tryd.underlying35 rfl) ?_
            refine L0 (wanted_none rfl) rfl (y_pickF rfl rfl (rfl : false = false) rfl) ?_
            refine Lnil ?_
            refine W_condT rfl rfl ?_
            refine W_seq ?_
            refine W_region ?_
            refine L0 (wanted_none rfl) rfl (y_move (v := Value.string ⟨⟨_⟩⟩) rfl rfl) ?_
            refine L0 (wanted_none rfl) rfl (y_len rfl Tryd.underlying9 rfl) ?_
            refine L0 (wanted_none rfl) rfl (y_ne rfl rfl rfl) ?_
            refine L0 (wanted_none rfl) rfl (y_move (v := Value.bool _) rfl rfl) ?_
            refine Lsp (t := 97) rfl (fun h107 => ?_) (fun h107 => ?_)
            · have h107' := h107
              first | replace h107' := of_decide_eq_true h107' | replace h107' := bnT' h107' | skip
              refine Lno (wanted_noB rfl rfl rfl h107 (by decide)) rfl ?_
              refine Lno (wanted_noB rfl rfl rfl h107 (by decide)) rfl ?_
              refine Lno (wanted_noB rfl rfl rfl h107 (by decide)) rfl ?_
              refine L0 (wanted_none rfl) rfl (y_pickT rfl rfl h107 rfl) ?_
              refine L0 (wanted_none rfl) rfl (y_assign (v := Value.bool _) rfl rfl) ?_
              refine Lnil ?_
              refine W_ret ?_
              refine fin1 (fn := Tryd.f5) rfl rfl ?_
              first | exact ⟨congrArg Value.bool (by assumption), hs106.drop (.inl hbb9)⟩ | exact ⟨rfl, hs106.drop (.inl hbb9)⟩ | exact ⟨congrArg Value.bool (bnT (by omega)), hs106.drop (.inl hbb9)⟩ | exact ⟨congrArg Value.bool (decide_eq_true (by simp_all)), hs106.drop (.inl hbb9)⟩
            · have h107' := h107
              first | replace h107' := of_decide_eq_false h107' | replace h107' := bnF' h107' | skip
              refine L0 (wanted_yesB rfl rfl rfl h107) rfl (y_move (v := Value.string ⟨⟨_⟩⟩) rfl rfl) ?_
              refine L0 (wanted_yesB rfl rfl rfl h107) rfl (y_len rfl Tryd.underlying9 rfl) ?_
              refine L0 (wanted_yesB rfl rfl rfl h107) rfl (y_ne rfl rfl rfl) ?_
              refine L0 (wanted_none rfl) rfl (y_pickF rfl rfl h107 rfl) ?_
              refine L0 (wanted_none rfl) rfl (y_assign (v := Value.bool _) rfl rfl) ?_
              refine Lnil ?_
              refine W_ret ?_
              refine fin1 (fn := Tryd.f5) rfl rfl ?_
              first | exact ⟨congrArg Value.bool (by assumption), hs106.drop (.inl hbb9)⟩ | exact ⟨rfl, hs106.drop (.inl hbb9)⟩ | exact ⟨congrArg Value.bool (bnT (by omega)), hs106.drop (.inl hbb9)⟩ | exact ⟨congrArg Value.bool (decide_eq_true (by simp_all)), hs106.drop (.inl hbb9)⟩
        · skip
          have hu2 := uses_t
          have hw2 : tablesW.length = 6 := rfl
          refine W_region ?_
          refine L0 (wanted_none rfl) rfl (y_move (v := Value.string ⟨⟨_⟩⟩) rfl rfl) ?_
          refine L0 (wanted_none rfl) rfl (y_move (v := Value.int _ _) rfl rfl) ?_
          refine Lc (wanted_none rfl) (c_call rfl rfl rfl Tryd.func26 (by kernel_rfl) rfl (key_lenT s _ _ _ h16s hu1 w12) rfl ?_)
          rintro _ w108 ⟨rfl, hc109⟩
          have hs110 := hs13.call0 hc109
          refine L0 (wanted_none rfl) rfl (y_move (v := Value.tuple ⟨_⟩) rfl rfl) ?_
          refine L0 (wanted_none rfl) rfl (y_extract rfl rfl rfl) ?_
          refine L0 (wanted_none rfl) rfl (y_extract rfl rfl rfl) ?_
          refine L0 (wanted_none rfl) rfl (y_assign (v := Value.string ⟨⟨_⟩⟩) rfl rfl) ?_
          refine L0 (wanted_none rfl) rfl (y_assign (v := _) rfl rfl) ?_
          refine Lnil ?_
          refine W_seq ?_
          by_cases h16t : t.length = 16
          · skip
            refine W_region ?_
            refine L0 (wanted_none rfl) rfl (y_move (v := Value.string ⟨⟨_⟩⟩) rfl rfl) ?_
            refine L0 (wanted_none rfl) rfl (y_move (v := Value.int _ _) rfl rfl) ?_
            refine Lc (wanted_none rfl) (c_call rfl rfl rfl Tryd.func26 (by kernel_rfl) rfl (key_ok t _ _ _ h16t hw2 hu2 w108 (hr.keep hs110 (by have := hbb9; have := hr.1; simp [keys]; omega))) rfl ?_)
            rintro _ w111 ⟨rfl, hc112⟩
            have hs113 := hs110.call0 hc112
            refine L0 (wanted_none rfl) rfl (y_move (v := Value.tuple ⟨_⟩) rfl rfl) ?_
            refine L0 (wanted_none rfl) rfl (y_extract rfl rfl rfl) ?_
            refine L0 (wanted_none rfl) rfl (y_extract rfl rfl rfl) ?_
            refine L0 (wanted_none rfl) rfl (y_assign (v := Value.string ⟨⟨_⟩⟩) rfl rfl) ?_
            refine L0 (wanted_none rfl) rfl (y_assign (v := _) rfl rfl) ?_
            refine Lnil ?_
            refine W_seq ?_
            refine W_seq ?_
            refine W_region ?_
            refine L0 (wanted_none rfl) rfl (y_move (v := _) rfl rfl) ?_
            refine L0 (wanted_none rfl) rfl (y_neNil rfl Tryd.underlying35 rfl) ?_
            refine L0 (wanted_none rfl) rfl (y_move (v := Value.bool _) rfl rfl) ?_
            refine Lno (wanted_noB rfl rfl rfl rfl (by decide)) rfl ?_
            refine Lno (wanted_noB rfl rfl rfl rfl (by decide)) rfl ?_
            refine L0 (wanted_none rfl) rfl (y_pickT rfl rfl (rfl : true = true) rfl) ?_
            refine Lnil ?_
            refine W_condT rfl rfl ?_
            refine W_seq ?_
            refine W_region ?_
            refine L0 (wanted_none rfl) rfl (y_move (v := Value.string ⟨⟨_⟩⟩) rfl rfl) ?_
            refine L0 (wanted_none rfl) rfl (y_len rfl Tryd.underlying9 rfl) ?_
            refine L0 (wanted_none rfl) rfl (y_ne rfl rfl rfl) ?_
            refine L0 (wanted_none rfl) rfl (y_move (v := Value.bool _) rfl rfl) ?_
            refine Lsp (t := 97) rfl (fun h114 => ?_) (fun h114 => ?_)
            · have h114' := h114
              first | replace h114' := of_decide_eq_true h114' | replace h114' := bnT' h114' | skip
              refine Lno (wanted_noB rfl rfl rfl h114 (by decide)) rfl ?_
              refine Lno (wanted_noB rfl rfl rfl h114 (by decide)) rfl ?_
              refine Lno (wanted_noB rfl rfl rfl h114 (by decide)) rfl ?_
              refine L0 (wanted_none rfl) rfl (y_pickT rfl rfl h114 rfl) ?_
              refine L0 (wanted_none rfl) rfl (y_assign (v := Value.bool _) rfl rfl) ?_
              refine Lnil ?_
              refine W_ret ?_
              refine fin1 (fn := Tryd.f5) rfl rfl ?_
              first | exact ⟨congrArg Value.bool (by assumption), hs113.drop (.inl hbb9)⟩ | exact ⟨rfl, hs113.drop (.inl hbb9)⟩ | exact ⟨congrArg Value.bool (bnT (by omega)), hs113.drop (.inl hbb9)⟩ | exact ⟨congrArg Value.bool (decide_eq_true (by simp_all)), hs113.drop (.inl hbb9)⟩
            · have h114' := h114
              first | replace h114' := of_decide_eq_false h114' | replace h114' := bnF' h114' | skip
              refine L0 (wanted_yesB rfl rfl rfl h114) rfl (y_move (v := Value.string ⟨⟨_⟩⟩) rfl rfl) ?_
              refine L0 (wanted_yesB rfl rfl rfl h114) rfl (y_len rfl Tryd.underlying9 rfl) ?_
              refine L0 (wanted_yesB rfl rfl rfl h114) rfl (y_ne rfl rfl rfl) ?_
              refine L0 (wanted_none rfl) rfl (y_pickF rfl rfl h114 rfl) ?_
              refine L0 (wanted_none rfl) rfl (y_assign (v := Value.bool _) rfl rfl) ?_
              refine Lnil ?_
              refine W_ret ?_
              refine fin1 (fn := Tryd.f5) rfl rfl ?_
              first | exact ⟨congrArg Value.bool (by assumption), hs113.drop (.inl hbb9)⟩ | exact ⟨rfl, hs113.drop (.inl hbb9)⟩ | exact ⟨congrArg Value.bool (bnT (by omega)), hs113.drop (.inl hbb9)⟩ | exact ⟨congrArg Value.bool (decide_eq_true (by simp_all)), hs113.drop (.inl hbb9)⟩
          · skip
            refine W_region ?_
            refine L0 (wanted_none rfl) rfl (y_move (v := Value.string ⟨⟨_⟩⟩) rfl rfl) ?_
            refine L0 (wanted_none rfl) rfl (y_move (v := Value.int _ _) rfl rfl) ?_
            refine Lc (wanted_none rfl) (c_call rfl rfl rfl Tryd.func26 (by kernel_rfl) rfl (key_lenT t _ _ _ h16t hu2 w108) rfl ?_)
            rintro _ w115 ⟨rfl, hc116⟩
            have hs117 := hs110.call0 hc116
            refine L0 (wanted_none rfl) rfl (y_move (v := Value.tuple ⟨_⟩) rfl rfl) ?_
            refine L0 (wanted_none rfl) rfl (y_extract rfl rfl rfl) ?_
            refine L0 (wanted_none rfl) rfl (y_extract rfl rfl rfl) ?_
            refine L0 (wanted_none rfl) rfl (y_assign (v := Value.string ⟨⟨_⟩⟩) rfl rfl) ?_
            refine L0 (wanted_none rfl) rfl (y_assign (v := _) rfl rfl) ?_
            refine Lnil ?_
            refine W_seq ?_
            refine W_seq ?_
            refine W_region ?_
            refine L0 (wanted_none rfl) rfl (y_move (v := _) rfl rfl) ?_
            refine L0 (wanted_none rfl) rfl (y_neNil rfl Tryd.underlying35 rfl) ?_
            refine L0 (wanted_none rfl) rfl (y_move (v := Value.bool _) rfl rfl) ?_
            refine Lno (wanted_noB rfl rfl rfl rfl (by decide)) rfl ?_
            refine Lno (wanted_noB rfl rfl rfl rfl (by decide)) rfl ?_
            refine L0 (wanted_none rfl) rfl (y_pickT rfl rfl (rfl : true = true) rfl) ?_
            refine Lnil ?_
            refine W_condT rfl rfl ?_
            refine W_seq ?_
            refine W_region ?_
            refine L0 (wanted_none rfl) rfl (y_move (v := Value.string ⟨⟨_⟩⟩) rfl rfl) ?_
            refine L0 (wanted_none rfl) rfl (y_len rfl Tryd.underlying9 rfl) ?_
            refine L0 (wanted_none rfl) rfl (y_ne rfl rfl rfl) ?_
            refine L0 (wanted_none rfl) rfl (y_move (v := Value.bool _) rfl rfl) ?_
            refine Lsp (t := 97) rfl (fun h118 => ?_) (fun h118 => ?_)
            · have h118' := h118
              first | replace h118' := of_decide_eq_true h118' | replace h118' := bnT' h118' | skip
              refine Lno (wanted_noB rfl rfl rfl h118 (by decide)) rfl ?_
              refine Lno (wanted_noB rfl rfl rfl h118 (by decide)) rfl ?_
              refine Lno (wanted_noB rfl rfl rfl h118 (by decide)) rfl ?_
              refine L0 (wanted_none rfl) rfl (y_pickT rfl rfl h118 rfl) ?_
              refine L0 (wanted_none rfl) rfl (y_assign (v := Value.bool _) rfl rfl) ?_
              refine Lnil ?_
              refine W_ret ?_
              refine fin1 (fn := Tryd.f5) rfl rfl ?_
              first | exact ⟨congrArg Value.bool (by assumption), hs117.drop (.inl hbb9)⟩ | exact ⟨rfl, hs117.drop (.inl hbb9)⟩ | exact ⟨congrArg Value.bool (bnT (by omega)), hs117.drop (.inl hbb9)⟩ | exact ⟨congrArg Value.bool (decide_eq_true (by simp_all)), hs117.drop (.inl hbb9)⟩
            · have h118' := h118
              first | replace h118' := of_decide_eq_false h118' | replace h118' := bnF' h118' | skip
              refine L0 (wanted_yesB rfl rfl rfl h118) rfl (y_move (v := Value.string ⟨⟨_⟩⟩) rfl rfl) ?_
              refine L0 (wanted_yesB rfl rfl rfl h118) rfl (y_len rfl Tryd.underlying9 rfl) ?_
              refine L0 (wanted_yesB rfl rfl rfl h118) rfl (y_ne rfl rfl rfl) ?_
              refine L0 (wanted_none rfl) rfl (y_pickF rfl rfl h118 rfl) ?_
              refine L0 (wanted_none rfl) rfl (y_assign (v := Value.bool _) rfl rfl) ?_
              refine Lnil ?_
              refine W_ret ?_
              refine fin1 (fn := Tryd.f5) rfl rfl ?_
              first | exact ⟨congrArg Value.bool (by assumption), hs117.drop (.inl hbb9)⟩ | exact ⟨rfl, hs117.drop (.inl hbb9)⟩ | exact ⟨congrArg Value.bool (bnT (by omega)), hs117.drop (.inl hbb9)⟩ | exact ⟨congrArg Value.bool (decide_eq_true (by simp_all)), hs117.drop (.inl hbb9)⟩
      · skip
        have hu1 := uses_b
        have hw1 : blocksW.length = 6 := rfl
        refine W_region ?_
        refine L0 (wanted_none rfl) rfl (y_move (v := Value.bool _) rfl rfl) ?_
        refine Lnil ?_
        refine Wkn (t := 75) (b0 := false) rfl (by simpa using hb2x) (fun h119 => ?_)
        refine W_condF rfl h119 ?_
        refine W_skip ?_
        refine W_seq ?_
        by_cases h16s : s.length = 16
        · skip
          have hu2 := uses_b
          have hw2 : blocksW.length = 6 := rfl
          refine W_region ?_
          refine L0 (wanted_none rfl) rfl (y_move (v := Value.string ⟨⟨_⟩⟩) rfl rfl) ?_
          refine L0 (wanted_none rfl) rfl (y_move (v := Value.int _ _) rfl rfl) ?_
          refine Lc (wanted_none rfl) (c_call rfl rfl rfl Tryd.func26 (by kernel_rfl) rfl (key_ok s _ _ _ h16s hw1 hu1 w12 (hr.keep hs13 (by have := hbb9; have := hr.1; simp [keys]; omega))) rfl ?_)
          rintro _ w120 ⟨rfl, hc121⟩
          have hs122 := hs13.call0 hc121
          refine L0 (wanted_none rfl) rfl (y_move (v := Value.tuple ⟨_⟩) rfl rfl) ?_
          refine L0 (wanted_none rfl) rfl (y_extract rfl rfl rfl) ?_
          refine L0 (wanted_none rfl) rfl (y_extract rfl rfl rfl) ?_
          refine L0 (wanted_none rfl) rfl (y_assign (v := Value.string ⟨⟨_⟩⟩) rfl rfl) ?_
          refine L0 (wanted_none rfl) rfl (y_assign (v := _) rfl rfl) ?_
          refine Lnil ?_
          refine W_seq ?_
          by_cases h16t : t.length = 16
          · skip
            refine W_region ?_
            refine L0 (wanted_none rfl) rfl (y_move (v := Value.string ⟨⟨_⟩⟩) rfl rfl) ?_
            refine L0 (wanted_none rfl) rfl (y_move (v := Value.int _ _) rfl rfl) ?_
            refine Lc (wanted_none rfl) (c_call rfl rfl rfl Tryd.func26 (by kernel_rfl) rfl (key_ok t _ _ _ h16t hw2 hu2 w120 (hr.keep hs122 (by have := hbb9; have := hr.1; simp [keys]; omega))) rfl ?_)
            rintro _ w123 ⟨rfl, hc124⟩
            have hs125 := hs122.call0 hc124
            refine L0 (wanted_none rfl) rfl (y_move (v := Value.tuple ⟨_⟩) rfl rfl) ?_
            refine L0 (wanted_none rfl) rfl (y_extract rfl rfl rfl) ?_
            refine L0 (wanted_none rfl) rfl (y_extract rfl rfl rfl) ?_
            refine L0 (wanted_none rfl) rfl (y_assign (v := Value.string ⟨⟨_⟩⟩) rfl rfl) ?_
            refine L0 (wanted_none rfl) rfl (y_assign (v := _) rfl rfl) ?_
            refine Lnil ?_
            refine W_seq ?_
            refine W_seq ?_
            refine W_region ?_
            refine L0 (wanted_none rfl) rfl (y_move (v := _) rfl rfl) ?_
            refine L0 (wanted_none rfl) rfl (y_neNilNil rfl Tryd.underlying35 rfl) ?_
            refine L0 (wanted_none rfl) rfl (y_move (v := Value.bool _) rfl rfl) ?_
            refine L0 (wanted_yesB rfl rfl rfl rfl) rfl (y_move (v := _) rfl rfl) ?_
            refine L0 (wanted_yesB rfl rfl rfl rfl) rfl (y_neNilNil rfl Tryd.underlying35 rfl) ?_
            refine L0 (wanted_none rfl) rfl (y_pickF rfl rfl (rfl : false = false) rfl) ?_
            refine Lnil ?_
            refine W_condF rfl rfl ?_
            refine W_skip ?_
            refine W_seq ?_
            refine W_region ?_
            refine L0 (wanted_none rfl) rfl (y_move (v := Value.string ⟨⟨_⟩⟩) rfl rfl) ?_
            refine L0 (wanted_none rfl) rfl (y_len rfl Tryd.underlying9 rfl) ?_
            refine L0 (wanted_none rfl) rfl (y_eq rfl rfl rfl) ?_
            refine L0 (wanted_none rfl) rfl (y_move (v := Value.bool _) rfl rfl) ?_
            refine Lkn (t := 105) (b0 := true) rfl (by exact decide_eq_true (by rw [keyOf, shaOf_len]; rfl)) (fun h126 => ?_)
            refine L0 (wanted_yesB rfl rfl rfl h126) rfl (y_move (v := Value.string ⟨⟨_⟩⟩) rfl rfl) ?_
            refine L0 (wanted_yesB rfl rfl rfl h126) rfl (y_len rfl Tryd.underlying9 rfl) ?_
            refine L0 (wanted_yesB rfl rfl rfl h126) rfl (y_eq rfl rfl rfl) ?_
            refine L0 (wanted_none rfl) rfl (y_pickT rfl rfl h126 rfl) ?_
            refine L0 (wanted_none rfl) rfl (y_move (v := Value.bool _) rfl rfl) ?_
            refine Lkn (t := 110) (b0 := true) rfl (by exact decide_eq_true (by rw [keyOf, shaOf_len]; rfl)) (fun h127 => ?_)
            refine L0 (wanted_yesB rfl rfl rfl h127) rfl (y_move (v := Value.string ⟨⟨_⟩⟩) rfl rfl) ?_
            refine L0 (wanted_yesB rfl rfl rfl h127) rfl (y_move (v := Value.string ⟨⟨_⟩⟩) rfl rfl) ?_
            refine L0 (wanted_yesB rfl rfl rfl h127) rfl (y_sne rfl rfl rfl) ?_
            refine L0 (wanted_yesB rfl rfl rfl h127) rfl (y_move (v := Value.bool _) rfl rfl) ?_
            refine Lsp (t := 114) rfl (fun h128 => ?_) (fun h128 => ?_)
            · have h128' := h128
              first | replace h128' := of_decide_eq_true h128' | replace h128' := bnT' h128' | skip
              refine Lno (wanted_noB rfl rfl rfl h128 (by decide)) rfl ?_
              refine Lno (wanted_noB rfl rfl rfl h128 (by decide)) rfl ?_
              refine Lno (wanted_noB rfl rfl rfl h128 (by decide)) rfl ?_
              refine L0 (wanted_yesB rfl rfl rfl h127) rfl (y_pickT rfl rfl h128 rfl) ?_
              refine L0 (wanted_yesB rfl rfl rfl h127) rfl (y_move (v := Value.bool _) rfl rfl) ?_
              refine Lno (wanted_noB rfl rfl rfl rfl (by decide)) rfl ?_
              refine Lno (wanted_noB rfl rfl rfl rfl (by decide)) rfl ?_
              refine Lno (wanted_noB rfl rfl rfl rfl (by decide)) rfl ?_
              refine L0 (wanted_yesB rfl rfl rfl h127) rfl (y_pickT rfl rfl (rfl : true = true) rfl) ?_
              refine L0 (wanted_none rfl) rfl (y_pickT rfl rfl h127 rfl) ?_
              refine L0 (wanted_none rfl) rfl (y_assign (v := Value.bool _) rfl rfl) ?_
              refine Lnil ?_
              refine W_ret ?_
              refine fin1 (fn := Tryd.f5) rfl rfl ?_
              first | exact ⟨congrArg Value.bool (by assumption), hs125.drop (.inl hbb9)⟩ | exact ⟨rfl, hs125.drop (.inl hbb9)⟩ | exact ⟨congrArg Value.bool (bnT (by omega)), hs125.drop (.inl hbb9)⟩ | exact ⟨congrArg Value.bool (decide_eq_true (by simp_all)), hs125.drop (.inl hbb9)⟩
            · have h128' := h128
              first | replace h128' := of_decide_eq_false h128' | replace h128' := bnF' h128' | skip
              refine L0 (wanted_yesB rfl rfl rfl h128) rfl (y_move (v := Value.int _ _) rfl rfl) ?_
              refine L0 (wanted_yesB rfl rfl rfl h128) rfl (y_move (v := Value.int _ _) rfl rfl) ?_
              refine L0 (wanted_yesB rfl rfl rfl h128) rfl (y_ne rfl rfl rfl) ?_
              refine L0 (wanted_yesB rfl rfl rfl h127) rfl (y_pickF rfl rfl h128 rfl) ?_
              refine L0 (wanted_yesB rfl rfl rfl h127) rfl (y_move (v := Value.bool _) rfl rfl) ?_
              refine Lkn (t := 119) (b0 := false) rfl (by rfl) (fun h129 => ?_)
              refine L0 (wanted_yesB rfl rfl rfl h129) rfl (y_move (v := Value.string ⟨⟨_⟩⟩) rfl rfl) ?_
              refine L0 (wanted_yesB rfl rfl rfl h129) rfl (y_move (v := Value.string ⟨⟨_⟩⟩) rfl rfl) ?_
              refine L0 (wanted_yesB rfl rfl rfl h129) rfl (y_seq rfl rfl rfl) ?_
              refine L0 (wanted_yesB rfl rfl rfl h127) rfl (y_pickF rfl rfl h129 rfl) ?_
              refine L0 (wanted_none rfl) rfl (y_pickT rfl rfl h127 rfl) ?_
              refine L0 (wanted_none rfl) rfl (y_assign (v := Value.bool _) rfl rfl) ?_
              refine Lnil ?_
              refine W_ret ?_
              refine fin1 (fn := Tryd.f5) rfl rfl ?_
              first | exact ⟨congrArg Value.bool (by assumption), hs125.drop (.inl hbb9)⟩ | exact ⟨rfl, hs125.drop (.inl hbb9)⟩ | exact ⟨congrArg Value.bool (bnT (by omega)), hs125.drop (.inl hbb9)⟩ | exact ⟨congrArg Value.bool (decide_eq_true (by simp_all)), hs125.drop (.inl hbb9)⟩
          · skip
            refine W_region ?_
            refine L0 (wanted_none rfl) rfl (y_move (v := Value.string ⟨⟨_⟩⟩) rfl rfl) ?_
            refine L0 (wanted_none rfl) rfl (y_move (v := Value.int _ _) rfl rfl) ?_
            refine Lc (wanted_none rfl) (c_call rfl rfl rfl Tryd.func26 (by kernel_rfl) rfl (key_lenT t _ _ _ h16t hu2 w120) rfl ?_)
            rintro _ w130 ⟨rfl, hc131⟩
            have hs132 := hs122.call0 hc131
            refine L0 (wanted_none rfl) rfl (y_move (v := Value.tuple ⟨_⟩) rfl rfl) ?_
            refine L0 (wanted_none rfl) rfl (y_extract rfl rfl rfl) ?_
            refine L0 (wanted_none rfl) rfl (y_extract rfl rfl rfl) ?_
            refine L0 (wanted_none rfl) rfl (y_assign (v := Value.string ⟨⟨_⟩⟩) rfl rfl) ?_
            refine L0 (wanted_none rfl) rfl (y_assign (v := _) rfl rfl) ?_
            refine Lnil ?_
            refine W_seq ?_
            refine W_seq ?_
            refine W_region ?_
            refine L0 (wanted_none rfl) rfl (y_move (v := _) rfl rfl) ?_
            refine L0 (wanted_none rfl) rfl (y_neNilNil rfl Tryd.underlying35 rfl) ?_
            refine L0 (wanted_none rfl) rfl (y_move (v := Value.bool _) rfl rfl) ?_
            refine L0 (wanted_yesB rfl rfl rfl rfl) rfl (y_move (v := _) rfl rfl) ?_
            refine L0 (wanted_yesB rfl rfl rfl rfl) rfl (y_neNil rfl Tryd.underlying35 rfl) ?_
            refine L0 (wanted_none rfl) rfl (y_pickF rfl rfl (rfl : false = false) rfl) ?_
            refine Lnil ?_
            refine W_condT rfl rfl ?_
            refine W_seq ?_
            refine W_region ?_
            refine L0 (wanted_none rfl) rfl (y_move (v := Value.string ⟨⟨_⟩⟩) rfl rfl) ?_
            refine L0 (wanted_none rfl) rfl (y_len rfl Tryd.underlying9 rfl) ?_
            refine L0 (wanted_none rfl) rfl (y_ne rfl rfl rfl) ?_
            refine L0 (wanted_none rfl) rfl (y_move (v := Value.bool _) rfl rfl) ?_
            refine Lsp (t := 97) rfl (fun h133 => ?_) (fun h133 => ?_)
            · have h133' := h133
              first | replace h133' := of_decide_eq_true h133' | replace h133' := bnT' h133' | skip
              refine Lno (wanted_noB rfl rfl rfl h133 (by decide)) rfl ?_
              refine Lno (wanted_noB rfl rfl rfl h133 (by decide)) rfl ?_
              refine Lno (wanted_noB rfl rfl rfl h133 (by decide)) rfl ?_
              refine L0 (wanted_none rfl) rfl (y_pickT rfl rfl h133 rfl) ?_
              refine L0 (wanted_none rfl) rfl (y_assign (v := Value.bool _) rfl rfl) ?_
              refine Lnil ?_
              refine W_ret ?_
              refine fin1 (fn := Tryd.f5) rfl rfl ?_
              first | exact ⟨congrArg Value.bool (by assumption), hs132.drop (.inl hbb9)⟩ | exact ⟨rfl, hs132.drop (.inl hbb9)⟩ | exact ⟨congrArg Value.bool (bnT (by omega)), hs132.drop (.inl hbb9)⟩ | exact ⟨congrArg Value.bool (decide_eq_true (by simp_all)), hs132.drop (.inl hbb9)⟩
            · have h133' := h133
              first | replace h133' := of_decide_eq_false h133' | replace h133' := bnF' h133' | skip
              refine L0 (wanted_yesB rfl rfl rfl h133) rfl (y_move (v := Value.string ⟨⟨_⟩⟩) rfl rfl) ?_
              refine L0 (wanted_yesB rfl rfl rfl h133) rfl (y_len rfl Tryd.underlying9 rfl) ?_
              refine L0 (wanted_yesB rfl rfl rfl h133) rfl (y_ne rfl rfl rfl) ?_
              refine L0 (wanted_none rfl) rfl (y_pickF rfl rfl h133 rfl) ?_
              refine L0 (wanted_none rfl) rfl (y_assign (v := Value.bool _) rfl rfl) ?_
              refine Lnil ?_
              refine W_ret ?_
              refine fin1 (fn := Tryd.f5) rfl rfl ?_
              first | exact ⟨congrArg Value.bool (by assumption), hs132.drop (.inl hbb9)⟩ | exact ⟨rfl, hs132.drop (.inl hbb9)⟩ | exact ⟨congrArg Value.bool (bnT (by omega)), hs132.drop (.inl hbb9)⟩ | exact ⟨congrArg Value.bool (decide_eq_true (by simp_all)), hs132.drop (.inl hbb9)⟩
        · skip
          have hu2 := uses_b
          have hw2 : blocksW.length = 6 := rfl
          refine W_region ?_
          refine L0 (wanted_none rfl) rfl (y_move (v := Value.string ⟨⟨_⟩⟩) rfl rfl) ?_
          refine L0 (wanted_none rfl) rfl (y_move (v := Value.int _ _) rfl rfl) ?_
          refine Lc (wanted_none rfl) (c_call rfl rfl rfl Tryd.func26 (by kernel_rfl) rfl (key_lenT s _ _ _ h16s hu1 w12) rfl ?_)
          rintro _ w134 ⟨rfl, hc135⟩
          have hs136 := hs13.call0 hc135
          refine L0 (wanted_none rfl) rfl (y_move (v := Value.tuple ⟨_⟩) rfl rfl) ?_
          refine L0 (wanted_none rfl) rfl (y_extract rfl rfl rfl) ?_
          refine L0 (wanted_none rfl) rfl (y_extract rfl rfl rfl) ?_
          refine L0 (wanted_none rfl) rfl (y_assign (v := Value.string ⟨⟨_⟩⟩) rfl rfl) ?_
          refine L0 (wanted_none rfl) rfl (y_assign (v := _) rfl rfl) ?_
          refine Lnil ?_
          refine W_seq ?_
          by_cases h16t : t.length = 16
          · skip
            refine W_region ?_
            refine L0 (wanted_none rfl) rfl (y_move (v := Value.string ⟨⟨_⟩⟩) rfl rfl) ?_
            refine L0 (wanted_none rfl) rfl (y_move (v := Value.int _ _) rfl rfl) ?_
            refine Lc (wanted_none rfl) (c_call rfl rfl rfl Tryd.func26 (by kernel_rfl) rfl (key_ok t _ _ _ h16t hw2 hu2 w134 (hr.keep hs136 (by have := hbb9; have := hr.1; simp [keys]; omega))) rfl ?_)
            rintro _ w137 ⟨rfl, hc138⟩
            have hs139 := hs136.call0 hc138
            refine L0 (wanted_none rfl) rfl (y_move (v := Value.tuple ⟨_⟩) rfl rfl) ?_
            refine L0 (wanted_none rfl) rfl (y_extract rfl rfl rfl) ?_
            refine L0 (wanted_none rfl) rfl (y_extract rfl rfl rfl) ?_
            refine L0 (wanted_none rfl) rfl (y_assign (v := Value.string ⟨⟨_⟩⟩) rfl rfl) ?_
            refine L0 (wanted_none rfl) rfl (y_assign (v := _) rfl rfl) ?_
            refine Lnil ?_
            refine W_seq ?_
            refine W_seq ?_
            refine W_region ?_
            refine L0 (wanted_none rfl) rfl (y_move (v := _) rfl rfl) ?_
            refine L0 (wanted_none rfl) rfl (y_neNil rfl Tryd.underlying35 rfl) ?_
            refine L0 (wanted_none rfl) rfl (y_move (v := Value.bool _) rfl rfl) ?_
            refine Lno (wanted_noB rfl rfl rfl rfl (by decide)) rfl ?_
            refine Lno (wanted_noB rfl rfl rfl rfl (by decide)) rfl ?_
            refine L0 (wanted_none rfl) rfl (y_pickT rfl rfl (rfl : true = true) rfl) ?_
            refine Lnil ?_
            refine W_condT rfl rfl ?_
            refine W_seq ?_
            refine W_region ?_
            refine L0 (wanted_none rfl) rfl (y_move (v := Value.string ⟨⟨_⟩⟩) rfl rfl) ?_
            refine L0 (wanted_none rfl) rfl (y_len rfl Tryd.underlying9 rfl) ?_
            refine L0 (wanted_none rfl) rfl (y_ne rfl rfl rfl) ?_
            refine L0 (wanted_none rfl) rfl (y_move (v := Value.bool _) rfl rfl) ?_
            refine Lsp (t := 97) rfl (fun h140 => ?_) (fun h140 => ?_)
            · have h140' := h140
              first | replace h140' := of_decide_eq_true h140' | replace h140' := bnT' h140' | skip
              refine Lno (wanted_noB rfl rfl rfl h140 (by decide)) rfl ?_
              refine Lno (wanted_noB rfl rfl rfl h140 (by decide)) rfl ?_
              refine Lno (wanted_noB rfl rfl rfl h140 (by decide)) rfl ?_
              refine L0 (wanted_none rfl) rfl (y_pickT rfl rfl h140 rfl) ?_
              refine L0 (wanted_none rfl) rfl (y_assign (v := Value.bool _) rfl rfl) ?_
              refine Lnil ?_
              refine W_ret ?_
              refine fin1 (fn := Tryd.f5) rfl rfl ?_
              first | exact ⟨congrArg Value.bool (by assumption), hs139.drop (.inl hbb9)⟩ | exact ⟨rfl, hs139.drop (.inl hbb9)⟩ | exact ⟨congrArg Value.bool (bnT (by omega)), hs139.drop (.inl hbb9)⟩ | exact ⟨congrArg Value.bool (decide_eq_true (by simp_all)), hs139.drop (.inl hbb9)⟩
            · have h140' := h140
              first | replace h140' := of_decide_eq_false h140' | replace h140' := bnF' h140' | skip
              refine L0 (wanted_yesB rfl rfl rfl h140) rfl (y_move (v := Value.string ⟨⟨_⟩⟩) rfl rfl) ?_
              refine L0 (wanted_yesB rfl rfl rfl h140) rfl (y_len rfl Tryd.underlying9 rfl) ?_
              refine L0 (wanted_yesB rfl rfl rfl h140) rfl (y_ne rfl rfl rfl) ?_
              refine L0 (wanted_none rfl) rfl (y_pickF rfl rfl h140 rfl) ?_
              refine L0 (wanted_none rfl) rfl (y_assign (v := Value.bool _) rfl rfl) ?_
              refine Lnil ?_
              refine W_ret ?_
              refine fin1 (fn := Tryd.f5) rfl rfl ?_
              first | exact ⟨congrArg Value.bool (by assumption), hs139.drop (.inl hbb9)⟩ | exact ⟨rfl, hs139.drop (.inl hbb9)⟩ | exact ⟨congrArg Value.bool (bnT (by omega)), hs139.drop (.inl hbb9)⟩ | exact ⟨congrArg Value.bool (decide_eq_true (by simp_all)), hs139.drop (.inl hbb9)⟩
          · skip
            refine W_region ?_
            refine L0 (wanted_none rfl) rfl (y_move (v := Value.string ⟨⟨_⟩⟩) rfl rfl) ?_
            refine L0 (wanted_none rfl) rfl (y_move (v := Value.int _ _) rfl rfl) ?_
            refine Lc (wanted_none rfl) (c_call rfl rfl rfl Tryd.func26 (by kernel_rfl) rfl (key_lenT t _ _ _ h16t hu2 w134) rfl ?_)
            rintro _ w141 ⟨rfl, hc142⟩
            have hs143 := hs136.call0 hc142
            refine L0 (wanted_none rfl) rfl (y_move (v := Value.tuple ⟨_⟩) rfl rfl) ?_
            refine L0 (wanted_none rfl) rfl (y_extract rfl rfl rfl) ?_
            refine L0 (wanted_none rfl) rfl (y_extract rfl rfl rfl) ?_
            refine L0 (wanted_none rfl) rfl (y_assign (v := Value.string ⟨⟨_⟩⟩) rfl rfl) ?_
            refine L0 (wanted_none rfl) rfl (y_assign (v := _) rfl rfl) ?_
            refine Lnil ?_
            refine W_seq ?_
            refine W_seq ?_
            refine W_region ?_
            refine L0 (wanted_none rfl) rfl (y_move (v := _) rfl rfl) ?_
            refine L0 (wanted_none rfl) rfl (y_neNil rfl Tryd.underlying35 rfl) ?_
            refine L0 (wanted_none rfl) rfl (y_move (v := Value.bool _) rfl rfl) ?_
            refine Lno (wanted_noB rfl rfl rfl rfl (by decide)) rfl ?_
            refine Lno (wanted_noB rfl rfl rfl rfl (by decide)) rfl ?_
            refine L0 (wanted_none rfl) rfl (y_pickT rfl rfl (rfl : true = true) rfl) ?_
            refine Lnil ?_
            refine W_condT rfl rfl ?_
            refine W_seq ?_
            refine W_region ?_
            refine L0 (wanted_none rfl) rfl (y_move (v := Value.string ⟨⟨_⟩⟩) rfl rfl) ?_
            refine L0 (wanted_none rfl) rfl (y_len rfl Tryd.underlying9 rfl) ?_
            refine L0 (wanted_none rfl) rfl (y_ne rfl rfl rfl) ?_
            refine L0 (wanted_none rfl) rfl (y_move (v := Value.bool _) rfl rfl) ?_
            refine Lsp (t := 97) rfl (fun h144 => ?_) (fun h144 => ?_)
            · have h144' := h144
              first | replace h144' := of_decide_eq_true h144' | replace h144' := bnT' h144' | skip
              refine Lno (wanted_noB rfl rfl rfl h144 (by decide)) rfl ?_
              refine Lno (wanted_noB rfl rfl rfl h144 (by decide)) rfl ?_
              refine Lno (wanted_noB rfl rfl rfl h144 (by decide)) rfl ?_
              refine L0 (wanted_none rfl) rfl (y_pickT rfl rfl h144 rfl) ?_
              refine L0 (wanted_none rfl) rfl (y_assign (v := Value.bool _) rfl rfl) ?_
              refine Lnil ?_
              refine W_ret ?_
              refine fin1 (fn := Tryd.f5) rfl rfl ?_
              first | exact ⟨congrArg Value.bool (by assumption), hs143.drop (.inl hbb9)⟩ | exact ⟨rfl, hs143.drop (.inl hbb9)⟩ | exact ⟨congrArg Value.bool (bnT (by omega)), hs143.drop (.inl hbb9)⟩ | exact ⟨congrArg Value.bool (decide_eq_true (by simp_all)), hs143.drop (.inl hbb9)⟩
            · have h144' := h144
              first | replace h144' := of_decide_eq_false h144' | replace h144' := bnF' h144' | skip
              refine L0 (wanted_yesB rfl rfl rfl h144) rfl (y_move (v := Value.string ⟨⟨_⟩⟩) rfl rfl) ?_
              refine L0 (wanted_yesB rfl rfl rfl h144) rfl (y_len rfl Tryd.underlying9 rfl) ?_
              refine L0 (wanted_yesB rfl rfl rfl h144) rfl (y_ne rfl rfl rfl) ?_
              refine L0 (wanted_none rfl) rfl (y_pickF rfl rfl h144 rfl) ?_
              refine L0 (wanted_none rfl) rfl (y_assign (v := Value.bool _) rfl rfl) ?_
              refine Lnil ?_
              refine W_ret ?_
              refine fin1 (fn := Tryd.f5) rfl rfl ?_
              first | exact ⟨congrArg Value.bool (by assumption), hs143.drop (.inl hbb9)⟩ | exact ⟨rfl, hs143.drop (.inl hbb9)⟩ | exact ⟨congrArg Value.bool (bnT (by omega)), hs143.drop (.inl hbb9)⟩ | exact ⟨congrArg Value.bool (decide_eq_true (by simp_all)), hs143.drop (.inl hbb9)⟩
end Go.Proofs.YtkolfgmpmnelmaaDoor

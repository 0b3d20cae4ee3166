/-
  Walks: law.SumTells; what a row's list gives, wherever it stands in the list.
-/
import Derived.Test.YtkolfgmpmnelmaaDoorF1
import Derived.Test.YtkolfgmpmnelmaaDoorVm
import Derived.Test.YtkolfgmpmnelmaaDoorL1
import Derived.Test.YtkolfgmpmnelmaaDoorH8
namespace Go.Proofs.YtkolfgmpmnelmaaDoor
open Go Vx Go.Proofs
set_option linter.unusedVariables false
set_option maxRecDepth 4000
set_option maxHeartbeats 400000

theorem tells_long (s : List UInt8) (n : Int) (c : UInt8) (l : List (List UInt8)) (va : Value) (h : 400 < s.length ∨ 10 < l.length) (w : World) (hSa : Sl w va l.length (strs l)) :
    C Tryd.prog 7 ⟨[str s, iv n, bv c, va]⟩ w fun v w' => v = .bool true ∧ St w [] w' := by
  refine C_enter (n := 61) Tryd.func7 rfl rfl rfl (fun w1 hs1 => ?_)
  refine W_seq ?_
  refine W_region ?_
  refine L0 (wanted_none rfl) rfl (y_assign (v := Value.bool _) rfl rfl) ?_
  refine Lnil ?_
  refine W_seq ?_
  refine W_seq ?_
  refine W_region ?_
  refine L0 (wanted_none rfl) rfl (y_move (v := Value.string ⟨⟨_⟩⟩) rfl rfl) ?_
  refine L0 (wanted_none rfl) rfl (y_len rfl Tryd.underlying9 rfl) ?_
  refine L0 (wanted_none rfl) rfl (y_gt rfl rfl rfl) ?_
  refine L0 (wanted_none rfl) rfl (y_move (v := Value.bool _) rfl rfl) ?_
  refine Lsp (t := 14) rfl (fun h2 => ?_) (fun h2 => ?_)
  · have h2' := h2
    first | replace h2' := of_decide_eq_true h2' | replace h2' := bnT' h2' | skip
    refine Lno (wanted_noB rfl rfl rfl h2 (by decide)) rfl ?_
    refine Lno (wanted_noB rfl rfl rfl h2 (by decide)) rfl ?_
    refine Lno (wanted_noB rfl rfl rfl h2 (by decide)) rfl ?_
    refine L0 (wanted_none rfl) rfl (y_pickT rfl rfl h2 rfl) ?_
    refine Lnil ?_
    refine W_condT rfl rfl ?_
    refine W_seq ?_
    refine W_region ?_
    refine L0 (wanted_none rfl) rfl (y_assign (v := Value.bool _) rfl rfl) ?_
    refine Lnil ?_
    refine W_ret ?_
    refine fin1 (fn := Tryd.f7) rfl rfl ?_
    exact ⟨rfl, hs1⟩
  · have h2' := h2
    first | replace h2' := of_decide_eq_false h2' | replace h2' := bnF' h2' | skip
    refine L0 (wanted_yesB rfl rfl rfl h2) rfl (y_move (v := va) rfl rfl) ?_
    refine L0 (wanted_yesB rfl rfl rfl h2) rfl (y_slenSl rfl Tryd.underlying22 rfl hSa) ?_
    refine L0 (wanted_yesB rfl rfl rfl h2) rfl (y_gt rfl rfl rfl) ?_
    refine L0 (wanted_none rfl) rfl (y_pickF rfl rfl h2 rfl) ?_
    refine Lnil ?_
    refine Wkn (t := 18) (b0 := true) rfl (by first | exact decide_eq_true (by omega) | exact bnT (by omega) | (simp; omega)) (fun h3 => ?_)
    refine W_condT rfl h3 ?_
    refine W_seq ?_
    refine W_region ?_
    refine L0 (wanted_none rfl) rfl (y_assign (v := Value.bool _) rfl rfl) ?_
    refine Lnil ?_
    refine W_ret ?_
    refine fin1 (fn := Tryd.f7) rfl rfl ?_
    exact ⟨rfl, hs1⟩
theorem short60 {l : List (List UInt8)} {i : Nat} (h : ∀ j, j < i → (l.getD j []).length ≤ 60) (hi : i = l.length) : ∀ s ∈ l, s.length ≤ 100 := by
  intro s hs
  obtain ⟨j, hj, rfl⟩ := List.getElem_of_mem hs
  have := h j (by omega)
  rw [List.getD_eq_getElem?_getD, List.getElem?_eq_getElem hj] at this
  simp only [Option.getD_some] at this; omega
theorem tells_any (s : List UInt8) (n : Int) (c : UInt8) (l : List (List UInt8)) (va : Value) (h1 : s.length ≤ 400) (h2 : l.length ≤ 10) (w : World) (hr : RoundsAt w) (hT : TabAt w) (hSa : Sl w va l.length (strs l)) :
    C Tryd.prog 7 ⟨[str s, iv n, bv c, va]⟩ w fun v w' => v = .bool true ∧ St w [] w' := by
  have hrl := hr.1
  have htl := hT.lt
  refine C_enter (n := 61) Tryd.func7 rfl rfl rfl (fun w1 hs1 => ?_)
  refine W_seq ?_
  refine W_region ?_
  refine L0 (wanted_none rfl) rfl (y_assign (v := Value.bool _) rfl rfl) ?_
  refine Lnil ?_
  refine W_seq ?_
  refine W_seq ?_
  refine W_region ?_
  refine L0 (wanted_none rfl) rfl (y_move (v := Value.string ⟨⟨_⟩⟩) rfl rfl) ?_
  refine L0 (wanted_none rfl) rfl (y_len rfl Tryd.underlying9 rfl) ?_
  refine L0 (wanted_none rfl) rfl (y_gt rfl rfl rfl) ?_
  refine L0 (wanted_none rfl) rfl (y_move (v := Value.bool _) rfl rfl) ?_
  refine Lkn (t := 14) (b0 := false) rfl (by first | exact decide_eq_false (by omega) | exact bnF (by omega) | (simp; omega)) (fun h2 => ?_)
  refine L0 (wanted_yesB rfl rfl rfl h2) rfl (y_move (v := va) rfl rfl) ?_
  refine L0 (wanted_yesB rfl rfl rfl h2) rfl (y_slenSl rfl Tryd.underlying22 rfl hSa) ?_
  refine L0 (wanted_yesB rfl rfl rfl h2) rfl (y_gt rfl rfl rfl) ?_
  refine L0 (wanted_none rfl) rfl (y_pickF rfl rfl h2 rfl) ?_
  refine Lnil ?_
  refine Wkn (t := 18) (b0 := false) rfl (by first | exact decide_eq_false (by omega) | exact bnF (by omega) | (simp; omega)) (fun h3 => ?_)
  refine W_condF rfl h3 ?_
  refine W_skip ?_
  refine W_seq ?_
  refine W_seq ?_
  refine W_region ?_
  refine L0 (wanted_none rfl) rfl (y_assign (v := Value.int _ _) rfl rfl) ?_
  refine Lnil ?_
  refine W_block ?_
  refine W_loop (G := Nat) (fun i aL wl => ∃ e, aL = A 61 ((9, iv i) :: (0, str s) :: (1, iv n) :: (2, bv c) :: (3, va) :: e) ∧ i ≤ l.length ∧ (∀ j, j < i → (l.getD j []).length ≤ 60) ∧ St w [] wl) (fun i => l.length - i) (0) ?_ ?_
  · exact ⟨_, A_pins _ _ [9, 0, 1, 2, 3], by omega, fun _ h => absurd h (Nat.not_lt_zero _), hs1⟩
  rintro i _ w4 ⟨ehs5, rfl, hi, hsh, hs5⟩
  refine W_seq ?_
  refine W_seq ?_
  refine W_region ?_
  refine L0 (wanted_none rfl) rfl (y_move (v := Value.int _ _) rfl rfl) ?_
  refine L0 (wanted_none rfl) rfl (y_move (v := va) rfl rfl) ?_
  refine L0 (wanted_none rfl) rfl (y_slenSl rfl Tryd.underlying22 rfl hSa) ?_
  refine L0 (wanted_none rfl) rfl (y_lt rfl rfl rfl) ?_
  refine Lnil ?_
  refine Wsp (t := 22) rfl (fun h6 => ?_) (fun h6 => ?_)
  · have h6' := h6
    first | replace h6' := of_decide_eq_true h6' | replace h6' := bnT' h6' | skip
    refine W_condT rfl h6 ?_
    refine W_skip ?_
    refine W_seq ?_
    refine W_block ?_
    refine W_seq ?_
    refine W_region ?_
    refine L0 (wanted_none rfl) rfl (y_move (v := va) rfl rfl) ?_
    refine L0 (wanted_none rfl) rfl (y_move (v := Value.int _ _) rfl rfl) ?_
    refine L0 (wanted_none rfl) rfl (y_indexSlAt rfl Tryd.underlying22 sz9 rfl rfl hSa (by omega) (by omega)) ?_
    refine L1 (wanted_none rfl) rfl hs5 (y_loadSl i rfl Tryd.underlying9 rfl rfl hSa (by omega) (by omega) (by intro k hk; first | (simp [keys] at hk; done) | (simp [keys] at hk; omega))) ?_
    refine Lc (wanted_none rfl) (c_call rfl rfl rfl Tryd.func17 (by kernel_rfl) rfl (long_any _ w4) rfl ?_)
    rintro _ w7 ⟨rfl, hc8⟩
    have hs9 := hs5.call0 hc8
    refine Lnil ?_
    refine Wsp (t := 29) rfl (fun h10 => ?_) (fun h10 => ?_)
    · have h10' := h10
      first | replace h10' := of_decide_eq_true h10' | replace h10' := bnT' h10' | skip
      refine W_condT rfl h10 ?_
      refine W_seq ?_
      refine W_region ?_
      refine L0 (wanted_none rfl) rfl (y_assign (v := Value.bool _) rfl rfl) ?_
      refine Lnil ?_
      refine W_ret ?_
      refine fin1 (fn := Tryd.f7) rfl rfl ?_
      first | exact ⟨rfl, hs9⟩ | exact ⟨congrArg Value.bool (decide_eq_true rfl), hs9.drop (.inl hrbw)⟩
    · have h10' := h10
      first | replace h10' := of_decide_eq_false h10' | replace h10' := bnF' h10' | skip
      refine W_condF rfl h10 ?_
      refine W_skip ?_
      refine W_region ?_
      refine L0 (wanted_none rfl) rfl (y_move (v := Value.int _ _) rfl rfl) ?_
      refine L0 (wanted_none rfl) rfl (y_add64 rfl rfl rfl (by omega)) ?_
      refine L0 (wanted_none rfl) rfl (y_assign (v := Value.int _ _) rfl rfl) ?_
      refine Lnil ?_
      have hsh2 : ∀ j, j < i + 1 → (l.getD j []).length ≤ 60 := fun j hj => by
        rcases Nat.lt_or_ge j i with h | h
        · exact hsh j h
        · obtain rfl : j = i := by omega
          omega
      exact ⟨i + 1, by (try dsimp only); omega, _, A_c (iv_eq (by (try dsimp only); omega)) (A_c rfl (A_c rfl (A_c rfl (A_c rfl (rfl))))), by omega, hsh2, hs9⟩
  · have h6' := h6
    first | replace h6' := of_decide_eq_false h6' | replace h6' := bnF' h6' | skip
    refine W_condF rfl h6 ?_
    refine W_exit ?_
    refine W_seq ?_
    have hil : i = l.length := by omega
    have sl := short60 hsh hil
    have hbig := markS_len c l sl (by omega)
    refine W_region ?_
    refine Lc (wanted_none rfl) (c_call rfl rfl rfl Tryd.func27 (by kernel_rfl) rfl (new_any w4) rfl ?_)
    rintro _ w11 ⟨rb, rfl, hrb, hc12⟩
    have hrbw : w.heap.size ≤ rb := Nat.le_trans hs5.size hrb
    have hs13 := hs5.call_new hc12 (fun k hk => by simp [keys] at hk; omega)
    refine L0 (wanted_none rfl) rfl (y_assign (v := Value.pointer _) rfl rfl) ?_
    refine Lnil ?_
    refine W_seq ?_
    refine W_region ?_
    refine L0 (wanted_none rfl) rfl (y_move (v := Value.string ⟨⟨_⟩⟩) rfl rfl) ?_
    refine Lc (wanted_none rfl) (c_call rfl rfl rfl Tryd.func14 (by kernel_rfl) rfl (sum_any s (by omega) w11 (hr.keep hs13 (by simp [keys]; omega))) rfl ?_)
    rintro _ w14 ⟨rfl, hc15⟩
    have hs16 := hs13.call0 hc15
    refine L0 (wanted_none rfl) rfl (y_move (v := Value.pointer _) rfl rfl) ?_
    refine L0 (wanted_none rfl) rfl (y_move (v := Value.string ⟨⟨_⟩⟩) rfl rfl) ?_
    refine Lc (wanted_none rfl) (c_call rfl rfl rfl Tryd.func29 (by kernel_rfl) rfl (rsum_any s (by omega) rb w14 (hs16.get 0 rfl)) rfl ?_)
    rintro _ w17 ⟨rfl, hc18⟩
    have hs19 := hs16.call0 hc18
    refine L0 (wanted_none rfl) rfl (y_seq rfl rfl rfl) ?_
    refine L0 (wanted_none rfl) rfl (y_move (v := Value.bool _) rfl rfl) ?_
    refine Lkn (t := 37) (b0 := true) rfl (by exact decide_eq_true rfl) (fun h20 => ?_)
    refine L0 (wanted_yesB rfl rfl rfl h20) rfl (y_move (v := Value.string ⟨⟨_⟩⟩) rfl rfl) ?_
    refine Lc (wanted_yesB rfl rfl rfl h20) (c_call rfl rfl rfl Tryd.func30 (by kernel_rfl) rfl (hex_any s (by omega) w17) rfl ?_)
    rintro _ w21 ⟨rfl, hc22⟩
    have hs23 := hs19.call0 hc22
    refine L0 (wanted_yesB rfl rfl rfl h20) rfl (y_move (v := Value.string ⟨⟨_⟩⟩) rfl rfl) ?_
    refine Lc (wanted_yesB rfl rfl rfl h20) (c_call rfl rfl rfl Tryd.func31 (by kernel_rfl) rfl (rhex_any s (by omega) w21 (hT.keep hs23 (by simp [keys]; omega))) rfl ?_)
    rintro _ w24 ⟨rfl, hc25⟩
    have hs26 := hs23.call0 hc25
    refine L0 (wanted_yesB rfl rfl rfl h20) rfl (y_seq rfl rfl rfl) ?_
    refine L0 (wanted_none rfl) rfl (y_pickT rfl rfl h20 rfl) ?_
    refine L0 (wanted_none rfl) rfl (y_move (v := Value.bool _) rfl rfl) ?_
    refine Lkn (t := 44) (b0 := true) rfl (by exact decide_eq_true rfl) (fun h27 => ?_)
    refine L0 (wanted_yesB rfl rfl rfl h27) rfl (y_move (v := Value.int _ _) rfl rfl) ?_
    refine Lc (wanted_yesB rfl rfl rfl h27) (c_call rfl rfl rfl Tryd.func32 (by kernel_rfl) rfl (num_any n w24) rfl ?_)
    rintro _ w28 ⟨rfl, hc29⟩
    have hs30 := hs26.call0 hc29
    refine L0 (wanted_yesB rfl rfl rfl h27) rfl (y_move (v := Value.int _ _) rfl rfl) ?_
    refine Lc (wanted_yesB rfl rfl rfl h27) (c_call rfl rfl rfl Tryd.func33 (by kernel_rfl) rfl (rnum_any n w28) rfl ?_)
    rintro _ w31 ⟨rfl, hc32⟩
    have hs33 := hs30.call0 hc32
    refine L0 (wanted_yesB rfl rfl rfl h27) rfl (y_seq rfl rfl rfl) ?_
    refine L0 (wanted_none rfl) rfl (y_pickT rfl rfl h27 rfl) ?_
    refine L0 (wanted_none rfl) rfl (y_move (v := Value.bool _) rfl rfl) ?_
    refine Lkn (t := 51) (b0 := true) rfl (by exact decide_eq_true rfl) (fun h34 => ?_)
    refine L0 (wanted_yesB rfl rfl rfl h34) rfl (y_move (v := Value.int _ _) rfl rfl) ?_
    refine L0 (wanted_yesB rfl rfl rfl h34) rfl (y_move (v := va) rfl rfl) ?_
    refine Lc (wanted_yesB rfl rfl rfl h34) (c_call rfl rfl rfl Tryd.func15 (by kernel_rfl) rfl (mark_any c l va hbig (by omega) w31 (hr.keep hs33 (by simp [keys]; omega)) (hSa.keep hs33 (fun k hk => by simp [keys] at hk; omega))) rfl ?_)
    rintro _ w35 ⟨rfl, hc36⟩
    have hs37 := hs33.call0 hc36
    refine L0 (wanted_yesB rfl rfl rfl h34) rfl (y_move (v := Value.pointer _) rfl rfl) ?_
    refine L0 (wanted_yesB rfl rfl rfl h34) rfl (y_move (v := Value.int _ _) rfl rfl) ?_
    refine L0 (wanted_yesB rfl rfl rfl h34) rfl (y_move (v := va) rfl rfl) ?_
    refine Lc (wanted_yesB rfl rfl rfl h34) (c_call rfl rfl rfl Tryd.func34 (by kernel_rfl) rfl (rmark_any c l va hbig (by omega) rb w35 (hs37.get 0 rfl) (hSa.keep hs37 (fun k hk => by simp [keys] at hk; omega))) rfl ?_)
    rintro _ w38 ⟨rfl, hc39⟩
    have hs40 := hs37.call0 hc39
    refine L0 (wanted_yesB rfl rfl rfl h34) rfl (y_seq rfl rfl rfl) ?_
    refine L0 (wanted_none rfl) rfl (y_pickT rfl rfl h34 rfl) ?_
    refine L0 (wanted_none rfl) rfl (y_assign (v := Value.bool _) rfl rfl) ?_
    refine Lnil ?_
    refine W_ret ?_
    refine fin1 (fn := Tryd.f7) rfl rfl ?_
    first | exact ⟨rfl, hs40⟩ | exact ⟨congrArg Value.bool (decide_eq_true rfl), hs40.drop (.inl hrbw)⟩
end Go.Proofs.YtkolfgmpmnelmaaDoor

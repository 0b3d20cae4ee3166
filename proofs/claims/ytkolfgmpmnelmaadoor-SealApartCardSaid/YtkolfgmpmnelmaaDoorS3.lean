/-
  Walks: sum.Hex, keep.began, keep.less.
-/
import Derived.Test.YtkolfgmpmnelmaaDoorS1
import Derived.Test.YtkolfgmpmnelmaaDoorP2
namespace Go.Proofs.YtkolfgmpmnelmaaDoor
open Go Vx Go.Proofs
set_option linter.unusedVariables false
set_option maxHeartbeats 400000
set_option maxRecDepth 4000

theorem hex_any (l : List UInt8) (hl : l.length ≤ 1099511627776) (w : World) :
    C Tryd.prog 30 ⟨[str l]⟩ w fun v w' => v = str (hexOf l) ∧ St w [] w' := by
  refine C_enter (n := 26) Tryd.func30 rfl rfl rfl (fun w1 hs1 => ?_)
  refine W_seq ?_
  refine W_region ?_
  refine L0 (wanted_none rfl) rfl (y_assign (v := Value.string ⟨⟨_⟩⟩) rfl rfl) ?_
  refine Lnil ?_
  refine W_seq ?_
  refine W_region ?_
  refine L0 (wanted_none rfl) rfl (y_assign (v := Value.slice _ _ _) rfl rfl) ?_
  refine Lnil ?_
  refine W_seq ?_
  refine W_seq ?_
  refine W_region ?_
  refine L0 (wanted_none rfl) rfl (y_move (v := Value.string ⟨⟨_⟩⟩) rfl rfl) ?_
  refine L0 (wanted_none rfl) rfl (y_len rfl Tryd.underlying9 rfl) ?_
  refine L0 (wanted_none rfl) rfl (y_move (v := Value.int _ _) rfl rfl) ?_
  refine Lnil ?_
  refine W_block ?_
  refine W_loop (G := Nat × Value × Blocks) (fun g aL wl => ∃ e, aL = A 26 ((7, iv g.1) :: (3, g.2.1) :: (6, iv l.length) :: (0, str l) :: e) ∧ g.1 ≤ l.length ∧ Row w.heap.size 5 1 g.2.1 (2 * g.1) (bs (hexOf (l.take g.1))) g.2.2 ∧ St w g.2.2 wl) (fun g => l.length - g.1) ((0, .slice none 0 0, [])) ?_ ?_
  · exact ⟨_, A_pins _ _ [7, 3, 6, 0], Nat.zero_le _, Row.nil _ _ _, hs1⟩
  rintro g _ w2 ⟨ehs3, rfl, hi, hrow, hs3⟩
  obtain ⟨i, v, ent⟩ := g
  dsimp only at *
  have hs0 := hs3
  refine W_seq ?_
  refine W_region ?_
  refine L0 (wanted_none rfl) rfl (y_lt rfl rfl rfl) ?_
  refine Lnil ?_
  refine W_seq ?_
  refine Wsp (t := 8) rfl (fun h4 => ?_) (fun h4 => ?_)
  · have h4' := h4
    first | replace h4' := of_decide_eq_true h4' | replace h4' := bnT' h4' | skip
    refine W_condT rfl h4 ?_
    refine W_skip ?_
    refine W_seq ?_
    refine W_block ?_
    refine W_seq ?_
    refine W_region ?_
    refine L0 (wanted_none rfl) rfl (y_move (v := Value.int _ _) rfl rfl) ?_
    refine L0 (wanted_none rfl) rfl (y_assign (v := Value.int _ _) rfl rfl) ?_
    refine Lnil ?_
    refine W_drawSt [(0, 0), (0, 1), (0, 2), (0, 6), (0, 7), (0, 3), (0, 8), (0, 4), (0, 9), (0, 5), (0, 10), (2, 11), (2, 12), (0, 13)] hs3 mixed (by kernel_rfl) (fun w5 hs6 => ?_)
    refine E0 (wanted_none rfl) rfl (y_move (v := v) rfl rfl) ?_
    refine E0 (wanted_none rfl) rfl (y_move (v := Value.string ⟨⟨_⟩⟩) rfl rfl) ?_
    refine E0 (wanted_none rfl) rfl (y_move (v := Value.int _ _) rfl rfl) ?_
    refine E0 (wanted_none rfl) rfl (y_move (v := Value.string ⟨⟨_⟩⟩) rfl rfl) ?_
    refine E0 (wanted_none rfl) rfl (y_move (v := Value.int _ _) rfl rfl) ?_
    refine E0 (wanted_none rfl) rfl (y_sindex rfl Tryd.underlying9 rfl rfl (by omega) (by omega)) ?_
    refine E0 (wanted_none rfl) rfl (y_sindex rfl Tryd.underlying9 rfl rfl (by omega) (by omega)) ?_
    refine E0 (wanted_none rfl) rfl (y_shr8 rfl rfl rfl (s := 4) (by first | rfl | omega) (by omega)) ?_
    refine E0 (wanted_none rfl) rfl (y_and8 (c' := 15) rfl rfl rfl) ?_
    refine E0 (wanted_none rfl) rfl (y_sindex rfl Tryd.underlying9 rfl rfl (by omega) (by have := shr4_lt (l.getD (Int.toNat i) 0); simp only [List.length_cons, List.length_nil]; omega)) ?_
    refine E0 (wanted_none rfl) rfl (y_sindex rfl Tryd.underlying9 rfl rfl (by omega) (by have := and15_lt (l.getD (Int.toNat i) 0); simp only [List.length_cons, List.length_nil]; omega)) ?_
    refine E2 (wanted_none rfl) (c_bs2 (v0 := bv _) (v1 := bv _) hs6 rfl rfl Tryd.underlying58 sz5 zr5 rfl rfl rfl rfl (fun b7 w8 hbb7 hs9 => ?_))
    refine E2 (wanted_none rfl) (c_append (L0 := []) (ent := ent) hs9 hbb7 rfl rfl Tryd.underlying58 sz5 zr5 by5 rfl (by decide) rfl hrow rfl (by decide) rfl (by simp [Value.oneCell']) (by omega) (by omega) (fun v10 ent11 w12 hrow' hs13 => ?_))
    have hrow := hrow'
    refine E0 (wanted_none rfl) rfl (y_assign (v := v10) rfl rfl) ?_
    refine Enil ?_
    refine W_region ?_
    refine L0 (wanted_none rfl) rfl (y_add64 rfl rfl rfl (by omega)) ?_
    refine L0 (wanted_none rfl) rfl (y_move (v := Value.int _ _) rfl rfl) ?_
    refine Lnil ?_
    have hrow2 : Row w.heap.size 5 1 v10 (2 * (i + 1)) (bs (hexOf (l.take (i + 1)))) ent11 := by
      rw [hexOf_succ (by omega)]
      have h := hrow
      simp only [bs, List.map_append]
      exact h
    exact ⟨(i + 1, _, _), by have := hl; simp only []; omega, _, A_c (iv_eq (by (try dsimp only); omega)) (A_c rfl (A_c rfl (A_c rfl (rfl)))), by omega, hrow2, hs13⟩
  · have h4' := h4
    first | replace h4' := of_decide_eq_false h4' | replace h4' := bnF' h4' | skip
    refine W_condF rfl h4 ?_
    refine W_exit ?_
    refine W_seq ?_
    refine W_region ?_
    refine L0 (wanted_none rfl) rfl (y_move (v := v) rfl rfl) ?_
    refine L1 (wanted_none rfl) rfl hs3 (y_bstr rfl Tryd.underlying58 Tryd.underlying5 Tryd.underlying9 rfl hrow (fun x hx => by first | exact hx | exact List.mem_cons.2 (.inl (List.mem_singleton.1 hx)) | simp [hx])) ?_
    refine L0 (wanted_none rfl) rfl (y_assign (v := Value.string ⟨⟨_⟩⟩) rfl rfl) ?_
    refine Lnil ?_
    refine W_ret ?_
    refine fin1 (fn := Tryd.f30) rfl rfl ?_
    rw [List.take_of_length_le (by omega)]; exact ⟨rfl, hs3.drops (fun x hx => .inl (hrow.new x hx))⟩
end Go.Proofs.YtkolfgmpmnelmaaDoor

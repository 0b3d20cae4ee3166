/-
  Walks: sum.Hex, keep.began, keep.less.
-/
import Derived.Test.YtkolfgmpmnelmaaS1
import Derived.Test.YtkolfgmpmnelmaaP2
namespace Go.Proofs.Ytkolfgmpmnelmaa
open Go Vx Go.Proofs
set_option linter.unusedVariables false
set_option maxHeartbeats 400000
set_option maxRecDepth 4000

theorem hex_any (l : List UInt8) (hl : l.length ≤ 1099511627776) (w : World) :
    C Try.prog 40 ⟨[str l]⟩ w fun v w' => v = str (hexOf l) ∧ St w [] w' := by
  refine C_enter (n := 26) Try.func40 rfl rfl rfl (fun w1 hs1 => ?_)
  refine W_seq ?_
  refine W_region ?_
  refine L0 (wanted_none rfl) rfl (y_assign (v := Value.string ⟨⟨_⟩⟩) rfl rfl) ?_
  refine Lnil ?_
  refine W_seq ?_
  refine W_region ?_
  refine L0 (wanted_none rfl) rfl (y_assign (v := Value.slice _ _ _) rfl rfl) ?_
  refine Lnil ?_
  refine W_seq ?_
  refine W_seq ?_
  refine W_region ?_
  refine L0 (wanted_none rfl) rfl (y_move (v := Value.string ⟨⟨_⟩⟩) rfl rfl) ?_
  refine L0 (wanted_none rfl) rfl (y_len rfl Try.underlying9 rfl) ?_
  refine L0 (wanted_none rfl) rfl (y_move (v := Value.int _ _) rfl rfl) ?_
  refine Lnil ?_
  refine W_block ?_
  refine W_loop (G := Nat × Value × Blocks) (fun g a wl => ∃ e, a = A 26 ((7, iv g.1) :: (3, g.2.1) :: (6, iv l.length) :: (0, str l) :: e) ∧ g.1 ≤ l.length ∧ Row w.heap.size 5 1 g.2.1 (2 * g.1) (bs (hexOf (l.take g.1))) g.2.2 ∧ St w g.2.2 wl) (fun g => l.length - g.1) ((0, .slice none 0 0, [])) ?_ ?_
  · exact ⟨_, A_pins _ _ [7, 3, 6, 0], Nat.zero_le _, Row.nil _ _ _, hs1⟩
  rintro g _ w2 ⟨ehs3, rfl, hi, hrow, hs3⟩
  obtain ⟨i, v, ent⟩ := g
  dsimp only at *
  have hs0 := hs3
  refine W_seq ?_
  refine W_region ?_
  refine L0 (wanted_none rfl) rfl (y_lt rfl rfl rfl) ?_
  refine Lnil ?_
  refine W_seq ?_
  refine Wsp (t := 8) rfl (fun h4 => ?_) (fun h4 => ?_)
  · have h4' := h4
    first | replace h4' := of_decide_eq_true h4' | replace h4' := bnT' h4' | skip
    refine W_condT rfl h4 ?_
    refine W_skip ?_
    refine W_seq ?_
    refine W_block ?_
    refine W_seq ?_
    refine W_region ?_
    refine L0 (wanted_none rfl) rfl (y_move (v := Value.int _ _) rfl rfl) ?_
    refine L0 (wanted_none rfl) rfl (y_assign (v := Value.int _ _) rfl rfl) ?_
    refine Lnil ?_
    refine W_drawSt [(0, 0), (0, 1), (0, 2), (0, 6), (0, 7), (0, 3), (0, 8), (0, 4), (0, 9), (0, 5), (0, 10), (2, 11), (2, 12), (0, 13)] hs3 mixed (by kernel_rfl) (fun w5 hs6 => ?_)
    refine E0 (wanted_none rfl) rfl (y_move (v := v) rfl rfl) ?_
    refine E0 (wanted_none rfl) rfl (y_move (v := Value.string ⟨⟨_⟩⟩) rfl rfl) ?_
    refine E0 (wanted_none rfl) rfl (y_move (v := Value.int _ _) rfl rfl) ?_
    refine E0 (wanted_none rfl) rfl (y_move (v := Value.string ⟨⟨_⟩⟩) rfl rfl) ?_
    refine E0 (wanted_none rfl) rfl (y_move (v := Value.int _ _) rfl rfl) ?_
    refine E0 (wanted_none rfl) rfl (y_sindex rfl Try.underlying9 rfl rfl (by omega) (by omega)) ?_
    refine E0 (wanted_none rfl) rfl (y_sindex rfl Try.underlying9 rfl rfl (by omega) (by omega)) ?_
    refine E0 (wanted_none rfl) rfl (y_shr8 rfl rfl rfl (s := 4) (by first | rfl | omega) (by omega)) ?_
    refine E0 (wanted_none rfl) rfl (y_and8 (c' := 15) rfl rfl rfl) ?_
    refine E0 (wanted_none rfl) rfl (y_sindex rfl Try.underlying9 rfl rfl (by omega) (by have := shr4_lt (l.getD (Int.toNat i) 0); simp only [List.length_cons, List.length_nil]; omega)) ?_
    refine E0 (wanted_none rfl) rfl (y_sindex rfl Try.underlying9 rfl rfl (by omega) (by have := and15_lt (l.getD (Int.toNat i) 0); simp only [List.length_cons, List.length_nil]; omega)) ?_
    refine E2 (wanted_none rfl) (c_bs2 (v0 := bv _) (v1 := bv _) hs6 rfl rfl Try.underlying71 sz5 zr5 rfl rfl rfl rfl (fun b7 w8 hbb7 hs9 => ?_))
    refine E2 (wanted_none rfl) (c_append (L0 := []) (ent := ent) hs9 hbb7 rfl rfl Try.underlying71 sz5 zr5 by5 rfl (by decide) rfl hrow rfl (by decide) rfl (by simp [Value.oneCell']) (by omega) (by omega) (fun v10 ent11 w12 hrow' hs13 => ?_))
    have hrow := hrow'
    refine E0 (wanted_none rfl) rfl (y_assign (v := v10) rfl rfl) ?_
    refine Enil ?_
    refine W_region ?_
    refine L0 (wanted_none rfl) rfl (y_add64 rfl rfl rfl (by omega)) ?_
    refine L0 (wanted_none rfl) rfl (y_move (v := Value.int _ _) rfl rfl) ?_
    refine Lnil ?_
    have hrow2 : Row w.heap.size 5 1 v10 (2 * (i + 1)) (bs (hexOf (l.take (i + 1)))) ent11 := by
      rw [hexOf_succ (by omega)]
      have h := hrow
      simp only [bs, List.map_append]
      exact h
    exact ⟨(i + 1, _, _), by have := hl; simp only []; omega, _, A_c (iv_eq (by (try dsimp only); omega)) (A_c rfl (A_c rfl (A_c rfl (rfl)))), by omega, hrow2, hs13⟩
  · have h4' := h4
    first | replace h4' := of_decide_eq_false h4' | replace h4' := bnF' h4' | skip
    refine W_condF rfl h4 ?_
    refine W_exit ?_
    refine W_seq ?_
    refine W_region ?_
    refine L0 (wanted_none rfl) rfl (y_move (v := v) rfl rfl) ?_
    refine L1 (wanted_none rfl) rfl hs3 (y_bstr rfl Try.underlying71 Try.underlying5 Try.underlying9 rfl hrow (fun x hx => by first | exact hx | exact List.mem_cons.2 (.inl (List.mem_singleton.1 hx)) | simp [hx])) ?_
    refine L0 (wanted_none rfl) rfl (y_assign (v := Value.string ⟨⟨_⟩⟩) rfl rfl) ?_
    refine Lnil ?_
    refine W_ret ?_
    refine fin1 (fn := Try.f40) rfl rfl ?_
    rw [List.take_of_length_le (by omega)]; exact ⟨rfl, hs3.drops (fun x hx => .inl (hrow.new x hx))⟩
theorem began_any (key nonce : List UInt8) (n : Int) (h1 : key.length ≤ 1099511627776) (h2 : nonce.length ≤ 1099511627776) (w : World) :
    C Try.prog 11 ⟨[str key, iv n, str nonce]⟩ w fun v w' => v = str (beganOf key n nonce) ∧ St w [] w' := by
  refine C_enter (n := 25) Try.func11 rfl rfl rfl (fun w1 hs1 => ?_)
  have hn4 : (num4 n).length = 4 := rfl
  refine W_seq ?_
  refine W_region ?_
  refine L0 (wanted_none rfl) rfl (y_assign (v := Value.string ⟨⟨_⟩⟩) rfl rfl) ?_
  refine Lnil ?_
  refine W_seq ?_
  refine W_region ?_
  refine L0 (wanted_none rfl) rfl (y_move (v := Value.string ⟨⟨_⟩⟩) rfl rfl) ?_
  refine L0 (wanted_none rfl) rfl (y_scat rfl rfl rfl (by first | omega | (simp; omega) | (simp only [List.length_append, List.length_cons, List.length_nil]; omega))) ?_
  refine L0 (wanted_none rfl) rfl (y_move (v := Value.int _ _) rfl rfl) ?_
  refine L0 (wanted_none rfl) rfl (y_cito8 rfl Try.underlying3 Try.underlying5 rfl) ?_
  refine L0 (wanted_none rfl) rfl (y_move (v := Value.int _ _) rfl rfl) ?_
  refine L0 (wanted_none rfl) rfl (y_shri64 rfl rfl rfl (s := 8) (by first | rfl | omega) (by omega)) ?_
  refine L0 (wanted_none rfl) rfl (y_cito8 rfl Try.underlying3 Try.underlying5 rfl) ?_
  refine L0 (wanted_none rfl) rfl (y_move (v := Value.int _ _) rfl rfl) ?_
  refine L0 (wanted_none rfl) rfl (y_shri64 rfl rfl rfl (s := 16) (by first | rfl | omega) (by omega)) ?_
  refine L0 (wanted_none rfl) rfl (y_cito8 rfl Try.underlying3 Try.underlying5 rfl) ?_
  refine L0 (wanted_none rfl) rfl (y_move (v := Value.int _ _) rfl rfl) ?_
  refine L0 (wanted_none rfl) rfl (y_shri64 rfl rfl rfl (s := 24) (by first | rfl | omega) (by omega)) ?_
  refine L0 (wanted_none rfl) rfl (y_cito8 rfl Try.underlying3 Try.underlying5 rfl) ?_
  refine Lc (wanted_none rfl) (c_bs4 (v0 := bv _) (v1 := bv _) (v2 := bv _) (v3 := bv _) hs1 rfl rfl Try.underlying71 sz5 zr5 rfl rfl rfl rfl rfl rfl rfl rfl (fun b2 w3 hbb2 hs4 => ?_))
  refine L1 (wanted_none rfl) rfl hs4 (y_bstr rfl Try.underlying71 Try.underlying5 Try.underlying9 rfl (Row.of_block (E := 5) (xs := bs (num4 n)) hbb2 (by simp [num4])) (fun x hx => by first | exact hx | exact List.mem_cons.2 (.inl (List.mem_singleton.1 hx)) | simp [hx])) ?_
  refine L0 (wanted_none rfl) rfl (y_scat rfl rfl rfl (by first | omega | (simp; omega) | (simp only [List.length_append, List.length_cons, List.length_nil]; omega))) ?_
  refine L0 (wanted_none rfl) rfl (y_move (v := Value.string ⟨⟨_⟩⟩) rfl rfl) ?_
  refine L0 (wanted_none rfl) rfl (y_scat rfl rfl rfl (by first | omega | (simp; omega) | (simp only [List.length_append, List.length_cons, List.length_nil]; omega))) ?_
  refine L0 (wanted_none rfl) rfl (y_assign (v := Value.string ⟨⟨_⟩⟩) rfl rfl) ?_
  refine Lnil ?_
  refine W_ret ?_
  refine fin1 (fn := Try.f11) rfl rfl ?_
  exact ⟨rfl, hs4.drop (.inl (by assumption))⟩

theorem less_any (s t : List UInt8) (K : Nat) (hs : s.length = 4 * K) (ht : t.length = 4 * K) (hK : K ≤ 1000000000) (w : World) :
    C Try.prog 10 ⟨[str s, str t]⟩ w fun v w' => v = str (lessOf s t K) ∧ St w [] w' := by
  refine C_enter (n := 59) Try.func10 rfl rfl rfl (fun w1 hs1 => ?_)
  refine W_seq ?_
  refine W_region ?_
  refine L0 (wanted_none rfl) rfl (y_assign (v := Value.string ⟨⟨_⟩⟩) rfl rfl) ?_
  refine Lnil ?_
  refine W_seq ?_
  refine W_region ?_
  refine L0 (wanted_none rfl) rfl (y_assign (v := Value.slice _ _ _) rfl rfl) ?_
  refine Lnil ?_
  refine W_seq ?_
  refine W_seq ?_
  refine W_region ?_
  refine L0 (wanted_none rfl) rfl (y_assign (v := Value.int _ _) rfl rfl) ?_
  refine Lnil ?_
  refine W_block ?_
  refine W_loop (G := Nat × Value × Blocks) (fun g a wl => ∃ e, a = A 59 ((6, iv (4 * (g.1 : Int))) :: (5, g.2.1) :: (0, str s) :: (1, str t) :: e) ∧ g.1 ≤ K ∧ Row w.heap.size 5 1 g.2.1 (4 * g.1) (bs (lessOf s t g.1)) g.2.2 ∧ St w g.2.2 wl) (fun g => K - g.1) ((0, .slice none 0 0, [])) ?_ ?_
  · exact ⟨_, A_pins _ _ [6, 5, 0, 1], Nat.zero_le _, Row.nil _ _ _, hs1⟩
  rintro g _ w2 ⟨ehs3, rfl, hi, hrow, hs3⟩
  obtain ⟨k, v, ent⟩ := g
  dsimp only at *
  refine W_seq ?_
  refine W_seq ?_
  refine W_region ?_
  refine L0 (wanted_none rfl) rfl (y_move (v := Value.int _ _) rfl rfl) ?_
  refine L0 (wanted_none rfl) rfl (y_add64 rfl rfl rfl (by omega)) ?_
  refine L0 (wanted_none rfl) rfl (y_move (v := Value.string ⟨⟨_⟩⟩) rfl rfl) ?_
  refine L0 (wanted_none rfl) rfl (y_len rfl Try.underlying9 rfl) ?_
  refine L0 (wanted_none rfl) rfl (y_le rfl rfl rfl) ?_
  refine L0 (wanted_none rfl) rfl (y_move (v := Value.bool _) rfl rfl) ?_
  refine Lsp (t := 14) rfl (fun h4 => ?_) (fun h4 => ?_)
  · have h4' := h4
    first | replace h4' := of_decide_eq_true h4' | replace h4' := bnT' h4' | skip
    refine L0 (wanted_yesB rfl rfl rfl h4) rfl (y_move (v := Value.int _ _) rfl rfl) ?_
    refine L0 (wanted_yesB rfl rfl rfl h4) rfl (y_add64 rfl rfl rfl (by omega)) ?_
    refine L0 (wanted_yesB rfl rfl rfl h4) rfl (y_move (v := Value.string ⟨⟨_⟩⟩) rfl rfl) ?_
    refine L0 (wanted_yesB rfl rfl rfl h4) rfl (y_len rfl Try.underlying9 rfl) ?_
    refine L0 (wanted_yesB rfl rfl rfl h4) rfl (y_le rfl rfl rfl) ?_
    refine L0 (wanted_none rfl) rfl (y_pickT rfl rfl h4 rfl) ?_
    refine Lnil ?_
    refine Wkn (t := 20) (b0 := true) rfl (by first | exact decide_eq_true (by omega) | exact bnT (by omega) | (simp; omega)) (fun h5 => ?_)
    refine W_condT rfl h5 ?_
    refine W_skip ?_
    refine W_seq ?_
    refine W_block ?_
    refine W_seq ?_
    refine W_region ?_
    refine L0 (wanted_none rfl) rfl (y_assign (v := Value.int _ _) rfl rfl) ?_
    refine Lnil ?_
    refine W_seq ?_
    refine W_seq ?_
    refine W_region ?_
    refine L0 (wanted_none rfl) rfl (y_assign (v := Value.int _ _) rfl rfl) ?_
    refine Lnil ?_
    refine W_block ?_
    refine W_loop (G := Nat) (fun g a wl => ∃ e, a = A 59 ((8, iv (3 - (g : Int))) :: (7, uv (lessWord s t (4 * k) g)) :: (6, iv (4 * (k : Int))) :: (5, v) :: (0, str s) :: (1, str t) :: e) ∧ g ≤ 4 ∧ St w ent wl) (fun g => 4 - g) (0) ?_ ?_
    · exact ⟨_, A_pins _ _ [8, 7, 6, 5, 0, 1], by omega, hs3⟩
    rintro g _ w6 ⟨ehs7, rfl, hj, hs7⟩
    refine W_seq ?_
    refine W_seq ?_
    refine W_region ?_
    refine L0 (wanted_none rfl) rfl (y_move (v := Value.int _ _) rfl rfl) ?_
    refine L0 (wanted_none rfl) rfl (y_ge rfl rfl rfl) ?_
    refine Lnil ?_
    refine Wsp (t := 24) rfl (fun h8 => ?_) (fun h8 => ?_)
    · have h8' := h8
      first | replace h8' := of_decide_eq_true h8' | replace h8' := bnT' h8' | skip
      refine W_condT rfl h8 ?_
      refine W_skip ?_
      refine W_seq ?_
      refine W_block ?_
      refine W_drawSt [(0, 0), (0, 2), (0, 3), (0, 4), (0, 9), (0, 10), (0, 11), (0, 1), (0, 5), (0, 12), (0, 6), (0, 13), (0, 7), (0, 14), (0, 8), (0, 15), (0, 16)] hs7 mixed (by kernel_rfl) (fun w9 hs10 => ?_)
      refine E0 (wanted_none rfl) rfl (y_move (v := Value.int _ _) rfl rfl) ?_
      refine E0 (wanted_none rfl) rfl (y_move (v := Value.string ⟨⟨_⟩⟩) rfl rfl) ?_
      refine E0 (wanted_none rfl) rfl (y_move (v := Value.int _ _) rfl rfl) ?_
      refine E0 (wanted_none rfl) rfl (y_move (v := Value.int _ _) rfl rfl) ?_
      refine E0 (wanted_none rfl) rfl (y_move (v := Value.string ⟨⟨_⟩⟩) rfl rfl) ?_
      refine E0 (wanted_none rfl) rfl (y_move (v := Value.int _ _) rfl rfl) ?_
      refine E0 (wanted_none rfl) rfl (y_move (v := Value.int _ _) rfl rfl) ?_
      refine E0 (wanted_none rfl) rfl (y_shl32 rfl rfl rfl (s := 8) (by first | rfl | omega) (by omega)) ?_
      refine E0 (wanted_none rfl) rfl (y_add64 rfl rfl rfl (by omega)) ?_
      refine E0 (wanted_none rfl) rfl (y_add64 rfl rfl rfl (by omega)) ?_
      refine E0 (wanted_none rfl) rfl (y_sindex rfl Try.underlying9 rfl rfl (by omega) (by omega)) ?_
      refine E0 (wanted_none rfl) rfl (y_sindex rfl Try.underlying9 rfl rfl (by omega) (by omega)) ?_
      refine E0 (wanted_none rfl) rfl (y_c8to32 rfl Try.underlying5 Try.underlying74 rfl) ?_
      refine E0 (wanted_none rfl) rfl (y_c8to32 rfl Try.underlying5 Try.underlying74 rfl) ?_
      refine E0 (wanted_none rfl) rfl (y_add32 rfl rfl rfl) ?_
      refine E0 (wanted_none rfl) rfl (y_sub32 rfl rfl rfl) ?_
      refine E0 (wanted_none rfl) rfl (y_assign (v := Value.int _ _) rfl rfl) ?_
      refine Enil ?_
      refine W_region ?_
      refine L0 (wanted_none rfl) rfl (y_move (v := Value.int _ _) rfl rfl) ?_
      refine L0 (wanted_none rfl) rfl (y_sub64 rfl rfl rfl (by omega)) ?_
      refine L0 (wanted_none rfl) rfl (y_assign (v := Value.int _ _) rfl rfl) ?_
      refine Lnil ?_
      have ej : ((4 * (k : Int)) + (3 - (g : Int))).toNat = 4 * k + (3 - g) := by omega
      exact ⟨g + 1, by (try dsimp only); omega, _, A_c (iv_eq (by (try dsimp only); omega)) (A_c (by simp only [lessWord, ← ej]; rfl) (A_c rfl (A_c rfl (A_c rfl (A_c rfl (rfl)))))), by omega, hs10⟩
    · have h8' := h8
      first | replace h8' := of_decide_eq_false h8' | replace h8' := bnF' h8' | skip
      refine W_condF rfl h8 ?_
      refine W_exit ?_
      obtain rfl : g = 4 := by omega
      refine W_region ?_
      refine L0 (wanted_none rfl) rfl (y_move (v := v) rfl rfl) ?_
      refine L0 (wanted_none rfl) rfl (y_move (v := Value.int _ _) rfl rfl) ?_
      refine L0 (wanted_none rfl) rfl (y_c32to8 rfl Try.underlying74 Try.underlying5 rfl) ?_
      refine L0 (wanted_none rfl) rfl (y_move (v := Value.int _ _) rfl rfl) ?_
      refine L0 (wanted_none rfl) rfl (y_shr32 rfl rfl rfl (s := 8) (by first | rfl | omega) (by omega)) ?_
      refine L0 (wanted_none rfl) rfl (y_c32to8 rfl Try.underlying74 Try.underlying5 rfl) ?_
      refine L0 (wanted_none rfl) rfl (y_move (v := Value.int _ _) rfl rfl) ?_
      refine L0 (wanted_none rfl) rfl (y_shr32 rfl rfl rfl (s := 16) (by first | rfl | omega) (by omega)) ?_
      refine L0 (wanted_none rfl) rfl (y_c32to8 rfl Try.underlying74 Try.underlying5 rfl) ?_
      refine L0 (wanted_none rfl) rfl (y_move (v := Value.int _ _) rfl rfl) ?_
      refine L0 (wanted_none rfl) rfl (y_shr32 rfl rfl rfl (s := 24) (by first | rfl | omega) (by omega)) ?_
      refine L0 (wanted_none rfl) rfl (y_c32to8 rfl Try.underlying74 Try.underlying5 rfl) ?_
      refine Lc (wanted_none rfl) (c_bs4 (v0 := bv _) (v1 := bv _) (v2 := bv _) (v3 := bv _) hs7 rfl rfl Try.underlying71 sz5 zr5 rfl rfl rfl rfl rfl rfl rfl rfl (fun b11 w12 hbb11 hs13 => ?_))
      refine Lc (wanted_none rfl) (c_append (L0 := []) (ent := ent) hs13 hbb11 rfl rfl Try.underlying71 sz5 zr5 by5 rfl (by decide) rfl hrow rfl (by decide) rfl (by simp [Value.oneCell']) (by omega) (by omega) (fun v14 ent15 w16 hrow' hs17 => ?_))
      have hrow := hrow'
      refine L0 (wanted_none rfl) rfl (y_assign (v := v14) rfl rfl) ?_
      refine Lnil ?_
      refine W_region ?_
      refine L0 (wanted_none rfl) rfl (y_move (v := Value.int _ _) rfl rfl) ?_
      refine L0 (wanted_none rfl) rfl (y_add64 rfl rfl rfl (by omega)) ?_
      refine L0 (wanted_none rfl) rfl (y_assign (v := Value.int _ _) rfl rfl) ?_
      refine Lnil ?_
      have hrow2 : Row w.heap.size 5 1 v14 (4 * (k + 1)) (bs (lessOf s t (k + 1))) ent15 := by
        have h := hrow
        simp only [lessOf, bs, List.map_append]
        exact h
      exact ⟨(k + 1, _, _), by (try dsimp only); omega, _, A_c (iv_eq (by (try dsimp only); omega)) (A_c rfl (A_c rfl (A_c rfl (rfl)))), by omega, hrow2, hs17⟩
  · have h4' := h4
    first | replace h4' := of_decide_eq_false h4' | replace h4' := bnF' h4' | skip
    refine Lno (wanted_noB rfl rfl rfl h4 (by decide)) rfl ?_
    refine Lno (wanted_noB rfl rfl rfl h4 (by decide)) rfl ?_
    refine Lno (wanted_noB rfl rfl rfl h4 (by decide)) rfl ?_
    refine Lno (wanted_noB rfl rfl rfl h4 (by decide)) rfl ?_
    refine Lno (wanted_noB rfl rfl rfl h4 (by decide)) rfl ?_
    refine L0 (wanted_none rfl) rfl (y_pickF rfl rfl h4 rfl) ?_
    refine Lnil ?_
    refine W_condF rfl rfl ?_
    refine W_exit ?_
    refine W_seq ?_
    refine W_region ?_
    refine L0 (wanted_none rfl) rfl (y_move (v := v) rfl rfl) ?_
    refine L1 (wanted_none rfl) rfl hs3 (y_bstr rfl Try.underlying71 Try.underlying5 Try.underlying9 rfl hrow (fun x hx => by first | exact hx | exact List.mem_cons.2 (.inl (List.mem_singleton.1 hx)) | simp [hx])) ?_
    refine L0 (wanted_none rfl) rfl (y_assign (v := Value.string ⟨⟨_⟩⟩) rfl rfl) ?_
    refine Lnil ?_
    refine W_ret ?_
    refine fin1 (fn := Try.f10) rfl rfl ?_
    have hk : k = K := by omega
    subst hk
    exact ⟨rfl, hs3.drops (fun x hx => .inl (hrow.new x hx))⟩
end Go.Proofs.Ytkolfgmpmnelmaa

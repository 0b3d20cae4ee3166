/-
  Walk: the document's FreeCells.
-/
import Derived.Test.YtkolfgmpmnelmabGreatDoorU3
namespace Go.Proofs.YtkolfgmpmnelmabGreatDoor.Ent
open Go Vx Go.Proofs Go.RowKit
set_option linter.unusedVariables false
set_option maxRecDepth 8000
set_option maxHeartbeats 4000000
theorem rfree_any (l : List Fl) (v0 : Value) (vc : Nat → Value) (hL : FewL l) (w : World) (hF : FlsAt w v0 l vc) : C Tryz.prog 16 ⟨[v0]⟩ w fun v w' => Sl w' v (freeTo (allCells l) 21).length (ivs (freeTo (allCells l) 21)) ∧ St w [] w' := by
  have hlen := hL.len
  refine C_enter (n := 41) Tryz.func16 rfl rfl rfl (fun w1 hs1 => ?_)
  refine W_seq ?_
  refine W_region ?_
  refine L0 (wanted_none rfl) rfl (y_assign (v := Value.slice _ _ _) rfl rfl) ?_
  refine Lnil ?_
  refine W_seq ?_
  refine W_region ?_
  refine Lc (wanted_none rfl) (c_makeMap hs1 rfl rfl (fun b2 w3 hbb2 hs4 => ?_))
  refine L0 (wanted_none rfl) rfl (y_assign (v := Value.map _) rfl rfl) ?_
  refine Lnil ?_
  refine W_seq ?_
  refine W_seq ?_
  refine W_region ?_
  refine L0 (wanted_none rfl) rfl (y_move (v := v0) rfl rfl) ?_
  refine L0 (wanted_none rfl) rfl (y_slenOps (v := v0) rfl Tryz.underlying22 rfl hF.shape) ?_
  refine L0 (wanted_none rfl) rfl (y_move (v := Value.int _ _) rfl rfl) ?_
  refine Lnil ?_
  refine W_block ?_
  refine W_loop (G := Nat × Array MapEntry × Nat) (fun g aL wl => ∃ e, aL = A 41 ((13, iv g.1) :: (12, iv l.length) :: (11, v0) :: (3, .map (some b2)) :: e) ∧ g.1 ≤ l.length ∧ SeenL g.2.1 (allCells (l.take g.1)) ∧ St w [(b2, .map g.2.1 g.2.2)] wl) (fun g => l.length - g.1) ((0, #[], 0)) ?_ ?_
  · exact ⟨_, A_pins _ _ [13, 12, 11, 3], Nat.zero_le _, SeenL.nil, hs4⟩
  rintro g _ w5 ⟨ehs6, rfl, hi, hS, hs6⟩
  obtain ⟨i, es, c⟩ := g
  dsimp only at *
  refine W_seq ?_
  refine W_region ?_
  refine L0 (wanted_none rfl) rfl (y_lt rfl rfl rfl) ?_
  refine Lnil ?_
  refine W_seq ?_
  refine Wsp (t := 14) rfl (fun h7 => ?_) (fun h7 => ?_)
  · have h7' := h7
    first | replace h7' := of_decide_eq_true h7' | replace h7' := bnT' h7' | skip
    refine W_condT rfl h7 ?_
    refine W_skip ?_
    refine W_seq ?_
    refine W_block ?_
    refine W_seq ?_
    have hOc := hF.cell i (by omega)
    have hKe := hF.cells i (by omega)
    have hOb := hF.lt (by omega)
    obtain ⟨f, hf⟩ : ∃ f, f = l.getD i default := ⟨_, rfl⟩
    obtain ⟨vi, hvi⟩ : ∃ vi, vi = vc i := ⟨_, rfl⟩
    rw [← hf, ← hvi] at hOc hKe
    have hOc : ∀ q u, (flCells f vi)[q]? = some u → w.cell? ⟨adB v0, adO v0 + (i : Int).toNat * 3 + q, none⟩ = some u := hOc
    have hnl := hL.cs f (by rw [hf]; exact getDFl_mem (by omega))
    refine W_region ?_
    refine L0 (wanted_none rfl) rfl (y_indexOps (v := v0) rfl Tryz.underlying22 sz44 rfl rfl hF.shape (by omega) (by omega)) ?_
    refine L1 (wanted_none rfl) rfl hs6 ((y_loadNOld (vs := flCells f vi) rfl Tryz.underlying44 rfl sz44 rfl hOc rfl (by decide) (old_notin hOb (fr1 hbb2)))) ?_
    refine Lc (wanted_none rfl) (c_alloc hs6 rfl rfl zr44 (fun b8 w9 hbb8 hs10 => ?_))
    refine Lc (wanted_none rfl) (c_storeN (i := 0) hs10 rfl rfl rfl rfl sz44 (by rfl) (by intro u hu; simp only [flCells, List.mem_cons, List.not_mem_nil, or_false] at hu; rcases hu with rfl | rfl | rfl <;> first | rfl | exact hKe.oneE) rfl (by decide) (Fz.zero _) (fun w11 hs12 => ?_))
    have hs12 := hs12.at0E (c' := ⟨flCells f vi⟩) rfl
    refine Lnil ?_
    refine W_seq ?_
    refine W_region ?_
    refine L0 (wanted_none rfl) rfl (y_fieldAddr rfl Tryz.underlying44 rfl sz35 rfl) ?_
    refine L1 (wanted_none rfl) rfl hs12 ((y_load 0 rfl Tryz.underlying35 rfl rfl rfl (v := vi) rfl)) ?_
    refine L0 (wanted_none rfl) rfl (y_slenSl rfl Tryz.underlying35 rfl hKe) ?_
    refine L0 (wanted_none rfl) rfl (y_move (v := Value.int _ _) rfl rfl) ?_
    refine Lnil ?_
    refine W_block ?_
    refine W_loop (G := Nat × Array MapEntry × Nat) (fun g aL wl => ∃ e, aL = A 41 ((20, iv g.1) :: (19, iv f.cs.length) :: (18, vi) :: (13, iv i) :: (12, iv l.length) :: (11, v0) :: (3, .map (some b2)) :: e) ∧ g.1 ≤ f.cs.length ∧ SeenL g.2.1 (allCells (l.take i) ++ f.cs.take g.1) ∧ St w [(b8, .cells ⟨flCells f vi⟩ 44 (0, 0)), (b2, .map g.2.1 g.2.2)] wl) (fun g => f.cs.length - g.1) ((0, es, c)) ?_ ?_
    · exact ⟨_, A_pins _ _ [20, 19, 18, 13, 12, 11, 3], Nat.zero_le _, (by simpa using hS), hs12⟩
    rintro g _ w13 ⟨ehs14, rfl, hk, hS2, hs14⟩
    obtain ⟨k, es2, c2⟩ := g
    dsimp only at *
    refine W_seq ?_
    refine W_region ?_
    refine L0 (wanted_none rfl) rfl (y_lt rfl rfl rfl) ?_
    refine Lnil ?_
    refine W_seq ?_
    refine Wsp (t := 21) rfl (fun h15 => ?_) (fun h15 => ?_)
    · have h15' := h15
      first | replace h15' := of_decide_eq_true h15' | replace h15' := bnT' h15' | skip
      refine W_condT rfl h15 ?_
      refine W_skip ?_
      refine W_seq ?_
      refine W_block ?_
      refine W_seq ?_
      refine W_region ?_
      refine L0 (wanted_none rfl) rfl (y_indexSlAt rfl Tryz.underlying35 sz3 rfl rfl hKe (by omega) (by omega)) ?_
      refine L1 (wanted_none rfl) rfl hs14 (y_loadSl _ rfl Tryz.underlying3 rfl rfl hKe (by rfl) (by omega) (fun x hx => (by obtain ⟨y, hy, rfl⟩ := List.mem_map.1 hx; exact fr2 hbb8 hbb2 y hy))) ?_
      refine L0 (wanted_none rfl) rfl (y_assign (v := Value.int _ _) rfl rfl) ?_
      refine Lnil ?_
      refine W_region ?_
      refine L0 (wanted_none rfl) rfl (y_move (v := Value.map _) rfl rfl) ?_
      refine L0 (wanted_none rfl) rfl (y_move (v := Value.int _ _) rfl rfl) ?_
      refine Lc (wanted_none rfl) (c_mapSeen (i := 1) hS2 hs14 rfl rfl rfl rfl rfl Tryz.underlying50 Tryz.underlying3 rfl (fun es3 c3 w16 hS3 hs17 => ?_))
      refine Lnil ?_
      refine W_region ?_
      refine L0 (wanted_none rfl) rfl (y_add64 rfl rfl rfl (by omega)) ?_
      refine L0 (wanted_none rfl) rfl (y_move (v := Value.int _ _) rfl rfl) ?_
      refine Lnil ?_
      exact ⟨(k + 1, es3, c3), by first | omega | (dsimp only; done) | (dsimp only; omega), _, A_c (iv_eq (by first | omega | (dsimp only; done) | (dsimp only; omega))) (A_c rfl (A_c rfl (A_c rfl (A_c rfl (A_c rfl (A_c rfl (rfl))))))), by omega, (by rw [take_snoc (by omega), ← List.append_assoc]; exact hS3), hs17⟩
    · have h15' := h15
      first | replace h15' := of_decide_eq_false h15' | replace h15' := bnF' h15' | skip
      refine W_condF rfl h15 ?_
      refine W_exit ?_
      refine W_region ?_
      refine L0 (wanted_none rfl) rfl (y_add64 rfl rfl rfl (by omega)) ?_
      refine L0 (wanted_none rfl) rfl (y_move (v := Value.int _ _) rfl rfl) ?_
      refine Lnil ?_
      have ek : f.cs.take k = f.cs := List.take_of_length_le (by omega)
      rw [ek] at hS2
      exact ⟨(i + 1, es2, c2), by first | omega | (dsimp only; done) | (dsimp only; omega), _, A_c (iv_eq (by first | omega | (dsimp only; done) | (dsimp only; omega))) (A_c rfl (A_c rfl (A_c rfl (rfl)))), by omega, (by rw [allCells_take (by omega), ← hf]; exact hS2), hs14.drop (.inl hbb8)⟩
  · have h7' := h7
    first | replace h7' := of_decide_eq_false h7' | replace h7' := bnF' h7' | skip
    refine W_condF rfl h7 ?_
    refine W_exit ?_
    refine W_seq ?_
    have hS7 := hS
    rw [List.take_of_length_le (show l.length ≤ i by omega)] at hS7
    refine W_region ?_
    refine L0 (wanted_none rfl) rfl (y_assign (v := Value.slice _ _ _) rfl rfl) ?_
    refine Lnil ?_
    refine W_seq ?_
    refine W_seq ?_
    refine W_region ?_
    refine L0 (wanted_none rfl) rfl (y_assign (v := Value.int _ _) rfl rfl) ?_
    refine Lnil ?_
    refine W_block ?_
    refine W_loop (G := Nat × Value × Blocks) (fun g aL wl => ∃ e, aL = A 41 ((9, iv (3 + (g.1 : Int))) :: (8, g.2.1) :: (3, .map (some b2)) :: e) ∧ g.1 ≤ 21 ∧ Row w.heap.size 3 1 g.2.1 (freeTo (allCells l) g.1).length ((freeTo (allCells l) g.1).map iv) g.2.2 ∧ St w ((b2, .map es c) :: g.2.2) wl) (fun g => 21 - g.1) ((0, .slice none 0 0, [])) ?_ ?_
    · exact ⟨_, A_pins _ _ [9, 8, 3], Nat.zero_le _, Row.nil _ _ _, hs6⟩
    rintro g _ w18 ⟨ehs19, rfl, hi7, hrow, hs19⟩
    obtain ⟨i, v, ent⟩ := g
    dsimp only at *
    refine W_seq ?_
    refine W_seq ?_
    refine W_region ?_
    refine L0 (wanted_none rfl) rfl (y_move (v := Value.int _ _) rfl rfl) ?_
    refine L0 (wanted_none rfl) rfl (y_lt rfl rfl rfl) ?_
    refine Lnil ?_
    refine Wsp (t := 29) rfl (fun h20 => ?_) (fun h20 => ?_)
    · have h20' := h20
      first | replace h20' := of_decide_eq_true h20' | replace h20' := bnT' h20' | skip
      refine W_condT rfl h20 ?_
      refine W_skip ?_
      refine W_seq ?_
      refine W_block ?_
      refine W_seq ?_
      refine W_region ?_
      refine L0 (wanted_none rfl) rfl (y_move (v := Value.map _) rfl rfl) ?_
      refine L0 (wanted_none rfl) rfl (y_move (v := Value.int _ _) rfl rfl) ?_
      refine L1 (wanted_none rfl) rfl hs19 (y_lookupP (i := 0) (r := .bool (decide ((3 + (i : Int)) ∈ allCells l))) rfl Tryz.underlying50 Tryz.underlying3 zr4 rfl rfl rfl (seen_find hS7.seen _)) ?_
      refine L0 (wanted_none rfl) rfl (y_not rfl rfl) ?_
      refine Lnil ?_
      refine Wsp (t := 35) rfl (fun h21 => ?_) (fun h21 => ?_)
      · have h21' := h21
        first | replace h21' := of_decide_eq_true h21' | replace h21' := bnT' h21' | skip
        refine W_condT rfl h21 ?_
        refine W_region ?_
        refine L0 (wanted_none rfl) rfl (y_move (v := v) rfl rfl) ?_
        refine L0 (wanted_none rfl) rfl (y_move (v := Value.int _ _) rfl rfl) ?_
        refine Lc (wanted_none rfl) (c_bs1 (v0 := iv _) hs19 rfl rfl Tryz.underlying35 sz3 zr3 rfl rfl  (fun b22 w23 hbb22 hs24 => ?_))
        refine Lc (wanted_none rfl) (c_appendG (L0 := [(b22, .cells ⟨[iv (3 + (i : Int))]⟩ 3 (0, 0)), (b2, .map es c)]) (ent := ent) hs24 (List.Perm.refl _) rfl rfl Tryz.underlying35 sz3 zr3 by3 rfl rfl hrow (Nat.le_refl _) (fun x hx => .inl (hrow.new x hx)) rfl (Src.ofBlock (kk := 1) (hs24.get 0 rfl) rfl) (by simp [Value.oneCell']) (by have := freeTo_len (allCells l) i; omega) (by have := freeTo_len (allCells l) i; omega) (fun vP entP w25 hrow2' hn27 hs26 => ?_))
        have hrow2 := hrow2'
        have hnew_hrow2 := hn27
        replace hs26 := St.drop (L := (b2, .map es c) :: entP) hs26 (.inl hbb22)
        refine L0 (wanted_none rfl) rfl (y_assign (v := vP) rfl rfl) ?_
        refine Lnil ?_
        refine W_region ?_
        refine L0 (wanted_none rfl) rfl (y_move (v := Value.int _ _) rfl rfl) ?_
        refine L0 (wanted_none rfl) rfl (y_add64 rfl rfl rfl (by omega)) ?_
        refine L0 (wanted_none rfl) rfl (y_assign (v := Value.int _ _) rfl rfl) ?_
        refine Lnil ?_
        exact ⟨(i + 1, vP, entP), by first | omega | (dsimp only; done) | (dsimp only; omega), _, A_c (iv_eq (by omega)) (A_c rfl (A_c rfl (rfl))), by omega, (by rw [freeTo_snoc.2 (fun h => by simp_all), List.length_append, List.map_append]; exact hrow2), hs26⟩
      · have h21' := h21
        first | replace h21' := of_decide_eq_false h21' | replace h21' := bnF' h21' | skip
        refine W_condF rfl h21 ?_
        refine W_skip ?_
        refine W_region ?_
        refine L0 (wanted_none rfl) rfl (y_move (v := Value.int _ _) rfl rfl) ?_
        refine L0 (wanted_none rfl) rfl (y_add64 rfl rfl rfl (by omega)) ?_
        refine L0 (wanted_none rfl) rfl (y_assign (v := Value.int _ _) rfl rfl) ?_
        refine Lnil ?_
        exact ⟨(i + 1, v, ent), by first | omega | (dsimp only; done) | (dsimp only; omega), _, A_c (iv_eq (by omega)) (A_c rfl (A_c rfl (rfl))), by omega, (by rw [freeTo_snoc.1 (by simp_all)]; exact hrow), hs19⟩
    · have h20' := h20
      first | replace h20' := of_decide_eq_false h20' | replace h20' := bnF' h20' | skip
      refine W_condF rfl h20 ?_
      refine W_exit ?_
      refine W_seq ?_
      refine W_region ?_
      refine L0 (wanted_none rfl) rfl (y_move (v := v) rfl rfl) ?_
      refine L0 (wanted_none rfl) rfl (y_assign (v := v) rfl rfl) ?_
      refine Lnil ?_
      refine W_ret ?_
      refine fin1 (fn := Tryz.f16) rfl rfl ?_
      obtain rfl : i = 21 := by omega
      exact ⟨hrow.sl hs19 (fun x hx => List.mem_cons_of_mem _ hx) 0, hs19.drops (fun x hx => .inl (freshLE hbb2 hrow.new x hx))⟩
end Go.Proofs.YtkolfgmpmnelmabGreatDoor.Ent

/-
  Walk: entry.Right.
-/
import Derived.Test.YtkolfgmpmnelmabGreatDoorN2
namespace Go.Proofs.YtkolfgmpmnelmabGreatDoor.Ent
open Go Vx Go.Proofs
set_option linter.unusedVariables false
set_option maxRecDepth 8000
set_option maxHeartbeats 4000000
theorem seen_find {es : Array MapEntry} {S : List Int} (h : SeenE es S) (a : Int) : (∃ j, Instr.findNow (.int .i64) (.int .i64 a) es.toList 0 = some (some (j, .bool (decide (a ∈ S))))) ∨ (Instr.findNow (.int .i64) (.int .i64 a) es.toList 0 = some none ∧ Value.bool (decide (a ∈ S)) = .bool false) := by
  by_cases hm : a ∈ S
  · left; rw [decide_eq_true hm]; exact h.yes a hm
  · right; exact ⟨h.no a hm, by rw [decide_eq_false hm]⟩
theorem take_snoc {l : List Int} {k : Nat} (h : k < l.length) : l.take (k + 1) = l.take k ++ [l.getD k 0] := by
  rw [List.take_add_one, List.getElem?_eq_getElem h, List.getD_eq_getElem?_getD, List.getElem?_eq_getElem h]; rfl
theorem getD_mem {l : List Int} {k : Nat} (h : k < l.length) : l.getD k 0 ∈ l := by
  rw [List.getD_eq_getElem?_getD, List.getElem?_eq_getElem h]; exact List.getElem_mem h
theorem cell_at {S cs : List Int} {k : Nat} (hk : k < cs.length) (hN : (S ++ cs).Nodup) : cs.getD k 0 ∉ S ++ cs.take k := by
  have h1 : (S ++ cs.take (k + 1)).Nodup := List.Nodup.sublist (List.Sublist.append_left (List.take_sublist _ _) _) hN
  rw [take_snoc hk, ← List.append_assoc] at h1
  exact fun hm => (List.nodup_append.1 h1).2.2 _ hm _ (by simp) rfl
theorem nodup_snoc {S : List Int} {x : Int} (h : S.Nodup) (hx : x ∉ S) : (S ++ [x]).Nodup := by
  rw [List.nodup_append]
  exact ⟨h, by simp, fun a ha b hb e => hx (by rw [List.mem_singleton] at hb; subst hb; exact e ▸ ha)⟩
theorem right_any (l : List Fl) (v0 : Value) (vc : Nat → Value) (w : World) (hF : FlsAt w v0 l vc) : C Tryz.prog 8 ⟨[v0]⟩ w fun v w' => (∃ bo, v = .bool bo ∧ (bo = true ↔ RightP l)) ∧ St w [] w' := by
  refine C_enter (n := 79) Tryz.func8 rfl rfl rfl (fun w1 hs1 => ?_)
  refine W_seq ?_
  refine W_region ?_
  refine L0 (wanted_none rfl) rfl (y_assign (v := Value.bool _) rfl rfl) ?_
  refine Lnil ?_
  refine W_seq ?_
  refine W_seq ?_
  refine W_region ?_
  refine L0 (wanted_none rfl) rfl (y_move (v := v0) rfl rfl) ?_
  refine L0 (wanted_none rfl) rfl (y_slenOps (v := v0) rfl Tryz.underlying22 rfl hF.shape) ?_
  refine L0 (wanted_none rfl) rfl (y_gt rfl rfl rfl) ?_
  refine Lnil ?_
  refine Wsp (t := 10) rfl (fun h2 => ?_) (fun h2 => ?_)
  · have h2' := h2
    first | replace h2' := of_decide_eq_true h2' | replace h2' := bnT' h2' | skip
    refine W_condT rfl h2 ?_
    refine W_seq ?_
    refine W_region ?_
    refine L0 (wanted_none rfl) rfl (y_assign (v := Value.bool _) rfl rfl) ?_
    refine Lnil ?_
    refine W_ret ?_
    refine fin1 (fn := Tryz.f8) rfl rfl ?_
    first
    | exact ⟨⟨true, rfl, iff_of_true rfl (hR.all (by omega))⟩, hs1.drops (fun x hx => .inl (fr1 hbNOBLOCK x hx))⟩
    | exact ⟨⟨false, rfl, iff_of_false (by decide) (fun hRR => by have h7 := hRR.few; omega)⟩, hs1⟩
    | exact ⟨⟨false, rfl, iff_of_false (by decide) (fun hRR => by
        have hN := hRR.nextOf (i := i) (by omega)
        have g1 := hN.name; have g2 := hN.rise; have g3 := hN.size; have g4 := hN.need; have g5 := hN.range; have g6 := hN.once
        rw [← hf] at g1 g2 g3 g4 g5 g6
        first | omega | exact absurd (hbn.2 g1) (by simpa using ‹(!bn) = true›) | exact absurd (g2 (by omega)) (by simpa using ‹(!Op.bytesLess (l.getD (i - 1) default).nm f.nm) = true›) | (have g8 := g5 (f.cs.getD k 0) (getD_mem (by omega)); omega) | exact absurd ‹_ ∈ _› (cell_at (by omega) g6))⟩, hs1.drops (fun x hx => .inl (fr2 hbNOBLOCK hbNOBLOCK x hx))⟩
  · have h2' := h2
    first | replace h2' := of_decide_eq_false h2' | replace h2' := bnF' h2' | skip
    refine W_condF rfl h2 ?_
    refine W_skip ?_
    refine W_seq ?_
    refine W_region ?_
    refine Lc (wanted_none rfl) (c_makeMap hs1 rfl rfl (fun b3 w4 hbb3 hs5 => ?_))
    refine L0 (wanted_none rfl) rfl (y_assign (v := Value.map _) rfl rfl) ?_
    refine Lnil ?_
    refine W_seq ?_
    refine W_seq ?_
    refine W_region ?_
    refine L0 (wanted_none rfl) rfl (y_move (v := v0) rfl rfl) ?_
    refine L0 (wanted_none rfl) rfl (y_slenOps (v := v0) rfl Tryz.underlying22 rfl hF.shape) ?_
    refine L0 (wanted_none rfl) rfl (y_move (v := Value.int _ _) rfl rfl) ?_
    refine Lnil ?_
    refine W_block ?_
    refine W_loop (G := Nat × Array MapEntry × Nat) (fun g aL wl => ∃ e, aL = A 79 ((14, iv g.1) :: (13, iv l.length) :: (12, v0) :: (0, v0) :: (3, .map (some b3)) :: e) ∧ g.1 ≤ l.length ∧ RightP (l.take g.1) ∧ SeenE g.2.1 (allCells (l.take g.1)) ∧ St w [(b3, .map g.2.1 g.2.2)] wl) (fun g => l.length - g.1) ((0, #[], 0)) ?_ ?_
    · exact ⟨_, A_pins _ _ [14, 13, 12, 0, 3], Nat.zero_le _, RightP.zero l, SeenE.nil, hs5⟩
    rintro g _ w6 ⟨ehs7, rfl, hi, hR, hS, hs7⟩
    obtain ⟨i, es, c⟩ := g
    dsimp only at *
    refine W_seq ?_
    refine W_region ?_
    refine L0 (wanted_none rfl) rfl (y_lt rfl rfl rfl) ?_
    refine Lnil ?_
    refine W_seq ?_
    refine Wsp (t := 15) rfl (fun h8 => ?_) (fun h8 => ?_)
    · have h8' := h8
      first | replace h8' := of_decide_eq_true h8' | replace h8' := bnT' h8' | skip
      refine W_condT rfl h8 ?_
      refine W_skip ?_
      refine W_seq ?_
      refine W_block ?_
      refine W_seq ?_
      have hOc := hF.cell i (by omega)
      have hKe := hF.cells i (by omega)
      have hOb := hF.lt (by omega)
      obtain ⟨f, hf⟩ : ∃ f, f = l.getD i default := ⟨_, rfl⟩
      obtain ⟨vi, hvi⟩ : ∃ vi, vi = vc i := ⟨_, rfl⟩
      rw [← hf, ← hvi] at hOc hKe
      have hOc : ∀ q u, (flCells f vi)[q]? = some u → w.cell? ⟨adB v0, adO v0 + (i : Int).toNat * 3 + q, none⟩ = some u := hOc
      refine W_region ?_
      refine L0 (wanted_none rfl) rfl (y_move (v := Value.int _ _) rfl rfl) ?_
      refine L0 (wanted_none rfl) rfl (y_indexOps (v := v0) rfl Tryz.underlying22 sz44 rfl rfl hF.shape (by omega) (by omega)) ?_
      refine L1 (wanted_none rfl) rfl hs7 ((y_loadNOld (vs := flCells f vi) rfl Tryz.underlying44 rfl sz44 rfl hOc rfl (by decide) (old_notin hOb (fr1 hbb3)))) ?_
      refine Lc (wanted_none rfl) (c_alloc hs7 rfl rfl zr44 (fun b9 w10 hbb9 hs11 => ?_))
      refine L0 (wanted_none rfl) rfl (y_assign (v := Value.int _ _) rfl rfl) ?_
      refine Lc (wanted_none rfl) (c_storeN (i := 0) hs11 rfl rfl rfl rfl sz44 (by rfl) (by intro u hu; simp only [flCells, List.mem_cons, List.not_mem_nil, or_false] at hu; rcases hu with rfl | rfl | rfl <;> first | rfl | exact hKe.oneE) rfl (by decide) (Fz.zero _) (fun w12 hs13 => ?_))
      have hs13 := hs13.at0E (c' := ⟨flCells f vi⟩) rfl
      refine Lnil ?_
      refine W_seq ?_
      refine W_seq ?_
      have hPc : 0 < i → w.cell? ⟨adB v0, adO v0 + ((i : Int) - 1).toNat * 3 + 0, none⟩ = some (str (l.getD (i - 1) default).nm) := fun h0 => by have e := hF.cell (i - 1) (by omega) 0 _ rfl; rwa [show ((i : Int) - 1).toNat = i - 1 from by omega]
      refine W_drawSt [(0, 0), (1, 1), (3, 2), (0, 3), (0, 4), (0, 5), (0, 6), (0, 7), (0, 8), (0, 9), (0, 14), (0, 10), (1, 15), (0, 11), (0, 12), (1, 13), (0, 16), (0, 17), (0, 18), (0, 19), (0, 20), (1, 21), (0, 22), (0, 23), (0, 24), (0, 25), (1, 26), (0, 27), (0, 28), (0, 29), (0, 30), (0, 33), (1, 31), (1, 34), (0, 32), (3, 35), (0, 36), (0, 37)] hs13 mixed (by kernel_rfl) (fun w14 hs15 => ?_)
      refine E0 (wanted_none rfl) rfl (y_fieldAddr rfl Tryz.underlying44 rfl sz9 rfl) ?_
      refine E1 hs15 (wanted_none rfl) rfl (y_load 0 rfl Tryz.underlying9 rfl rfl rfl rfl) ?_
      refine E3 (wanted_none rfl) (c_call rfl rfl rfl Tryz.func10 (by kernel_rfl) rfl (name_any f.nm w14) rfl ?_)
      rintro vf w16 ⟨⟨bn, rfl, hbn⟩, hc17⟩
      have hs18 := hs15.call0 hc17
      refine ⟨fun _ => hs18, ?_⟩
      refine E0 (wanted_none rfl) rfl (y_not rfl rfl) ?_
      refine E0 (wanted_none rfl) rfl (y_move (v := Value.bool _) rfl rfl) ?_
      refine Esp (t := 23) rfl (fun h19 => ?_) (fun h19 => ?_)
      · have h19' := h19
        first | replace h19' := of_decide_eq_true h19' | replace h19' := bnT' h19' | skip
        refine Eno (wanted_noB rfl rfl rfl h19 (by decide)) rfl ?_
        refine Eno (wanted_noB rfl rfl rfl h19 (by decide)) rfl ?_
        refine Eno (wanted_noB rfl rfl rfl h19 (by decide)) rfl ?_
        refine Eno (wanted_noU rfl rfl rfl) rfl ?_
        refine Eno (wanted_noU rfl rfl rfl) rfl ?_
        refine Eno (wanted_noU rfl rfl rfl) rfl ?_
        refine Eno (wanted_noU rfl rfl rfl) rfl ?_
        refine E1no hs18 (wanted_noU rfl rfl rfl) rfl ?_
        refine Eno (wanted_noU rfl rfl rfl) rfl ?_
        refine Eno (wanted_noU rfl rfl rfl) rfl ?_
        refine E1no hs18 (wanted_noU rfl rfl rfl) rfl ?_
        refine Eno (wanted_noU rfl rfl rfl) rfl ?_
        refine Eno (wanted_noB rfl rfl rfl h19 (by decide)) rfl ?_
        refine E0 (wanted_none rfl) rfl (y_pickT rfl rfl h19 rfl) ?_
        refine E0 (wanted_none rfl) rfl (y_move (v := Value.bool _) rfl rfl) ?_
        refine Eno (wanted_noB rfl rfl rfl rfl (by decide)) rfl ?_
        refine E1no hs18 (wanted_noB rfl rfl rfl rfl (by decide)) rfl ?_
        refine Eno (wanted_noB rfl rfl rfl rfl (by decide)) rfl ?_
        refine E0 (wanted_none rfl) rfl (y_pickT rfl rfl (rfl : true = true) rfl) ?_
        refine E0 (wanted_none rfl) rfl (y_move (v := Value.bool _) rfl rfl) ?_
        refine Eno (wanted_noB rfl rfl rfl rfl (by decide)) rfl ?_
        refine E1no hs18 (wanted_noB rfl rfl rfl rfl (by decide)) rfl ?_
        refine Eno (wanted_noB rfl rfl rfl rfl (by decide)) rfl ?_
        refine E0 (wanted_none rfl) rfl (y_pickT rfl rfl (rfl : true = true) rfl) ?_
        refine E0 (wanted_none rfl) rfl (y_move (v := Value.bool _) rfl rfl) ?_
        refine Eno (wanted_noB rfl rfl rfl rfl (by decide)) rfl ?_
        refine Eno (wanted_noB rfl rfl rfl rfl (by decide)) rfl ?_
        refine E1no hs18 (wanted_noB rfl rfl rfl rfl (by decide)) rfl ?_
        refine E1no hs18 (wanted_noB rfl rfl rfl rfl (by decide)) rfl ?_
        refine Eno (wanted_noB rfl rfl rfl rfl (by decide)) rfl ?_
        refine E3no (wanted_noB rfl rfl rfl rfl (by decide)) rfl ?_
        refine Eno (wanted_noB rfl rfl rfl rfl (by decide)) rfl ?_
        refine E0 (wanted_none rfl) rfl (y_pickT rfl rfl (rfl : true = true) rfl) ?_
        refine Enil ?_
        refine W_condT rfl rfl ?_
        refine W_seq ?_
        refine W_region ?_
        refine L0 (wanted_none rfl) rfl (y_assign (v := Value.bool _) rfl rfl) ?_
        refine Lnil ?_
        refine W_ret ?_
        refine fin1 (fn := Tryz.f8) rfl rfl ?_
        first
        | exact ⟨⟨true, rfl, iff_of_true rfl (hR.all (by omega))⟩, hs18.drops (fun x hx => .inl (fr1 hbb3 x hx))⟩
        | exact ⟨⟨false, rfl, iff_of_false (by decide) (fun hRR => by have h7 := hRR.few; omega)⟩, hs18⟩
        | exact ⟨⟨false, rfl, iff_of_false (by decide) (fun hRR => by
            have hN := hRR.nextOf (i := i) (by omega)
            have g1 := hN.name; have g2 := hN.rise; have g3 := hN.size; have g4 := hN.need; have g5 := hN.range; have g6 := hN.once
            rw [← hf] at g1 g2 g3 g4 g5 g6
            first | omega | exact absurd (hbn.2 g1) (by simpa using ‹(!bn) = true›) | exact absurd (g2 (by omega)) (by simpa using ‹(!Op.bytesLess (l.getD (i - 1) default).nm f.nm) = true›) | (have g8 := g5 (f.cs.getD k 0) (getD_mem (by omega)); omega) | exact absurd ‹_ ∈ _› (cell_at (by omega) g6))⟩, hs18.drops (fun x hx => .inl (fr2 hbb9 hbb3 x hx))⟩
      · have h19' := h19
        first | replace h19' := of_decide_eq_false h19' | replace h19' := bnF' h19' | skip
        refine E0 (wanted_yesB rfl rfl rfl h19) rfl (y_move (v := Value.int _ _) rfl rfl) ?_
        refine E0 (wanted_yesB rfl rfl rfl h19) rfl (y_gt rfl rfl rfl) ?_
        refine E0 (wanted_yesB rfl rfl rfl h19) rfl (y_move (v := Value.bool _) rfl rfl) ?_
        refine Esp (t := 26) rfl (fun h20 => ?_) (fun h20 => ?_)
        · have h20' := h20
          first | replace h20' := of_decide_eq_true h20' | replace h20' := bnT' h20' | skip
          refine E0 (wanted_yesB rfl rfl rfl h20) rfl (y_move (v := v0) rfl rfl) ?_
          refine E0 (wanted_yesB rfl rfl rfl h20) rfl (y_move (v := Value.int _ _) rfl rfl) ?_
          refine E0 (wanted_yesB rfl rfl rfl h20) rfl (y_fieldAddr rfl Tryz.underlying44 rfl sz9 rfl) ?_
          refine E0 (wanted_yesB rfl rfl rfl h20) rfl (y_sub64 rfl rfl rfl (by omega)) ?_
          refine E1 hs18 (wanted_yesB rfl rfl rfl h20) rfl (y_load 0 rfl Tryz.underlying9 rfl rfl rfl rfl) ?_
          refine E0 (wanted_yesB rfl rfl rfl h20) rfl (y_indexOps (v := v0) rfl Tryz.underlying22 sz44 rfl rfl hF.shape (by omega) (by omega)) ?_
          refine E0 (wanted_yesB rfl rfl rfl h20) rfl (y_fieldAddr rfl Tryz.underlying44 rfl sz9 rfl) ?_
          refine E1 hs18 (wanted_yesB rfl rfl rfl h20) rfl ((y_loadOld rfl Tryz.underlying9 rfl rfl (hPc (by omega)) (old_notin hOb (fr2 hbb9 hbb3)))) ?_
          refine E0 (wanted_yesB rfl rfl rfl h20) rfl (y_sge rfl rfl rfl) ?_
          refine E0 (wanted_yesB rfl rfl rfl h19) rfl (y_pickT rfl rfl h20 rfl) ?_
          refine E0 (wanted_none rfl) rfl (y_pickF rfl rfl h19 rfl) ?_
          refine E0 (wanted_none rfl) rfl (y_move (v := Value.bool _) rfl rfl) ?_
          refine Esp (t := 38) rfl (fun h21 => ?_) (fun h21 => ?_)
          · have h21' := h21
            first | replace h21' := of_decide_eq_true h21' | replace h21' := bnT' h21' | skip
            refine Eno (wanted_noB rfl rfl rfl h21 (by decide)) rfl ?_
            refine E1no hs18 (wanted_noB rfl rfl rfl h21 (by decide)) rfl ?_
            refine Eno (wanted_noB rfl rfl rfl h21 (by decide)) rfl ?_
            refine E0 (wanted_none rfl) rfl (y_pickT rfl rfl h21 rfl) ?_
            refine E0 (wanted_none rfl) rfl (y_move (v := Value.bool _) rfl rfl) ?_
            refine Eno (wanted_noB rfl rfl rfl rfl (by decide)) rfl ?_
            refine E1no hs18 (wanted_noB rfl rfl rfl rfl (by decide)) rfl ?_
            refine Eno (wanted_noB rfl rfl rfl rfl (by decide)) rfl ?_
            refine E0 (wanted_none rfl) rfl (y_pickT rfl rfl (rfl : true = true) rfl) ?_
            refine E0 (wanted_none rfl) rfl (y_move (v := Value.bool _) rfl rfl) ?_
            refine Eno (wanted_noB rfl rfl rfl rfl (by decide)) rfl ?_
            refine Eno (wanted_noB rfl rfl rfl rfl (by decide)) rfl ?_
            refine E1no hs18 (wanted_noB rfl rfl rfl rfl (by decide)) rfl ?_
            refine E1no hs18 (wanted_noB rfl rfl rfl rfl (by decide)) rfl ?_
            refine Eno (wanted_noB rfl rfl rfl rfl (by decide)) rfl ?_
            refine E3no (wanted_noB rfl rfl rfl rfl (by decide)) rfl ?_
            refine Eno (wanted_noB rfl rfl rfl rfl (by decide)) rfl ?_
            refine E0 (wanted_none rfl) rfl (y_pickT rfl rfl (rfl : true = true) rfl) ?_
            refine Enil ?_
            refine W_condT rfl rfl ?_
            refine W_seq ?_
            refine W_region ?_
            refine L0 (wanted_none rfl) rfl (y_assign (v := Value.bool _) rfl rfl) ?_
            refine Lnil ?_
            refine W_ret ?_
            refine fin1 (fn := Tryz.f8) rfl rfl ?_
            first
            | exact ⟨⟨true, rfl, iff_of_true rfl (hR.all (by omega))⟩, hs18.drops (fun x hx => .inl (fr1 hbb3 x hx))⟩
            | exact ⟨⟨false, rfl, iff_of_false (by decide) (fun hRR => by have h7 := hRR.few; omega)⟩, hs18⟩
            | exact ⟨⟨false, rfl, iff_of_false (by decide) (fun hRR => by
                have hN := hRR.nextOf (i := i) (by omega)
                have g1 := hN.name; have g2 := hN.rise; have g3 := hN.size; have g4 := hN.need; have g5 := hN.range; have g6 := hN.once
                rw [← hf] at g1 g2 g3 g4 g5 g6
                first | omega | exact absurd (hbn.2 g1) (by simpa using ‹(!bn) = true›) | exact absurd (g2 (by omega)) (by simpa using ‹(!Op.bytesLess (l.getD (i - 1) default).nm f.nm) = true›) | (have g8 := g5 (f.cs.getD k 0) (getD_mem (by omega)); omega) | exact absurd ‹_ ∈ _› (cell_at (by omega) g6))⟩, hs18.drops (fun x hx => .inl (fr2 hbb9 hbb3 x hx))⟩
          · have h21' := h21
            first | replace h21' := of_decide_eq_false h21' | replace h21' := bnF' h21' | skip
            refine E0 (wanted_yesB rfl rfl rfl h21) rfl (y_fieldAddr rfl Tryz.underlying44 rfl sz3 rfl) ?_
            refine E1 hs18 (wanted_yesB rfl rfl rfl h21) rfl (y_load 0 rfl Tryz.underlying3 rfl rfl rfl rfl) ?_
            refine E0 (wanted_yesB rfl rfl rfl h21) rfl (y_lt rfl rfl rfl) ?_
            refine E0 (wanted_none rfl) rfl (y_pickF rfl rfl h21 rfl) ?_
            refine E0 (wanted_none rfl) rfl (y_move (v := Value.bool _) rfl rfl) ?_
            refine Esp (t := 43) rfl (fun h22 => ?_) (fun h22 => ?_)
            · have h22' := h22
              first | replace h22' := of_decide_eq_true h22' | replace h22' := bnT' h22' | skip
              refine Eno (wanted_noB rfl rfl rfl h22 (by decide)) rfl ?_
              refine E1no hs18 (wanted_noB rfl rfl rfl h22 (by decide)) rfl ?_
              refine Eno (wanted_noB rfl rfl rfl h22 (by decide)) rfl ?_
              refine E0 (wanted_none rfl) rfl (y_pickT rfl rfl h22 rfl) ?_
              refine E0 (wanted_none rfl) rfl (y_move (v := Value.bool _) rfl rfl) ?_
              refine Eno (wanted_noB rfl rfl rfl rfl (by decide)) rfl ?_
              refine Eno (wanted_noB rfl rfl rfl rfl (by decide)) rfl ?_
              refine E1no hs18 (wanted_noB rfl rfl rfl rfl (by decide)) rfl ?_
              refine E1no hs18 (wanted_noB rfl rfl rfl rfl (by decide)) rfl ?_
              refine Eno (wanted_noB rfl rfl rfl rfl (by decide)) rfl ?_
              refine E3no (wanted_noB rfl rfl rfl rfl (by decide)) rfl ?_
              refine Eno (wanted_noB rfl rfl rfl rfl (by decide)) rfl ?_
              refine E0 (wanted_none rfl) rfl (y_pickT rfl rfl (rfl : true = true) rfl) ?_
              refine Enil ?_
              refine W_condT rfl rfl ?_
              refine W_seq ?_
              refine W_region ?_
              refine L0 (wanted_none rfl) rfl (y_assign (v := Value.bool _) rfl rfl) ?_
              refine Lnil ?_
              refine W_ret ?_
              refine fin1 (fn := Tryz.f8) rfl rfl ?_
              first
              | exact ⟨⟨true, rfl, iff_of_true rfl (hR.all (by omega))⟩, hs18.drops (fun x hx => .inl (fr1 hbb3 x hx))⟩
              | exact ⟨⟨false, rfl, iff_of_false (by decide) (fun hRR => by have h7 := hRR.few; omega)⟩, hs18⟩
              | exact ⟨⟨false, rfl, iff_of_false (by decide) (fun hRR => by
                  have hN := hRR.nextOf (i := i) (by omega)
                  have g1 := hN.name; have g2 := hN.rise; have g3 := hN.size; have g4 := hN.need; have g5 := hN.range; have g6 := hN.once
                  rw [← hf] at g1 g2 g3 g4 g5 g6
                  first | omega | exact absurd (hbn.2 g1) (by simpa using ‹(!bn) = true›) | exact absurd (g2 (by omega)) (by simpa using ‹(!Op.bytesLess (l.getD (i - 1) default).nm f.nm) = true›) | (have g8 := g5 (f.cs.getD k 0) (getD_mem (by omega)); omega) | exact absurd ‹_ ∈ _› (cell_at (by omega) g6))⟩, hs18.drops (fun x hx => .inl (fr2 hbb9 hbb3 x hx))⟩
            · have h22' := h22
              first | replace h22' := of_decide_eq_false h22' | replace h22' := bnF' h22' | skip
              refine E0 (wanted_yesB rfl rfl rfl h22) rfl (y_fieldAddr rfl Tryz.underlying44 rfl sz3 rfl) ?_
              refine E1 hs18 (wanted_yesB rfl rfl rfl h22) rfl (y_load 0 rfl Tryz.underlying3 rfl rfl rfl rfl) ?_
              refine E0 (wanted_yesB rfl rfl rfl h22) rfl (y_gt rfl rfl rfl) ?_
              refine E0 (wanted_none rfl) rfl (y_pickF rfl rfl h22 rfl) ?_
              refine E0 (wanted_none rfl) rfl (y_move (v := Value.bool _) rfl rfl) ?_
              refine Esp (t := 48) rfl (fun h23 => ?_) (fun h23 => ?_)
              · have h23' := h23
                first | replace h23' := of_decide_eq_true h23' | replace h23' := bnT' h23' | skip
                refine Eno (wanted_noB rfl rfl rfl h23 (by decide)) rfl ?_
                refine Eno (wanted_noB rfl rfl rfl h23 (by decide)) rfl ?_
                refine E1no hs18 (wanted_noB rfl rfl rfl h23 (by decide)) rfl ?_
                refine E1no hs18 (wanted_noB rfl rfl rfl h23 (by decide)) rfl ?_
                refine Eno (wanted_noB rfl rfl rfl h23 (by decide)) rfl ?_
                refine E3no (wanted_noB rfl rfl rfl h23 (by decide)) rfl ?_
                refine Eno (wanted_noB rfl rfl rfl h23 (by decide)) rfl ?_
                refine E0 (wanted_none rfl) rfl (y_pickT rfl rfl h23 rfl) ?_
                refine Enil ?_
                refine W_condT rfl rfl ?_
                refine W_seq ?_
                refine W_region ?_
                refine L0 (wanted_none rfl) rfl (y_assign (v := Value.bool _) rfl rfl) ?_
                refine Lnil ?_
                refine W_ret ?_
                refine fin1 (fn := Tryz.f8) rfl rfl ?_
                first
                | exact ⟨⟨true, rfl, iff_of_true rfl (hR.all (by omega))⟩, hs18.drops (fun x hx => .inl (fr1 hbb3 x hx))⟩
                | exact ⟨⟨false, rfl, iff_of_false (by decide) (fun hRR => by have h7 := hRR.few; omega)⟩, hs18⟩
                | exact ⟨⟨false, rfl, iff_of_false (by decide) (fun hRR => by
                    have hN := hRR.nextOf (i := i) (by omega)
                    have g1 := hN.name; have g2 := hN.rise; have g3 := hN.size; have g4 := hN.need; have g5 := hN.range; have g6 := hN.once
                    rw [← hf] at g1 g2 g3 g4 g5 g6
                    first | omega | exact absurd (hbn.2 g1) (by simpa using ‹(!bn) = true›) | exact absurd (g2 (by omega)) (by simpa using ‹(!Op.bytesLess (l.getD (i - 1) default).nm f.nm) = true›) | (have g8 := g5 (f.cs.getD k 0) (getD_mem (by omega)); omega) | exact absurd ‹_ ∈ _› (cell_at (by omega) g6))⟩, hs18.drops (fun x hx => .inl (fr2 hbb9 hbb3 x hx))⟩
              · have h23' := h23
                first | replace h23' := of_decide_eq_false h23' | replace h23' := bnF' h23' | skip
                refine E0 (wanted_yesB rfl rfl rfl h23) rfl (y_fieldAddr rfl Tryz.underlying44 rfl sz35 rfl) ?_
                refine E0 (wanted_yesB rfl rfl rfl h23) rfl (y_fieldAddr rfl Tryz.underlying44 rfl sz3 rfl) ?_
                refine E1 hs18 (wanted_yesB rfl rfl rfl h23) rfl ((y_load 0 rfl Tryz.underlying35 rfl rfl rfl (v := vi) rfl)) ?_
                refine E1 hs18 (wanted_yesB rfl rfl rfl h23) rfl (y_load 0 rfl Tryz.underlying3 rfl rfl rfl rfl) ?_
                refine E0 (wanted_yesB rfl rfl rfl h23) rfl (y_slenSl rfl Tryz.underlying35 rfl hKe) ?_
                refine E3 (wanted_yesB rfl rfl rfl h23) (c_call rfl rfl rfl Tryz.func12 (by kernel_rfl) rfl (need_any f.sz (by omega) (by omega) w16) rfl ?_)
                rintro _ w24 ⟨rfl, hc25⟩
                have hs26 := hs18.call0 hc25
                refine ⟨fun _ => hs26, ?_⟩
                refine E0 (wanted_yesB rfl rfl rfl h23) rfl (y_ne rfl rfl rfl) ?_
                refine E0 (wanted_none rfl) rfl (y_pickF rfl rfl h23 rfl) ?_
                refine Enil ?_
                refine Wsp (t := 56) rfl (fun h27 => ?_) (fun h27 => ?_)
                · have h27' := h27
                  first | replace h27' := of_decide_eq_true h27' | replace h27' := bnT' h27' | skip
                  refine W_condT rfl h27 ?_
                  refine W_seq ?_
                  refine W_region ?_
                  refine L0 (wanted_none rfl) rfl (y_assign (v := Value.bool _) rfl rfl) ?_
                  refine Lnil ?_
                  refine W_ret ?_
                  refine fin1 (fn := Tryz.f8) rfl rfl ?_
                  first
                  | exact ⟨⟨true, rfl, iff_of_true rfl (hR.all (by omega))⟩, hs26.drops (fun x hx => .inl (fr1 hbb3 x hx))⟩
                  | exact ⟨⟨false, rfl, iff_of_false (by decide) (fun hRR => by have h7 := hRR.few; omega)⟩, hs26⟩
                  | exact ⟨⟨false, rfl, iff_of_false (by decide) (fun hRR => by
                      have hN := hRR.nextOf (i := i) (by omega)
                      have g1 := hN.name; have g2 := hN.rise; have g3 := hN.size; have g4 := hN.need; have g5 := hN.range; have g6 := hN.once
                      rw [← hf] at g1 g2 g3 g4 g5 g6
                      first | omega | exact absurd (hbn.2 g1) (by simpa using ‹(!bn) = true›) | exact absurd (g2 (by omega)) (by simpa using ‹(!Op.bytesLess (l.getD (i - 1) default).nm f.nm) = true›) | (have g8 := g5 (f.cs.getD k 0) (getD_mem (by omega)); omega) | exact absurd ‹_ ∈ _› (cell_at (by omega) g6))⟩, hs26.drops (fun x hx => .inl (fr2 hbb9 hbb3 x hx))⟩
                · have h27' := h27
                  first | replace h27' := of_decide_eq_false h27' | replace h27' := bnF' h27' | skip
                  refine W_condF rfl h27 ?_
                  refine W_skip ?_
                  refine W_seq ?_
                  have hnl : f.cs.length ≤ 25 := by
                    have h9 : (f.cs.length : Int) = needI f.sz := by omega
                    rw [needI] at h9; omega
                  refine W_region ?_
                  refine L0 (wanted_none rfl) rfl (y_fieldAddr rfl Tryz.underlying44 rfl sz35 rfl) ?_
                  refine L1 (wanted_none rfl) rfl hs26 ((y_load 0 rfl Tryz.underlying35 rfl rfl rfl (v := vi) rfl)) ?_
                  refine L0 (wanted_none rfl) rfl (y_slenSl rfl Tryz.underlying35 rfl hKe) ?_
                  refine L0 (wanted_none rfl) rfl (y_move (v := Value.int _ _) rfl rfl) ?_
                  refine Lnil ?_
                  refine W_block ?_
                  refine W_loop (G := Nat × Array MapEntry × Nat) (fun g aL wl => ∃ e, aL = A 79 ((60, iv g.1) :: (59, iv f.cs.length) :: (58, vi) :: (14, iv i) :: (13, iv l.length) :: (12, v0) :: (0, v0) :: (3, .map (some b3)) :: e) ∧ g.1 ≤ f.cs.length ∧ (∀ x ∈ f.cs.take g.1, 3 ≤ x ∧ x < 24) ∧ (allCells (l.take i) ++ f.cs.take g.1).Nodup ∧ SeenE g.2.1 (allCells (l.take i) ++ f.cs.take g.1) ∧ St w [(b9, .cells ⟨flCells f vi⟩ 44 (0, 0)), (b3, .map g.2.1 g.2.2)] wl) (fun g => f.cs.length - g.1) ((0, es, c)) ?_ ?_
                  · exact ⟨_, A_pins _ _ [60, 59, 58, 14, 13, 12, 0, 3], Nat.zero_le _, (by simp), (by simpa using hR.once), (by simpa using hS), hs26⟩
                  rintro g _ w28 ⟨ehs29, rfl, hk, hrg, hnd, hS2, hs29⟩
                  obtain ⟨k, es2, c2⟩ := g
                  dsimp only at *
                  refine W_seq ?_
                  refine W_region ?_
                  refine L0 (wanted_none rfl) rfl (y_lt rfl rfl rfl) ?_
                  refine Lnil ?_
                  refine W_seq ?_
                  refine Wsp (t := 61) rfl (fun h30 => ?_) (fun h30 => ?_)
                  · have h30' := h30
                    first | replace h30' := of_decide_eq_true h30' | replace h30' := bnT' h30' | skip
                    refine W_condT rfl h30 ?_
                    refine W_skip ?_
                    refine W_seq ?_
                    refine W_block ?_
                    refine W_seq ?_
                    refine W_region ?_
                    refine L0 (wanted_none rfl) rfl (y_indexSlAt rfl Tryz.underlying35 sz3 rfl rfl hKe (by omega) (by omega)) ?_
                    refine L1 (wanted_none rfl) rfl hs29 (y_loadSl k rfl Tryz.underlying3 rfl rfl hKe (by omega) (by omega) (fun x hx => (by obtain ⟨y, hy, rfl⟩ := List.mem_map.1 hx; exact fr2 hbb9 hbb3 y hy))) ?_
                    refine L0 (wanted_none rfl) rfl (y_assign (v := Value.int _ _) rfl rfl) ?_
                    refine Lnil ?_
                    refine W_seq ?_
                    refine W_seq ?_
                    refine W_region ?_
                    refine L0 (wanted_none rfl) rfl (y_move (v := Value.int _ _) rfl rfl) ?_
                    refine L0 (wanted_none rfl) rfl (y_lt rfl rfl rfl) ?_
                    refine L0 (wanted_none rfl) rfl (y_move (v := Value.bool _) rfl rfl) ?_
                    refine Lsp (t := 66) rfl (fun h31 => ?_) (fun h31 => ?_)
                    · have h31' := h31
                      first | replace h31' := of_decide_eq_true h31' | replace h31' := bnT' h31' | skip
                      refine Lno (wanted_noB rfl rfl rfl h31 (by decide)) rfl ?_
                      refine Lno (wanted_noB rfl rfl rfl h31 (by decide)) rfl ?_
                      refine L0 (wanted_none rfl) rfl (y_pickT rfl rfl h31 rfl) ?_
                      refine L0 (wanted_none rfl) rfl (y_move (v := Value.bool _) rfl rfl) ?_
                      refine Lno (wanted_noB rfl rfl rfl rfl (by decide)) rfl ?_
                      refine Lno (wanted_noB rfl rfl rfl rfl (by decide)) rfl ?_
                      refine Lno (wanted_noB rfl rfl rfl rfl (by decide)) rfl ?_
                      refine L0 (wanted_none rfl) rfl (y_pickT rfl rfl (rfl : true = true) rfl) ?_
                      refine Lnil ?_
                      refine W_condT rfl rfl ?_
                      refine W_seq ?_
                      refine W_region ?_
                      refine L0 (wanted_none rfl) rfl (y_assign (v := Value.bool _) rfl rfl) ?_
                      refine Lnil ?_
                      refine W_ret ?_
                      refine fin1 (fn := Tryz.f8) rfl rfl ?_
                      first
                      | exact ⟨⟨true, rfl, iff_of_true rfl (hR.all (by omega))⟩, hs29.drops (fun x hx => .inl (fr1 hbb3 x hx))⟩
                      | exact ⟨⟨false, rfl, iff_of_false (by decide) (fun hRR => by have h7 := hRR.few; omega)⟩, hs29⟩
                      | exact ⟨⟨false, rfl, iff_of_false (by decide) (fun hRR => by
                          have hN := hRR.nextOf (i := i) (by omega)
                          have g1 := hN.name; have g2 := hN.rise; have g3 := hN.size; have g4 := hN.need; have g5 := hN.range; have g6 := hN.once
                          rw [← hf] at g1 g2 g3 g4 g5 g6
                          first | omega | exact absurd (hbn.2 g1) (by simpa using ‹(!bn) = true›) | exact absurd (g2 (by omega)) (by simpa using ‹(!Op.bytesLess (l.getD (i - 1) default).nm f.nm) = true›) | (have g8 := g5 (f.cs.getD k 0) (getD_mem (by omega)); omega) | exact absurd ‹_ ∈ _› (cell_at (by omega) g6))⟩, hs29.drops (fun x hx => .inl (fr2 hbb9 hbb3 x hx))⟩
                    · have h31' := h31
                      first | replace h31' := of_decide_eq_false h31' | replace h31' := bnF' h31' | skip
                      refine L0 (wanted_yesB rfl rfl rfl h31) rfl (y_move (v := Value.int _ _) rfl rfl) ?_
                      refine L0 (wanted_yesB rfl rfl rfl h31) rfl (y_ge rfl rfl rfl) ?_
                      refine L0 (wanted_none rfl) rfl (y_pickF rfl rfl h31 rfl) ?_
                      refine L0 (wanted_none rfl) rfl (y_move (v := Value.bool _) rfl rfl) ?_
                      refine Lsp (t := 70) rfl (fun h32 => ?_) (fun h32 => ?_)
                      · have h32' := h32
                        first | replace h32' := of_decide_eq_true h32' | replace h32' := bnT' h32' | skip
                        refine Lno (wanted_noB rfl rfl rfl h32 (by decide)) rfl ?_
                        refine Lno (wanted_noB rfl rfl rfl h32 (by decide)) rfl ?_
                        refine Lno (wanted_noB rfl rfl rfl h32 (by decide)) rfl ?_
                        refine L0 (wanted_none rfl) rfl (y_pickT rfl rfl h32 rfl) ?_
                        refine Lnil ?_
                        refine W_condT rfl rfl ?_
                        refine W_seq ?_
                        refine W_region ?_
                        refine L0 (wanted_none rfl) rfl (y_assign (v := Value.bool _) rfl rfl) ?_
                        refine Lnil ?_
                        refine W_ret ?_
                        refine fin1 (fn := Tryz.f8) rfl rfl ?_
                        first
                        | exact ⟨⟨true, rfl, iff_of_true rfl (hR.all (by omega))⟩, hs29.drops (fun x hx => .inl (fr1 hbb3 x hx))⟩
                        | exact ⟨⟨false, rfl, iff_of_false (by decide) (fun hRR => by have h7 := hRR.few; omega)⟩, hs29⟩
                        | exact ⟨⟨false, rfl, iff_of_false (by decide) (fun hRR => by
                            have hN := hRR.nextOf (i := i) (by omega)
                            have g1 := hN.name; have g2 := hN.rise; have g3 := hN.size; have g4 := hN.need; have g5 := hN.range; have g6 := hN.once
                            rw [← hf] at g1 g2 g3 g4 g5 g6
                            first | omega | exact absurd (hbn.2 g1) (by simpa using ‹(!bn) = true›) | exact absurd (g2 (by omega)) (by simpa using ‹(!Op.bytesLess (l.getD (i - 1) default).nm f.nm) = true›) | (have g8 := g5 (f.cs.getD k 0) (getD_mem (by omega)); omega) | exact absurd ‹_ ∈ _› (cell_at (by omega) g6))⟩, hs29.drops (fun x hx => .inl (fr2 hbb9 hbb3 x hx))⟩
                      · have h32' := h32
                        first | replace h32' := of_decide_eq_false h32' | replace h32' := bnF' h32' | skip
                        refine L0 (wanted_yesB rfl rfl rfl h32) rfl (y_move (v := Value.map _) rfl rfl) ?_
                        refine L0 (wanted_yesB rfl rfl rfl h32) rfl (y_move (v := Value.int _ _) rfl rfl) ?_
                        refine L1 (wanted_yesB rfl rfl rfl h32) rfl hs29 (y_lookupP (i := 1) (r := .bool (decide (f.cs.getD k 0 ∈ allCells (l.take i) ++ f.cs.take k))) rfl Tryz.underlying50 Tryz.underlying3 zr4 rfl rfl rfl (seen_find hS2 _)) ?_
                        refine L0 (wanted_none rfl) rfl (y_pickF rfl rfl h32 rfl) ?_
                        refine Lnil ?_
                        refine Wsp (t := 74) rfl (fun h33 => ?_) (fun h33 => ?_)
                        · have h33' := h33
                          first | replace h33' := of_decide_eq_true h33' | replace h33' := bnT' h33' | skip
                          refine W_condT rfl h33 ?_
                          refine W_seq ?_
                          refine W_region ?_
                          refine L0 (wanted_none rfl) rfl (y_assign (v := Value.bool _) rfl rfl) ?_
                          refine Lnil ?_
                          refine W_ret ?_
                          refine fin1 (fn := Tryz.f8) rfl rfl ?_
                          first
                          | exact ⟨⟨true, rfl, iff_of_true rfl (hR.all (by omega))⟩, hs29.drops (fun x hx => .inl (fr1 hbb3 x hx))⟩
                          | exact ⟨⟨false, rfl, iff_of_false (by decide) (fun hRR => by have h7 := hRR.few; omega)⟩, hs29⟩
                          | exact ⟨⟨false, rfl, iff_of_false (by decide) (fun hRR => by
                              have hN := hRR.nextOf (i := i) (by omega)
                              have g1 := hN.name; have g2 := hN.rise; have g3 := hN.size; have g4 := hN.need; have g5 := hN.range; have g6 := hN.once
                              rw [← hf] at g1 g2 g3 g4 g5 g6
                              first | omega | exact absurd (hbn.2 g1) (by simpa using ‹(!bn) = true›) | exact absurd (g2 (by omega)) (by simpa using ‹(!Op.bytesLess (l.getD (i - 1) default).nm f.nm) = true›) | (have g8 := g5 (f.cs.getD k 0) (getD_mem (by omega)); omega) | exact absurd ‹_ ∈ _› (cell_at (by omega) g6))⟩, hs29.drops (fun x hx => .inl (fr2 hbb9 hbb3 x hx))⟩
                        · have h33' := h33
                          first | replace h33' := of_decide_eq_false h33' | replace h33' := bnF' h33' | skip
                          refine W_condF rfl h33 ?_
                          refine W_skip ?_
                          refine W_region ?_
                          refine L0 (wanted_none rfl) rfl (y_move (v := Value.map _) rfl rfl) ?_
                          refine L0 (wanted_none rfl) rfl (y_move (v := Value.int _ _) rfl rfl) ?_
                          refine Lc (wanted_none rfl) (c_mapUpdate (i := 1) (v := .bool true) hs29 rfl rfl rfl rfl rfl Tryz.underlying50 Tryz.underlying3 rfl (hS2.no _ (by assumption)) (fun w34 hs35 => ?_))
                          refine Lnil ?_
                          refine W_region ?_
                          refine L0 (wanted_none rfl) rfl (y_add64 rfl rfl rfl (by omega)) ?_
                          refine L0 (wanted_none rfl) rfl (y_move (v := Value.int _ _) rfl rfl) ?_
                          refine Lnil ?_
                          exact ⟨(k + 1, _, _), by first | omega | (dsimp only; done) | (dsimp only; omega), _, A_c (iv_eq (by first | omega | (dsimp only; done) | (dsimp only; omega))) (A_c rfl (A_c rfl (A_c rfl (A_c rfl (A_c rfl (A_c rfl (A_c rfl (rfl)))))))), by omega, (by rw [take_snoc (by omega)]; intro x hx; rcases List.mem_append.1 hx with h7 | h7; exact hrg x h7; rw [List.mem_singleton] at h7; subst h7; omega), (by rw [take_snoc (by omega), ← List.append_assoc]; exact nodup_snoc hnd (by assumption)), (by rw [take_snoc (by omega), ← List.append_assoc]; exact hS2.push (by assumption) _), hs35⟩
                  · have h30' := h30
                    first | replace h30' := of_decide_eq_false h30' | replace h30' := bnF' h30' | skip
                    refine W_condF rfl h30 ?_
                    refine W_exit ?_
                    refine W_region ?_
                    refine L0 (wanted_none rfl) rfl (y_add64 rfl rfl rfl (by omega)) ?_
                    refine L0 (wanted_none rfl) rfl (y_move (v := Value.int _ _) rfl rfl) ?_
                    refine Lnil ?_
                    have ek : f.cs.take k = f.cs := List.take_of_length_le (by omega)
                    rw [ek] at hrg hnd hS2
                    have hbt : bn = true := by simpa using ‹(!bn) = false›
                    have hNx : Next l i := ⟨hf ▸ hbn.1 hbt, fun h0 => by first | (exfalso; omega) | (rw [← hf]; simpa using ‹(!Op.bytesLess (l.getD (i - 1) default).nm f.nm) = false›), by rw [← hf]; omega, by rw [← hf]; omega, by rw [← hf]; exact hrg, by rw [← hf]; exact hnd⟩
                    have hR2 := hR.more (by omega) (by omega) hNx
                    exact ⟨(i + 1, es2, c2), by first | omega | (dsimp only; done) | (dsimp only; omega), _, A_c (iv_eq (by first | omega | (dsimp only; done) | (dsimp only; omega))) (A_c rfl (A_c rfl (A_c rfl (A_c rfl (rfl))))), by omega, hR2, (by rw [allCells_take (by omega), ← hf]; exact hS2), hs29.drop (.inl hbb9)⟩
        · have h20' := h20
          first | replace h20' := of_decide_eq_false h20' | replace h20' := bnF' h20' | skip
          refine Eno (wanted_noB rfl rfl rfl h20 (by decide)) rfl ?_
          refine Eno (wanted_noB rfl rfl rfl h20 (by decide)) rfl ?_
          refine Eno (wanted_noB rfl rfl rfl h20 (by decide)) rfl ?_
          refine Eno (wanted_noB rfl rfl rfl h20 (by decide)) rfl ?_
          refine E1no hs18 (wanted_noB rfl rfl rfl h20 (by decide)) rfl ?_
          refine Eno (wanted_noB rfl rfl rfl h20 (by decide)) rfl ?_
          refine Eno (wanted_noB rfl rfl rfl h20 (by decide)) rfl ?_
          refine E1no hs18 (wanted_noB rfl rfl rfl h20 (by decide)) rfl ?_
          refine Eno (wanted_noB rfl rfl rfl h20 (by decide)) rfl ?_
          refine E0 (wanted_yesB rfl rfl rfl h19) rfl (y_pickF rfl rfl h20 rfl) ?_
          refine E0 (wanted_none rfl) rfl (y_pickF rfl rfl h19 rfl) ?_
          refine E0 (wanted_none rfl) rfl (y_move (v := Value.bool _) rfl rfl) ?_
          refine E0 (wanted_yesB rfl rfl rfl rfl) rfl (y_fieldAddr rfl Tryz.underlying44 rfl sz3 rfl) ?_
          refine E1 hs18 (wanted_yesB rfl rfl rfl rfl) rfl (y_load 0 rfl Tryz.underlying3 rfl rfl rfl rfl) ?_
          refine E0 (wanted_yesB rfl rfl rfl rfl) rfl (y_lt rfl rfl rfl) ?_
          refine E0 (wanted_none rfl) rfl (y_pickF rfl rfl (rfl : false = false) rfl) ?_
          refine E0 (wanted_none rfl) rfl (y_move (v := Value.bool _) rfl rfl) ?_
          refine Esp (t := 43) rfl (fun h36 => ?_) (fun h36 => ?_)
          · have h36' := h36
            first | replace h36' := of_decide_eq_true h36' | replace h36' := bnT' h36' | skip
            refine Eno (wanted_noB rfl rfl rfl h36 (by decide)) rfl ?_
            refine E1no hs18 (wanted_noB rfl rfl rfl h36 (by decide)) rfl ?_
            refine Eno (wanted_noB rfl rfl rfl h36 (by decide)) rfl ?_
            refine E0 (wanted_none rfl) rfl (y_pickT rfl rfl h36 rfl) ?_
            refine E0 (wanted_none rfl) rfl (y_move (v := Value.bool _) rfl rfl) ?_
            refine Eno (wanted_noB rfl rfl rfl rfl (by decide)) rfl ?_
            refine Eno (wanted_noB rfl rfl rfl rfl (by decide)) rfl ?_
            refine E1no hs18 (wanted_noB rfl rfl rfl rfl (by decide)) rfl ?_
            refine E1no hs18 (wanted_noB rfl rfl rfl rfl (by decide)) rfl ?_
            refine Eno (wanted_noB rfl rfl rfl rfl (by decide)) rfl ?_
            refine E3no (wanted_noB rfl rfl rfl rfl (by decide)) rfl ?_
            refine Eno (wanted_noB rfl rfl rfl rfl (by decide)) rfl ?_
            refine E0 (wanted_none rfl) rfl (y_pickT rfl rfl (rfl : true = true) rfl) ?_
            refine Enil ?_
            refine W_condT rfl rfl ?_
            refine W_seq ?_
            refine W_region ?_
            refine L0 (wanted_none rfl) rfl (y_assign (v := Value.bool _) rfl rfl) ?_
            refine Lnil ?_
            refine W_ret ?_
            refine fin1 (fn := Tryz.f8) rfl rfl ?_
            first
            | exact ⟨⟨true, rfl, iff_of_true rfl (hR.all (by omega))⟩, hs18.drops (fun x hx => .inl (fr1 hbb3 x hx))⟩
            | exact ⟨⟨false, rfl, iff_of_false (by decide) (fun hRR => by have h7 := hRR.few; omega)⟩, hs18⟩
            | exact ⟨⟨false, rfl, iff_of_false (by decide) (fun hRR => by
                have hN := hRR.nextOf (i := i) (by omega)
                have g1 := hN.name; have g2 := hN.rise; have g3 := hN.size; have g4 := hN.need; have g5 := hN.range; have g6 := hN.once
                rw [← hf] at g1 g2 g3 g4 g5 g6
                first | omega | exact absurd (hbn.2 g1) (by simpa using ‹(!bn) = true›) | exact absurd (g2 (by omega)) (by simpa using ‹(!Op.bytesLess (l.getD (i - 1) default).nm f.nm) = true›) | (have g8 := g5 (f.cs.getD k 0) (getD_mem (by omega)); omega) | exact absurd ‹_ ∈ _› (cell_at (by omega) g6))⟩, hs18.drops (fun x hx => .inl (fr2 hbb9 hbb3 x hx))⟩
          · have h36' := h36
            first | replace h36' := of_decide_eq_false h36' | replace h36' := bnF' h36' | skip
            refine E0 (wanted_yesB rfl rfl rfl h36) rfl (y_fieldAddr rfl Tryz.underlying44 rfl sz3 rfl) ?_
            refine E1 hs18 (wanted_yesB rfl rfl rfl h36) rfl (y_load 0 rfl Tryz.underlying3 rfl rfl rfl rfl) ?_
            refine E0 (wanted_yesB rfl rfl rfl h36) rfl (y_gt rfl rfl rfl) ?_
            refine E0 (wanted_none rfl) rfl (y_pickF rfl rfl h36 rfl) ?_
            refine E0 (wanted_none rfl) rfl (y_move (v := Value.bool _) rfl rfl) ?_
            refine Esp (t := 48) rfl (fun h37 => ?_) (fun h37 => ?_)
            · have h37' := h37
              first | replace h37' := of_decide_eq_true h37' | replace h37' := bnT' h37' | skip
              refine Eno (wanted_noB rfl rfl rfl h37 (by decide)) rfl ?_
              refine Eno (wanted_noB rfl rfl rfl h37 (by decide)) rfl ?_
              refine E1no hs18 (wanted_noB rfl rfl rfl h37 (by decide)) rfl ?_
              refine E1no hs18 (wanted_noB rfl rfl rfl h37 (by decide)) rfl ?_
              refine Eno (wanted_noB rfl rfl rfl h37 (by decide)) rfl ?_
              refine E3no (wanted_noB rfl rfl rfl h37 (by decide)) rfl ?_
              refine Eno (wanted_noB rfl rfl rfl h37 (by decide)) rfl ?_
              refine E0 (wanted_none rfl) rfl (y_pickT rfl rfl h37 rfl) ?_
              refine Enil ?_
              refine W_condT rfl rfl ?_
              refine W_seq ?_
              refine W_region ?_
              refine L0 (wanted_none rfl) rfl (y_assign (v := Value.bool _) rfl rfl) ?_
              refine Lnil ?_
              refine W_ret ?_
              refine fin1 (fn := Tryz.f8) rfl rfl ?_
              first
              | exact ⟨⟨true, rfl, iff_of_true rfl (hR.all (by omega))⟩, hs18.drops (fun x hx => .inl (fr1 hbb3 x hx))⟩
              | exact ⟨⟨false, rfl, iff_of_false (by decide) (fun hRR => by have h7 := hRR.few; omega)⟩, hs18⟩
              | exact ⟨⟨false, rfl, iff_of_false (by decide) (fun hRR => by
                  have hN := hRR.nextOf (i := i) (by omega)
                  have g1 := hN.name; have g2 := hN.rise; have g3 := hN.size; have g4 := hN.need; have g5 := hN.range; have g6 := hN.once
                  rw [← hf] at g1 g2 g3 g4 g5 g6
                  first | omega | exact absurd (hbn.2 g1) (by simpa using ‹(!bn) = true›) | exact absurd (g2 (by omega)) (by simpa using ‹(!Op.bytesLess (l.getD (i - 1) default).nm f.nm) = true›) | (have g8 := g5 (f.cs.getD k 0) (getD_mem (by omega)); omega) | exact absurd ‹_ ∈ _› (cell_at (by omega) g6))⟩, hs18.drops (fun x hx => .inl (fr2 hbb9 hbb3 x hx))⟩
            · have h37' := h37
              first | replace h37' := of_decide_eq_false h37' | replace h37' := bnF' h37' | skip
              refine E0 (wanted_yesB rfl rfl rfl h37) rfl (y_fieldAddr rfl Tryz.underlying44 rfl sz35 rfl) ?_
              refine E0 (wanted_yesB rfl rfl rfl h37) rfl (y_fieldAddr rfl Tryz.underlying44 rfl sz3 rfl) ?_
              refine E1 hs18 (wanted_yesB rfl rfl rfl h37) rfl ((y_load 0 rfl Tryz.underlying35 rfl rfl rfl (v := vi) rfl)) ?_
              refine E1 hs18 (wanted_yesB rfl rfl rfl h37) rfl (y_load 0 rfl Tryz.underlying3 rfl rfl rfl rfl) ?_
              refine E0 (wanted_yesB rfl rfl rfl h37) rfl (y_slenSl rfl Tryz.underlying35 rfl hKe) ?_
              refine E3 (wanted_yesB rfl rfl rfl h37) (c_call rfl rfl rfl Tryz.func12 (by kernel_rfl) rfl (need_any f.sz (by omega) (by omega) w16) rfl ?_)
              rintro _ w38 ⟨rfl, hc39⟩
              have hs40 := hs18.call0 hc39
              refine ⟨fun _ => hs40, ?_⟩
              refine E0 (wanted_yesB rfl rfl rfl h37) rfl (y_ne rfl rfl rfl) ?_
              refine E0 (wanted_none rfl) rfl (y_pickF rfl rfl h37 rfl) ?_
              refine Enil ?_
              refine Wsp (t := 56) rfl (fun h41 => ?_) (fun h41 => ?_)
              · have h41' := h41
                first | replace h41' := of_decide_eq_true h41' | replace h41' := bnT' h41' | skip
                refine W_condT rfl h41 ?_
                refine W_seq ?_
                refine W_region ?_
                refine L0 (wanted_none rfl) rfl (y_assign (v := Value.bool _) rfl rfl) ?_
                refine Lnil ?_
                refine W_ret ?_
                refine fin1 (fn := Tryz.f8) rfl rfl ?_
                first
                | exact ⟨⟨true, rfl, iff_of_true rfl (hR.all (by omega))⟩, hs40.drops (fun x hx => .inl (fr1 hbb3 x hx))⟩
                | exact ⟨⟨false, rfl, iff_of_false (by decide) (fun hRR => by have h7 := hRR.few; omega)⟩, hs40⟩
                | exact ⟨⟨false, rfl, iff_of_false (by decide) (fun hRR => by
                    have hN := hRR.nextOf (i := i) (by omega)
                    have g1 := hN.name; have g2 := hN.rise; have g3 := hN.size; have g4 := hN.need; have g5 := hN.range; have g6 := hN.once
                    rw [← hf] at g1 g2 g3 g4 g5 g6
                    first | omega | exact absurd (hbn.2 g1) (by simpa using ‹(!bn) = true›) | exact absurd (g2 (by omega)) (by simpa using ‹(!Op.bytesLess (l.getD (i - 1) default).nm f.nm) = true›) | (have g8 := g5 (f.cs.getD k 0) (getD_mem (by omega)); omega) | exact absurd ‹_ ∈ _› (cell_at (by omega) g6))⟩, hs40.drops (fun x hx => .inl (fr2 hbb9 hbb3 x hx))⟩
              · have h41' := h41
                first | replace h41' := of_decide_eq_false h41' | replace h41' := bnF' h41' | skip
                refine W_condF rfl h41 ?_
                refine W_skip ?_
                refine W_seq ?_
                have hnl : f.cs.length ≤ 25 := by
                  have h9 : (f.cs.length : Int) = needI f.sz := by omega
                  rw [needI] at h9; omega
                refine W_region ?_
                refine L0 (wanted_none rfl) rfl (y_fieldAddr rfl Tryz.underlying44 rfl sz35 rfl) ?_
                refine L1 (wanted_none rfl) rfl hs40 ((y_load 0 rfl Tryz.underlying35 rfl rfl rfl (v := vi) rfl)) ?_
                refine L0 (wanted_none rfl) rfl (y_slenSl rfl Tryz.underlying35 rfl hKe) ?_
                refine L0 (wanted_none rfl) rfl (y_move (v := Value.int _ _) rfl rfl) ?_
                refine Lnil ?_
                refine W_block ?_
                refine W_loop (G := Nat × Array MapEntry × Nat) (fun g aL wl => ∃ e, aL = A 79 ((60, iv g.1) :: (59, iv f.cs.length) :: (58, vi) :: (14, iv i) :: (13, iv l.length) :: (12, v0) :: (0, v0) :: (3, .map (some b3)) :: e) ∧ g.1 ≤ f.cs.length ∧ (∀ x ∈ f.cs.take g.1, 3 ≤ x ∧ x < 24) ∧ (allCells (l.take i) ++ f.cs.take g.1).Nodup ∧ SeenE g.2.1 (allCells (l.take i) ++ f.cs.take g.1) ∧ St w [(b9, .cells ⟨flCells f vi⟩ 44 (0, 0)), (b3, .map g.2.1 g.2.2)] wl) (fun g => f.cs.length - g.1) ((0, es, c)) ?_ ?_
                · exact ⟨_, A_pins _ _ [60, 59, 58, 14, 13, 12, 0, 3], Nat.zero_le _, (by simp), (by simpa using hR.once), (by simpa using hS), hs40⟩
                rintro g _ w42 ⟨ehs43, rfl, hk, hrg, hnd, hS2, hs43⟩
                obtain ⟨k, es2, c2⟩ := g
                dsimp only at *
                refine W_seq ?_
                refine W_region ?_
                refine L0 (wanted_none rfl) rfl (y_lt rfl rfl rfl) ?_
                refine Lnil ?_
                refine W_seq ?_
                refine Wsp (t := 61) rfl (fun h44 => ?_) (fun h44 => ?_)
                · have h44' := h44
                  first | replace h44' := of_decide_eq_true h44' | replace h44' := bnT' h44' | skip
                  refine W_condT rfl h44 ?_
                  refine W_skip ?_
                  refine W_seq ?_
                  refine W_block ?_
                  refine W_seq ?_
                  refine W_region ?_
                  refine L0 (wanted_none rfl) rfl (y_indexSlAt rfl Tryz.underlying35 sz3 rfl rfl hKe (by omega) (by omega)) ?_
                  refine L1 (wanted_none rfl) rfl hs43 (y_loadSl k rfl Tryz.underlying3 rfl rfl hKe (by omega) (by omega) (fun x hx => (by obtain ⟨y, hy, rfl⟩ := List.mem_map.1 hx; exact fr2 hbb9 hbb3 y hy))) ?_
                  refine L0 (wanted_none rfl) rfl (y_assign (v := Value.int _ _) rfl rfl) ?_
                  refine Lnil ?_
                  refine W_seq ?_
                  refine W_seq ?_
                  refine W_region ?_
                  refine L0 (wanted_none rfl) rfl (y_move (v := Value.int _ _) rfl rfl) ?_
                  refine L0 (wanted_none rfl) rfl (y_lt rfl rfl rfl) ?_
                  refine L0 (wanted_none rfl) rfl (y_move (v := Value.bool _) rfl rfl) ?_
                  refine Lsp (t := 66) rfl (fun h45 => ?_) (fun h45 => ?_)
                  · have h45' := h45
                    first | replace h45' := of_decide_eq_true h45' | replace h45' := bnT' h45' | skip
                    refine Lno (wanted_noB rfl rfl rfl h45 (by decide)) rfl ?_
                    refine Lno (wanted_noB rfl rfl rfl h45 (by decide)) rfl ?_
                    refine L0 (wanted_none rfl) rfl (y_pickT rfl rfl h45 rfl) ?_
                    refine L0 (wanted_none rfl) rfl (y_move (v := Value.bool _) rfl rfl) ?_
                    refine Lno (wanted_noB rfl rfl rfl rfl (by decide)) rfl ?_
                    refine Lno (wanted_noB rfl rfl rfl rfl (by decide)) rfl ?_
                    refine Lno (wanted_noB rfl rfl rfl rfl (by decide)) rfl ?_
                    refine L0 (wanted_none rfl) rfl (y_pickT rfl rfl (rfl : true = true) rfl) ?_
                    refine Lnil ?_
                    refine W_condT rfl rfl ?_
                    refine W_seq ?_
                    refine W_region ?_
                    refine L0 (wanted_none rfl) rfl (y_assign (v := Value.bool _) rfl rfl) ?_
                    refine Lnil ?_
                    refine W_ret ?_
                    refine fin1 (fn := Tryz.f8) rfl rfl ?_
                    first
                    | exact ⟨⟨true, rfl, iff_of_true rfl (hR.all (by omega))⟩, hs43.drops (fun x hx => .inl (fr1 hbb3 x hx))⟩
                    | exact ⟨⟨false, rfl, iff_of_false (by decide) (fun hRR => by have h7 := hRR.few; omega)⟩, hs43⟩
                    | exact ⟨⟨false, rfl, iff_of_false (by decide) (fun hRR => by
                        have hN := hRR.nextOf (i := i) (by omega)
                        have g1 := hN.name; have g2 := hN.rise; have g3 := hN.size; have g4 := hN.need; have g5 := hN.range; have g6 := hN.once
                        rw [← hf] at g1 g2 g3 g4 g5 g6
                        first | omega | exact absurd (hbn.2 g1) (by simpa using ‹(!bn) = true›) | exact absurd (g2 (by omega)) (by simpa using ‹(!Op.bytesLess (l.getD (i - 1) default).nm f.nm) = true›) | (have g8 := g5 (f.cs.getD k 0) (getD_mem (by omega)); omega) | exact absurd ‹_ ∈ _› (cell_at (by omega) g6))⟩, hs43.drops (fun x hx => .inl (fr2 hbb9 hbb3 x hx))⟩
                  · have h45' := h45
                    first | replace h45' := of_decide_eq_false h45' | replace h45' := bnF' h45' | skip
                    refine L0 (wanted_yesB rfl rfl rfl h45) rfl (y_move (v := Value.int _ _) rfl rfl) ?_
                    refine L0 (wanted_yesB rfl rfl rfl h45) rfl (y_ge rfl rfl rfl) ?_
                    refine L0 (wanted_none rfl) rfl (y_pickF rfl rfl h45 rfl) ?_
                    refine L0 (wanted_none rfl) rfl (y_move (v := Value.bool _) rfl rfl) ?_
                    refine Lsp (t := 70) rfl (fun h46 => ?_) (fun h46 => ?_)
                    · have h46' := h46
                      first | replace h46' := of_decide_eq_true h46' | replace h46' := bnT' h46' | skip
                      refine Lno (wanted_noB rfl rfl rfl h46 (by decide)) rfl ?_
                      refine Lno (wanted_noB rfl rfl rfl h46 (by decide)) rfl ?_
                      refine Lno (wanted_noB rfl rfl rfl h46 (by decide)) rfl ?_
                      refine L0 (wanted_none rfl) rfl (y_pickT rfl rfl h46 rfl) ?_
                      refine Lnil ?_
                      refine W_condT rfl rfl ?_
                      refine W_seq ?_
                      refine W_region ?_
                      refine L0 (wanted_none rfl) rfl (y_assign (v := Value.bool _) rfl rfl) ?_
                      refine Lnil ?_
                      refine W_ret ?_
                      refine fin1 (fn := Tryz.f8) rfl rfl ?_
                      first
                      | exact ⟨⟨true, rfl, iff_of_true rfl (hR.all (by omega))⟩, hs43.drops (fun x hx => .inl (fr1 hbb3 x hx))⟩
                      | exact ⟨⟨false, rfl, iff_of_false (by decide) (fun hRR => by have h7 := hRR.few; omega)⟩, hs43⟩
                      | exact ⟨⟨false, rfl, iff_of_false (by decide) (fun hRR => by
                          have hN := hRR.nextOf (i := i) (by omega)
                          have g1 := hN.name; have g2 := hN.rise; have g3 := hN.size; have g4 := hN.need; have g5 := hN.range; have g6 := hN.once
                          rw [← hf] at g1 g2 g3 g4 g5 g6
                          first | omega | exact absurd (hbn.2 g1) (by simpa using ‹(!bn) = true›) | exact absurd (g2 (by omega)) (by simpa using ‹(!Op.bytesLess (l.getD (i - 1) default).nm f.nm) = true›) | (have g8 := g5 (f.cs.getD k 0) (getD_mem (by omega)); omega) | exact absurd ‹_ ∈ _› (cell_at (by omega) g6))⟩, hs43.drops (fun x hx => .inl (fr2 hbb9 hbb3 x hx))⟩
                    · have h46' := h46
                      first | replace h46' := of_decide_eq_false h46' | replace h46' := bnF' h46' | skip
                      refine L0 (wanted_yesB rfl rfl rfl h46) rfl (y_move (v := Value.map _) rfl rfl) ?_
                      refine L0 (wanted_yesB rfl rfl rfl h46) rfl (y_move (v := Value.int _ _) rfl rfl) ?_
                      refine L1 (wanted_yesB rfl rfl rfl h46) rfl hs43 (y_lookupP (i := 1) (r := .bool (decide (f.cs.getD k 0 ∈ allCells (l.take i) ++ f.cs.take k))) rfl Tryz.underlying50 Tryz.underlying3 zr4 rfl rfl rfl (seen_find hS2 _)) ?_
                      refine L0 (wanted_none rfl) rfl (y_pickF rfl rfl h46 rfl) ?_
                      refine Lnil ?_
                      refine Wsp (t := 74) rfl (fun h47 => ?_) (fun h47 => ?_)
                      · have h47' := h47
                        first | replace h47' := of_decide_eq_true h47' | replace h47' := bnT' h47' | skip
                        refine W_condT rfl h47 ?_
                        refine W_seq ?_
                        refine W_region ?_
                        refine L0 (wanted_none rfl) rfl (y_assign (v := Value.bool _) rfl rfl) ?_
                        refine Lnil ?_
                        refine W_ret ?_
                        refine fin1 (fn := Tryz.f8) rfl rfl ?_
                        first
                        | exact ⟨⟨true, rfl, iff_of_true rfl (hR.all (by omega))⟩, hs43.drops (fun x hx => .inl (fr1 hbb3 x hx))⟩
                        | exact ⟨⟨false, rfl, iff_of_false (by decide) (fun hRR => by have h7 := hRR.few; omega)⟩, hs43⟩
                        | exact ⟨⟨false, rfl, iff_of_false (by decide) (fun hRR => by
                            have hN := hRR.nextOf (i := i) (by omega)
                            have g1 := hN.name; have g2 := hN.rise; have g3 := hN.size; have g4 := hN.need; have g5 := hN.range; have g6 := hN.once
                            rw [← hf] at g1 g2 g3 g4 g5 g6
                            first | omega | exact absurd (hbn.2 g1) (by simpa using ‹(!bn) = true›) | exact absurd (g2 (by omega)) (by simpa using ‹(!Op.bytesLess (l.getD (i - 1) default).nm f.nm) = true›) | (have g8 := g5 (f.cs.getD k 0) (getD_mem (by omega)); omega) | exact absurd ‹_ ∈ _› (cell_at (by omega) g6))⟩, hs43.drops (fun x hx => .inl (fr2 hbb9 hbb3 x hx))⟩
                      · have h47' := h47
                        first | replace h47' := of_decide_eq_false h47' | replace h47' := bnF' h47' | skip
                        refine W_condF rfl h47 ?_
                        refine W_skip ?_
                        refine W_region ?_
                        refine L0 (wanted_none rfl) rfl (y_move (v := Value.map _) rfl rfl) ?_
                        refine L0 (wanted_none rfl) rfl (y_move (v := Value.int _ _) rfl rfl) ?_
                        refine Lc (wanted_none rfl) (c_mapUpdate (i := 1) (v := .bool true) hs43 rfl rfl rfl rfl rfl Tryz.underlying50 Tryz.underlying3 rfl (hS2.no _ (by assumption)) (fun w48 hs49 => ?_))
                        refine Lnil ?_
                        refine W_region ?_
                        refine L0 (wanted_none rfl) rfl (y_add64 rfl rfl rfl (by omega)) ?_
                        refine L0 (wanted_none rfl) rfl (y_move (v := Value.int _ _) rfl rfl) ?_
                        refine Lnil ?_
                        exact ⟨(k + 1, _, _), by first | omega | (dsimp only; done) | (dsimp only; omega), _, A_c (iv_eq (by first | omega | (dsimp only; done) | (dsimp only; omega))) (A_c rfl (A_c rfl (A_c rfl (A_c rfl (A_c rfl (A_c rfl (A_c rfl (rfl)))))))), by omega, (by rw [take_snoc (by omega)]; intro x hx; rcases List.mem_append.1 hx with h7 | h7; exact hrg x h7; rw [List.mem_singleton] at h7; subst h7; omega), (by rw [take_snoc (by omega), ← List.append_assoc]; exact nodup_snoc hnd (by assumption)), (by rw [take_snoc (by omega), ← List.append_assoc]; exact hS2.push (by assumption) _), hs49⟩
                · have h44' := h44
                  first | replace h44' := of_decide_eq_false h44' | replace h44' := bnF' h44' | skip
                  refine W_condF rfl h44 ?_
                  refine W_exit ?_
                  refine W_region ?_
                  refine L0 (wanted_none rfl) rfl (y_add64 rfl rfl rfl (by omega)) ?_
                  refine L0 (wanted_none rfl) rfl (y_move (v := Value.int _ _) rfl rfl) ?_
                  refine Lnil ?_
                  have ek : f.cs.take k = f.cs := List.take_of_length_le (by omega)
                  rw [ek] at hrg hnd hS2
                  have hbt : bn = true := by simpa using ‹(!bn) = false›
                  have hNx : Next l i := ⟨hf ▸ hbn.1 hbt, fun h0 => by first | (exfalso; omega) | (rw [← hf]; simpa using ‹(!Op.bytesLess (l.getD (i - 1) default).nm f.nm) = false›), by rw [← hf]; omega, by rw [← hf]; omega, by rw [← hf]; exact hrg, by rw [← hf]; exact hnd⟩
                  have hR2 := hR.more (by omega) (by omega) hNx
                  exact ⟨(i + 1, es2, c2), by first | omega | (dsimp only; done) | (dsimp only; omega), _, A_c (iv_eq (by first | omega | (dsimp only; done) | (dsimp only; omega))) (A_c rfl (A_c rfl (A_c rfl (A_c rfl (rfl))))), by omega, hR2, (by rw [allCells_take (by omega), ← hf]; exact hS2), hs43.drop (.inl hbb9)⟩
    · have h8' := h8
      first | replace h8' := of_decide_eq_false h8' | replace h8' := bnF' h8' | skip
      refine W_condF rfl h8 ?_
      refine W_exit ?_
      refine W_seq ?_
      refine W_region ?_
      refine L0 (wanted_none rfl) rfl (y_assign (v := Value.bool _) rfl rfl) ?_
      refine Lnil ?_
      refine W_ret ?_
      refine fin1 (fn := Tryz.f8) rfl rfl ?_
      first
      | exact ⟨⟨true, rfl, iff_of_true rfl (hR.all (by omega))⟩, hs7.drops (fun x hx => .inl (fr1 hbb3 x hx))⟩
      | exact ⟨⟨false, rfl, iff_of_false (by decide) (fun hRR => by have h7 := hRR.few; omega)⟩, hs7⟩
      | exact ⟨⟨false, rfl, iff_of_false (by decide) (fun hRR => by
          have hN := hRR.nextOf (i := i) (by omega)
          have g1 := hN.name; have g2 := hN.rise; have g3 := hN.size; have g4 := hN.need; have g5 := hN.range; have g6 := hN.once
          rw [← hf] at g1 g2 g3 g4 g5 g6
          first | omega | exact absurd (hbn.2 g1) (by simpa using ‹(!bn) = true›) | exact absurd (g2 (by omega)) (by simpa using ‹(!Op.bytesLess (l.getD (i - 1) default).nm f.nm) = true›) | (have g8 := g5 (f.cs.getD k 0) (getD_mem (by omega)); omega) | exact absurd ‹_ ∈ _› (cell_at (by omega) g6))⟩, hs7.drops (fun x hx => .inl (fr2 hbNOBLOCK hbb3 x hx))⟩
end Go.Proofs.YtkolfgmpmnelmabGreatDoor.Ent

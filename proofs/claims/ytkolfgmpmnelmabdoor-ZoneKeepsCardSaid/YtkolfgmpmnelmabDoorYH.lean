/-
  Walks: the reference's device: Lay, Image, NewDevice.
-/
import Derived.Test.YtkolfgmpmnelmabDoorYG
namespace Go.Proofs.YtkolfgmpmnelmabDoor
open Go Vx Go.Proofs
set_option linter.unusedVariables false
set_option maxRecDepth 4000
set_option maxHeartbeats 1000000

theorem lyS2 (zi : Nat → List (List UInt8)) (sure : Nat → Nat) (i : Nat) : updF (sureF (lyZ zi) sure i) i (min (zi i).length 16) = sureF (lyZ zi) sure (i + 1) := by
  rw [← sureF_succ, lyZ_len]; congr 1; omega
theorem fill_take2 {l : List (List UInt8)} {j : Nat} (h : j < l.length) : ((l.take (j + 1)).map fun s => fillN s 128) = ((l.take j).map fun s => fillN s 128) ++ [fillN (l.getD j []) 128] := by
  have := fill_take (m := l.length) h (Nat.le_refl _)
  rwa [List.take_length] at this
theorem ic_s (vs : Nat → Value) (slot : Nat → List UInt8) {i : Int} (h0 : 0 ≤ i) (h1 : i < 2) : (⟨icells vs slot⟩ : Array Value)[0 + 8 + i.toNat * 1]? = some (str (slot i.toNat)) := by
  have h : i = 0 ∨ i = 1 := by omega
  rcases h with rfl | rfl <;> rfl
section
variable {W0 : World} {K : Blocks} {b : Nat} {D : Dv} {w : World} {vz : Nat → Value} {vA vW : Value} {wA wW rows : Blocks} {k : Nat}
theorem rlay_in {R : Blocks} (h : St W0 (K ++ ((b, .cells ⟨rcells vz D.sure D.slot vA vW D.fuse⟩ 135 (0, 0)) :: R)) w) (hnb : W0.heap.size ≤ b) (hnR : ∀ x ∈ R, W0.heap.size ≤ x.1)
    (vs : Nat → Value) (zi : Nat → List (List UInt8)) (si : Nat → List UInt8) (hin : ∀ j, j < 8 → ∀ w' L', St W0 (K ++ L') w' → (∀ x ∈ L', W0.heap.size ≤ x.1) → SlW w' (vs j) (zi j)) (hzl : ∀ j, j < 8 → (zi j).length ≤ 1000 ∧ ∀ k, ((zi j).getD k []).length ≤ 100000) (hsl : ∀ j, (si j).length ≤ 100000) :
    C Tryd.prog 45 ⟨[pv b 0, .agg ⟨icells vs si⟩]⟩ w fun v w' => ∃ vz' rows', v = .tuple #[] ∧ RSt W0 K b (layD D zi si) w' vz' (.slice none 0 0) (.slice none 0 0) [] [] rows' := by
  refine C_enter (n := 77) Tryd.func45 rfl rfl rfl (fun w1 hs1 => ?_)
  have hs0 := (h.call0 hs1).perm List.perm_middle
  refine W_seq ?_
  refine W_region ?_
  refine Lc (wanted_none rfl) (c_box hs0 rfl rfl rfl (fun b2 w3 hbb2 hs4 => ?_))
  have hs4 := hs4.perm (List.Perm.swap _ _ _)
  refine Lnil ?_
  refine W_seq ?_
  refine W_region ?_
  refine L0 (wanted_none rfl) rfl (y_move (v := Value.pointer _) rfl rfl) ?_
  refine L0 (wanted_none rfl) rfl (y_move (v := Value.pointer _) rfl rfl) ?_
  refine L0 (wanted_none rfl) rfl (y_nilCheck rfl rfl) ?_
  refine L0 (wanted_none rfl) rfl (y_fieldAddr rfl Tryd.underlying135 rfl sz23 rfl) ?_
  refine Lc (wanted_none rfl) (c_store (i := 0) (v := .slice none 0 0) hs4 rfl rfl rfl rfl sz23 rfl rfl (by (show 18 < 21; omega)) (Fz.zero _) (fun w5 hs6 => ?_))
  have hs6 := hs6.at0 (c' := ⟨rcells vz D.sure D.slot (.slice none 0 0) vW D.fuse⟩) rfl
  refine L0 (wanted_none rfl) rfl (y_nilCheck rfl rfl) ?_
  refine L0 (wanted_none rfl) rfl (y_fieldAddr rfl Tryd.underlying135 rfl sz22 rfl) ?_
  refine Lc (wanted_none rfl) (c_store (i := 0) (v := .slice none 0 0) hs6 rfl rfl rfl rfl sz22 rfl rfl (by (show 19 < 21; omega)) (Fz.zero _) (fun w7 hs8 => ?_))
  have hs8 := hs8.at0 (c' := ⟨rcells vz D.sure D.slot (.slice none 0 0) (.slice none 0 0) D.fuse⟩) rfl
  refine Lnil ?_
  refine W_seq ?_
  refine W_seq ?_
  refine W_region ?_
  refine L0 (wanted_none rfl) rfl (y_move (v := Value.int _ _) rfl rfl) ?_
  refine Lnil ?_
  refine W_block ?_
  refine W_loop (G := Nat × (Nat → Value) × Blocks) (fun g aL wl => ∃ e, aL = A 77 ((14, iv g.1) :: (0, pv b 0) :: (3, pv b2 0) :: e) ∧ g.1 ≤ 8 ∧ (∀ j, j < g.1 → RowIn g.2.2 (g.2.1 j) (lyZ zi j)) ∧ (∀ x ∈ g.2.2, W0.heap.size ≤ x.1) ∧ St W0 ((b, .cells ⟨rcells g.2.1 (sureF (lyZ zi) D.sure g.1) D.slot (.slice none 0 0) (.slice none 0 0) D.fuse⟩ 135 (0, 0)) :: (b2, .cells ⟨icells vs si⟩ 59 (0, 0)) :: (g.2.2 ++ (K ++ R))) wl) (fun g => 8 - g.1) ((0, vz, [])) ?_ ?_
  · exact ⟨_, A_pins _ _ [14, 0, 3], Nat.zero_le _, (fun j hj => absurd hj (Nat.not_lt_zero _)), (fun x hx => by cases hx), by (dsimp only); rw [sureF_zero]; exact hs8⟩
  rintro g _ w9 ⟨ehs10, rfl, hi, hR, hI, hs10⟩
  obtain ⟨i, vz2, rowsN⟩ := g
  dsimp only at *
  refine W_seq ?_
  refine W_region ?_
  refine L0 (wanted_none rfl) rfl (y_lt rfl rfl rfl) ?_
  refine Lnil ?_
  refine W_seq ?_
  refine Wsp (t := 15) rfl (fun h11 => ?_) (fun h11 => ?_)
  · have h11' := h11
    first | replace h11' := of_decide_eq_true h11' | replace h11' := bnT' h11' | skip
    refine W_condT rfl h11 ?_
    refine W_skip ?_
    refine W_seq ?_
    refine W_block ?_
    refine W_seq ?_
    obtain ⟨a, cap, hv, hle, ha⟩ := (hin i (by omega) _ _ h (freshL hnb hnR)).2
    have hRi := hin i (by omega)
    rw [hv] at hRi
    have hz := hzl i (by omega)
    have hRm := fun w2 L2 h2 hf2 => (hRi w2 L2 h2 hf2).1
    refine W_region ?_
    refine L0 (wanted_none rfl) rfl (y_move (v := Value.int _ _) rfl rfl) ?_
    refine L0 (wanted_none rfl) rfl (y_assign (v := Value.int _ _) rfl rfl) ?_
    refine Lnil ?_
    refine W_seq ?_
    refine W_region ?_
    refine L0 (wanted_none rfl) rfl (y_move (v := Value.pointer _) rfl rfl) ?_
    refine L0 (wanted_none rfl) rfl (y_move (v := Value.int _ _) rfl rfl) ?_
    refine L0 (wanted_none rfl) rfl (y_nilCheck rfl rfl) ?_
    refine L0 (wanted_none rfl) rfl (y_fieldAddr rfl Tryd.underlying135 rfl sz29 rfl) ?_
    refine L0 (wanted_none rfl) rfl (y_indexArr rfl Tryd.underlying29 sz22 rfl rfl (by omega) (by omega)) ?_
    refine Lc (wanted_none rfl) (c_store (i := 0) (v := .slice none 0 0) hs10 rfl rfl rfl rfl sz22 rfl rfl (by (show 0 + 0 + (i : Int).toNat * 1 < 21; omega)) (Fz.zero _) (fun w12 hs13 => ?_))
    have hs13 := hs13.at0 (rc_setz _ _ _ _ _ _ (by omega) (by omega) _)
    refine Lnil ?_
    refine W_seq ?_
    refine W_seq ?_
    refine W_region ?_
    refine L0 (wanted_none rfl) rfl (y_move (v := Value.int _ _) rfl rfl) ?_
    refine L0 (wanted_none rfl) rfl (y_fieldAddr rfl Tryd.underlying59 rfl sz29 rfl) ?_
    refine L0 (wanted_none rfl) rfl (y_indexArr rfl Tryd.underlying29 sz22 rfl rfl (by omega) (by omega)) ?_
    refine L1 (wanted_none rfl) rfl hs13 (y_load 1 rfl Tryd.underlying22 rfl rfl rfl (ic_zv (by omega) (by omega) hv)) ?_
    refine L0 (wanted_none rfl) rfl (y_slen rfl Tryd.underlying22 rfl) ?_
    refine L0 (wanted_none rfl) rfl (y_move (v := Value.int _ _) rfl rfl) ?_
    refine Lnil ?_
    refine W_block ?_
    refine W_loop (G := Nat × Value × Blocks) (fun gg aL wl => ∃ e, aL = A 77 ((27, iv gg.1) :: (26, iv (zi i).length) :: (25, .slice a (zi i).length cap) :: (4, iv i) :: (14, iv i) :: (0, pv b 0) :: (3, pv b2 0) :: e) ∧ gg.1 ≤ (zi i).length ∧ Row W0.heap.size 9 1 gg.2.1 (min gg.1 16) ((((zi i).take (min gg.1 16)).map fun s => fillN s 128).map str) gg.2.2 ∧ St W0 ((b, .cells ⟨rcells (updF vz2 i gg.2.1) (sureF (lyZ zi) D.sure i) D.slot (.slice none 0 0) (.slice none 0 0) D.fuse⟩ 135 (0, 0)) :: (b2, .cells ⟨icells vs si⟩ 59 (0, 0)) :: (gg.2.2 ++ (rowsN ++ (K ++ R)))) wl) (fun g => (zi i).length - g.1) ((0, .slice none 0 0, [])) ?_ ?_
    · exact ⟨_, A_pins _ _ [27, 26, 25, 4, 14, 0, 3], Nat.zero_le _, Row.nil _ _ _, hs13⟩
    rintro gg _ w14 ⟨ehs15, rfl, hj, hrow, hs15⟩
    obtain ⟨j, vv, ent⟩ := gg
    dsimp only at *
    refine W_seq ?_
    refine W_region ?_
    refine L0 (wanted_none rfl) rfl (y_lt rfl rfl rfl) ?_
    refine Lnil ?_
    refine W_seq ?_
    refine Wsp (t := 28) rfl (fun h16 => ?_) (fun h16 => ?_)
    · have h16' := h16
      first | replace h16' := of_decide_eq_true h16' | replace h16' := bnT' h16' | skip
      refine W_condT rfl h16 ?_
      refine W_skip ?_
      refine W_seq ?_
      refine W_block ?_
      refine W_seq ?_
      refine W_region ?_
      refine L0 (wanted_none rfl) rfl (y_move (v := Value.int _ _) rfl rfl) ?_
      refine L0 (wanted_none rfl) rfl (y_indexSlAt rfl Tryd.underlying22 sz9 rfl rfl (hRm w14 _ (hs15.re (L' := K ++ ((b, .cells ⟨rcells (updF vz2 i vv) (sureF (lyZ zi) D.sure i) D.slot (.slice none 0 0) (.slice none 0 0) D.fuse⟩ 135 (0, 0)) :: (b2, .cells ⟨icells vs si⟩ 59 (0, 0)) :: (ent ++ (rowsN ++ R)))) (fun a => by simp only [ct_append, ct_cons, ct_nil]; omega)) (freshL hnb (freshL hbb2 (freshA hrow.new (freshA hI hnR))))) (by omega) (by omega)) ?_
      refine L1 (wanted_none rfl) rfl hs15 ((y_loadAny j rfl Tryd.underlying9 rfl rfl (fun w2 h2 => hRm w2 _ (h2.re (L' := K ++ ((b, .cells ⟨rcells (updF vz2 i vv) (sureF (lyZ zi) D.sure i) D.slot (.slice none 0 0) (.slice none 0 0) D.fuse⟩ 135 (0, 0)) :: (b2, .cells ⟨icells vs si⟩ 59 (0, 0)) :: (ent ++ (rowsN ++ R)))) (fun a => by simp only [ct_append, ct_cons, ct_nil]; omega)) (freshL hnb (freshL hbb2 (freshA hrow.new (freshA hI hnR))))) rfl (by omega))) ?_
      refine L0 (wanted_none rfl) rfl (y_assign (v := Value.int _ _) rfl rfl) ?_
      refine L0 (wanted_none rfl) rfl (y_assign (v := Value.string ⟨⟨_⟩⟩) rfl rfl) ?_
      refine Lnil ?_
      refine W_seq ?_
      refine W_region ?_
      refine L0 (wanted_none rfl) rfl (y_move (v := Value.int _ _) rfl rfl) ?_
      refine L0 (wanted_none rfl) rfl (y_lt rfl rfl rfl) ?_
      refine Lnil ?_
      refine Wsp (t := 33) rfl (fun h17 => ?_) (fun h17 => ?_)
      · have h17' := h17
        first | replace h17' := of_decide_eq_true h17' | replace h17' := bnT' h17' | skip
        refine W_condT rfl h17 ?_
        refine W_drawSt [(0, 0), (0, 1), (0, 2), (0, 3), (0, 8), (0, 4), (0, 12), (0, 5), (0, 13), (0, 6), (1, 7), (3, 9), (3, 10), (2, 11), (0, 14), (2, 15)] hs15 mixed (by kernel_rfl) (fun w18 hs19 => ?_)
        refine E0 (wanted_none rfl) rfl (y_move (v := Value.pointer _) rfl rfl) ?_
        refine E0 (wanted_none rfl) rfl (y_move (v := Value.int _ _) rfl rfl) ?_
        refine E0 (wanted_none rfl) rfl (y_move (v := Value.pointer _) rfl rfl) ?_
        refine E0 (wanted_none rfl) rfl (y_move (v := Value.int _ _) rfl rfl) ?_
        refine E0 (wanted_none rfl) rfl (y_move (v := Value.string ⟨⟨_⟩⟩) rfl rfl) ?_
        refine E0 (wanted_none rfl) rfl (y_nilCheck rfl rfl) ?_
        refine E0 (wanted_none rfl) rfl (y_nilCheck rfl rfl) ?_
        refine E0 (wanted_none rfl) rfl (y_fieldAddr rfl Tryd.underlying135 rfl sz29 rfl) ?_
        refine E0 (wanted_none rfl) rfl (y_fieldAddr rfl Tryd.underlying135 rfl sz29 rfl) ?_
        refine E0 (wanted_none rfl) rfl (y_indexArr rfl Tryd.underlying29 sz22 rfl rfl (by omega) (by omega)) ?_
        refine E1 hs19 (wanted_none rfl) rfl (y_load 0 rfl Tryd.underlying22 rfl rfl rfl (rc_zv (by omega) (by omega) (updF_at _ _ _))) ?_
        refine E3 (wanted_none rfl) (c_call rfl rfl rfl Tryd.func86 (by kernel_rfl) rfl (ylong_any _ 128 (hz.2 j) (by decide) w18) rfl ?_)
        rintro _ w20 ⟨rfl, hc21⟩
        have hs22 := hs19.call0 hc21
        refine ⟨fun _ => hs22, ?_⟩
        refine E3 (wanted_none rfl) (c_bs1 (v0 := str _) hs22 rfl rfl Tryd.underlying22 sz9 zr9 rfl rfl  (fun b23 w24 hbb23 hs25 => ?_))
        refine ⟨fun _ => hs25.drop (.inl hbb23), ?_⟩
        refine E2 (wanted_none rfl) (c_appendG (L0 := (b23, .cells ⟨[str (fillN ((zi i).getD j []) 128)]⟩ 9 (0, 0)) :: (b, .cells ⟨rcells (updF vz2 i vv) (sureF (lyZ zi) D.sure i) D.slot (.slice none 0 0) (.slice none 0 0) D.fuse⟩ 135 (0, 0)) :: (b2, .cells ⟨icells vs si⟩ 59 (0, 0)) :: (rowsN ++ (K ++ R))) (ent := ent) hs25 (perm_ct (fun a => by simp only [ct_append, ct_cons, ct_nil]; omega)) rfl rfl Tryd.underlying22 sz9 zr9 by9 rfl rfl hrow (Nat.le_refl _) (fun x hx => .inl (hrow.new x hx)) rfl (Src.ofBlock (kk := 1) (hs25.get 0 rfl) rfl) (by simp [Value.oneCell']) (by omega) (by omega) (fun vN entN w26 hrow' hn28 hs27 => ?_))
        have hrow := hrow'
        have hnew_hrow := hn28
        have hN1 := hrow.one
        have hs27 := (hs27.re (L' := (b23, .cells ⟨[str (fillN ((zi i).getD j []) 128)]⟩ 9 (0, 0)) :: (b, .cells ⟨rcells (updF vz2 i vv) (sureF (lyZ zi) D.sure i) D.slot (.slice none 0 0) (.slice none 0 0) D.fuse⟩ 135 (0, 0)) :: (b2, .cells ⟨icells vs si⟩ 59 (0, 0)) :: (entN ++ (rowsN ++ (K ++ R)))) (fun a => by simp only [ct_append, ct_cons, ct_nil]; omega)).drop (.inl hbb23)
        refine E0 (wanted_none rfl) rfl (y_indexArr rfl Tryd.underlying29 sz22 rfl rfl (by omega) (by omega)) ?_
        refine E2 (wanted_none rfl) (c_store (i := 0) (v := vN) hs27 rfl rfl rfl rfl sz22 hN1 rfl (by (show 0 + 0 + (i : Int).toNat * 1 < 21; omega)) (Fz.zero _) (fun w29 hs30 => ?_))
        have hs30 := (hs30.at0 (rc_setz _ _ _ _ _ _ (by omega) (by omega) _)).at0 (congrArg (fun f => (⟨rcells f (sureF (lyZ zi) D.sure i) D.slot (.slice none 0 0) (.slice none 0 0) D.fuse⟩ : Array Value)) (updF_updF vz2 i vv vN))
        refine Enil ?_
        refine W_region ?_
        refine L0 (wanted_none rfl) rfl (y_add64 rfl rfl rfl (by omega)) ?_
        refine L0 (wanted_none rfl) rfl (y_move (v := Value.int _ _) rfl rfl) ?_
        refine Lnil ?_
        exact ⟨(j + 1, vN, entN), by first | omega | (dsimp only; done) | (dsimp only; omega), _, A_c (iv_eq (by first | omega | (dsimp only; done) | (dsimp only; omega))) (A_c rfl (A_c rfl (A_c rfl (A_c rfl (A_c rfl (A_c rfl (rfl))))))), by first | omega | (dsimp only; done) | (dsimp only; omega), by (dsimp only); rw [show min (j + 1) 16 = j + 1 by omega, fill_take2 (by omega), List.map_append]; rw [show min j 16 = j by omega] at hrow; exact hrow, hs30⟩
      · have h17' := h17
        first | replace h17' := of_decide_eq_false h17' | replace h17' := bnF' h17' | skip
        refine W_condF rfl h17 ?_
        refine W_skip ?_
        refine W_region ?_
        refine L0 (wanted_none rfl) rfl (y_add64 rfl rfl rfl (by omega)) ?_
        refine L0 (wanted_none rfl) rfl (y_move (v := Value.int _ _) rfl rfl) ?_
        refine Lnil ?_
        exact ⟨(j + 1, vv, ent), by first | omega | (dsimp only; done) | (dsimp only; omega), _, A_c (iv_eq (by first | omega | (dsimp only; done) | (dsimp only; omega))) (A_c rfl (A_c rfl (A_c rfl (A_c rfl (A_c rfl (A_c rfl (rfl))))))), by first | omega | (dsimp only; done) | (dsimp only; omega), by (dsimp only); rw [show min (j + 1) 16 = min j 16 by omega]; exact hrow, hs15⟩
    · have h16' := h16
      first | replace h16' := of_decide_eq_false h16' | replace h16' := bnF' h16' | skip
      refine W_condF rfl h16 ?_
      refine W_exit ?_
      obtain rfl : j = (zi i).length := by omega
      refine W_drawSt [(0, 0), (0, 1), (0, 2), (0, 3), (0, 4), (0, 9), (0, 5), (0, 10), (0, 6), (1, 7), (0, 8), (0, 11), (2, 12)] hs15 mixed (by kernel_rfl) (fun w31 hs32 => ?_)
      refine E0 (wanted_none rfl) rfl (y_move (v := Value.pointer _) rfl rfl) ?_
      refine E0 (wanted_none rfl) rfl (y_move (v := Value.int _ _) rfl rfl) ?_
      refine E0 (wanted_none rfl) rfl (y_move (v := Value.pointer _) rfl rfl) ?_
      refine E0 (wanted_none rfl) rfl (y_move (v := Value.int _ _) rfl rfl) ?_
      refine E0 (wanted_none rfl) rfl (y_nilCheck rfl rfl) ?_
      refine E0 (wanted_none rfl) rfl (y_nilCheck rfl rfl) ?_
      refine E0 (wanted_none rfl) rfl (y_fieldAddr rfl Tryd.underlying135 rfl sz29 rfl) ?_
      refine E0 (wanted_none rfl) rfl (y_fieldAddr rfl Tryd.underlying135 rfl sz101 rfl) ?_
      refine E0 (wanted_none rfl) rfl (y_indexArr rfl Tryd.underlying29 sz22 rfl rfl (by omega) (by omega)) ?_
      refine E1 hs32 (wanted_none rfl) rfl (y_load 0 rfl Tryd.underlying22 rfl rfl rfl (rc_zv (by omega) (by omega) (updF_at _ _ _))) ?_
      refine E0 (wanted_none rfl) rfl (y_slenRow rfl Tryd.underlying22 rfl hrow) ?_
      refine E0 (wanted_none rfl) rfl (y_indexArr rfl Tryd.underlying101 sz3 rfl rfl (by omega) (by omega)) ?_
      refine E2 (wanted_none rfl) (c_store (i := 0) (v := iv _) hs32 rfl rfl rfl rfl sz3 rfl rfl (by (show 0 + 8 + (i : Int).toNat * 1 < 21; omega)) (Fz.zero _) (fun w33 hs34 => ?_))
      have hs34 := hs34.at0 (rc_sets _ _ _ _ _ _ (by omega) (by omega) _)
      refine Enil ?_
      refine W_region ?_
      refine L0 (wanted_none rfl) rfl (y_add64 rfl rfl rfl (by omega)) ?_
      refine L0 (wanted_none rfl) rfl (y_move (v := Value.int _ _) rfl rfl) ?_
      refine Lnil ?_
      exact ⟨(i + 1, updF vz2 i vv, ent ++ rowsN), by first | omega | (dsimp only; done) | (dsimp only; omega), _, A_c (iv_eq (by first | omega | (dsimp only; done) | (dsimp only; omega))) (A_c rfl (A_c rfl (rfl))), by first | omega | (dsimp only; done) | (dsimp only; omega), lyR hR hrow (by omega), (fun x hx => (List.mem_append.1 hx).elim (hrow.new x) (hI x)), (hs34.at0 (congrArg (fun f => (⟨rcells (updF vz2 i vv) f D.slot (.slice none 0 0) (.slice none 0 0) D.fuse⟩ : Array Value)) (lyS2 zi D.sure i))).re (fun a => by simp only [ct_append, ct_cons, ct_nil]; omega)⟩
  · have h11' := h11
    first | replace h11' := of_decide_eq_false h11' | replace h11' := bnF' h11' | skip
    refine W_condF rfl h11 ?_
    refine W_exit ?_
    refine W_seq ?_
    obtain rfl : i = 8 := by omega
    refine W_region ?_
    refine L0 (wanted_none rfl) rfl (y_move (v := Value.int _ _) rfl rfl) ?_
    refine Lnil ?_
    refine W_block ?_
    refine W_loop (G := Nat) (fun i aL wl => ∃ e, aL = A 77 ((63, iv i) :: (0, pv b 0) :: (3, pv b2 0) :: e) ∧ i ≤ 2 ∧ St W0 ((b, .cells ⟨rcells vz2 (sureF (lyZ zi) D.sure 8) (lyL si D.slot i) (.slice none 0 0) (.slice none 0 0) D.fuse⟩ 135 (0, 0)) :: (b2, .cells ⟨icells vs si⟩ 59 (0, 0)) :: (rowsN ++ (K ++ R))) wl) (fun i => 2 - i) (0) ?_ ?_
    · exact ⟨_, A_pins _ _ [63, 0, 3], Nat.zero_le _, by rw [lyL_zero]; exact hs10⟩
    rintro i _ w35 ⟨ehs36, rfl, hi2, hs36⟩
    refine W_seq ?_
    refine W_region ?_
    refine L0 (wanted_none rfl) rfl (y_lt rfl rfl rfl) ?_
    refine Lnil ?_
    refine W_seq ?_
    refine Wsp (t := 64) rfl (fun h37 => ?_) (fun h37 => ?_)
    · have h37' := h37
      first | replace h37' := of_decide_eq_true h37' | replace h37' := bnT' h37' | skip
      refine W_condT rfl h37 ?_
      refine W_skip ?_
      refine W_seq ?_
      refine W_block ?_
      refine W_seq ?_
      refine W_region ?_
      refine L0 (wanted_none rfl) rfl (y_move (v := Value.int _ _) rfl rfl) ?_
      refine L0 (wanted_none rfl) rfl (y_assign (v := Value.int _ _) rfl rfl) ?_
      refine Lnil ?_
      refine W_drawSt [(0, 0), (0, 1), (0, 2), (0, 3), (0, 4), (0, 7), (1, 5), (0, 8), (2, 6), (0, 9), (2, 10)] hs36 mixed (by kernel_rfl) (fun w38 hs39 => ?_)
      refine E0 (wanted_none rfl) rfl (y_move (v := Value.pointer _) rfl rfl) ?_
      refine E0 (wanted_none rfl) rfl (y_move (v := Value.int _ _) rfl rfl) ?_
      refine E0 (wanted_none rfl) rfl (y_move (v := Value.int _ _) rfl rfl) ?_
      refine E0 (wanted_none rfl) rfl (y_fieldAddr rfl Tryd.underlying59 rfl sz57 rfl) ?_
      refine E0 (wanted_none rfl) rfl (y_indexArr rfl Tryd.underlying57 sz9 rfl rfl (by omega) (by omega)) ?_
      refine E0 (wanted_none rfl) rfl (y_nilCheck rfl rfl) ?_
      refine E1 hs39 (wanted_none rfl) rfl (y_load 1 rfl Tryd.underlying9 rfl rfl rfl (ic_s _ _ (by omega) (by omega))) ?_
      refine E0 (wanted_none rfl) rfl (y_fieldAddr rfl Tryd.underlying135 rfl sz57 rfl) ?_
      refine E2 (wanted_none rfl) (c_call rfl rfl rfl Tryd.func86 (by kernel_rfl) rfl (ylong_any _ 500 (hsl _) (by decide) w38) rfl ?_)
      rintro _ w40 ⟨rfl, hc41⟩
      have hs42 := hs39.call0 hc41
      refine E0 (wanted_none rfl) rfl (y_indexArr rfl Tryd.underlying57 sz9 rfl rfl (by omega) (by omega)) ?_
      refine E2 (wanted_none rfl) (c_store (i := 0) (v := Value.string ⟨⟨_⟩⟩) hs42 rfl rfl rfl rfl sz9 rfl rfl (by (show 0 + 16 + (i : Int).toNat * 1 < 21; omega)) (Fz.zero _) (fun w43 hs44 => ?_))
      have hs44 := hs44.at0 (rc_setl _ _ _ _ _ _ (by omega) (by omega) _)
      refine Enil ?_
      refine W_region ?_
      refine L0 (wanted_none rfl) rfl (y_add64 rfl rfl rfl (by omega)) ?_
      refine L0 (wanted_none rfl) rfl (y_move (v := Value.int _ _) rfl rfl) ?_
      refine Lnil ?_
      exact ⟨i + 1, by first | omega | (dsimp only; done) | (dsimp only; omega), _, A_c (iv_eq (by first | omega | (dsimp only; done) | (dsimp only; omega))) (A_c rfl (A_c rfl (rfl))), by omega, hs44.at0 (congrArg (fun f => (⟨rcells vz2 (sureF (lyZ zi) D.sure 8) f (.slice none 0 0) (.slice none 0 0) D.fuse⟩ : Array Value)) (lyL_succ si D.slot i))⟩
    · have h37' := h37
      first | replace h37' := of_decide_eq_false h37' | replace h37' := bnF' h37' | skip
      refine W_condF rfl h37 ?_
      refine W_exit ?_
      refine fin0 (fn := Tryd.f45) rfl ?_
      obtain rfl : i = 2 := by omega
      refine ⟨vz2, rowsN, rfl, ?_, hR, Row.nil _ _ _, Row.nil _ _ _, hnb, hI⟩
      exact ((hs36.re (L' := (b2, .cells ⟨icells vs si⟩ 59 (0, 0)) :: (R ++ (K ++ ((b, .cells ⟨rcells vz2 (sureF (lyZ zi) D.sure 8) (lyL si D.slot 2) (.slice none 0 0) (.slice none 0 0) D.fuse⟩ 135 (0, 0)) :: ([] ++ ([] ++ rowsN)))))) (fun a => by simp only [ct_append, ct_cons, ct_nil]; omega)).drop (.inl hbb2)).dropL hnR
end
end Go.Proofs.YtkolfgmpmnelmabDoor

/-
  Walk: the document's Parse.
-/
import Derived.Test.YtkolfgmpmnelmabGreatDoorU4
namespace Go.Proofs.YtkolfgmpmnelmabGreatDoor.Ent
open Go Vx Go.Proofs Go.RowKit
set_option linter.unusedVariables false
set_option maxRecDepth 8000
set_option maxHeartbeats 4000000
/-- The parts of a line that are its cells. -/
def lparts (y : List UInt8) : List (List UInt8) := ((spl 32 y).drop 2).dropLast
theorem lparts_len (y : List UInt8) : (lparts y).length = (spl 32 y).length - 3 := by rw [lparts, List.length_dropLast, List.length_drop]; omega
theorem lparts_get {y : List UInt8} {k : Nat} (h : k < (lparts y).length) : (lparts y).getD k [] = (spl 32 y).getD (k + 2) [] := by
  have h1 := lparts_len y
  rw [lparts, List.getD_eq_getElem?_getD, List.getD_eq_getElem?_getD, List.getElem?_dropLast, List.length_drop, if_pos (by omega), List.getElem?_drop, Nat.add_comm]
theorem lineV_eq (x : List UInt8) : lineV x = ⟨(spl 32 (x ++ [32])).headD [], numV ((spl 32 (x ++ [32])).getD 1 []), (lparts (x ++ [32])).map numV⟩ := rfl
theorem headD_get (l : List (List UInt8)) : l.headD [] = l.getD 0 [] := by cases l <;> rfl
theorem lines_len (s : List UInt8) : (spl 10 s).dropLast.length = (spl 10 s).length - 1 := List.length_dropLast
theorem lines_take {s : List UInt8} {i : Nat} (h : i < (spl 10 s).dropLast.length) : ((spl 10 s).dropLast.take (i + 1)).map lineV = ((spl 10 s).dropLast.take i).map lineV ++ [lineV ((spl 10 s).getD i [])] := by
  have h1 := lines_len s
  rw [take_snocS h, List.map_append, List.map_cons, List.map_nil]
  congr 3
  rw [List.getD_eq_getElem?_getD, List.getD_eq_getElem?_getD, List.getElem?_dropLast, if_pos (by omega)]
theorem getD_memS {l : List (List UInt8)} {i : Nat} (h : i < l.length) : l.getD i [] ∈ l := by
  rw [List.getD_eq_getElem?_getD, List.getElem?_eq_getElem h]; exact List.getElem_mem h
theorem spl_le (c : UInt8) (s : List UInt8) : (spl c s).length ≤ s.length + 1 := by
  rw [spl_len]; have := List.count_le_length (a := c) (l := s); omega
theorem spl_two (x : List UInt8) : 2 ≤ (spl 32 (x ++ [32])).length := by
  rw [spl_last, List.length_append, spl_len]; simp
theorem readV_few {s : List UInt8} (hl : s.length ≤ 400) : FewL (readV s) := by
  have h1 := spl_le 10 s
  have each : ∀ f ∈ readV s, ∃ x, x ∈ spl 10 s ∧ f = lineV x := fun f hf => by
    obtain ⟨x, hx, rfl⟩ := List.mem_map.1 hf
    exact ⟨x, (List.dropLast_sublist _).subset hx, rfl⟩
  refine ⟨by rw [readV, List.length_map, lines_len]; omega, fun f hf => ?_, fun f hf => ?_⟩
  · obtain ⟨x, hx, rfl⟩ := each f hf
    have h2 := part_len hx
    have h3 := spl_two x
    show ((spl 32 (x ++ [32])).headD []).length ≤ 1000
    rw [headD_get]
    have h4 := part_len (getD_memS (l := spl 32 (x ++ [32])) (i := 0) (by omega))
    rw [List.length_append, List.length_singleton] at h4; omega
  · obtain ⟨x, hx, rfl⟩ := each f hf
    have h2 := part_len hx
    rw [lineV_eq]
    show ((lparts (x ++ [32])).map numV).length ≤ 1000
    rw [List.length_map, lparts_len]
    have h3 := spl_le 32 (x ++ [32])
    rw [List.length_append, List.length_singleton] at h3; omega
theorem rparse_any (s : List UInt8) (hl : s.length ≤ 400) (w : World) (hE : EntAt w) : C Tryz.prog 17 ⟨[str s]⟩ w fun v w' => (∃ vl e r, v = .tuple #[vl, iv e] ∧ Reads s r ∧ (r = none → e = 3 ∧ vl = .slice none 0 0) ∧ ∀ m, r = some m → e = 0 ∧ ∃ vc, FlsAt w' vl m vc) ∧ St w [] w' := by
  have hll := lines_len s
  have hle := spl_le 10 s
  have hge : 1 ≤ (spl 10 s).length := by rw [spl_len]; omega
  refine C_enter (n := 81) Tryz.func17 rfl rfl rfl (fun w1 hs1 => ?_)
  refine W_seq ?_
  refine W_region ?_
  refine L0 (wanted_none rfl) rfl (y_assign (v := Value.slice _ _ _) rfl rfl) ?_
  refine L0 (wanted_none rfl) rfl (y_assign (v := Value.int _ _) rfl rfl) ?_
  refine Lnil ?_
  refine W_seq ?_
  refine W_region ?_
  refine L0 (wanted_none rfl) rfl (y_assign (v := Value.slice _ _ _) rfl rfl) ?_
  refine Lnil ?_
  refine W_seq ?_
  refine W_region ?_
  refine L0 (wanted_none rfl) rfl (y_move (v := Value.string ⟨⟨_⟩⟩) rfl rfl) ?_
  refine Lc (wanted_none rfl) (c_call rfl rfl rfl Tryz.func30 (by kernel_rfl) rfl (split_any s 10 (by omega) w1) rfl ?_)
  rintro vq w2 ⟨bq, cap, rfl, hp1, hp2, hp3⟩
  have h8 := hs1.size
  have hs4 := hs1.call_new hp3 (fun z hz => by simp [keys] at hz; omega)
  have hbq : w.heap.size ≤ bq := by omega
  refine L0 (wanted_none rfl) rfl (y_assign (v := Value.slice _ _ _) rfl rfl) ?_
  refine Lnil ?_
  refine W_seq ?_
  refine W_seq ?_
  refine W_region ?_
  refine L0 (wanted_none rfl) rfl (y_move (v := Value.slice _ _ _) rfl rfl) ?_
  refine L0 (wanted_none rfl) rfl (y_move (v := Value.slice _ _ _) rfl rfl) ?_
  refine L0 (wanted_none rfl) rfl (y_slen rfl Tryz.underlying46 rfl) ?_
  refine L0 (wanted_none rfl) rfl (y_sub64 rfl rfl rfl (by omega)) ?_
  refine L0 (wanted_none rfl) rfl (Y0.castV (y_slsliceHi rfl Tryz.underlying46 sz9 rfl rfl (by omega)) (show _ = Value.slice (some ⟨bq, 0, none⟩) (spl 10 s).dropLast.length cap by rw [show (((spl 10 s).length : Int) - 1).toNat = (spl 10 s).dropLast.length from by omega])) ?_
  refine L0 (wanted_none rfl) rfl (y_slen rfl Tryz.underlying46 rfl) ?_
  refine L0 (wanted_none rfl) rfl (y_move (v := Value.int _ _) rfl rfl) ?_
  refine Lnil ?_
  refine W_block ?_
  refine W_loop (G := Nat × Value × Blocks × (Nat → Value) × Blocks) (fun g aL wl => ∃ e, aL = A 81 ((23, iv g.1) :: (22, iv (spl 10 s).dropLast.length) :: (21, .slice (some ⟨bq, 0, none⟩) (spl 10 s).dropLast.length cap) :: (0, str s) :: (4, g.2.1) :: e) ∧ g.1 ≤ (spl 10 s).dropLast.length ∧ FB w.heap.size g.2.1 (((spl 10 s).dropLast.take g.1).map lineV) g.2.2.2.1 g.2.2.1 g.2.2.2.2 ∧ St w ((bq, .cells ⟨(spl 10 s).map str⟩ 9 (0, 0)) :: (g.2.2.1 ++ g.2.2.2.2)) wl) (fun g => (spl 10 s).dropLast.length - g.1) ((0, .slice none 0 0, [], fun _ => .nilIface, [])) ?_ ?_
  · exact ⟨_, A_pins _ _ [23, 22, 21, 0, 4], Nat.zero_le _, FB.nil _ _, hs4⟩
  rintro g _ w5 ⟨ehs6, rfl, hi, i2, hs6⟩
  obtain ⟨i, v, ent, vc, rows⟩ := g
  dsimp only at *
  obtain ⟨x, hx⟩ : ∃ x, x = (spl 10 s).getD i [] := ⟨_, rfl⟩
  refine W_seq ?_
  refine W_region ?_
  refine L0 (wanted_none rfl) rfl (y_lt rfl rfl rfl) ?_
  refine Lnil ?_
  refine W_seq ?_
  refine Wsp (t := 24) rfl (fun h7 => ?_) (fun h7 => ?_)
  · have h7' := h7
    first | replace h7' := of_decide_eq_true h7' | replace h7' := bnT' h7' | skip
    refine W_condT rfl h7 ?_
    refine W_skip ?_
    refine W_seq ?_
    refine W_block ?_
    refine W_seq ?_
    have hxm : x ∈ spl 10 s := by rw [hx]; exact getD_memS (by omega)
    have hxl := part_len hxm
    have hs2 := spl_two x
    have hs3 := spl_le 32 (x ++ [32])
    rw [List.length_append, List.length_singleton] at hs3
    obtain ⟨hd, hhd⟩ : ∃ hd, hd = (spl 32 (x ++ [32])).getD 0 [] := ⟨_, rfl⟩
    obtain ⟨p1, hp9⟩ : ∃ p, p = (spl 32 (x ++ [32])).getD 1 [] := ⟨_, rfl⟩
    have hpl1 : p1.length ≤ 401 := by
      have h4 := part_len (getD_memS (l := spl 32 (x ++ [32])) (i := 1) (by omega))
      rw [List.length_append, List.length_singleton, ← hp9] at h4; omega
    have hpn := lparts_len (x ++ [32])
    refine W_region ?_
    refine L0 (wanted_none rfl) rfl (y_indexSl rfl Tryz.underlying46 sz9 rfl rfl (by omega) (by omega)) ?_
    refine L1 (wanted_none rfl) rfl hs6 (y_load 0 rfl Tryz.underlying9 rfl rfl rfl (show _ = some (str x) by rw [hx]; exact strs_at i rfl (by omega))) ?_
    refine L0 (wanted_none rfl) rfl (y_assign (v := Value.string ⟨⟨_⟩⟩) rfl rfl) ?_
    refine Lnil ?_
    refine W_seq ?_
    refine W_region ?_
    refine L0 (wanted_none rfl) rfl (y_move (v := Value.string ⟨⟨_⟩⟩) rfl rfl) ?_
    refine L0 (wanted_none rfl) rfl (y_scat rfl rfl rfl (by first | omega | (simp; omega) | (simp only [List.length_append, List.length_cons, List.length_nil]; omega))) ?_
    refine Lc (wanted_none rfl) (c_call rfl rfl rfl Tryz.func30 (by kernel_rfl) rfl (split_any (x ++ [32]) 32 (by rw [List.length_append, List.length_singleton]; omega) w5) rfl ?_)
    rintro vq w8 ⟨bw, capw, rfl, hq1, hq2, hq3⟩
    have h8 := hs6.size
    have hs10 := hs6.call_new hq3 (fun z hz => by obtain ⟨y, hy, rfl⟩ := List.mem_map.1 hz; rw [List.mem_singleton] at hy; subst hy; exact hq2)
    have hbw : w.heap.size ≤ bw := Nat.le_trans h8 hq2
    refine L0 (wanted_none rfl) rfl (y_assign (v := Value.slice _ _ _) rfl rfl) ?_
    refine Lnil ?_
    refine W_seq ?_
    refine W_region ?_
    refine L0 (wanted_none rfl) rfl (y_move (v := Value.slice _ _ _) rfl rfl) ?_
    refine L0 (wanted_none rfl) rfl (y_indexSl rfl Tryz.underlying46 sz9 rfl rfl (by omega) (by omega)) ?_
    refine L1 (wanted_none rfl) rfl hs10 (y_load 0 rfl Tryz.underlying9 rfl rfl rfl (show _ = some (str hd) by rw [hhd]; exact strs_at 0 rfl (by omega))) ?_
    refine L0 (wanted_none rfl) rfl (y_buildSG (places := #[(0, 1), (1, 1), (2, 1)]) (cells := flCells ⟨hd, 0, []⟩ (.slice none 0 0)) rfl Tryz.underlying44 zr44 (fun w => by kernel_rfl) (by kernel_rfl)) ?_
    refine Lc (wanted_none rfl) (c_alloc hs10 rfl rfl zr44 (fun b11 w12 hbb11 hs13 => ?_))
    refine Lc (wanted_none rfl) (c_storeN (i := 0) hs13 rfl rfl rfl rfl sz44 (by rfl) (by intro u hu; simp only [flCells, List.mem_cons, List.not_mem_nil, or_false] at hu; rcases hu with rfl | rfl | rfl <;> rfl) rfl (by decide) (Fz.zero _) (fun w14 hs15 => ?_))
    have hs15 := hs15.at0E (c' := ⟨flCells ⟨hd, 0, []⟩ (.slice none 0 0)⟩) rfl
    refine Lnil ?_
    refine W_seq ?_
    refine W_region ?_
    refine L0 (wanted_none rfl) rfl (y_move (v := Value.slice _ _ _) rfl rfl) ?_
    refine L0 (wanted_none rfl) rfl (y_indexSl rfl Tryz.underlying46 sz9 rfl rfl (by omega) (by omega)) ?_
    refine L1 (wanted_none rfl) rfl hs15 (y_load 1 rfl Tryz.underlying9 rfl rfl rfl (show _ = some (str p1) by rw [hp9]; exact strs_at 1 rfl (by omega))) ?_
    refine Lc (wanted_none rfl) (c_call rfl rfl rfl Tryz.func31 (by kernel_rfl) rfl (atoi_any p1 (by omega) w14 (hE.keep hs15 (freshLE hbb11 (freshLE hbw (freshLE hbq (freshAE i2.row.new i2.new)))))) rfl ?_)
    rintro vp w16 ⟨⟨ev, rfl, hae⟩, hc17⟩
    have hs18 := hs15.call0 hc17
    clear hae
    refine L0 (wanted_none rfl) rfl (y_move (v := Value.tuple ⟨_⟩) rfl rfl) ?_
    refine L0 (wanted_none rfl) rfl (y_extract rfl rfl rfl) ?_
    refine L0 (wanted_none rfl) rfl (y_extract rfl rfl rfl) ?_
    refine L0 (wanted_none rfl) rfl (y_fieldAddr rfl Tryz.underlying44 rfl sz3 rfl) ?_
    refine Lc (wanted_none rfl) (c_store (i := 0) (v := iv _) hs18 rfl rfl rfl rfl sz3 rfl rfl (by show 0 + 1 < 3; decide) (Fz.zero _) (fun w19 hs20 => ?_))
    have hs20 := hs20.at0E (c' := ⟨flCells ⟨hd, numV p1, []⟩ (.slice none 0 0)⟩) rfl
    refine Lnil ?_
    refine W_seq ?_
    refine W_seq ?_
    refine W_region ?_
    refine L0 (wanted_none rfl) rfl (y_assign (v := Value.int _ _) rfl rfl) ?_
    refine Lnil ?_
    refine W_block ?_
    refine W_loop (G := Nat × Value × Blocks) (fun g aL wl => ∃ e, aL = A 81 ((10, iv ((g.1 : Int) + 2)) :: (8, .slice (some ⟨bw, 0, none⟩) (spl 32 (x ++ [32])).length capw) :: (9, pv b11 0) :: (23, iv i) :: (22, iv (spl 10 s).dropLast.length) :: (21, .slice (some ⟨bq, 0, none⟩) (spl 10 s).dropLast.length cap) :: (0, str s) :: (4, v) :: e) ∧ g.1 ≤ (lparts (x ++ [32])).length ∧ Row w.heap.size 3 1 g.2.1 g.1 ((((lparts (x ++ [32])).take g.1).map numV).map iv) g.2.2 ∧ St w ((b11, .cells ⟨flCells ⟨hd, numV p1, []⟩ g.2.1⟩ 44 (0, 0)) :: (bw, .cells ⟨(spl 32 (x ++ [32])).map str⟩ 9 (0, 0)) :: (bq, .cells ⟨(spl 10 s).map str⟩ 9 (0, 0)) :: (g.2.2 ++ (ent ++ rows))) wl) (fun g => (lparts (x ++ [32])).length - g.1) ((0, .slice none 0 0, [])) ?_ ?_
    · exact ⟨_, A_pins _ _ [10, 8, 9, 23, 22, 21, 0, 4], Nat.zero_le _, Row.nil _ _ _, hs20⟩
    rintro g _ w21 ⟨ehs22, rfl, hk, hrow, hs22⟩
    obtain ⟨k, vi, entF⟩ := g
    dsimp only at *
    obtain ⟨p, hp⟩ : ∃ p, p = (spl 32 (x ++ [32])).getD (k + 2) [] := ⟨_, rfl⟩
    refine W_seq ?_
    refine W_seq ?_
    refine W_region ?_
    refine L0 (wanted_none rfl) rfl (y_move (v := Value.int _ _) rfl rfl) ?_
    refine L0 (wanted_none rfl) rfl (y_move (v := Value.slice _ _ _) rfl rfl) ?_
    refine L0 (wanted_none rfl) rfl (y_slen rfl Tryz.underlying46 rfl) ?_
    refine L0 (wanted_none rfl) rfl (y_sub64 rfl rfl rfl (by omega)) ?_
    refine L0 (wanted_none rfl) rfl (y_lt rfl rfl rfl) ?_
    refine Lnil ?_
    refine Wsp (t := 46) rfl (fun h23 => ?_) (fun h23 => ?_)
    · have h23' := h23
      first | replace h23' := of_decide_eq_true h23' | replace h23' := bnT' h23' | skip
      refine W_condT rfl h23 ?_
      refine W_skip ?_
      refine W_seq ?_
      refine W_block ?_
      refine W_seq ?_
      have hpl : p.length ≤ 401 := by
        have h4 := part_len (getD_memS (l := spl 32 (x ++ [32])) (i := k + 2) (by omega))
        rw [List.length_append, List.length_singleton, ← hp] at h4; omega
      refine W_region ?_
      refine L0 (wanted_none rfl) rfl (y_move (v := Value.slice _ _ _) rfl rfl) ?_
      refine L0 (wanted_none rfl) rfl (y_move (v := Value.int _ _) rfl rfl) ?_
      refine L0 (wanted_none rfl) rfl (y_indexSl rfl Tryz.underlying46 sz9 rfl rfl (by omega) (by omega)) ?_
      refine L1 (wanted_none rfl) rfl hs22 (y_load 1 rfl Tryz.underlying9 rfl rfl rfl (show _ = some (str p) by rw [hp]; exact strs_at (k + 2) (by omega) (by omega))) ?_
      refine Lc (wanted_none rfl) (c_call rfl rfl rfl Tryz.func31 (by kernel_rfl) rfl (atoi_any p (by omega) w21 (hE.keep hs22 (freshLE hbb11 (freshLE hbw (freshLE hbq (freshAE hrow.new (freshAE i2.row.new i2.new))))))) rfl ?_)
      rintro vp w24 ⟨⟨ev, rfl, hae⟩, hc25⟩
      have hs26 := hs22.call0 hc25
      clear hae
      refine L0 (wanted_none rfl) rfl (y_move (v := Value.tuple ⟨_⟩) rfl rfl) ?_
      refine L0 (wanted_none rfl) rfl (y_extract rfl rfl rfl) ?_
      refine L0 (wanted_none rfl) rfl (y_extract rfl rfl rfl) ?_
      refine L0 (wanted_none rfl) rfl (y_assign (v := Value.int _ _) rfl rfl) ?_
      refine L0 (wanted_none rfl) rfl (y_assign (v := _) rfl rfl) ?_
      refine Lnil ?_
      refine W_region ?_
      refine L0 (wanted_none rfl) rfl (y_fieldAddr rfl Tryz.underlying44 rfl sz35 rfl) ?_
      refine L1 (wanted_none rfl) rfl hs26 ((y_load 0 rfl Tryz.underlying35 rfl rfl rfl (v := vi) rfl)) ?_
      refine L0 (wanted_none rfl) rfl (y_move (v := Value.int _ _) rfl rfl) ?_
      refine Lc (wanted_none rfl) (c_bs1 (v0 := iv _) hs26 rfl rfl Tryz.underlying35 sz3 zr3 rfl rfl  (fun b27 w28 hbb27 hs29 => ?_))
      refine Lc (wanted_none rfl) (c_appendG (L0 := (b27, .cells ⟨[iv (numV p)]⟩ 3 (0, 0)) :: (b11, .cells ⟨flCells ⟨hd, numV p1, []⟩ vi⟩ 44 (0, 0)) :: (bw, .cells ⟨(spl 32 (x ++ [32])).map str⟩ 9 (0, 0)) :: (bq, .cells ⟨(spl 10 s).map str⟩ 9 (0, 0)) :: (ent ++ rows)) (ent := entF) hs29 (perm_mid (A := [_, _, _, _]) (E := entF) (R := ent ++ rows)) rfl rfl Tryz.underlying35 sz3 zr3 by3 rfl rfl hrow (Nat.le_refl _) (fun x hx => .inl (hrow.new x hx)) rfl (Src.ofBlock (kk := 1) (hs29.get 0 rfl) rfl) (by simp [Value.oneCell']) (by omega) (by omega) (fun vP entP w30 hrow2' hn32 hs31 => ?_))
      have hrow2 := hrow2'
      have hnew_hrow2 := hn32
      replace hs31 := St.drop (L := (b11, .cells ⟨flCells ⟨hd, numV p1, []⟩ vi⟩ 44 (0, 0)) :: (bw, .cells ⟨(spl 32 (x ++ [32])).map str⟩ 9 (0, 0)) :: (bq, .cells ⟨(spl 10 s).map str⟩ 9 (0, 0)) :: (entP ++ (ent ++ rows))) (hs31.perm (perm_mid (A := [_, _, _, _]) (E := entP) (R := ent ++ rows)).symm) (.inl hbb27)
      have hP1 := Row_one hrow2
      refine L0 (wanted_none rfl) rfl (y_fieldAddr rfl Tryz.underlying44 rfl sz35 rfl) ?_
      refine Lc (wanted_none rfl) (c_store (i := 0) (v := vP) hs31 rfl rfl rfl rfl sz35 hP1 rfl (by show 0 + 2 < 3; decide) (Fz.zero _) (fun w33 hs34 => ?_))
      have hs34 := hs34.at0E (c' := ⟨flCells ⟨hd, numV p1, []⟩ vP⟩) rfl
      refine Lnil ?_
      refine W_region ?_
      refine L0 (wanted_none rfl) rfl (y_move (v := Value.int _ _) rfl rfl) ?_
      refine L0 (wanted_none rfl) rfl (y_add64 rfl rfl rfl (by omega)) ?_
      refine L0 (wanted_none rfl) rfl (y_assign (v := Value.int _ _) rfl rfl) ?_
      refine Lnil ?_
      exact ⟨(k + 1, vP, entP), by first | omega | (dsimp only; done) | (dsimp only; omega), _, A_c (iv_eq (by first | omega | (dsimp only; done) | (dsimp only; omega))) (A_c rfl (A_c rfl (A_c rfl (A_c rfl (A_c rfl (A_c rfl (A_c rfl (rfl)))))))), by omega, (by rw [take_snocS (by omega), lparts_get (by omega), ← hp, List.map_append, List.map_append]; exact hrow2), hs34⟩
    · have h23' := h23
      first | replace h23' := of_decide_eq_false h23' | replace h23' := bnF' h23' | skip
      refine W_condF rfl h23 ?_
      refine W_exit ?_
      obtain rfl : k = (lparts (x ++ [32])).length := by omega
      rw [List.take_length] at hrow
      have hml : (((spl 10 s).dropLast.take i).map lineV).length ≤ 400 := by rw [List.length_map, List.length_take]; omega
      refine W_region ?_
      refine L0 (wanted_none rfl) rfl (y_move (v := v) rfl rfl) ?_
      refine L1 (wanted_none rfl) rfl hs22 ((y_loadN 0 rfl Tryz.underlying44 rfl sz44 rfl rfl (by show 0 + 3 ≤ 3; decide))) ?_
      refine Lc (wanted_none rfl) (c_buildSlice (cells := flCells ⟨hd, numV p1, []⟩ vi) hs22 rfl rfl Tryz.underlying22 sz44 zr44 (by decide) (by kernel_rfl) (fun b35 w36 hbb35 hs37 => ?_))
      refine Lc (wanted_none rfl) (c_appendG (L0 := (b35, .cells ⟨flCells ⟨hd, numV p1, []⟩ vi⟩ 44 (0, 0)) :: (b11, .cells ⟨flCells ⟨hd, numV p1, []⟩ vi⟩ 44 (0, 0)) :: (bw, .cells ⟨(spl 32 (x ++ [32])).map str⟩ 9 (0, 0)) :: (bq, .cells ⟨(spl 10 s).map str⟩ 9 (0, 0)) :: (entF ++ rows)) (ent := ent) hs37 (perm_mid2 (A := [_, _, _, _]) (F := entF) (E := ent) (R := rows)) rfl rfl Tryz.underlying22 sz44 zr44 by44 rfl rfl i2.row (Nat.le_refl _) (fun x hx => .inl (i2.row.new x hx)) rfl (Src.ofBlock (kk := 1) (hs37.get 0 rfl) rfl) (by intro z hz; simp only [flCells, List.mem_cons, List.not_mem_nil, or_false] at hz; rcases hz with rfl | rfl | rfl <;> first | rfl | exact Row_one hrow) (by omega) (by omega) (fun vQ entQ w38 hrow3' hn40 hs39 => ?_))
      have hrow3 := hrow3'
      have hnew_hrow3 := hn40
      replace hs39 := St.drop (L := (b11, .cells ⟨flCells ⟨hd, numV p1, []⟩ vi⟩ 44 (0, 0)) :: (bw, .cells ⟨(spl 32 (x ++ [32])).map str⟩ 9 (0, 0)) :: (bq, .cells ⟨(spl 10 s).map str⟩ 9 (0, 0)) :: (entF ++ (entQ ++ rows))) (hs39.perm (perm_mid2 (A := [_, _, _, _]) (F := entF) (E := entQ) (R := rows)).symm) (.inl hbb35)
      refine L0 (wanted_none rfl) rfl (y_assign (v := vQ) rfl rfl) ?_
      refine Lnil ?_
      refine W_region ?_
      refine L0 (wanted_none rfl) rfl (y_add64 rfl rfl rfl (by omega)) ?_
      refine L0 (wanted_none rfl) rfl (y_move (v := Value.int _ _) rfl rfl) ?_
      refine Lnil ?_
      have hfl : lineV x = ⟨hd, numV p1, (lparts (x ++ [32])).map numV⟩ := by rw [lineV_eq, headD_get, ← hhd, ← hp9]
      have hi2 := i2.push (F := ⟨hd, numV p1, (lparts (x ++ [32])).map numV⟩) hrow3 (by rw [List.length_map]; exact hrow)
      rw [← hfl, hx, ← lines_take (by omega)] at hi2
      exact ⟨(i + 1, vQ, entQ, vcPush vc (((spl 10 s).dropLast.take i).map lineV).length vi, entF ++ rows), by first | omega | (dsimp only; done) | (dsimp only; omega), _, A_c (iv_eq (by first | omega | (dsimp only; done) | (dsimp only; omega))) (A_c rfl (A_c rfl (A_c rfl (A_c rfl (rfl))))), by omega, hi2, (show St w ((bq, .cells ⟨(spl 10 s).map str⟩ 9 (0, 0)) :: (entQ ++ (entF ++ rows))) w38 from ((hs39.drop (.inl hbb11)).drop (.inl hbw)).perm (perm_sw (A := [_]) (E := entQ) (F := entF) (R := rows)))⟩
  · have h7' := h7
    first | replace h7' := of_decide_eq_false h7' | replace h7' := bnF' h7' | skip
    refine W_condF rfl h7 ?_
    refine W_exit ?_
    refine W_seq ?_
    refine W_seq ?_
    obtain rfl : i = (spl 10 s).dropLast.length := by omega
    have i2 := i2
    rw [List.take_length] at i2
    have hFd : FlsAt w5 v (readV s) vc := i2.at hs6 (fun z hz => List.mem_cons_of_mem _ (List.mem_append_left _ hz)) (fun z hz => List.mem_cons_of_mem _ (List.mem_append_right _ hz))
    refine W_region ?_
    refine L0 (wanted_none rfl) rfl (y_move (v := v) rfl rfl) ?_
    refine Lc (wanted_none rfl) (c_call rfl rfl rfl Tryz.func5 (by kernel_rfl) rfl (rprint_any (readV s) v vc (readV_few hl) w5 hFd (hE.keep hs6 (freshLE hbq (freshAE i2.row.new i2.new)))) rfl ?_)
    rintro vp w41 ⟨⟨t, ee, rfl, hp4, hp5⟩, hc42⟩
    have hs43 := hs6.call0 hc42
    refine L0 (wanted_none rfl) rfl (y_move (v := Value.tuple ⟨_⟩) rfl rfl) ?_
    refine L0 (wanted_none rfl) rfl (y_extract rfl rfl rfl) ?_
    refine L0 (wanted_none rfl) rfl (y_extract rfl rfl rfl) ?_
    refine L0 (wanted_none rfl) rfl (y_assign (v := Value.string ⟨⟨_⟩⟩) rfl rfl) ?_
    refine L0 (wanted_none rfl) rfl (y_assign (v := Value.int _ _) rfl rfl) ?_
    refine Lnil ?_
    refine W_seq ?_
    by_cases hRP : RightP (readV s)
    · skip
      obtain ⟨rfl, rfl⟩ := hp4 hRP
      refine W_region ?_
      refine L0 (wanted_none rfl) rfl (y_move (v := Value.int _ _) rfl rfl) ?_
      refine L0 (wanted_none rfl) rfl (y_ne rfl rfl rfl) ?_
      refine L0 (wanted_none rfl) rfl (y_move (v := Value.bool _) rfl rfl) ?_
      refine Lkn (t := 75) (b0 := false) rfl (by first | exact decide_eq_false (by omega) | exact bnF (by omega) | (simp; omega)) (fun h44 => ?_)
      refine L0 (wanted_yesB rfl rfl rfl h44) rfl (y_move (v := Value.string ⟨⟨_⟩⟩) rfl rfl) ?_
      refine L0 (wanted_yesB rfl rfl rfl h44) rfl (y_move (v := Value.string ⟨⟨_⟩⟩) rfl rfl) ?_
      refine L0 (wanted_yesB rfl rfl rfl h44) rfl (y_sne rfl rfl rfl) ?_
      refine L0 (wanted_none rfl) rfl (y_pickF rfl rfl h44 rfl) ?_
      refine Lnil ?_
      refine Wsp (t := 79) rfl (fun h45 => ?_) (fun h45 => ?_)
      · have h45' := h45
        first | replace h45' := of_decide_eq_true h45' | replace h45' := bnT' h45' | skip
        refine W_condT rfl h45 ?_
        refine W_seq ?_
        refine W_region ?_
        refine L0 (wanted_none rfl) rfl (y_assign (v := Value.slice _ _ _) rfl rfl) ?_
        refine L0 (wanted_none rfl) rfl (y_assign (v := Value.int _ _) rfl rfl) ?_
        refine Lnil ?_
        refine W_ret ?_
        refine fin2 (fn := Tryz.f17) rfl rfl rfl ?_
        first | exact ⟨⟨_, _, none, rfl, reads_no (fun h => by first | exact hRP h.1 | exact absurd h.2 (by assumption)), fun _ => ⟨rfl, rfl⟩, fun m h => (by cases h)⟩, hs43.drops (fun z hz => .inl (freshLE hbq (freshAE i2.row.new i2.new) z hz))⟩ | exact ⟨⟨_, _, some (readV s), rfl, reads_yes hRP (by assumption), fun h => (by cases h), fun m h => by cases h; exact ⟨rfl, vc, i2.at hs43 (fun z hz => List.mem_cons_of_mem _ (List.mem_append_left _ hz)) (fun z hz => List.mem_cons_of_mem _ (List.mem_append_right _ hz))⟩⟩, hs43.drops (fun z hz => .inl (freshLE hbq (freshAE i2.row.new i2.new) z hz))⟩
      · have h45' := h45
        first | replace h45' := of_decide_eq_false h45' | replace h45' := bnF' h45' | skip
        refine W_condF rfl h45 ?_
        refine W_skip ?_
        refine W_seq ?_
        refine W_region ?_
        refine L0 (wanted_none rfl) rfl (y_move (v := v) rfl rfl) ?_
        refine L0 (wanted_none rfl) rfl (y_assign (v := v) rfl rfl) ?_
        refine L0 (wanted_none rfl) rfl (y_assign (v := Value.int _ _) rfl rfl) ?_
        refine Lnil ?_
        refine W_ret ?_
        refine fin2 (fn := Tryz.f17) rfl rfl rfl ?_
        first | exact ⟨⟨_, _, none, rfl, reads_no (fun h => by first | exact hRP h.1 | exact absurd h.2 (by assumption)), fun _ => ⟨rfl, rfl⟩, fun m h => (by cases h)⟩, hs43.drops (fun z hz => .inl (freshLE hbq (freshAE i2.row.new i2.new) z hz))⟩ | exact ⟨⟨_, _, some (readV s), rfl, reads_yes hRP (by assumption), fun h => (by cases h), fun m h => by cases h; exact ⟨rfl, vc, i2.at hs43 (fun z hz => List.mem_cons_of_mem _ (List.mem_append_left _ hz)) (fun z hz => List.mem_cons_of_mem _ (List.mem_append_right _ hz))⟩⟩, hs43.drops (fun z hz => .inl (freshLE hbq (freshAE i2.row.new i2.new) z hz))⟩
    · skip
      obtain ⟨rfl, rfl⟩ := hp5 hRP
      refine W_region ?_
      refine L0 (wanted_none rfl) rfl (y_move (v := Value.int _ _) rfl rfl) ?_
      refine L0 (wanted_none rfl) rfl (y_ne rfl rfl rfl) ?_
      refine L0 (wanted_none rfl) rfl (y_move (v := Value.bool _) rfl rfl) ?_
      refine Lkn (t := 75) (b0 := true) rfl (by first | exact decide_eq_true (by omega) | exact bnT (by omega) | (simp; omega)) (fun h46 => ?_)
      refine Lno (wanted_noB rfl rfl rfl h46 (by decide)) rfl ?_
      refine Lno (wanted_noB rfl rfl rfl h46 (by decide)) rfl ?_
      refine Lno (wanted_noB rfl rfl rfl h46 (by decide)) rfl ?_
      refine L0 (wanted_none rfl) rfl (y_pickT rfl rfl h46 rfl) ?_
      refine Lnil ?_
      refine W_condT rfl rfl ?_
      refine W_seq ?_
      refine W_region ?_
      refine L0 (wanted_none rfl) rfl (y_assign (v := Value.slice _ _ _) rfl rfl) ?_
      refine L0 (wanted_none rfl) rfl (y_assign (v := Value.int _ _) rfl rfl) ?_
      refine Lnil ?_
      refine W_ret ?_
      refine fin2 (fn := Tryz.f17) rfl rfl rfl ?_
      first | exact ⟨⟨_, _, none, rfl, reads_no (fun h => by first | exact hRP h.1 | exact absurd h.2 (by assumption)), fun _ => ⟨rfl, rfl⟩, fun m h => (by cases h)⟩, hs43.drops (fun z hz => .inl (freshLE hbq (freshAE i2.row.new i2.new) z hz))⟩ | exact ⟨⟨_, _, some (readV s), rfl, reads_yes hRP (by assumption), fun h => (by cases h), fun m h => by cases h; exact ⟨rfl, vc, i2.at hs43 (fun z hz => List.mem_cons_of_mem _ (List.mem_append_left _ hz)) (fun z hz => List.mem_cons_of_mem _ (List.mem_append_right _ hz))⟩⟩, hs43.drops (fun z hz => .inl (freshLE hbq (freshAE i2.row.new i2.new) z hz))⟩
end Go.Proofs.YtkolfgmpmnelmabGreatDoor.Ent

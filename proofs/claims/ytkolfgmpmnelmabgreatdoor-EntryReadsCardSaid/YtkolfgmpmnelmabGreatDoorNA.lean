/-
  Walk: entry.Parse, the function itself.
-/
import Derived.Test.YtkolfgmpmnelmabGreatDoorN9
namespace Go.Proofs.YtkolfgmpmnelmabGreatDoor.Ent
open Go Vx Go.Proofs Go.RowKit
set_option linter.unusedVariables false
set_option maxRecDepth 8000
set_option maxHeartbeats 1000000
def Parsed (s : List UInt8) (v : Value) (w' : World) : Prop := (Reads s none ∧ v = .tuple #[.slice none 0 0, .iface 24 (iv 3)]) ∨ ∃ m vl vc, Reads s (some m) ∧ v = .tuple #[vl, .nilIface] ∧ FlsAt w' vl m vc
theorem print2_any (l : List Fl) (v0 : Value) (vc : Nat → Value) (w : World) (hF : FlsAt w v0 l vc) (hE : EntAt w) : C Tryz.prog 6 ⟨[v0]⟩ w fun v w' => (∃ t e, v = .tuple #[str t, e] ∧ (RightP l → t = printed l ∧ e = .nilIface) ∧ (¬ RightP l → t = [] ∧ e = .iface 24 (iv 1))) ∧ St w [] w' :=
  (print_any l v0 vc w hF hE).mono fun v w' ⟨h, hs⟩ => ⟨by
    rcases h with ⟨h1, rfl⟩ | ⟨h1, rfl⟩
    · exact ⟨_, _, rfl, fun _ => ⟨rfl, rfl⟩, fun h => absurd h1 h⟩
    · exact ⟨_, _, rfl, fun h => absurd h h1, fun _ => ⟨rfl, rfl⟩⟩, hs⟩
theorem parse_any (s : List UInt8) (hl : s.length ≤ 100000) (w : World) (hE : EntAt w) : C Tryz.prog 18 ⟨[str s]⟩ w fun v w' => Parsed s v w' ∧ St w [] w' := by
  have hcut := cutEnd_len s
  refine C_marks (n := 73) Tryz.func18 rfl rfl rfl (fun w1 hs1 => ?_)
  refine W_seq ?_
  refine W_region ?_
  refine Lc (wanted_none rfl) (c_box hs1 rfl rfl rfl (fun b2 w3 hbb2 hs4 => ?_))
  have hs4 := hs4.at0E (c' := #[str s]) rfl
  refine Lc (wanted_none rfl) (c_alloc hs4 rfl rfl zr22 (fun b5 w6 hbb5 hs7 => ?_))
  have hs7 := hs7.at0E (c' := #[.slice none 0 0]) rfl
  refine Lc (wanted_none rfl) (c_alloc hs7 rfl rfl zr28 (fun b8 w9 hbb8 hs10 => ?_))
  have hs10 := hs10.at0E (c' := #[.nilIface]) rfl
  refine Lnil ?_
  refine W_seq ?_
  refine W_region ?_
  refine Lc (wanted_none rfl) (c_alloc hs10 rfl rfl zr22 (fun b11 w12 hbb11 hs13 => ?_))
  have hs13 := hs13.at0E (c' := #[.slice none 0 0]) rfl
  refine Lnil ?_
  refine W_seq ?_
  refine W_seq ?_
  refine W_region ?_
  refine L1 (wanted_none rfl) rfl hs13 (y_load 3 rfl Tryz.underlying9 rfl rfl rfl rfl) ?_
  refine Lc (wanted_none rfl) (c_call rfl rfl rfl Tryz.func33 (by kernel_rfl) rfl (trim10_any s (by omega) w12) rfl ?_)
  rintro _ w14 ⟨rfl, hc15⟩
  have hs16 := hs13.call0 hc15
  refine Lc (wanted_none rfl) (c_call rfl rfl rfl Tryz.func32 (by kernel_rfl) rfl (SplitSeq_any (cutEnd s) 10 w14) rfl ?_)
  rintro vq w17 ⟨bs, bp, bz, rfl, q1, q2, q3, hc⟩
  have h8 := hs16.size
  have hs19 := hs16.call_new hc (fun b hb => by simp [seqB, keys] at hb; omega)
  refine Lnil ?_
  refine W_block ?_
  have hW := hs19.swap
  have hwl := hs19.size
  have k1 := hs19.get 2 rfl
  have k2 := hs19.get 1 rfl
  have k3 := hs19.get 0 rfl
  have d1 : bs ≠ bp ∧ bs ≠ bz ∧ bp ≠ bz := by have := hs19.nd; simp [keys, seqB] at this; omega
  have g1 : w.heap.size ≤ bs ∧ w.heap.size ≤ bp ∧ w.heap.size ≤ bz := by omega
  obtain ⟨wl, hwl4⟩ : ∃ wl, wl = w17 := ⟨_, rfl⟩
  rw [← hwl4] at hW hwl k1 k2 k3 ⊢
  have hPLf : ∀ u v, ∀ z ∈ PL s b2 b5 b8 b11 bs bp bz u v, w.heap.size ≤ z.1 := fun u v => PL_fresh hbb2 hbb5 hbb8 hbb11 g1.1 g1.2.1 g1.2.2
  refine W_rf (W_rangeCell (gf := 71) (lb := ⟨[pv bp 0, pv bs 0, pv bz 0]⟩) rfl (enters_of Tryz.func71 (by kernel_rfl) rfl)
    (seq_cell (s := cutEnd s) (c := 10) (by omega) d1.1 d1.2.1 d1.2.2 k1 k2 k3) (fun k hk => by simp at hk; rcases hk with rfl | rfl | rfl; exact lt_of_has k1; exact lt_of_has k2; exact lt_of_has k3) (lt_of_has k1) (fun x => rfl)
    (PI w s b2 b5 b8 b11 bs bp bz) (PX w s b5 b8) (PI.own hwl) (PX.own hwl) PI.turn ?_
    (fun x e2 => ∃ e3, e2 = (5, str x) :: (1, pv b2 0) :: (2, pv b5 0) :: (3, pv b8 0) :: (4, pv b11 0) :: e3) ?_ ?_ ?_ ?_)
  · exact ⟨str (cutEnd s), .slice none 0 0, [], [], fun _ => .nilIface, [], rfl, by have := FB.nil w.heap.size (fun _ => Value.nilIface); by_cases h : s = [] <;> simpa [h] using this, hW⟩
  · rintro l x W
    have hs1 := St.init W
    have ez : ((#[17] : Array Tmp).zip (sEnc x)).toList.reverse = [(17, str x)] := by simp [sEnc]
    rw [ez]
    refine WI_region (by kernel_rfl) ?_
    refine L0 (wanted_none rfl) rfl (y_assign (v := Value.string ⟨⟨_⟩⟩) rfl rfl) ?_
    refine Lnil ?_
    exact ⟨rfl, _, A_pins _ _ [5, 1, 2, 3, 4], ⟨_, rfl⟩⟩
  · rintro l pre x e2 W ⟨u, v, ent, m, vc, rows, i1, i2, i3⟩ ⟨e3, rfl⟩ hnx
    have hIF : ∀ z ∈ PL s b2 b5 b8 b11 bs bp bz u v ++ (ent ++ rows), w.heap.size ≤ z.1 := freshAE (hPLf u v) (freshAE i2.row.new i2.new)
    have hIC : ∀ z ∈ PL s b2 b5 b8 b11 bs bp bz u v ++ (ent ++ rows), isC z.2 = true := isCA PL_isC (isCA (Row_isC i2.row) i2.isc)
    have hxl := next_len hnx
    have hs1 := i3.self
    have hwW := i3.size
    have hsl := spl_len 32 x
    obtain ⟨hd, hhd⟩ : ∃ hd, hd = (spl 32 x).getD 0 [] := ⟨_, rfl⟩
    have hhd2 : (spl 32 x).headD [] = hd := by rw [hhd]; cases h : spl 32 x <;> rfl
    obtain ⟨fl, hfl⟩ : ∃ fl, fl = (spl 32 x).tail := ⟨_, rfl⟩
    have hfln : fl.length = (spl 32 x).length - 1 := by rw [hfl, List.length_tail]
    refine WI_block ?_
    refine WI_seq ?_
    refine WI_region (by kernel_rfl) ?_
    refine L0 (wanted_none rfl) rfl (y_move (v := Value.string ⟨⟨_⟩⟩) rfl rfl) ?_
    refine Lc (wanted_none rfl) (c_call rfl rfl rfl Tryz.func30 (by kernel_rfl) rfl (split_any x 32 (by omega) W) rfl ?_)
    rintro vq w101 ⟨bq, cap, rfl, hq1, hq2, hq3⟩
    have h8 := hs1.size
    have hs103 := hs1.call_new hq3 (fun z hz => by simp [keys] at hz; omega)
    refine L0 (wanted_none rfl) rfl (y_assign (v := Value.slice _ _ _) rfl rfl) ?_
    refine Lnil ?_
    refine WI_seq ?_
    refine WI_region (by kernel_rfl) ?_
    refine L0 (wanted_none rfl) rfl (y_move (v := Value.slice _ _ _) rfl rfl) ?_
    refine L0 (wanted_none rfl) rfl (y_indexSl rfl Tryz.underlying46 sz9 rfl rfl (by omega) (by omega)) ?_
    refine L1 (wanted_none rfl) rfl hs103 (y_load 0 rfl Tryz.underlying9 rfl rfl rfl (strs_at 0 rfl (by omega))) ?_
    refine L0 (wanted_none rfl) rfl (y_buildSG (places := #[(0, 1), (1, 1), (2, 1)]) (cells := flCells ⟨(spl 32 x).getD 0 [], 0, []⟩ (.slice none 0 0)) rfl Tryz.underlying44 zr44 (fun w => by kernel_rfl) (by kernel_rfl)) ?_
    refine Lc (wanted_none rfl) (c_alloc hs103 rfl rfl zr44 (fun b104 w105 hbb104 hs106 => ?_))
    refine Lc (wanted_none rfl) (c_storeN (i := 0) hs106 rfl rfl rfl rfl sz44 (by rfl) (by intro u hu; simp only [flCells, List.mem_cons, List.not_mem_nil, or_false] at hu; rcases hu with rfl | rfl | rfl <;> rfl) rfl (by decide) (Fz.zero _) (fun w107 hs108 => ?_))
    have hs108 := hs108.at0E (c' := ⟨flCells ⟨hd, ([] : List Int).headD 0, ([] : List Int).tail⟩ (.slice none 0 0)⟩) (by rw [hhd]; rfl)
    obtain ⟨ofs, hofe⟩ : ∃ ofs, ofs = (if cap = (1 : Int).toNat then 0 else 0 + (1 : Int).toNat * 1) := ⟨_, rfl⟩
    have hofs : 0 < fl.length → ofs = 1 := fun h => by rw [hofe, if_neg (by show ¬ cap = 1; omega)]; rfl
    refine Lnil ?_
    refine WI_seq ?_
    refine WI_seq ?_
    refine WI_region (by kernel_rfl) ?_
    refine L0 (wanted_none rfl) rfl (y_move (v := Value.slice _ _ _) rfl rfl) ?_
    refine L0 (wanted_none rfl) rfl (Y0.castV (y_slsliceLo rfl Tryz.underlying46 sz9 rfl rfl (by omega)) (show _ = Value.slice (some ⟨bq, ofs, none⟩) fl.length (cap - 1) by rw [hfln, hofe]; rfl)) ?_
    refine L0 (wanted_none rfl) rfl (y_slen rfl Tryz.underlying46 rfl) ?_
    refine L0 (wanted_none rfl) rfl (y_move (v := Value.int _ _) rfl rfl) ?_
    refine Lnil ?_
    refine WI_block ?_
    refine WI_loop (G := Nat × List Int × Value × Blocks) (fun g aL wl => ∃ e, aL = A 73 ((27, iv g.1) :: (26, iv fl.length) :: (25, Value.slice (some ⟨bq, ofs, none⟩) fl.length (cap - 1)) :: (7, pv b104 0) :: (1, pv b2 0) :: (2, pv b5 0) :: (3, pv b8 0) :: (4, pv b11 0) :: e) ∧ g.1 ≤ fl.length ∧ (fl.take g.1).mapM num? = some g.2.1 ∧ Row W.heap.size 3 1 g.2.2.1 g.2.1.tail.length (g.2.1.tail.map iv) g.2.2.2 ∧ St W ((b104, .cells ⟨flCells ⟨hd, g.2.1.headD 0, g.2.1.tail⟩ g.2.2.1⟩ 44 (0, 0)) :: (bq, .cells ⟨(spl 32 x).map str⟩ 9 (0, 0)) :: (PL s b2 b5 b8 b11 bs bp bz u v ++ (g.2.2.2 ++ (ent ++ rows)))) wl) (fun g => fl.length - g.1) ((0, [], .slice none 0 0, [])) ?_ ?_
    · exact ⟨_, A_pins _ _ [27, 26, 25, 7, 1, 2, 3, 4], Nat.zero_le _, rfl, Row.nil _ _ _, hs108⟩
    rintro g _ w109 ⟨ehs110, rfl, hi, hnm, hrow, hs110⟩
    obtain ⟨i, ns, vi, entF⟩ := g
    dsimp only at *
    obtain ⟨y, hy⟩ : ∃ y, y = fl.getD i [] := ⟨_, rfl⟩
    refine WI_seq ?_
    refine WI_region (by kernel_rfl) ?_
    refine L0 (wanted_none rfl) rfl (y_lt rfl rfl rfl) ?_
    refine Lnil ?_
    refine WI_seq ?_
    refine WIsp (t := 28) rfl (fun h111 => ?_) (fun h111 => ?_)
    · have h111' := h111
      first | replace h111' := of_decide_eq_true h111' | replace h111' := bnT' h111' | skip
      refine WI_condT rfl h111 ?_
      refine WI_skip ?_
      refine WI_seq ?_
      refine WI_block ?_
      refine WI_seq ?_
      have hnl : ns.length = i := by have h7 := mapM_len hnm; rw [List.length_take] at h7; omega
      have htl : ns.tail.length = i - 1 := by rw [List.length_tail, hnl]
      have hcx := List.count_le_length (a := (32 : UInt8)) (l := x)
      have hym : y ∈ spl 32 x := by
        rw [hy]
        have h7 : fl.getD i [] ∈ fl := by rw [List.getD_eq_getElem?_getD, List.getElem?_eq_getElem (show i < fl.length by omega)]; exact List.getElem_mem _
        rw [hfl] at h7 ⊢
        exact List.mem_of_mem_tail h7
      have hLf : ∀ z ∈ (b104, Obj.cells ⟨flCells ⟨hd, ns.headD 0, ns.tail⟩ vi⟩ 44 (0, 0)) :: (bq, Obj.cells ⟨(spl 32 x).map str⟩ 9 (0, 0)) :: (PL s b2 b5 b8 b11 bs bp bz u v ++ (entF ++ (ent ++ rows))), w.heap.size ≤ z.1 := freshLE (by omega) (freshLE (by omega) (freshAE (hPLf u v) (freshAE (fun z hz => Nat.le_trans hwW (hrow.new z hz)) (freshAE i2.row.new i2.new))))
      refine WI_region (by kernel_rfl) ?_
      refine L0 (wanted_none rfl) rfl (y_move (v := Value.int _ _) rfl rfl) ?_
      refine L0 (wanted_none rfl) rfl (y_indexSl rfl Tryz.underlying46 sz9 rfl rfl (by omega) (by omega)) ?_
      refine L1 (wanted_none rfl) rfl hs110 (y_load 1 rfl Tryz.underlying9 rfl rfl rfl (show _ = some (str y) by rw [hy, hfl]; exact strs_at1 i rfl (hofs (by omega)) (by rw [← hfl]; omega))) ?_
      refine L0 (wanted_none rfl) rfl (y_assign (v := Value.int _ _) rfl rfl) ?_
      refine L0 (wanted_none rfl) rfl (y_assign (v := Value.string ⟨⟨_⟩⟩) rfl rfl) ?_
      refine Lnil ?_
      refine WI_seq ?_
      refine WI_region (by kernel_rfl) ?_
      refine L0 (wanted_none rfl) rfl (y_move (v := Value.string ⟨⟨_⟩⟩) rfl rfl) ?_
      refine Lc (wanted_none rfl) (c_call rfl rfl rfl Tryz.func31 (by kernel_rfl) rfl (atoi_any y (by have := part_len (c := 32) (s := x) hym; omega) w109 (hE.keepW i3 hs110 hIF hLf)) rfl ?_)
      rintro vp w112 ⟨⟨ev, rfl, hae⟩, hc113⟩
      have hs114 := hs110.call0 hc113
      refine L0 (wanted_none rfl) rfl (y_move (v := Value.tuple ⟨_⟩) rfl rfl) ?_
      refine L0 (wanted_none rfl) rfl (y_extract rfl rfl rfl) ?_
      refine L0 (wanted_none rfl) rfl (y_extract rfl rfl rfl) ?_
      refine L0 (wanted_none rfl) rfl (y_assign (v := Value.int _ _) rfl rfl) ?_
      refine L0 (wanted_none rfl) rfl (y_assign (v := _) rfl rfl) ?_
      refine Lnil ?_
      refine WI_block ?_
      refine WI_seq ?_
      by_cases hnu : num? y = none
      · skip
        obtain ⟨tp, p, rfl⟩ := atoi_bad hae hnu
        refine WI_region (by kernel_rfl) ?_
        refine L0 (wanted_none rfl) rfl (y_move (v := _) rfl rfl) ?_
        refine L0 (wanted_none rfl) rfl (y_neNil rfl Tryz.underlying28 rfl) ?_
        refine L0 (wanted_none rfl) rfl (y_assign (v := Value.bool _) rfl rfl) ?_
        refine Lnil ?_
        refine WI_condT rfl rfl ?_
        refine WI_seq ?_
        refine WI_region (by kernel_rfl) ?_
        refine L0 (wanted_none rfl) rfl (y_mkif rfl Tryz.underlying24 rfl rfl) ?_
        refine Lc (wanted_none rfl) (c_store (i := 4) (v := Value.slice _ _ _) hs114 rfl rfl rfl rfl sz22 rfl rfl (by show 0 < 1; decide) (Fz.zero _) (fun w115 hs116 => ?_))
        refine Lc (wanted_none rfl) (c_store (i := 3) (v := Value.iface _ _) hs116 rfl rfl rfl rfl sz28 rfl rfl (by show 0 < 1; decide) (Fz.zero _) (fun w117 hs118 => ?_))
        refine Lnil ?_
        refine WI_ret ?_
        have hbad : fl.mapM num? = none := by rw [split_at (l := fl) (k := i) (by omega), ← hy]; exact mapM_cut hnu _ _
        have hrn : read? s = none := read?_none hnx (line?_none (hfl ▸ hbad))
        have hz : St W ((b104, .cells ⟨flCells ⟨hd, ns.headD 0, ns.tail⟩ vi⟩ 44 (0, 0)) :: (bq, .cells ⟨(spl 32 x).map str⟩ 9 (0, 0)) :: ((b11, .cells #[v] 22 (0, 0)) :: (b8, .cells #[.iface 24 (iv 3)] 28 (0, 0)) :: (b5, .cells #[.slice none 0 0] 22 (0, 0)) :: (b2, .cells #[str s] 9 (0, 0)) :: (bz, .cells #[iv 0] 3 (0, 0)) :: (bp, .cells #[str [10]] 9 (0, 0)) :: (bs, .cells #[u] 9 (0, 0)) :: (entF ++ (ent ++ rows)))) _ := hs118
        exact ⟨keepsOf i3 hIC hz (inC (.inl hbb104) (inC (.inl (by omega)) (inC (.inr (by simp [keys, PL])) (inC (.inr (by simp [keys, PL])) (inC (.inr (by simp [keys, PL])) (inC (.inr (by simp [keys, PL])) (inC (.inr (by simp [keys, PL])) (inC (.inr (by simp [keys, PL])) (inC (.inr (by simp [keys, PL])) (inA (fun z hz2 => .inl (hrow.new z hz2)) (inA (fun z hz2 => .inr (keysE (List.mem_map.2 ⟨z, hz2, rfl⟩))) (fun z hz2 => .inr (keysR hz2))))))))))))), hrn, _, (i3.compose hz (fun b hb => .inr (by obtain ⟨z, hz2, rfl⟩ := List.mem_map.1 hb; exact hIF z hz2))).perm perm_32, freshLE (by omega) (freshLE (by omega) (freshLE hbb11 (freshLE hbb2 (freshLE g1.2.2 (freshLE g1.2.1 (freshLE g1.1 (freshAE (fun z hz2 => Nat.le_trans hwW (hrow.new z hz2)) (freshAE i2.row.new i2.new)))))))), isCL rfl (isCL rfl (isCL rfl (isCL rfl (isCL rfl (isCL rfl (isCL rfl (isCA (Row_isC hrow) (isCA (Row_isC i2.row) i2.isc))))))))⟩
      · skip
        obtain ⟨hnv, rfl⟩ := atoi_good hae hnu
        refine WI_region (by kernel_rfl) ?_
        refine L0 (wanted_none rfl) rfl (y_move (v := _) rfl rfl) ?_
        refine L0 (wanted_none rfl) rfl (y_neNilNil rfl Tryz.underlying28 rfl) ?_
        refine L0 (wanted_none rfl) rfl (y_assign (v := Value.bool _) rfl rfl) ?_
        refine Lnil ?_
        refine WI_condF rfl rfl ?_
        refine WI_seq ?_
        refine WI_region (by kernel_rfl) ?_
        refine L0 (wanted_none rfl) rfl (y_move (v := Value.int _ _) rfl rfl) ?_
        refine L0 (wanted_none rfl) rfl (y_eq rfl rfl rfl) ?_
        refine L0 (wanted_none rfl) rfl (y_assign (v := Value.bool _) rfl rfl) ?_
        refine Lnil ?_
        refine WIsp (t := 47) rfl (fun h119 => ?_) (fun h119 => ?_)
        · have h119' := h119
          first | replace h119' := of_decide_eq_true h119' | replace h119' := bnT' h119' | skip
          refine WI_condT rfl h119 ?_
          refine WI_region (by kernel_rfl) ?_
          refine L0 (wanted_none rfl) rfl (y_move (v := Value.int _ _) rfl rfl) ?_
          refine L0 (wanted_none rfl) rfl (y_fieldAddr rfl Tryz.underlying44 rfl sz3 rfl) ?_
          refine Lc (wanted_none rfl) (c_store (i := 0) (v := iv _) hs114 rfl rfl rfl rfl sz3 rfl rfl (by show 0 + 1 < 3; decide) (Fz.zero _) (fun w120 hs121 => ?_))
          have hns : ns = [] := List.eq_nil_of_length_eq_zero (by omega)
          have hs121 := hs121.at0E (c' := ⟨flCells ⟨hd, (ns ++ [numV y]).headD 0, (ns ++ [numV y]).tail⟩ vi⟩) (by rw [hns]; rfl)
          refine Lnil ?_
          refine WI_region (by kernel_rfl) ?_
          refine L0 (wanted_none rfl) rfl (y_add64 rfl rfl rfl (by omega)) ?_
          refine L0 (wanted_none rfl) rfl (y_move (v := Value.int _ _) rfl rfl) ?_
          refine Lnil ?_
          exact ⟨(i + 1, ns ++ [numV y], vi, entF), by omega, _, A_c (iv_eq (by first | omega | (dsimp only; done) | (dsimp only; omega))) (A_c rfl (A_c rfl (A_c rfl (A_c rfl (A_c rfl (A_c rfl (A_c rfl (rfl)))))))), by omega, (by rw [take_snocS (by omega)]; exact mapM_snoc (hy ▸ hnv) hnm), (by rw [hns]; rw [hns] at hrow; exact hrow), hs121⟩
        · have h119' := h119
          first | replace h119' := of_decide_eq_false h119' | replace h119' := bnF' h119' | skip
          refine WI_condF rfl h119 ?_
          refine WI_region (by kernel_rfl) ?_
          refine L0 (wanted_none rfl) rfl (y_fieldAddr rfl Tryz.underlying44 rfl sz35 rfl) ?_
          refine L1 (wanted_none rfl) rfl hs114 ((y_load 0 rfl Tryz.underlying35 rfl rfl rfl (v := vi) rfl)) ?_
          refine L0 (wanted_none rfl) rfl (y_move (v := Value.int _ _) rfl rfl) ?_
          refine Lc (wanted_none rfl) (c_bs1 (v0 := iv _) hs114 rfl rfl Tryz.underlying35 sz3 zr3 rfl rfl  (fun b122 w123 hbb122 hs124 => ?_))
          refine Lc (wanted_none rfl) (c_appendG (L0 := (b122, .cells ⟨[iv (numV y)]⟩ 3 (0, 0)) :: (b104, .cells ⟨flCells ⟨hd, ns.headD 0, ns.tail⟩ vi⟩ 44 (0, 0)) :: (bq, .cells ⟨(spl 32 x).map str⟩ 9 (0, 0)) :: (PL s b2 b5 b8 b11 bs bp bz u v ++ (ent ++ rows))) (ent := entF) hs124 ((((perm_mid (A := PL s b2 b5 b8 b11 bs bp bz u v) (E := entF) (R := ent ++ rows)).cons _).cons _).cons _) rfl rfl Tryz.underlying35 sz3 zr3 by3 rfl rfl hrow (Nat.le_refl _) (fun x hx => .inl (hrow.new x hx)) rfl (Src.ofBlock (kk := 1) (hs124.get 0 rfl) rfl) (by simp [Value.oneCell']) (by omega) (by omega) (fun vP entP w125 hrow2' hn127 hs126 => ?_))
          have hrow2 := hrow2'
          have hnew_hrow2 := hn127
          replace hs126 := St.drop (L := (b104, .cells ⟨flCells ⟨hd, ns.headD 0, ns.tail⟩ vi⟩ 44 (0, 0)) :: (bq, .cells ⟨(spl 32 x).map str⟩ 9 (0, 0)) :: (PL s b2 b5 b8 b11 bs bp bz u v ++ (entP ++ (ent ++ rows)))) (hs126.perm ((((perm_mid (A := PL s b2 b5 b8 b11 bs bp bz u v) (E := entP) (R := ent ++ rows)).cons _).cons _).cons _).symm) (.inl hbb122)
          have hP1 := Row_one hrow2
          refine L0 (wanted_none rfl) rfl (y_fieldAddr rfl Tryz.underlying44 rfl sz35 rfl) ?_
          refine Lc (wanted_none rfl) (c_store (i := 0) (v := vP) hs126 rfl rfl rfl rfl sz35 hP1 rfl (by show 0 + 2 < 3; decide) (Fz.zero _) (fun w128 hs129 => ?_))
          have hne : ns ≠ [] := fun h => by rw [h] at hnl; simp at hnl; omega
          have hs129 := hs129.at0E (c' := ⟨flCells ⟨hd, (ns ++ [numV y]).headD 0, (ns ++ [numV y]).tail⟩ vP⟩) (by rw [headD_app hne]; rfl)
          refine Lnil ?_
          refine WI_region (by kernel_rfl) ?_
          refine L0 (wanted_none rfl) rfl (y_add64 rfl rfl rfl (by omega)) ?_
          refine L0 (wanted_none rfl) rfl (y_move (v := Value.int _ _) rfl rfl) ?_
          refine Lnil ?_
          exact ⟨(i + 1, ns ++ [numV y], vP, entP), by omega, _, A_c (iv_eq (by first | omega | (dsimp only; done) | (dsimp only; omega))) (A_c rfl (A_c rfl (A_c rfl (A_c rfl (A_c rfl (A_c rfl (A_c rfl (rfl)))))))), by omega, (by rw [take_snocS (by omega)]; exact mapM_snoc (hy ▸ hnv) hnm), (by rw [tail_app hne, List.length_append, List.map_append]; exact hrow2), hs129⟩
    · have h111' := h111
      first | replace h111' := of_decide_eq_false h111' | replace h111' := bnF' h111' | skip
      refine WI_condF rfl h111 ?_
      refine WI_exit ?_
      refine WI_seq ?_
      have hmx : fl.mapM num? = some ns := by have e : fl.take i = fl := List.take_of_length_le (by omega); rwa [e] at hnm
      have hline : line? x = some ⟨hd, ns.headD 0, ns.tail⟩ := by rw [line?_some (hfl ▸ hmx), hhd2]
      have hml : m.length ≤ 100001 := by
        obtain ⟨rest, hr⟩ := hnx
        have h1 := mapM_len i1
        have h2 := congrArg List.length hr
        rw [spl_len, List.length_append] at h2
        have h3 := List.count_le_length (a := (10 : UInt8)) (l := cutEnd s)
        omega
      refine WI_region (by kernel_rfl) ?_
      refine L1 (wanted_none rfl) rfl hs110 (y_load 5 rfl Tryz.underlying9 rfl rfl rfl rfl) ?_
      refine L0 (wanted_none rfl) rfl (y_sne rfl rfl rfl) ?_
      refine Lnil ?_
      refine WIsp (t := 54) rfl (fun h130 => ?_) (fun h130 => ?_)
      · have h130' := h130
        first | replace h130' := of_decide_eq_true h130' | replace h130' := bnT' h130' | skip
        refine WI_condT rfl h130 ?_
        have hiR : Row w.heap.size 44 3 v m.length (flatC m vc) ent := by have h7 := i2.row; rwa [if_neg (by assumption)] at h7
        refine WI_region (by kernel_rfl) ?_
        refine L1 (wanted_none rfl) rfl hs110 ((y_load 2 rfl Tryz.underlying22 rfl rfl rfl (v := v) rfl)) ?_
        refine L1 (wanted_none rfl) rfl hs110 ((y_loadN 0 rfl Tryz.underlying44 rfl sz44 rfl rfl (by show 0 + 3 ≤ 3; decide))) ?_
        refine Lc (wanted_none rfl) (c_buildSlice (cells := flCells ⟨hd, ns.headD 0, ns.tail⟩ vi) hs110 rfl rfl Tryz.underlying22 sz44 zr44 (by decide) (by kernel_rfl) (fun b131 w132 hbb131 hs133 => ?_))
        refine Lc (wanted_none rfl) (c_appendG (L0 := (b131, .cells ⟨flCells ⟨hd, ns.headD 0, ns.tail⟩ vi⟩ 44 (0, 0)) :: (b104, .cells ⟨flCells ⟨hd, ns.headD 0, ns.tail⟩ vi⟩ 44 (0, 0)) :: (bq, .cells ⟨(spl 32 x).map str⟩ 9 (0, 0)) :: (PL s b2 b5 b8 b11 bs bp bz u v ++ (entF ++ rows))) (ent := ent) hs133 ((((perm_mid2 (A := PL s b2 b5 b8 b11 bs bp bz u v) (F := entF) (E := ent) (R := rows)).cons _).cons _).cons _) rfl rfl Tryz.underlying22 sz44 zr44 by44 rfl rfl hiR (hwW) (fun z hz => .inr (i3.has z (List.mem_append_right _ (List.mem_append_left _ hz)))) rfl (Src.ofBlock (kk := 1) (hs133.get 0 rfl) rfl) (by intro z hz; simp only [flCells, List.mem_cons, List.not_mem_nil, or_false] at hz; rcases hz with rfl | rfl | rfl <;> first | rfl | exact Row_one hrow) (by omega) (by omega) (fun vQ entQ w134 hrow3' hn136 hs135 => ?_))
        have hrow3 := hrow3'
        have hnew_hrow3 := hn136
        replace hs135 := St.drop (L := (b104, .cells ⟨flCells ⟨hd, ns.headD 0, ns.tail⟩ vi⟩ 44 (0, 0)) :: (bq, .cells ⟨(spl 32 x).map str⟩ 9 (0, 0)) :: (PL s b2 b5 b8 b11 bs bp bz u v ++ (entF ++ (entQ ++ rows)))) (hs135.perm ((((perm_mid2 (A := PL s b2 b5 b8 b11 bs bp bz u v) (F := entF) (E := entQ) (R := rows)).cons _).cons _).cons _).symm) (.inl hbb131)
        have hQ1 := Row_one hrow3
        refine Lc (wanted_none rfl) (c_store (i := 2) (v := vQ) hs135 rfl rfl rfl rfl sz22 hQ1 rfl (by show 0 < 1; decide) (Fz.zero _) (fun w137 hs138 => ?_))
        refine Lnil ?_
        first | (have hz : St W ((b104, .cells ⟨flCells ⟨hd, ns.headD 0, ns.tail⟩ vi⟩ 44 (0, 0)) :: (bq, .cells ⟨(spl 32 x).map str⟩ 9 (0, 0)) :: (PL s b2 b5 b8 b11 bs bp bz u  v ++ (entF ++ (ent ++ rows)))) _ := hs138; have hsn : s = [] := (by assumption); exact ⟨keepsOf i3 hIC hz (inC (.inl hbb104) (inC (.inl (by omega)) (inA PL_keys (inA (fun z hz2 => .inl (hrow.new z hz2)) (inA (fun z hz2 => .inr (keysE (List.mem_map.2 ⟨z, hz2, rfl⟩))) (fun z hz2 => .inr (keysR hz2))))))), PL_same i3 hz (fun z hz2 => List.mem_cons_of_mem _ (List.mem_cons_of_mem _ (List.mem_append_left _ hz2))), u, v, ent, m ++ [⟨hd, ns.headD 0, ns.tail⟩], vc, rows, mapM_snoc hline i1, (by have h7 := i2; rw [if_pos hsn] at h7 ⊢; exact h7), ((((i3.compose hz (fun b hb => .inr (by obtain ⟨z, hz2, rfl⟩ := List.mem_map.1 hb; exact hIF z hz2))).drop (.inl (by omega))).drop (.inl (by omega))).perm perm_front).dropL (M := entF) (fun z hz2 => Nat.le_trans hwW (hrow.new z hz2))⟩) | (have hz : St W ((b104, .cells ⟨flCells ⟨hd, ns.headD 0, ns.tail⟩ vi⟩ 44 (0, 0)) :: (bq, .cells ⟨(spl 32 x).map str⟩ 9 (0, 0)) :: (PL s b2 b5 b8 b11 bs bp bz u  vQ ++ (entF ++ (entQ ++ rows)))) _ := hs138; have hsn : s ≠ [] := (by assumption); exact ⟨keepsOf i3 hIC hz (inC (.inl hbb104) (inC (.inl (by omega)) (inA PL_keys (inA (fun z hz2 => .inl (hrow.new z hz2)) (inA (fun z hz2 => (hnew_hrow3 z hz2).symm.imp id keysE) (fun z hz2 => .inr (keysR hz2))))))), PL_same i3 hz (fun z hz2 => List.mem_cons_of_mem _ (List.mem_cons_of_mem _ (List.mem_append_left _ hz2))), u, vQ, entQ, m ++ [⟨hd, ns.headD 0, ns.tail⟩], vcPush vc m.length vi, entF ++ rows, mapM_snoc hline i1, (by have h7 := i2; rw [if_neg hsn] at h7 ⊢; exact h7.push hrow3 (Row_mono hrow hwW)), (((i3.compose hz (fun b hb => .inr (by obtain ⟨z, hz2, rfl⟩ := List.mem_map.1 hb; exact hIF z hz2))).drop (.inl (by omega))).drop (.inl (by omega))).perm perm_sw⟩)
      · have h130' := h130
        first | replace h130' := of_decide_eq_false h130' | replace h130' := bnF' h130' | skip
        refine WI_condF rfl h130 ?_
        refine WI_skip ?_
        first | (have hz : St W ((b104, .cells ⟨flCells ⟨hd, ns.headD 0, ns.tail⟩ vi⟩ 44 (0, 0)) :: (bq, .cells ⟨(spl 32 x).map str⟩ 9 (0, 0)) :: (PL s b2 b5 b8 b11 bs bp bz u  v ++ (entF ++ (ent ++ rows)))) _ := hs110; have hsn : s = [] := (by assumption); exact ⟨keepsOf i3 hIC hz (inC (.inl hbb104) (inC (.inl (by omega)) (inA PL_keys (inA (fun z hz2 => .inl (hrow.new z hz2)) (inA (fun z hz2 => .inr (keysE (List.mem_map.2 ⟨z, hz2, rfl⟩))) (fun z hz2 => .inr (keysR hz2))))))), PL_same i3 hz (fun z hz2 => List.mem_cons_of_mem _ (List.mem_cons_of_mem _ (List.mem_append_left _ hz2))), u, v, ent, m ++ [⟨hd, ns.headD 0, ns.tail⟩], vc, rows, mapM_snoc hline i1, (by have h7 := i2; rw [if_pos hsn] at h7 ⊢; exact h7), ((((i3.compose hz (fun b hb => .inr (by obtain ⟨z, hz2, rfl⟩ := List.mem_map.1 hb; exact hIF z hz2))).drop (.inl (by omega))).drop (.inl (by omega))).perm perm_front).dropL (M := entF) (fun z hz2 => Nat.le_trans hwW (hrow.new z hz2))⟩) | (have hz : St W ((b104, .cells ⟨flCells ⟨hd, ns.headD 0, ns.tail⟩ vi⟩ 44 (0, 0)) :: (bq, .cells ⟨(spl 32 x).map str⟩ 9 (0, 0)) :: (PL s b2 b5 b8 b11 bs bp bz u  vQ ++ (entF ++ (entQ ++ rows)))) _ := hs110; have hsn : s ≠ [] := (by assumption); exact ⟨keepsOf i3 hIC hz (inC (.inl hbb104) (inC (.inl (by omega)) (inA PL_keys (inA (fun z hz2 => .inl (hrow.new z hz2)) (inA (fun z hz2 => (hnew_hrow3 z hz2).symm.imp id keysE) (fun z hz2 => .inr (keysR hz2))))))), PL_same i3 hz (fun z hz2 => List.mem_cons_of_mem _ (List.mem_cons_of_mem _ (List.mem_append_left _ hz2))), u, vQ, entQ, m ++ [⟨hd, ns.headD 0, ns.tail⟩], vcPush vc m.length vi, entF ++ rows, mapM_snoc hline i1, (by have h7 := i2; rw [if_neg hsn] at h7 ⊢; exact h7.push hrow3 (Row_mono hrow hwW)), (((i3.compose hz (fun b hb => .inr (by obtain ⟨z, hz2, rfl⟩ := List.mem_map.1 hb; exact hIF z hz2))).drop (.inl (by omega))).drop (.inl (by omega))).perm perm_sw⟩)
  · skip
    rintro ys Wd rfl ⟨u, v, ent, m, vc, rows, i1, i2, i3⟩ hK
    have hic : ∀ x ∈ PL s b2 b5 b8 b11 bs bp bz u v ++ (ent ++ rows), isC x.2 = true := fun x hx => (List.mem_append.1 hx).elim (PL_isC x) (fun hx => (List.mem_append.1 hx).elim (Row_isC i2.row x) (i2.isc x))
    have hif : ∀ x ∈ PL s b2 b5 b8 b11 bs bp bz u v ++ (ent ++ rows), w.heap.size ≤ x.1 := freshAE (hPLf u v) (freshAE i2.row.new i2.new)
    have hsD := i3.know hK (i3.notKey hK hic rfl) hwl
    have hrd := read?_some i1
    obtain ⟨l, hll⟩ : ∃ l, l = (if s = [] then [] else m) := ⟨_, rfl⟩
    rw [← hll] at i2 hrd
    have hFd : FlsAt Wd v l vc := i2.at i3 (fun x hx => List.mem_append_right _ (List.mem_append_left _ hx)) (fun x hx => List.mem_append_right _ (List.mem_append_right _ hx))
    show W _ _ _ (A 73 _ [_]) Wd
    refine W_seq ?_
    refine W_seq ?_
    refine W_region ?_
    refine L1 (wanted_none rfl) rfl hsD ((y_load 1 rfl Tryz.underlying22 rfl rfl rfl (v := v) rfl)) ?_
    refine Lc (wanted_none rfl) (c_call rfl rfl rfl Tryz.func6 (by kernel_rfl) rfl (print2_any l v vc Wd hFd (hE.keep hsD (freshLE hwl hif))) rfl ?_)
    rintro vp w20 ⟨⟨t, ev, rfl, hp1, hp2⟩, hc21⟩
    have hs22 := hsD.call0 hc21
    refine L0 (wanted_none rfl) rfl (y_move (v := Value.tuple ⟨_⟩) rfl rfl) ?_
    refine L0 (wanted_none rfl) rfl (y_extract rfl rfl rfl) ?_
    refine L0 (wanted_none rfl) rfl (y_extract rfl rfl rfl) ?_
    refine L0 (wanted_none rfl) rfl (y_assign (v := Value.string ⟨⟨_⟩⟩) rfl rfl) ?_
    refine L0 (wanted_none rfl) rfl (y_assign (v := _) rfl rfl) ?_
    refine Lnil ?_
    refine W_seq ?_
    by_cases hRP : RightP l
    · skip
      obtain ⟨rfl, rfl⟩ := hp1 hRP
      refine W_region ?_
      refine L0 (wanted_none rfl) rfl (y_move (v := _) rfl rfl) ?_
      refine L0 (wanted_none rfl) rfl (y_neNilNil rfl Tryz.underlying28 rfl) ?_
      refine L0 (wanted_none rfl) rfl (y_move (v := Value.bool _) rfl rfl) ?_
      refine L0 (wanted_yesB rfl rfl rfl rfl) rfl (y_move (v := Value.string ⟨⟨_⟩⟩) rfl rfl) ?_
      refine L1 (wanted_yesB rfl rfl rfl rfl) rfl hs22 (y_load 4 rfl Tryz.underlying9 rfl rfl rfl rfl) ?_
      refine L0 (wanted_yesB rfl rfl rfl rfl) rfl (y_sne rfl rfl rfl) ?_
      refine L0 (wanted_none rfl) rfl (y_pickF rfl rfl (rfl : false = false) rfl) ?_
      refine Lnil ?_
      refine Wsp (t := 70) rfl (fun h23 => ?_) (fun h23 => ?_)
      · have h23' := h23
        first | replace h23' := of_decide_eq_true h23' | replace h23' := bnT' h23' | skip
        refine W_condT rfl h23 ?_
        refine W_seq ?_
        refine W_region ?_
        refine L0 (wanted_none rfl) rfl (y_mkif rfl Tryz.underlying24 rfl rfl) ?_
        refine Lc (wanted_none rfl) (c_store (i := 3) (v := Value.slice _ _ _) hs22 rfl rfl rfl rfl sz22 rfl rfl (by decide) (Fz.zero _) (fun w24 hs25 => ?_))
        refine Lc (wanted_none rfl) (c_store (i := 2) (v := Value.iface _ _) hs25 rfl rfl rfl rfl sz28 rfl rfl (by decide) (Fz.zero _) (fun w26 hs27 => ?_))
        refine Lnil ?_
        refine W_ret ?_
        first | exact marks_fin2D (fn := Tryz.f18) (x := .slice none 0 0) (y := .iface 24 (iv 3)) rfl rfl rfl (hs27.get 3 rfl) (hs27.get 2 rfl) rfl rfl Tryz.underlying22 rfl Tryz.underlying28 rfl (hs27.get 0 rfl) (fun w6 hg6 => ⟨.inl ⟨reads_other hrd (fun h => by first | exact hRP h.1 | exact absurd h.2 (by assumption)), rfl⟩, hs27.away (freshLE hwl (freshLE hbb11 (freshLE hbb8 (freshLE hbb5 (freshLE hbb2 (freshLE g1.2.2 (freshLE g1.2.1 (freshLE g1.1 (freshAE (L := ent) (M := rows) i2.row.new i2.new))))))))) hg6 hwl⟩) | exact marks_fin2D (fn := Tryz.f18) (x := v) (y := .nilIface) rfl rfl rfl (hs27.get 3 rfl) (hs27.get 2 rfl) rfl rfl Tryz.underlying22 rfl Tryz.underlying28 rfl (hs27.get 0 rfl) (fun w6 hg6 => ⟨.inr ⟨l, v, vc, ⟨hRP, by assumption⟩, rfl, i2.at ((hs27.drop (.inl hwl)).grown hg6 (fun r e => by cases e; exact ⟨hwl, _, hs27.get 0 rfl, rfl⟩) (isC7 (R := ent ++ rows) rfl rfl rfl rfl rfl rfl rfl (fun x hx => (List.mem_append.1 hx).elim (Row_isC i2.row x) (i2.isc x)))) (fun x hx => mem7 (R := ent ++ rows) (List.mem_append_left _ hx)) (fun x hx => mem7 (R := ent ++ rows) (List.mem_append_right _ hx))⟩, hs27.away (freshLE hwl (freshLE hbb11 (freshLE hbb8 (freshLE hbb5 (freshLE hbb2 (freshLE g1.2.2 (freshLE g1.2.1 (freshLE g1.1 (freshAE (L := ent) (M := rows) i2.row.new i2.new))))))))) hg6 hwl⟩)
      · have h23' := h23
        first | replace h23' := of_decide_eq_false h23' | replace h23' := bnF' h23' | skip
        refine W_condF rfl h23 ?_
        refine W_skip ?_
        refine W_seq ?_
        have hv1 : v.oneCell' = true := by obtain ⟨a, cap, h, _⟩ := hFd.shape; rw [h]; rfl
        refine W_region ?_
        refine L1 (wanted_none rfl) rfl hs22 ((y_load 1 rfl Tryz.underlying22 rfl rfl rfl (v := v) rfl)) ?_
        refine Lc (wanted_none rfl) (c_store (i := 3) (v := v) hs22 rfl rfl rfl rfl sz22 hv1 rfl (by decide) (Fz.zero _) (fun w28 hs29 => ?_))
        refine Lc (wanted_none rfl) (c_store (i := 2) (v := Value.nilIface) hs29 rfl rfl rfl rfl sz28 rfl rfl (by decide) (Fz.zero _) (fun w30 hs31 => ?_))
        refine Lnil ?_
        refine W_ret ?_
        first | exact marks_fin2D (fn := Tryz.f18) (x := .slice none 0 0) (y := .iface 24 (iv 3)) rfl rfl rfl (hs31.get 3 rfl) (hs31.get 2 rfl) rfl rfl Tryz.underlying22 rfl Tryz.underlying28 rfl (hs31.get 0 rfl) (fun w6 hg6 => ⟨.inl ⟨reads_other hrd (fun h => by first | exact hRP h.1 | exact absurd h.2 (by assumption)), rfl⟩, hs31.away (freshLE hwl (freshLE hbb11 (freshLE hbb8 (freshLE hbb5 (freshLE hbb2 (freshLE g1.2.2 (freshLE g1.2.1 (freshLE g1.1 (freshAE (L := ent) (M := rows) i2.row.new i2.new))))))))) hg6 hwl⟩) | exact marks_fin2D (fn := Tryz.f18) (x := v) (y := .nilIface) rfl rfl rfl (hs31.get 3 rfl) (hs31.get 2 rfl) rfl rfl Tryz.underlying22 rfl Tryz.underlying28 rfl (hs31.get 0 rfl) (fun w6 hg6 => ⟨.inr ⟨l, v, vc, ⟨hRP, by assumption⟩, rfl, i2.at ((hs31.drop (.inl hwl)).grown hg6 (fun r e => by cases e; exact ⟨hwl, _, hs31.get 0 rfl, rfl⟩) (isC7 (R := ent ++ rows) rfl rfl rfl rfl rfl rfl rfl (fun x hx => (List.mem_append.1 hx).elim (Row_isC i2.row x) (i2.isc x)))) (fun x hx => mem7 (R := ent ++ rows) (List.mem_append_left _ hx)) (fun x hx => mem7 (R := ent ++ rows) (List.mem_append_right _ hx))⟩, hs31.away (freshLE hwl (freshLE hbb11 (freshLE hbb8 (freshLE hbb5 (freshLE hbb2 (freshLE g1.2.2 (freshLE g1.2.1 (freshLE g1.1 (freshAE (L := ent) (M := rows) i2.row.new i2.new))))))))) hg6 hwl⟩)
    · skip
      obtain ⟨rfl, rfl⟩ := hp2 hRP
      refine W_region ?_
      refine L0 (wanted_none rfl) rfl (y_move (v := _) rfl rfl) ?_
      refine L0 (wanted_none rfl) rfl (y_neNil rfl Tryz.underlying28 rfl) ?_
      refine L0 (wanted_none rfl) rfl (y_move (v := Value.bool _) rfl rfl) ?_
      refine Lno (wanted_noB rfl rfl rfl rfl (by decide)) rfl ?_
      refine Lno (wanted_noB rfl rfl rfl rfl (by decide)) rfl ?_
      refine Lno (wanted_noB rfl rfl rfl rfl (by decide)) rfl ?_
      refine L0 (wanted_none rfl) rfl (y_pickT rfl rfl (rfl : true = true) rfl) ?_
      refine Lnil ?_
      refine W_condT rfl rfl ?_
      refine W_seq ?_
      refine W_region ?_
      refine L0 (wanted_none rfl) rfl (y_mkif rfl Tryz.underlying24 rfl rfl) ?_
      refine Lc (wanted_none rfl) (c_store (i := 3) (v := Value.slice _ _ _) hs22 rfl rfl rfl rfl sz22 rfl rfl (by decide) (Fz.zero _) (fun w32 hs33 => ?_))
      refine Lc (wanted_none rfl) (c_store (i := 2) (v := Value.iface _ _) hs33 rfl rfl rfl rfl sz28 rfl rfl (by decide) (Fz.zero _) (fun w34 hs35 => ?_))
      refine Lnil ?_
      refine W_ret ?_
      first | exact marks_fin2D (fn := Tryz.f18) (x := .slice none 0 0) (y := .iface 24 (iv 3)) rfl rfl rfl (hs35.get 3 rfl) (hs35.get 2 rfl) rfl rfl Tryz.underlying22 rfl Tryz.underlying28 rfl (hs35.get 0 rfl) (fun w6 hg6 => ⟨.inl ⟨reads_other hrd (fun h => by first | exact hRP h.1 | exact absurd h.2 (by assumption)), rfl⟩, hs35.away (freshLE hwl (freshLE hbb11 (freshLE hbb8 (freshLE hbb5 (freshLE hbb2 (freshLE g1.2.2 (freshLE g1.2.1 (freshLE g1.1 (freshAE (L := ent) (M := rows) i2.row.new i2.new))))))))) hg6 hwl⟩) | exact marks_fin2D (fn := Tryz.f18) (x := v) (y := .nilIface) rfl rfl rfl (hs35.get 3 rfl) (hs35.get 2 rfl) rfl rfl Tryz.underlying22 rfl Tryz.underlying28 rfl (hs35.get 0 rfl) (fun w6 hg6 => ⟨.inr ⟨l, v, vc, ⟨hRP, by assumption⟩, rfl, i2.at ((hs35.drop (.inl hwl)).grown hg6 (fun r e => by cases e; exact ⟨hwl, _, hs35.get 0 rfl, rfl⟩) (isC7 (R := ent ++ rows) rfl rfl rfl rfl rfl rfl rfl (fun x hx => (List.mem_append.1 hx).elim (Row_isC i2.row x) (i2.isc x)))) (fun x hx => mem7 (R := ent ++ rows) (List.mem_append_left _ hx)) (fun x hx => mem7 (R := ent ++ rows) (List.mem_append_right _ hx))⟩, hs35.away (freshLE hwl (freshLE hbb11 (freshLE hbb8 (freshLE hbb5 (freshLE hbb2 (freshLE g1.2.2 (freshLE g1.2.1 (freshLE g1.1 (freshAE (L := ent) (M := rows) i2.row.new i2.new))))))))) hg6 hwl⟩)
  · rintro pre Wd _ ⟨j1, L, j2, j3, j4⟩ hK
    refine wpIn_ret ?_
    show MarkRet _ _ _ (A 73 _ [_]) Wd
    exact marks_fin2D (fn := Tryz.f18) (x := .slice none 0 0) (y := .iface 24 (iv 3)) rfl rfl rfl (j2.get 1 rfl) (j2.get 0 rfl) rfl rfl Tryz.underlying22 rfl Tryz.underlying28 rfl hK (fun w6 hg6 => ⟨.inl ⟨reads_none j1, rfl⟩, j2.away (freshLE hbb8 (freshLE hbb5 j3)) hg6 hwl⟩)
end Go.Proofs.YtkolfgmpmnelmabGreatDoor.Ent

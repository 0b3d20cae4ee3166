/-
  Walks: the zones' counts; two lists compared; law.SpaceFinds.
-/
import Derived.Test.YtkolfgmpmnelmaaX3
namespace Go.Proofs.Ytkolfgmpmnelmaa
open Go Vx Go.Proofs
set_option linter.unusedVariables false
set_option maxRecDepth 4000
set_option maxHeartbeats 400000

theorem row_keys {B E s m : Nat} {v : Value} {xs : List Value} {ent : Blocks} (h : Row B E s v m xs ent) : ∀ k ∈ keys ent, B ≤ k := fun k hk => by
  obtain ⟨x, hx, rfl⟩ := List.mem_map.1 hk; exact h.new x hx
def lvI (T : Tb) (i : Nat) : List Int := (List.range 8).map fun z : Nat => ((inT T z i).length : Int)
def lv (T : Tb) (i : Nat) : List Value := (lvI T i).map iv
theorem lvI_len (T : Tb) (i : Nat) : (lvI T i).length = 8 := by simp [lvI]
theorem lv_at (T : Tb) {i : Nat} {z : Int} (h0 : 0 ≤ z) (h1 : z < 8) : (⟨lv T i⟩ : Array Value)[0 + z.toNat * 1]? = some (iv ((inT T z i).length : Int)) := by
  obtain ⟨n, rfl⟩ := Int.eq_ofNat_of_zero_le h0
  rw [Nat.zero_add, Nat.mul_one, Int.toNat_natCast, List.getElem?_toArray, lv, lvI, List.getElem?_map, List.getElem?_map, List.getElem?_range (by omega)]; rfl
theorem lv_no (T : Tb) {i : Nat} (h : T.tag i = [] ∨ T.zn i < 0 ∨ 8 ≤ T.zn i) : lv T (i + 1) = lv T i := by
  rw [lv, lv, lvI, lvI]
  congr 1
  apply List.map_congr_left
  intro z hz
  have hz' : z < 8 := by simpa using hz
  rw [inT_no (occ_no (h.imp id (fun h => by omega)))]
theorem lv_yes (T : Tb) {i : Nat} (h : T.tag i ≠ []) (h0 : 0 ≤ T.zn i) (h1 : T.zn i < 8) : (⟨lv T (i + 1)⟩ : Array Value) = (⟨lv T i⟩ : Array Value).setIfInBounds (0 + (T.zn i).toNat * 1) (iv (((inT T (T.zn i) i).length : Int) + 1)) := by
  apply Array.ext_getElem?
  intro k
  rw [Array.getElem?_setIfInBounds]
  have hl : ∀ i, (⟨lv T i⟩ : Array Value).size = 8 := fun i => by simp [lv, lvI]
  obtain ⟨n, hn⟩ := Int.eq_ofNat_of_zero_le h0
  have hk : 0 + (T.zn i).toNat * 1 = n := by omega
  rw [hk, hl]
  by_cases h8 : k < 8
  · have a1 : ∀ i, (⟨lv T i⟩ : Array Value)[k]? = some (iv ((inT T k i).length : Int)) := fun i => by
      have := lv_at T (i := i) (z := (k : Int)) (by omega) (by omega)
      rw [Nat.zero_add, Nat.mul_one, Int.toNat_natCast] at this; exact this
    rw [a1, a1]
    by_cases e : n = k
    · subst e
      rw [if_pos rfl, if_pos h8, inT_yes h hn, List.length_append]
      exact congrArg some (iv_eq (by rw [hn]; simp))
    · rw [if_neg e, inT_no (occ_no (.inr (by omega)))]
  · rw [if_neg (by omega), Array.getElem?_eq_none (by rw [hl]; omega), Array.getElem?_eq_none (by rw [hl]; omega)]
theorem live_any (T : Tb) (w : World) : C Try.prog 34 ⟨[.agg ⟨tbl T⟩]⟩ w fun v w' => (∃ ent, Row w.heap.size 3 1 v 8 ((lvI T 24).map iv) ent ∧ St w ent w') := by
  refine C_enter (n := 34) Try.func34 rfl rfl rfl (fun w1 hs1 => ?_)
  refine W_seq ?_
  refine W_region ?_
  refine Lc (wanted_none rfl) (c_box hs1 rfl rfl rfl (fun b2 w3 hbb2 hs4 => ?_))
  refine L0 (wanted_none rfl) rfl (y_assign (v := Value.slice _ _ _) rfl rfl) ?_
  refine Lnil ?_
  refine W_seq ?_
  refine W_region ?_
  refine Lc (wanted_none rfl) (c_makeSlice (8) hs4 rfl rfl Try.underlying34 sz3 zr3 by3 rfl rfl rfl (by omega) (by omega) (by omega) (fun b5 w6 hbb5 hs7 => ?_))
  refine L0 (wanted_none rfl) rfl (y_assign (v := Value.slice _ _ _) rfl rfl) ?_
  refine Lnil ?_
  refine W_seq ?_
  refine W_seq ?_
  refine W_region ?_
  refine L0 (wanted_none rfl) rfl (y_fieldAddr rfl Try.underlying59 rfl sz57 rfl) ?_
  refine L1 (wanted_none rfl) rfl hs7 ((y_loadC 1 rfl rfl rfl)) ?_
  refine L0 (wanted_none rfl) rfl (y_move (v := Value.int _ _) rfl rfl) ?_
  refine Lnil ?_
  refine W_block ?_
  refine W_loop (G := Nat) (fun i aL wl => ∃ e, aL = A 34 ((9, iv i) :: (1, pv b2 0) :: (8, .agg ⟨cellsT T 24⟩) :: (3, .slice (some ⟨b5, 0, none⟩) 8 8) :: e) ∧ i ≤ 24 ∧ St w [(b5, .cells ⟨lv T i⟩ 3 (0, 0)), (b2, .cells ⟨tbl T⟩ 59 (0, 0))] wl) (fun i => 24 - i) (0) ?_ ?_
  · exact ⟨_, A_pins _ _ [9, 1, 8, 3], Nat.zero_le _, hs7⟩
  rintro i _ w8 ⟨ehs9, rfl, hi, hs9⟩
  refine W_seq ?_
  refine W_region ?_
  refine L0 (wanted_none rfl) rfl (y_lt rfl rfl rfl) ?_
  refine Lnil ?_
  refine W_seq ?_
  refine Wsp (t := 10) rfl (fun h10 => ?_) (fun h10 => ?_)
  · have h10' := h10
    first | replace h10' := of_decide_eq_true h10' | replace h10' := bnT' h10' | skip
    refine W_condT rfl h10 ?_
    refine W_skip ?_
    refine W_seq ?_
    refine W_block ?_
    refine W_seq ?_
    refine W_region ?_
    refine L0 (wanted_none rfl) rfl (y_iarrN rfl Try.underlying57 Try.underlying56 rfl sz56 rfl rfl (by omega) (by omega) (cells_le T (by omega)) (cells_at T (by omega))) ?_
    refine Lc (wanted_none rfl) (c_alloc hs9 rfl rfl zr56 (fun b11 w12 hbb11 hs13 => ?_))
    refine Lc (wanted_none rfl) (c_storeN (i := 0) hs13 rfl rfl rfl rfl sz56 (by rfl) (by simp [Value.oneCell']) rfl (by decide) (Fz.zero _) (fun w14 hs15 => ?_))
    refine Lnil ?_
    refine W_seq ?_
    refine W_region ?_
    refine L0 (wanted_none rfl) rfl (y_fieldAddr rfl Try.underlying56 rfl sz9 rfl) ?_
    refine L1 (wanted_none rfl) rfl hs15 (y_load 0 rfl Try.underlying9 rfl rfl rfl rfl) ?_
    refine L0 (wanted_none rfl) rfl (y_sne rfl rfl rfl) ?_
    refine L0 (wanted_none rfl) rfl (y_move (v := Value.bool _) rfl rfl) ?_
    refine Lsp (t := 15) rfl (fun h16 => ?_) (fun h16 => ?_)
    · have h16' := h16
      first | replace h16' := of_decide_eq_true h16' | replace h16' := bnT' h16' | skip
      refine L0 (wanted_yesB rfl rfl rfl h16) rfl (y_fieldAddr rfl Try.underlying56 rfl sz3 rfl) ?_
      refine L1 (wanted_yesB rfl rfl rfl h16) rfl hs15 (y_load 0 rfl Try.underlying3 rfl rfl rfl rfl) ?_
      refine L0 (wanted_yesB rfl rfl rfl h16) rfl (y_ge rfl rfl rfl) ?_
      refine L0 (wanted_none rfl) rfl (y_pickT rfl rfl h16 rfl) ?_
      refine L0 (wanted_none rfl) rfl (y_move (v := Value.bool _) rfl rfl) ?_
      refine Lsp (t := 20) rfl (fun h17 => ?_) (fun h17 => ?_)
      · have h17' := h17
        first | replace h17' := of_decide_eq_true h17' | replace h17' := bnT' h17' | skip
        refine L0 (wanted_yesB rfl rfl rfl h17) rfl (y_fieldAddr rfl Try.underlying56 rfl sz3 rfl) ?_
        refine L1 (wanted_yesB rfl rfl rfl h17) rfl hs15 (y_load 0 rfl Try.underlying3 rfl rfl rfl rfl) ?_
        refine L0 (wanted_yesB rfl rfl rfl h17) rfl (y_lt rfl rfl rfl) ?_
        refine L0 (wanted_none rfl) rfl (y_pickT rfl rfl h17 rfl) ?_
        refine Lnil ?_
        refine Wsp (t := 24) rfl (fun h18 => ?_) (fun h18 => ?_)
        · have h18' := h18
          first | replace h18' := of_decide_eq_true h18' | replace h18' := bnT' h18' | skip
          refine W_condT rfl h18 ?_
          have hcb := inT_len T (T.zn i) i
          refine W_region ?_
          refine L0 (wanted_none rfl) rfl (y_move (v := Value.slice _ _ _) rfl rfl) ?_
          refine L0 (wanted_none rfl) rfl (y_fieldAddr rfl Try.underlying56 rfl sz3 rfl) ?_
          refine L1 (wanted_none rfl) rfl hs15 (y_load 0 rfl Try.underlying3 rfl rfl rfl rfl) ?_
          refine L0 (wanted_none rfl) rfl (y_indexSl rfl Try.underlying34 sz3 rfl rfl (by omega) (by omega)) ?_
          refine L1 (wanted_none rfl) rfl hs15 (y_load 1 rfl Try.underlying3 rfl rfl rfl (lv_at T (by omega) (by omega))) ?_
          refine L0 (wanted_none rfl) rfl (y_add64 rfl rfl rfl (by omega)) ?_
          refine L0 (wanted_none rfl) rfl (y_indexSl rfl Try.underlying34 sz3 rfl rfl (by omega) (by omega)) ?_
          refine Lc (wanted_none rfl) (c_store (i := 1) (v := iv _) hs15 rfl rfl rfl rfl sz3 rfl rfl (by (show _ < (lv T i).length; simp [lv, lvI]; omega)) (Fz.zero _) (fun w19 hs20 => ?_))
          refine Lnil ?_
          refine W_region ?_
          refine L0 (wanted_none rfl) rfl (y_add64 rfl rfl rfl (by omega)) ?_
          refine L0 (wanted_none rfl) rfl (y_move (v := Value.int _ _) rfl rfl) ?_
          refine Lnil ?_
          exact ⟨i + 1, by first | omega | (dsimp only; done) | (dsimp only; omega), _, A_c (iv_eq (by first | omega | (dsimp only; done) | (dsimp only; omega))) (A_c rfl (A_c rfl (A_c rfl (rfl)))), by omega, by rw [lv_yes T (by assumption) (by omega) (by omega)]; exact hs20.drop (.inl hbb11)⟩
        · have h18' := h18
          first | replace h18' := of_decide_eq_false h18' | replace h18' := bnF' h18' | skip
          refine W_condF rfl h18 ?_
          refine W_skip ?_
          refine W_region ?_
          refine L0 (wanted_none rfl) rfl (y_add64 rfl rfl rfl (by omega)) ?_
          refine L0 (wanted_none rfl) rfl (y_move (v := Value.int _ _) rfl rfl) ?_
          refine Lnil ?_
          exact ⟨i + 1, by first | omega | (dsimp only; done) | (dsimp only; omega), _, A_c (iv_eq (by first | omega | (dsimp only; done) | (dsimp only; omega))) (A_c rfl (A_c rfl (A_c rfl (rfl)))), by omega, by rw [lv_no T (by first | exact .inl (by assumption) | exact .inr (.inl (by omega)) | exact .inr (.inr (by omega)))]; exact hs15.drop (.inl hbb11)⟩
      · have h17' := h17
        first | replace h17' := of_decide_eq_false h17' | replace h17' := bnF' h17' | skip
        refine Lno (wanted_noB rfl rfl rfl h17 (by decide)) rfl ?_
        refine Lno (wanted_noB rfl rfl rfl h17 (by decide)) rfl ?_
        refine Lno (wanted_noB rfl rfl rfl h17 (by decide)) rfl ?_
        refine L0 (wanted_none rfl) rfl (y_pickF rfl rfl h17 rfl) ?_
        refine Lnil ?_
        refine W_condF rfl rfl ?_
        refine W_skip ?_
        refine W_region ?_
        refine L0 (wanted_none rfl) rfl (y_add64 rfl rfl rfl (by omega)) ?_
        refine L0 (wanted_none rfl) rfl (y_move (v := Value.int _ _) rfl rfl) ?_
        refine Lnil ?_
        exact ⟨i + 1, by first | omega | (dsimp only; done) | (dsimp only; omega), _, A_c (iv_eq (by first | omega | (dsimp only; done) | (dsimp only; omega))) (A_c rfl (A_c rfl (A_c rfl (rfl)))), by omega, by rw [lv_no T (by first | exact .inl (by assumption) | exact .inr (.inl (by omega)) | exact .inr (.inr (by omega)))]; exact hs15.drop (.inl hbb11)⟩
    · have h16' := h16
      first | replace h16' := of_decide_eq_false h16' | replace h16' := bnF' h16' | skip
      refine Lno (wanted_noB rfl rfl rfl h16 (by decide)) rfl ?_
      refine Lno (wanted_noB rfl rfl rfl h16 (by decide)) rfl ?_
      refine Lno (wanted_noB rfl rfl rfl h16 (by decide)) rfl ?_
      refine L0 (wanted_none rfl) rfl (y_pickF rfl rfl h16 rfl) ?_
      refine L0 (wanted_none rfl) rfl (y_move (v := Value.bool _) rfl rfl) ?_
      refine Lno (wanted_noB rfl rfl rfl rfl (by decide)) rfl ?_
      refine Lno (wanted_noB rfl rfl rfl rfl (by decide)) rfl ?_
      refine Lno (wanted_noB rfl rfl rfl rfl (by decide)) rfl ?_
      refine L0 (wanted_none rfl) rfl (y_pickF rfl rfl (rfl : false = false) rfl) ?_
      refine Lnil ?_
      refine W_condF rfl rfl ?_
      refine W_skip ?_
      refine W_region ?_
      refine L0 (wanted_none rfl) rfl (y_add64 rfl rfl rfl (by omega)) ?_
      refine L0 (wanted_none rfl) rfl (y_move (v := Value.int _ _) rfl rfl) ?_
      refine Lnil ?_
      exact ⟨i + 1, by first | omega | (dsimp only; done) | (dsimp only; omega), _, A_c (iv_eq (by first | omega | (dsimp only; done) | (dsimp only; omega))) (A_c rfl (A_c rfl (A_c rfl (rfl)))), by omega, by rw [lv_no T (by first | exact .inl (by assumption) | exact .inr (.inl (by omega)) | exact .inr (.inr (by omega)))]; exact hs15.drop (.inl hbb11)⟩
  · have h10' := h10
    first | replace h10' := of_decide_eq_false h10' | replace h10' := bnF' h10' | skip
    refine W_condF rfl h10 ?_
    refine W_exit ?_
    refine W_seq ?_
    refine W_region ?_
    refine L0 (wanted_none rfl) rfl (y_move (v := Value.slice _ _ _) rfl rfl) ?_
    refine L0 (wanted_none rfl) rfl (y_assign (v := Value.slice _ _ _) rfl rfl) ?_
    refine Lnil ?_
    refine W_ret ?_
    refine fin1 (fn := Try.f34) rfl rfl ?_
    obtain rfl : i = 24 := by omega
    exact ⟨_, Row.of_block (xs := lv T 24) hbb5 (by simp [lv, lvI]), hs9.dropR (L := [_]) (by intro x hx; rw [List.mem_singleton.1 hx]; exact hbb2)⟩
theorem sameInts_eq (l : List Int) (va vb : Value) (hl : l.length ≤ 1000) (w : World) (hSa : Sl w va l.length (nums l)) (hSb : Sl w vb l.length (nums l)) :
    C Try.prog 33 ⟨[va, vb]⟩ w fun v w' => v = .bool true ∧ St w [] w' := by
  refine C_enter (n := 26) Try.func33 rfl rfl rfl (fun w1 hs1 => ?_)
  refine W_seq ?_
  refine W_region ?_
  refine L0 (wanted_none rfl) rfl (y_assign (v := Value.bool _) rfl rfl) ?_
  refine Lnil ?_
  refine W_seq ?_
  refine W_seq ?_
  refine W_region ?_
  refine L0 (wanted_none rfl) rfl (y_move (v := va) rfl rfl) ?_
  refine L0 (wanted_none rfl) rfl (y_slenSl rfl Try.underlying34 rfl hSa) ?_
  refine L0 (wanted_none rfl) rfl (y_move (v := vb) rfl rfl) ?_
  refine L0 (wanted_none rfl) rfl (y_slenSl rfl Try.underlying34 rfl hSb) ?_
  refine L0 (wanted_none rfl) rfl (y_ne rfl rfl rfl) ?_
  refine Lnil ?_
  refine Wkn (t := 10) (b0 := false) rfl (by first | exact decide_eq_false (by omega) | exact bnF (by omega) | (simp; omega)) (fun h2 => ?_)
  refine W_condF rfl h2 ?_
  refine W_skip ?_
  refine W_seq ?_
  refine W_seq ?_
  refine W_region ?_
  refine L0 (wanted_none rfl) rfl (y_assign (v := Value.int _ _) rfl rfl) ?_
  refine Lnil ?_
  refine W_block ?_
  refine W_loop (G := Nat) (fun i aL wl => ∃ e, aL = A 26 ((5, iv i) :: (0, va) :: (1, vb) :: e) ∧ i ≤ l.length ∧ St w [] wl) (fun i => l.length - i) (0) ?_ ?_
  · exact ⟨_, A_pins _ _ [5, 0, 1], Nat.zero_le _, hs1⟩
  rintro i _ w3 ⟨ehs4, rfl, hi, hs4⟩
  refine W_seq ?_
  refine W_seq ?_
  refine W_region ?_
  refine L0 (wanted_none rfl) rfl (y_move (v := Value.int _ _) rfl rfl) ?_
  refine L0 (wanted_none rfl) rfl (y_move (v := va) rfl rfl) ?_
  refine L0 (wanted_none rfl) rfl (y_slenSl rfl Try.underlying34 rfl hSa) ?_
  refine L0 (wanted_none rfl) rfl (y_lt rfl rfl rfl) ?_
  refine Lnil ?_
  refine Wsp (t := 14) rfl (fun h5 => ?_) (fun h5 => ?_)
  · have h5' := h5
    first | replace h5' := of_decide_eq_true h5' | replace h5' := bnT' h5' | skip
    refine W_condT rfl h5 ?_
    refine W_skip ?_
    refine W_seq ?_
    refine W_block ?_
    refine W_seq ?_
    refine W_drawSt [(0, 0), (0, 1), (0, 4), (0, 5), (0, 2), (0, 6), (1, 3), (1, 7), (0, 8)] hs4 mixed (by kernel_rfl) (fun w6 hs7 => ?_)
    refine E0 (wanted_none rfl) rfl (y_move (v := va) rfl rfl) ?_
    refine E0 (wanted_none rfl) rfl (y_move (v := Value.int _ _) rfl rfl) ?_
    refine E0 (wanted_none rfl) rfl (y_move (v := vb) rfl rfl) ?_
    refine E0 (wanted_none rfl) rfl (y_move (v := Value.int _ _) rfl rfl) ?_
    refine E0 (wanted_none rfl) rfl (y_indexSlAt rfl Try.underlying34 sz3 rfl rfl hSa (by omega) (by omega)) ?_
    refine E0 (wanted_none rfl) rfl (y_indexSlAt rfl Try.underlying34 sz3 rfl rfl hSb (by omega) (by omega)) ?_
    refine E1 hs7 (wanted_none rfl) rfl (y_loadSl i rfl Try.underlying3 rfl rfl hSa (by omega) (by omega) (by intro k hk; first | (simp [keys] at hk; done) | (simp [keys] at hk; omega))) ?_
    refine E1 hs7 (wanted_none rfl) rfl (y_loadSl i rfl Try.underlying3 rfl rfl hSb (by omega) (by omega) (by intro k hk; first | (simp [keys] at hk; done) | (simp [keys] at hk; omega))) ?_
    refine E0 (wanted_none rfl) rfl (y_ne rfl rfl rfl) ?_
    refine Enil ?_
    refine Wkn (t := 25) (b0 := false) rfl (by exact bnF rfl) (fun h8 => ?_)
    refine W_condF rfl h8 ?_
    refine W_skip ?_
    refine W_region ?_
    refine L0 (wanted_none rfl) rfl (y_move (v := Value.int _ _) rfl rfl) ?_
    refine L0 (wanted_none rfl) rfl (y_add64 rfl rfl rfl (by omega)) ?_
    refine L0 (wanted_none rfl) rfl (y_assign (v := Value.int _ _) rfl rfl) ?_
    refine Lnil ?_
    exact ⟨i + 1, by first | omega | (dsimp only; done) | (dsimp only; omega), _, A_c (iv_eq (by first | omega | (dsimp only; done) | (dsimp only; omega))) (A_c rfl (A_c rfl (rfl))), by omega, hs7⟩
  · have h5' := h5
    first | replace h5' := of_decide_eq_false h5' | replace h5' := bnF' h5' | skip
    refine W_condF rfl h5 ?_
    refine W_exit ?_
    refine W_seq ?_
    refine W_region ?_
    refine L0 (wanted_none rfl) rfl (y_assign (v := Value.bool _) rfl rfl) ?_
    refine Lnil ?_
    refine W_ret ?_
    refine fin1 (fn := Try.f33) rfl rfl ?_
    exact ⟨rfl, hs4⟩
def rlv (T : Tb) (i : Nat) : List Int := (List.range i).map fun z : Nat => ((inT T z 24).length : Int)
theorem rlv_len (T : Tb) (i : Nat) : (rlv T i).length = i := by simp [rlv]
theorem rlv_succ (T : Tb) (i : Nat) : rlv T (i + 1) = rlv T i ++ [((inT T i 24).length : Int)] := by simp [rlv, List.range_succ]
theorem rlive_any (T : Tb) (w : World) : C Try.prog 35 ⟨[.agg ⟨tbl T⟩]⟩ w fun v w' => (∃ ent, Row w.heap.size 3 1 v 8 ((lvI T 24).map iv) ent ∧ St w ent w') := by
  refine C_enter (n := 17) Try.func35 rfl rfl rfl (fun w1 hs1 => ?_)
  refine W_seq ?_
  refine W_region ?_
  refine Lc (wanted_none rfl) (c_box hs1 rfl rfl rfl (fun b2 w3 hbb2 hs4 => ?_))
  refine L0 (wanted_none rfl) rfl (y_assign (v := Value.slice _ _ _) rfl rfl) ?_
  refine Lnil ?_
  refine W_seq ?_
  refine W_region ?_
  refine L0 (wanted_none rfl) rfl (y_assign (v := Value.slice _ _ _) rfl rfl) ?_
  refine Lnil ?_
  refine W_seq ?_
  refine W_seq ?_
  refine W_region ?_
  refine L0 (wanted_none rfl) rfl (y_move (v := Value.int _ _) rfl rfl) ?_
  refine Lnil ?_
  refine W_block ?_
  refine W_loop (G := Nat × Value × Blocks) (fun g aL wl => ∃ e, aL = A 17 ((5, iv g.1) :: (1, pv b2 0) :: (3, g.2.1) :: e) ∧ g.1 ≤ 8 ∧ Row w.heap.size 3 1 g.2.1 g.1 ((rlv T g.1).map iv) g.2.2 ∧ St w ((b2, .cells ⟨tbl T⟩ 59 (0, 0)) :: g.2.2) wl) (fun g => 8 - g.1) ((0, .slice none 0 0, [])) ?_ ?_
  · exact ⟨_, A_pins _ _ [5, 1, 3], Nat.zero_le _, Row.nil _ _ _, hs4⟩
  rintro g _ w5 ⟨ehs6, rfl, hi, hrow, hs6⟩
  obtain ⟨i, vg, eg⟩ := g
  dsimp only at *
  refine W_seq ?_
  refine W_region ?_
  refine L0 (wanted_none rfl) rfl (y_lt rfl rfl rfl) ?_
  refine Lnil ?_
  refine W_seq ?_
  refine Wsp (t := 6) rfl (fun h7 => ?_) (fun h7 => ?_)
  · have h7' := h7
    first | replace h7' := of_decide_eq_true h7' | replace h7' := bnT' h7' | skip
    refine W_condT rfl h7 ?_
    refine W_skip ?_
    refine W_seq ?_
    refine W_block ?_
    refine W_seq ?_
    refine W_region ?_
    refine L0 (wanted_none rfl) rfl (y_move (v := Value.int _ _) rfl rfl) ?_
    refine L0 (wanted_none rfl) rfl (y_assign (v := Value.int _ _) rfl rfl) ?_
    refine Lnil ?_
    refine W_region ?_
    refine L0 (wanted_none rfl) rfl (y_move (v := vg) rfl rfl) ?_
    refine L1 (wanted_none rfl) rfl hs6 ((y_loadT 0 rfl rfl rfl)) ?_
    refine L0 (wanted_none rfl) rfl (y_move (v := Value.int _ _) rfl rfl) ?_
    refine Lc (wanted_none rfl) (c_call rfl rfl rfl Try.func37 (by kernel_rfl) rfl (rin_any T _ w5) rfl ?_)
    rintro v2 w8 ⟨e2, hrow2, hc9⟩
    have hrow2n := hrow2
    have hs10 := (hs6.call_new hc9 (row_keys hrow2n)).dropL (M := e2) (fun x hx => Nat.le_trans hs6.size (hrow2n.new x hx))
    refine L0 (wanted_none rfl) rfl (y_slenRow rfl Try.underlying34 rfl hrow2) ?_
    refine Lc (wanted_none rfl) (c_bs1 (v0 := iv _) hs10 rfl rfl Try.underlying34 sz3 zr3 rfl rfl (fun b11 w12 hbb11 hs13 => ?_))
    refine Lc (wanted_none rfl) (c_append (L0 := [(b2, .cells ⟨tbl T⟩ 59 (0, 0))]) (ent := eg) hs13 hbb11 rfl rfl Try.underlying34 sz3 zr3 by3 rfl (by decide) rfl hrow rfl (by decide) rfl (by simp [Value.oneCell']) (by omega) (by omega) (fun v14 ent15 w16 hrow' hs17 => ?_))
    have hrow := hrow'
    refine L0 (wanted_none rfl) rfl (y_assign (v := v14) rfl rfl) ?_
    refine Lnil ?_
    refine W_region ?_
    refine L0 (wanted_none rfl) rfl (y_add64 rfl rfl rfl (by omega)) ?_
    refine L0 (wanted_none rfl) rfl (y_move (v := Value.int _ _) rfl rfl) ?_
    refine Lnil ?_
    exact ⟨(i + 1, v14, ent15), by first | omega | (dsimp only; done) | (dsimp only; omega), _, A_c (iv_eq (by first | omega | (dsimp only; done) | (dsimp only; omega))) (A_c rfl (A_c rfl (rfl))), by first | omega | (dsimp only; done) | (dsimp only; omega), by (dsimp only); rw [rlv_succ, List.map_append]; exact hrow, hs17⟩
  · have h7' := h7
    first | replace h7' := of_decide_eq_false h7' | replace h7' := bnF' h7' | skip
    refine W_condF rfl h7 ?_
    refine W_exit ?_
    refine W_seq ?_
    refine W_region ?_
    refine L0 (wanted_none rfl) rfl (y_move (v := vg) rfl rfl) ?_
    refine L0 (wanted_none rfl) rfl (y_assign (v := vg) rfl rfl) ?_
    refine Lnil ?_
    refine W_ret ?_
    refine fin1 (fn := Try.f35) rfl rfl ?_
    obtain rfl : i = 8 := by omega
    exact ⟨_, hrow, hs6.drop (.inl hbb2)⟩
end Go.Proofs.Ytkolfgmpmnelmaa

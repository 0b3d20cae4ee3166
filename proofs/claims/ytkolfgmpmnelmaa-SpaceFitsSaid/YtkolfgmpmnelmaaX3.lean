/-
  Walks: the table's counts and lists; slices.Sort of what is in order already.
-/
import Derived.Test.YtkolfgmpmnelmaaX2
import Derived.Test.YtkolfgmpmnelmaaSq
namespace Go.Proofs.Ytkolfgmpmnelmaa
open Go Vx Go.Proofs
set_option linter.unusedVariables false
set_option maxRecDepth 4000
set_option maxHeartbeats 400000

theorem long_any (s : List UInt8) (w : World) : C Try.prog 53 ⟨[str s]⟩ w fun v w' => v = .bool (decide (60 < (s.length : Int))) ∧ St w [] w' := by
  refine C_enter (n := 6) Try.func53 rfl rfl rfl (fun w1 hs1 => ?_)
  refine W_seq ?_
  refine W_region ?_
  refine L0 (wanted_none rfl) rfl (y_assign (v := Value.bool _) rfl rfl) ?_
  refine Lnil ?_
  refine W_seq ?_
  refine W_region ?_
  refine L0 (wanted_none rfl) rfl (y_move (v := Value.string ⟨⟨_⟩⟩) rfl rfl) ?_
  refine L0 (wanted_none rfl) rfl (y_len rfl Try.underlying9 rfl) ?_
  refine L0 (wanted_none rfl) rfl (y_gt rfl rfl rfl) ?_
  refine L0 (wanted_none rfl) rfl (y_assign (v := Value.bool _) rfl rfl) ?_
  refine Lnil ?_
  refine W_ret ?_
  refine fin1 (fn := Try.f53) rfl rfl ?_
  exact ⟨rfl, hs1⟩
theorem longTable_any (T : Tb) (w : World) : C Try.prog 26 ⟨[.agg ⟨tbl T⟩]⟩ w fun v w' => (∃ b, v = .bool b) ∧ St w [] w' := by
  refine C_enter (n := 14) Try.func26 rfl rfl rfl (fun w1 hs1 => ?_)
  refine W_seq ?_
  refine W_region ?_
  refine Lc (wanted_none rfl) (c_box hs1 rfl rfl rfl (fun b2 w3 hbb2 hs4 => ?_))
  refine L0 (wanted_none rfl) rfl (y_assign (v := Value.bool _) rfl rfl) ?_
  refine Lnil ?_
  refine W_seq ?_
  refine W_seq ?_
  refine W_region ?_
  refine L0 (wanted_none rfl) rfl (y_assign (v := Value.int _ _) rfl rfl) ?_
  refine Lnil ?_
  refine W_block ?_
  refine W_loop (G := Nat) (fun i aL wl => ∃ e, aL = A 14 ((3, iv i) :: (1, pv b2 0) :: e) ∧ i ≤ 24 ∧ St w [(b2, .cells ⟨tbl T⟩ 59 (0, 0))] wl) (fun i => 24 - i) (0) ?_ ?_
  · exact ⟨_, A_pins _ _ [3, 1], by omega, hs4⟩
  rintro i _ w5 ⟨ehs6, rfl, hi, hs6⟩
  refine W_seq ?_
  refine W_seq ?_
  refine W_region ?_
  refine L0 (wanted_none rfl) rfl (y_move (v := Value.int _ _) rfl rfl) ?_
  refine L0 (wanted_none rfl) rfl (y_lt rfl rfl rfl) ?_
  refine Lnil ?_
  refine Wsp (t := 5) rfl (fun h7 => ?_) (fun h7 => ?_)
  · have h7' := h7
    first | replace h7' := of_decide_eq_true h7' | replace h7' := bnT' h7' | skip
    refine W_condT rfl h7 ?_
    refine W_skip ?_
    refine W_seq ?_
    refine W_block ?_
    refine W_seq ?_
    refine W_region ?_
    refine L0 (wanted_none rfl) rfl (y_move (v := Value.int _ _) rfl rfl) ?_
    refine L0 (wanted_none rfl) rfl (y_fieldAddr rfl Try.underlying59 rfl sz57 rfl) ?_
    refine L0 (wanted_none rfl) rfl (y_indexArr rfl Try.underlying57 sz56 rfl rfl (by omega) (by omega)) ?_
    refine L0 (wanted_none rfl) rfl (y_fieldAddr rfl Try.underlying56 rfl sz9 rfl) ?_
    refine L1 (wanted_none rfl) rfl hs6 (y_load 0 rfl Try.underlying9 rfl rfl rfl (tblG T (by omega))) ?_
    refine Lc (wanted_none rfl) (c_call rfl rfl rfl Try.func53 (by kernel_rfl) rfl (long_any _ w5) rfl ?_)
    rintro _ w8 ⟨rfl, hc9⟩
    have hs10 := hs6.call0 hc9
    refine Lnil ?_
    refine Wsp (t := 13) rfl (fun h11 => ?_) (fun h11 => ?_)
    · have h11' := h11
      first | replace h11' := of_decide_eq_true h11' | replace h11' := bnT' h11' | skip
      refine W_condT rfl h11 ?_
      refine W_seq ?_
      refine W_region ?_
      refine L0 (wanted_none rfl) rfl (y_assign (v := Value.bool _) rfl rfl) ?_
      refine Lnil ?_
      refine W_ret ?_
      refine fin1 (fn := Try.f26) rfl rfl ?_
      exact ⟨⟨_, rfl⟩, hs10.drop (.inl hbb2)⟩
    · have h11' := h11
      first | replace h11' := of_decide_eq_false h11' | replace h11' := bnF' h11' | skip
      refine W_condF rfl h11 ?_
      refine W_skip ?_
      refine W_region ?_
      refine L0 (wanted_none rfl) rfl (y_move (v := Value.int _ _) rfl rfl) ?_
      refine L0 (wanted_none rfl) rfl (y_add64 rfl rfl rfl (by omega)) ?_
      refine L0 (wanted_none rfl) rfl (y_assign (v := Value.int _ _) rfl rfl) ?_
      refine Lnil ?_
      exact ⟨i + 1, by first | omega | (dsimp only; done) | (dsimp only; omega), _, A_c (iv_eq (by first | omega | (dsimp only; done) | (dsimp only; omega))) (A_c rfl (rfl)), by omega, hs10⟩
  · have h7' := h7
    first | replace h7' := of_decide_eq_false h7' | replace h7' := bnF' h7' | skip
    refine W_condF rfl h7 ?_
    refine W_exit ?_
    refine W_seq ?_
    refine W_region ?_
    refine L0 (wanted_none rfl) rfl (y_assign (v := Value.bool _) rfl rfl) ?_
    refine Lnil ?_
    refine W_ret ?_
    refine fin1 (fn := Try.f26) rfl rfl ?_
    exact ⟨⟨_, rfl⟩, hs6.drop (.inl hbb2)⟩
def occ (T : Tb) (z : Int) (i : Nat) : Prop := T.tag i ≠ [] ∧ T.zn i = z
instance (T : Tb) (z : Int) (i : Nat) : Decidable (occ T z i) := by unfold occ; infer_instance
/-- The occupied cells of zone z, in order. -/
def inT (T : Tb) (z : Int) : Nat → List Int
  | 0 => []
  | i + 1 => if occ T z i then inT T z i ++ [(i : Int)] else inT T z i
theorem inT_yes {T : Tb} {z : Int} {i : Nat} (h : T.tag i ≠ []) (h2 : T.zn i = z) : inT T z (i + 1) = inT T z i ++ [(i : Int)] := by rw [inT, if_pos ⟨h, h2⟩]
theorem inT_no {T : Tb} {z : Int} {i : Nat} (h : ¬ occ T z i) : inT T z (i + 1) = inT T z i := by rw [inT, if_neg h]
theorem inT_mem (T : Tb) (z : Int) : ∀ (n : Nat) (x : Int), x ∈ inT T z n → 0 ≤ x ∧ x < n
  | 0, x, h => by cases h
  | n + 1, x, h => by
    rw [inT] at h
    split at h
    · rcases List.mem_append.1 h with h | h
      · have := inT_mem T z n x h; omega
      · have := List.mem_singleton.1 h; omega
    · have := inT_mem T z n x h; omega
theorem inT_sorted (T : Tb) (z : Int) : ∀ n : Nat, (inT T z n).Pairwise (fun a b => decide (a ≤ b) = true)
  | 0 => List.Pairwise.nil
  | n + 1 => by
    rw [inT]
    split
    · refine List.pairwise_append.2 ⟨inT_sorted T z n, List.pairwise_singleton _ _, fun a ha b hb => ?_⟩
      have := inT_mem T z n a ha; have := List.mem_singleton.1 hb; exact decide_eq_true (by omega)
    · exact inT_sorted T z n
theorem inT_len (T : Tb) (z : Int) : ∀ n : Nat, (inT T z n).length ≤ n
  | 0 => Nat.le_refl _
  | n + 1 => by
    have := inT_len T z n
    rw [inT]; split
    · rw [List.length_append]; simp; omega
    · omega
theorem inT_sortedN (T : Tb) (z : Int) (n j k : Nat) (hj : j ≤ k) (hk : k < (inT T z n).length) : (inT T z n).getD j 0 ≤ (inT T z n).getD k 0 := by
  have h := inT_sorted T z n
  rw [List.getD_eq_getElem?_getD, List.getD_eq_getElem?_getD, List.getElem?_eq_getElem hk, List.getElem?_eq_getElem (by omega)]
  rcases Nat.lt_or_ge j k with h' | h'
  · exact of_decide_eq_true (List.pairwise_iff_getElem.1 h j k (by omega) hk h')
  · obtain rfl : j = k := by omega
    exact Int.le_refl _
theorem occ_no {T : Tb} {z : Int} {i : Nat} (h : T.tag i = [] ∨ T.zn i ≠ z) : ¬ occ T z i := by
  rintro ⟨h1, h2⟩; rcases h with h | h
  · exact h1 h
  · exact h h2
/-! sort -/
theorem mergeSort_inT (T : Tb) (z : Int) (n : Nat) : (inT T z n).mergeSort (fun x y => decide (x ≤ y)) = inT T z n :=
  List.mergeSort_of_pairwise (inT_sorted T z n)
theorem putCells_id {c : Array Value} {zs : List Int} (h : c.toList.take zs.length = zs.map iv) : Go.Sort.putCells (Value.int .i64) 0 zs.toArray c = c := by
  apply Array.ext_getElem?
  intro k
  simp only [Go.Sort.putCells, Array.getElem?_mapIdx, Nat.zero_le, true_and, Nat.zero_add, List.size_toArray, Nat.sub_zero]
  rcases Nat.lt_or_ge k zs.length with hk | hk
  · have h9 : (c.toList.take zs.length)[k]? = c[k]? := by rw [List.getElem?_take_of_lt hk]; simp
    rw [← h9, h, List.getElem?_map, List.getElem?_eq_getElem hk]
    simp only [Option.map_some, if_pos hk]
    congr 2
    simp [hk]
  · cases c[k]? with
    | none => rfl
    | some y => simp only [Option.map_some, if_neg (Nat.not_lt.2 hk)]
theorem sort_any (zs : List Int) (hsz : zs.length ≤ 1000) (hsrt : zs.mergeSort (fun x y => decide (x ≤ y)) = zs) {w0 w : World} {L : Blocks} {E m B : Nat} {v : Value} {ent : Blocks} (hr : Row B E 1 v m (zs.map iv) ent) (hs : St w0 L w) (hin : ∀ x ∈ ent, x ∈ L) :
    C Try.prog 54 ⟨[v]⟩ w fun r w' => r = .tuple #[] ∧ St w [] w' := by
  have hl : zs.length = m := by have := hr.1; simpa using this
  rcases hr.2 with ⟨rfl, rfl, _⟩ | ⟨g, cap, cur, fz, rfl, rfl, h3, h4, h5, h6, h7, h8⟩
  · refine Calls.mono (Try.slices_Sort_int_none none 0 w) fun e w' ⟨he, hb⟩ => ⟨_, he, rfl, ?_⟩
    subst hb; exact St.init _
  · have hg := hs.has (g, .cells cur E fz) (hin _ (by simp))
    rw [Nat.mul_one] at h7 h6
    rw [← hl] at h7
    · have hH : Go.Sort.Holds (Value.int .i64) w g 0 zs.toArray := fun j hj => by
        have hj' : j < zs.length := by simpa using hj
        refine ⟨?_, ?_⟩
        · rw [Nat.zero_add, cell_of_has hg]
          have h9 : (cur.toList.take zs.length)[j]? = cur[j]? := by rw [List.getElem?_take_of_lt hj']; simp
          rw [← h9, h7, List.getElem?_map, List.getElem?_eq_getElem hj']
          simp [hj']
        · rw [Nat.zero_add]; exact frozen_of_has hg h8 (by omega)
      rw [← hl]
      refine Calls.mono (Try.slices_Sort_int g 0 cap zs w hH (lt_of_has hg) (by omega)) fun e w' ⟨he, n, os, hb⟩ => ⟨_, he, rfl, ?_⟩
      rw [hsrt] at hb
      have hheap : w'.heap = w.heap ++ os := by
        rw [hb]
        show (w.heap.modify g _) ++ os = _
        congr 1
        apply Array.ext_getElem?
        intro k
        rw [Array.getElem?_modify]
        by_cases hk : g = k
        · subst hk
          rw [if_pos rfl, hg]
          simp only [Option.map_some, Go.Sort.onCells, putCells_id h7]
        · rw [if_neg hk]
      refine ⟨by rw [hb]; rfl, by rw [hb]; rfl, by rw [hb]; rfl, by rw [hheap]; simp, (fun _ h => by cases h), List.nodup_nil, fun b hb' _ => ?_⟩
      rw [hheap, Array.getElem?_append, if_pos hb']
/-! the lists -/
theorem in_any (T : Tb) (z : Int) (w : World) : C Try.prog 36 ⟨[.agg ⟨tbl T⟩, iv z]⟩ w fun v w' => (∃ ent, Row w.heap.size 3 1 v (inT T z 24).length ((inT T z 24).map iv) ent ∧ St w ent w') := by
  refine C_enter (n := 33) Try.func36 rfl rfl rfl (fun w1 hs1 => ?_)
  refine W_seq ?_
  refine W_region ?_
  refine Lc (wanted_none rfl) (c_box hs1 rfl rfl rfl (fun b2 w3 hbb2 hs4 => ?_))
  refine L0 (wanted_none rfl) rfl (y_assign (v := Value.slice _ _ _) rfl rfl) ?_
  refine Lnil ?_
  refine W_seq ?_
  refine W_region ?_
  refine L0 (wanted_none rfl) rfl (y_assign (v := Value.slice _ _ _) rfl rfl) ?_
  refine Lnil ?_
  refine W_seq ?_
  refine W_seq ?_
  refine W_region ?_
  refine L0 (wanted_none rfl) rfl (y_move (v := Value.int _ _) rfl rfl) ?_
  refine Lnil ?_
  refine W_block ?_
  refine W_loop (G := Nat × Value × Blocks) (fun g aL wl => ∃ e, aL = A 33 ((7, iv g.1) :: (2, pv b2 0) :: (1, iv z) :: (5, g.2.1) :: e) ∧ g.1 ≤ 24 ∧ Row w.heap.size 3 1 g.2.1 (inT T z g.1).length ((inT T z g.1).map iv) g.2.2 ∧ St w ((b2, .cells ⟨tbl T⟩ 59 (0, 0)) :: g.2.2) wl) (fun g => 24 - g.1) ((0, .slice none 0 0, [])) ?_ ?_
  · exact ⟨_, A_pins _ _ [7, 2, 1, 5], Nat.zero_le _, Row.nil _ _ _, hs4⟩
  rintro g _ w5 ⟨ehs6, rfl, hi, hrow, hs6⟩
  obtain ⟨i, vg, eg⟩ := g
  dsimp only at *
  refine W_seq ?_
  refine W_region ?_
  refine L0 (wanted_none rfl) rfl (y_lt rfl rfl rfl) ?_
  refine Lnil ?_
  refine W_seq ?_
  refine Wsp (t := 8) rfl (fun h7 => ?_) (fun h7 => ?_)
  · have h7' := h7
    first | replace h7' := of_decide_eq_true h7' | replace h7' := bnT' h7' | skip
    refine W_condT rfl h7 ?_
    refine W_skip ?_
    refine W_seq ?_
    refine W_block ?_
    refine W_seq ?_
    refine W_region ?_
    refine L0 (wanted_none rfl) rfl (y_move (v := Value.int _ _) rfl rfl) ?_
    refine L0 (wanted_none rfl) rfl (y_assign (v := Value.int _ _) rfl rfl) ?_
    refine Lnil ?_
    refine W_seq ?_
    refine W_region ?_
    refine L0 (wanted_none rfl) rfl (y_move (v := Value.int _ _) rfl rfl) ?_
    refine L0 (wanted_none rfl) rfl (y_fieldAddr rfl Try.underlying59 rfl sz57 rfl) ?_
    refine L0 (wanted_none rfl) rfl (y_indexArr rfl Try.underlying57 sz56 rfl rfl (by omega) (by omega)) ?_
    refine L0 (wanted_none rfl) rfl (y_fieldAddr rfl Try.underlying56 rfl sz9 rfl) ?_
    refine L1 (wanted_none rfl) rfl hs6 (y_load 0 rfl Try.underlying9 rfl rfl rfl (tblG T (by omega))) ?_
    refine L0 (wanted_none rfl) rfl (y_sne rfl rfl rfl) ?_
    refine L0 (wanted_none rfl) rfl (y_move (v := Value.bool _) rfl rfl) ?_
    refine Lsp (t := 16) rfl (fun h8 => ?_) (fun h8 => ?_)
    · have h8' := h8
      first | replace h8' := of_decide_eq_true h8' | replace h8' := bnT' h8' | skip
      refine L0 (wanted_yesB rfl rfl rfl h8) rfl (y_move (v := Value.int _ _) rfl rfl) ?_
      refine L0 (wanted_yesB rfl rfl rfl h8) rfl (y_fieldAddr rfl Try.underlying59 rfl sz57 rfl) ?_
      refine L0 (wanted_yesB rfl rfl rfl h8) rfl (y_indexArr rfl Try.underlying57 sz56 rfl rfl (by omega) (by omega)) ?_
      refine L0 (wanted_yesB rfl rfl rfl h8) rfl (y_fieldAddr rfl Try.underlying56 rfl sz3 rfl) ?_
      refine L1 (wanted_yesB rfl rfl rfl h8) rfl hs6 (y_load 0 rfl Try.underlying3 rfl rfl rfl (tblZ T (by omega))) ?_
      refine L0 (wanted_yesB rfl rfl rfl h8) rfl (y_move (v := Value.int _ _) rfl rfl) ?_
      refine L0 (wanted_yesB rfl rfl rfl h8) rfl (y_eq rfl rfl rfl) ?_
      refine L0 (wanted_none rfl) rfl (y_pickT rfl rfl h8 rfl) ?_
      refine Lnil ?_
      refine Wsp (t := 24) rfl (fun h9 => ?_) (fun h9 => ?_)
      · have h9' := h9
        first | replace h9' := of_decide_eq_true h9' | replace h9' := bnT' h9' | skip
        refine W_condT rfl h9 ?_
        refine W_region ?_
        refine L0 (wanted_none rfl) rfl (y_move (v := vg) rfl rfl) ?_
        refine L0 (wanted_none rfl) rfl (y_move (v := Value.int _ _) rfl rfl) ?_
        refine Lc (wanted_none rfl) (c_bs1 (v0 := iv _) hs6 rfl rfl Try.underlying34 sz3 zr3 rfl rfl (fun b10 w11 hbb10 hs12 => ?_))
        refine Lc (wanted_none rfl) (c_append (L0 := [(b2, .cells ⟨tbl T⟩ 59 (0, 0))]) (ent := eg) hs12 hbb10 rfl rfl Try.underlying34 sz3 zr3 by3 rfl (by decide) rfl hrow rfl (by decide) rfl (by simp [Value.oneCell']) (by have := inT_len T z i; omega) (by have := inT_len T z i; omega) (fun v13 ent14 w15 hrow' hs16 => ?_))
        have hrow := hrow'
        refine L0 (wanted_none rfl) rfl (y_assign (v := v13) rfl rfl) ?_
        refine Lnil ?_
        refine W_region ?_
        refine L0 (wanted_none rfl) rfl (y_add64 rfl rfl rfl (by omega)) ?_
        refine L0 (wanted_none rfl) rfl (y_move (v := Value.int _ _) rfl rfl) ?_
        refine Lnil ?_
        exact ⟨(i + 1, v13, ent14), by first | omega | (dsimp only; done) | (dsimp only; omega), _, A_c (iv_eq (by first | omega | (dsimp only; done) | (dsimp only; omega))) (A_c rfl (A_c rfl (A_c rfl (rfl)))), by first | omega | (dsimp only; done) | (dsimp only; omega), by (dsimp only); rw [inT_yes (by assumption) (by omega)]; rw [List.map_append, List.length_append]; exact hrow, hs16⟩
      · have h9' := h9
        first | replace h9' := of_decide_eq_false h9' | replace h9' := bnF' h9' | skip
        refine W_condF rfl h9 ?_
        refine W_skip ?_
        refine W_region ?_
        refine L0 (wanted_none rfl) rfl (y_add64 rfl rfl rfl (by omega)) ?_
        refine L0 (wanted_none rfl) rfl (y_move (v := Value.int _ _) rfl rfl) ?_
        refine Lnil ?_
        exact ⟨(i + 1, vg, eg), by first | omega | (dsimp only; done) | (dsimp only; omega), _, A_c (iv_eq (by first | omega | (dsimp only; done) | (dsimp only; omega))) (A_c rfl (A_c rfl (A_c rfl (rfl)))), by first | omega | (dsimp only; done) | (dsimp only; omega), by (dsimp only); rw [inT_no (occ_no (by first | exact .inl (by assumption) | exact .inr (by omega)))]; exact hrow, hs6⟩
    · have h8' := h8
      first | replace h8' := of_decide_eq_false h8' | replace h8' := bnF' h8' | skip
      refine Lno (wanted_noB rfl rfl rfl h8 (by decide)) rfl ?_
      refine Lno (wanted_noB rfl rfl rfl h8 (by decide)) rfl ?_
      refine Lno (wanted_noB rfl rfl rfl h8 (by decide)) rfl ?_
      refine Lno (wanted_noB rfl rfl rfl h8 (by decide)) rfl ?_
      refine Lno (wanted_noB rfl rfl rfl h8 (by decide)) rfl ?_
      refine Lno (wanted_noB rfl rfl rfl h8 (by decide)) rfl ?_
      refine Lno (wanted_noB rfl rfl rfl h8 (by decide)) rfl ?_
      refine L0 (wanted_none rfl) rfl (y_pickF rfl rfl h8 rfl) ?_
      refine Lnil ?_
      refine W_condF rfl rfl ?_
      refine W_skip ?_
      refine W_region ?_
      refine L0 (wanted_none rfl) rfl (y_add64 rfl rfl rfl (by omega)) ?_
      refine L0 (wanted_none rfl) rfl (y_move (v := Value.int _ _) rfl rfl) ?_
      refine Lnil ?_
      exact ⟨(i + 1, vg, eg), by first | omega | (dsimp only; done) | (dsimp only; omega), _, A_c (iv_eq (by first | omega | (dsimp only; done) | (dsimp only; omega))) (A_c rfl (A_c rfl (A_c rfl (rfl)))), by first | omega | (dsimp only; done) | (dsimp only; omega), by (dsimp only); rw [inT_no (occ_no (by first | exact .inl (by assumption) | exact .inr (by omega)))]; exact hrow, hs6⟩
  · have h7' := h7
    first | replace h7' := of_decide_eq_false h7' | replace h7' := bnF' h7' | skip
    refine W_condF rfl h7 ?_
    refine W_exit ?_
    refine W_seq ?_
    obtain rfl : i = 24 := by omega
    refine W_region ?_
    refine L0 (wanted_none rfl) rfl (y_move (v := vg) rfl rfl) ?_
    refine Lc (wanted_none rfl) (c_call rfl rfl rfl Try.func54 (by kernel_rfl) rfl (sort_any (inT T z 24) (by have := inT_len T z 24; omega) (mergeSort_inT T z 24) hrow hs6 (fun x hx => List.mem_cons_of_mem _ hx)) rfl ?_)
    rintro _ w17 ⟨rfl, hc18⟩
    have hs19 := hs6.call0 hc18
    refine Lnil ?_
    refine W_seq ?_
    refine W_region ?_
    refine L0 (wanted_none rfl) rfl (y_move (v := vg) rfl rfl) ?_
    refine L0 (wanted_none rfl) rfl (y_assign (v := vg) rfl rfl) ?_
    refine Lnil ?_
    refine W_ret ?_
    refine fin1 (fn := Try.f36) rfl rfl ?_
    exact ⟨_, hrow, hs19.drop (.inl hbb2)⟩
theorem cells_at (T : Tb) {i : Nat} (h : i < 24) : ((cellsT T 24).drop ((i : Int).toNat * 3)).take 3 = [iv (T.zn i), iv (T.off i), str (T.tag i)] := by
  rw [Int.toNat_natCast, Nat.mul_comm, cellsT_drop T 24 i h]
theorem cells_le (T : Tb) {i : Nat} (h : i < 24) : (i : Int).toNat * 3 + 3 ≤ (cellsT T 24).length := by rw [cellsT_len]; simp; omega
theorem y_loadC {n : Nat} {e : Env} {o : Oper} {x : Operand} {w0 : World} {L : Blocks} {b : Nat} {T : Tb} (i : Nat) (ho : o.op = .load 57 x) (hx : opv n e x = pv b 1) (hi : L[i]? = some (b, .cells ⟨tbl T⟩ 59 (0, 0))) : Y1 Try.prog n e o (St w0 L) (.agg ⟨cellsT T 24⟩) := by
  have h := y_loadN (P := Try.prog) (n := n) (e := e) (w0 := w0) i ho Try.underlying57 rfl sz57 hx hi (by show 1 + 72 ≤ (tbl T).length; rw [tbl_len]; decide)
  have e2 : (((⟨tbl T⟩ : Array Value).toList.drop 1).take 72) = cellsT T 24 := by
    rw [show ((⟨tbl T⟩ : Array Value).toList.drop 1) = cellsT T 24 from rfl, List.take_of_length_le (by rw [cellsT_len]; exact Nat.le_refl _)]
  rw [e2] at h; exact h
theorem rin_any (T : Tb) (z : Int) (w : World) : C Try.prog 37 ⟨[.agg ⟨tbl T⟩, iv z]⟩ w fun v w' => (∃ ent, Row w.heap.size 3 1 v (inT T z 24).length ((inT T z 24).map iv) ent ∧ St w ent w') := by
  refine C_enter (n := 29) Try.func37 rfl rfl rfl (fun w1 hs1 => ?_)
  refine W_seq ?_
  refine W_region ?_
  refine Lc (wanted_none rfl) (c_box hs1 rfl rfl rfl (fun b2 w3 hbb2 hs4 => ?_))
  refine L0 (wanted_none rfl) rfl (y_assign (v := Value.slice _ _ _) rfl rfl) ?_
  refine Lnil ?_
  refine W_seq ?_
  refine W_region ?_
  refine L0 (wanted_none rfl) rfl (y_assign (v := Value.slice _ _ _) rfl rfl) ?_
  refine Lnil ?_
  refine W_seq ?_
  refine W_seq ?_
  refine W_region ?_
  refine L0 (wanted_none rfl) rfl (y_fieldAddr rfl Try.underlying59 rfl sz57 rfl) ?_
  refine L1 (wanted_none rfl) rfl hs4 ((y_loadC 0 rfl rfl rfl)) ?_
  refine L0 (wanted_none rfl) rfl (y_move (v := Value.int _ _) rfl rfl) ?_
  refine Lnil ?_
  refine W_block ?_
  refine W_loop (G := Nat × Value × Blocks) (fun g aL wl => ∃ e, aL = A 29 ((10, iv g.1) :: (2, pv b2 0) :: (1, iv z) :: (9, .agg ⟨cellsT T 24⟩) :: (5, g.2.1) :: e) ∧ g.1 ≤ 24 ∧ Row w.heap.size 3 1 g.2.1 (inT T z g.1).length ((inT T z g.1).map iv) g.2.2 ∧ St w ((b2, .cells ⟨tbl T⟩ 59 (0, 0)) :: g.2.2) wl) (fun g => 24 - g.1) ((0, .slice none 0 0, [])) ?_ ?_
  · exact ⟨_, A_pins _ _ [10, 2, 1, 9, 5], Nat.zero_le _, Row.nil _ _ _, hs4⟩
  rintro g _ w5 ⟨ehs6, rfl, hi, hrow, hs6⟩
  obtain ⟨i, vg, eg⟩ := g
  dsimp only at *
  refine W_seq ?_
  refine W_region ?_
  refine L0 (wanted_none rfl) rfl (y_lt rfl rfl rfl) ?_
  refine Lnil ?_
  refine W_seq ?_
  refine Wsp (t := 11) rfl (fun h7 => ?_) (fun h7 => ?_)
  · have h7' := h7
    first | replace h7' := of_decide_eq_true h7' | replace h7' := bnT' h7' | skip
    refine W_condT rfl h7 ?_
    refine W_skip ?_
    refine W_seq ?_
    refine W_block ?_
    refine W_seq ?_
    refine W_region ?_
    refine L0 (wanted_none rfl) rfl (y_move (v := Value.int _ _) rfl rfl) ?_
    refine L0 (wanted_none rfl) rfl (y_iarrN rfl Try.underlying57 Try.underlying56 rfl sz56 rfl rfl (by omega) (by omega) (cells_le T (by omega)) (cells_at T (by omega))) ?_
    refine Lc (wanted_none rfl) (c_alloc hs6 rfl rfl zr56 (fun b8 w9 hbb8 hs10 => ?_))
    refine L0 (wanted_none rfl) rfl (y_assign (v := Value.int _ _) rfl rfl) ?_
    refine Lc (wanted_none rfl) (c_storeN (i := 0) hs10 rfl rfl rfl rfl sz56 (by rfl) (by simp [Value.oneCell']) rfl (by decide) (Fz.zero _) (fun w11 hs12 => ?_))
    refine Lnil ?_
    refine W_seq ?_
    refine W_region ?_
    refine L0 (wanted_none rfl) rfl (y_fieldAddr rfl Try.underlying56 rfl sz9 rfl) ?_
    refine L1 (wanted_none rfl) rfl hs12 (y_load 0 rfl Try.underlying9 rfl rfl rfl rfl) ?_
    refine L0 (wanted_none rfl) rfl (y_sne rfl rfl rfl) ?_
    refine L0 (wanted_none rfl) rfl (y_move (v := Value.bool _) rfl rfl) ?_
    refine Lsp (t := 17) rfl (fun h13 => ?_) (fun h13 => ?_)
    · have h13' := h13
      first | replace h13' := of_decide_eq_true h13' | replace h13' := bnT' h13' | skip
      refine L0 (wanted_yesB rfl rfl rfl h13) rfl (y_fieldAddr rfl Try.underlying56 rfl sz3 rfl) ?_
      refine L1 (wanted_yesB rfl rfl rfl h13) rfl hs12 (y_load 0 rfl Try.underlying3 rfl rfl rfl rfl) ?_
      refine L0 (wanted_yesB rfl rfl rfl h13) rfl (y_move (v := Value.int _ _) rfl rfl) ?_
      refine L0 (wanted_yesB rfl rfl rfl h13) rfl (y_eq rfl rfl rfl) ?_
      refine L0 (wanted_none rfl) rfl (y_pickT rfl rfl h13 rfl) ?_
      refine Lnil ?_
      refine Wsp (t := 22) rfl (fun h14 => ?_) (fun h14 => ?_)
      · have h14' := h14
        first | replace h14' := of_decide_eq_true h14' | replace h14' := bnT' h14' | skip
        refine W_condT rfl h14 ?_
        refine W_region ?_
        refine L0 (wanted_none rfl) rfl (y_move (v := vg) rfl rfl) ?_
        refine L0 (wanted_none rfl) rfl (y_move (v := Value.int _ _) rfl rfl) ?_
        refine Lc (wanted_none rfl) (c_bs1 (v0 := iv _) hs12 rfl rfl Try.underlying34 sz3 zr3 rfl rfl (fun b15 w16 hbb15 hs17 => ?_))
        refine Lc (wanted_none rfl) (c_append (L0 := [(b8, .cells ⟨[iv (T.zn i), iv (T.off i), str (T.tag i)]⟩ 56 (0, 0)), (b2, .cells ⟨tbl T⟩ 59 (0, 0))]) (ent := eg) hs17 hbb15 rfl rfl Try.underlying34 sz3 zr3 by3 rfl (by decide) rfl hrow rfl (by decide) rfl (by simp [Value.oneCell']) (by have := inT_len T z i; omega) (by have := inT_len T z i; omega) (fun v18 ent19 w20 hrow' hs21 => ?_))
        have hrow := hrow'
        refine L0 (wanted_none rfl) rfl (y_assign (v := v18) rfl rfl) ?_
        refine Lnil ?_
        refine W_region ?_
        refine L0 (wanted_none rfl) rfl (y_add64 rfl rfl rfl (by omega)) ?_
        refine L0 (wanted_none rfl) rfl (y_move (v := Value.int _ _) rfl rfl) ?_
        refine Lnil ?_
        exact ⟨(i + 1, v18, ent19), by first | omega | (dsimp only; done) | (dsimp only; omega), _, A_c (iv_eq (by first | omega | (dsimp only; done) | (dsimp only; omega))) (A_c rfl (A_c rfl (A_c rfl (A_c rfl (rfl))))), by first | omega | (dsimp only; done) | (dsimp only; omega), by (dsimp only); rw [inT_yes (by assumption) (by omega)]; rw [List.map_append, List.length_append]; exact hrow, hs21.drop (.inl hbb8)⟩
      · have h14' := h14
        first | replace h14' := of_decide_eq_false h14' | replace h14' := bnF' h14' | skip
        refine W_condF rfl h14 ?_
        refine W_skip ?_
        refine W_region ?_
        refine L0 (wanted_none rfl) rfl (y_add64 rfl rfl rfl (by omega)) ?_
        refine L0 (wanted_none rfl) rfl (y_move (v := Value.int _ _) rfl rfl) ?_
        refine Lnil ?_
        exact ⟨(i + 1, vg, eg), by first | omega | (dsimp only; done) | (dsimp only; omega), _, A_c (iv_eq (by first | omega | (dsimp only; done) | (dsimp only; omega))) (A_c rfl (A_c rfl (A_c rfl (A_c rfl (rfl))))), by first | omega | (dsimp only; done) | (dsimp only; omega), by (dsimp only); rw [inT_no (occ_no (by first | exact .inl (by assumption) | exact .inr (by omega)))]; exact hrow, hs12.drop (.inl hbb8)⟩
    · have h13' := h13
      first | replace h13' := of_decide_eq_false h13' | replace h13' := bnF' h13' | skip
      refine Lno (wanted_noB rfl rfl rfl h13 (by decide)) rfl ?_
      refine Lno (wanted_noB rfl rfl rfl h13 (by decide)) rfl ?_
      refine Lno (wanted_noB rfl rfl rfl h13 (by decide)) rfl ?_
      refine Lno (wanted_noB rfl rfl rfl h13 (by decide)) rfl ?_
      refine L0 (wanted_none rfl) rfl (y_pickF rfl rfl h13 rfl) ?_
      refine Lnil ?_
      refine W_condF rfl rfl ?_
      refine W_skip ?_
      refine W_region ?_
      refine L0 (wanted_none rfl) rfl (y_add64 rfl rfl rfl (by omega)) ?_
      refine L0 (wanted_none rfl) rfl (y_move (v := Value.int _ _) rfl rfl) ?_
      refine Lnil ?_
      exact ⟨(i + 1, vg, eg), by first | omega | (dsimp only; done) | (dsimp only; omega), _, A_c (iv_eq (by first | omega | (dsimp only; done) | (dsimp only; omega))) (A_c rfl (A_c rfl (A_c rfl (A_c rfl (rfl))))), by first | omega | (dsimp only; done) | (dsimp only; omega), by (dsimp only); rw [inT_no (occ_no (by first | exact .inl (by assumption) | exact .inr (by omega)))]; exact hrow, hs12.drop (.inl hbb8)⟩
  · have h7' := h7
    first | replace h7' := of_decide_eq_false h7' | replace h7' := bnF' h7' | skip
    refine W_condF rfl h7 ?_
    refine W_exit ?_
    refine W_seq ?_
    obtain rfl : i = 24 := by omega
    refine W_region ?_
    refine L0 (wanted_none rfl) rfl (y_move (v := vg) rfl rfl) ?_
    refine L0 (wanted_none rfl) rfl (y_assign (v := vg) rfl rfl) ?_
    refine Lnil ?_
    refine W_ret ?_
    refine fin1 (fn := Try.f37) rfl rfl ?_
    exact ⟨_, hrow, hs6.drop (.inl hbb2)⟩
end Go.Proofs.Ytkolfgmpmnelmaa

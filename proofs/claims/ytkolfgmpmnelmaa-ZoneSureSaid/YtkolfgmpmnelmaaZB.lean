/-
  Walk: keep.ZoneSure, and its plain law.
-/
import Derived.Test.YtkolfgmpmnelmaaZA
namespace Go.Proofs.Ytkolfgmpmnelmaa
open Go Vx Go.Proofs
set_option linter.unusedVariables false
set_option maxRecDepth 8000
set_option maxHeartbeats 1000000

theorem keepK {w w' : World} {K L' : Blocks} {v : Value} {m : Nat} {f : Nat → Value} (hS : Sl w v m f) (h : St w (K ++ L') w') (hK : ∀ x ∈ K, w.heap.size ≤ x.1) (hL : ∀ x ∈ L', w.heap.size ≤ x.1) : Sl w' v m f :=
  hS.keep h (fun k hk => by
    obtain ⟨x, hx, rfl⟩ := List.mem_map.1 hk
    exact (List.mem_append.1 hx).elim (hK x) (hL x))
theorem Vx.Sl.one {w : World} {v : Value} {m : Nat} {f : Nat → Value} (h : Sl w v m f) : v.oneCell' = true := by
  obtain ⟨a, cap, h1, _⟩ := h.shape
  rw [h1]; rfl
theorem sureF_lt {z : Nat → List (List UInt8)} {sure : Nat → Nat} {k j : Nat} (h : j < k) : sureF z sure k j = (z j).length := if_pos h
theorem cr_all {D : Dv} {keep : List Int} {j : Nat} (h : D.sure j = (D.z j).length) : crN D keep j = (D.z j).length := by unfold crN; omega
theorem crZ_all {D : Dv} {keep : List Int} {j : Nat} (hj : j < 8) (h : D.sure j = (D.z j).length) : crZ D keep 8 j = D.z j := by
  rw [crZ, if_pos hj, cr_all h, List.take_length]
theorem crS_all {D : Dv} {keep : List Int} {j : Nat} (hj : j < 8) (h : D.sure j = (D.z j).length) : crS D keep 8 j = (D.z j).length := by
  rw [crS, if_pos hj, cr_all h]
theorem imZ_all {D : Dv} {j : Nat} (hj : j < 8) (h : D.sure j = (D.z j).length) : imZ D 8 j = D.z j := by rw [imZ, if_pos hj, h, List.take_length]
theorem alike_eq {slot slot' : Nat → List UInt8} (e : slot' = slot) (vs1 vs2 : Nat → Value) (z : Nat → List (List UInt8)) (w : World) (hl : ∀ j, j < 8 → (z j).length ≤ 1000) (h1 : ∀ j, j < 8 → Sl w (vs1 j) (z j).length (zstrs (z j))) (h2 : ∀ j, j < 8 → Sl w (vs2 j) (z j).length (zstrs (z j))) :
    C Try.prog 23 ⟨[.agg ⟨icells vs1 slot'⟩, .agg ⟨icells vs2 slot⟩]⟩ w fun v w' => v = .bool true ∧ St w [] w' := by
  subst e; exact alike_any vs1 vs2 slot' z w hl h1 h2
theorem pool_step {pool eR : Blocks} {vals : List Value} {i : Nat} {vR : Value} {z : Nat → List (List UInt8)} (h : ∀ j, j < i → RowIn pool (vals.getD j .nilIface) (z j)) (hl : vals.length = i) (hr : RowIn eR vR (z i)) : ∀ j, j < i + 1 → RowIn (eR ++ pool) ((vals ++ [vR]).getD j .nilIface) (z j) := fun j hj => by
  rw [List.getD_eq_getElem?_getD]
  by_cases e : j = i
  · subst e
    rw [← hl] at hr ⊢
    simpa using hr.mono (fun x hx => List.mem_append_left _ hx)
  · rw [List.getElem?_append_left (by omega), ← List.getD_eq_getElem?_getD]
    exact (h j (by omega)).mono (fun x hx => List.mem_append_right _ hx)
theorem take_str {l : List (List UInt8)} {j : Nat} (h : j < l.length) : ((l.take (j + 1)).map str) = (l.take j).map str ++ [str (l.getD j [])] := by
  rw [List.take_add_one, List.map_append, List.getD_eq_getElem?_getD, List.getElem?_eq_getElem h]; rfl
theorem y_loadRow1 {P : Program} {n : Nat} {e : Env} {o : Oper} {x : Operand} {ty : TypeId} {w0 : World} {L : Blocks} {d : TypeDesc} {B E m : Nat} {v : Value} {xs : List Value} {ent : Blocks} {i : Int} (j : Nat) (ho : o.op = .load ty x) (ht : P.underlying ty = some d) (hd : isAggB d = false) (hx : opv n e x = pv (adB v) (adO v + i.toNat * 1)) (hr : Row B E 1 v m xs ent) (hin : ∀ x ∈ ent, x ∈ L) (hj : i.toNat = j) (h1 : j < m) {u : Value} (hu : xs.getD j .nilIface = u) : Y1 P n e o (St w0 L) u := by
  subst hj
  rcases hr.2 with ⟨_, h, _⟩ | ⟨g, cap, cur, fz, rfl, rfl, h3, h4, h5, h6, h7, h8⟩
  · omega
  · obtain ⟨k, hk⟩ := List.mem_iff_getElem?.1 (hin (g, .cells cur E fz) (by simp))
    refine y_load (P := P) (off := adO (.slice (some ⟨g, 0, none⟩) m cap) + i.toNat * 1) k ho ht hd hx hk ?_
    have h9 : (cur.toList.take (m * 1))[i.toNat]? = cur[i.toNat]? := by rw [List.getElem?_take_of_lt (by omega)]; simp
    have hl : xs.length = m := by have := hr.1; omega
    rw [show adO (.slice (some ⟨g, 0, none⟩) m cap) + i.toNat * 1 = i.toNat from by show 0 + i.toNat * 1 = i.toNat; omega, ← h9, h7, ← hu, List.getD_eq_getElem?_getD, List.getElem?_eq_getElem (by omega)]; rfl
theorem zsure_any (l1 l2 : List (List UInt8)) (at_ keep : List Int) (land : List Bool) (va vb vt vk vl : Value) (hl1 : l1.length ≤ 9223372036854775807) (hl2 : l2.length ≤ 9223372036854775807) (w : World)
    (hSa : Sl w va l1.length (zstrs l1)) (hSb : Sl w vb l2.length (zstrs l2)) (hSt : Sl w vt at_.length (fun j => iv (at_.getD j 0))) (hSk : Sl w vk keep.length (fun j => iv (keep.getD j 0))) (hSl : Sl w vl land.length (fun j => .bool (land.getD j false))) :
    C Try.prog 5 ⟨[va, vb, vt, vk, vl]⟩ w fun v w' => v = .bool true ∧ St w [] w' := by
  have hvt := cells_one hSt.one
  have hD0f : newD.fuse < 0 := by decide
  refine C_enter (n := 143) Try.func5 rfl rfl rfl (fun w1 hs1 => ?_)
  refine W_seq ?_
  refine W_region ?_
  refine Lc (wanted_none rfl) (c_box hs1 rfl rfl rfl (fun b2 w3 hbb2 hs4 => ?_))
  have hs4 := hs4.at0 hvt
  refine L0 (wanted_none rfl) rfl (y_assign (v := Value.bool _) rfl rfl) ?_
  refine Lnil ?_
  refine W_seq ?_
  refine W_seq ?_
  refine W_region ?_
  refine L0 (wanted_none rfl) rfl (y_move (v := va) rfl rfl) ?_
  refine Lc (wanted_none rfl) (c_call rfl rfl rfl Try.func14 (by kernel_rfl) rfl (few_any l1 va hl1 w3 (hSa.keep hs4 (by intro k hk; simp [keys] at hk; omega))) rfl ?_)
  rintro vf w5 ⟨⟨bo1, rfl, hfew1⟩, hc6⟩
  have hs7 := hs4.call0 hc6
  refine L0 (wanted_none rfl) rfl (y_not rfl rfl) ?_
  refine L0 (wanted_none rfl) rfl (y_move (v := Value.bool _) rfl rfl) ?_
  refine Lsp (t := 26) rfl (fun h8 => ?_) (fun h8 => ?_)
  · have h8' := h8
    first | replace h8' := of_decide_eq_true h8' | replace h8' := bnT' h8' | skip
    refine Lno (wanted_noB rfl rfl rfl h8 (by decide)) rfl ?_
    refine Lno (wanted_noB rfl rfl rfl h8 (by decide)) rfl ?_
    refine Lno (wanted_noB rfl rfl rfl h8 (by decide)) rfl ?_
    refine L0 (wanted_none rfl) rfl (y_pickT rfl rfl h8 rfl) ?_
    refine L0 (wanted_none rfl) rfl (y_move (v := Value.bool _) rfl rfl) ?_
    refine Lno (wanted_noB rfl rfl rfl rfl (by decide)) rfl ?_
    refine Lno (wanted_noB rfl rfl rfl rfl (by decide)) rfl ?_
    refine Lno (wanted_noB rfl rfl rfl rfl (by decide)) rfl ?_
    refine L0 (wanted_none rfl) rfl (y_pickT rfl rfl (rfl : true = true) rfl) ?_
    refine L0 (wanted_none rfl) rfl (y_move (v := Value.bool _) rfl rfl) ?_
    refine Lno (wanted_noB rfl rfl rfl rfl (by decide)) rfl ?_
    refine Lno (wanted_noB rfl rfl rfl rfl (by decide)) rfl ?_
    refine Lno (wanted_noB rfl rfl rfl rfl (by decide)) rfl ?_
    refine L0 (wanted_none rfl) rfl (y_pickT rfl rfl (rfl : true = true) rfl) ?_
    refine L0 (wanted_none rfl) rfl (y_move (v := Value.bool _) rfl rfl) ?_
    refine Lno (wanted_noB rfl rfl rfl rfl (by decide)) rfl ?_
    refine Lno (wanted_noB rfl rfl rfl rfl (by decide)) rfl ?_
    refine Lno (wanted_noB rfl rfl rfl rfl (by decide)) rfl ?_
    refine L0 (wanted_none rfl) rfl (y_pickT rfl rfl (rfl : true = true) rfl) ?_
    refine L0 (wanted_none rfl) rfl (y_move (v := Value.bool _) rfl rfl) ?_
    refine Lno (wanted_noB rfl rfl rfl rfl (by decide)) rfl ?_
    refine Lno (wanted_noB rfl rfl rfl rfl (by decide)) rfl ?_
    refine Lno (wanted_noB rfl rfl rfl rfl (by decide)) rfl ?_
    refine L0 (wanted_none rfl) rfl (y_pickT rfl rfl (rfl : true = true) rfl) ?_
    refine Lnil ?_
    refine W_condT rfl rfl ?_
    refine W_seq ?_
    refine W_region ?_
    refine L0 (wanted_none rfl) rfl (y_assign (v := Value.bool _) rfl rfl) ?_
    refine Lnil ?_
    refine W_ret ?_
    refine fin1 (fn := Try.f5) rfl rfl ?_
    first | exact ⟨rfl, hs7.drop (.inl hbb2)⟩ | exact ⟨rfl, St.dropR (L := []) (hs7.re (L' := ((NOBLOCK, .cells ⟨icells vs8 D7.slot⟩ 47 (0, 0)) :: (NOBLOCK, .cells #[pv b 0] 37 (0, 0)) :: (b2, .cells #[vt] 34 (0, 0)) :: (NOBLOCK, .cells ⟨icells vs3 D2.slot⟩ 47 (0, 0)) :: (eA ++ (pool ++ (im3 ++ im8)))) ++ ((b, .cells ⟨dcells vz7 D7.sure D7.slot (.slice none 0 0) D7.fuse⟩ 88 (0, 0)) :: ([] ++ rows6))) (fun a => by simp only [ct_append, ct_cons, ct_nil]; omega)) (fun x hx => (List.mem_append.1 hx).elim (hKe x) (hD7.fresh x))⟩
  · have h8' := h8
    first | replace h8' := of_decide_eq_false h8' | replace h8' := bnF' h8' | skip
    refine L0 (wanted_yesB rfl rfl rfl h8) rfl (y_move (v := vb) rfl rfl) ?_
    refine Lc (wanted_yesB rfl rfl rfl h8) (c_call rfl rfl rfl Try.func14 (by kernel_rfl) rfl (few_any l2 vb hl2 w5 (hSb.keep hs7 (by intro k hk; simp [keys] at hk; omega))) rfl ?_)
    rintro vf w9 ⟨⟨bo2, rfl, hfew2⟩, hc10⟩
    have hs11 := hs7.call0 hc10
    refine L0 (wanted_yesB rfl rfl rfl h8) rfl (y_not rfl rfl) ?_
    refine L0 (wanted_none rfl) rfl (y_pickF rfl rfl h8 rfl) ?_
    refine L0 (wanted_none rfl) rfl (y_move (v := Value.bool _) rfl rfl) ?_
    refine Lsp (t := 31) rfl (fun h12 => ?_) (fun h12 => ?_)
    · have h12' := h12
      first | replace h12' := of_decide_eq_true h12' | replace h12' := bnT' h12' | skip
      refine Lno (wanted_noB rfl rfl rfl h12 (by decide)) rfl ?_
      refine Lno (wanted_noB rfl rfl rfl h12 (by decide)) rfl ?_
      refine Lno (wanted_noB rfl rfl rfl h12 (by decide)) rfl ?_
      refine L0 (wanted_none rfl) rfl (y_pickT rfl rfl h12 rfl) ?_
      refine L0 (wanted_none rfl) rfl (y_move (v := Value.bool _) rfl rfl) ?_
      refine Lno (wanted_noB rfl rfl rfl rfl (by decide)) rfl ?_
      refine Lno (wanted_noB rfl rfl rfl rfl (by decide)) rfl ?_
      refine Lno (wanted_noB rfl rfl rfl rfl (by decide)) rfl ?_
      refine L0 (wanted_none rfl) rfl (y_pickT rfl rfl (rfl : true = true) rfl) ?_
      refine L0 (wanted_none rfl) rfl (y_move (v := Value.bool _) rfl rfl) ?_
      refine Lno (wanted_noB rfl rfl rfl rfl (by decide)) rfl ?_
      refine Lno (wanted_noB rfl rfl rfl rfl (by decide)) rfl ?_
      refine Lno (wanted_noB rfl rfl rfl rfl (by decide)) rfl ?_
      refine L0 (wanted_none rfl) rfl (y_pickT rfl rfl (rfl : true = true) rfl) ?_
      refine L0 (wanted_none rfl) rfl (y_move (v := Value.bool _) rfl rfl) ?_
      refine Lno (wanted_noB rfl rfl rfl rfl (by decide)) rfl ?_
      refine Lno (wanted_noB rfl rfl rfl rfl (by decide)) rfl ?_
      refine Lno (wanted_noB rfl rfl rfl rfl (by decide)) rfl ?_
      refine L0 (wanted_none rfl) rfl (y_pickT rfl rfl (rfl : true = true) rfl) ?_
      refine Lnil ?_
      refine W_condT rfl rfl ?_
      refine W_seq ?_
      refine W_region ?_
      refine L0 (wanted_none rfl) rfl (y_assign (v := Value.bool _) rfl rfl) ?_
      refine Lnil ?_
      refine W_ret ?_
      refine fin1 (fn := Try.f5) rfl rfl ?_
      first | exact ⟨rfl, hs11.drop (.inl hbb2)⟩ | exact ⟨rfl, St.dropR (L := []) (hs11.re (L' := ((NOBLOCK, .cells ⟨icells vs8 D7.slot⟩ 47 (0, 0)) :: (NOBLOCK, .cells #[pv b 0] 37 (0, 0)) :: (b2, .cells #[vt] 34 (0, 0)) :: (NOBLOCK, .cells ⟨icells vs3 D2.slot⟩ 47 (0, 0)) :: (eA ++ (pool ++ (im3 ++ im8)))) ++ ((b, .cells ⟨dcells vz7 D7.sure D7.slot (.slice none 0 0) D7.fuse⟩ 88 (0, 0)) :: ([] ++ rows6))) (fun a => by simp only [ct_append, ct_cons, ct_nil]; omega)) (fun x hx => (List.mem_append.1 hx).elim (hKe x) (hD7.fresh x))⟩
    · have h12' := h12
      first | replace h12' := of_decide_eq_false h12' | replace h12' := bnF' h12' | skip
      refine L1 (wanted_yesB rfl rfl rfl h12) rfl hs11 (y_load 0 rfl Try.underlying34 rfl rfl rfl rfl) ?_
      refine L0 (wanted_yesB rfl rfl rfl h12) rfl (y_slenSl rfl Try.underlying34 rfl hSt) ?_
      refine L0 (wanted_yesB rfl rfl rfl h12) rfl (y_eq rfl rfl rfl) ?_
      refine L0 (wanted_none rfl) rfl (y_pickF rfl rfl h12 rfl) ?_
      refine L0 (wanted_none rfl) rfl (y_move (v := Value.bool _) rfl rfl) ?_
      refine Lsp (t := 36) rfl (fun h13 => ?_) (fun h13 => ?_)
      · have h13' := h13
        first | replace h13' := of_decide_eq_true h13' | replace h13' := bnT' h13' | skip
        refine Lno (wanted_noB rfl rfl rfl h13 (by decide)) rfl ?_
        refine Lno (wanted_noB rfl rfl rfl h13 (by decide)) rfl ?_
        refine Lno (wanted_noB rfl rfl rfl h13 (by decide)) rfl ?_
        refine L0 (wanted_none rfl) rfl (y_pickT rfl rfl h13 rfl) ?_
        refine L0 (wanted_none rfl) rfl (y_move (v := Value.bool _) rfl rfl) ?_
        refine Lno (wanted_noB rfl rfl rfl rfl (by decide)) rfl ?_
        refine Lno (wanted_noB rfl rfl rfl rfl (by decide)) rfl ?_
        refine Lno (wanted_noB rfl rfl rfl rfl (by decide)) rfl ?_
        refine L0 (wanted_none rfl) rfl (y_pickT rfl rfl (rfl : true = true) rfl) ?_
        refine L0 (wanted_none rfl) rfl (y_move (v := Value.bool _) rfl rfl) ?_
        refine Lno (wanted_noB rfl rfl rfl rfl (by decide)) rfl ?_
        refine Lno (wanted_noB rfl rfl rfl rfl (by decide)) rfl ?_
        refine Lno (wanted_noB rfl rfl rfl rfl (by decide)) rfl ?_
        refine L0 (wanted_none rfl) rfl (y_pickT rfl rfl (rfl : true = true) rfl) ?_
        refine Lnil ?_
        refine W_condT rfl rfl ?_
        refine W_seq ?_
        refine W_region ?_
        refine L0 (wanted_none rfl) rfl (y_assign (v := Value.bool _) rfl rfl) ?_
        refine Lnil ?_
        refine W_ret ?_
        refine fin1 (fn := Try.f5) rfl rfl ?_
        first | exact ⟨rfl, hs11.drop (.inl hbb2)⟩ | exact ⟨rfl, St.dropR (L := []) (hs11.re (L' := ((NOBLOCK, .cells ⟨icells vs8 D7.slot⟩ 47 (0, 0)) :: (NOBLOCK, .cells #[pv b 0] 37 (0, 0)) :: (b2, .cells #[vt] 34 (0, 0)) :: (NOBLOCK, .cells ⟨icells vs3 D2.slot⟩ 47 (0, 0)) :: (eA ++ (pool ++ (im3 ++ im8)))) ++ ((b, .cells ⟨dcells vz7 D7.sure D7.slot (.slice none 0 0) D7.fuse⟩ 88 (0, 0)) :: ([] ++ rows6))) (fun a => by simp only [ct_append, ct_cons, ct_nil]; omega)) (fun x hx => (List.mem_append.1 hx).elim (hKe x) (hD7.fresh x))⟩
      · have h13' := h13
        first | replace h13' := of_decide_eq_false h13' | replace h13' := bnF' h13' | skip
        refine L1 (wanted_yesB rfl rfl rfl h13) rfl hs11 (y_load 0 rfl Try.underlying34 rfl rfl rfl rfl) ?_
        refine L0 (wanted_yesB rfl rfl rfl h13) rfl (y_slenSl rfl Try.underlying34 rfl hSt) ?_
        refine L0 (wanted_yesB rfl rfl rfl h13) rfl (y_gt rfl rfl rfl) ?_
        refine L0 (wanted_none rfl) rfl (y_pickF rfl rfl h13 rfl) ?_
        refine L0 (wanted_none rfl) rfl (y_move (v := Value.bool _) rfl rfl) ?_
        refine Lsp (t := 41) rfl (fun h14 => ?_) (fun h14 => ?_)
        · have h14' := h14
          first | replace h14' := of_decide_eq_true h14' | replace h14' := bnT' h14' | skip
          refine Lno (wanted_noB rfl rfl rfl h14 (by decide)) rfl ?_
          refine Lno (wanted_noB rfl rfl rfl h14 (by decide)) rfl ?_
          refine Lno (wanted_noB rfl rfl rfl h14 (by decide)) rfl ?_
          refine L0 (wanted_none rfl) rfl (y_pickT rfl rfl h14 rfl) ?_
          refine L0 (wanted_none rfl) rfl (y_move (v := Value.bool _) rfl rfl) ?_
          refine Lno (wanted_noB rfl rfl rfl rfl (by decide)) rfl ?_
          refine Lno (wanted_noB rfl rfl rfl rfl (by decide)) rfl ?_
          refine Lno (wanted_noB rfl rfl rfl rfl (by decide)) rfl ?_
          refine L0 (wanted_none rfl) rfl (y_pickT rfl rfl (rfl : true = true) rfl) ?_
          refine Lnil ?_
          refine W_condT rfl rfl ?_
          refine W_seq ?_
          refine W_region ?_
          refine L0 (wanted_none rfl) rfl (y_assign (v := Value.bool _) rfl rfl) ?_
          refine Lnil ?_
          refine W_ret ?_
          refine fin1 (fn := Try.f5) rfl rfl ?_
          first | exact ⟨rfl, hs11.drop (.inl hbb2)⟩ | exact ⟨rfl, St.dropR (L := []) (hs11.re (L' := ((NOBLOCK, .cells ⟨icells vs8 D7.slot⟩ 47 (0, 0)) :: (NOBLOCK, .cells #[pv b 0] 37 (0, 0)) :: (b2, .cells #[vt] 34 (0, 0)) :: (NOBLOCK, .cells ⟨icells vs3 D2.slot⟩ 47 (0, 0)) :: (eA ++ (pool ++ (im3 ++ im8)))) ++ ((b, .cells ⟨dcells vz7 D7.sure D7.slot (.slice none 0 0) D7.fuse⟩ 88 (0, 0)) :: ([] ++ rows6))) (fun a => by simp only [ct_append, ct_cons, ct_nil]; omega)) (fun x hx => (List.mem_append.1 hx).elim (hKe x) (hD7.fresh x))⟩
        · have h14' := h14
          first | replace h14' := of_decide_eq_false h14' | replace h14' := bnF' h14' | skip
          refine L0 (wanted_yesB rfl rfl rfl h14) rfl (y_move (v := vk) rfl rfl) ?_
          refine L0 (wanted_yesB rfl rfl rfl h14) rfl (y_slenSl rfl Try.underlying34 rfl hSk) ?_
          refine L0 (wanted_yesB rfl rfl rfl h14) rfl (y_gt rfl rfl rfl) ?_
          refine L0 (wanted_none rfl) rfl (y_pickF rfl rfl h14 rfl) ?_
          refine L0 (wanted_none rfl) rfl (y_move (v := Value.bool _) rfl rfl) ?_
          refine Lsp (t := 46) rfl (fun h15 => ?_) (fun h15 => ?_)
          · have h15' := h15
            first | replace h15' := of_decide_eq_true h15' | replace h15' := bnT' h15' | skip
            refine Lno (wanted_noB rfl rfl rfl h15 (by decide)) rfl ?_
            refine Lno (wanted_noB rfl rfl rfl h15 (by decide)) rfl ?_
            refine Lno (wanted_noB rfl rfl rfl h15 (by decide)) rfl ?_
            refine L0 (wanted_none rfl) rfl (y_pickT rfl rfl h15 rfl) ?_
            refine Lnil ?_
            refine W_condT rfl rfl ?_
            refine W_seq ?_
            refine W_region ?_
            refine L0 (wanted_none rfl) rfl (y_assign (v := Value.bool _) rfl rfl) ?_
            refine Lnil ?_
            refine W_ret ?_
            refine fin1 (fn := Try.f5) rfl rfl ?_
            first | exact ⟨rfl, hs11.drop (.inl hbb2)⟩ | exact ⟨rfl, St.dropR (L := []) (hs11.re (L' := ((NOBLOCK, .cells ⟨icells vs8 D7.slot⟩ 47 (0, 0)) :: (NOBLOCK, .cells #[pv b 0] 37 (0, 0)) :: (b2, .cells #[vt] 34 (0, 0)) :: (NOBLOCK, .cells ⟨icells vs3 D2.slot⟩ 47 (0, 0)) :: (eA ++ (pool ++ (im3 ++ im8)))) ++ ((b, .cells ⟨dcells vz7 D7.sure D7.slot (.slice none 0 0) D7.fuse⟩ 88 (0, 0)) :: ([] ++ rows6))) (fun a => by simp only [ct_append, ct_cons, ct_nil]; omega)) (fun x hx => (List.mem_append.1 hx).elim (hKe x) (hD7.fresh x))⟩
          · have h15' := h15
            first | replace h15' := of_decide_eq_false h15' | replace h15' := bnF' h15' | skip
            refine L0 (wanted_yesB rfl rfl rfl h15) rfl (y_move (v := vl) rfl rfl) ?_
            refine L0 (wanted_yesB rfl rfl rfl h15) rfl (y_slenSl rfl Try.underlying35 rfl hSl) ?_
            refine L0 (wanted_yesB rfl rfl rfl h15) rfl (y_gt rfl rfl rfl) ?_
            refine L0 (wanted_none rfl) rfl (y_pickF rfl rfl h15 rfl) ?_
            refine Lnil ?_
            refine Wsp (t := 50) rfl (fun h16 => ?_) (fun h16 => ?_)
            · have h16' := h16
              first | replace h16' := of_decide_eq_true h16' | replace h16' := bnT' h16' | skip
              refine W_condT rfl h16 ?_
              refine W_seq ?_
              refine W_region ?_
              refine L0 (wanted_none rfl) rfl (y_assign (v := Value.bool _) rfl rfl) ?_
              refine Lnil ?_
              refine W_ret ?_
              refine fin1 (fn := Try.f5) rfl rfl ?_
              first | exact ⟨rfl, hs11.drop (.inl hbb2)⟩ | exact ⟨rfl, St.dropR (L := []) (hs11.re (L' := ((NOBLOCK, .cells ⟨icells vs8 D7.slot⟩ 47 (0, 0)) :: (NOBLOCK, .cells #[pv b 0] 37 (0, 0)) :: (b2, .cells #[vt] 34 (0, 0)) :: (NOBLOCK, .cells ⟨icells vs3 D2.slot⟩ 47 (0, 0)) :: (eA ++ (pool ++ (im3 ++ im8)))) ++ ((b, .cells ⟨dcells vz7 D7.sure D7.slot (.slice none 0 0) D7.fuse⟩ 88 (0, 0)) :: ([] ++ rows6))) (fun a => by simp only [ct_append, ct_cons, ct_nil]; omega)) (fun x hx => (List.mem_append.1 hx).elim (hKe x) (hD7.fresh x))⟩
            · have h16' := h16
              first | replace h16' := of_decide_eq_false h16' | replace h16' := bnF' h16' | skip
              refine W_condF rfl h16 ?_
              refine W_skip ?_
              refine W_seq ?_
              refine W_seq ?_
              have hfA : Few l1 := hfew1 (by cases bo1 <;> simp_all)
              have hfB : Few l2 := hfew2 (by cases bo2 <;> simp_all)
              refine W_region ?_
              refine Lc (wanted_none rfl) (c_call rfl rfl rfl Try.func15 (by kernel_rfl) rfl (zoned_any w9) rfl ?_)
              rintro _ w17 ⟨rfl, hc18⟩
              have hs19 := hs11.call0 hc18
              refine L0 (wanted_none rfl) rfl (y_not rfl rfl) ?_
              refine Lnil ?_
              refine Wkn (t := 52) (b0 := false) rfl (by rfl) (fun h20 => ?_)
              refine W_condF rfl h20 ?_
              refine W_skip ?_
              refine W_seq ?_
              refine W_region ?_
              refine Lc (wanted_none rfl) (c_call rfl rfl rfl Try.func16 (by kernel_rfl) rfl (new_ok (K := [(b2, .cells #[vt] 34 (0, 0))]) hs19) rfl ?_)
              rintro vq w21 ⟨b, vz0, rows0, rfl, hD0⟩
              have hs23 := hD0.st
              refine Lc (wanted_none rfl) (c_alloc hs23 rfl rfl zr37 (fun b24 w25 hbb24 hs26 => ?_))
              refine Lc (wanted_none rfl) (c_store (i := 0) (v := pv b 0) hs26 rfl rfl rfl rfl sz37 rfl rfl (by decide) (Fz.zero _) (fun w27 hs28 => ?_))
              have hs28 := hs28.at0 (c' := #[pv b 0]) rfl
              refine Lnil ?_
              refine W_seq ?_
              refine W_region ?_
              refine L0 (wanted_none rfl) rfl (y_makeFunc (vs := [pv b24 0, pv b2 0]) rfl rfl) ?_
              refine L0 (wanted_none rfl) rfl (y_assign (v := Value.func _ _ _) rfl rfl) ?_
              refine Lnil ?_
              refine W_seq ?_
              refine W_region ?_
              refine L0 (wanted_none rfl) rfl (y_move (v := Value.func _ _ _) rfl rfl) ?_
              refine L0 (wanted_none rfl) rfl (y_move (v := va) rfl rfl) ?_
              refine Lc (wanted_none rfl) (c_call rfl rfl rfl Try.func17 (by kernel_rfl) rfl (write_ok (K := []) l1 at_ va vt (hD0.drewn (K' := [(b24, .cells #[pv b 0] 37 (0, 0)), (b2, .cells #[vt] 34 (0, 0))]) hs28) hD0f hfA (by omega) (by omega) (fun w2 L2 h2 hf2 => keepK hSa h2 (fun x hx => by cases hx) hf2) (fun w2 L2 h2 hf2 => keepK hSt h2 (fun x hx => by cases hx) hf2) hbb24 hbb2 (Ext.refl (fun j _ => by show 0 ≤ 16; omega) (fun j hj => absurd hj (Nat.not_lt_zero _))) (by decide)) rfl ?_)
              rintro vq w29 ⟨D1, vz1, vw1, went1, rows1, rfl, hD1, hE1, hw1⟩
              have hs31 := hD1.st
              have hf1 : D1.fuse < 0 := by rw [hE1.fuse]; exact hD0f
              have hww : D1.wait.length ≤ 20 := by have h7 : newD.wait.length = 0 := rfl; have h8 := hfA.1; omega
              refine Lnil ?_
              refine W_seq ?_
              refine W_seq ?_
              refine W_region ?_
              refine L1 (wanted_none rfl) rfl hs31 (y_load 0 rfl Try.underlying37 rfl rfl rfl rfl) ?_
              refine Lc (wanted_none rfl) (c_call rfl rfl rfl Try.func20 (by kernel_rfl) rfl (sync_ok (hD1.drewn (K' := [(b24, .cells #[pv b 0] 37 (0, 0)), (b2, .cells #[vt] 34 (0, 0))]) hs31) hf1 hE1.ok (by omega)) rfl ?_)
              rintro vq w32 ⟨rfl, hD2⟩
              obtain ⟨D2, hD2, e2z, e2s, e2w, e2f⟩ : ∃ D2 : Dv, DSt w [(b24, .cells #[pv b 0] 37 (0, 0)), (b2, .cells #[vt] 34 (0, 0))] b D2 w32 vz1 (.slice none 0 0) [] rows1 ∧ D2.z = D1.z ∧ (∀ j, j < 8 → D2.sure j = (D1.z j).length) ∧ D2.wait = [] ∧ D2.fuse < 0 := ⟨_, hD2, rfl, fun j hj => sureF_lt hj, rfl, hf1⟩
              have hs34 := hD2.st
              have hz2 : ∀ j, j < 8 → D2.sure j ≤ (D2.z j).length ∧ (D2.z j).length ≤ 16 := fun j hj => by rw [e2z, e2s j hj]; exact ⟨Nat.le_refl _, hE1.room j hj⟩
              refine L0 (wanted_none rfl) rfl (y_neNilNil rfl Try.underlying24 rfl) ?_
              refine Lnil ?_
              refine W_condF rfl rfl ?_
              refine W_skip ?_
              refine W_seq ?_
              refine W_region ?_
              refine L1 (wanted_none rfl) rfl hs34 (y_load 0 rfl Try.underlying37 rfl rfl rfl rfl) ?_
              refine Lc (wanted_none rfl) (c_call rfl rfl rfl Try.func21 (by kernel_rfl) rfl (image_ok (hD2.drewn (K' := [(b24, .cells #[pv b 0] 37 (0, 0)), (b2, .cells #[vt] 34 (0, 0))]) hs34) hz2) rfl ?_)
              rintro vq w35 ⟨vs3, im3, rfl, hD3, hR3, hI3⟩
              have hs37 := hD3.st.re (L' := (b24, .cells #[pv b 0] 37 (0, 0)) :: (b2, .cells #[vt] 34 (0, 0)) :: (im3 ++ ((b, .cells ⟨dcells vz1 D2.sure D2.slot (.slice none 0 0) D2.fuse⟩ 88 (0, 0)) :: ([] ++ rows1)))) (fun a => by simp only [ct_append, ct_cons, ct_nil]; omega)
              refine Lc (wanted_none rfl) (c_alloc hs37 rfl rfl zr47 (fun b38 w39 hbb38 hs40 => ?_))
              refine Lc (wanted_none rfl) (c_storeN (i := 0) hs40 rfl rfl rfl rfl sz47 (by rfl) (by intro v hv; exact ic_one hR3 v hv) rfl (by decide) (Fz.zero _) (fun w41 hs42 => ?_))
              have hs42 := hs42.at0 (c' := ⟨icells vs3 D2.slot⟩) rfl
              refine Lnil ?_
              refine W_seq ?_
              have hKf : ∀ x ∈ ((b38, Obj.cells ⟨icells vs3 D2.slot⟩ 47 (0, 0)) :: (b24, Obj.cells #[pv b 0] 37 (0, 0)) :: (b2, Obj.cells #[vt] 34 (0, 0)) :: im3), w.heap.size ≤ x.1 := fun x hx => by
                simp only [List.mem_cons] at hx
                rcases hx with rfl | rfl | rfl | hx
                · exact hbb38
                · exact hbb24
                · exact hbb2
                · exact hI3 x hx
              have hKf2 : ∀ x ∈ ((b38, Obj.cells ⟨icells vs3 D2.slot⟩ 47 (0, 0)) :: im3), w.heap.size ≤ x.1 := fun x hx => (List.mem_cons.1 hx).elim (fun h => h ▸ hbb38) (hI3 x)
              have hR3' : ∀ j, j < 8 → RowIn im3 (vs3 j) (D1.z j) := fun j hj => by have h7 := hR3 j hj; rwa [imZ_all hj (by rw [e2z, e2s j hj]), e2z] at h7
              refine W_region ?_
              refine L1 (wanted_none rfl) rfl hs42 (y_load 1 rfl Try.underlying37 rfl rfl rfl rfl) ?_
              refine L0 (wanted_none rfl) rfl (y_move (v := vk) rfl rfl) ?_
              refine L0 (wanted_none rfl) rfl (y_move (v := vl) rfl rfl) ?_
              refine Lc (wanted_none rfl) (c_call rfl rfl rfl Try.func22 (by kernel_rfl) rfl (crash_ok (hD2.drewn (K' := (b38, .cells ⟨icells vs3 D2.slot⟩ 47 (0, 0)) :: (b24, .cells #[pv b 0] 37 (0, 0)) :: (b2, .cells #[vt] 34 (0, 0)) :: im3) hs42) keep land vk vl (by omega) (by omega) (fun w2 L2 h2 hf2 => keepK hSk h2 hKf hf2) (fun w2 L2 h2 hf2 => keepK hSl h2 hKf hf2) (fun j hj => by rw [e2w] at hj; cases hj) (by rw [e2w]; decide) hz2) rfl ?_)
              rintro vq w43 ⟨vz4, rfl, hD4⟩
              obtain ⟨D4, hD4, e4z, e4s, e4w, e4f, e4l⟩ : ∃ D4 : Dv, DSt w ((b38, .cells ⟨icells vs3 D2.slot⟩ 47 (0, 0)) :: (b24, .cells #[pv b 0] 37 (0, 0)) :: (b2, .cells #[vt] 34 (0, 0)) :: im3) b D4 w43 vz4 (.slice none 0 0) [] rows1 ∧ (∀ j, j < 8 → D4.z j = D1.z j) ∧ (∀ j, j < 8 → D4.sure j = (D1.z j).length) ∧ D4.wait = [] ∧ D4.fuse < 0 ∧ D4.slot = D2.slot := ⟨_, hD4, fun j hj => (crZ_all hj (by rw [e2z, e2s j hj])).trans (by rw [e2z]), fun j hj => (crS_all hj (by rw [e2z, e2s j hj])).trans (by rw [e2z]), rfl, by show (-1 : Int) < 0; decide, by show landF D2.slot D2.wait _ D2.wait.length = D2.slot; rw [e2w]; rfl⟩
              have hs45 := hD4.st
              have hz4 : ∀ j, j < 8 → D4.sure j ≤ (D4.z j).length ∧ (D4.z j).length ≤ 16 := fun j hj => by rw [e4z j hj, e4s j hj]; exact ⟨Nat.le_refl _, hE1.room j hj⟩
              refine Lnil ?_
              refine W_seq ?_
              refine W_seq ?_
              refine W_drawSt [(1, 0), (1, 2), (3, 1), (3, 3), (0, 4)] hs45 mixed (by kernel_rfl) (fun w46 hs47 => ?_)
              refine E1 hs47 (wanted_none rfl) rfl (y_load 1 rfl Try.underlying37 rfl rfl rfl rfl) ?_
              refine E1 hs47 (wanted_none rfl) rfl ((y_loadN 0 rfl Try.underlying47 rfl sz47 rfl rfl (by show 0 + 10 ≤ 10; omega))) ?_
              refine E3 (wanted_none rfl) (c_call rfl rfl rfl Try.func21 (by kernel_rfl) rfl (image_ok (hD4.drewn (K' := (b38, .cells ⟨icells vs3 D2.slot⟩ 47 (0, 0)) :: (b24, .cells #[pv b 0] 37 (0, 0)) :: (b2, .cells #[vt] 34 (0, 0)) :: im3) hs47) hz4) rfl ?_)
              rintro vq w48 ⟨vs5, im5, rfl, hD5, hR5, hI5⟩
              have hs50 := hD5.st.re (L' := im5 ++ ((b38, .cells ⟨icells vs3 D2.slot⟩ 47 (0, 0)) :: (b24, .cells #[pv b 0] 37 (0, 0)) :: (b2, .cells #[vt] 34 (0, 0)) :: (im3 ++ ((b, .cells ⟨dcells vz4 D4.sure D4.slot (.slice none 0 0) D4.fuse⟩ 88 (0, 0)) :: ([] ++ rows1))))) (fun a => by simp only [ct_append, ct_cons, ct_nil]; omega)
              refine ⟨fun _ => hs50.dropL (M := im5) hI5, ?_⟩
              have hR5' : ∀ j, j < 8 → RowIn im5 (vs5 j) (D1.z j) := fun j hj => by have h7 := hR5 j hj; rwa [imZ_all hj (by rw [e4z j hj, e4s j hj]), e4z j hj] at h7
              refine E3 (wanted_none rfl) (c_call rfl rfl rfl Try.func23 (by kernel_rfl) rfl (alike_eq e4l vs5 vs3 D1.z w48 (fun j hj => by have := hE1.room j hj; omega) (fun j hj => (hR5' j hj).sl hs50 (fun x hx => by simp [hx])) (fun j hj => (hR3' j hj).sl hs50 (fun x hx => by simp [hx]))) rfl ?_)
              rintro _ w51 ⟨rfl, hc52⟩
              have hs53 := hs50.call0 hc52
              refine ⟨fun _ => hs53.dropL (M := im5) hI5, ?_⟩
              refine E0 (wanted_none rfl) rfl (y_not rfl rfl) ?_
              refine Enil ?_
              refine Wkn (t := 71) (b0 := false) rfl (by rfl) (fun h54 => ?_)
              refine W_condF rfl h54 ?_
              refine W_skip ?_
              refine W_seq ?_
              refine W_region ?_
              refine L0 (wanted_none rfl) rfl (y_move (v := Value.func _ _ _) rfl rfl) ?_
              refine L0 (wanted_none rfl) rfl (y_move (v := vb) rfl rfl) ?_
              have h4s := (hs53.dropL (M := im5) hI5).re (L' := ((b24, .cells #[pv b 0] 37 (0, 0)) :: (b2, .cells #[vt] 34 (0, 0)) :: (b38, .cells ⟨icells vs3 D2.slot⟩ 47 (0, 0)) :: im3) ++ ((b, .cells ⟨dcells vz4 D4.sure D4.slot (.slice none 0 0) D4.fuse⟩ 88 (0, 0)) :: ([] ++ rows1))) (fun a => by simp only [ct_append, ct_cons, ct_nil]; omega)
              refine Lc (wanted_none rfl) (c_call rfl rfl rfl Try.func17 (by kernel_rfl) rfl (write_ok (K := (b38, .cells ⟨icells vs3 D2.slot⟩ 47 (0, 0)) :: im3) l2 at_ vb vt (hD4.drewn (K' := (b24, .cells #[pv b 0] 37 (0, 0)) :: (b2, .cells #[vt] 34 (0, 0)) :: (b38, .cells ⟨icells vs3 D2.slot⟩ 47 (0, 0)) :: im3) h4s) e4f hfB (by omega) (by omega) (fun w2 L2 h2 hf2 => keepK hSb h2 hKf2 hf2) (fun w2 L2 h2 hf2 => keepK hSt h2 hKf2 hf2) hbb24 hbb2 (Ext.refl (fun j hj => (hz4 j hj).2) (fun j hj => by rw [e4w] at hj; cases hj)) (by rw [e4w]; decide)) rfl ?_)
              rintro vq w55 ⟨D6, vz6, vw6, went6, rows6, rfl, hD6, hE6, hw6⟩
              have hs57 := hD6.st
              have hww6 : D6.wait.length ≤ 20 := by have h7 : D4.wait.length = 0 := (by rw [e4w]; rfl); have h8 := hfB.1; omega
              refine Lnil ?_
              refine W_seq ?_
              refine W_region ?_
              refine L0 (wanted_none rfl) rfl (y_assign (v := Value.slice _ _ _) rfl rfl) ?_
              refine Lnil ?_
              refine W_seq ?_
              refine W_seq ?_
              have hz6 : ∀ j, j < 8 → D6.sure j ≤ (D6.z j).length ∧ (D6.z j).length ≤ 16 := fun j hj => by
                obtain ⟨m, hm⟩ := hE6.more j hj
                refine ⟨?_, hE6.room j hj⟩
                rw [hE6.sure, e4s j hj, hm, e4z j hj, List.length_append]; omega
              refine W_region ?_
              refine L0 (wanted_none rfl) rfl (y_assign (v := Value.int _ _) rfl rfl) ?_
              refine Lnil ?_
              refine W_block ?_
              refine W_loop (G := Nat × Value × Blocks × List Value × Blocks) (fun g aL wl => ∃ e, aL = A 143 ((15, iv g.1) :: (14, g.2.1) :: (11, pv b24 0) :: (13, pv b38 0) :: (3, vk) :: (4, vl) :: e) ∧ g.1 ≤ 8 ∧ Row w.heap.size 33 1 g.2.1 g.1 g.2.2.2.1 g.2.2.1 ∧ (∀ j, j < g.1 → RowIn g.2.2.2.2 (g.2.2.2.1.getD j .nilIface) (D6.z j)) ∧ (∀ x ∈ g.2.2.2.2, w.heap.size ≤ x.1) ∧ St w ((b24, .cells #[pv b 0] 37 (0, 0)) :: (b2, .cells #[vt] 34 (0, 0)) :: (b38, .cells ⟨icells vs3 D2.slot⟩ 47 (0, 0)) :: (g.2.2.1 ++ (g.2.2.2.2 ++ (im3 ++ ((b, .cells ⟨dcells vz6 D6.sure D6.slot vw6 D6.fuse⟩ 88 (0, 0)) :: (went6 ++ rows6)))))) wl) (fun g => 8 - g.1) ((0, .slice none 0 0, [], [], [])) ?_ ?_
              · exact ⟨_, A_pins _ _ [15, 14, 11, 13, 3, 4], Nat.zero_le _, Row.nil _ _ _, (fun j hj => absurd hj (Nat.not_lt_zero _)), (fun x hx => by cases hx), hs57⟩
              rintro g _ w58 ⟨ehs59, rfl, hi, hrA, hP, hPf, hs59⟩
              obtain ⟨i, vA, eA, vals, pool⟩ := g
              dsimp only at *
              refine W_seq ?_
              refine W_seq ?_
              refine W_region ?_
              refine L0 (wanted_none rfl) rfl (y_move (v := Value.int _ _) rfl rfl) ?_
              refine L0 (wanted_none rfl) rfl (y_lt rfl rfl rfl) ?_
              refine Lnil ?_
              refine Wsp (t := 76) rfl (fun h60 => ?_) (fun h60 => ?_)
              · have h60' := h60
                first | replace h60' := of_decide_eq_true h60' | replace h60' := bnT' h60' | skip
                refine W_condT rfl h60 ?_
                refine W_skip ?_
                refine W_seq ?_
                refine W_block ?_
                refine W_seq ?_
                refine W_region ?_
                refine L0 (wanted_none rfl) rfl (y_assign (v := Value.slice _ _ _) rfl rfl) ?_
                refine Lnil ?_
                refine W_seq ?_
                refine W_seq ?_
                refine W_region ?_
                refine L0 (wanted_none rfl) rfl (y_assign (v := Value.int _ _) rfl rfl) ?_
                refine Lnil ?_
                refine W_block ?_
                refine W_loop (G := Nat × Value × Blocks) (fun gg aL wl => ∃ e, aL = A 143 ((17, iv gg.1) :: (16, gg.2.1) :: (15, iv i) :: (14, vA) :: (11, pv b24 0) :: (13, pv b38 0) :: (3, vk) :: (4, vl) :: e) ∧ gg.1 ≤ (D6.z i).length ∧ Row w.heap.size 9 1 gg.2.1 gg.1 (((D6.z i).take gg.1).map str) gg.2.2 ∧ St w ((b24, .cells #[pv b 0] 37 (0, 0)) :: (b2, .cells #[vt] 34 (0, 0)) :: (b38, .cells ⟨icells vs3 D2.slot⟩ 47 (0, 0)) :: (gg.2.2 ++ (eA ++ (pool ++ (im3 ++ ((b, .cells ⟨dcells vz6 D6.sure D6.slot vw6 D6.fuse⟩ 88 (0, 0)) :: (went6 ++ rows6))))))) wl) (fun g => (D6.z i).length + 1 - g.1) ((0, .slice none 0 0, [])) ?_ ?_
                · exact ⟨_, A_pins _ _ [17, 16, 15, 14, 11, 13, 3, 4], Nat.zero_le _, Row.nil _ _ _, hs59⟩
                rintro gg _ w61 ⟨ehs62, rfl, hj, hrR, hs62⟩
                obtain ⟨j, vR, eR⟩ := gg
                dsimp only at *
                refine W_seq ?_
                refine W_block ?_
                refine W_seq ?_
                by_cases v6 : j < (D6.z i).length
                · skip
                  refine W_region ?_
                  refine L1 (wanted_none rfl) rfl hs62 (y_load 0 rfl Try.underlying37 rfl rfl rfl rfl) ?_
                  refine L0 (wanted_none rfl) rfl (y_move (v := Value.int _ _) rfl rfl) ?_
                  refine L0 (wanted_none rfl) rfl (y_move (v := Value.int _ _) rfl rfl) ?_
                  refine Lc (wanted_none rfl) (c_call rfl rfl rfl Try.func24 (by kernel_rfl) rfl (read_any b vz6 D6.sure D6.slot vw6 D6.fuse w61 (hs62.has (b, .cells ⟨dcells vz6 D6.sure D6.slot vw6 D6.fuse⟩ 88 (0, 0)) (by simp)) i j (by omega) (by omega) (D6.z i) ((hD6.rz i (by omega)).sl hs62 (fun x hx => by simp [hx])) (by omega) (by omega)) rfl ?_)
                  rintro _ w63 ⟨rfl, hc64⟩
                  have hs65 := hs62.call0 hc64
                  refine L0 (wanted_none rfl) rfl (y_move (v := Value.tuple ⟨_⟩) rfl rfl) ?_
                  refine L0 (wanted_none rfl) rfl (y_extract rfl rfl rfl) ?_
                  refine L0 (wanted_none rfl) rfl (y_extract rfl rfl rfl) ?_
                  refine L0 (wanted_none rfl) rfl (y_assign (v := Value.string ⟨⟨_⟩⟩) rfl rfl) ?_
                  refine L0 (wanted_none rfl) rfl (y_assign (v := _) rfl rfl) ?_
                  refine Lnil ?_
                  refine W_seq ?_
                  refine W_seq ?_
                  refine W_region ?_
                  refine L0 (wanted_none rfl) rfl (y_move (v := _) rfl rfl) ?_
                  refine L0 (wanted_none rfl) rfl (y_neNilNil rfl Try.underlying24 rfl) ?_
                  refine Lnil ?_
                  refine W_condF rfl rfl ?_
                  refine W_skip ?_
                  refine W_region ?_
                  refine L0 (wanted_none rfl) rfl (y_move (v := vR) rfl rfl) ?_
                  refine L0 (wanted_none rfl) rfl (y_move (v := Value.string ⟨⟨_⟩⟩) rfl rfl) ?_
                  refine Lc (wanted_none rfl) (c_bs1 (v0 := str _) hs65 rfl rfl Try.underlying33 sz9 zr9 rfl rfl  (fun b66 w67 hbb66 hs68 => ?_))
                  refine Lc (wanted_none rfl) (c_appendG (L0 := (b66, .cells ⟨[str ((D6.z i).getD (j : Int).toNat [])]⟩ 9 (0, 0)) :: (b24, .cells #[pv b 0] 37 (0, 0)) :: (b2, .cells #[vt] 34 (0, 0)) :: (b38, .cells ⟨icells vs3 D2.slot⟩ 47 (0, 0)) :: (eA ++ (pool ++ (im3 ++ ((b, .cells ⟨dcells vz6 D6.sure D6.slot vw6 D6.fuse⟩ 88 (0, 0)) :: (went6 ++ rows6)))))) (ent := eR) hs68 (perm_ct (fun a => by simp only [ct_append, ct_cons, ct_nil]; omega)) rfl rfl Try.underlying33 sz9 zr9 by9 rfl rfl hrR (Nat.le_refl _) (fun x hx => .inl (hrR.new x hx)) rfl (Src.ofBlock (kk := 1) (hs68.get 0 rfl) rfl) (by simp [Value.oneCell']) (by have := hz6 i (by omega); omega) (by have := hz6 i (by omega); omega) (fun vN eN w69 hrN' hn71 hs70 => ?_))
                  have hrN := hrN'
                  have hnew_hrN := hn71
                  have hs70 := (hs70.re (L' := (b66, .cells ⟨[str ((D6.z i).getD (j : Int).toNat [])]⟩ 9 (0, 0)) :: (b24, .cells #[pv b 0] 37 (0, 0)) :: (b2, .cells #[vt] 34 (0, 0)) :: (b38, .cells ⟨icells vs3 D2.slot⟩ 47 (0, 0)) :: (eN ++ (eA ++ (pool ++ (im3 ++ ((b, .cells ⟨dcells vz6 D6.sure D6.slot vw6 D6.fuse⟩ 88 (0, 0)) :: (went6 ++ rows6))))))) (fun a => by simp only [ct_append, ct_cons, ct_nil]; omega)).drop (.inl hbb66)
                  refine L0 (wanted_none rfl) rfl (y_assign (v := vN) rfl rfl) ?_
                  refine Lnil ?_
                  have h16b := hz6 i (by omega)
                  refine W_region ?_
                  refine L0 (wanted_none rfl) rfl (y_move (v := Value.int _ _) rfl rfl) ?_
                  refine L0 (wanted_none rfl) rfl (y_add64 rfl rfl rfl (by omega)) ?_
                  refine L0 (wanted_none rfl) rfl (y_assign (v := Value.int _ _) rfl rfl) ?_
                  refine Lnil ?_
                  exact ⟨(j + 1, vN, eN), by first | omega | (dsimp only; done) | (dsimp only; omega), _, A_c (iv_eq (by first | omega | (dsimp only; done) | (dsimp only; omega))) (A_c rfl (A_c rfl (A_c rfl (A_c rfl (A_c rfl (A_c rfl (A_c rfl (rfl)))))))), by first | omega | (dsimp only; done) | (dsimp only; omega), by (dsimp only); rw [take_str (by omega)]; exact hrN, hs70⟩
                · skip
                  refine W_region ?_
                  refine L1 (wanted_none rfl) rfl hs62 (y_load 0 rfl Try.underlying37 rfl rfl rfl rfl) ?_
                  refine L0 (wanted_none rfl) rfl (y_move (v := Value.int _ _) rfl rfl) ?_
                  refine L0 (wanted_none rfl) rfl (y_move (v := Value.int _ _) rfl rfl) ?_
                  refine Lc (wanted_none rfl) (c_call rfl rfl rfl Try.func24 (by kernel_rfl) rfl (read_off b vz6 D6.sure D6.slot vw6 D6.fuse w61 (hs62.has (b, .cells ⟨dcells vz6 D6.sure D6.slot vw6 D6.fuse⟩ 88 (0, 0)) (by simp)) i j (by omega) (by omega) (D6.z i) ((hD6.rz i (by omega)).sl hs62 (fun x hx => by simp [hx])) (.inr (by omega))) rfl ?_)
                  rintro _ w72 ⟨rfl, hc73⟩
                  have hs74 := hs62.call0 hc73
                  refine L0 (wanted_none rfl) rfl (y_move (v := Value.tuple ⟨_⟩) rfl rfl) ?_
                  refine L0 (wanted_none rfl) rfl (y_extract rfl rfl rfl) ?_
                  refine L0 (wanted_none rfl) rfl (y_extract rfl rfl rfl) ?_
                  refine L0 (wanted_none rfl) rfl (y_assign (v := Value.string ⟨⟨_⟩⟩) rfl rfl) ?_
                  refine L0 (wanted_none rfl) rfl (y_assign (v := _) rfl rfl) ?_
                  refine Lnil ?_
                  refine W_seq ?_
                  refine W_seq ?_
                  refine W_region ?_
                  refine L0 (wanted_none rfl) rfl (y_move (v := _) rfl rfl) ?_
                  refine L0 (wanted_none rfl) rfl (y_neNil rfl Try.underlying24 rfl) ?_
                  refine Lnil ?_
                  refine W_condT rfl rfl ?_
                  refine W_exit ?_
                  obtain rfl : j = (D6.z i).length := by omega
                  rw [List.take_length] at hrR
                  refine W_region ?_
                  refine L0 (wanted_none rfl) rfl (y_move (v := vA) rfl rfl) ?_
                  refine L0 (wanted_none rfl) rfl (y_move (v := vR) rfl rfl) ?_
                  refine Lc (wanted_none rfl) (c_bs1 (v0 := vR) hs74 rfl rfl Try.underlying51 sz33 zr33 rfl hrR.one (fun b75 w76 hbb75 hs77 => ?_))
                  refine Lc (wanted_none rfl) (c_appendG (L0 := (b75, .cells ⟨[vR]⟩ 33 (0, 0)) :: (b24, .cells #[pv b 0] 37 (0, 0)) :: (b2, .cells #[vt] 34 (0, 0)) :: (b38, .cells ⟨icells vs3 D2.slot⟩ 47 (0, 0)) :: (eR ++ (pool ++ (im3 ++ ((b, .cells ⟨dcells vz6 D6.sure D6.slot vw6 D6.fuse⟩ 88 (0, 0)) :: (went6 ++ rows6)))))) (ent := eA) hs77 (perm_ct (fun a => by simp only [ct_append, ct_cons, ct_nil]; omega)) rfl rfl Try.underlying51 sz33 zr33 by33 rfl rfl hrA (Nat.le_refl _) (fun x hx => .inl (hrA.new x hx)) rfl (Src.ofBlock (kk := 1) (hs77.get 0 rfl) rfl) (by intro u hu; rw [List.mem_singleton.1 hu]; exact hrR.one) (by omega) (by omega) (fun vN2 eN2 w78 hrA2' hn80 hs79 => ?_))
                  have hrA2 := hrA2'
                  have hnew_hrA2 := hn80
                  have hs79 := (hs79.re (L' := (b75, .cells ⟨[vR]⟩ 33 (0, 0)) :: (b24, .cells #[pv b 0] 37 (0, 0)) :: (b2, .cells #[vt] 34 (0, 0)) :: (b38, .cells ⟨icells vs3 D2.slot⟩ 47 (0, 0)) :: (eN2 ++ ((eR ++ pool) ++ (im3 ++ ((b, .cells ⟨dcells vz6 D6.sure D6.slot vw6 D6.fuse⟩ 88 (0, 0)) :: (went6 ++ rows6)))))) (fun a => by simp only [ct_append, ct_cons, ct_nil]; omega)).drop (.inl hbb75)
                  refine L0 (wanted_none rfl) rfl (y_assign (v := vN2) rfl rfl) ?_
                  refine Lnil ?_
                  refine W_region ?_
                  refine L0 (wanted_none rfl) rfl (y_move (v := Value.int _ _) rfl rfl) ?_
                  refine L0 (wanted_none rfl) rfl (y_add64 rfl rfl rfl (by omega)) ?_
                  refine L0 (wanted_none rfl) rfl (y_assign (v := Value.int _ _) rfl rfl) ?_
                  refine Lnil ?_
                  exact ⟨(i + 1, vN2, eN2, vals ++ [vR], eR ++ pool), by first | omega | (dsimp only; done) | (dsimp only; omega), _, A_c (iv_eq (by first | omega | (dsimp only; done) | (dsimp only; omega))) (A_c rfl (A_c rfl (A_c rfl (A_c rfl (A_c rfl (rfl)))))), by first | omega | (dsimp only; done) | (dsimp only; omega), hrA2, pool_step hP (by have := hrA.1; omega) (RowIn.ofRow hrR), (fun x hx => (List.mem_append.1 hx).elim (hrR.new x) (hPf x)), hs79⟩
              · have h60' := h60
                first | replace h60' := of_decide_eq_false h60' | replace h60' := bnF' h60' | skip
                refine W_condF rfl h60 ?_
                refine W_exit ?_
                refine W_seq ?_
                obtain rfl : i = 8 := by omega
                have hKf6 : ∀ x ∈ ((b24, Obj.cells #[pv b 0] 37 (0, 0)) :: (b2, Obj.cells #[vt] 34 (0, 0)) :: (b38, Obj.cells ⟨icells vs3 D2.slot⟩ 47 (0, 0)) :: (eA ++ (pool ++ im3))), w.heap.size ≤ x.1 := fun x hx => by
                  simp only [List.mem_cons, List.mem_append] at hx
                  rcases hx with rfl | rfl | rfl | hx | hx | hx
                  · exact hbb24
                  · exact hbb2
                  · exact hbb38
                  · exact hrA.new x hx
                  · exact hPf x hx
                  · exact hI3 x hx
                refine W_region ?_
                refine L1 (wanted_none rfl) rfl hs59 (y_load 0 rfl Try.underlying37 rfl rfl rfl rfl) ?_
                refine L0 (wanted_none rfl) rfl (y_move (v := vk) rfl rfl) ?_
                refine L0 (wanted_none rfl) rfl (y_move (v := vl) rfl rfl) ?_
                refine Lc (wanted_none rfl) (c_call rfl rfl rfl Try.func22 (by kernel_rfl) rfl (crash_ok (hD6.drewn (K' := (b24, .cells #[pv b 0] 37 (0, 0)) :: (b2, .cells #[vt] 34 (0, 0)) :: (b38, .cells ⟨icells vs3 D2.slot⟩ 47 (0, 0)) :: (eA ++ (pool ++ im3))) (hs59.re (L' := ((b24, .cells #[pv b 0] 37 (0, 0)) :: (b2, .cells #[vt] 34 (0, 0)) :: (b38, .cells ⟨icells vs3 D2.slot⟩ 47 (0, 0)) :: (eA ++ (pool ++ im3))) ++ ((b, .cells ⟨dcells vz6 D6.sure D6.slot vw6 D6.fuse⟩ 88 (0, 0)) :: (went6 ++ rows6))) (fun a => by simp only [ct_append, ct_cons, ct_nil]; omega))) keep land vk vl (by omega) (by omega) (fun w2 L2 h2 hf2 => keepK hSk h2 hKf6 hf2) (fun w2 L2 h2 hf2 => keepK hSl h2 hKf6 hf2) hE6.ok (by omega) hz6) rfl ?_)
                rintro vq w81 ⟨vz7, rfl, hD7⟩
                obtain ⟨D7, hD7, e7z, e7s⟩ : ∃ D7 : Dv, DSt w ((b24, .cells #[pv b 0] 37 (0, 0)) :: (b2, .cells #[vt] 34 (0, 0)) :: (b38, .cells ⟨icells vs3 D2.slot⟩ 47 (0, 0)) :: (eA ++ (pool ++ im3))) b D7 w81 vz7 (.slice none 0 0) [] rows6 ∧ (∀ j, j < 8 → D7.z j = (D6.z j).take (crN D6 keep j)) ∧ (∀ j, j < 8 → D7.sure j = crN D6 keep j) := ⟨_, hD7, fun j hj => if_pos hj, fun j hj => if_pos hj⟩
                have hs83 := hD7.st
                have hz7 : ∀ j, j < 8 → D7.sure j ≤ (D7.z j).length ∧ (D7.z j).length ≤ 16 := fun j hj => by have h7 := crN_le (keep := keep) (hz6 j hj).1; have h8 := hz6 j hj; rw [e7z j hj, e7s j hj, List.length_take]; omega
                refine Lnil ?_
                refine W_seq ?_
                refine W_region ?_
                refine L1 (wanted_none rfl) rfl hs83 (y_load 0 rfl Try.underlying37 rfl rfl rfl rfl) ?_
                refine Lc (wanted_none rfl) (c_call rfl rfl rfl Try.func21 (by kernel_rfl) rfl (image_ok (hD7.drewn (K' := (b24, .cells #[pv b 0] 37 (0, 0)) :: (b2, .cells #[vt] 34 (0, 0)) :: (b38, .cells ⟨icells vs3 D2.slot⟩ 47 (0, 0)) :: (eA ++ (pool ++ im3))) hs83) hz7) rfl ?_)
                rintro vq w84 ⟨vs8, im8, rfl, hD8, hR8, hI8⟩
                have hs86 := hD8.st.re (L' := (b24, .cells #[pv b 0] 37 (0, 0)) :: (b2, .cells #[vt] 34 (0, 0)) :: (b38, .cells ⟨icells vs3 D2.slot⟩ 47 (0, 0)) :: (eA ++ (pool ++ (im3 ++ (im8 ++ ((b, .cells ⟨dcells vz7 D7.sure D7.slot (.slice none 0 0) D7.fuse⟩ 88 (0, 0)) :: ([] ++ rows6))))))) (fun a => by simp only [ct_append, ct_cons, ct_nil]; omega)
                have hR8' : ∀ j, j < 8 → RowIn im8 (vs8 j) ((D6.z j).take (crN D6 keep j)) := fun j hj => by have h7 := hR8 j hj; rw [imZ, if_pos hj, e7z j hj, e7s j hj, List.take_take, Nat.min_self] at h7; exact h7
                refine Lc (wanted_none rfl) (c_alloc hs86 rfl rfl zr47 (fun b87 w88 hbb87 hs89 => ?_))
                refine Lc (wanted_none rfl) (c_storeN (i := 0) hs89 rfl rfl rfl rfl sz47 (by rfl) (by intro v hv; exact ic_one hR8 v hv) rfl (by decide) (Fz.zero _) (fun w90 hs91 => ?_))
                have hs91 := hs91.at0 (c' := ⟨icells vs8 D7.slot⟩) rfl
                refine Lnil ?_
                refine W_seq ?_
                refine W_seq ?_
                refine W_region ?_
                refine L0 (wanted_none rfl) rfl (y_assign (v := Value.int _ _) rfl rfl) ?_
                refine Lnil ?_
                refine W_block ?_
                refine W_loop (G := Nat) (fun k aL wl => ∃ e, aL = A 143 ((21, iv k) :: (20, pv b87 0) :: (13, pv b38 0) :: (14, vA) :: e) ∧ k ≤ 8 ∧ St w ((b87, .cells ⟨icells vs8 D7.slot⟩ 47 (0, 0)) :: (b24, .cells #[pv b 0] 37 (0, 0)) :: (b2, .cells #[vt] 34 (0, 0)) :: (b38, .cells ⟨icells vs3 D2.slot⟩ 47 (0, 0)) :: (eA ++ (pool ++ (im3 ++ (im8 ++ ((b, .cells ⟨dcells vz7 D7.sure D7.slot (.slice none 0 0) D7.fuse⟩ 88 (0, 0)) :: ([] ++ rows6))))))) wl) (fun k => 8 - k) (0) ?_ ?_
                · exact ⟨_, A_pins _ _ [21, 20, 13, 14], Nat.zero_le _, hs91⟩
                rintro k _ w92 ⟨ehs93, rfl, hk, hs93⟩
                refine W_seq ?_
                refine W_seq ?_
                refine W_region ?_
                refine L0 (wanted_none rfl) rfl (y_move (v := Value.int _ _) rfl rfl) ?_
                refine L0 (wanted_none rfl) rfl (y_lt rfl rfl rfl) ?_
                refine Lnil ?_
                refine Wsp (t := 105) rfl (fun h94 => ?_) (fun h94 => ?_)
                · have h94' := h94
                  first | replace h94' := of_decide_eq_true h94' | replace h94' := bnT' h94' | skip
                  refine W_condT rfl h94 ?_
                  refine W_skip ?_
                  refine W_seq ?_
                  refine W_block ?_
                  refine W_seq ?_
                  have hPk := hP k (by omega)
                  obtain ⟨a, cap, hv, ha, hle, _⟩ := hPk.shape
                  rw [hv] at hPk
                  have hnk := crN_le (keep := keep) (hz6 k (by omega)).1
                  have hnk2 : (D1.z k).length ≤ crN D6 keep k := by unfold crN; rw [hE6.sure, e4s k (by omega)]; omega
                  have h16 := (hz6 k (by omega)).2
                  have hXk : (D6.z k).take ((D6.z k).take (crN D6 keep k)).length = (D6.z k).take (crN D6 keep k) := by rw [List.length_take, Nat.min_eq_left hnk]
                  have hXl : ((D6.z k).take (crN D6 keep k)).length = crN D6 keep k := by rw [List.length_take, Nat.min_eq_left hnk]
                  refine W_region ?_
                  refine L0 (wanted_none rfl) rfl (y_move (v := Value.int _ _) rfl rfl) ?_
                  refine L0 (wanted_none rfl) rfl (y_fieldAddr rfl Try.underlying47 rfl sz44 rfl) ?_
                  refine L0 (wanted_none rfl) rfl (y_indexArr rfl Try.underlying44 sz33 rfl rfl (by omega) (by omega)) ?_
                  refine L1 (wanted_none rfl) rfl hs93 (y_load 0 rfl Try.underlying33 rfl rfl rfl (ic_z vs8 D7.slot (by omega) (by omega))) ?_
                  refine L0 (wanted_none rfl) rfl (y_slenSl rfl Try.underlying33 rfl ((hR8' k (by omega)).sl hs93 (fun x hx => by simp [hx]))) ?_
                  refine L0 (wanted_none rfl) rfl (y_assign (v := Value.int _ _) rfl rfl) ?_
                  refine Lnil ?_
                  refine W_seq ?_
                  refine W_drawSt [(0, 0), (0, 1), (0, 2), (0, 3), (1, 4), (0, 5), (0, 6), (0, 7), (0, 8), (0, 9), (0, 10), (0, 11), (1, 12), (0, 13), (0, 14), (0, 15), (0, 16), (0, 17), (0, 18), (0, 21), (0, 22), (0, 25), (0, 19), (0, 23), (1, 20), (1, 24), (0, 26), (3, 27), (0, 28), (0, 29)] hs93 mixed (by kernel_rfl) (fun w95 hs96 => ?_)
                  refine E0 (wanted_none rfl) rfl (y_move (v := Value.int _ _) rfl rfl) ?_
                  refine E0 (wanted_none rfl) rfl (y_move (v := Value.int _ _) rfl rfl) ?_
                  refine E0 (wanted_none rfl) rfl (y_fieldAddr rfl Try.underlying47 rfl sz44 rfl) ?_
                  refine E0 (wanted_none rfl) rfl (y_indexArr rfl Try.underlying44 sz33 rfl rfl (by omega) (by omega)) ?_
                  refine E1 hs96 (wanted_none rfl) rfl (y_load 3 rfl Try.underlying33 rfl rfl rfl (ic_z vs3 D2.slot (by omega) (by omega))) ?_
                  refine E0 (wanted_none rfl) rfl (y_slenSl rfl Try.underlying33 rfl ((hR3' k (by omega)).sl hs96 (fun x hx => by simp [hx]))) ?_
                  refine E0 (wanted_none rfl) rfl (y_lt rfl rfl rfl) ?_
                  refine E0 (wanted_none rfl) rfl (y_move (v := Value.bool _) rfl rfl) ?_
                  refine Ekn (t := 120) (b0 := false) rfl (by exact decide_eq_false (by omega)) (fun h97 => ?_)
                  refine E0 (wanted_yesB rfl rfl rfl h97) rfl (y_move (v := Value.int _ _) rfl rfl) ?_
                  refine E0 (wanted_yesB rfl rfl rfl h97) rfl (y_move (v := vA) rfl rfl) ?_
                  refine E0 (wanted_yesB rfl rfl rfl h97) rfl (y_move (v := Value.int _ _) rfl rfl) ?_
                  refine E0 (wanted_yesB rfl rfl rfl h97) rfl (y_indexRow rfl Try.underlying51 sz33 rfl rfl hrA (by omega) (by omega)) ?_
                  refine E1 hs96 (wanted_yesB rfl rfl rfl h97) rfl ((y_loadRow1 k rfl Try.underlying33 rfl rfl hrA (fun x hx => by simp [hx]) rfl (by omega) hv)) ?_
                  refine E0 (wanted_yesB rfl rfl rfl h97) rfl (y_slen rfl Try.underlying33 rfl) ?_
                  refine E0 (wanted_yesB rfl rfl rfl h97) rfl (y_gt rfl rfl rfl) ?_
                  refine E0 (wanted_none rfl) rfl (y_pickF rfl rfl h97 rfl) ?_
                  refine E0 (wanted_none rfl) rfl (y_move (v := Value.bool _) rfl rfl) ?_
                  refine Ekn (t := 129) (b0 := false) rfl (by exact decide_eq_false (by omega)) (fun h98 => ?_)
                  refine E0 (wanted_yesB rfl rfl rfl h98) rfl (y_move (v := Value.int _ _) rfl rfl) ?_
                  refine E0 (wanted_yesB rfl rfl rfl h98) rfl (y_fieldAddr rfl Try.underlying47 rfl sz44 rfl) ?_
                  refine E0 (wanted_yesB rfl rfl rfl h98) rfl (y_move (v := vA) rfl rfl) ?_
                  refine E0 (wanted_yesB rfl rfl rfl h98) rfl (y_move (v := Value.int _ _) rfl rfl) ?_
                  refine E0 (wanted_yesB rfl rfl rfl h98) rfl (y_move (v := Value.int _ _) rfl rfl) ?_
                  refine E0 (wanted_yesB rfl rfl rfl h98) rfl (y_indexArr rfl Try.underlying44 sz33 rfl rfl (by omega) (by omega)) ?_
                  refine E0 (wanted_yesB rfl rfl rfl h98) rfl (y_indexRow rfl Try.underlying51 sz33 rfl rfl hrA (by omega) (by omega)) ?_
                  refine E1 hs96 (wanted_yesB rfl rfl rfl h98) rfl (y_load 0 rfl Try.underlying33 rfl rfl rfl (ic_z vs8 D7.slot (by omega) (by omega))) ?_
                  refine E1 hs96 (wanted_yesB rfl rfl rfl h98) rfl ((y_loadRow1 k rfl Try.underlying33 rfl rfl hrA (fun x hx => by simp [hx]) rfl (by omega) hv)) ?_
                  refine E0 (wanted_yesB rfl rfl rfl h98) rfl (y_slHi rfl Try.underlying33 sz9 rfl ha rfl (by omega)) ?_
                  refine E3 (wanted_yesB rfl rfl rfl h98) (c_call rfl rfl rfl Try.func25 (by kernel_rfl) rfl (zequal_any ((D6.z k).take (crN D6 keep k)) (vs8 k) _ (by rw [List.length_take]; omega) w95 ((hR8' k (by omega)).sl hs96 (fun x hx => by simp [hx])) (by have h7 := (hPk.take (n := ((D6.z k).take (crN D6 keep k)).length) (by rw [List.length_take]; omega)).sl hs96 (fun x hx => by simp [hx]); rw [hXk] at h7; exact h7)) rfl ?_)
                  rintro _ w99 ⟨rfl, hc100⟩
                  have hs101 := hs96.call0 hc100
                  refine ⟨fun _ => hs101, ?_⟩
                  refine E0 (wanted_yesB rfl rfl rfl h98) rfl (y_not rfl rfl) ?_
                  refine E0 (wanted_none rfl) rfl (y_pickF rfl rfl h98 rfl) ?_
                  refine Enil ?_
                  refine Wkn (t := 142) (b0 := false) rfl (by rfl) (fun h102 => ?_)
                  refine W_condF rfl h102 ?_
                  refine W_skip ?_
                  refine W_region ?_
                  refine L0 (wanted_none rfl) rfl (y_move (v := Value.int _ _) rfl rfl) ?_
                  refine L0 (wanted_none rfl) rfl (y_add64 rfl rfl rfl (by omega)) ?_
                  refine L0 (wanted_none rfl) rfl (y_assign (v := Value.int _ _) rfl rfl) ?_
                  refine Lnil ?_
                  exact ⟨k + 1, by first | omega | (dsimp only; done) | (dsimp only; omega), _, A_c (iv_eq (by first | omega | (dsimp only; done) | (dsimp only; omega))) (A_c rfl (A_c rfl (A_c rfl (rfl)))), by omega, hs101⟩
                · have h94' := h94
                  first | replace h94' := of_decide_eq_false h94' | replace h94' := bnF' h94' | skip
                  refine W_condF rfl h94 ?_
                  refine W_exit ?_
                  refine W_seq ?_
                  have hKe : ∀ x ∈ ((b87, Obj.cells ⟨icells vs8 D7.slot⟩ 47 (0, 0)) :: (b24, Obj.cells #[pv b 0] 37 (0, 0)) :: (b2, Obj.cells #[vt] 34 (0, 0)) :: (b38, Obj.cells ⟨icells vs3 D2.slot⟩ 47 (0, 0)) :: (eA ++ (pool ++ (im3 ++ im8)))), w.heap.size ≤ x.1 := fun x hx => by
                    simp only [List.mem_cons, List.mem_append] at hx
                    rcases hx with rfl | rfl | rfl | rfl | hx | hx | hx | hx
                    · exact hbb87
                    · exact hbb24
                    · exact hbb2
                    · exact hbb38
                    · exact hrA.new x hx
                    · exact hPf x hx
                    · exact hI3 x hx
                    · exact hI8 x hx
                  refine W_region ?_
                  refine L0 (wanted_none rfl) rfl (y_assign (v := Value.bool _) rfl rfl) ?_
                  refine Lnil ?_
                  refine W_ret ?_
                  refine fin1 (fn := Try.f5) rfl rfl ?_
                  first | exact ⟨rfl, hs93.drop (.inl hbb2)⟩ | exact ⟨rfl, St.dropR (L := []) (hs93.re (L' := ((b87, .cells ⟨icells vs8 D7.slot⟩ 47 (0, 0)) :: (b24, .cells #[pv b 0] 37 (0, 0)) :: (b2, .cells #[vt] 34 (0, 0)) :: (b38, .cells ⟨icells vs3 D2.slot⟩ 47 (0, 0)) :: (eA ++ (pool ++ (im3 ++ im8)))) ++ ((b, .cells ⟨dcells vz7 D7.sure D7.slot (.slice none 0 0) D7.fuse⟩ 88 (0, 0)) :: ([] ++ rows6))) (fun a => by simp only [ct_append, ct_cons, ct_nil]; omega)) (fun x hx => (List.mem_append.1 hx).elim (hKe x) (hD7.fresh x))⟩
end Go.Proofs.Ytkolfgmpmnelmaa

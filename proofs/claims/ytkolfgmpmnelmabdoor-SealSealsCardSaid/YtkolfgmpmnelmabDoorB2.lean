/-
  Walks: ref.Block.
-/
import Derived.Test.YtkolfgmpmnelmabDoorB1
import Derived.Test.YtkolfgmpmnelmabDoorS4
namespace Go.Proofs.YtkolfgmpmnelmabDoor
open Go Vx Go.Proofs
set_option linter.unusedVariables false
set_option maxRecDepth 4000
set_option maxHeartbeats 400000

theorem Vx.Row.weaken {B B' E s : Nat} {v : Value} {m : Nat} {xs : List Value} {ent : Blocks} (h : Row B E s v m xs ent) (hB : B' ≤ B) : Row B' E s v m xs ent := by
  refine ⟨h.1, ?_⟩
  rcases h.2 with h' | ⟨g, cap, cur, fz, h1, h2, h3, h4⟩
  · exact .inl h'
  · exact .inr ⟨g, cap, cur, fz, h1, h2, Nat.le_trans hB h3, h4⟩
theorem Vx.Row.keys_new {B E s : Nat} {v : Value} {m : Nat} {xs : List Value} {ent : Blocks} (h : Row B E s v m xs ent) : ∀ k ∈ keys ent, B ≤ k := fun k hk => by
  obtain ⟨x, hx, rfl⟩ := List.mem_map.1 hk
  exact h.new x hx
theorem Vx.Row.empty {B E s b : Nat} (hB : B ≤ b) : Row B E s (.slice (some ⟨b, 0, none⟩) 0 0) 0 [] [(b, .cells ⟨[]⟩ E (0, 0))] :=
  ⟨by simp, .inr ⟨b, 0, ⟨[]⟩, (0, 0), rfl, rfl, hB, Nat.le_refl _, Nat.zero_le _, by simp, by simp, Fz.zero _⟩⟩
theorem row_words {B E : Nat} {v : Value} {m : Nat} {cs : List UInt32} {ent : Blocks} (hr : Row B E 1 v m (cs.map uv) ent) (hm : 0 < m) :
    ∃ g cap tl fz, v = .slice (some ⟨g, 0, none⟩) m cap ∧ ent = [(g, .cells (usT cs tl) E fz)] ∧ B ≤ g ∧ Fz fz (m + tl.length) ∧ cs.length = m := by
  have hl : cs.length = m := by have := hr.1; simpa using this
  rcases hr.2 with ⟨_, h, _⟩ | ⟨g, cap, cur, fz, h1, h2, h3, h4, h5, h6, h7, h8⟩
  · omega
  · have hc : cur = usT cs (cur.toList.drop m) := by
      apply Array.ext'
      show cur.toList = cs.map uv ++ cur.toList.drop m
      rw [← h7, Nat.mul_one, List.take_append_drop]
    refine ⟨g, cap, cur.toList.drop m, fz, h1, by rw [h2]; rw [← hc], h3, ?_, hl⟩
    have : m + (cur.toList.drop m).length = cur.size := by
      have := congrArg Array.size hc
      rw [usT_size, hl] at this; exact this.symm
    rw [this]; exact h8
theorem rblock_err (key nonce : List UInt8) (n : Int) (h : ¬ (key.length = 32 ∧ nonce.length = 12 ∧ 0 ≤ n ∧ n < 4294967296)) (w : World) :
    C Tryd.prog 131 ⟨[str key, iv n, str nonce]⟩ w fun v w' => v = .tuple #[str [], iv 1] ∧ St w [] w' := by
  refine C_enter (n := 107) Tryd.func131 rfl rfl rfl (fun w1 hs1 => ?_)
  refine W_seq ?_
  refine W_region ?_
  refine L0 (wanted_none rfl) rfl (y_assign (v := Value.string ⟨⟨_⟩⟩) rfl rfl) ?_
  refine L0 (wanted_none rfl) rfl (y_assign (v := Value.int _ _) rfl rfl) ?_
  refine Lnil ?_
  refine W_seq ?_
  refine W_seq ?_
  refine W_region ?_
  refine L0 (wanted_none rfl) rfl (y_move (v := Value.string ⟨⟨_⟩⟩) rfl rfl) ?_
  refine L0 (wanted_none rfl) rfl (y_len rfl Tryd.underlying9 rfl) ?_
  refine L0 (wanted_none rfl) rfl (y_ne rfl rfl rfl) ?_
  refine L0 (wanted_none rfl) rfl (y_move (v := Value.bool _) rfl rfl) ?_
  refine Lsp (t := 19) rfl (fun h2 => ?_) (fun h2 => ?_)
  · have h2' := h2
    first | replace h2' := of_decide_eq_true h2' | replace h2' := bnT' h2' | skip
    refine Lno (wanted_noB rfl rfl rfl h2 (by decide)) rfl ?_
    refine Lno (wanted_noB rfl rfl rfl h2 (by decide)) rfl ?_
    refine Lno (wanted_noB rfl rfl rfl h2 (by decide)) rfl ?_
    refine L0 (wanted_none rfl) rfl (y_pickT rfl rfl h2 rfl) ?_
    refine L0 (wanted_none rfl) rfl (y_move (v := Value.bool _) rfl rfl) ?_
    refine Lno (wanted_noB rfl rfl rfl rfl (by decide)) rfl ?_
    refine Lno (wanted_noB rfl rfl rfl rfl (by decide)) rfl ?_
    refine Lno (wanted_noB rfl rfl rfl rfl (by decide)) rfl ?_
    refine L0 (wanted_none rfl) rfl (y_pickT rfl rfl (rfl : true = true) rfl) ?_
    refine Lnil ?_
    refine W_condT rfl rfl ?_
    refine W_seq ?_
    refine W_region ?_
    refine L0 (wanted_none rfl) rfl (y_assign (v := Value.string ⟨⟨_⟩⟩) rfl rfl) ?_
    refine L0 (wanted_none rfl) rfl (y_assign (v := Value.int _ _) rfl rfl) ?_
    refine Lnil ?_
    refine W_ret ?_
    refine fin2 (fn := Tryd.f131) rfl rfl rfl ?_
    exact ⟨rfl, hs1⟩
  · have h2' := h2
    first | replace h2' := of_decide_eq_false h2' | replace h2' := bnF' h2' | skip
    refine L0 (wanted_yesB rfl rfl rfl h2) rfl (y_move (v := Value.string ⟨⟨_⟩⟩) rfl rfl) ?_
    refine L0 (wanted_yesB rfl rfl rfl h2) rfl (y_len rfl Tryd.underlying9 rfl) ?_
    refine L0 (wanted_yesB rfl rfl rfl h2) rfl (y_ne rfl rfl rfl) ?_
    refine L0 (wanted_none rfl) rfl (y_pickF rfl rfl h2 rfl) ?_
    refine L0 (wanted_none rfl) rfl (y_move (v := Value.bool _) rfl rfl) ?_
    refine Lsp (t := 24) rfl (fun h3 => ?_) (fun h3 => ?_)
    · have h3' := h3
      first | replace h3' := of_decide_eq_true h3' | replace h3' := bnT' h3' | skip
      refine Lno (wanted_noB rfl rfl rfl h3 (by decide)) rfl ?_
      refine Lno (wanted_noB rfl rfl rfl h3 (by decide)) rfl ?_
      refine Lno (wanted_noB rfl rfl rfl h3 (by decide)) rfl ?_
      refine L0 (wanted_none rfl) rfl (y_pickT rfl rfl h3 rfl) ?_
      refine Lnil ?_
      refine W_condT rfl rfl ?_
      refine W_seq ?_
      refine W_region ?_
      refine L0 (wanted_none rfl) rfl (y_assign (v := Value.string ⟨⟨_⟩⟩) rfl rfl) ?_
      refine L0 (wanted_none rfl) rfl (y_assign (v := Value.int _ _) rfl rfl) ?_
      refine Lnil ?_
      refine W_ret ?_
      refine fin2 (fn := Tryd.f131) rfl rfl rfl ?_
      exact ⟨rfl, hs1⟩
    · have h3' := h3
      first | replace h3' := of_decide_eq_false h3' | replace h3' := bnF' h3' | skip
      refine L0 (wanted_yesB rfl rfl rfl h3) rfl (y_move (v := Value.int _ _) rfl rfl) ?_
      refine Lc (wanted_yesB rfl rfl rfl h3) (c_call rfl rfl rfl Tryd.func82 (by kernel_rfl) rfl (in_any n 0 4294967295 w1) rfl ?_)
      rintro _ w4 ⟨rfl, hc5⟩
      have hs6 := hs1.call0 hc5
      refine L0 (wanted_yesB rfl rfl rfl h3) rfl (y_not rfl rfl) ?_
      refine L0 (wanted_none rfl) rfl (y_pickF rfl rfl h3 rfl) ?_
      refine Lnil ?_
      refine Wkn (t := 28) (b0 := true) rfl (by exact bnT (by omega)) (fun h7 => ?_)
      refine W_condT rfl h7 ?_
      refine W_seq ?_
      refine W_region ?_
      refine L0 (wanted_none rfl) rfl (y_assign (v := Value.string ⟨⟨_⟩⟩) rfl rfl) ?_
      refine L0 (wanted_none rfl) rfl (y_assign (v := Value.int _ _) rfl rfl) ?_
      refine Lnil ?_
      refine W_ret ?_
      refine fin2 (fn := Tryd.f131) rfl rfl rfl ?_
      exact ⟨rfl, hs6⟩
theorem mix_col (cs : List UInt32) (tl : List Value) (bb cap i : Nat) (fz : Nat × Nat) (hl : cs.length = 16) (hi : i < 4) (hfz : Fz fz (16 + tl.length)) (w : World) (hw : w.heap[bb]? = some (.cells (usT cs tl) 123 fz)) :
    C Tryd.prog 155 ⟨[.slice (some ⟨bb, 0, none⟩) 16 cap, .agg ⟨[iv i, iv (4 + i), iv (8 + i), iv (12 + i)]⟩]⟩ w fun v w' => v = .tuple #[] ∧ St w [(bb, .cells (usT (colR cs i) tl) 123 fz)] w' :=
  mix_any cs tl bb cap i (4 + i) (8 + i) (12 + i) fz hl (by omega) (by omega) (by omega) (by omega) hfz w hw
theorem mix_dia (cs : List UInt32) (tl : List Value) (bb cap i : Nat) (fz : Nat × Nat) (hl : cs.length = 16) (hi : i < 4) (hfz : Fz fz (16 + tl.length)) (w : World) (hw : w.heap[bb]? = some (.cells (usT cs tl) 123 fz)) :
    C Tryd.prog 155 ⟨[.slice (some ⟨bb, 0, none⟩) 16 cap, .agg ⟨[iv i, iv (4 + (i + 1) % 4), iv (8 + (i + 2) % 4), iv (12 + (i + 3) % 4)]⟩]⟩ w fun v w' => v = .tuple #[] ∧ St w [(bb, .cells (usT (diaR cs i) tl) 123 fz)] w' := by
  have h := mix_any cs tl bb cap i (4 + (i + 1) % 4) (8 + (i + 2) % 4) (12 + (i + 3) % 4) fz hl (by omega) (by omega) (by omega) (by omega) hfz w hw
  simpa [diaR] using h
def stepR (k : Nat) (s : List UInt32) (i : Nat) : List UInt32 := if k % 2 = 1 then diaR s i else colR s i
theorem stepR_len (k : Nat) (s : List UInt32) (i : Nat) : (stepR k s i).length = s.length := by
  unfold stepR; split
  · exact diaR_len _ _
  · exact colR_len _ _
theorem stepR_half (k : Nat) (s : List UInt32) : iter (stepR k) s 4 = halfR s k := by
  unfold halfR
  by_cases h : k % 2 = 1
  · have : stepR k = diaR := by funext s i; rw [stepR, if_pos h]
    rw [this, if_pos h]
  · have : stepR k = colR := by funext s i; rw [stepR, if_neg h]
    rw [this, if_neg h]
theorem les_len (x : UInt32) : ∀ j, (les x j).length = j
  | 0 => rfl
  | j + 1 => by rw [les, List.length_append, les_len x j]; rfl
theorem startW_lenK {key nonce : List UInt8} (n : Int) : (startW key n nonce).length = 16 := startW_len key n nonce
set_option maxHeartbeats 4000000 in
theorem rblock_any (key nonce : List UInt8) (n : Int) (hk : key.length = 32) (hn : nonce.length = 12) (h0 : 0 ≤ n) (h1 : n < 4294967296) (w : World) :
    C Tryd.prog 131 ⟨[str key, iv n, str nonce]⟩ w fun v w' => v = .tuple #[str (blockOf key n nonce), iv 0] ∧ St w [] w' := by
  have eA : (expand ++ key).length / 4 = 12 := by rw [List.length_append, hk]; rfl
  have eN : nonce.length / 4 = 3 := by rw [hn]
  rw [← refBlock_eq]
  refine C_enter (n := 107) Tryd.func131 rfl rfl rfl (fun w1 hs1 => ?_)
  refine W_seq ?_
  refine W_region ?_
  refine L0 (wanted_none rfl) rfl (y_assign (v := Value.string ⟨⟨_⟩⟩) rfl rfl) ?_
  refine L0 (wanted_none rfl) rfl (y_assign (v := Value.int _ _) rfl rfl) ?_
  refine Lnil ?_
  refine W_seq ?_
  refine W_seq ?_
  refine W_region ?_
  refine L0 (wanted_none rfl) rfl (y_move (v := Value.string ⟨⟨_⟩⟩) rfl rfl) ?_
  refine L0 (wanted_none rfl) rfl (y_len rfl Tryd.underlying9 rfl) ?_
  refine L0 (wanted_none rfl) rfl (y_ne rfl rfl rfl) ?_
  refine L0 (wanted_none rfl) rfl (y_move (v := Value.bool _) rfl rfl) ?_
  refine Lkn (t := 19) (b0 := false) rfl (by first | exact decide_eq_false (by omega) | exact bnF (by omega) | (simp; omega)) (fun h2 => ?_)
  refine L0 (wanted_yesB rfl rfl rfl h2) rfl (y_move (v := Value.string ⟨⟨_⟩⟩) rfl rfl) ?_
  refine L0 (wanted_yesB rfl rfl rfl h2) rfl (y_len rfl Tryd.underlying9 rfl) ?_
  refine L0 (wanted_yesB rfl rfl rfl h2) rfl (y_ne rfl rfl rfl) ?_
  refine L0 (wanted_none rfl) rfl (y_pickF rfl rfl h2 rfl) ?_
  refine L0 (wanted_none rfl) rfl (y_move (v := Value.bool _) rfl rfl) ?_
  refine Lkn (t := 24) (b0 := false) rfl (by first | exact decide_eq_false (by omega) | exact bnF (by omega) | (simp; omega)) (fun h3 => ?_)
  refine L0 (wanted_yesB rfl rfl rfl h3) rfl (y_move (v := Value.int _ _) rfl rfl) ?_
  refine Lc (wanted_yesB rfl rfl rfl h3) (c_call rfl rfl rfl Tryd.func82 (by kernel_rfl) rfl (in_any n 0 4294967295 w1) rfl ?_)
  rintro _ w4 ⟨rfl, hc5⟩
  have hs6 := hs1.call0 hc5
  refine L0 (wanted_yesB rfl rfl rfl h3) rfl (y_not rfl rfl) ?_
  refine L0 (wanted_none rfl) rfl (y_pickF rfl rfl h3 rfl) ?_
  refine Lnil ?_
  refine Wkn (t := 28) (b0 := false) rfl (by first | exact decide_eq_false (by omega) | exact bnF (by omega) | (simp; omega)) (fun h7 => ?_)
  refine W_condF rfl h7 ?_
  refine W_skip ?_
  refine W_seq ?_
  refine W_region ?_
  refine L0 (wanted_none rfl) rfl (y_move (v := Value.string ⟨⟨_⟩⟩) rfl rfl) ?_
  refine L0 (wanted_none rfl) rfl (y_scat rfl rfl rfl (by first | omega | (simp; omega) | (simp only [List.length_append, List.length_cons, List.length_nil]; omega))) ?_
  refine Lc (wanted_none rfl) (c_call rfl rfl rfl Tryd.func154 (by kernel_rfl) rfl (words_any (expand ++ key) (by rw [List.length_append, hk]; decide) w4) rfl ?_)
  rintro vA w8 ⟨entA, hrA, hc9⟩
  have hrA0 := hrA
  replace hrA := hrA.weaken hs6.size
  rw [eA] at hrA
  have hs10 := hs6.call_new hc9 (fun k hk => hrA0.keys_new k hk)
  rw [List.append_nil] at hs10
  refine L0 (wanted_none rfl) rfl (y_assign (v := vA) rfl rfl) ?_
  refine Lnil ?_
  refine W_seq ?_
  refine W_region ?_
  refine L0 (wanted_none rfl) rfl (y_move (v := vA) rfl rfl) ?_
  refine L0 (wanted_none rfl) rfl (y_move (v := Value.int _ _) rfl rfl) ?_
  refine L0 (wanted_none rfl) rfl (y_cito32 rfl Tryd.underlying3 Tryd.underlying123 rfl) ?_
  refine Lc (wanted_none rfl) (c_bs1 (v0 := uv _) hs10 rfl rfl Tryd.underlying213 sz123 zr123 rfl rfl (fun b11 w12 hbb11 hs13 => ?_))
  refine Lc (wanted_none rfl) (c_appendG (L0 := [(b11, .cells ⟨[uv (u32of n)]⟩ 123 (0, 0))]) (ent := entA) hs13 (List.Perm.refl _) rfl rfl Tryd.underlying213 sz123 zr123 by123 rfl rfl hrA (Nat.le_refl _) (fun x hx => .inl (hrA.new x hx)) rfl (Src.ofBlock (kk := 1) (hs13.get 0 rfl) rfl) (by simp [Value.oneCell']) (by omega) (by omega) (fun v14 entS1 w15 hrS1' hn17 hs16 => ?_))
  have hrS1 := hrS1'
  have hnew_hrS1 := hn17
  refine L0 (wanted_none rfl) rfl (y_move (v := Value.string ⟨⟨_⟩⟩) rfl rfl) ?_
  refine Lc (wanted_none rfl) (c_call rfl rfl rfl Tryd.func154 (by kernel_rfl) rfl (words_any nonce (by omega) w15) rfl ?_)
  rintro vN w18 ⟨entN, hrN, hc19⟩
  have hrN0 := hrN
  replace hrN := hrN.weaken hs16.size
  rw [eN] at hrN
  have hs20 := hs16.call_new hc19 (fun k hk => hrN0.keys_new k hk)
  refine Lc (wanted_none rfl) (c_appendG (L0 := entN ++ [(b11, .cells ⟨[uv (u32of n)]⟩ 123 (0, 0))]) (ent := entS1) hs20 (by rw [List.append_assoc]) rfl rfl Tryd.underlying213 sz123 zr123 by123 rfl rfl hrS1 (Nat.le_refl _) (fun x hx => .inl (hrS1.new x hx)) rfl (Src.ofRow hrN hs20 (fun x hx => List.mem_append_left _ hx)) (by intro u hu; obtain ⟨x, _, rfl⟩ := List.mem_map.1 hu; rfl) (by omega) (by omega) (fun vS entS w21 hrS' hn23 hs22 => ?_))
  have hrS := hrS'
  have hnew_hrS := hn23
  rw [List.append_assoc] at hs22
  replace hs22 : St w entS w21 := St.drop (St.dropL hs22 (fun x hx => hrN.new x hx)) (.inl hbb11)
  replace hrS : Row w.heap.size 123 1 vS 16 ((startW key n nonce).map uv) entS := by
    have h := hrS
    simp only [startW, List.map_append] at h ⊢
    exact h
  refine L0 (wanted_none rfl) rfl (y_assign (v := vS) rfl rfl) ?_
  refine Lnil ?_
  refine W_seq ?_
  refine W_region ?_
  refine Lc (wanted_none rfl) (c_buildSlice0 hs22 rfl rfl Tryd.underlying213 sz123 (fun b24 w25 hbb24 hs26 => ?_))
  refine L0 (wanted_none rfl) rfl (y_move (v := vS) rfl rfl) ?_
  refine Lc (wanted_none rfl) (c_appendG (L0 := entS) (ent := [(b24, .cells ⟨[]⟩ 123 (0, 0))]) hs26 (List.perm_append_comm (l₁ := [_])) rfl rfl Tryd.underlying213 sz123 zr123 by123 rfl rfl (Row.empty (s := 1) hbb24) (Nat.le_refl _) (fun x hx => .inl ((Row.empty (s := 1) hbb24).new x hx)) rfl (Src.ofRow hrS hs26 (fun x hx => List.mem_cons_of_mem _ hx)) (by intro u hu; obtain ⟨x, _, rfl⟩ := List.mem_map.1 hu; rfl) (by decide) (by decide) (fun vT entT w27 hrT' hn29 hs28 => ?_))
  have hrT := hrT'
  have hnew_hrT := hn29
  rw [List.nil_append] at hrT
  obtain ⟨gs, caps, tls, fzs, rfl, rfl, hgs, hfs, hlS⟩ := row_words hrS (by decide)
  obtain ⟨gt, capt, tlt, fzt, rfl, rfl, hgt, hft, hlT⟩ := row_words hrT (by decide)
  obtain ⟨S, eS⟩ : ∃ x, x = startW key n nonce := ⟨_, rfl⟩
  rw [← eS] at hs28 hlS
  change St w [(gs, _), (gt, _)] _ at hs28
  refine L0 (wanted_none rfl) rfl (y_assign (v := Value.slice _ _ _) rfl rfl) ?_
  refine Lnil ?_
  refine W_seq ?_
  refine W_seq ?_
  refine W_region ?_
  refine L0 (wanted_none rfl) rfl (y_move (v := Value.int _ _) rfl rfl) ?_
  refine Lnil ?_
  refine W_block ?_
  refine W_loop (G := Nat) (fun k aL wl => ∃ e, aL = A 107 ((43, iv k) :: (9, .slice (some ⟨gt, 0, none⟩) 16 capt) :: (8, .slice (some ⟨gs, 0, none⟩) 16 caps) :: e) ∧ k ≤ 20 ∧ St w [(gs, .cells (usT S tls) 123 fzs), (gt, .cells (usT (iter halfR S k) tlt) 123 fzt)] wl) (fun k => 20 - k) (0) ?_ ?_
  · exact ⟨_, A_pins _ _ [43, 9, 8], by omega, hs28⟩
  rintro k _ w30 ⟨ehs31, rfl, hk20, hs31⟩
  obtain ⟨T, eT⟩ : ∃ x, x = iter halfR S k := ⟨_, rfl⟩
  rw [← eT] at hs31
  have lT : T.length = 16 := by rw [eT, iter_len _ halfR_len, hlS]
  refine W_seq ?_
  refine W_region ?_
  refine L0 (wanted_none rfl) rfl (y_lt rfl rfl rfl) ?_
  refine Lnil ?_
  refine W_seq ?_
  refine Wsp (t := 44) rfl (fun h32 => ?_) (fun h32 => ?_)
  · have h32' := h32
    first | replace h32' := of_decide_eq_true h32' | replace h32' := bnT' h32' | skip
    refine W_condT rfl h32 ?_
    refine W_skip ?_
    refine W_seq ?_
    refine W_block ?_
    refine W_seq ?_
    refine W_region ?_
    refine L0 (wanted_none rfl) rfl (y_move (v := Value.int _ _) rfl rfl) ?_
    refine L0 (wanted_none rfl) rfl (y_assign (v := Value.int _ _) rfl rfl) ?_
    refine Lnil ?_
    refine W_seq ?_
    refine W_region ?_
    refine L0 (wanted_none rfl) rfl (y_move (v := Value.int _ _) rfl rfl) ?_
    refine Lnil ?_
    refine W_block ?_
    refine W_loop (G := Nat) (fun i aL wl => ∃ e, aL = A 107 ((46, iv i) :: (10, iv k) :: (43, iv k) :: (9, .slice (some ⟨gt, 0, none⟩) 16 capt) :: (8, .slice (some ⟨gs, 0, none⟩) 16 caps) :: e) ∧ i ≤ 4 ∧ St w [(gs, .cells (usT S tls) 123 fzs), (gt, .cells (usT (iter (stepR k) T i) tlt) 123 fzt)] wl) (fun i => 4 - i) (0) ?_ ?_
    · exact ⟨_, A_pins _ _ [46, 10, 43, 9, 8], by omega, hs31⟩
    rintro i _ w33 ⟨ehs34, rfl, hi4, hs34⟩
    have lI := iter_len _ (stepR_len k) T i
    rw [lT] at lI
    refine W_seq ?_
    refine W_region ?_
    refine L0 (wanted_none rfl) rfl (y_lt rfl rfl rfl) ?_
    refine Lnil ?_
    refine W_seq ?_
    refine Wsp (t := 47) rfl (fun h35 => ?_) (fun h35 => ?_)
    · have h35' := h35
      first | replace h35' := of_decide_eq_true h35' | replace h35' := bnT' h35' | skip
      refine W_condT rfl h35 ?_
      refine W_skip ?_
      refine W_seq ?_
      refine W_block ?_
      refine W_seq ?_
      refine W_region ?_
      refine L0 (wanted_none rfl) rfl (y_move (v := Value.int _ _) rfl rfl) ?_
      refine L0 (wanted_none rfl) rfl (y_assign (v := Value.int _ _) rfl rfl) ?_
      refine Lnil ?_
      refine W_seq ?_
      refine W_region ?_
      refine L0 (wanted_none rfl) rfl (y_move (v := Value.int _ _) rfl rfl) ?_
      refine L0 (wanted_none rfl) rfl (y_move (v := Value.int _ _) rfl rfl) ?_
      refine L0 (wanted_none rfl) rfl (y_add64 rfl rfl rfl (by omega)) ?_
      refine L0 (wanted_none rfl) rfl (y_move (v := Value.int _ _) rfl rfl) ?_
      refine L0 (wanted_none rfl) rfl (y_add64 rfl rfl rfl (by omega)) ?_
      refine L0 (wanted_none rfl) rfl (y_move (v := Value.int _ _) rfl rfl) ?_
      refine L0 (wanted_none rfl) rfl (y_add64 rfl rfl rfl (by omega)) ?_
      refine L0 (wanted_none rfl) rfl (y_buildA4 (v0 := iv _) (v1 := iv _) (v2 := iv _) (v3 := iv _) rfl Tryd.underlying215 zr215 sz3 rfl rfl rfl rfl rfl rfl rfl rfl ) ?_
      refine Lc (wanted_none rfl) (c_alloc hs34 rfl rfl zr215 (fun b36 w37 hbb36 hs38 => ?_))
      refine Lc (wanted_none rfl) (c_storeN (i := 0) hs38 rfl rfl rfl rfl sz215 (by rfl) (by simp [Value.oneCell']) rfl (by decide) (Fz.zero _) (fun w39 hs40 => ?_))
      refine Lnil ?_
      refine W_seq ?_
      refine W_seq ?_
      by_cases hodd : k % 2 = 1
      · skip
        refine W_region ?_
        refine L0 (wanted_none rfl) rfl (y_move (v := Value.int _ _) rfl rfl) ?_
        refine L0 (wanted_none rfl) rfl (y_rem64 rfl rfl rfl (by omega) (by omega)) ?_
        refine L0 (wanted_none rfl) rfl (y_eq rfl rfl rfl) ?_
        refine Lnil ?_
        refine Wkn (t := 59) (b0 := true) rfl (by exact decide_eq_true (by omega)) (fun h41 => ?_)
        refine W_condT rfl h41 ?_
        refine W_region ?_
        refine L0 (wanted_none rfl) rfl (y_move (v := Value.int _ _) rfl rfl) ?_
        refine L0 (wanted_none rfl) rfl (y_move (v := Value.int _ _) rfl rfl) ?_
        refine L0 (wanted_none rfl) rfl (y_add64 rfl rfl rfl (by omega)) ?_
        refine L0 (wanted_none rfl) rfl (y_rem64 rfl rfl rfl (by omega) (by omega)) ?_
        refine L0 (wanted_none rfl) rfl (y_add64 rfl rfl rfl (by omega)) ?_
        refine L0 (wanted_none rfl) rfl (y_move (v := Value.int _ _) rfl rfl) ?_
        refine L0 (wanted_none rfl) rfl (y_add64 rfl rfl rfl (by omega)) ?_
        refine L0 (wanted_none rfl) rfl (y_rem64 rfl rfl rfl (by omega) (by omega)) ?_
        refine L0 (wanted_none rfl) rfl (y_add64 rfl rfl rfl (by omega)) ?_
        refine L0 (wanted_none rfl) rfl (y_move (v := Value.int _ _) rfl rfl) ?_
        refine L0 (wanted_none rfl) rfl (y_add64 rfl rfl rfl (by omega)) ?_
        refine L0 (wanted_none rfl) rfl (y_rem64 rfl rfl rfl (by omega) (by omega)) ?_
        refine L0 (wanted_none rfl) rfl (y_add64 rfl rfl rfl (by omega)) ?_
        refine L0 (wanted_none rfl) rfl (y_buildA4 (v0 := iv _) (v1 := iv _) (v2 := iv _) (v3 := iv _) rfl Tryd.underlying215 zr215 sz3 rfl rfl rfl rfl rfl rfl rfl rfl ) ?_
        refine Lc (wanted_none rfl) (c_storeN (i := 0) hs40 rfl rfl rfl rfl sz215 (by rfl) (by simp [Value.oneCell']) rfl (by simp) (Fz.zero _) (fun w42 hs43 => ?_))
        refine Lnil ?_
        refine W_region ?_
        refine L0 (wanted_none rfl) rfl (y_move (v := Value.slice _ _ _) rfl rfl) ?_
        refine L1 (wanted_none rfl) rfl hs43 (y_loadN 0 rfl Tryd.underlying215 rfl sz215 rfl rfl (by first | decide | (simp; done) | (simp; omega))) ?_
        refine Lc (wanted_none rfl) (c_call rfl rfl rfl Tryd.func155 (by kernel_rfl) rfl (mix_dia (iter (stepR k) T i) tlt gt capt i fzt lI (by omega) (by simpa using hft) w42 (hs43.get 2 rfl)) rfl ?_)
        rintro _ w44 ⟨rfl, hc45⟩
        have hs46 := hs43.call1 2 rfl hc45
        refine Lnil ?_
        refine W_region ?_
        refine L0 (wanted_none rfl) rfl (y_add64 rfl rfl rfl (by omega)) ?_
        refine L0 (wanted_none rfl) rfl (y_move (v := Value.int _ _) rfl rfl) ?_
        refine Lnil ?_
        have hsF := (hs46.drop (.inl hbb36))
        have eI : iter (stepR k) T (i + 1) = stepR k (iter (stepR k) T i) i := rfl
        first | rw [show colR (iter (stepR k) T i) i = iter (stepR k) T (i + 1) from by rw [eI, stepR, if_neg (by omega)]] at hsF | rw [show diaR (iter (stepR k) T i) i = iter (stepR k) T (i + 1) from by rw [eI, stepR, if_pos (by omega)]] at hsF
        exact ⟨i + 1, by (try dsimp only); omega, _, A_c (iv_eq (by (try dsimp only); omega)) (A_c rfl (A_c rfl (A_c rfl (A_c rfl (rfl))))), by omega, hsF⟩
      · skip
        refine W_region ?_
        refine L0 (wanted_none rfl) rfl (y_move (v := Value.int _ _) rfl rfl) ?_
        refine L0 (wanted_none rfl) rfl (y_rem64 rfl rfl rfl (by omega) (by omega)) ?_
        refine L0 (wanted_none rfl) rfl (y_eq rfl rfl rfl) ?_
        refine Lnil ?_
        refine Wkn (t := 59) (b0 := false) rfl (by exact decide_eq_false (by omega)) (fun h47 => ?_)
        refine W_condF rfl h47 ?_
        refine W_skip ?_
        refine W_region ?_
        refine L0 (wanted_none rfl) rfl (y_move (v := Value.slice _ _ _) rfl rfl) ?_
        refine L1 (wanted_none rfl) rfl hs40 (y_loadN 0 rfl Tryd.underlying215 rfl sz215 rfl rfl (by first | decide | (simp; done) | (simp; omega))) ?_
        refine Lc (wanted_none rfl) (c_call rfl rfl rfl Tryd.func155 (by kernel_rfl) rfl (mix_col (iter (stepR k) T i) tlt gt capt i fzt lI (by omega) (by simpa using hft) w39 (hs40.get 2 rfl)) rfl ?_)
        rintro _ w48 ⟨rfl, hc49⟩
        have hs50 := hs40.call1 2 rfl hc49
        refine Lnil ?_
        refine W_region ?_
        refine L0 (wanted_none rfl) rfl (y_add64 rfl rfl rfl (by omega)) ?_
        refine L0 (wanted_none rfl) rfl (y_move (v := Value.int _ _) rfl rfl) ?_
        refine Lnil ?_
        have hsF := (hs50.drop (.inl hbb36))
        have eI : iter (stepR k) T (i + 1) = stepR k (iter (stepR k) T i) i := rfl
        first | rw [show colR (iter (stepR k) T i) i = iter (stepR k) T (i + 1) from by rw [eI, stepR, if_neg (by omega)]] at hsF | rw [show diaR (iter (stepR k) T i) i = iter (stepR k) T (i + 1) from by rw [eI, stepR, if_pos (by omega)]] at hsF
        exact ⟨i + 1, by (try dsimp only); omega, _, A_c (iv_eq (by (try dsimp only); omega)) (A_c rfl (A_c rfl (A_c rfl (A_c rfl (rfl))))), by omega, hsF⟩
    · have h35' := h35
      first | replace h35' := of_decide_eq_false h35' | replace h35' := bnF' h35' | skip
      refine W_condF rfl h35 ?_
      refine W_exit ?_
      refine W_region ?_
      refine L0 (wanted_none rfl) rfl (y_add64 rfl rfl rfl (by omega)) ?_
      refine L0 (wanted_none rfl) rfl (y_move (v := Value.int _ _) rfl rfl) ?_
      refine Lnil ?_
      obtain rfl : i = 4 := by omega
      rw [stepR_half, eT, ← iter_succ halfR S k] at hs34
      exact ⟨k + 1, by (try dsimp only); omega, _, A_c (iv_eq (by (try dsimp only); omega)) (A_c rfl (A_c rfl (rfl))), by omega, hs34⟩
  · have h32' := h32
    first | replace h32' := of_decide_eq_false h32' | replace h32' := bnF' h32' | skip
    refine W_condF rfl h32 ?_
    refine W_exit ?_
    refine W_seq ?_
    obtain rfl : k = 20 := by omega
    refine W_region ?_
    refine L0 (wanted_none rfl) rfl (y_assign (v := Value.string ⟨⟨_⟩⟩) rfl rfl) ?_
    refine Lnil ?_
    refine W_seq ?_
    refine W_seq ?_
    refine W_region ?_
    refine L0 (wanted_none rfl) rfl (y_move (v := Value.slice _ _ _) rfl rfl) ?_
    refine L0 (wanted_none rfl) rfl (y_slen rfl Tryd.underlying213 rfl) ?_
    refine L0 (wanted_none rfl) rfl (y_move (v := Value.int _ _) rfl rfl) ?_
    refine Lnil ?_
    refine W_block ?_
    refine W_loop (G := Nat) (fun i aL wl => ∃ e, aL = A 107 ((81, iv i) :: (80, iv 16) :: (13, str (outW T S i)) :: (9, .slice (some ⟨gt, 0, none⟩) 16 capt) :: (8, .slice (some ⟨gs, 0, none⟩) 16 caps) :: e) ∧ i ≤ 16 ∧ St w [(gs, .cells (usT S tls) 123 fzs), (gt, .cells (usT T tlt) 123 fzt)] wl) (fun i => 16 - i) (0) ?_ ?_
    · exact ⟨_, A_pins _ _ [81, 80, 13, 9, 8], by omega, hs31⟩
    rintro i _ w51 ⟨ehs52, rfl, hi16, hs52⟩
    have lO := outW_len T S i
    refine W_seq ?_
    refine W_region ?_
    refine L0 (wanted_none rfl) rfl (y_lt rfl rfl rfl) ?_
    refine Lnil ?_
    refine W_seq ?_
    refine Wsp (t := 82) rfl (fun h53 => ?_) (fun h53 => ?_)
    · have h53' := h53
      first | replace h53' := of_decide_eq_true h53' | replace h53' := bnT' h53' | skip
      refine W_condT rfl h53 ?_
      refine W_skip ?_
      refine W_seq ?_
      refine W_block ?_
      refine W_seq ?_
      refine W_region ?_
      refine L0 (wanted_none rfl) rfl (y_move (v := Value.int _ _) rfl rfl) ?_
      refine L0 (wanted_none rfl) rfl (y_assign (v := Value.int _ _) rfl rfl) ?_
      refine Lnil ?_
      refine W_seq ?_
      refine W_drawSt [(0, 0), (0, 1), (0, 4), (0, 5), (0, 2), (0, 6), (1, 3), (1, 7), (0, 8), (0, 9)] hs52 mixed (by kernel_rfl) (fun w54 hs55 => ?_)
      refine E0 (wanted_none rfl) rfl (y_move (v := Value.slice _ _ _) rfl rfl) ?_
      refine E0 (wanted_none rfl) rfl (y_move (v := Value.int _ _) rfl rfl) ?_
      refine E0 (wanted_none rfl) rfl (y_move (v := Value.slice _ _ _) rfl rfl) ?_
      refine E0 (wanted_none rfl) rfl (y_move (v := Value.int _ _) rfl rfl) ?_
      refine E0 (wanted_none rfl) rfl (y_indexSl rfl Tryd.underlying213 sz123 rfl rfl (by omega) (by omega)) ?_
      refine E0 (wanted_none rfl) rfl (y_indexSl rfl Tryd.underlying213 sz123 rfl rfl (by omega) (by omega)) ?_
      refine E1 hs55 (wanted_none rfl) rfl (y_load 1 rfl Tryd.underlying123 rfl rfl rfl (usT_get (by omega))) ?_
      refine E1 hs55 (wanted_none rfl) rfl (y_load 0 rfl Tryd.underlying123 rfl rfl rfl (usT_get (by omega))) ?_
      refine E0 (wanted_none rfl) rfl (y_add32 rfl rfl rfl) ?_
      refine E0 (wanted_none rfl) rfl (y_assign (v := Value.int _ _) rfl rfl) ?_
      refine Enil ?_
      refine W_seq ?_
      refine W_region ?_
      refine L0 (wanted_none rfl) rfl (y_move (v := Value.int _ _) rfl rfl) ?_
      refine Lnil ?_
      refine W_block ?_
      have hnil : outW T S i = outW T S i ++ les (T.getD i 0 + S.getD i 0) 0 := (List.append_nil _).symm
      rw [hnil]
      refine W_loop (G := Nat) (fun j aL wl => ∃ e, aL = A 107 ((93, iv j) :: (15, uv (divs (T.getD i 0 + S.getD i 0) j)) :: (13, str (outW T S i ++ les (T.getD i 0 + S.getD i 0) j)) :: (81, iv i) :: (80, iv 16) :: (9, .slice (some ⟨gt, 0, none⟩) 16 capt) :: (8, .slice (some ⟨gs, 0, none⟩) 16 caps) :: e) ∧ j ≤ 4 ∧ St w [(gs, .cells (usT S tls) 123 fzs), (gt, .cells (usT T tlt) 123 fzt)] wl) (fun j => 4 - j) (0) ?_ ?_
      · exact ⟨_, A_pins _ _ [93, 15, 13, 81, 80, 9, 8], by omega, hs55⟩
      rintro j _ w56 ⟨ehs57, rfl, hj4, hs57⟩
      have lE := les_len (T.getD i 0 + S.getD i 0) j
      refine W_seq ?_
      refine W_region ?_
      refine L0 (wanted_none rfl) rfl (y_lt rfl rfl rfl) ?_
      refine Lnil ?_
      refine W_seq ?_
      refine Wsp (t := 94) rfl (fun h58 => ?_) (fun h58 => ?_)
      · have h58' := h58
        first | replace h58' := of_decide_eq_true h58' | replace h58' := bnT' h58' | skip
        refine W_condT rfl h58 ?_
        refine W_skip ?_
        refine W_seq ?_
        refine W_block ?_
        refine W_seq ?_
        refine W_region ?_
        refine L0 (wanted_none rfl) rfl (y_move (v := Value.string ⟨⟨_⟩⟩) rfl rfl) ?_
        refine L0 (wanted_none rfl) rfl (y_move (v := Value.int _ _) rfl rfl) ?_
        refine L0 (wanted_none rfl) rfl (y_rem32 (u' := 256) rfl rfl rfl (by decide)) ?_
        refine L0 (wanted_none rfl) rfl (y_c32to8 rfl Tryd.underlying123 Tryd.underlying5 rfl) ?_
        refine Lc (wanted_none rfl) (c_bs1 (v0 := bv _) hs57 rfl rfl Tryd.underlying113 sz5 zr5 rfl rfl (fun b59 w60 hbb59 hs61 => ?_))
        refine L1 (wanted_none rfl) rfl hs61 (y_bstr rfl Tryd.underlying113 Tryd.underlying5 Tryd.underlying9 rfl (Row.of_block (E := 5) (xs := bs [(divs (T.getD i 0 + S.getD i 0) j % 256).toUInt8]) hbb59 (by simp)) (fun x hx => by first | exact hx | exact List.mem_cons.2 (.inl (List.mem_singleton.1 hx)) | simp [hx])) ?_
        refine L0 (wanted_none rfl) rfl (y_scat rfl rfl rfl (by first | omega | (simp; omega) | (simp only [List.length_append, List.length_cons, List.length_nil]; omega))) ?_
        refine L0 (wanted_none rfl) rfl (y_assign (v := Value.string ⟨⟨_⟩⟩) rfl rfl) ?_
        refine Lnil ?_
        refine W_region ?_
        refine L0 (wanted_none rfl) rfl (y_move (v := Value.int _ _) rfl rfl) ?_
        refine L0 (wanted_none rfl) rfl (y_quo32 (u' := 256) rfl rfl rfl (by decide)) ?_
        refine L0 (wanted_none rfl) rfl (y_assign (v := Value.int _ _) rfl rfl) ?_
        refine Lnil ?_
        refine W_region ?_
        refine L0 (wanted_none rfl) rfl (y_add64 rfl rfl rfl (by omega)) ?_
        refine L0 (wanted_none rfl) rfl (y_move (v := Value.int _ _) rfl rfl) ?_
        refine Lnil ?_
        have hms : str (outW T S i ++ les (T.getD i 0 + S.getD i 0) j ++ [((divs (T.getD i 0 + S.getD i 0) j) % 256).toUInt8]) = str (outW T S i ++ les (T.getD i 0 + S.getD i 0) (j + 1)) := by rw [les, List.append_assoc]
        exact ⟨j + 1, by (try dsimp only); omega, _, A_c (iv_eq (by (try dsimp only); omega)) (A_c rfl (A_c hms (A_c rfl (A_c rfl (A_c rfl (A_c rfl (rfl))))))), by omega, hs61.drop (.inl hbb59)⟩
      · have h58' := h58
        first | replace h58' := of_decide_eq_false h58' | replace h58' := bnF' h58' | skip
        refine W_condF rfl h58 ?_
        refine W_exit ?_
        refine W_region ?_
        refine L0 (wanted_none rfl) rfl (y_add64 rfl rfl rfl (by omega)) ?_
        refine L0 (wanted_none rfl) rfl (y_move (v := Value.int _ _) rfl rfl) ?_
        refine Lnil ?_
        obtain rfl : j = 4 := by omega
        have hms : str (outW T S i ++ les (T.getD i 0 + S.getD i 0) 4) = str (outW T S (i + 1)) := by rw [les_le4]; rfl
        exact ⟨i + 1, by (try dsimp only); omega, _, A_c (iv_eq (by (try dsimp only); omega)) (A_c rfl (A_c hms (A_c rfl (A_c rfl (rfl))))), by omega, hs57⟩
    · have h53' := h53
      first | replace h53' := of_decide_eq_false h53' | replace h53' := bnF' h53' | skip
      refine W_condF rfl h53 ?_
      refine W_exit ?_
      refine W_seq ?_
      refine W_region ?_
      refine L0 (wanted_none rfl) rfl (y_move (v := Value.string ⟨⟨_⟩⟩) rfl rfl) ?_
      refine L0 (wanted_none rfl) rfl (y_assign (v := Value.string ⟨⟨_⟩⟩) rfl rfl) ?_
      refine L0 (wanted_none rfl) rfl (y_assign (v := Value.int _ _) rfl rfl) ?_
      refine Lnil ?_
      refine W_ret ?_
      refine fin2 (fn := Tryd.f131) rfl rfl rfl ?_
      obtain rfl : i = 16 := by omega
      rw [eT, eS]
      exact ⟨rfl, (hs52.drop (.inl hgs)).drop (.inl hgt)⟩
end Go.Proofs.YtkolfgmpmnelmabDoor

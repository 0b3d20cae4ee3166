/-
  Walk: keep.SpaceFits, and its plain law.
-/
import Derived.Test.YtkolfgmpmnelmaaX8
namespace Go.Proofs.Ytkolfgmpmnelmaa
open Go Vx Go.Proofs
set_option linter.unusedVariables false
set_option maxRecDepth 4000
set_option maxHeartbeats 400000

theorem fits_high (l v : List Int) (but : Int) (hbut : 0 ≤ but ∧ l.length ≤ but) (T : Tb) (va vb : Value) (hb1 : I64 l) (hcap : ∃ a cap, va = .slice a l.length cap ∧ l.length ≤ cap) (w : World) (hSa : Sl w va l.length (nums l)) (hSb : Sl w vb v.length (nums v)) :
    C Try.prog 7 ⟨[va, vb, iv but, .agg ⟨tbl T⟩]⟩ w fun r w' => r = .bool true ∧ St w [] w' := by
  refine C_enter (n := 175) Try.func7 rfl rfl rfl (fun w1 hs1 => ?_)
  obtain ⟨x, f, hE, hf, hx⟩ := open_facts l but
  have hsk := free_skip l but l.length
  have hfb := freeOf_bound l l.length
  refine W_seq ?_
  refine W_region ?_
  refine Lc (wanted_none rfl) (c_box hs1 rfl rfl rfl (fun b2 w3 hbb2 hs4 => ?_))
  refine L0 (wanted_none rfl) rfl (y_assign (v := Value.bool _) rfl rfl) ?_
  refine Lnil ?_
  refine W_seq ?_
  refine W_seq ?_
  refine W_region ?_
  refine L0 (wanted_none rfl) rfl (y_move (v := va) rfl rfl) ?_
  refine L0 (wanted_none rfl) rfl (y_slenSl rfl Try.underlying34 rfl hSa) ?_
  refine L0 (wanted_none rfl) rfl (y_gt rfl rfl rfl) ?_
  refine L0 (wanted_none rfl) rfl (y_move (v := Value.bool _) rfl rfl) ?_
  refine Lsp (t := 20) rfl (fun h5 => ?_) (fun h5 => ?_)
  · have h5' := h5
    first | replace h5' := of_decide_eq_true h5' | replace h5' := bnT' h5' | skip
    refine Lno (wanted_noB rfl rfl rfl h5 (by decide)) rfl ?_
    refine Lno (wanted_noB rfl rfl rfl h5 (by decide)) rfl ?_
    refine Lno (wanted_noB rfl rfl rfl h5 (by decide)) rfl ?_
    refine L0 (wanted_none rfl) rfl (y_pickT rfl rfl h5 rfl) ?_
    refine Lnil ?_
    refine W_condT rfl rfl ?_
    refine W_seq ?_
    refine W_region ?_
    refine L0 (wanted_none rfl) rfl (y_assign (v := Value.bool _) rfl rfl) ?_
    refine Lnil ?_
    refine W_ret ?_
    refine fin1 (fn := Try.f7) rfl rfl ?_
    exact ⟨rfl, hs4.drop (.inl hbb2)⟩
  · have h5' := h5
    first | replace h5' := of_decide_eq_false h5' | replace h5' := bnF' h5' | skip
    refine L0 (wanted_yesB rfl rfl rfl h5) rfl (y_move (v := vb) rfl rfl) ?_
    refine L0 (wanted_yesB rfl rfl rfl h5) rfl (y_slenSl rfl Try.underlying34 rfl hSb) ?_
    refine L0 (wanted_yesB rfl rfl rfl h5) rfl (y_gt rfl rfl rfl) ?_
    refine L0 (wanted_none rfl) rfl (y_pickF rfl rfl h5 rfl) ?_
    refine Lnil ?_
    refine Wsp (t := 24) rfl (fun h6 => ?_) (fun h6 => ?_)
    · have h6' := h6
      first | replace h6' := of_decide_eq_true h6' | replace h6' := bnT' h6' | skip
      refine W_condT rfl h6 ?_
      refine W_seq ?_
      refine W_region ?_
      refine L0 (wanted_none rfl) rfl (y_assign (v := Value.bool _) rfl rfl) ?_
      refine Lnil ?_
      refine W_ret ?_
      refine fin1 (fn := Try.f7) rfl rfl ?_
      exact ⟨rfl, forget hs4 (by intro x hx; simp only [List.mem_cons, List.not_mem_nil, or_false] at hx; rcases hx with rfl | rfl <;> assumption)⟩
    · have h6' := h6
      first | replace h6' := of_decide_eq_false h6' | replace h6' := bnF' h6' | skip
      refine W_condF rfl h6 ?_
      refine W_skip ?_
      refine W_seq ?_
      refine W_seq ?_
      refine W_region ?_
      refine Lc (wanted_none rfl) (c_call rfl rfl rfl Try.func38 (by kernel_rfl) rfl (spaced_any w3) rfl ?_)
      rintro _ w7 ⟨rfl, hc8⟩
      have hs9 := hs4.call0 hc8
      refine L0 (wanted_none rfl) rfl (y_not rfl rfl) ?_
      refine Lnil ?_
      refine Wkn (t := 26) (b0 := false) rfl (by rfl) (fun h10 => ?_)
      refine W_condF rfl h10 ?_
      refine W_skip ?_
      refine W_seq ?_
      refine W_region ?_
      refine L0 (wanted_none rfl) rfl (y_move (v := va) rfl rfl) ?_
      refine L0 (wanted_none rfl) rfl (y_move (v := Value.int _ _) rfl rfl) ?_
      refine Lc (wanted_none rfl) (c_call rfl rfl rfl Try.func28 (by kernel_rfl) rfl (open_space l but va (by omega) w7 (hSa.keep hs9 (by intro k hk; simp [keys] at hk; omega))) rfl ?_)
      rintro _ w11 ⟨rfl, hc12⟩
      rw [hE]
      have hs13 := hs9.call0 hc12
      refine L0 (wanted_none rfl) rfl (y_move (v := Value.tuple ⟨_⟩) rfl rfl) ?_
      refine L0 (wanted_none rfl) rfl (y_extract rfl rfl rfl) ?_
      refine L0 (wanted_none rfl) rfl (y_extract rfl rfl rfl) ?_
      refine L0 (wanted_none rfl) rfl (y_assign (v := Value.int _ _) rfl rfl) ?_
      refine L0 (wanted_none rfl) rfl (y_assign (v := Value.bool _) rfl rfl) ?_
      refine Lnil ?_
      refine W_seq ?_
      refine W_region ?_
      refine L0 (wanted_none rfl) rfl (y_move (v := va) rfl rfl) ?_
      refine Lc (wanted_none rfl) (c_call rfl rfl rfl Try.func29 (by kernel_rfl) rfl (free_any l va (by omega) hb1 w11 (hSa.keep hs13 (by intro k hk; simp [keys] at hk; omega))) rfl ?_)
      rintro _ w14 ⟨rfl, hc15⟩
      have hs16 := hs13.call0 hc15
      refine L0 (wanted_none rfl) rfl (y_assign (v := Value.int _ _) rfl rfl) ?_
      refine Lnil ?_
      refine W_seq ?_
      refine W_seq ?_
      refine W_region ?_
      refine L0 (wanted_none rfl) rfl (y_move (v := Value.int _ _) rfl rfl) ?_
      refine L0 (wanted_none rfl) rfl (y_ge rfl rfl rfl) ?_
      refine L0 (wanted_none rfl) rfl (y_move (v := Value.bool _) rfl rfl) ?_
      refine Lkn (t := 37) (b0 := true) rfl (by first | exact decide_eq_true (by omega) | exact bnT (by omega) | (simp; omega)) (fun h17 => ?_)
      refine L0 (wanted_yesB rfl rfl rfl h17) rfl (y_move (v := Value.int _ _) rfl rfl) ?_
      refine L0 (wanted_yesB rfl rfl rfl h17) rfl (y_move (v := va) rfl rfl) ?_
      refine L0 (wanted_yesB rfl rfl rfl h17) rfl (y_slenSl rfl Try.underlying34 rfl hSa) ?_
      refine L0 (wanted_yesB rfl rfl rfl h17) rfl (y_lt rfl rfl rfl) ?_
      refine L0 (wanted_none rfl) rfl (y_pickT rfl rfl h17 rfl) ?_
      refine Lnil ?_
      refine Wkn (t := 42) (b0 := false) rfl (by first | exact decide_eq_false (by omega) | exact bnF (by omega) | (simp; omega)) (fun h18 => ?_)
      refine W_condF rfl h18 ?_
      refine W_skip ?_
      refine W_seq ?_
      refine W_seq ?_
      refine W_region ?_
      refine L0 (wanted_none rfl) rfl (y_move (v := Value.bool _) rfl rfl) ?_
      refine L0 (wanted_none rfl) rfl (y_move (v := Value.int _ _) rfl rfl) ?_
      refine L0 (wanted_none rfl) rfl (y_gt rfl rfl rfl) ?_
      refine L0 (wanted_none rfl) rfl (y_bne rfl Try.underlying4 rfl rfl) ?_
      refine L0 (wanted_none rfl) rfl (y_move (v := Value.bool _) rfl rfl) ?_
      refine Lkn (t := 55) (b0 := false) rfl (by exact law_open hf (by first | (rw [if_neg (by omega)] at hsk; omega) | (rw [if_pos (by omega)] at hsk; omega))) (fun h19 => ?_)
      refine L0 (wanted_yesB rfl rfl rfl h19) rfl (y_move (v := Value.bool _) rfl rfl) ?_
      refine L0 (wanted_yesB rfl rfl rfl h19) rfl (y_move (v := Value.bool _) rfl rfl) ?_
      refine Lsp (t := 57) rfl (fun h20 => ?_) (fun h20 => ?_)
      · have h20' := h20
        first | replace h20' := of_decide_eq_true h20' | replace h20' := bnT' h20' | skip
        refine L0 (wanted_yesB rfl rfl rfl h20) rfl (y_move (v := Value.int _ _) rfl rfl) ?_
        refine L0 (wanted_yesB rfl rfl rfl h20) rfl (y_lt rfl rfl rfl) ?_
        refine L0 (wanted_yesB rfl rfl rfl h20) rfl (y_move (v := Value.bool _) rfl rfl) ?_
        refine Lkn (t := 60) (b0 := false) rfl (by exact decide_eq_false (by obtain ⟨q1, q2, q3, q4⟩ := hx (by assumption); omega)) (fun h21 => ?_)
        refine L0 (wanted_yesB rfl rfl rfl h21) rfl (y_move (v := Value.int _ _) rfl rfl) ?_
        refine L0 (wanted_yesB rfl rfl rfl h21) rfl (y_move (v := va) rfl rfl) ?_
        refine L0 (wanted_yesB rfl rfl rfl h21) rfl (y_slenSl rfl Try.underlying34 rfl hSa) ?_
        refine L0 (wanted_yesB rfl rfl rfl h21) rfl (y_ge rfl rfl rfl) ?_
        refine L0 (wanted_yesB rfl rfl rfl h20) rfl (y_pickF rfl rfl h21 rfl) ?_
        refine L0 (wanted_yesB rfl rfl rfl h20) rfl (y_move (v := Value.bool _) rfl rfl) ?_
        refine Lkn (t := 66) (b0 := false) rfl (by exact decide_eq_false (by obtain ⟨q1, q2, q3, q4⟩ := hx (by assumption); omega)) (fun h22 => ?_)
        refine L0 (wanted_yesB rfl rfl rfl h22) rfl (y_move (v := va) rfl rfl) ?_
        refine L0 (wanted_yesB rfl rfl rfl h22) rfl (y_move (v := Value.int _ _) rfl rfl) ?_
        obtain ⟨q1, q2, q3, q4⟩ := hx (by assumption)
        refine L0 (wanted_yesB rfl rfl rfl h22) rfl (y_indexSlAt rfl Try.underlying34 sz3 rfl rfl hSa (by omega) (by omega)) ?_
        refine L1 (wanted_yesB rfl rfl rfl h22) rfl hs16 (y_loadSl x.toNat rfl Try.underlying3 rfl rfl hSa (by omega) (by omega) (by intro k hk; first | (simp [keys] at hk; done) | (simp [keys] at hk; omega))) ?_
        refine L0 (wanted_yesB rfl rfl rfl h22) rfl (y_ge rfl rfl rfl) ?_
        refine L0 (wanted_yesB rfl rfl rfl h20) rfl (y_pickF rfl rfl h22 rfl) ?_
        refine L0 (wanted_yesB rfl rfl rfl h20) rfl (y_move (v := Value.bool _) rfl rfl) ?_
        refine Lkn (t := 73) (b0 := false) rfl (by exact decide_eq_false (by obtain ⟨q1, q2, q3, q4⟩ := hx (by assumption); omega)) (fun h23 => ?_)
        refine L0 (wanted_yesB rfl rfl rfl h23) rfl (y_move (v := Value.int _ _) rfl rfl) ?_
        refine L0 (wanted_yesB rfl rfl rfl h23) rfl (y_move (v := Value.int _ _) rfl rfl) ?_
        refine L0 (wanted_yesB rfl rfl rfl h23) rfl (y_eq rfl rfl rfl) ?_
        refine L0 (wanted_yesB rfl rfl rfl h20) rfl (y_pickF rfl rfl h23 rfl) ?_
        refine L0 (wanted_yesB rfl rfl rfl h19) rfl (y_pickT rfl rfl h20 rfl) ?_
        refine L0 (wanted_none rfl) rfl (y_pickF rfl rfl h19 rfl) ?_
        refine Lnil ?_
        refine Wkn (t := 79) (b0 := false) rfl (by exact decide_eq_false (by obtain ⟨q1, q2, q3, q4⟩ := hx (by assumption); omega)) (fun h24 => ?_)
        refine W_condF rfl h24 ?_
        refine W_skip ?_
        refine W_seq ?_
        refine W_region ?_
        refine L0 (wanted_none rfl) rfl (y_move (v := va) rfl rfl) ?_
        refine L0 (wanted_none rfl) rfl (y_move (v := vb) rfl rfl) ?_
        refine Lc (wanted_none rfl) (c_call rfl rfl rfl Try.func32 (by kernel_rfl) rfl (victim_any l v va vb (by omega) (by omega) w14 (hSa.keep hs16 (by intro k hk; simp [keys] at hk; omega)) (hSb.keep hs16 (by intro k hk; simp [keys] at hk; omega))) rfl ?_)
        rintro vt w25 ⟨⟨b, hB, rfl⟩, hc26⟩
        have hs27 := hs16.call0 hc26
        refine L0 (wanted_none rfl) rfl (y_move (v := Value.tuple ⟨_⟩) rfl rfl) ?_
        refine L0 (wanted_none rfl) rfl (y_extract rfl rfl rfl) ?_
        refine L0 (wanted_none rfl) rfl (y_extract rfl rfl rfl) ?_
        refine L0 (wanted_none rfl) rfl (y_assign (v := Value.int _ _) rfl rfl) ?_
        refine L0 (wanted_none rfl) rfl (y_assign (v := Value.bool _) rfl rfl) ?_
        refine Lnil ?_
        refine W_seq ?_
        refine W_seq ?_
        refine W_region ?_
        refine L0 (wanted_none rfl) rfl (y_assign (v := Value.int _ _) rfl rfl) ?_
        refine Lnil ?_
        refine W_block ?_
        refine W_loop (G := Nat) (fun i aL wl => ∃ e, aL = A 175 ((14, iv i) :: (0, va) :: (1, vb) :: (12, iv (max b 0)) :: (13, .bool (decide (0 ≤ b))) :: (7, pv b2 0) :: e) ∧ i ≤ l.length ∧ St w [(b2, .cells ⟨tbl T⟩ 59 (0, 0))] wl) (fun i => l.length - i) (0) ?_ ?_
        · exact ⟨_, A_pins _ _ [14, 0, 1, 12, 13, 7], Nat.zero_le _, hs27⟩
        rintro i _ w28 ⟨ehs29, rfl, hi, hs29⟩
        refine W_seq ?_
        refine W_seq ?_
        refine W_region ?_
        refine L0 (wanted_none rfl) rfl (y_move (v := Value.int _ _) rfl rfl) ?_
        refine L0 (wanted_none rfl) rfl (y_move (v := va) rfl rfl) ?_
        refine L0 (wanted_none rfl) rfl (y_slenSl rfl Try.underlying34 rfl hSa) ?_
        refine L0 (wanted_none rfl) rfl (y_lt rfl rfl rfl) ?_
        refine L0 (wanted_none rfl) rfl (y_move (v := Value.bool _) rfl rfl) ?_
        refine Lsp (t := 90) rfl (fun h30 => ?_) (fun h30 => ?_)
        · have h30' := h30
          first | replace h30' := of_decide_eq_true h30' | replace h30' := bnT' h30' | skip
          refine L0 (wanted_yesB rfl rfl rfl h30) rfl (y_move (v := Value.int _ _) rfl rfl) ?_
          refine L0 (wanted_yesB rfl rfl rfl h30) rfl (y_move (v := vb) rfl rfl) ?_
          refine L0 (wanted_yesB rfl rfl rfl h30) rfl (y_slenSl rfl Try.underlying34 rfl hSb) ?_
          refine L0 (wanted_yesB rfl rfl rfl h30) rfl (y_lt rfl rfl rfl) ?_
          refine L0 (wanted_none rfl) rfl (y_pickT rfl rfl h30 rfl) ?_
          refine Lnil ?_
          refine Wsp (t := 95) rfl (fun h31 => ?_) (fun h31 => ?_)
          · have h31' := h31
            first | replace h31' := of_decide_eq_true h31' | replace h31' := bnT' h31' | skip
            refine W_condT rfl h31 ?_
            refine W_skip ?_
            refine W_seq ?_
            refine W_block ?_
            refine W_seq ?_
            refine W_drawSt [(0, 0), (0, 1), (0, 2), (1, 3), (0, 4), (0, 5), (0, 6), (0, 7), (0, 8), (0, 9), (0, 10), (0, 13), (0, 14), (0, 11), (0, 15), (1, 12), (1, 16), (0, 17), (0, 18), (0, 19), (0, 20), (0, 21), (0, 24), (0, 25), (0, 22), (0, 26), (1, 23), (1, 27), (0, 28), (0, 29), (0, 30), (0, 31), (0, 32), (0, 33), (0, 34), (0, 35)] hs29 mixed (by kernel_rfl) (fun w32 hs33 => ?_)
            refine E0 (wanted_none rfl) rfl (y_move (v := va) rfl rfl) ?_
            refine E0 (wanted_none rfl) rfl (y_move (v := Value.int _ _) rfl rfl) ?_
            refine E0 (wanted_none rfl) rfl (y_indexSlAt rfl Try.underlying34 sz3 rfl rfl hSa (by omega) (by omega)) ?_
            refine E1 hs33 (wanted_none rfl) rfl (y_loadSl i rfl Try.underlying3 rfl rfl hSa (by omega) (by omega) (by intro k hk; first | (simp [keys] at hk; done) | (simp [keys] at hk; omega))) ?_
            refine E0 (wanted_none rfl) rfl (y_ge rfl rfl rfl) ?_
            refine E0 (wanted_none rfl) rfl (y_move (v := Value.bool _) rfl rfl) ?_
            refine Esp (t := 103) rfl (fun h34 => ?_) (fun h34 => ?_)
            · have h34' := h34
              first | replace h34' := of_decide_eq_true h34' | replace h34' := bnT' h34' | skip
              refine E0 (wanted_yesB rfl rfl rfl h34) rfl (y_move (v := Value.bool _) rfl rfl) ?_
              refine E0 (wanted_yesB rfl rfl rfl h34) rfl (y_not rfl rfl) ?_
              refine E0 (wanted_yesB rfl rfl rfl h34) rfl (y_move (v := Value.bool _) rfl rfl) ?_
              refine Ekn (t := 106) (b0 := false) rfl (by exact bnF (by obtain ⟨q1, q2, q3, q4, q5⟩ := best_full hB i (by omega) (by omega) (by omega); omega)) (fun h35 => ?_)
              refine E0 (wanted_yesB rfl rfl rfl h35) rfl (y_move (v := vb) rfl rfl) ?_
              refine E0 (wanted_yesB rfl rfl rfl h35) rfl (y_move (v := Value.int _ _) rfl rfl) ?_
              refine E0 (wanted_yesB rfl rfl rfl h35) rfl (y_move (v := vb) rfl rfl) ?_
              refine E0 (wanted_yesB rfl rfl rfl h35) rfl (y_move (v := Value.int _ _) rfl rfl) ?_
              refine E0 (wanted_yesB rfl rfl rfl h35) rfl (y_indexSlAt rfl Try.underlying34 sz3 rfl rfl hSb (by omega) (by omega)) ?_
              obtain ⟨q1, q2, q3, q4, q5⟩ := best_full hB i (by omega) (by omega) (by omega)
              refine E0 (wanted_yesB rfl rfl rfl h35) rfl (y_indexSlAt rfl Try.underlying34 sz3 rfl rfl hSb (by omega) (by omega)) ?_
              refine E1 hs33 (wanted_yesB rfl rfl rfl h35) rfl (y_loadSl i rfl Try.underlying3 rfl rfl hSb (by omega) (by omega) (by intro k hk; first | (simp [keys] at hk; done) | (simp [keys] at hk; omega))) ?_
              refine E1 hs33 (wanted_yesB rfl rfl rfl h35) rfl (y_loadSl (max b 0).toNat rfl Try.underlying3 rfl rfl hSb (by omega) (by omega) (by intro k hk; first | (simp [keys] at hk; done) | (simp [keys] at hk; omega))) ?_
              refine E0 (wanted_yesB rfl rfl rfl h35) rfl (y_lt rfl rfl rfl) ?_
              refine E0 (wanted_yesB rfl rfl rfl h34) rfl (y_pickF rfl rfl h35 rfl) ?_
              refine E0 (wanted_yesB rfl rfl rfl h34) rfl (y_move (v := Value.bool _) rfl rfl) ?_
              refine Ekn (t := 117) (b0 := false) rfl (by exact decide_eq_false (by obtain ⟨q1, q2, q3, q4, q5⟩ := best_full hB i (by omega) (by omega) (by omega); omega)) (fun h36 => ?_)
              refine E0 (wanted_yesB rfl rfl rfl h36) rfl (y_move (v := vb) rfl rfl) ?_
              refine E0 (wanted_yesB rfl rfl rfl h36) rfl (y_move (v := Value.int _ _) rfl rfl) ?_
              refine E0 (wanted_yesB rfl rfl rfl h36) rfl (y_move (v := vb) rfl rfl) ?_
              refine E0 (wanted_yesB rfl rfl rfl h36) rfl (y_move (v := Value.int _ _) rfl rfl) ?_
              refine E0 (wanted_yesB rfl rfl rfl h36) rfl (y_indexSlAt rfl Try.underlying34 sz3 rfl rfl hSb (by omega) (by omega)) ?_
              refine E0 (wanted_yesB rfl rfl rfl h36) rfl (y_indexSlAt rfl Try.underlying34 sz3 rfl rfl hSb (by omega) (by omega)) ?_
              refine E1 hs33 (wanted_yesB rfl rfl rfl h36) rfl (y_loadSl i rfl Try.underlying3 rfl rfl hSb (by omega) (by omega) (by intro k hk; first | (simp [keys] at hk; done) | (simp [keys] at hk; omega))) ?_
              refine E1 hs33 (wanted_yesB rfl rfl rfl h36) rfl (y_loadSl (max b 0).toNat rfl Try.underlying3 rfl rfl hSb (by omega) (by omega) (by intro k hk; first | (simp [keys] at hk; done) | (simp [keys] at hk; omega))) ?_
              refine E0 (wanted_yesB rfl rfl rfl h36) rfl (y_eq rfl rfl rfl) ?_
              refine E0 (wanted_yesB rfl rfl rfl h36) rfl (y_move (v := Value.bool _) rfl rfl) ?_
              refine Esp (t := 127) rfl (fun h37 => ?_) (fun h37 => ?_)
              · have h37' := h37
                first | replace h37' := of_decide_eq_true h37' | replace h37' := bnT' h37' | skip
                refine E0 (wanted_yesB rfl rfl rfl h37) rfl (y_move (v := Value.int _ _) rfl rfl) ?_
                refine E0 (wanted_yesB rfl rfl rfl h37) rfl (y_move (v := Value.int _ _) rfl rfl) ?_
                refine E0 (wanted_yesB rfl rfl rfl h37) rfl (y_lt rfl rfl rfl) ?_
                refine E0 (wanted_yesB rfl rfl rfl h36) rfl (y_pickT rfl rfl h37 rfl) ?_
                refine E0 (wanted_yesB rfl rfl rfl h34) rfl (y_pickF rfl rfl h36 rfl) ?_
                refine E0 (wanted_none rfl) rfl (y_pickT rfl rfl h34 rfl) ?_
                refine Enil ?_
                refine Wkn (t := 133) (b0 := false) rfl (by exact decide_eq_false (by obtain ⟨q1, q2, q3, q4, q5⟩ := best_full hB i (by omega) (by omega) (by omega); omega)) (fun h38 => ?_)
                refine W_condF rfl h38 ?_
                refine W_skip ?_
                refine W_region ?_
                refine L0 (wanted_none rfl) rfl (y_move (v := Value.int _ _) rfl rfl) ?_
                refine L0 (wanted_none rfl) rfl (y_add64 rfl rfl rfl (by omega)) ?_
                refine L0 (wanted_none rfl) rfl (y_assign (v := Value.int _ _) rfl rfl) ?_
                refine Lnil ?_
                exact ⟨i + 1, by first | omega | (dsimp only; done) | (dsimp only; omega), _, A_c (iv_eq (by first | omega | (dsimp only; done) | (dsimp only; omega))) (A_c rfl (A_c rfl (A_c rfl (A_c rfl (A_c rfl (rfl)))))), by omega, hs33⟩
              · have h37' := h37
                first | replace h37' := of_decide_eq_false h37' | replace h37' := bnF' h37' | skip
                refine Eno (wanted_noB rfl rfl rfl h37 (by decide)) rfl ?_
                refine Eno (wanted_noB rfl rfl rfl h37 (by decide)) rfl ?_
                refine Eno (wanted_noB rfl rfl rfl h37 (by decide)) rfl ?_
                refine E0 (wanted_yesB rfl rfl rfl h36) rfl (y_pickF rfl rfl h37 rfl) ?_
                refine E0 (wanted_yesB rfl rfl rfl h34) rfl (y_pickF rfl rfl h36 rfl) ?_
                refine E0 (wanted_none rfl) rfl (y_pickT rfl rfl h34 rfl) ?_
                refine Enil ?_
                refine W_condF rfl rfl ?_
                refine W_skip ?_
                refine W_region ?_
                refine L0 (wanted_none rfl) rfl (y_move (v := Value.int _ _) rfl rfl) ?_
                refine L0 (wanted_none rfl) rfl (y_add64 rfl rfl rfl (by omega)) ?_
                refine L0 (wanted_none rfl) rfl (y_assign (v := Value.int _ _) rfl rfl) ?_
                refine Lnil ?_
                exact ⟨i + 1, by first | omega | (dsimp only; done) | (dsimp only; omega), _, A_c (iv_eq (by first | omega | (dsimp only; done) | (dsimp only; omega))) (A_c rfl (A_c rfl (A_c rfl (A_c rfl (A_c rfl (rfl)))))), by omega, hs33⟩
            · have h34' := h34
              first | replace h34' := of_decide_eq_false h34' | replace h34' := bnF' h34' | skip
              refine Eno (wanted_noB rfl rfl rfl h34 (by decide)) rfl ?_
              refine Eno (wanted_noB rfl rfl rfl h34 (by decide)) rfl ?_
              refine Eno (wanted_noB rfl rfl rfl h34 (by decide)) rfl ?_
              refine Eno (wanted_noU rfl rfl rfl) rfl ?_
              refine Eno (wanted_noU rfl rfl rfl) rfl ?_
              refine Eno (wanted_noU rfl rfl rfl) rfl ?_
              refine Eno (wanted_noU rfl rfl rfl) rfl ?_
              refine Eno (wanted_noU rfl rfl rfl) rfl ?_
              refine Eno (wanted_noU rfl rfl rfl) rfl ?_
              refine E1no hs33 (wanted_noU rfl rfl rfl) rfl ?_
              refine E1no hs33 (wanted_noU rfl rfl rfl) rfl ?_
              refine Eno (wanted_noU rfl rfl rfl) rfl ?_
              refine Eno (wanted_noB rfl rfl rfl h34 (by decide)) rfl ?_
              refine Eno (wanted_noB rfl rfl rfl h34 (by decide)) rfl ?_
              refine Eno (wanted_noU rfl rfl rfl) rfl ?_
              refine Eno (wanted_noU rfl rfl rfl) rfl ?_
              refine Eno (wanted_noU rfl rfl rfl) rfl ?_
              refine Eno (wanted_noU rfl rfl rfl) rfl ?_
              refine Eno (wanted_noU rfl rfl rfl) rfl ?_
              refine Eno (wanted_noU rfl rfl rfl) rfl ?_
              refine E1no hs33 (wanted_noU rfl rfl rfl) rfl ?_
              refine E1no hs33 (wanted_noU rfl rfl rfl) rfl ?_
              refine Eno (wanted_noU rfl rfl rfl) rfl ?_
              refine Eno (wanted_noU rfl rfl rfl) rfl ?_
              refine Eno (wanted_noU rfl rfl rfl) rfl ?_
              refine Eno (wanted_noU rfl rfl rfl) rfl ?_
              refine Eno (wanted_noU rfl rfl rfl) rfl ?_
              refine Eno (wanted_noU rfl rfl rfl) rfl ?_
              refine Eno (wanted_noB rfl rfl rfl h34 (by decide)) rfl ?_
              refine E0 (wanted_none rfl) rfl (y_pickF rfl rfl h34 rfl) ?_
              refine Enil ?_
              refine W_condF rfl rfl ?_
              refine W_skip ?_
              refine W_region ?_
              refine L0 (wanted_none rfl) rfl (y_move (v := Value.int _ _) rfl rfl) ?_
              refine L0 (wanted_none rfl) rfl (y_add64 rfl rfl rfl (by omega)) ?_
              refine L0 (wanted_none rfl) rfl (y_assign (v := Value.int _ _) rfl rfl) ?_
              refine Lnil ?_
              exact ⟨i + 1, by first | omega | (dsimp only; done) | (dsimp only; omega), _, A_c (iv_eq (by first | omega | (dsimp only; done) | (dsimp only; omega))) (A_c rfl (A_c rfl (A_c rfl (A_c rfl (A_c rfl (rfl)))))), by omega, hs33⟩
          · have h31' := h31
            first | replace h31' := of_decide_eq_false h31' | replace h31' := bnF' h31' | skip
            refine W_condF rfl h31 ?_
            refine W_exit ?_
            refine W_seq ?_
            refine W_seq ?_
            refine W_region ?_
            refine L0 (wanted_none rfl) rfl (y_move (v := Value.bool _) rfl rfl) ?_
            refine L0 (wanted_none rfl) rfl (y_move (v := Value.bool _) rfl rfl) ?_
            refine Lsp (t := 135) rfl (fun h39 => ?_) (fun h39 => ?_)
            · have h39' := h39
              first | replace h39' := of_decide_eq_true h39' | replace h39' := bnT' h39' | skip
              refine L0 (wanted_yesB rfl rfl rfl h39) rfl (y_move (v := Value.int _ _) rfl rfl) ?_
              refine L0 (wanted_yesB rfl rfl rfl h39) rfl (y_move (v := va) rfl rfl) ?_
              refine L0 (wanted_yesB rfl rfl rfl h39) rfl (y_slenSl rfl Try.underlying34 rfl hSa) ?_
              refine L0 (wanted_yesB rfl rfl rfl h39) rfl (y_ge rfl rfl rfl) ?_
              refine L0 (wanted_yesB rfl rfl rfl h39) rfl (y_move (v := Value.bool _) rfl rfl) ?_
              refine Lkn (t := 140) (b0 := false) rfl (by exact decide_eq_false (by obtain ⟨q1, q2⟩ := best_found hB (by omega); omega)) (fun h40 => ?_)
              refine L0 (wanted_yesB rfl rfl rfl h40) rfl (y_move (v := va) rfl rfl) ?_
              refine L0 (wanted_yesB rfl rfl rfl h40) rfl (y_move (v := Value.int _ _) rfl rfl) ?_
              obtain ⟨q1, q2⟩ := best_found hB (by omega)
              refine L0 (wanted_yesB rfl rfl rfl h40) rfl (y_indexSlAt rfl Try.underlying34 sz3 rfl rfl hSa (by omega) (by omega)) ?_
              refine L1 (wanted_yesB rfl rfl rfl h40) rfl hs29 (y_loadSl (max b 0).toNat rfl Try.underlying3 rfl rfl hSa (by omega) (by omega) (by intro k hk; first | (simp [keys] at hk; done) | (simp [keys] at hk; omega))) ?_
              refine L0 (wanted_yesB rfl rfl rfl h40) rfl (y_lt rfl rfl rfl) ?_
              refine L0 (wanted_yesB rfl rfl rfl h39) rfl (y_pickF rfl rfl h40 rfl) ?_
              refine L0 (wanted_none rfl) rfl (y_pickT rfl rfl h39 rfl) ?_
              refine Lnil ?_
              refine Wkn (t := 147) (b0 := false) rfl (by exact decide_eq_false (by obtain ⟨q1, q2⟩ := best_found hB (by omega); omega)) (fun h41 => ?_)
              refine W_condF rfl h41 ?_
              refine W_skip ?_
              refine W_seq ?_
              refine W_region ?_
              refine L1 (wanted_none rfl) rfl hs29 ((y_loadT 0 rfl rfl rfl)) ?_
              refine Lc (wanted_none rfl) (c_call rfl rfl rfl Try.func34 (by kernel_rfl) rfl (live_any T w28) rfl ?_)
              rintro vA w42 ⟨eA, hrA, hc43⟩
              obtain ⟨g, capA, cur, fz, rfl, rfl, hg, hgl, hfz, hsz, hget⟩ := row_block hrA (by decide) 0
              have hg2 : w.heap.size ≤ g := Nat.le_trans hs29.size hg
              have hs44 := (hs29.call_new hc43 (row_keys hrA)).perm (List.perm_append_comm (l₁ := [_]))
              refine L0 (wanted_none rfl) rfl (y_assign (v := Value.slice _ _ _) rfl rfl) ?_
              refine Lnil ?_
              refine W_seq ?_
              refine W_seq ?_
              refine W_region ?_
              refine L0 (wanted_none rfl) rfl (y_assign (v := Value.int _ _) rfl rfl) ?_
              refine Lnil ?_
              refine W_block ?_
              refine W_loop (G := Nat) (fun i aL wl => ∃ e, aL = A 175 ((16, iv i) :: (7, pv b2 0) :: (15, .slice (some ⟨g, 0, none⟩) 8 capA) :: e) ∧ i ≤ 8 ∧ St w [(b2, .cells ⟨tbl T⟩ 59 (0, 0)), (g, .cells cur 3 fz)] wl) (fun i => 8 - i) (0) ?_ ?_
              · exact ⟨_, A_pins _ _ [16, 7, 15], Nat.zero_le _, hs44⟩
              rintro i _ w45 ⟨ehs46, rfl, hi, hs46⟩
              refine W_seq ?_
              refine W_seq ?_
              refine W_region ?_
              refine L0 (wanted_none rfl) rfl (y_move (v := Value.int _ _) rfl rfl) ?_
              refine L0 (wanted_none rfl) rfl (y_lt rfl rfl rfl) ?_
              refine Lnil ?_
              refine Wsp (t := 151) rfl (fun h47 => ?_) (fun h47 => ?_)
              · have h47' := h47
                first | replace h47' := of_decide_eq_true h47' | replace h47' := bnT' h47' | skip
                refine W_condT rfl h47 ?_
                refine W_skip ?_
                refine W_seq ?_
                refine W_block ?_
                refine W_seq ?_
                refine W_drawSt [(0, 0), (0, 1), (0, 2), (0, 3), (1, 4), (0, 5), (0, 8), (0, 9), (0, 10), (1, 11), (3, 6), (0, 7), (0, 12), (0, 13), (0, 14), (1, 15), (0, 16), (3, 17), (3, 18), (0, 19), (0, 20)] hs46 mixed (by kernel_rfl) (fun w48 hs49 => ?_)
                refine E0 (wanted_none rfl) rfl (y_move (v := Value.slice _ _ _) rfl rfl) ?_
                refine E0 (wanted_none rfl) rfl (y_slen rfl Try.underlying34 rfl) ?_
                refine E0 (wanted_none rfl) rfl (y_ne rfl rfl rfl) ?_
                refine E0 (wanted_none rfl) rfl (y_move (v := Value.bool _) rfl rfl) ?_
                refine Ekn (t := 157) (b0 := false) rfl (by exact bnF rfl) (fun h50 => ?_)
                refine E1 hs49 (wanted_yesB rfl rfl rfl h50) rfl ((y_loadT 0 rfl rfl rfl)) ?_
                refine E0 (wanted_yesB rfl rfl rfl h50) rfl (y_move (v := Value.int _ _) rfl rfl) ?_
                refine E0 (wanted_yesB rfl rfl rfl h50) rfl (y_move (v := Value.slice _ _ _) rfl rfl) ?_
                refine E0 (wanted_yesB rfl rfl rfl h50) rfl (y_move (v := Value.int _ _) rfl rfl) ?_
                refine E0 (wanted_yesB rfl rfl rfl h50) rfl (y_indexSl rfl Try.underlying34 sz3 rfl rfl (by omega) (by omega)) ?_
                refine E1 hs49 (wanted_yesB rfl rfl rfl h50) rfl (y_load 1 rfl Try.underlying3 rfl rfl rfl (by rw [ix1]; exact hget i (by omega))) ?_
                refine E3 (wanted_yesB rfl rfl rfl h50) (c_call rfl rfl rfl Try.func36 (by kernel_rfl) rfl (in_any T i w48) rfl ?_)
                rintro vC w51 ⟨eC, hrC, hc52⟩
                have hC : Sl w51 vC (inT T i 24).length (nums (inT T i 24)) := hrC.sl hc52 (fun x hx => hx) 0
                have hs53 := (hs49.call_new hc52 (row_keys hrC)).dropL (M := eC) (fun x hx => Nat.le_trans hs49.size (hrC.new x hx))
                refine ⟨fun _ => hs53, ?_⟩
                refine E0 (wanted_yesB rfl rfl rfl h50) rfl (y_slenSl rfl Try.underlying34 rfl hC) ?_
                refine E0 (wanted_yesB rfl rfl rfl h50) rfl (y_ne rfl rfl rfl) ?_
                refine E0 (wanted_none rfl) rfl (y_pickF rfl rfl h50 rfl) ?_
                refine E0 (wanted_none rfl) rfl (y_move (v := Value.bool _) rfl rfl) ?_
                refine Ekn (t := 168) (b0 := false) rfl (by exact bnF (lvI_get T (by omega)).symm) (fun h54 => ?_)
                refine E1 hs53 (wanted_yesB rfl rfl rfl h54) rfl ((y_loadT 0 rfl rfl rfl)) ?_
                refine E0 (wanted_yesB rfl rfl rfl h54) rfl (y_move (v := Value.int _ _) rfl rfl) ?_
                refine E3 (wanted_yesB rfl rfl rfl h54) (c_call rfl rfl rfl Try.func36 (by kernel_rfl) rfl (in_any T i w51) rfl ?_)
                rintro vE w55 ⟨eE, hrE, hc56⟩
                have hEE : Sl w55 vE (inT T i 24).length (nums (inT T i 24)) := hrE.sl hc56 (fun x hx => hx) 0
                have hs57 := (hs53.call_new hc56 (row_keys hrE)).dropL (M := eE) (fun x hx => Nat.le_trans hs53.size (hrE.new x hx))
                refine ⟨fun _ => hs57, ?_⟩
                refine E3 (wanted_yesB rfl rfl rfl h54) (c_call rfl rfl rfl Try.func39 (by kernel_rfl) rfl (isSorted_any (inT T i 24) vE (by have := inT_len T i 24; omega) (fun j k a b => inT_sortedN T i 24 j k a b) w55 hEE) rfl ?_)
                rintro _ w58 ⟨rfl, hc59⟩
                have hs60 := hs57.call0 hc59
                refine ⟨fun _ => hs60, ?_⟩
                refine E0 (wanted_yesB rfl rfl rfl h54) rfl (y_not rfl rfl) ?_
                refine E0 (wanted_none rfl) rfl (y_pickF rfl rfl h54 rfl) ?_
                refine Enil ?_
                refine Wkn (t := 174) (b0 := false) rfl (by rfl) (fun h61 => ?_)
                refine W_condF rfl h61 ?_
                refine W_skip ?_
                refine W_region ?_
                refine L0 (wanted_none rfl) rfl (y_move (v := Value.int _ _) rfl rfl) ?_
                refine L0 (wanted_none rfl) rfl (y_add64 rfl rfl rfl (by omega)) ?_
                refine L0 (wanted_none rfl) rfl (y_assign (v := Value.int _ _) rfl rfl) ?_
                refine Lnil ?_
                exact ⟨i + 1, by first | omega | (dsimp only; done) | (dsimp only; omega), _, A_c (iv_eq (by first | omega | (dsimp only; done) | (dsimp only; omega))) (A_c rfl (A_c rfl (rfl))), by omega, hs60⟩
              · have h47' := h47
                first | replace h47' := of_decide_eq_false h47' | replace h47' := bnF' h47' | skip
                refine W_condF rfl h47 ?_
                refine W_exit ?_
                refine W_seq ?_
                refine W_region ?_
                refine L0 (wanted_none rfl) rfl (y_assign (v := Value.bool _) rfl rfl) ?_
                refine Lnil ?_
                refine W_ret ?_
                refine fin1 (fn := Try.f7) rfl rfl ?_
                exact ⟨rfl, forget hs46 (by intro x hx; simp only [List.mem_cons, List.not_mem_nil, or_false] at hx; rcases hx with rfl | rfl <;> assumption)⟩
            · have h39' := h39
              first | replace h39' := of_decide_eq_false h39' | replace h39' := bnF' h39' | skip
              refine Lno (wanted_noB rfl rfl rfl h39 (by decide)) rfl ?_
              refine Lno (wanted_noB rfl rfl rfl h39 (by decide)) rfl ?_
              refine Lno (wanted_noB rfl rfl rfl h39 (by decide)) rfl ?_
              refine Lno (wanted_noB rfl rfl rfl h39 (by decide)) rfl ?_
              refine Lno (wanted_noB rfl rfl rfl h39 (by decide)) rfl ?_
              refine Lno (wanted_noU rfl rfl rfl) rfl ?_
              refine Lno (wanted_noU rfl rfl rfl) rfl ?_
              refine Lno (wanted_noU rfl rfl rfl) rfl ?_
              refine Lno (wanted_noU rfl rfl rfl) rfl ?_
              refine Lno (wanted_noU rfl rfl rfl) rfl ?_
              refine Lno (wanted_noB rfl rfl rfl h39 (by decide)) rfl ?_
              refine L0 (wanted_none rfl) rfl (y_pickF rfl rfl h39 rfl) ?_
              refine Lnil ?_
              refine W_condF rfl rfl ?_
              refine W_skip ?_
              refine W_seq ?_
              refine W_region ?_
              refine L1 (wanted_none rfl) rfl hs29 ((y_loadT 0 rfl rfl rfl)) ?_
              refine Lc (wanted_none rfl) (c_call rfl rfl rfl Try.func34 (by kernel_rfl) rfl (live_any T w28) rfl ?_)
              rintro vA w62 ⟨eA, hrA, hc63⟩
              obtain ⟨g, capA, cur, fz, rfl, rfl, hg, hgl, hfz, hsz, hget⟩ := row_block hrA (by decide) 0
              have hg2 : w.heap.size ≤ g := Nat.le_trans hs29.size hg
              have hs64 := (hs29.call_new hc63 (row_keys hrA)).perm (List.perm_append_comm (l₁ := [_]))
              refine L0 (wanted_none rfl) rfl (y_assign (v := Value.slice _ _ _) rfl rfl) ?_
              refine Lnil ?_
              refine W_seq ?_
              refine W_seq ?_
              refine W_region ?_
              refine L0 (wanted_none rfl) rfl (y_assign (v := Value.int _ _) rfl rfl) ?_
              refine Lnil ?_
              refine W_block ?_
              refine W_loop (G := Nat) (fun i aL wl => ∃ e, aL = A 175 ((16, iv i) :: (7, pv b2 0) :: (15, .slice (some ⟨g, 0, none⟩) 8 capA) :: e) ∧ i ≤ 8 ∧ St w [(b2, .cells ⟨tbl T⟩ 59 (0, 0)), (g, .cells cur 3 fz)] wl) (fun i => 8 - i) (0) ?_ ?_
              · exact ⟨_, A_pins _ _ [16, 7, 15], Nat.zero_le _, hs64⟩
              rintro i _ w65 ⟨ehs66, rfl, hi, hs66⟩
              refine W_seq ?_
              refine W_seq ?_
              refine W_region ?_
              refine L0 (wanted_none rfl) rfl (y_move (v := Value.int _ _) rfl rfl) ?_
              refine L0 (wanted_none rfl) rfl (y_lt rfl rfl rfl) ?_
              refine Lnil ?_
              refine Wsp (t := 151) rfl (fun h67 => ?_) (fun h67 => ?_)
              · have h67' := h67
                first | replace h67' := of_decide_eq_true h67' | replace h67' := bnT' h67' | skip
                refine W_condT rfl h67 ?_
                refine W_skip ?_
                refine W_seq ?_
                refine W_block ?_
                refine W_seq ?_
                refine W_drawSt [(0, 0), (0, 1), (0, 2), (0, 3), (1, 4), (0, 5), (0, 8), (0, 9), (0, 10), (1, 11), (3, 6), (0, 7), (0, 12), (0, 13), (0, 14), (1, 15), (0, 16), (3, 17), (3, 18), (0, 19), (0, 20)] hs66 mixed (by kernel_rfl) (fun w68 hs69 => ?_)
                refine E0 (wanted_none rfl) rfl (y_move (v := Value.slice _ _ _) rfl rfl) ?_
                refine E0 (wanted_none rfl) rfl (y_slen rfl Try.underlying34 rfl) ?_
                refine E0 (wanted_none rfl) rfl (y_ne rfl rfl rfl) ?_
                refine E0 (wanted_none rfl) rfl (y_move (v := Value.bool _) rfl rfl) ?_
                refine Ekn (t := 157) (b0 := false) rfl (by exact bnF rfl) (fun h70 => ?_)
                refine E1 hs69 (wanted_yesB rfl rfl rfl h70) rfl ((y_loadT 0 rfl rfl rfl)) ?_
                refine E0 (wanted_yesB rfl rfl rfl h70) rfl (y_move (v := Value.int _ _) rfl rfl) ?_
                refine E0 (wanted_yesB rfl rfl rfl h70) rfl (y_move (v := Value.slice _ _ _) rfl rfl) ?_
                refine E0 (wanted_yesB rfl rfl rfl h70) rfl (y_move (v := Value.int _ _) rfl rfl) ?_
                refine E0 (wanted_yesB rfl rfl rfl h70) rfl (y_indexSl rfl Try.underlying34 sz3 rfl rfl (by omega) (by omega)) ?_
                refine E1 hs69 (wanted_yesB rfl rfl rfl h70) rfl (y_load 1 rfl Try.underlying3 rfl rfl rfl (by rw [ix1]; exact hget i (by omega))) ?_
                refine E3 (wanted_yesB rfl rfl rfl h70) (c_call rfl rfl rfl Try.func36 (by kernel_rfl) rfl (in_any T i w68) rfl ?_)
                rintro vC w71 ⟨eC, hrC, hc72⟩
                have hC : Sl w71 vC (inT T i 24).length (nums (inT T i 24)) := hrC.sl hc72 (fun x hx => hx) 0
                have hs73 := (hs69.call_new hc72 (row_keys hrC)).dropL (M := eC) (fun x hx => Nat.le_trans hs69.size (hrC.new x hx))
                refine ⟨fun _ => hs73, ?_⟩
                refine E0 (wanted_yesB rfl rfl rfl h70) rfl (y_slenSl rfl Try.underlying34 rfl hC) ?_
                refine E0 (wanted_yesB rfl rfl rfl h70) rfl (y_ne rfl rfl rfl) ?_
                refine E0 (wanted_none rfl) rfl (y_pickF rfl rfl h70 rfl) ?_
                refine E0 (wanted_none rfl) rfl (y_move (v := Value.bool _) rfl rfl) ?_
                refine Ekn (t := 168) (b0 := false) rfl (by exact bnF (lvI_get T (by omega)).symm) (fun h74 => ?_)
                refine E1 hs73 (wanted_yesB rfl rfl rfl h74) rfl ((y_loadT 0 rfl rfl rfl)) ?_
                refine E0 (wanted_yesB rfl rfl rfl h74) rfl (y_move (v := Value.int _ _) rfl rfl) ?_
                refine E3 (wanted_yesB rfl rfl rfl h74) (c_call rfl rfl rfl Try.func36 (by kernel_rfl) rfl (in_any T i w71) rfl ?_)
                rintro vE w75 ⟨eE, hrE, hc76⟩
                have hEE : Sl w75 vE (inT T i 24).length (nums (inT T i 24)) := hrE.sl hc76 (fun x hx => hx) 0
                have hs77 := (hs73.call_new hc76 (row_keys hrE)).dropL (M := eE) (fun x hx => Nat.le_trans hs73.size (hrE.new x hx))
                refine ⟨fun _ => hs77, ?_⟩
                refine E3 (wanted_yesB rfl rfl rfl h74) (c_call rfl rfl rfl Try.func39 (by kernel_rfl) rfl (isSorted_any (inT T i 24) vE (by have := inT_len T i 24; omega) (fun j k a b => inT_sortedN T i 24 j k a b) w75 hEE) rfl ?_)
                rintro _ w78 ⟨rfl, hc79⟩
                have hs80 := hs77.call0 hc79
                refine ⟨fun _ => hs80, ?_⟩
                refine E0 (wanted_yesB rfl rfl rfl h74) rfl (y_not rfl rfl) ?_
                refine E0 (wanted_none rfl) rfl (y_pickF rfl rfl h74 rfl) ?_
                refine Enil ?_
                refine Wkn (t := 174) (b0 := false) rfl (by rfl) (fun h81 => ?_)
                refine W_condF rfl h81 ?_
                refine W_skip ?_
                refine W_region ?_
                refine L0 (wanted_none rfl) rfl (y_move (v := Value.int _ _) rfl rfl) ?_
                refine L0 (wanted_none rfl) rfl (y_add64 rfl rfl rfl (by omega)) ?_
                refine L0 (wanted_none rfl) rfl (y_assign (v := Value.int _ _) rfl rfl) ?_
                refine Lnil ?_
                exact ⟨i + 1, by first | omega | (dsimp only; done) | (dsimp only; omega), _, A_c (iv_eq (by first | omega | (dsimp only; done) | (dsimp only; omega))) (A_c rfl (A_c rfl (rfl))), by omega, hs80⟩
              · have h67' := h67
                first | replace h67' := of_decide_eq_false h67' | replace h67' := bnF' h67' | skip
                refine W_condF rfl h67 ?_
                refine W_exit ?_
                refine W_seq ?_
                refine W_region ?_
                refine L0 (wanted_none rfl) rfl (y_assign (v := Value.bool _) rfl rfl) ?_
                refine Lnil ?_
                refine W_ret ?_
                refine fin1 (fn := Try.f7) rfl rfl ?_
                exact ⟨rfl, forget hs66 (by intro x hx; simp only [List.mem_cons, List.not_mem_nil, or_false] at hx; rcases hx with rfl | rfl <;> assumption)⟩
        · have h30' := h30
          first | replace h30' := of_decide_eq_false h30' | replace h30' := bnF' h30' | skip
          refine Lno (wanted_noB rfl rfl rfl h30 (by decide)) rfl ?_
          refine Lno (wanted_noB rfl rfl rfl h30 (by decide)) rfl ?_
          refine Lno (wanted_noB rfl rfl rfl h30 (by decide)) rfl ?_
          refine Lno (wanted_noB rfl rfl rfl h30 (by decide)) rfl ?_
          refine L0 (wanted_none rfl) rfl (y_pickF rfl rfl h30 rfl) ?_
          refine Lnil ?_
          refine W_condF rfl rfl ?_
          refine W_exit ?_
          refine W_seq ?_
          refine W_seq ?_
          refine W_region ?_
          refine L0 (wanted_none rfl) rfl (y_move (v := Value.bool _) rfl rfl) ?_
          refine L0 (wanted_none rfl) rfl (y_move (v := Value.bool _) rfl rfl) ?_
          refine Lsp (t := 135) rfl (fun h82 => ?_) (fun h82 => ?_)
          · have h82' := h82
            first | replace h82' := of_decide_eq_true h82' | replace h82' := bnT' h82' | skip
            refine L0 (wanted_yesB rfl rfl rfl h82) rfl (y_move (v := Value.int _ _) rfl rfl) ?_
            refine L0 (wanted_yesB rfl rfl rfl h82) rfl (y_move (v := va) rfl rfl) ?_
            refine L0 (wanted_yesB rfl rfl rfl h82) rfl (y_slenSl rfl Try.underlying34 rfl hSa) ?_
            refine L0 (wanted_yesB rfl rfl rfl h82) rfl (y_ge rfl rfl rfl) ?_
            refine L0 (wanted_yesB rfl rfl rfl h82) rfl (y_move (v := Value.bool _) rfl rfl) ?_
            refine Lkn (t := 140) (b0 := false) rfl (by exact decide_eq_false (by obtain ⟨q1, q2⟩ := best_found hB (by omega); omega)) (fun h83 => ?_)
            refine L0 (wanted_yesB rfl rfl rfl h83) rfl (y_move (v := va) rfl rfl) ?_
            refine L0 (wanted_yesB rfl rfl rfl h83) rfl (y_move (v := Value.int _ _) rfl rfl) ?_
            obtain ⟨q1, q2⟩ := best_found hB (by omega)
            refine L0 (wanted_yesB rfl rfl rfl h83) rfl (y_indexSlAt rfl Try.underlying34 sz3 rfl rfl hSa (by omega) (by omega)) ?_
            refine L1 (wanted_yesB rfl rfl rfl h83) rfl hs29 (y_loadSl (max b 0).toNat rfl Try.underlying3 rfl rfl hSa (by omega) (by omega) (by intro k hk; first | (simp [keys] at hk; done) | (simp [keys] at hk; omega))) ?_
            refine L0 (wanted_yesB rfl rfl rfl h83) rfl (y_lt rfl rfl rfl) ?_
            refine L0 (wanted_yesB rfl rfl rfl h82) rfl (y_pickF rfl rfl h83 rfl) ?_
            refine L0 (wanted_none rfl) rfl (y_pickT rfl rfl h82 rfl) ?_
            refine Lnil ?_
            refine Wkn (t := 147) (b0 := false) rfl (by exact decide_eq_false (by obtain ⟨q1, q2⟩ := best_found hB (by omega); omega)) (fun h84 => ?_)
            refine W_condF rfl h84 ?_
            refine W_skip ?_
            refine W_seq ?_
            refine W_region ?_
            refine L1 (wanted_none rfl) rfl hs29 ((y_loadT 0 rfl rfl rfl)) ?_
            refine Lc (wanted_none rfl) (c_call rfl rfl rfl Try.func34 (by kernel_rfl) rfl (live_any T w28) rfl ?_)
            rintro vA w85 ⟨eA, hrA, hc86⟩
            obtain ⟨g, capA, cur, fz, rfl, rfl, hg, hgl, hfz, hsz, hget⟩ := row_block hrA (by decide) 0
            have hg2 : w.heap.size ≤ g := Nat.le_trans hs29.size hg
            have hs87 := (hs29.call_new hc86 (row_keys hrA)).perm (List.perm_append_comm (l₁ := [_]))
            refine L0 (wanted_none rfl) rfl (y_assign (v := Value.slice _ _ _) rfl rfl) ?_
            refine Lnil ?_
            refine W_seq ?_
            refine W_seq ?_
            refine W_region ?_
            refine L0 (wanted_none rfl) rfl (y_assign (v := Value.int _ _) rfl rfl) ?_
            refine Lnil ?_
            refine W_block ?_
            refine W_loop (G := Nat) (fun i aL wl => ∃ e, aL = A 175 ((16, iv i) :: (7, pv b2 0) :: (15, .slice (some ⟨g, 0, none⟩) 8 capA) :: e) ∧ i ≤ 8 ∧ St w [(b2, .cells ⟨tbl T⟩ 59 (0, 0)), (g, .cells cur 3 fz)] wl) (fun i => 8 - i) (0) ?_ ?_
            · exact ⟨_, A_pins _ _ [16, 7, 15], Nat.zero_le _, hs87⟩
            rintro i _ w88 ⟨ehs89, rfl, hi, hs89⟩
            refine W_seq ?_
            refine W_seq ?_
            refine W_region ?_
            refine L0 (wanted_none rfl) rfl (y_move (v := Value.int _ _) rfl rfl) ?_
            refine L0 (wanted_none rfl) rfl (y_lt rfl rfl rfl) ?_
            refine Lnil ?_
            refine Wsp (t := 151) rfl (fun h90 => ?_) (fun h90 => ?_)
            · have h90' := h90
              first | replace h90' := of_decide_eq_true h90' | replace h90' := bnT' h90' | skip
              refine W_condT rfl h90 ?_
              refine W_skip ?_
              refine W_seq ?_
              refine W_block ?_
              refine W_seq ?_
              refine W_drawSt [(0, 0), (0, 1), (0, 2), (0, 3), (1, 4), (0, 5), (0, 8), (0, 9), (0, 10), (1, 11), (3, 6), (0, 7), (0, 12), (0, 13), (0, 14), (1, 15), (0, 16), (3, 17), (3, 18), (0, 19), (0, 20)] hs89 mixed (by kernel_rfl) (fun w91 hs92 => ?_)
              refine E0 (wanted_none rfl) rfl (y_move (v := Value.slice _ _ _) rfl rfl) ?_
              refine E0 (wanted_none rfl) rfl (y_slen rfl Try.underlying34 rfl) ?_
              refine E0 (wanted_none rfl) rfl (y_ne rfl rfl rfl) ?_
              refine E0 (wanted_none rfl) rfl (y_move (v := Value.bool _) rfl rfl) ?_
              refine Ekn (t := 157) (b0 := false) rfl (by exact bnF rfl) (fun h93 => ?_)
              refine E1 hs92 (wanted_yesB rfl rfl rfl h93) rfl ((y_loadT 0 rfl rfl rfl)) ?_
              refine E0 (wanted_yesB rfl rfl rfl h93) rfl (y_move (v := Value.int _ _) rfl rfl) ?_
              refine E0 (wanted_yesB rfl rfl rfl h93) rfl (y_move (v := Value.slice _ _ _) rfl rfl) ?_
              refine E0 (wanted_yesB rfl rfl rfl h93) rfl (y_move (v := Value.int _ _) rfl rfl) ?_
              refine E0 (wanted_yesB rfl rfl rfl h93) rfl (y_indexSl rfl Try.underlying34 sz3 rfl rfl (by omega) (by omega)) ?_
              refine E1 hs92 (wanted_yesB rfl rfl rfl h93) rfl (y_load 1 rfl Try.underlying3 rfl rfl rfl (by rw [ix1]; exact hget i (by omega))) ?_
              refine E3 (wanted_yesB rfl rfl rfl h93) (c_call rfl rfl rfl Try.func36 (by kernel_rfl) rfl (in_any T i w91) rfl ?_)
              rintro vC w94 ⟨eC, hrC, hc95⟩
              have hC : Sl w94 vC (inT T i 24).length (nums (inT T i 24)) := hrC.sl hc95 (fun x hx => hx) 0
              have hs96 := (hs92.call_new hc95 (row_keys hrC)).dropL (M := eC) (fun x hx => Nat.le_trans hs92.size (hrC.new x hx))
              refine ⟨fun _ => hs96, ?_⟩
              refine E0 (wanted_yesB rfl rfl rfl h93) rfl (y_slenSl rfl Try.underlying34 rfl hC) ?_
              refine E0 (wanted_yesB rfl rfl rfl h93) rfl (y_ne rfl rfl rfl) ?_
              refine E0 (wanted_none rfl) rfl (y_pickF rfl rfl h93 rfl) ?_
              refine E0 (wanted_none rfl) rfl (y_move (v := Value.bool _) rfl rfl) ?_
              refine Ekn (t := 168) (b0 := false) rfl (by exact bnF (lvI_get T (by omega)).symm) (fun h97 => ?_)
              refine E1 hs96 (wanted_yesB rfl rfl rfl h97) rfl ((y_loadT 0 rfl rfl rfl)) ?_
              refine E0 (wanted_yesB rfl rfl rfl h97) rfl (y_move (v := Value.int _ _) rfl rfl) ?_
              refine E3 (wanted_yesB rfl rfl rfl h97) (c_call rfl rfl rfl Try.func36 (by kernel_rfl) rfl (in_any T i w94) rfl ?_)
              rintro vE w98 ⟨eE, hrE, hc99⟩
              have hEE : Sl w98 vE (inT T i 24).length (nums (inT T i 24)) := hrE.sl hc99 (fun x hx => hx) 0
              have hs100 := (hs96.call_new hc99 (row_keys hrE)).dropL (M := eE) (fun x hx => Nat.le_trans hs96.size (hrE.new x hx))
              refine ⟨fun _ => hs100, ?_⟩
              refine E3 (wanted_yesB rfl rfl rfl h97) (c_call rfl rfl rfl Try.func39 (by kernel_rfl) rfl (isSorted_any (inT T i 24) vE (by have := inT_len T i 24; omega) (fun j k a b => inT_sortedN T i 24 j k a b) w98 hEE) rfl ?_)
              rintro _ w101 ⟨rfl, hc102⟩
              have hs103 := hs100.call0 hc102
              refine ⟨fun _ => hs103, ?_⟩
              refine E0 (wanted_yesB rfl rfl rfl h97) rfl (y_not rfl rfl) ?_
              refine E0 (wanted_none rfl) rfl (y_pickF rfl rfl h97 rfl) ?_
              refine Enil ?_
              refine Wkn (t := 174) (b0 := false) rfl (by rfl) (fun h104 => ?_)
              refine W_condF rfl h104 ?_
              refine W_skip ?_
              refine W_region ?_
              refine L0 (wanted_none rfl) rfl (y_move (v := Value.int _ _) rfl rfl) ?_
              refine L0 (wanted_none rfl) rfl (y_add64 rfl rfl rfl (by omega)) ?_
              refine L0 (wanted_none rfl) rfl (y_assign (v := Value.int _ _) rfl rfl) ?_
              refine Lnil ?_
              exact ⟨i + 1, by first | omega | (dsimp only; done) | (dsimp only; omega), _, A_c (iv_eq (by first | omega | (dsimp only; done) | (dsimp only; omega))) (A_c rfl (A_c rfl (rfl))), by omega, hs103⟩
            · have h90' := h90
              first | replace h90' := of_decide_eq_false h90' | replace h90' := bnF' h90' | skip
              refine W_condF rfl h90 ?_
              refine W_exit ?_
              refine W_seq ?_
              refine W_region ?_
              refine L0 (wanted_none rfl) rfl (y_assign (v := Value.bool _) rfl rfl) ?_
              refine Lnil ?_
              refine W_ret ?_
              refine fin1 (fn := Try.f7) rfl rfl ?_
              exact ⟨rfl, forget hs89 (by intro x hx; simp only [List.mem_cons, List.not_mem_nil, or_false] at hx; rcases hx with rfl | rfl <;> assumption)⟩
          · have h82' := h82
            first | replace h82' := of_decide_eq_false h82' | replace h82' := bnF' h82' | skip
            refine Lno (wanted_noB rfl rfl rfl h82 (by decide)) rfl ?_
            refine Lno (wanted_noB rfl rfl rfl h82 (by decide)) rfl ?_
            refine Lno (wanted_noB rfl rfl rfl h82 (by decide)) rfl ?_
            refine Lno (wanted_noB rfl rfl rfl h82 (by decide)) rfl ?_
            refine Lno (wanted_noB rfl rfl rfl h82 (by decide)) rfl ?_
            refine Lno (wanted_noU rfl rfl rfl) rfl ?_
            refine Lno (wanted_noU rfl rfl rfl) rfl ?_
            refine Lno (wanted_noU rfl rfl rfl) rfl ?_
            refine Lno (wanted_noU rfl rfl rfl) rfl ?_
            refine Lno (wanted_noU rfl rfl rfl) rfl ?_
            refine Lno (wanted_noB rfl rfl rfl h82 (by decide)) rfl ?_
            refine L0 (wanted_none rfl) rfl (y_pickF rfl rfl h82 rfl) ?_
            refine Lnil ?_
            refine W_condF rfl rfl ?_
            refine W_skip ?_
            refine W_seq ?_
            refine W_region ?_
            refine L1 (wanted_none rfl) rfl hs29 ((y_loadT 0 rfl rfl rfl)) ?_
            refine Lc (wanted_none rfl) (c_call rfl rfl rfl Try.func34 (by kernel_rfl) rfl (live_any T w28) rfl ?_)
            rintro vA w105 ⟨eA, hrA, hc106⟩
            obtain ⟨g, capA, cur, fz, rfl, rfl, hg, hgl, hfz, hsz, hget⟩ := row_block hrA (by decide) 0
            have hg2 : w.heap.size ≤ g := Nat.le_trans hs29.size hg
            have hs107 := (hs29.call_new hc106 (row_keys hrA)).perm (List.perm_append_comm (l₁ := [_]))
            refine L0 (wanted_none rfl) rfl (y_assign (v := Value.slice _ _ _) rfl rfl) ?_
            refine Lnil ?_
            refine W_seq ?_
            refine W_seq ?_
            refine W_region ?_
            refine L0 (wanted_none rfl) rfl (y_assign (v := Value.int _ _) rfl rfl) ?_
            refine Lnil ?_
            refine W_block ?_
            refine W_loop (G := Nat) (fun i aL wl => ∃ e, aL = A 175 ((16, iv i) :: (7, pv b2 0) :: (15, .slice (some ⟨g, 0, none⟩) 8 capA) :: e) ∧ i ≤ 8 ∧ St w [(b2, .cells ⟨tbl T⟩ 59 (0, 0)), (g, .cells cur 3 fz)] wl) (fun i => 8 - i) (0) ?_ ?_
            · exact ⟨_, A_pins _ _ [16, 7, 15], Nat.zero_le _, hs107⟩
            rintro i _ w108 ⟨ehs109, rfl, hi, hs109⟩
            refine W_seq ?_
            refine W_seq ?_
            refine W_region ?_
            refine L0 (wanted_none rfl) rfl (y_move (v := Value.int _ _) rfl rfl) ?_
            refine L0 (wanted_none rfl) rfl (y_lt rfl rfl rfl) ?_
            refine Lnil ?_
            refine Wsp (t := 151) rfl (fun h110 => ?_) (fun h110 => ?_)
            · have h110' := h110
              first | replace h110' := of_decide_eq_true h110' | replace h110' := bnT' h110' | skip
              refine W_condT rfl h110 ?_
              refine W_skip ?_
              refine W_seq ?_
              refine W_block ?_
              refine W_seq ?_
              refine W_drawSt [(0, 0), (0, 1), (0, 2), (0, 3), (1, 4), (0, 5), (0, 8), (0, 9), (0, 10), (1, 11), (3, 6), (0, 7), (0, 12), (0, 13), (0, 14), (1, 15), (0, 16), (3, 17), (3, 18), (0, 19), (0, 20)] hs109 mixed (by kernel_rfl) (fun w111 hs112 => ?_)
              refine E0 (wanted_none rfl) rfl (y_move (v := Value.slice _ _ _) rfl rfl) ?_
              refine E0 (wanted_none rfl) rfl (y_slen rfl Try.underlying34 rfl) ?_
              refine E0 (wanted_none rfl) rfl (y_ne rfl rfl rfl) ?_
              refine E0 (wanted_none rfl) rfl (y_move (v := Value.bool _) rfl rfl) ?_
              refine Ekn (t := 157) (b0 := false) rfl (by exact bnF rfl) (fun h113 => ?_)
              refine E1 hs112 (wanted_yesB rfl rfl rfl h113) rfl ((y_loadT 0 rfl rfl rfl)) ?_
              refine E0 (wanted_yesB rfl rfl rfl h113) rfl (y_move (v := Value.int _ _) rfl rfl) ?_
              refine E0 (wanted_yesB rfl rfl rfl h113) rfl (y_move (v := Value.slice _ _ _) rfl rfl) ?_
              refine E0 (wanted_yesB rfl rfl rfl h113) rfl (y_move (v := Value.int _ _) rfl rfl) ?_
              refine E0 (wanted_yesB rfl rfl rfl h113) rfl (y_indexSl rfl Try.underlying34 sz3 rfl rfl (by omega) (by omega)) ?_
              refine E1 hs112 (wanted_yesB rfl rfl rfl h113) rfl (y_load 1 rfl Try.underlying3 rfl rfl rfl (by rw [ix1]; exact hget i (by omega))) ?_
              refine E3 (wanted_yesB rfl rfl rfl h113) (c_call rfl rfl rfl Try.func36 (by kernel_rfl) rfl (in_any T i w111) rfl ?_)
              rintro vC w114 ⟨eC, hrC, hc115⟩
              have hC : Sl w114 vC (inT T i 24).length (nums (inT T i 24)) := hrC.sl hc115 (fun x hx => hx) 0
              have hs116 := (hs112.call_new hc115 (row_keys hrC)).dropL (M := eC) (fun x hx => Nat.le_trans hs112.size (hrC.new x hx))
              refine ⟨fun _ => hs116, ?_⟩
              refine E0 (wanted_yesB rfl rfl rfl h113) rfl (y_slenSl rfl Try.underlying34 rfl hC) ?_
              refine E0 (wanted_yesB rfl rfl rfl h113) rfl (y_ne rfl rfl rfl) ?_
              refine E0 (wanted_none rfl) rfl (y_pickF rfl rfl h113 rfl) ?_
              refine E0 (wanted_none rfl) rfl (y_move (v := Value.bool _) rfl rfl) ?_
              refine Ekn (t := 168) (b0 := false) rfl (by exact bnF (lvI_get T (by omega)).symm) (fun h117 => ?_)
              refine E1 hs116 (wanted_yesB rfl rfl rfl h117) rfl ((y_loadT 0 rfl rfl rfl)) ?_
              refine E0 (wanted_yesB rfl rfl rfl h117) rfl (y_move (v := Value.int _ _) rfl rfl) ?_
              refine E3 (wanted_yesB rfl rfl rfl h117) (c_call rfl rfl rfl Try.func36 (by kernel_rfl) rfl (in_any T i w114) rfl ?_)
              rintro vE w118 ⟨eE, hrE, hc119⟩
              have hEE : Sl w118 vE (inT T i 24).length (nums (inT T i 24)) := hrE.sl hc119 (fun x hx => hx) 0
              have hs120 := (hs116.call_new hc119 (row_keys hrE)).dropL (M := eE) (fun x hx => Nat.le_trans hs116.size (hrE.new x hx))
              refine ⟨fun _ => hs120, ?_⟩
              refine E3 (wanted_yesB rfl rfl rfl h117) (c_call rfl rfl rfl Try.func39 (by kernel_rfl) rfl (isSorted_any (inT T i 24) vE (by have := inT_len T i 24; omega) (fun j k a b => inT_sortedN T i 24 j k a b) w118 hEE) rfl ?_)
              rintro _ w121 ⟨rfl, hc122⟩
              have hs123 := hs120.call0 hc122
              refine ⟨fun _ => hs123, ?_⟩
              refine E0 (wanted_yesB rfl rfl rfl h117) rfl (y_not rfl rfl) ?_
              refine E0 (wanted_none rfl) rfl (y_pickF rfl rfl h117 rfl) ?_
              refine Enil ?_
              refine Wkn (t := 174) (b0 := false) rfl (by rfl) (fun h124 => ?_)
              refine W_condF rfl h124 ?_
              refine W_skip ?_
              refine W_region ?_
              refine L0 (wanted_none rfl) rfl (y_move (v := Value.int _ _) rfl rfl) ?_
              refine L0 (wanted_none rfl) rfl (y_add64 rfl rfl rfl (by omega)) ?_
              refine L0 (wanted_none rfl) rfl (y_assign (v := Value.int _ _) rfl rfl) ?_
              refine Lnil ?_
              exact ⟨i + 1, by first | omega | (dsimp only; done) | (dsimp only; omega), _, A_c (iv_eq (by first | omega | (dsimp only; done) | (dsimp only; omega))) (A_c rfl (A_c rfl (rfl))), by omega, hs123⟩
            · have h110' := h110
              first | replace h110' := of_decide_eq_false h110' | replace h110' := bnF' h110' | skip
              refine W_condF rfl h110 ?_
              refine W_exit ?_
              refine W_seq ?_
              refine W_region ?_
              refine L0 (wanted_none rfl) rfl (y_assign (v := Value.bool _) rfl rfl) ?_
              refine Lnil ?_
              refine W_ret ?_
              refine fin1 (fn := Try.f7) rfl rfl ?_
              exact ⟨rfl, forget hs109 (by intro x hx; simp only [List.mem_cons, List.not_mem_nil, or_false] at hx; rcases hx with rfl | rfl <;> assumption)⟩
      · have h20' := h20
        first | replace h20' := of_decide_eq_false h20' | replace h20' := bnF' h20' | skip
        refine Lno (wanted_noB rfl rfl rfl h20 (by decide)) rfl ?_
        refine Lno (wanted_noB rfl rfl rfl h20 (by decide)) rfl ?_
        refine Lno (wanted_noB rfl rfl rfl h20 (by decide)) rfl ?_
        refine Lno (wanted_noU rfl rfl rfl) rfl ?_
        refine Lno (wanted_noU rfl rfl rfl) rfl ?_
        refine Lno (wanted_noU rfl rfl rfl) rfl ?_
        refine Lno (wanted_noU rfl rfl rfl) rfl ?_
        refine Lno (wanted_noB rfl rfl rfl h20 (by decide)) rfl ?_
        refine Lno (wanted_noB rfl rfl rfl h20 (by decide)) rfl ?_
        refine Lno (wanted_noU rfl rfl rfl) rfl ?_
        refine Lno (wanted_noU rfl rfl rfl) rfl ?_
        refine Lno (wanted_noU rfl rfl rfl) rfl ?_
        refine Lno (wanted_noU rfl rfl rfl) rfl ?_
        refine Lno (wanted_noU rfl rfl rfl) rfl ?_
        refine Lno (wanted_noB rfl rfl rfl h20 (by decide)) rfl ?_
        refine Lno (wanted_noB rfl rfl rfl h20 (by decide)) rfl ?_
        refine Lno (wanted_noU rfl rfl rfl) rfl ?_
        refine Lno (wanted_noU rfl rfl rfl) rfl ?_
        refine Lno (wanted_noU rfl rfl rfl) rfl ?_
        refine Lno (wanted_noB rfl rfl rfl h20 (by decide)) rfl ?_
        refine L0 (wanted_yesB rfl rfl rfl h19) rfl (y_pickF rfl rfl h20 rfl) ?_
        refine L0 (wanted_none rfl) rfl (y_pickF rfl rfl h19 rfl) ?_
        refine Lnil ?_
        refine W_condF rfl rfl ?_
        refine W_skip ?_
        refine W_seq ?_
        refine W_region ?_
        refine L0 (wanted_none rfl) rfl (y_move (v := va) rfl rfl) ?_
        refine L0 (wanted_none rfl) rfl (y_move (v := vb) rfl rfl) ?_
        refine Lc (wanted_none rfl) (c_call rfl rfl rfl Try.func32 (by kernel_rfl) rfl (victim_any l v va vb (by omega) (by omega) w14 (hSa.keep hs16 (by intro k hk; simp [keys] at hk; omega)) (hSb.keep hs16 (by intro k hk; simp [keys] at hk; omega))) rfl ?_)
        rintro vt w125 ⟨⟨b, hB, rfl⟩, hc126⟩
        have hs127 := hs16.call0 hc126
        refine L0 (wanted_none rfl) rfl (y_move (v := Value.tuple ⟨_⟩) rfl rfl) ?_
        refine L0 (wanted_none rfl) rfl (y_extract rfl rfl rfl) ?_
        refine L0 (wanted_none rfl) rfl (y_extract rfl rfl rfl) ?_
        refine L0 (wanted_none rfl) rfl (y_assign (v := Value.int _ _) rfl rfl) ?_
        refine L0 (wanted_none rfl) rfl (y_assign (v := Value.bool _) rfl rfl) ?_
        refine Lnil ?_
        refine W_seq ?_
        refine W_seq ?_
        refine W_region ?_
        refine L0 (wanted_none rfl) rfl (y_assign (v := Value.int _ _) rfl rfl) ?_
        refine Lnil ?_
        refine W_block ?_
        refine W_loop (G := Nat) (fun i aL wl => ∃ e, aL = A 175 ((14, iv i) :: (0, va) :: (1, vb) :: (12, iv (max b 0)) :: (13, .bool (decide (0 ≤ b))) :: (7, pv b2 0) :: e) ∧ i ≤ l.length ∧ St w [(b2, .cells ⟨tbl T⟩ 59 (0, 0))] wl) (fun i => l.length - i) (0) ?_ ?_
        · exact ⟨_, A_pins _ _ [14, 0, 1, 12, 13, 7], Nat.zero_le _, hs127⟩
        rintro i _ w128 ⟨ehs129, rfl, hi, hs129⟩
        refine W_seq ?_
        refine W_seq ?_
        refine W_region ?_
        refine L0 (wanted_none rfl) rfl (y_move (v := Value.int _ _) rfl rfl) ?_
        refine L0 (wanted_none rfl) rfl (y_move (v := va) rfl rfl) ?_
        refine L0 (wanted_none rfl) rfl (y_slenSl rfl Try.underlying34 rfl hSa) ?_
        refine L0 (wanted_none rfl) rfl (y_lt rfl rfl rfl) ?_
        refine L0 (wanted_none rfl) rfl (y_move (v := Value.bool _) rfl rfl) ?_
        refine Lsp (t := 90) rfl (fun h130 => ?_) (fun h130 => ?_)
        · have h130' := h130
          first | replace h130' := of_decide_eq_true h130' | replace h130' := bnT' h130' | skip
          refine L0 (wanted_yesB rfl rfl rfl h130) rfl (y_move (v := Value.int _ _) rfl rfl) ?_
          refine L0 (wanted_yesB rfl rfl rfl h130) rfl (y_move (v := vb) rfl rfl) ?_
          refine L0 (wanted_yesB rfl rfl rfl h130) rfl (y_slenSl rfl Try.underlying34 rfl hSb) ?_
          refine L0 (wanted_yesB rfl rfl rfl h130) rfl (y_lt rfl rfl rfl) ?_
          refine L0 (wanted_none rfl) rfl (y_pickT rfl rfl h130 rfl) ?_
          refine Lnil ?_
          refine Wsp (t := 95) rfl (fun h131 => ?_) (fun h131 => ?_)
          · have h131' := h131
            first | replace h131' := of_decide_eq_true h131' | replace h131' := bnT' h131' | skip
            refine W_condT rfl h131 ?_
            refine W_skip ?_
            refine W_seq ?_
            refine W_block ?_
            refine W_seq ?_
            refine W_drawSt [(0, 0), (0, 1), (0, 2), (1, 3), (0, 4), (0, 5), (0, 6), (0, 7), (0, 8), (0, 9), (0, 10), (0, 13), (0, 14), (0, 11), (0, 15), (1, 12), (1, 16), (0, 17), (0, 18), (0, 19), (0, 20), (0, 21), (0, 24), (0, 25), (0, 22), (0, 26), (1, 23), (1, 27), (0, 28), (0, 29), (0, 30), (0, 31), (0, 32), (0, 33), (0, 34), (0, 35)] hs129 mixed (by kernel_rfl) (fun w132 hs133 => ?_)
            refine E0 (wanted_none rfl) rfl (y_move (v := va) rfl rfl) ?_
            refine E0 (wanted_none rfl) rfl (y_move (v := Value.int _ _) rfl rfl) ?_
            refine E0 (wanted_none rfl) rfl (y_indexSlAt rfl Try.underlying34 sz3 rfl rfl hSa (by omega) (by omega)) ?_
            refine E1 hs133 (wanted_none rfl) rfl (y_loadSl i rfl Try.underlying3 rfl rfl hSa (by omega) (by omega) (by intro k hk; first | (simp [keys] at hk; done) | (simp [keys] at hk; omega))) ?_
            refine E0 (wanted_none rfl) rfl (y_ge rfl rfl rfl) ?_
            refine E0 (wanted_none rfl) rfl (y_move (v := Value.bool _) rfl rfl) ?_
            refine Esp (t := 103) rfl (fun h134 => ?_) (fun h134 => ?_)
            · have h134' := h134
              first | replace h134' := of_decide_eq_true h134' | replace h134' := bnT' h134' | skip
              refine E0 (wanted_yesB rfl rfl rfl h134) rfl (y_move (v := Value.bool _) rfl rfl) ?_
              refine E0 (wanted_yesB rfl rfl rfl h134) rfl (y_not rfl rfl) ?_
              refine E0 (wanted_yesB rfl rfl rfl h134) rfl (y_move (v := Value.bool _) rfl rfl) ?_
              refine Ekn (t := 106) (b0 := false) rfl (by exact bnF (by obtain ⟨q1, q2, q3, q4, q5⟩ := best_full hB i (by omega) (by omega) (by omega); omega)) (fun h135 => ?_)
              refine E0 (wanted_yesB rfl rfl rfl h135) rfl (y_move (v := vb) rfl rfl) ?_
              refine E0 (wanted_yesB rfl rfl rfl h135) rfl (y_move (v := Value.int _ _) rfl rfl) ?_
              refine E0 (wanted_yesB rfl rfl rfl h135) rfl (y_move (v := vb) rfl rfl) ?_
              refine E0 (wanted_yesB rfl rfl rfl h135) rfl (y_move (v := Value.int _ _) rfl rfl) ?_
              refine E0 (wanted_yesB rfl rfl rfl h135) rfl (y_indexSlAt rfl Try.underlying34 sz3 rfl rfl hSb (by omega) (by omega)) ?_
              obtain ⟨q1, q2, q3, q4, q5⟩ := best_full hB i (by omega) (by omega) (by omega)
              refine E0 (wanted_yesB rfl rfl rfl h135) rfl (y_indexSlAt rfl Try.underlying34 sz3 rfl rfl hSb (by omega) (by omega)) ?_
              refine E1 hs133 (wanted_yesB rfl rfl rfl h135) rfl (y_loadSl i rfl Try.underlying3 rfl rfl hSb (by omega) (by omega) (by intro k hk; first | (simp [keys] at hk; done) | (simp [keys] at hk; omega))) ?_
              refine E1 hs133 (wanted_yesB rfl rfl rfl h135) rfl (y_loadSl (max b 0).toNat rfl Try.underlying3 rfl rfl hSb (by omega) (by omega) (by intro k hk; first | (simp [keys] at hk; done) | (simp [keys] at hk; omega))) ?_
              refine E0 (wanted_yesB rfl rfl rfl h135) rfl (y_lt rfl rfl rfl) ?_
              refine E0 (wanted_yesB rfl rfl rfl h134) rfl (y_pickF rfl rfl h135 rfl) ?_
              refine E0 (wanted_yesB rfl rfl rfl h134) rfl (y_move (v := Value.bool _) rfl rfl) ?_
              refine Ekn (t := 117) (b0 := false) rfl (by exact decide_eq_false (by obtain ⟨q1, q2, q3, q4, q5⟩ := best_full hB i (by omega) (by omega) (by omega); omega)) (fun h136 => ?_)
              refine E0 (wanted_yesB rfl rfl rfl h136) rfl (y_move (v := vb) rfl rfl) ?_
              refine E0 (wanted_yesB rfl rfl rfl h136) rfl (y_move (v := Value.int _ _) rfl rfl) ?_
              refine E0 (wanted_yesB rfl rfl rfl h136) rfl (y_move (v := vb) rfl rfl) ?_
              refine E0 (wanted_yesB rfl rfl rfl h136) rfl (y_move (v := Value.int _ _) rfl rfl) ?_
              refine E0 (wanted_yesB rfl rfl rfl h136) rfl (y_indexSlAt rfl Try.underlying34 sz3 rfl rfl hSb (by omega) (by omega)) ?_
              refine E0 (wanted_yesB rfl rfl rfl h136) rfl (y_indexSlAt rfl Try.underlying34 sz3 rfl rfl hSb (by omega) (by omega)) ?_
              refine E1 hs133 (wanted_yesB rfl rfl rfl h136) rfl (y_loadSl i rfl Try.underlying3 rfl rfl hSb (by omega) (by omega) (by intro k hk; first | (simp [keys] at hk; done) | (simp [keys] at hk; omega))) ?_
              refine E1 hs133 (wanted_yesB rfl rfl rfl h136) rfl (y_loadSl (max b 0).toNat rfl Try.underlying3 rfl rfl hSb (by omega) (by omega) (by intro k hk; first | (simp [keys] at hk; done) | (simp [keys] at hk; omega))) ?_
              refine E0 (wanted_yesB rfl rfl rfl h136) rfl (y_eq rfl rfl rfl) ?_
              refine E0 (wanted_yesB rfl rfl rfl h136) rfl (y_move (v := Value.bool _) rfl rfl) ?_
              refine Esp (t := 127) rfl (fun h137 => ?_) (fun h137 => ?_)
              · have h137' := h137
                first | replace h137' := of_decide_eq_true h137' | replace h137' := bnT' h137' | skip
                refine E0 (wanted_yesB rfl rfl rfl h137) rfl (y_move (v := Value.int _ _) rfl rfl) ?_
                refine E0 (wanted_yesB rfl rfl rfl h137) rfl (y_move (v := Value.int _ _) rfl rfl) ?_
                refine E0 (wanted_yesB rfl rfl rfl h137) rfl (y_lt rfl rfl rfl) ?_
                refine E0 (wanted_yesB rfl rfl rfl h136) rfl (y_pickT rfl rfl h137 rfl) ?_
                refine E0 (wanted_yesB rfl rfl rfl h134) rfl (y_pickF rfl rfl h136 rfl) ?_
                refine E0 (wanted_none rfl) rfl (y_pickT rfl rfl h134 rfl) ?_
                refine Enil ?_
                refine Wkn (t := 133) (b0 := false) rfl (by exact decide_eq_false (by obtain ⟨q1, q2, q3, q4, q5⟩ := best_full hB i (by omega) (by omega) (by omega); omega)) (fun h138 => ?_)
                refine W_condF rfl h138 ?_
                refine W_skip ?_
                refine W_region ?_
                refine L0 (wanted_none rfl) rfl (y_move (v := Value.int _ _) rfl rfl) ?_
                refine L0 (wanted_none rfl) rfl (y_add64 rfl rfl rfl (by omega)) ?_
                refine L0 (wanted_none rfl) rfl (y_assign (v := Value.int _ _) rfl rfl) ?_
                refine Lnil ?_
                exact ⟨i + 1, by first | omega | (dsimp only; done) | (dsimp only; omega), _, A_c (iv_eq (by first | omega | (dsimp only; done) | (dsimp only; omega))) (A_c rfl (A_c rfl (A_c rfl (A_c rfl (A_c rfl (rfl)))))), by omega, hs133⟩
              · have h137' := h137
                first | replace h137' := of_decide_eq_false h137' | replace h137' := bnF' h137' | skip
                refine Eno (wanted_noB rfl rfl rfl h137 (by decide)) rfl ?_
                refine Eno (wanted_noB rfl rfl rfl h137 (by decide)) rfl ?_
                refine Eno (wanted_noB rfl rfl rfl h137 (by decide)) rfl ?_
                refine E0 (wanted_yesB rfl rfl rfl h136) rfl (y_pickF rfl rfl h137 rfl) ?_
                refine E0 (wanted_yesB rfl rfl rfl h134) rfl (y_pickF rfl rfl h136 rfl) ?_
                refine E0 (wanted_none rfl) rfl (y_pickT rfl rfl h134 rfl) ?_
                refine Enil ?_
                refine W_condF rfl rfl ?_
                refine W_skip ?_
                refine W_region ?_
                refine L0 (wanted_none rfl) rfl (y_move (v := Value.int _ _) rfl rfl) ?_
                refine L0 (wanted_none rfl) rfl (y_add64 rfl rfl rfl (by omega)) ?_
                refine L0 (wanted_none rfl) rfl (y_assign (v := Value.int _ _) rfl rfl) ?_
                refine Lnil ?_
                exact ⟨i + 1, by first | omega | (dsimp only; done) | (dsimp only; omega), _, A_c (iv_eq (by first | omega | (dsimp only; done) | (dsimp only; omega))) (A_c rfl (A_c rfl (A_c rfl (A_c rfl (A_c rfl (rfl)))))), by omega, hs133⟩
            · have h134' := h134
              first | replace h134' := of_decide_eq_false h134' | replace h134' := bnF' h134' | skip
              refine Eno (wanted_noB rfl rfl rfl h134 (by decide)) rfl ?_
              refine Eno (wanted_noB rfl rfl rfl h134 (by decide)) rfl ?_
              refine Eno (wanted_noB rfl rfl rfl h134 (by decide)) rfl ?_
              refine Eno (wanted_noU rfl rfl rfl) rfl ?_
              refine Eno (wanted_noU rfl rfl rfl) rfl ?_
              refine Eno (wanted_noU rfl rfl rfl) rfl ?_
              refine Eno (wanted_noU rfl rfl rfl) rfl ?_
              refine Eno (wanted_noU rfl rfl rfl) rfl ?_
              refine Eno (wanted_noU rfl rfl rfl) rfl ?_
              refine E1no hs133 (wanted_noU rfl rfl rfl) rfl ?_
              refine E1no hs133 (wanted_noU rfl rfl rfl) rfl ?_
              refine Eno (wanted_noU rfl rfl rfl) rfl ?_
              refine Eno (wanted_noB rfl rfl rfl h134 (by decide)) rfl ?_
              refine Eno (wanted_noB rfl rfl rfl h134 (by decide)) rfl ?_
              refine Eno (wanted_noU rfl rfl rfl) rfl ?_
              refine Eno (wanted_noU rfl rfl rfl) rfl ?_
              refine Eno (wanted_noU rfl rfl rfl) rfl ?_
              refine Eno (wanted_noU rfl rfl rfl) rfl ?_
              refine Eno (wanted_noU rfl rfl rfl) rfl ?_
              refine Eno (wanted_noU rfl rfl rfl) rfl ?_
              refine E1no hs133 (wanted_noU rfl rfl rfl) rfl ?_
              refine E1no hs133 (wanted_noU rfl rfl rfl) rfl ?_
              refine Eno (wanted_noU rfl rfl rfl) rfl ?_
              refine Eno (wanted_noU rfl rfl rfl) rfl ?_
              refine Eno (wanted_noU rfl rfl rfl) rfl ?_
              refine Eno (wanted_noU rfl rfl rfl) rfl ?_
              refine Eno (wanted_noU rfl rfl rfl) rfl ?_
              refine Eno (wanted_noU rfl rfl rfl) rfl ?_
              refine Eno (wanted_noB rfl rfl rfl h134 (by decide)) rfl ?_
              refine E0 (wanted_none rfl) rfl (y_pickF rfl rfl h134 rfl) ?_
              refine Enil ?_
              refine W_condF rfl rfl ?_
              refine W_skip ?_
              refine W_region ?_
              refine L0 (wanted_none rfl) rfl (y_move (v := Value.int _ _) rfl rfl) ?_
              refine L0 (wanted_none rfl) rfl (y_add64 rfl rfl rfl (by omega)) ?_
              refine L0 (wanted_none rfl) rfl (y_assign (v := Value.int _ _) rfl rfl) ?_
              refine Lnil ?_
              exact ⟨i + 1, by first | omega | (dsimp only; done) | (dsimp only; omega), _, A_c (iv_eq (by first | omega | (dsimp only; done) | (dsimp only; omega))) (A_c rfl (A_c rfl (A_c rfl (A_c rfl (A_c rfl (rfl)))))), by omega, hs133⟩
          · have h131' := h131
            first | replace h131' := of_decide_eq_false h131' | replace h131' := bnF' h131' | skip
            refine W_condF rfl h131 ?_
            refine W_exit ?_
            refine W_seq ?_
            refine W_seq ?_
            refine W_region ?_
            refine L0 (wanted_none rfl) rfl (y_move (v := Value.bool _) rfl rfl) ?_
            refine L0 (wanted_none rfl) rfl (y_move (v := Value.bool _) rfl rfl) ?_
            refine Lsp (t := 135) rfl (fun h139 => ?_) (fun h139 => ?_)
            · have h139' := h139
              first | replace h139' := of_decide_eq_true h139' | replace h139' := bnT' h139' | skip
              refine L0 (wanted_yesB rfl rfl rfl h139) rfl (y_move (v := Value.int _ _) rfl rfl) ?_
              refine L0 (wanted_yesB rfl rfl rfl h139) rfl (y_move (v := va) rfl rfl) ?_
              refine L0 (wanted_yesB rfl rfl rfl h139) rfl (y_slenSl rfl Try.underlying34 rfl hSa) ?_
              refine L0 (wanted_yesB rfl rfl rfl h139) rfl (y_ge rfl rfl rfl) ?_
              refine L0 (wanted_yesB rfl rfl rfl h139) rfl (y_move (v := Value.bool _) rfl rfl) ?_
              refine Lkn (t := 140) (b0 := false) rfl (by exact decide_eq_false (by obtain ⟨q1, q2⟩ := best_found hB (by omega); omega)) (fun h140 => ?_)
              refine L0 (wanted_yesB rfl rfl rfl h140) rfl (y_move (v := va) rfl rfl) ?_
              refine L0 (wanted_yesB rfl rfl rfl h140) rfl (y_move (v := Value.int _ _) rfl rfl) ?_
              obtain ⟨q1, q2⟩ := best_found hB (by omega)
              refine L0 (wanted_yesB rfl rfl rfl h140) rfl (y_indexSlAt rfl Try.underlying34 sz3 rfl rfl hSa (by omega) (by omega)) ?_
              refine L1 (wanted_yesB rfl rfl rfl h140) rfl hs129 (y_loadSl (max b 0).toNat rfl Try.underlying3 rfl rfl hSa (by omega) (by omega) (by intro k hk; first | (simp [keys] at hk; done) | (simp [keys] at hk; omega))) ?_
              refine L0 (wanted_yesB rfl rfl rfl h140) rfl (y_lt rfl rfl rfl) ?_
              refine L0 (wanted_yesB rfl rfl rfl h139) rfl (y_pickF rfl rfl h140 rfl) ?_
              refine L0 (wanted_none rfl) rfl (y_pickT rfl rfl h139 rfl) ?_
              refine Lnil ?_
              refine Wkn (t := 147) (b0 := false) rfl (by exact decide_eq_false (by obtain ⟨q1, q2⟩ := best_found hB (by omega); omega)) (fun h141 => ?_)
              refine W_condF rfl h141 ?_
              refine W_skip ?_
              refine W_seq ?_
              refine W_region ?_
              refine L1 (wanted_none rfl) rfl hs129 ((y_loadT 0 rfl rfl rfl)) ?_
              refine Lc (wanted_none rfl) (c_call rfl rfl rfl Try.func34 (by kernel_rfl) rfl (live_any T w128) rfl ?_)
              rintro vA w142 ⟨eA, hrA, hc143⟩
              obtain ⟨g, capA, cur, fz, rfl, rfl, hg, hgl, hfz, hsz, hget⟩ := row_block hrA (by decide) 0
              have hg2 : w.heap.size ≤ g := Nat.le_trans hs129.size hg
              have hs144 := (hs129.call_new hc143 (row_keys hrA)).perm (List.perm_append_comm (l₁ := [_]))
              refine L0 (wanted_none rfl) rfl (y_assign (v := Value.slice _ _ _) rfl rfl) ?_
              refine Lnil ?_
              refine W_seq ?_
              refine W_seq ?_
              refine W_region ?_
              refine L0 (wanted_none rfl) rfl (y_assign (v := Value.int _ _) rfl rfl) ?_
              refine Lnil ?_
              refine W_block ?_
              refine W_loop (G := Nat) (fun i aL wl => ∃ e, aL = A 175 ((16, iv i) :: (7, pv b2 0) :: (15, .slice (some ⟨g, 0, none⟩) 8 capA) :: e) ∧ i ≤ 8 ∧ St w [(b2, .cells ⟨tbl T⟩ 59 (0, 0)), (g, .cells cur 3 fz)] wl) (fun i => 8 - i) (0) ?_ ?_
              · exact ⟨_, A_pins _ _ [16, 7, 15], Nat.zero_le _, hs144⟩
              rintro i _ w145 ⟨ehs146, rfl, hi, hs146⟩
              refine W_seq ?_
              refine W_seq ?_
              refine W_region ?_
              refine L0 (wanted_none rfl) rfl (y_move (v := Value.int _ _) rfl rfl) ?_
              refine L0 (wanted_none rfl) rfl (y_lt rfl rfl rfl) ?_
              refine Lnil ?_
              refine Wsp (t := 151) rfl (fun h147 => ?_) (fun h147 => ?_)
              · have h147' := h147
                first | replace h147' := of_decide_eq_true h147' | replace h147' := bnT' h147' | skip
                refine W_condT rfl h147 ?_
                refine W_skip ?_
                refine W_seq ?_
                refine W_block ?_
                refine W_seq ?_
                refine W_drawSt [(0, 0), (0, 1), (0, 2), (0, 3), (1, 4), (0, 5), (0, 8), (0, 9), (0, 10), (1, 11), (3, 6), (0, 7), (0, 12), (0, 13), (0, 14), (1, 15), (0, 16), (3, 17), (3, 18), (0, 19), (0, 20)] hs146 mixed (by kernel_rfl) (fun w148 hs149 => ?_)
                refine E0 (wanted_none rfl) rfl (y_move (v := Value.slice _ _ _) rfl rfl) ?_
                refine E0 (wanted_none rfl) rfl (y_slen rfl Try.underlying34 rfl) ?_
                refine E0 (wanted_none rfl) rfl (y_ne rfl rfl rfl) ?_
                refine E0 (wanted_none rfl) rfl (y_move (v := Value.bool _) rfl rfl) ?_
                refine Ekn (t := 157) (b0 := false) rfl (by exact bnF rfl) (fun h150 => ?_)
                refine E1 hs149 (wanted_yesB rfl rfl rfl h150) rfl ((y_loadT 0 rfl rfl rfl)) ?_
                refine E0 (wanted_yesB rfl rfl rfl h150) rfl (y_move (v := Value.int _ _) rfl rfl) ?_
                refine E0 (wanted_yesB rfl rfl rfl h150) rfl (y_move (v := Value.slice _ _ _) rfl rfl) ?_
                refine E0 (wanted_yesB rfl rfl rfl h150) rfl (y_move (v := Value.int _ _) rfl rfl) ?_
                refine E0 (wanted_yesB rfl rfl rfl h150) rfl (y_indexSl rfl Try.underlying34 sz3 rfl rfl (by omega) (by omega)) ?_
                refine E1 hs149 (wanted_yesB rfl rfl rfl h150) rfl (y_load 1 rfl Try.underlying3 rfl rfl rfl (by rw [ix1]; exact hget i (by omega))) ?_
                refine E3 (wanted_yesB rfl rfl rfl h150) (c_call rfl rfl rfl Try.func36 (by kernel_rfl) rfl (in_any T i w148) rfl ?_)
                rintro vC w151 ⟨eC, hrC, hc152⟩
                have hC : Sl w151 vC (inT T i 24).length (nums (inT T i 24)) := hrC.sl hc152 (fun x hx => hx) 0
                have hs153 := (hs149.call_new hc152 (row_keys hrC)).dropL (M := eC) (fun x hx => Nat.le_trans hs149.size (hrC.new x hx))
                refine ⟨fun _ => hs153, ?_⟩
                refine E0 (wanted_yesB rfl rfl rfl h150) rfl (y_slenSl rfl Try.underlying34 rfl hC) ?_
                refine E0 (wanted_yesB rfl rfl rfl h150) rfl (y_ne rfl rfl rfl) ?_
                refine E0 (wanted_none rfl) rfl (y_pickF rfl rfl h150 rfl) ?_
                refine E0 (wanted_none rfl) rfl (y_move (v := Value.bool _) rfl rfl) ?_
                refine Ekn (t := 168) (b0 := false) rfl (by exact bnF (lvI_get T (by omega)).symm) (fun h154 => ?_)
                refine E1 hs153 (wanted_yesB rfl rfl rfl h154) rfl ((y_loadT 0 rfl rfl rfl)) ?_
                refine E0 (wanted_yesB rfl rfl rfl h154) rfl (y_move (v := Value.int _ _) rfl rfl) ?_
                refine E3 (wanted_yesB rfl rfl rfl h154) (c_call rfl rfl rfl Try.func36 (by kernel_rfl) rfl (in_any T i w151) rfl ?_)
                rintro vE w155 ⟨eE, hrE, hc156⟩
                have hEE : Sl w155 vE (inT T i 24).length (nums (inT T i 24)) := hrE.sl hc156 (fun x hx => hx) 0
                have hs157 := (hs153.call_new hc156 (row_keys hrE)).dropL (M := eE) (fun x hx => Nat.le_trans hs153.size (hrE.new x hx))
                refine ⟨fun _ => hs157, ?_⟩
                refine E3 (wanted_yesB rfl rfl rfl h154) (c_call rfl rfl rfl Try.func39 (by kernel_rfl) rfl (isSorted_any (inT T i 24) vE (by have := inT_len T i 24; omega) (fun j k a b => inT_sortedN T i 24 j k a b) w155 hEE) rfl ?_)
                rintro _ w158 ⟨rfl, hc159⟩
                have hs160 := hs157.call0 hc159
                refine ⟨fun _ => hs160, ?_⟩
                refine E0 (wanted_yesB rfl rfl rfl h154) rfl (y_not rfl rfl) ?_
                refine E0 (wanted_none rfl) rfl (y_pickF rfl rfl h154 rfl) ?_
                refine Enil ?_
                refine Wkn (t := 174) (b0 := false) rfl (by rfl) (fun h161 => ?_)
                refine W_condF rfl h161 ?_
                refine W_skip ?_
                refine W_region ?_
                refine L0 (wanted_none rfl) rfl (y_move (v := Value.int _ _) rfl rfl) ?_
                refine L0 (wanted_none rfl) rfl (y_add64 rfl rfl rfl (by omega)) ?_
                refine L0 (wanted_none rfl) rfl (y_assign (v := Value.int _ _) rfl rfl) ?_
                refine Lnil ?_
                exact ⟨i + 1, by first | omega | (dsimp only; done) | (dsimp only; omega), _, A_c (iv_eq (by first | omega | (dsimp only; done) | (dsimp only; omega))) (A_c rfl (A_c rfl (rfl))), by omega, hs160⟩
              · have h147' := h147
                first | replace h147' := of_decide_eq_false h147' | replace h147' := bnF' h147' | skip
                refine W_condF rfl h147 ?_
                refine W_exit ?_
                refine W_seq ?_
                refine W_region ?_
                refine L0 (wanted_none rfl) rfl (y_assign (v := Value.bool _) rfl rfl) ?_
                refine Lnil ?_
                refine W_ret ?_
                refine fin1 (fn := Try.f7) rfl rfl ?_
                exact ⟨rfl, forget hs146 (by intro x hx; simp only [List.mem_cons, List.not_mem_nil, or_false] at hx; rcases hx with rfl | rfl <;> assumption)⟩
            · have h139' := h139
              first | replace h139' := of_decide_eq_false h139' | replace h139' := bnF' h139' | skip
              refine Lno (wanted_noB rfl rfl rfl h139 (by decide)) rfl ?_
              refine Lno (wanted_noB rfl rfl rfl h139 (by decide)) rfl ?_
              refine Lno (wanted_noB rfl rfl rfl h139 (by decide)) rfl ?_
              refine Lno (wanted_noB rfl rfl rfl h139 (by decide)) rfl ?_
              refine Lno (wanted_noB rfl rfl rfl h139 (by decide)) rfl ?_
              refine Lno (wanted_noU rfl rfl rfl) rfl ?_
              refine Lno (wanted_noU rfl rfl rfl) rfl ?_
              refine Lno (wanted_noU rfl rfl rfl) rfl ?_
              refine Lno (wanted_noU rfl rfl rfl) rfl ?_
              refine Lno (wanted_noU rfl rfl rfl) rfl ?_
              refine Lno (wanted_noB rfl rfl rfl h139 (by decide)) rfl ?_
              refine L0 (wanted_none rfl) rfl (y_pickF rfl rfl h139 rfl) ?_
              refine Lnil ?_
              refine W_condF rfl rfl ?_
              refine W_skip ?_
              refine W_seq ?_
              refine W_region ?_
              refine L1 (wanted_none rfl) rfl hs129 ((y_loadT 0 rfl rfl rfl)) ?_
              refine Lc (wanted_none rfl) (c_call rfl rfl rfl Try.func34 (by kernel_rfl) rfl (live_any T w128) rfl ?_)
              rintro vA w162 ⟨eA, hrA, hc163⟩
              obtain ⟨g, capA, cur, fz, rfl, rfl, hg, hgl, hfz, hsz, hget⟩ := row_block hrA (by decide) 0
              have hg2 : w.heap.size ≤ g := Nat.le_trans hs129.size hg
              have hs164 := (hs129.call_new hc163 (row_keys hrA)).perm (List.perm_append_comm (l₁ := [_]))
              refine L0 (wanted_none rfl) rfl (y_assign (v := Value.slice _ _ _) rfl rfl) ?_
              refine Lnil ?_
              refine W_seq ?_
              refine W_seq ?_
              refine W_region ?_
              refine L0 (wanted_none rfl) rfl (y_assign (v := Value.int _ _) rfl rfl) ?_
              refine Lnil ?_
              refine W_block ?_
              refine W_loop (G := Nat) (fun i aL wl => ∃ e, aL = A 175 ((16, iv i) :: (7, pv b2 0) :: (15, .slice (some ⟨g, 0, none⟩) 8 capA) :: e) ∧ i ≤ 8 ∧ St w [(b2, .cells ⟨tbl T⟩ 59 (0, 0)), (g, .cells cur 3 fz)] wl) (fun i => 8 - i) (0) ?_ ?_
              · exact ⟨_, A_pins _ _ [16, 7, 15], Nat.zero_le _, hs164⟩
              rintro i _ w165 ⟨ehs166, rfl, hi, hs166⟩
              refine W_seq ?_
              refine W_seq ?_
              refine W_region ?_
              refine L0 (wanted_none rfl) rfl (y_move (v := Value.int _ _) rfl rfl) ?_
              refine L0 (wanted_none rfl) rfl (y_lt rfl rfl rfl) ?_
              refine Lnil ?_
              refine Wsp (t := 151) rfl (fun h167 => ?_) (fun h167 => ?_)
              · have h167' := h167
                first | replace h167' := of_decide_eq_true h167' | replace h167' := bnT' h167' | skip
                refine W_condT rfl h167 ?_
                refine W_skip ?_
                refine W_seq ?_
                refine W_block ?_
                refine W_seq ?_
                refine W_drawSt [(0, 0), (0, 1), (0, 2), (0, 3), (1, 4), (0, 5), (0, 8), (0, 9), (0, 10), (1, 11), (3, 6), (0, 7), (0, 12), (0, 13), (0, 14), (1, 15), (0, 16), (3, 17), (3, 18), (0, 19), (0, 20)] hs166 mixed (by kernel_rfl) (fun w168 hs169 => ?_)
                refine E0 (wanted_none rfl) rfl (y_move (v := Value.slice _ _ _) rfl rfl) ?_
                refine E0 (wanted_none rfl) rfl (y_slen rfl Try.underlying34 rfl) ?_
                refine E0 (wanted_none rfl) rfl (y_ne rfl rfl rfl) ?_
                refine E0 (wanted_none rfl) rfl (y_move (v := Value.bool _) rfl rfl) ?_
                refine Ekn (t := 157) (b0 := false) rfl (by exact bnF rfl) (fun h170 => ?_)
                refine E1 hs169 (wanted_yesB rfl rfl rfl h170) rfl ((y_loadT 0 rfl rfl rfl)) ?_
                refine E0 (wanted_yesB rfl rfl rfl h170) rfl (y_move (v := Value.int _ _) rfl rfl) ?_
                refine E0 (wanted_yesB rfl rfl rfl h170) rfl (y_move (v := Value.slice _ _ _) rfl rfl) ?_
                refine E0 (wanted_yesB rfl rfl rfl h170) rfl (y_move (v := Value.int _ _) rfl rfl) ?_
                refine E0 (wanted_yesB rfl rfl rfl h170) rfl (y_indexSl rfl Try.underlying34 sz3 rfl rfl (by omega) (by omega)) ?_
                refine E1 hs169 (wanted_yesB rfl rfl rfl h170) rfl (y_load 1 rfl Try.underlying3 rfl rfl rfl (by rw [ix1]; exact hget i (by omega))) ?_
                refine E3 (wanted_yesB rfl rfl rfl h170) (c_call rfl rfl rfl Try.func36 (by kernel_rfl) rfl (in_any T i w168) rfl ?_)
                rintro vC w171 ⟨eC, hrC, hc172⟩
                have hC : Sl w171 vC (inT T i 24).length (nums (inT T i 24)) := hrC.sl hc172 (fun x hx => hx) 0
                have hs173 := (hs169.call_new hc172 (row_keys hrC)).dropL (M := eC) (fun x hx => Nat.le_trans hs169.size (hrC.new x hx))
                refine ⟨fun _ => hs173, ?_⟩
                refine E0 (wanted_yesB rfl rfl rfl h170) rfl (y_slenSl rfl Try.underlying34 rfl hC) ?_
                refine E0 (wanted_yesB rfl rfl rfl h170) rfl (y_ne rfl rfl rfl) ?_
                refine E0 (wanted_none rfl) rfl (y_pickF rfl rfl h170 rfl) ?_
                refine E0 (wanted_none rfl) rfl (y_move (v := Value.bool _) rfl rfl) ?_
                refine Ekn (t := 168) (b0 := false) rfl (by exact bnF (lvI_get T (by omega)).symm) (fun h174 => ?_)
                refine E1 hs173 (wanted_yesB rfl rfl rfl h174) rfl ((y_loadT 0 rfl rfl rfl)) ?_
                refine E0 (wanted_yesB rfl rfl rfl h174) rfl (y_move (v := Value.int _ _) rfl rfl) ?_
                refine E3 (wanted_yesB rfl rfl rfl h174) (c_call rfl rfl rfl Try.func36 (by kernel_rfl) rfl (in_any T i w171) rfl ?_)
                rintro vE w175 ⟨eE, hrE, hc176⟩
                have hEE : Sl w175 vE (inT T i 24).length (nums (inT T i 24)) := hrE.sl hc176 (fun x hx => hx) 0
                have hs177 := (hs173.call_new hc176 (row_keys hrE)).dropL (M := eE) (fun x hx => Nat.le_trans hs173.size (hrE.new x hx))
                refine ⟨fun _ => hs177, ?_⟩
                refine E3 (wanted_yesB rfl rfl rfl h174) (c_call rfl rfl rfl Try.func39 (by kernel_rfl) rfl (isSorted_any (inT T i 24) vE (by have := inT_len T i 24; omega) (fun j k a b => inT_sortedN T i 24 j k a b) w175 hEE) rfl ?_)
                rintro _ w178 ⟨rfl, hc179⟩
                have hs180 := hs177.call0 hc179
                refine ⟨fun _ => hs180, ?_⟩
                refine E0 (wanted_yesB rfl rfl rfl h174) rfl (y_not rfl rfl) ?_
                refine E0 (wanted_none rfl) rfl (y_pickF rfl rfl h174 rfl) ?_
                refine Enil ?_
                refine Wkn (t := 174) (b0 := false) rfl (by rfl) (fun h181 => ?_)
                refine W_condF rfl h181 ?_
                refine W_skip ?_
                refine W_region ?_
                refine L0 (wanted_none rfl) rfl (y_move (v := Value.int _ _) rfl rfl) ?_
                refine L0 (wanted_none rfl) rfl (y_add64 rfl rfl rfl (by omega)) ?_
                refine L0 (wanted_none rfl) rfl (y_assign (v := Value.int _ _) rfl rfl) ?_
                refine Lnil ?_
                exact ⟨i + 1, by first | omega | (dsimp only; done) | (dsimp only; omega), _, A_c (iv_eq (by first | omega | (dsimp only; done) | (dsimp only; omega))) (A_c rfl (A_c rfl (rfl))), by omega, hs180⟩
              · have h167' := h167
                first | replace h167' := of_decide_eq_false h167' | replace h167' := bnF' h167' | skip
                refine W_condF rfl h167 ?_
                refine W_exit ?_
                refine W_seq ?_
                refine W_region ?_
                refine L0 (wanted_none rfl) rfl (y_assign (v := Value.bool _) rfl rfl) ?_
                refine Lnil ?_
                refine W_ret ?_
                refine fin1 (fn := Try.f7) rfl rfl ?_
                exact ⟨rfl, forget hs166 (by intro x hx; simp only [List.mem_cons, List.not_mem_nil, or_false] at hx; rcases hx with rfl | rfl <;> assumption)⟩
        · have h130' := h130
          first | replace h130' := of_decide_eq_false h130' | replace h130' := bnF' h130' | skip
          refine Lno (wanted_noB rfl rfl rfl h130 (by decide)) rfl ?_
          refine Lno (wanted_noB rfl rfl rfl h130 (by decide)) rfl ?_
          refine Lno (wanted_noB rfl rfl rfl h130 (by decide)) rfl ?_
          refine Lno (wanted_noB rfl rfl rfl h130 (by decide)) rfl ?_
          refine L0 (wanted_none rfl) rfl (y_pickF rfl rfl h130 rfl) ?_
          refine Lnil ?_
          refine W_condF rfl rfl ?_
          refine W_exit ?_
          refine W_seq ?_
          refine W_seq ?_
          refine W_region ?_
          refine L0 (wanted_none rfl) rfl (y_move (v := Value.bool _) rfl rfl) ?_
          refine L0 (wanted_none rfl) rfl (y_move (v := Value.bool _) rfl rfl) ?_
          refine Lsp (t := 135) rfl (fun h182 => ?_) (fun h182 => ?_)
          · have h182' := h182
            first | replace h182' := of_decide_eq_true h182' | replace h182' := bnT' h182' | skip
            refine L0 (wanted_yesB rfl rfl rfl h182) rfl (y_move (v := Value.int _ _) rfl rfl) ?_
            refine L0 (wanted_yesB rfl rfl rfl h182) rfl (y_move (v := va) rfl rfl) ?_
            refine L0 (wanted_yesB rfl rfl rfl h182) rfl (y_slenSl rfl Try.underlying34 rfl hSa) ?_
            refine L0 (wanted_yesB rfl rfl rfl h182) rfl (y_ge rfl rfl rfl) ?_
            refine L0 (wanted_yesB rfl rfl rfl h182) rfl (y_move (v := Value.bool _) rfl rfl) ?_
            refine Lkn (t := 140) (b0 := false) rfl (by exact decide_eq_false (by obtain ⟨q1, q2⟩ := best_found hB (by omega); omega)) (fun h183 => ?_)
            refine L0 (wanted_yesB rfl rfl rfl h183) rfl (y_move (v := va) rfl rfl) ?_
            refine L0 (wanted_yesB rfl rfl rfl h183) rfl (y_move (v := Value.int _ _) rfl rfl) ?_
            obtain ⟨q1, q2⟩ := best_found hB (by omega)
            refine L0 (wanted_yesB rfl rfl rfl h183) rfl (y_indexSlAt rfl Try.underlying34 sz3 rfl rfl hSa (by omega) (by omega)) ?_
            refine L1 (wanted_yesB rfl rfl rfl h183) rfl hs129 (y_loadSl (max b 0).toNat rfl Try.underlying3 rfl rfl hSa (by omega) (by omega) (by intro k hk; first | (simp [keys] at hk; done) | (simp [keys] at hk; omega))) ?_
            refine L0 (wanted_yesB rfl rfl rfl h183) rfl (y_lt rfl rfl rfl) ?_
            refine L0 (wanted_yesB rfl rfl rfl h182) rfl (y_pickF rfl rfl h183 rfl) ?_
            refine L0 (wanted_none rfl) rfl (y_pickT rfl rfl h182 rfl) ?_
            refine Lnil ?_
            refine Wkn (t := 147) (b0 := false) rfl (by exact decide_eq_false (by obtain ⟨q1, q2⟩ := best_found hB (by omega); omega)) (fun h184 => ?_)
            refine W_condF rfl h184 ?_
            refine W_skip ?_
            refine W_seq ?_
            refine W_region ?_
            refine L1 (wanted_none rfl) rfl hs129 ((y_loadT 0 rfl rfl rfl)) ?_
            refine Lc (wanted_none rfl) (c_call rfl rfl rfl Try.func34 (by kernel_rfl) rfl (live_any T w128) rfl ?_)
            rintro vA w185 ⟨eA, hrA, hc186⟩
            obtain ⟨g, capA, cur, fz, rfl, rfl, hg, hgl, hfz, hsz, hget⟩ := row_block hrA (by decide) 0
            have hg2 : w.heap.size ≤ g := Nat.le_trans hs129.size hg
            have hs187 := (hs129.call_new hc186 (row_keys hrA)).perm (List.perm_append_comm (l₁ := [_]))
            refine L0 (wanted_none rfl) rfl (y_assign (v := Value.slice _ _ _) rfl rfl) ?_
            refine Lnil ?_
            refine W_seq ?_
            refine W_seq ?_
            refine W_region ?_
            refine L0 (wanted_none rfl) rfl (y_assign (v := Value.int _ _) rfl rfl) ?_
            refine Lnil ?_
            refine W_block ?_
            refine W_loop (G := Nat) (fun i aL wl => ∃ e, aL = A 175 ((16, iv i) :: (7, pv b2 0) :: (15, .slice (some ⟨g, 0, none⟩) 8 capA) :: e) ∧ i ≤ 8 ∧ St w [(b2, .cells ⟨tbl T⟩ 59 (0, 0)), (g, .cells cur 3 fz)] wl) (fun i => 8 - i) (0) ?_ ?_
            · exact ⟨_, A_pins _ _ [16, 7, 15], Nat.zero_le _, hs187⟩
            rintro i _ w188 ⟨ehs189, rfl, hi, hs189⟩
            refine W_seq ?_
            refine W_seq ?_
            refine W_region ?_
            refine L0 (wanted_none rfl) rfl (y_move (v := Value.int _ _) rfl rfl) ?_
            refine L0 (wanted_none rfl) rfl (y_lt rfl rfl rfl) ?_
            refine Lnil ?_
            refine Wsp (t := 151) rfl (fun h190 => ?_) (fun h190 => ?_)
            · have h190' := h190
              first | replace h190' := of_decide_eq_true h190' | replace h190' := bnT' h190' | skip
              refine W_condT rfl h190 ?_
              refine W_skip ?_
              refine W_seq ?_
              refine W_block ?_
              refine W_seq ?_
              refine W_drawSt [(0, 0), (0, 1), (0, 2), (0, 3), (1, 4), (0, 5), (0, 8), (0, 9), (0, 10), (1, 11), (3, 6), (0, 7), (0, 12), (0, 13), (0, 14), (1, 15), (0, 16), (3, 17), (3, 18), (0, 19), (0, 20)] hs189 mixed (by kernel_rfl) (fun w191 hs192 => ?_)
              refine E0 (wanted_none rfl) rfl (y_move (v := Value.slice _ _ _) rfl rfl) ?_
              refine E0 (wanted_none rfl) rfl (y_slen rfl Try.underlying34 rfl) ?_
              refine E0 (wanted_none rfl) rfl (y_ne rfl rfl rfl) ?_
              refine E0 (wanted_none rfl) rfl (y_move (v := Value.bool _) rfl rfl) ?_
              refine Ekn (t := 157) (b0 := false) rfl (by exact bnF rfl) (fun h193 => ?_)
              refine E1 hs192 (wanted_yesB rfl rfl rfl h193) rfl ((y_loadT 0 rfl rfl rfl)) ?_
              refine E0 (wanted_yesB rfl rfl rfl h193) rfl (y_move (v := Value.int _ _) rfl rfl) ?_
              refine E0 (wanted_yesB rfl rfl rfl h193) rfl (y_move (v := Value.slice _ _ _) rfl rfl) ?_
              refine E0 (wanted_yesB rfl rfl rfl h193) rfl (y_move (v := Value.int _ _) rfl rfl) ?_
              refine E0 (wanted_yesB rfl rfl rfl h193) rfl (y_indexSl rfl Try.underlying34 sz3 rfl rfl (by omega) (by omega)) ?_
              refine E1 hs192 (wanted_yesB rfl rfl rfl h193) rfl (y_load 1 rfl Try.underlying3 rfl rfl rfl (by rw [ix1]; exact hget i (by omega))) ?_
              refine E3 (wanted_yesB rfl rfl rfl h193) (c_call rfl rfl rfl Try.func36 (by kernel_rfl) rfl (in_any T i w191) rfl ?_)
              rintro vC w194 ⟨eC, hrC, hc195⟩
              have hC : Sl w194 vC (inT T i 24).length (nums (inT T i 24)) := hrC.sl hc195 (fun x hx => hx) 0
              have hs196 := (hs192.call_new hc195 (row_keys hrC)).dropL (M := eC) (fun x hx => Nat.le_trans hs192.size (hrC.new x hx))
              refine ⟨fun _ => hs196, ?_⟩
              refine E0 (wanted_yesB rfl rfl rfl h193) rfl (y_slenSl rfl Try.underlying34 rfl hC) ?_
              refine E0 (wanted_yesB rfl rfl rfl h193) rfl (y_ne rfl rfl rfl) ?_
              refine E0 (wanted_none rfl) rfl (y_pickF rfl rfl h193 rfl) ?_
              refine E0 (wanted_none rfl) rfl (y_move (v := Value.bool _) rfl rfl) ?_
              refine Ekn (t := 168) (b0 := false) rfl (by exact bnF (lvI_get T (by omega)).symm) (fun h197 => ?_)
              refine E1 hs196 (wanted_yesB rfl rfl rfl h197) rfl ((y_loadT 0 rfl rfl rfl)) ?_
              refine E0 (wanted_yesB rfl rfl rfl h197) rfl (y_move (v := Value.int _ _) rfl rfl) ?_
              refine E3 (wanted_yesB rfl rfl rfl h197) (c_call rfl rfl rfl Try.func36 (by kernel_rfl) rfl (in_any T i w194) rfl ?_)
              rintro vE w198 ⟨eE, hrE, hc199⟩
              have hEE : Sl w198 vE (inT T i 24).length (nums (inT T i 24)) := hrE.sl hc199 (fun x hx => hx) 0
              have hs200 := (hs196.call_new hc199 (row_keys hrE)).dropL (M := eE) (fun x hx => Nat.le_trans hs196.size (hrE.new x hx))
              refine ⟨fun _ => hs200, ?_⟩
              refine E3 (wanted_yesB rfl rfl rfl h197) (c_call rfl rfl rfl Try.func39 (by kernel_rfl) rfl (isSorted_any (inT T i 24) vE (by have := inT_len T i 24; omega) (fun j k a b => inT_sortedN T i 24 j k a b) w198 hEE) rfl ?_)
              rintro _ w201 ⟨rfl, hc202⟩
              have hs203 := hs200.call0 hc202
              refine ⟨fun _ => hs203, ?_⟩
              refine E0 (wanted_yesB rfl rfl rfl h197) rfl (y_not rfl rfl) ?_
              refine E0 (wanted_none rfl) rfl (y_pickF rfl rfl h197 rfl) ?_
              refine Enil ?_
              refine Wkn (t := 174) (b0 := false) rfl (by rfl) (fun h204 => ?_)
              refine W_condF rfl h204 ?_
              refine W_skip ?_
              refine W_region ?_
              refine L0 (wanted_none rfl) rfl (y_move (v := Value.int _ _) rfl rfl) ?_
              refine L0 (wanted_none rfl) rfl (y_add64 rfl rfl rfl (by omega)) ?_
              refine L0 (wanted_none rfl) rfl (y_assign (v := Value.int _ _) rfl rfl) ?_
              refine Lnil ?_
              exact ⟨i + 1, by first | omega | (dsimp only; done) | (dsimp only; omega), _, A_c (iv_eq (by first | omega | (dsimp only; done) | (dsimp only; omega))) (A_c rfl (A_c rfl (rfl))), by omega, hs203⟩
            · have h190' := h190
              first | replace h190' := of_decide_eq_false h190' | replace h190' := bnF' h190' | skip
              refine W_condF rfl h190 ?_
              refine W_exit ?_
              refine W_seq ?_
              refine W_region ?_
              refine L0 (wanted_none rfl) rfl (y_assign (v := Value.bool _) rfl rfl) ?_
              refine Lnil ?_
              refine W_ret ?_
              refine fin1 (fn := Try.f7) rfl rfl ?_
              exact ⟨rfl, forget hs189 (by intro x hx; simp only [List.mem_cons, List.not_mem_nil, or_false] at hx; rcases hx with rfl | rfl <;> assumption)⟩
          · have h182' := h182
            first | replace h182' := of_decide_eq_false h182' | replace h182' := bnF' h182' | skip
            refine Lno (wanted_noB rfl rfl rfl h182 (by decide)) rfl ?_
            refine Lno (wanted_noB rfl rfl rfl h182 (by decide)) rfl ?_
            refine Lno (wanted_noB rfl rfl rfl h182 (by decide)) rfl ?_
            refine Lno (wanted_noB rfl rfl rfl h182 (by decide)) rfl ?_
            refine Lno (wanted_noB rfl rfl rfl h182 (by decide)) rfl ?_
            refine Lno (wanted_noU rfl rfl rfl) rfl ?_
            refine Lno (wanted_noU rfl rfl rfl) rfl ?_
            refine Lno (wanted_noU rfl rfl rfl) rfl ?_
            refine Lno (wanted_noU rfl rfl rfl) rfl ?_
            refine Lno (wanted_noU rfl rfl rfl) rfl ?_
            refine Lno (wanted_noB rfl rfl rfl h182 (by decide)) rfl ?_
            refine L0 (wanted_none rfl) rfl (y_pickF rfl rfl h182 rfl) ?_
            refine Lnil ?_
            refine W_condF rfl rfl ?_
            refine W_skip ?_
            refine W_seq ?_
            refine W_region ?_
            refine L1 (wanted_none rfl) rfl hs129 ((y_loadT 0 rfl rfl rfl)) ?_
            refine Lc (wanted_none rfl) (c_call rfl rfl rfl Try.func34 (by kernel_rfl) rfl (live_any T w128) rfl ?_)
            rintro vA w205 ⟨eA, hrA, hc206⟩
            obtain ⟨g, capA, cur, fz, rfl, rfl, hg, hgl, hfz, hsz, hget⟩ := row_block hrA (by decide) 0
            have hg2 : w.heap.size ≤ g := Nat.le_trans hs129.size hg
            have hs207 := (hs129.call_new hc206 (row_keys hrA)).perm (List.perm_append_comm (l₁ := [_]))
            refine L0 (wanted_none rfl) rfl (y_assign (v := Value.slice _ _ _) rfl rfl) ?_
            refine Lnil ?_
            refine W_seq ?_
            refine W_seq ?_
            refine W_region ?_
            refine L0 (wanted_none rfl) rfl (y_assign (v := Value.int _ _) rfl rfl) ?_
            refine Lnil ?_
            refine W_block ?_
            refine W_loop (G := Nat) (fun i aL wl => ∃ e, aL = A 175 ((16, iv i) :: (7, pv b2 0) :: (15, .slice (some ⟨g, 0, none⟩) 8 capA) :: e) ∧ i ≤ 8 ∧ St w [(b2, .cells ⟨tbl T⟩ 59 (0, 0)), (g, .cells cur 3 fz)] wl) (fun i => 8 - i) (0) ?_ ?_
            · exact ⟨_, A_pins _ _ [16, 7, 15], Nat.zero_le _, hs207⟩
            rintro i _ w208 ⟨ehs209, rfl, hi, hs209⟩
            refine W_seq ?_
            refine W_seq ?_
            refine W_region ?_
            refine L0 (wanted_none rfl) rfl (y_move (v := Value.int _ _) rfl rfl) ?_
            refine L0 (wanted_none rfl) rfl (y_lt rfl rfl rfl) ?_
            refine Lnil ?_
            refine Wsp (t := 151) rfl (fun h210 => ?_) (fun h210 => ?_)
            · have h210' := h210
              first | replace h210' := of_decide_eq_true h210' | replace h210' := bnT' h210' | skip
              refine W_condT rfl h210 ?_
              refine W_skip ?_
              refine W_seq ?_
              refine W_block ?_
              refine W_seq ?_
              refine W_drawSt [(0, 0), (0, 1), (0, 2), (0, 3), (1, 4), (0, 5), (0, 8), (0, 9), (0, 10), (1, 11), (3, 6), (0, 7), (0, 12), (0, 13), (0, 14), (1, 15), (0, 16), (3, 17), (3, 18), (0, 19), (0, 20)] hs209 mixed (by kernel_rfl) (fun w211 hs212 => ?_)
              refine E0 (wanted_none rfl) rfl (y_move (v := Value.slice _ _ _) rfl rfl) ?_
              refine E0 (wanted_none rfl) rfl (y_slen rfl Try.underlying34 rfl) ?_
              refine E0 (wanted_none rfl) rfl (y_ne rfl rfl rfl) ?_
              refine E0 (wanted_none rfl) rfl (y_move (v := Value.bool _) rfl rfl) ?_
              refine Ekn (t := 157) (b0 := false) rfl (by exact bnF rfl) (fun h213 => ?_)
              refine E1 hs212 (wanted_yesB rfl rfl rfl h213) rfl ((y_loadT 0 rfl rfl rfl)) ?_
              refine E0 (wanted_yesB rfl rfl rfl h213) rfl (y_move (v := Value.int _ _) rfl rfl) ?_
              refine E0 (wanted_yesB rfl rfl rfl h213) rfl (y_move (v := Value.slice _ _ _) rfl rfl) ?_
              refine E0 (wanted_yesB rfl rfl rfl h213) rfl (y_move (v := Value.int _ _) rfl rfl) ?_
              refine E0 (wanted_yesB rfl rfl rfl h213) rfl (y_indexSl rfl Try.underlying34 sz3 rfl rfl (by omega) (by omega)) ?_
              refine E1 hs212 (wanted_yesB rfl rfl rfl h213) rfl (y_load 1 rfl Try.underlying3 rfl rfl rfl (by rw [ix1]; exact hget i (by omega))) ?_
              refine E3 (wanted_yesB rfl rfl rfl h213) (c_call rfl rfl rfl Try.func36 (by kernel_rfl) rfl (in_any T i w211) rfl ?_)
              rintro vC w214 ⟨eC, hrC, hc215⟩
              have hC : Sl w214 vC (inT T i 24).length (nums (inT T i 24)) := hrC.sl hc215 (fun x hx => hx) 0
              have hs216 := (hs212.call_new hc215 (row_keys hrC)).dropL (M := eC) (fun x hx => Nat.le_trans hs212.size (hrC.new x hx))
              refine ⟨fun _ => hs216, ?_⟩
              refine E0 (wanted_yesB rfl rfl rfl h213) rfl (y_slenSl rfl Try.underlying34 rfl hC) ?_
              refine E0 (wanted_yesB rfl rfl rfl h213) rfl (y_ne rfl rfl rfl) ?_
              refine E0 (wanted_none rfl) rfl (y_pickF rfl rfl h213 rfl) ?_
              refine E0 (wanted_none rfl) rfl (y_move (v := Value.bool _) rfl rfl) ?_
              refine Ekn (t := 168) (b0 := false) rfl (by exact bnF (lvI_get T (by omega)).symm) (fun h217 => ?_)
              refine E1 hs216 (wanted_yesB rfl rfl rfl h217) rfl ((y_loadT 0 rfl rfl rfl)) ?_
              refine E0 (wanted_yesB rfl rfl rfl h217) rfl (y_move (v := Value.int _ _) rfl rfl) ?_
              refine E3 (wanted_yesB rfl rfl rfl h217) (c_call rfl rfl rfl Try.func36 (by kernel_rfl) rfl (in_any T i w214) rfl ?_)
              rintro vE w218 ⟨eE, hrE, hc219⟩
              have hEE : Sl w218 vE (inT T i 24).length (nums (inT T i 24)) := hrE.sl hc219 (fun x hx => hx) 0
              have hs220 := (hs216.call_new hc219 (row_keys hrE)).dropL (M := eE) (fun x hx => Nat.le_trans hs216.size (hrE.new x hx))
              refine ⟨fun _ => hs220, ?_⟩
              refine E3 (wanted_yesB rfl rfl rfl h217) (c_call rfl rfl rfl Try.func39 (by kernel_rfl) rfl (isSorted_any (inT T i 24) vE (by have := inT_len T i 24; omega) (fun j k a b => inT_sortedN T i 24 j k a b) w218 hEE) rfl ?_)
              rintro _ w221 ⟨rfl, hc222⟩
              have hs223 := hs220.call0 hc222
              refine ⟨fun _ => hs223, ?_⟩
              refine E0 (wanted_yesB rfl rfl rfl h217) rfl (y_not rfl rfl) ?_
              refine E0 (wanted_none rfl) rfl (y_pickF rfl rfl h217 rfl) ?_
              refine Enil ?_
              refine Wkn (t := 174) (b0 := false) rfl (by rfl) (fun h224 => ?_)
              refine W_condF rfl h224 ?_
              refine W_skip ?_
              refine W_region ?_
              refine L0 (wanted_none rfl) rfl (y_move (v := Value.int _ _) rfl rfl) ?_
              refine L0 (wanted_none rfl) rfl (y_add64 rfl rfl rfl (by omega)) ?_
              refine L0 (wanted_none rfl) rfl (y_assign (v := Value.int _ _) rfl rfl) ?_
              refine Lnil ?_
              exact ⟨i + 1, by first | omega | (dsimp only; done) | (dsimp only; omega), _, A_c (iv_eq (by first | omega | (dsimp only; done) | (dsimp only; omega))) (A_c rfl (A_c rfl (rfl))), by omega, hs223⟩
            · have h210' := h210
              first | replace h210' := of_decide_eq_false h210' | replace h210' := bnF' h210' | skip
              refine W_condF rfl h210 ?_
              refine W_exit ?_
              refine W_seq ?_
              refine W_region ?_
              refine L0 (wanted_none rfl) rfl (y_assign (v := Value.bool _) rfl rfl) ?_
              refine Lnil ?_
              refine W_ret ?_
              refine fin1 (fn := Try.f7) rfl rfl ?_
              exact ⟨rfl, forget hs209 (by intro x hx; simp only [List.mem_cons, List.not_mem_nil, or_false] at hx; rcases hx with rfl | rfl <;> assumption)⟩
theorem fits_any (l v : List Int) (but : Int) (T : Tb) (va vb : Value) (hb1 : I64 l) (hcap : ∃ a cap, va = .slice a l.length cap ∧ l.length ≤ cap) (w : World) (hSa : Sl w va l.length (nums l)) (hSb : Sl w vb v.length (nums v)) :
    C Try.prog 7 ⟨[va, vb, iv but, .agg ⟨tbl T⟩]⟩ w fun r w' => r = .bool true ∧ St w [] w' := by
  by_cases h : but < 0
  · exact fits_low l v but h T va vb hb1 hcap w hSa hSb
  · by_cases h2 : but < l.length
    · exact fits_in l v but ⟨by omega, h2⟩ T va vb hb1 hcap w hSa hSb
    · exact fits_high l v but ⟨by omega, by omega⟩ T va vb hb1 hcap w hSa hSb
end Go.Proofs.Ytkolfgmpmnelmaa

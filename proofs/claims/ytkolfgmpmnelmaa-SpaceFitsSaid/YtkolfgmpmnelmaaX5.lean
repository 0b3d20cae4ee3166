/-
  Walk: law.SpaceFinds.
-/
import Derived.Test.YtkolfgmpmnelmaaX4
namespace Go.Proofs.Ytkolfgmpmnelmaa
open Go Vx Go.Proofs
set_option linter.unusedVariables false
set_option maxRecDepth 4000
set_option maxHeartbeats 400000

theorem forget {w0 w : World} {L : Blocks} (h : St w0 L w) (hL : ∀ x ∈ L, w0.heap.size ≤ x.1) : St w0 [] w := St.dropR (L := []) h hL
theorem finds_any (l v : List Int) (but z : Int) (T : Tb) (va vb : Value) (hb1 : I64 l) (w : World) (hSa : Sl w va l.length (nums l)) (hSb : Sl w vb v.length (nums v)) :
    C Try.prog 6 ⟨[va, vb, iv but, .agg ⟨tbl T⟩, iv z]⟩ w fun r w' => r = .bool true ∧ St w [] w' := by
  refine C_enter (n := 90) Try.func6 rfl rfl rfl (fun w1 hs1 => ?_)
  refine W_seq ?_
  refine W_region ?_
  refine Lc (wanted_none rfl) (c_box hs1 rfl rfl rfl (fun b2 w3 hbb2 hs4 => ?_))
  refine L0 (wanted_none rfl) rfl (y_assign (v := Value.bool _) rfl rfl) ?_
  refine Lnil ?_
  refine W_seq ?_
  refine W_seq ?_
  refine W_region ?_
  refine L0 (wanted_none rfl) rfl (y_move (v := va) rfl rfl) ?_
  refine L0 (wanted_none rfl) rfl (y_slenSl rfl Try.underlying34 rfl hSa) ?_
  refine L0 (wanted_none rfl) rfl (y_gt rfl rfl rfl) ?_
  refine L0 (wanted_none rfl) rfl (y_move (v := Value.bool _) rfl rfl) ?_
  refine Lsp (t := 18) rfl (fun h5 => ?_) (fun h5 => ?_)
  · have h5' := h5
    first | replace h5' := of_decide_eq_true h5' | replace h5' := bnT' h5' | skip
    refine Lno (wanted_noB rfl rfl rfl h5 (by decide)) rfl ?_
    refine Lno (wanted_noB rfl rfl rfl h5 (by decide)) rfl ?_
    refine Lno (wanted_noB rfl rfl rfl h5 (by decide)) rfl ?_
    refine L0 (wanted_none rfl) rfl (y_pickT rfl rfl h5 rfl) ?_
    refine L0 (wanted_none rfl) rfl (y_move (v := Value.bool _) rfl rfl) ?_
    refine Lno (wanted_noB rfl rfl rfl rfl (by decide)) rfl ?_
    refine Lno (wanted_noB rfl rfl rfl rfl (by decide)) rfl ?_
    refine L0 (wanted_none rfl) rfl (y_pickT rfl rfl (rfl : true = true) rfl) ?_
    refine Lnil ?_
    refine W_condT rfl rfl ?_
    refine W_seq ?_
    refine W_region ?_
    refine L0 (wanted_none rfl) rfl (y_assign (v := Value.bool _) rfl rfl) ?_
    refine Lnil ?_
    refine W_ret ?_
    refine fin1 (fn := Try.f6) rfl rfl ?_
    exact ⟨rfl, hs4.drop (.inl hbb2)⟩
  · have h5' := h5
    first | replace h5' := of_decide_eq_false h5' | replace h5' := bnF' h5' | skip
    refine L0 (wanted_yesB rfl rfl rfl h5) rfl (y_move (v := vb) rfl rfl) ?_
    refine L0 (wanted_yesB rfl rfl rfl h5) rfl (y_slenSl rfl Try.underlying34 rfl hSb) ?_
    refine L0 (wanted_yesB rfl rfl rfl h5) rfl (y_gt rfl rfl rfl) ?_
    refine L0 (wanted_none rfl) rfl (y_pickF rfl rfl h5 rfl) ?_
    refine L0 (wanted_none rfl) rfl (y_move (v := Value.bool _) rfl rfl) ?_
    refine Lsp (t := 23) rfl (fun h6 => ?_) (fun h6 => ?_)
    · have h6' := h6
      first | replace h6' := of_decide_eq_true h6' | replace h6' := bnT' h6' | skip
      refine Lno (wanted_noB rfl rfl rfl h6 (by decide)) rfl ?_
      refine Lno (wanted_noB rfl rfl rfl h6 (by decide)) rfl ?_
      refine L0 (wanted_none rfl) rfl (y_pickT rfl rfl h6 rfl) ?_
      refine Lnil ?_
      refine W_condT rfl rfl ?_
      refine W_seq ?_
      refine W_region ?_
      refine L0 (wanted_none rfl) rfl (y_assign (v := Value.bool _) rfl rfl) ?_
      refine Lnil ?_
      refine W_ret ?_
      refine fin1 (fn := Try.f6) rfl rfl ?_
      exact ⟨rfl, hs4.drop (.inl hbb2)⟩
    · have h6' := h6
      first | replace h6' := of_decide_eq_false h6' | replace h6' := bnF' h6' | skip
      refine L1 (wanted_yesB rfl rfl rfl h6) rfl hs4 ((y_loadT 0 rfl rfl rfl)) ?_
      refine Lc (wanted_yesB rfl rfl rfl h6) (c_call rfl rfl rfl Try.func26 (by kernel_rfl) rfl (longTable_any T w3) rfl ?_)
      rintro vt w7 ⟨⟨bl, rfl⟩, hc8⟩
      have hs9 := hs4.call0 hc8
      refine L0 (wanted_none rfl) rfl (y_pickF rfl rfl h6 rfl) ?_
      refine Lnil ?_
      refine Wsp (t := 26) rfl (fun h10 => ?_) (fun h10 => ?_)
      · have h10' := h10
        first | replace h10' := of_decide_eq_true h10' | replace h10' := bnT' h10' | skip
        refine W_condT rfl h10 ?_
        refine W_seq ?_
        refine W_region ?_
        refine L0 (wanted_none rfl) rfl (y_assign (v := Value.bool _) rfl rfl) ?_
        refine Lnil ?_
        refine W_ret ?_
        refine fin1 (fn := Try.f6) rfl rfl ?_
        exact ⟨rfl, hs9.drop (.inl hbb2)⟩
      · have h10' := h10
        first | replace h10' := of_decide_eq_false h10' | replace h10' := bnF' h10' | skip
        refine W_condF rfl h10 ?_
        refine W_skip ?_
        refine W_seq ?_
        refine W_region ?_
        refine L0 (wanted_none rfl) rfl (y_move (v := va) rfl rfl) ?_
        refine L0 (wanted_none rfl) rfl (y_move (v := Value.int _ _) rfl rfl) ?_
        refine Lc (wanted_none rfl) (c_call rfl rfl rfl Try.func27 (by kernel_rfl) rfl (room_any l but va (by omega) w7 (hSa.keep hs9 (by intro k hk; simp [keys] at hk; omega))) rfl ?_)
        rintro _ w11 ⟨rfl, hc12⟩
        have hs13 := hs9.call0 hc12
        refine L0 (wanted_none rfl) rfl (y_move (v := Value.tuple ⟨_⟩) rfl rfl) ?_
        refine L0 (wanted_none rfl) rfl (y_extract rfl rfl rfl) ?_
        refine L0 (wanted_none rfl) rfl (y_extract rfl rfl rfl) ?_
        refine L0 (wanted_none rfl) rfl (y_assign (v := Value.int _ _) rfl rfl) ?_
        refine L0 (wanted_none rfl) rfl (y_assign (v := Value.bool _) rfl rfl) ?_
        refine Lnil ?_
        refine W_seq ?_
        refine W_region ?_
        refine L0 (wanted_none rfl) rfl (y_move (v := va) rfl rfl) ?_
        refine L0 (wanted_none rfl) rfl (y_move (v := Value.int _ _) rfl rfl) ?_
        refine Lc (wanted_none rfl) (c_call rfl rfl rfl Try.func28 (by kernel_rfl) rfl (open_space l but va (by omega) w11 (hSa.keep hs13 (by intro k hk; simp [keys] at hk; omega))) rfl ?_)
        rintro _ w14 ⟨rfl, hc15⟩
        have hs16 := hs13.call0 hc15
        refine L0 (wanted_none rfl) rfl (y_move (v := Value.tuple ⟨_⟩) rfl rfl) ?_
        refine L0 (wanted_none rfl) rfl (y_extract rfl rfl rfl) ?_
        refine L0 (wanted_none rfl) rfl (y_extract rfl rfl rfl) ?_
        refine L0 (wanted_none rfl) rfl (y_assign (v := Value.int _ _) rfl rfl) ?_
        refine L0 (wanted_none rfl) rfl (y_assign (v := Value.bool _) rfl rfl) ?_
        refine Lnil ?_
        refine W_seq ?_
        refine W_seq ?_
        refine W_region ?_
        refine L0 (wanted_none rfl) rfl (y_move (v := Value.int _ _) rfl rfl) ?_
        refine L0 (wanted_none rfl) rfl (y_move (v := Value.int _ _) rfl rfl) ?_
        refine L0 (wanted_none rfl) rfl (y_ne rfl rfl rfl) ?_
        refine L0 (wanted_none rfl) rfl (y_move (v := Value.bool _) rfl rfl) ?_
        refine Lkn (t := 42) (b0 := false) rfl (by exact bnF rfl) (fun h17 => ?_)
        refine L0 (wanted_yesB rfl rfl rfl h17) rfl (y_move (v := Value.bool _) rfl rfl) ?_
        refine L0 (wanted_yesB rfl rfl rfl h17) rfl (y_move (v := Value.bool _) rfl rfl) ?_
        refine L0 (wanted_yesB rfl rfl rfl h17) rfl (y_bne rfl Try.underlying4 rfl rfl) ?_
        refine L0 (wanted_none rfl) rfl (y_pickF rfl rfl h17 rfl) ?_
        refine L0 (wanted_none rfl) rfl (y_move (v := Value.bool _) rfl rfl) ?_
        refine Lkn (t := 47) (b0 := false) rfl (by simp) (fun h18 => ?_)
        refine L0 (wanted_yesB rfl rfl rfl h18) rfl (y_move (v := va) rfl rfl) ?_
        refine Lc (wanted_yesB rfl rfl rfl h18) (c_call rfl rfl rfl Try.func29 (by kernel_rfl) rfl (free_any l va (by omega) hb1 w14 (hSa.keep hs16 (by intro k hk; simp [keys] at hk; omega))) rfl ?_)
        rintro _ w19 ⟨rfl, hc20⟩
        have hs21 := hs16.call0 hc20
        refine L0 (wanted_yesB rfl rfl rfl h18) rfl (y_move (v := va) rfl rfl) ?_
        refine Lc (wanted_yesB rfl rfl rfl h18) (c_call rfl rfl rfl Try.func30 (by kernel_rfl) rfl (rfree_any l va (by omega) hb1 w19 (hSa.keep hs21 (by intro k hk; simp [keys] at hk; omega))) rfl ?_)
        rintro _ w22 ⟨rfl, hc23⟩
        have hs24 := hs21.call0 hc23
        refine L0 (wanted_yesB rfl rfl rfl h18) rfl (y_ne rfl rfl rfl) ?_
        refine L0 (wanted_none rfl) rfl (y_pickF rfl rfl h18 rfl) ?_
        refine Lnil ?_
        refine Wkn (t := 53) (b0 := false) rfl (by exact bnF rfl) (fun h25 => ?_)
        refine W_condF rfl h25 ?_
        refine W_skip ?_
        refine W_seq ?_
        refine W_region ?_
        refine L0 (wanted_none rfl) rfl (y_move (v := va) rfl rfl) ?_
        refine L0 (wanted_none rfl) rfl (y_move (v := vb) rfl rfl) ?_
        refine Lc (wanted_none rfl) (c_call rfl rfl rfl Try.func31 (by kernel_rfl) rfl (rvictim_any l v va vb (by omega) (by omega) w22 (hSa.keep hs24 (by intro k hk; simp [keys] at hk; omega)) (hSb.keep hs24 (by intro k hk; simp [keys] at hk; omega))) rfl ?_)
        rintro vt w26 ⟨⟨bb, hB1, rfl⟩, hc27⟩
        have hs28 := hs24.call0 hc27
        refine L0 (wanted_none rfl) rfl (y_move (v := Value.tuple ⟨_⟩) rfl rfl) ?_
        refine L0 (wanted_none rfl) rfl (y_extract rfl rfl rfl) ?_
        refine L0 (wanted_none rfl) rfl (y_extract rfl rfl rfl) ?_
        refine L0 (wanted_none rfl) rfl (y_assign (v := Value.int _ _) rfl rfl) ?_
        refine L0 (wanted_none rfl) rfl (y_assign (v := Value.bool _) rfl rfl) ?_
        refine Lnil ?_
        refine W_seq ?_
        refine W_region ?_
        refine L0 (wanted_none rfl) rfl (y_move (v := va) rfl rfl) ?_
        refine L0 (wanted_none rfl) rfl (y_move (v := vb) rfl rfl) ?_
        refine Lc (wanted_none rfl) (c_call rfl rfl rfl Try.func32 (by kernel_rfl) rfl (victim_any l v va vb (by omega) (by omega) w26 (hSa.keep hs28 (by intro k hk; simp [keys] at hk; omega)) (hSb.keep hs28 (by intro k hk; simp [keys] at hk; omega))) rfl ?_)
        rintro vt w29 ⟨⟨b2, hB2, rfl⟩, hc30⟩
        have hs31 := hs28.call0 hc30
        obtain rfl := hB1.uniq hB2
        refine L0 (wanted_none rfl) rfl (y_move (v := Value.tuple ⟨_⟩) rfl rfl) ?_
        refine L0 (wanted_none rfl) rfl (y_extract rfl rfl rfl) ?_
        refine L0 (wanted_none rfl) rfl (y_extract rfl rfl rfl) ?_
        refine L0 (wanted_none rfl) rfl (y_assign (v := Value.int _ _) rfl rfl) ?_
        refine L0 (wanted_none rfl) rfl (y_assign (v := Value.bool _) rfl rfl) ?_
        refine Lnil ?_
        refine W_seq ?_
        refine W_drawSt [(0, 0), (0, 1), (0, 2), (0, 3), (0, 4), (0, 5), (0, 6), (0, 7), (0, 8), (1, 9), (1, 11), (3, 10), (3, 12), (3, 13), (0, 14), (0, 15), (1, 16), (0, 17), (1, 19), (0, 20), (3, 18), (3, 21), (3, 22), (0, 23), (0, 24)] hs31 mixed (by kernel_rfl) (fun w32 hs33 => ?_)
        refine E0 (wanted_none rfl) rfl (y_move (v := Value.int _ _) rfl rfl) ?_
        refine E0 (wanted_none rfl) rfl (y_move (v := Value.int _ _) rfl rfl) ?_
        refine E0 (wanted_none rfl) rfl (y_eq rfl rfl rfl) ?_
        refine E0 (wanted_none rfl) rfl (y_move (v := Value.bool _) rfl rfl) ?_
        refine Ekn (t := 69) (b0 := true) rfl (by exact decide_eq_true rfl) (fun h34 => ?_)
        refine E0 (wanted_yesB rfl rfl rfl h34) rfl (y_move (v := Value.bool _) rfl rfl) ?_
        refine E0 (wanted_yesB rfl rfl rfl h34) rfl (y_move (v := Value.bool _) rfl rfl) ?_
        refine E0 (wanted_yesB rfl rfl rfl h34) rfl (y_beq rfl Try.underlying4 rfl rfl) ?_
        refine E0 (wanted_none rfl) rfl (y_pickT rfl rfl h34 rfl) ?_
        refine E0 (wanted_none rfl) rfl (y_move (v := Value.bool _) rfl rfl) ?_
        refine Ekn (t := 74) (b0 := true) rfl (by simp) (fun h35 => ?_)
        refine E1 hs33 (wanted_yesB rfl rfl rfl h35) rfl ((y_loadT 0 rfl rfl rfl)) ?_
        refine E1 hs33 (wanted_yesB rfl rfl rfl h35) rfl ((y_loadT 0 rfl rfl rfl)) ?_
        refine E3 (wanted_yesB rfl rfl rfl h35) (c_call rfl rfl rfl Try.func34 (by kernel_rfl) rfl (live_any T w32) rfl ?_)
        rintro vA w36 ⟨eA, hrA, hc37⟩
        try have hB := hB.keep hc37 (row_keys hrA)
        have hA : Sl w36 vA (lvI T 24).length (nums ((lvI T 24))) := hrA.sl hc37 (fun x hx => hx) 0
        have hs38 := (hs33.call_new hc37 (row_keys hrA)).dropL (M := eA) (fun x hx => Nat.le_trans hs33.size (hrA.new x hx))
        refine ⟨fun _ => hs38, ?_⟩
        refine E3 (wanted_yesB rfl rfl rfl h35) (c_call rfl rfl rfl Try.func35 (by kernel_rfl) rfl (rlive_any T w36) rfl ?_)
        rintro vB w39 ⟨eB, hrB, hc40⟩
        try have hA := hA.keep hc40 (row_keys hrB)
        have hB : Sl w39 vB (lvI T 24).length (nums ((lvI T 24))) := hrB.sl hc40 (fun x hx => hx) 0
        have hs41 := (hs38.call_new hc40 (row_keys hrB)).dropL (M := eB) (fun x hx => Nat.le_trans hs38.size (hrB.new x hx))
        refine ⟨fun _ => hs41, ?_⟩
        refine E3 (wanted_yesB rfl rfl rfl h35) (c_call rfl rfl rfl Try.func33 (by kernel_rfl) rfl (sameInts_eq (lvI T 24) vA vB (by rw [lvI_len]; omega) w39 hA hB) rfl ?_)
        rintro _ w42 ⟨rfl, hc43⟩
        have hs44 := hs41.call0 hc43
        refine ⟨fun _ => hs44, ?_⟩
        refine E0 (wanted_none rfl) rfl (y_pickT rfl rfl h35 rfl) ?_
        refine E0 (wanted_none rfl) rfl (y_move (v := Value.bool _) rfl rfl) ?_
        refine Ekn (t := 81) (b0 := true) rfl (by rfl) (fun h45 => ?_)
        refine E1 hs44 (wanted_yesB rfl rfl rfl h45) rfl ((y_loadT 0 rfl rfl rfl)) ?_
        refine E0 (wanted_yesB rfl rfl rfl h45) rfl (y_move (v := Value.int _ _) rfl rfl) ?_
        refine E1 hs44 (wanted_yesB rfl rfl rfl h45) rfl ((y_loadT 0 rfl rfl rfl)) ?_
        refine E0 (wanted_yesB rfl rfl rfl h45) rfl (y_move (v := Value.int _ _) rfl rfl) ?_
        refine E3 (wanted_yesB rfl rfl rfl h45) (c_call rfl rfl rfl Try.func36 (by kernel_rfl) rfl (in_any T z w42) rfl ?_)
        rintro vC w46 ⟨eC, hrC, hc47⟩
        try have hD := hD.keep hc47 (row_keys hrC)
        have hC : Sl w46 vC (inT T z 24).length (nums ((inT T z 24))) := hrC.sl hc47 (fun x hx => hx) 0
        have hs48 := (hs44.call_new hc47 (row_keys hrC)).dropL (M := eC) (fun x hx => Nat.le_trans hs44.size (hrC.new x hx))
        refine ⟨fun _ => hs48, ?_⟩
        refine E3 (wanted_yesB rfl rfl rfl h45) (c_call rfl rfl rfl Try.func37 (by kernel_rfl) rfl (rin_any T z w46) rfl ?_)
        rintro vD w49 ⟨eD, hrD, hc50⟩
        try have hC := hC.keep hc50 (row_keys hrD)
        have hD : Sl w49 vD (inT T z 24).length (nums ((inT T z 24))) := hrD.sl hc50 (fun x hx => hx) 0
        have hs51 := (hs48.call_new hc50 (row_keys hrD)).dropL (M := eD) (fun x hx => Nat.le_trans hs48.size (hrD.new x hx))
        refine ⟨fun _ => hs51, ?_⟩
        refine E3 (wanted_yesB rfl rfl rfl h45) (c_call rfl rfl rfl Try.func33 (by kernel_rfl) rfl (sameInts_eq (inT T z 24) vC vD (by have := inT_len T z 24; omega) w49 hC hD) rfl ?_)
        rintro _ w52 ⟨rfl, hc53⟩
        have hs54 := hs51.call0 hc53
        refine ⟨fun _ => hs54, ?_⟩
        refine E0 (wanted_none rfl) rfl (y_pickT rfl rfl h45 rfl) ?_
        refine E0 (wanted_none rfl) rfl (y_assign (v := Value.bool _) rfl rfl) ?_
        refine Enil ?_
        refine W_ret ?_
        refine fin1 (fn := Try.f6) rfl rfl ?_
        exact ⟨rfl, hs54.drop (.inl hbb2)⟩
end Go.Proofs.Ytkolfgmpmnelmaa

/-
  Walk: law.EntryReads.
-/
import Derived.Test.YtkolfgmpmnelmabGreatDoorU6
namespace Go.Proofs.YtkolfgmpmnelmabGreatDoor.Ent
open Go Vx Go.Proofs Go.RowKit
set_option linter.unusedVariables false
set_option maxRecDepth 8000
set_option maxHeartbeats 4000000
theorem parse3_any (s : List UInt8) (hl : s.length ≤ 100000) (w : World) (hE : EntAt w) : C Tryz.prog 18 ⟨[str s]⟩ w fun v w' => (∃ vl e r, v = .tuple #[vl, e] ∧ Reads s r ∧ (r = none → e = .iface 24 (iv 3) ∧ vl = .slice none 0 0) ∧ ∀ m, r = some m → e = .nilIface ∧ ∃ vc, FlsAt w' vl m vc) ∧ St w [] w' :=
  (parse_any s hl w hE).mono fun v w' ⟨h, hs⟩ => ⟨by
    rcases h with ⟨h1, rfl⟩ | ⟨m, vl, vc, h1, rfl, h3⟩
    · exact ⟨_, _, none, rfl, h1, fun _ => ⟨rfl, rfl⟩, fun m h => (by cases h)⟩
    · exact ⟨_, _, some m, rfl, h1, fun h => (by cases h), fun m' h => by cases h; exact ⟨rfl, vc, h3⟩⟩, hs⟩
theorem FlsAt.empty (w : World) (vc : Nat → Value) : FlsAt w (.slice none 0 0) [] vc :=
  ⟨⟨none, 0, rfl, fun h => absurd h (Nat.not_lt_zero _)⟩, fun j hj => absurd hj (Nat.not_lt_zero _), fun j hj => absurd hj (Nat.not_lt_zero _), ⟨none, 0, rfl, Nat.le_refl _⟩⟩
theorem RightP.few1 {l : List Fl} (h : RightP l) : l.length ≤ 1000 ∧ ∀ f ∈ l, f.cs.length ≤ 1000 :=
  ⟨by have := h.few; omega, fun f hf => by have := h.csLen hf; omega⟩
theorem entryReads_any (l : List Fl) (v0 : Value) (vc : Nat → Value) (s : List UInt8) (n : Int) (h0 : -9223372036854775808 ≤ n) (w : World) (hF : FlsAt w v0 l vc) (hE : EntAt w) (hR : ErrAt w) : C Tryz.prog 3 ⟨[v0, str s, iv n]⟩ w fun v w' => v = .bool true ∧ St w [] w' := by
  refine C_enter (n := 91) Tryz.func3 rfl rfl rfl (fun w1 hs1 => ?_)
  refine W_seq ?_
  refine W_region ?_
  refine L0 (wanted_none rfl) rfl (y_assign (v := Value.bool _) rfl rfl) ?_
  refine Lnil ?_
  refine W_seq ?_
  refine W_seq ?_
  refine W_region ?_
  refine L0 (wanted_none rfl) rfl (y_move (v := v0) rfl rfl) ?_
  refine Lc (wanted_none rfl) (c_call rfl rfl rfl Tryz.func4 (by kernel_rfl) rfl (short_any l v0 vc w1 (hF.keep0 hs1)) rfl ?_)
  rintro vf w2 ⟨⟨bo, rfl, hbo⟩, hc3⟩
  have hs4 := hs1.call0 hc3
  refine L0 (wanted_none rfl) rfl (y_not rfl rfl) ?_
  refine L0 (wanted_none rfl) rfl (y_move (v := Value.bool _) rfl rfl) ?_
  refine Lsp (t := 16) rfl (fun h5 => ?_) (fun h5 => ?_)
  · have h5' := h5
    first | replace h5' := of_decide_eq_true h5' | replace h5' := bnT' h5' | skip
    refine Lno (wanted_noB rfl rfl rfl h5 (by decide)) rfl ?_
    refine Lno (wanted_noB rfl rfl rfl h5 (by decide)) rfl ?_
    refine Lno (wanted_noB rfl rfl rfl h5 (by decide)) rfl ?_
    refine L0 (wanted_none rfl) rfl (y_pickT rfl rfl h5 rfl) ?_
    refine Lnil ?_
    refine W_condT rfl rfl ?_
    refine W_seq ?_
    refine W_region ?_
    refine L0 (wanted_none rfl) rfl (y_assign (v := Value.bool _) rfl rfl) ?_
    refine Lnil ?_
    refine W_ret ?_
    refine fin1 (fn := Tryz.f3) rfl rfl ?_
    exact ⟨rfl, hs4⟩
  · have h5' := h5
    first | replace h5' := of_decide_eq_false h5' | replace h5' := bnF' h5' | skip
    refine L0 (wanted_yesB rfl rfl rfl h5) rfl (y_move (v := Value.string ⟨⟨_⟩⟩) rfl rfl) ?_
    refine L0 (wanted_yesB rfl rfl rfl h5) rfl (y_len rfl Tryz.underlying9 rfl) ?_
    refine L0 (wanted_yesB rfl rfl rfl h5) rfl (y_gt rfl rfl rfl) ?_
    refine L0 (wanted_none rfl) rfl (y_pickF rfl rfl h5 rfl) ?_
    refine Lnil ?_
    refine Wsp (t := 20) rfl (fun h6 => ?_) (fun h6 => ?_)
    · have h6' := h6
      first | replace h6' := of_decide_eq_true h6' | replace h6' := bnT' h6' | skip
      refine W_condT rfl h6 ?_
      refine W_seq ?_
      refine W_region ?_
      refine L0 (wanted_none rfl) rfl (y_assign (v := Value.bool _) rfl rfl) ?_
      refine Lnil ?_
      refine W_ret ?_
      refine fin1 (fn := Tryz.f3) rfl rfl ?_
      exact ⟨rfl, hs4⟩
    · have h6' := h6
      first | replace h6' := of_decide_eq_false h6' | replace h6' := bnF' h6' | skip
      refine W_condF rfl h6 ?_
      refine W_skip ?_
      refine W_seq ?_
      have hbt : bo = true := by simpa using ‹(!bo) = false›
      have hsh := hbo hbt
      refine W_region ?_
      refine L0 (wanted_none rfl) rfl (y_move (v := v0) rfl rfl) ?_
      refine Lc (wanted_none rfl) (c_call rfl rfl rfl Tryz.func5 (by kernel_rfl) rfl (rprint_any l v0 vc hsh.few w2 (hF.keep0 hs4) (hE.keep0 hs4)) rfl ?_)
      rintro vf w7 ⟨⟨t1, e1, rfl, hp1, hp2⟩, hc8⟩
      have hs9 := hs4.call0 hc8
      refine L0 (wanted_none rfl) rfl (y_move (v := Value.tuple ⟨_⟩) rfl rfl) ?_
      refine L0 (wanted_none rfl) rfl (y_extract rfl rfl rfl) ?_
      refine L0 (wanted_none rfl) rfl (y_extract rfl rfl rfl) ?_
      refine L0 (wanted_none rfl) rfl (y_assign (v := Value.string ⟨⟨_⟩⟩) rfl rfl) ?_
      refine L0 (wanted_none rfl) rfl (y_assign (v := Value.int _ _) rfl rfl) ?_
      refine Lnil ?_
      refine W_seq ?_
      refine W_region ?_
      refine L0 (wanted_none rfl) rfl (y_move (v := v0) rfl rfl) ?_
      refine Lc (wanted_none rfl) (c_call rfl rfl rfl Tryz.func6 (by kernel_rfl) rfl (print2_any l v0 vc w7 (hF.keep0 hs9) (hE.keep0 hs9)) rfl ?_)
      rintro vf w10 ⟨⟨t2, e2, rfl, hp3, hp4⟩, hc11⟩
      have hs12 := hs9.call0 hc11
      refine L0 (wanted_none rfl) rfl (y_move (v := Value.tuple ⟨_⟩) rfl rfl) ?_
      refine L0 (wanted_none rfl) rfl (y_extract rfl rfl rfl) ?_
      refine L0 (wanted_none rfl) rfl (y_extract rfl rfl rfl) ?_
      refine L0 (wanted_none rfl) rfl (y_assign (v := Value.string ⟨⟨_⟩⟩) rfl rfl) ?_
      refine L0 (wanted_none rfl) rfl (y_assign (v := _) rfl rfl) ?_
      refine Lnil ?_
      refine W_seq ?_
      refine W_seq ?_
      by_cases hRP : RightP l
      · skip
        obtain ⟨rfl, rfl⟩ := hp1 hRP
        obtain ⟨rfl, rfl⟩ := hp3 hRP
        refine W_region ?_
        refine L0 (wanted_none rfl) rfl (y_move (v := _) rfl rfl) ?_
        refine L0 (wanted_none rfl) rfl (y_move (v := Value.int _ _) rfl rfl) ?_
        refine Lc (wanted_none rfl) (c_call rfl rfl rfl Tryz.func7 (by kernel_rfl) rfl (bare_of (.inl ⟨rfl, rfl⟩) w10 (hR.keep hs12 (by simp [keys]))) rfl ?_)
        rintro _ w13 ⟨rfl, hc14⟩
        have hs15 := hs12.call0 hc14
        refine L0 (wanted_none rfl) rfl (y_not rfl rfl) ?_
        refine L0 (wanted_none rfl) rfl (y_move (v := Value.bool _) rfl rfl) ?_
        refine Lkn (t := 35) (b0 := false) rfl (by rfl) (fun h16 => ?_)
        refine L0 (wanted_yesB rfl rfl rfl h16) rfl (y_move (v := Value.string ⟨⟨_⟩⟩) rfl rfl) ?_
        refine L0 (wanted_yesB rfl rfl rfl h16) rfl (y_move (v := Value.string ⟨⟨_⟩⟩) rfl rfl) ?_
        refine L0 (wanted_yesB rfl rfl rfl h16) rfl (y_sne rfl rfl rfl) ?_
        refine L0 (wanted_none rfl) rfl (y_pickF rfl rfl h16 rfl) ?_
        refine L0 (wanted_none rfl) rfl (y_move (v := Value.bool _) rfl rfl) ?_
        refine Lkn (t := 40) (b0 := false) rfl (by simp) (fun h17 => ?_)
        refine L0 (wanted_yesB rfl rfl rfl h17) rfl (y_move (v := v0) rfl rfl) ?_
        refine Lc (wanted_yesB rfl rfl rfl h17) (c_call rfl rfl rfl Tryz.func8 (by kernel_rfl) rfl (right_any l v0 vc w13 (hF.keep0 hs15)) rfl ?_)
        rintro vf w18 ⟨⟨br, rfl, hbr⟩, hc19⟩
        have hs20 := hs15.call0 hc19
        refine L0 (wanted_yesB rfl rfl rfl h17) rfl (y_move (v := v0) rfl rfl) ?_
        refine Lc (wanted_yesB rfl rfl rfl h17) (c_call rfl rfl rfl Tryz.func9 (by kernel_rfl) rfl (rright_any l v0 vc hsh.few w18 (hF.keep0 hs20)) rfl ?_)
        rintro vf w21 ⟨⟨br2, rfl, hbr2⟩, hc22⟩
        have hs23 := hs20.call0 hc22
        obtain rfl : br = br2 := by rw [Bool.eq_iff_iff, hbr, hbr2]
        refine L0 (wanted_yesB rfl rfl rfl h17) rfl (y_bne rfl Tryz.underlying4 rfl rfl) ?_
        refine L0 (wanted_none rfl) rfl (y_pickF rfl rfl h17 rfl) ?_
        refine L0 (wanted_none rfl) rfl (y_move (v := Value.bool _) rfl rfl) ?_
        refine Lkn (t := 47) (b0 := false) rfl (by simp) (fun h24 => ?_)
        refine L0 (wanted_yesB rfl rfl rfl h24) rfl (y_move (v := Value.string ⟨⟨_⟩⟩) rfl rfl) ?_
        refine Lc (wanted_yesB rfl rfl rfl h24) (c_call rfl rfl rfl Tryz.func10 (by kernel_rfl) rfl (name_any s w21) rfl ?_)
        rintro vf w25 ⟨⟨bn, rfl, hbn⟩, hc26⟩
        have hs27 := hs23.call0 hc26
        refine L0 (wanted_yesB rfl rfl rfl h24) rfl (y_move (v := Value.string ⟨⟨_⟩⟩) rfl rfl) ?_
        refine Lc (wanted_yesB rfl rfl rfl h24) (c_call rfl rfl rfl Tryz.func11 (by kernel_rfl) rfl (rname_any s (by omega) w25) rfl ?_)
        rintro vf w28 ⟨⟨bn2, rfl, hbn2⟩, hc29⟩
        have hs30 := hs27.call0 hc29
        obtain rfl : bn = bn2 := by rw [Bool.eq_iff_iff, hbn, hbn2]
        refine L0 (wanted_yesB rfl rfl rfl h24) rfl (y_bne rfl Tryz.underlying4 rfl rfl) ?_
        refine L0 (wanted_none rfl) rfl (y_pickF rfl rfl h24 rfl) ?_
        refine Lnil ?_
        refine Wkn (t := 53) (b0 := false) rfl (by simp) (fun h31 => ?_)
        refine W_condF rfl h31 ?_
        refine W_skip ?_
        refine W_seq ?_
        refine W_seq ?_
        refine W_region ?_
        refine L0 (wanted_none rfl) rfl (y_move (v := Value.int _ _) rfl rfl) ?_
        refine L0 (wanted_none rfl) rfl (y_le rfl rfl rfl) ?_
        refine L0 (wanted_none rfl) rfl (y_move (v := Value.bool _) rfl rfl) ?_
        refine Lsp (t := 56) rfl (fun h32 => ?_) (fun h32 => ?_)
        · have h32' := h32
          first | replace h32' := of_decide_eq_true h32' | replace h32' := bnT' h32' | skip
          refine L0 (wanted_yesB rfl rfl rfl h32) rfl (y_move (v := Value.int _ _) rfl rfl) ?_
          refine Lc (wanted_yesB rfl rfl rfl h32) (c_call rfl rfl rfl Tryz.func12 (by kernel_rfl) rfl (need_any n (by omega) (by omega) w28) rfl ?_)
          rintro _ w33 ⟨rfl, hc34⟩
          have hs35 := hs30.call0 hc34
          refine L0 (wanted_yesB rfl rfl rfl h32) rfl (y_move (v := Value.int _ _) rfl rfl) ?_
          refine Lc (wanted_yesB rfl rfl rfl h32) (c_call rfl rfl rfl Tryz.func13 (by kernel_rfl) rfl (rneed_any n (by omega) (by omega) w33) rfl ?_)
          rintro _ w36 ⟨rfl, hc37⟩
          have hs38 := hs35.call0 hc37
          refine L0 (wanted_yesB rfl rfl rfl h32) rfl (y_ne rfl rfl rfl) ?_
          refine L0 (wanted_none rfl) rfl (y_pickT rfl rfl h32 rfl) ?_
          refine Lnil ?_
          refine Wkn (t := 62) (b0 := false) rfl (by first | exact decide_eq_false (by omega) | exact bnF (by omega) | (simp; omega)) (fun h39 => ?_)
          refine W_condF rfl h39 ?_
          refine W_skip ?_
          refine W_seq ?_
          refine W_seq ?_
          refine W_region ?_
          refine L0 (wanted_none rfl) rfl (y_move (v := Value.int _ _) rfl rfl) ?_
          refine L0 (wanted_none rfl) rfl (y_eq rfl rfl rfl) ?_
          refine L0 (wanted_none rfl) rfl (y_move (v := Value.bool _) rfl rfl) ?_
          refine Lkn (t := 65) (b0 := true) rfl (by rfl) (fun h40 => ?_)
          refine L0 (wanted_yesB rfl rfl rfl h40) rfl (y_move (v := v0) rfl rfl) ?_
          refine Lc (wanted_yesB rfl rfl rfl h40) (c_call rfl rfl rfl Tryz.func15 (by kernel_rfl) rfl (free_any l v0 vc (by have := hsh.few.len; omega) (fun f hf => by have := hsh.few.cs f hf; omega) w36 (hF.keep0 hs38)) rfl ?_)
          rintro vA w41 ⟨hA, hc42⟩
          have hs43 := hs38.call0 hc42
          refine L0 (wanted_yesB rfl rfl rfl h40) rfl (y_move (v := v0) rfl rfl) ?_
          refine Lc (wanted_yesB rfl rfl rfl h40) (c_call rfl rfl rfl Tryz.func16 (by kernel_rfl) rfl (rfree_any l v0 vc hsh.few w41 (hF.keep0 hs43)) rfl ?_)
          rintro vB w44 ⟨hB, hc45⟩
          have hs46 := hs43.call0 hc45
          have hA2 := hA.keep0 hc45
          refine Lc (wanted_yesB rfl rfl rfl h40) (c_call rfl rfl rfl Tryz.func14 (by kernel_rfl) rfl (sameInts_any _ vA vB (by have := freeTo_len (allCells l) 21; omega) w44 hA2 hB) rfl ?_)
          rintro _ w47 ⟨rfl, hc48⟩
          have hs49 := hs46.call0 hc48
          refine L0 (wanted_yesB rfl rfl rfl h40) rfl (y_not rfl rfl) ?_
          refine L0 (wanted_none rfl) rfl (y_pickT rfl rfl h40 rfl) ?_
          refine Lnil ?_
          refine Wkn (t := 72) (b0 := false) rfl (by rfl) (fun h50 => ?_)
          refine W_condF rfl h50 ?_
          refine W_skip ?_
          refine W_seq ?_
          refine W_region ?_
          refine L0 (wanted_none rfl) rfl (y_move (v := Value.string ⟨⟨_⟩⟩) rfl rfl) ?_
          refine Lc (wanted_none rfl) (c_call rfl rfl rfl Tryz.func17 (by kernel_rfl) rfl (rparse_any s (by omega) w47 (hE.keep0 hs49)) rfl ?_)
          rintro vf w51 ⟨⟨vl, e3, r, rfl, hr1, hr2, hr3⟩, hc52⟩
          have hs53 := hs49.call0 hc52
          refine L0 (wanted_none rfl) rfl (y_move (v := Value.tuple ⟨_⟩) rfl rfl) ?_
          refine L0 (wanted_none rfl) rfl (y_extract rfl rfl rfl) ?_
          refine L0 (wanted_none rfl) rfl (y_extract rfl rfl rfl) ?_
          refine L0 (wanted_none rfl) rfl (y_assign rfl rfl) ?_
          refine L0 (wanted_none rfl) rfl (y_assign (v := Value.int _ _) rfl rfl) ?_
          refine Lnil ?_
          refine W_seq ?_
          refine W_region ?_
          refine L0 (wanted_none rfl) rfl (y_move (v := Value.string ⟨⟨_⟩⟩) rfl rfl) ?_
          refine Lc (wanted_none rfl) (c_call rfl rfl rfl Tryz.func18 (by kernel_rfl) rfl (parse3_any s (by omega) w51 (hE.keep0 hs53)) rfl ?_)
          rintro vf w54 ⟨⟨vm, e4, r2, rfl, hq1, hq2, hq3⟩, hc55⟩
          have hs56 := hs53.call0 hc55
          obtain rfl := Reads.unique hr1 hq1
          have hcc := hc55
          refine L0 (wanted_none rfl) rfl (y_move (v := Value.tuple ⟨_⟩) rfl rfl) ?_
          refine L0 (wanted_none rfl) rfl (y_extract rfl rfl rfl) ?_
          refine L0 (wanted_none rfl) rfl (y_extract rfl rfl rfl) ?_
          refine L0 (wanted_none rfl) rfl (y_assign rfl rfl) ?_
          refine L0 (wanted_none rfl) rfl (y_assign (v := _) rfl rfl) ?_
          refine Lnil ?_
          refine W_seq ?_
          by_cases hrn : r = none
          · skip
            obtain ⟨rfl, rfl⟩ := hr2 hrn
            obtain ⟨rfl, rfl⟩ := hq2 hrn
            refine W_region ?_
            refine L0 (wanted_none rfl) rfl (y_move (v := _) rfl rfl) ?_
            refine L0 (wanted_none rfl) rfl (y_move (v := Value.int _ _) rfl rfl) ?_
            refine Lc (wanted_none rfl) (c_call rfl rfl rfl Tryz.func7 (by kernel_rfl) rfl (bare_of (.inr rfl) w54 (hR.keep hs56 (by simp [keys]))) rfl ?_)
            rintro _ w57 ⟨rfl, hc58⟩
            have hs59 := hs56.call0 hc58
            refine L0 (wanted_none rfl) rfl (y_move (v := Value.bool _) rfl rfl) ?_
            refine Lkn (t := 86) (b0 := true) rfl (by rfl) (fun h60 => ?_)
            refine L0 (wanted_yesB rfl rfl rfl h60) rfl (y_move rfl rfl) ?_
            refine L0 (wanted_yesB rfl rfl rfl h60) rfl (y_move rfl rfl) ?_
            refine Lc (wanted_yesB rfl rfl rfl h60) (c_call rfl rfl rfl Tryz.func19 (by kernel_rfl) rfl (sameFiles_any [] _ _ (fun _ => .nilIface) (fun _ => .nilIface) (by simp) (fun f hf => by cases hf) w57 (FlsAt.empty _ _) (FlsAt.empty _ _)) rfl ?_)
            rintro _ w61 ⟨rfl, hc62⟩
            have hs63 := hs59.call0 hc62
            refine L0 (wanted_none rfl) rfl (y_pickT rfl rfl h60 rfl) ?_
            refine L0 (wanted_none rfl) rfl (y_assign (v := Value.bool _) rfl rfl) ?_
            refine Lnil ?_
            refine W_ret ?_
            refine fin1 (fn := Tryz.f3) rfl rfl ?_
            exact ⟨rfl, hs63⟩
          · skip
            obtain ⟨m, rfl⟩ := Option.ne_none_iff_exists'.1 hrn
            obtain ⟨rfl, vdl, hfl0⟩ := hr3 m rfl
            obtain ⟨rfl, vdm, hfm⟩ := hq3 m rfl
            have hfl := hfl0.keep0 hcc
            refine W_region ?_
            refine L0 (wanted_none rfl) rfl (y_move (v := _) rfl rfl) ?_
            refine L0 (wanted_none rfl) rfl (y_move (v := Value.int _ _) rfl rfl) ?_
            refine Lc (wanted_none rfl) (c_call rfl rfl rfl Tryz.func7 (by kernel_rfl) rfl (bare_of (.inl ⟨rfl, rfl⟩) w54 (hR.keep hs56 (by simp [keys]))) rfl ?_)
            rintro vf w64 ⟨rfl, hc65⟩
            have hs66 := hs56.call0 hc65
            have hcd := hc65
            refine L0 (wanted_none rfl) rfl (y_move (v := Value.bool _) rfl rfl) ?_
            refine Lkn (t := 86) (b0 := true) rfl (by rfl) (fun h67 => ?_)
            refine L0 (wanted_yesB rfl rfl rfl h67) rfl (y_move rfl rfl) ?_
            refine L0 (wanted_yesB rfl rfl rfl h67) rfl (y_move rfl rfl) ?_
            refine Lc (wanted_yesB rfl rfl rfl h67) (c_call rfl rfl rfl Tryz.func19 (by kernel_rfl) rfl (sameFiles_any m vm vl vdm vdl hr1.1.few1.1 hr1.1.few1.2 w64 (hfm.keep0 hcd) (hfl.keep0 hcd)) rfl ?_)
            rintro _ w68 ⟨rfl, hc69⟩
            have hs70 := hs66.call0 hc69
            refine L0 (wanted_none rfl) rfl (y_pickT rfl rfl h67 rfl) ?_
            refine L0 (wanted_none rfl) rfl (y_assign (v := Value.bool _) rfl rfl) ?_
            refine Lnil ?_
            refine W_ret ?_
            refine fin1 (fn := Tryz.f3) rfl rfl ?_
            exact ⟨rfl, hs70⟩
        · have h32' := h32
          first | replace h32' := of_decide_eq_false h32' | replace h32' := bnF' h32' | skip
          refine Lno (wanted_noB rfl rfl rfl h32 (by decide)) rfl ?_
          refine Lno (wanted_noB rfl rfl rfl h32 (by decide)) rfl ?_
          refine Lno (wanted_noB rfl rfl rfl h32 (by decide)) rfl ?_
          refine Lno (wanted_noB rfl rfl rfl h32 (by decide)) rfl ?_
          refine Lno (wanted_noB rfl rfl rfl h32 (by decide)) rfl ?_
          refine L0 (wanted_none rfl) rfl (y_pickF rfl rfl h32 rfl) ?_
          refine Lnil ?_
          refine W_condF rfl rfl ?_
          refine W_skip ?_
          refine W_seq ?_
          refine W_seq ?_
          refine W_region ?_
          refine L0 (wanted_none rfl) rfl (y_move (v := Value.int _ _) rfl rfl) ?_
          refine L0 (wanted_none rfl) rfl (y_eq rfl rfl rfl) ?_
          refine L0 (wanted_none rfl) rfl (y_move (v := Value.bool _) rfl rfl) ?_
          refine Lkn (t := 65) (b0 := true) rfl (by rfl) (fun h71 => ?_)
          refine L0 (wanted_yesB rfl rfl rfl h71) rfl (y_move (v := v0) rfl rfl) ?_
          refine Lc (wanted_yesB rfl rfl rfl h71) (c_call rfl rfl rfl Tryz.func15 (by kernel_rfl) rfl (free_any l v0 vc (by have := hsh.few.len; omega) (fun f hf => by have := hsh.few.cs f hf; omega) w28 (hF.keep0 hs30)) rfl ?_)
          rintro vA w72 ⟨hA, hc73⟩
          have hs74 := hs30.call0 hc73
          refine L0 (wanted_yesB rfl rfl rfl h71) rfl (y_move (v := v0) rfl rfl) ?_
          refine Lc (wanted_yesB rfl rfl rfl h71) (c_call rfl rfl rfl Tryz.func16 (by kernel_rfl) rfl (rfree_any l v0 vc hsh.few w72 (hF.keep0 hs74)) rfl ?_)
          rintro vB w75 ⟨hB, hc76⟩
          have hs77 := hs74.call0 hc76
          have hA2 := hA.keep0 hc76
          refine Lc (wanted_yesB rfl rfl rfl h71) (c_call rfl rfl rfl Tryz.func14 (by kernel_rfl) rfl (sameInts_any _ vA vB (by have := freeTo_len (allCells l) 21; omega) w75 hA2 hB) rfl ?_)
          rintro _ w78 ⟨rfl, hc79⟩
          have hs80 := hs77.call0 hc79
          refine L0 (wanted_yesB rfl rfl rfl h71) rfl (y_not rfl rfl) ?_
          refine L0 (wanted_none rfl) rfl (y_pickT rfl rfl h71 rfl) ?_
          refine Lnil ?_
          refine Wkn (t := 72) (b0 := false) rfl (by rfl) (fun h81 => ?_)
          refine W_condF rfl h81 ?_
          refine W_skip ?_
          refine W_seq ?_
          refine W_region ?_
          refine L0 (wanted_none rfl) rfl (y_move (v := Value.string ⟨⟨_⟩⟩) rfl rfl) ?_
          refine Lc (wanted_none rfl) (c_call rfl rfl rfl Tryz.func17 (by kernel_rfl) rfl (rparse_any s (by omega) w78 (hE.keep0 hs80)) rfl ?_)
          rintro vf w82 ⟨⟨vl, e3, r, rfl, hr1, hr2, hr3⟩, hc83⟩
          have hs84 := hs80.call0 hc83
          refine L0 (wanted_none rfl) rfl (y_move (v := Value.tuple ⟨_⟩) rfl rfl) ?_
          refine L0 (wanted_none rfl) rfl (y_extract rfl rfl rfl) ?_
          refine L0 (wanted_none rfl) rfl (y_extract rfl rfl rfl) ?_
          refine L0 (wanted_none rfl) rfl (y_assign rfl rfl) ?_
          refine L0 (wanted_none rfl) rfl (y_assign (v := Value.int _ _) rfl rfl) ?_
          refine Lnil ?_
          refine W_seq ?_
          refine W_region ?_
          refine L0 (wanted_none rfl) rfl (y_move (v := Value.string ⟨⟨_⟩⟩) rfl rfl) ?_
          refine Lc (wanted_none rfl) (c_call rfl rfl rfl Tryz.func18 (by kernel_rfl) rfl (parse3_any s (by omega) w82 (hE.keep0 hs84)) rfl ?_)
          rintro vf w85 ⟨⟨vm, e4, r2, rfl, hq1, hq2, hq3⟩, hc86⟩
          have hs87 := hs84.call0 hc86
          obtain rfl := Reads.unique hr1 hq1
          have hcc := hc86
          refine L0 (wanted_none rfl) rfl (y_move (v := Value.tuple ⟨_⟩) rfl rfl) ?_
          refine L0 (wanted_none rfl) rfl (y_extract rfl rfl rfl) ?_
          refine L0 (wanted_none rfl) rfl (y_extract rfl rfl rfl) ?_
          refine L0 (wanted_none rfl) rfl (y_assign rfl rfl) ?_
          refine L0 (wanted_none rfl) rfl (y_assign (v := _) rfl rfl) ?_
          refine Lnil ?_
          refine W_seq ?_
          by_cases hrn : r = none
          · skip
            obtain ⟨rfl, rfl⟩ := hr2 hrn
            obtain ⟨rfl, rfl⟩ := hq2 hrn
            refine W_region ?_
            refine L0 (wanted_none rfl) rfl (y_move (v := _) rfl rfl) ?_
            refine L0 (wanted_none rfl) rfl (y_move (v := Value.int _ _) rfl rfl) ?_
            refine Lc (wanted_none rfl) (c_call rfl rfl rfl Tryz.func7 (by kernel_rfl) rfl (bare_of (.inr rfl) w85 (hR.keep hs87 (by simp [keys]))) rfl ?_)
            rintro _ w88 ⟨rfl, hc89⟩
            have hs90 := hs87.call0 hc89
            refine L0 (wanted_none rfl) rfl (y_move (v := Value.bool _) rfl rfl) ?_
            refine Lkn (t := 86) (b0 := true) rfl (by rfl) (fun h91 => ?_)
            refine L0 (wanted_yesB rfl rfl rfl h91) rfl (y_move rfl rfl) ?_
            refine L0 (wanted_yesB rfl rfl rfl h91) rfl (y_move rfl rfl) ?_
            refine Lc (wanted_yesB rfl rfl rfl h91) (c_call rfl rfl rfl Tryz.func19 (by kernel_rfl) rfl (sameFiles_any [] _ _ (fun _ => .nilIface) (fun _ => .nilIface) (by simp) (fun f hf => by cases hf) w88 (FlsAt.empty _ _) (FlsAt.empty _ _)) rfl ?_)
            rintro _ w92 ⟨rfl, hc93⟩
            have hs94 := hs90.call0 hc93
            refine L0 (wanted_none rfl) rfl (y_pickT rfl rfl h91 rfl) ?_
            refine L0 (wanted_none rfl) rfl (y_assign (v := Value.bool _) rfl rfl) ?_
            refine Lnil ?_
            refine W_ret ?_
            refine fin1 (fn := Tryz.f3) rfl rfl ?_
            exact ⟨rfl, hs94⟩
          · skip
            obtain ⟨m, rfl⟩ := Option.ne_none_iff_exists'.1 hrn
            obtain ⟨rfl, vdl, hfl0⟩ := hr3 m rfl
            obtain ⟨rfl, vdm, hfm⟩ := hq3 m rfl
            have hfl := hfl0.keep0 hcc
            refine W_region ?_
            refine L0 (wanted_none rfl) rfl (y_move (v := _) rfl rfl) ?_
            refine L0 (wanted_none rfl) rfl (y_move (v := Value.int _ _) rfl rfl) ?_
            refine Lc (wanted_none rfl) (c_call rfl rfl rfl Tryz.func7 (by kernel_rfl) rfl (bare_of (.inl ⟨rfl, rfl⟩) w85 (hR.keep hs87 (by simp [keys]))) rfl ?_)
            rintro vf w95 ⟨rfl, hc96⟩
            have hs97 := hs87.call0 hc96
            have hcd := hc96
            refine L0 (wanted_none rfl) rfl (y_move (v := Value.bool _) rfl rfl) ?_
            refine Lkn (t := 86) (b0 := true) rfl (by rfl) (fun h98 => ?_)
            refine L0 (wanted_yesB rfl rfl rfl h98) rfl (y_move rfl rfl) ?_
            refine L0 (wanted_yesB rfl rfl rfl h98) rfl (y_move rfl rfl) ?_
            refine Lc (wanted_yesB rfl rfl rfl h98) (c_call rfl rfl rfl Tryz.func19 (by kernel_rfl) rfl (sameFiles_any m vm vl vdm vdl hr1.1.few1.1 hr1.1.few1.2 w95 (hfm.keep0 hcd) (hfl.keep0 hcd)) rfl ?_)
            rintro _ w99 ⟨rfl, hc100⟩
            have hs101 := hs97.call0 hc100
            refine L0 (wanted_none rfl) rfl (y_pickT rfl rfl h98 rfl) ?_
            refine L0 (wanted_none rfl) rfl (y_assign (v := Value.bool _) rfl rfl) ?_
            refine Lnil ?_
            refine W_ret ?_
            refine fin1 (fn := Tryz.f3) rfl rfl ?_
            exact ⟨rfl, hs101⟩
      · skip
        obtain ⟨rfl, rfl⟩ := hp2 hRP
        obtain ⟨rfl, rfl⟩ := hp4 hRP
        refine W_region ?_
        refine L0 (wanted_none rfl) rfl (y_move (v := _) rfl rfl) ?_
        refine L0 (wanted_none rfl) rfl (y_move (v := Value.int _ _) rfl rfl) ?_
        refine Lc (wanted_none rfl) (c_call rfl rfl rfl Tryz.func7 (by kernel_rfl) rfl (bare_of (.inr rfl) w10 (hR.keep hs12 (by simp [keys]))) rfl ?_)
        rintro _ w102 ⟨rfl, hc103⟩
        have hs104 := hs12.call0 hc103
        refine L0 (wanted_none rfl) rfl (y_not rfl rfl) ?_
        refine L0 (wanted_none rfl) rfl (y_move (v := Value.bool _) rfl rfl) ?_
        refine Lkn (t := 35) (b0 := false) rfl (by rfl) (fun h105 => ?_)
        refine L0 (wanted_yesB rfl rfl rfl h105) rfl (y_move (v := Value.string ⟨⟨_⟩⟩) rfl rfl) ?_
        refine L0 (wanted_yesB rfl rfl rfl h105) rfl (y_move (v := Value.string ⟨⟨_⟩⟩) rfl rfl) ?_
        refine L0 (wanted_yesB rfl rfl rfl h105) rfl (y_sne rfl rfl rfl) ?_
        refine L0 (wanted_none rfl) rfl (y_pickF rfl rfl h105 rfl) ?_
        refine L0 (wanted_none rfl) rfl (y_move (v := Value.bool _) rfl rfl) ?_
        refine Lkn (t := 40) (b0 := false) rfl (by simp) (fun h106 => ?_)
        refine L0 (wanted_yesB rfl rfl rfl h106) rfl (y_move (v := v0) rfl rfl) ?_
        refine Lc (wanted_yesB rfl rfl rfl h106) (c_call rfl rfl rfl Tryz.func8 (by kernel_rfl) rfl (right_any l v0 vc w102 (hF.keep0 hs104)) rfl ?_)
        rintro vf w107 ⟨⟨br, rfl, hbr⟩, hc108⟩
        have hs109 := hs104.call0 hc108
        refine L0 (wanted_yesB rfl rfl rfl h106) rfl (y_move (v := v0) rfl rfl) ?_
        refine Lc (wanted_yesB rfl rfl rfl h106) (c_call rfl rfl rfl Tryz.func9 (by kernel_rfl) rfl (rright_any l v0 vc hsh.few w107 (hF.keep0 hs109)) rfl ?_)
        rintro vf w110 ⟨⟨br2, rfl, hbr2⟩, hc111⟩
        have hs112 := hs109.call0 hc111
        obtain rfl : br = br2 := by rw [Bool.eq_iff_iff, hbr, hbr2]
        refine L0 (wanted_yesB rfl rfl rfl h106) rfl (y_bne rfl Tryz.underlying4 rfl rfl) ?_
        refine L0 (wanted_none rfl) rfl (y_pickF rfl rfl h106 rfl) ?_
        refine L0 (wanted_none rfl) rfl (y_move (v := Value.bool _) rfl rfl) ?_
        refine Lkn (t := 47) (b0 := false) rfl (by simp) (fun h113 => ?_)
        refine L0 (wanted_yesB rfl rfl rfl h113) rfl (y_move (v := Value.string ⟨⟨_⟩⟩) rfl rfl) ?_
        refine Lc (wanted_yesB rfl rfl rfl h113) (c_call rfl rfl rfl Tryz.func10 (by kernel_rfl) rfl (name_any s w110) rfl ?_)
        rintro vf w114 ⟨⟨bn, rfl, hbn⟩, hc115⟩
        have hs116 := hs112.call0 hc115
        refine L0 (wanted_yesB rfl rfl rfl h113) rfl (y_move (v := Value.string ⟨⟨_⟩⟩) rfl rfl) ?_
        refine Lc (wanted_yesB rfl rfl rfl h113) (c_call rfl rfl rfl Tryz.func11 (by kernel_rfl) rfl (rname_any s (by omega) w114) rfl ?_)
        rintro vf w117 ⟨⟨bn2, rfl, hbn2⟩, hc118⟩
        have hs119 := hs116.call0 hc118
        obtain rfl : bn = bn2 := by rw [Bool.eq_iff_iff, hbn, hbn2]
        refine L0 (wanted_yesB rfl rfl rfl h113) rfl (y_bne rfl Tryz.underlying4 rfl rfl) ?_
        refine L0 (wanted_none rfl) rfl (y_pickF rfl rfl h113 rfl) ?_
        refine Lnil ?_
        refine Wkn (t := 53) (b0 := false) rfl (by simp) (fun h120 => ?_)
        refine W_condF rfl h120 ?_
        refine W_skip ?_
        refine W_seq ?_
        refine W_seq ?_
        refine W_region ?_
        refine L0 (wanted_none rfl) rfl (y_move (v := Value.int _ _) rfl rfl) ?_
        refine L0 (wanted_none rfl) rfl (y_le rfl rfl rfl) ?_
        refine L0 (wanted_none rfl) rfl (y_move (v := Value.bool _) rfl rfl) ?_
        refine Lsp (t := 56) rfl (fun h121 => ?_) (fun h121 => ?_)
        · have h121' := h121
          first | replace h121' := of_decide_eq_true h121' | replace h121' := bnT' h121' | skip
          refine L0 (wanted_yesB rfl rfl rfl h121) rfl (y_move (v := Value.int _ _) rfl rfl) ?_
          refine Lc (wanted_yesB rfl rfl rfl h121) (c_call rfl rfl rfl Tryz.func12 (by kernel_rfl) rfl (need_any n (by omega) (by omega) w117) rfl ?_)
          rintro _ w122 ⟨rfl, hc123⟩
          have hs124 := hs119.call0 hc123
          refine L0 (wanted_yesB rfl rfl rfl h121) rfl (y_move (v := Value.int _ _) rfl rfl) ?_
          refine Lc (wanted_yesB rfl rfl rfl h121) (c_call rfl rfl rfl Tryz.func13 (by kernel_rfl) rfl (rneed_any n (by omega) (by omega) w122) rfl ?_)
          rintro _ w125 ⟨rfl, hc126⟩
          have hs127 := hs124.call0 hc126
          refine L0 (wanted_yesB rfl rfl rfl h121) rfl (y_ne rfl rfl rfl) ?_
          refine L0 (wanted_none rfl) rfl (y_pickT rfl rfl h121 rfl) ?_
          refine Lnil ?_
          refine Wkn (t := 62) (b0 := false) rfl (by first | exact decide_eq_false (by omega) | exact bnF (by omega) | (simp; omega)) (fun h128 => ?_)
          refine W_condF rfl h128 ?_
          refine W_skip ?_
          refine W_seq ?_
          refine W_seq ?_
          refine W_region ?_
          refine L0 (wanted_none rfl) rfl (y_move (v := Value.int _ _) rfl rfl) ?_
          refine L0 (wanted_none rfl) rfl (y_eq rfl rfl rfl) ?_
          refine L0 (wanted_none rfl) rfl (y_move (v := Value.bool _) rfl rfl) ?_
          refine Lkn (t := 65) (b0 := false) rfl (by rfl) (fun h129 => ?_)
          refine Lno (wanted_noB rfl rfl rfl h129 (by decide)) rfl ?_
          refine Lno (wanted_noB rfl rfl rfl h129 (by decide)) rfl ?_
          refine Lno (wanted_noB rfl rfl rfl h129 (by decide)) rfl ?_
          refine Lno (wanted_noB rfl rfl rfl h129 (by decide)) rfl ?_
          refine Lno (wanted_noB rfl rfl rfl h129 (by decide)) rfl ?_
          refine Lno (wanted_noB rfl rfl rfl h129 (by decide)) rfl ?_
          refine L0 (wanted_none rfl) rfl (y_pickF rfl rfl h129 rfl) ?_
          refine Lnil ?_
          refine W_condF rfl rfl ?_
          refine W_skip ?_
          refine W_seq ?_
          refine W_region ?_
          refine L0 (wanted_none rfl) rfl (y_move (v := Value.string ⟨⟨_⟩⟩) rfl rfl) ?_
          refine Lc (wanted_none rfl) (c_call rfl rfl rfl Tryz.func17 (by kernel_rfl) rfl (rparse_any s (by omega) w125 (hE.keep0 hs127)) rfl ?_)
          rintro vf w130 ⟨⟨vl, e3, r, rfl, hr1, hr2, hr3⟩, hc131⟩
          have hs132 := hs127.call0 hc131
          refine L0 (wanted_none rfl) rfl (y_move (v := Value.tuple ⟨_⟩) rfl rfl) ?_
          refine L0 (wanted_none rfl) rfl (y_extract rfl rfl rfl) ?_
          refine L0 (wanted_none rfl) rfl (y_extract rfl rfl rfl) ?_
          refine L0 (wanted_none rfl) rfl (y_assign rfl rfl) ?_
          refine L0 (wanted_none rfl) rfl (y_assign (v := Value.int _ _) rfl rfl) ?_
          refine Lnil ?_
          refine W_seq ?_
          refine W_region ?_
          refine L0 (wanted_none rfl) rfl (y_move (v := Value.string ⟨⟨_⟩⟩) rfl rfl) ?_
          refine Lc (wanted_none rfl) (c_call rfl rfl rfl Tryz.func18 (by kernel_rfl) rfl (parse3_any s (by omega) w130 (hE.keep0 hs132)) rfl ?_)
          rintro vf w133 ⟨⟨vm, e4, r2, rfl, hq1, hq2, hq3⟩, hc134⟩
          have hs135 := hs132.call0 hc134
          obtain rfl := Reads.unique hr1 hq1
          have hcc := hc134
          refine L0 (wanted_none rfl) rfl (y_move (v := Value.tuple ⟨_⟩) rfl rfl) ?_
          refine L0 (wanted_none rfl) rfl (y_extract rfl rfl rfl) ?_
          refine L0 (wanted_none rfl) rfl (y_extract rfl rfl rfl) ?_
          refine L0 (wanted_none rfl) rfl (y_assign rfl rfl) ?_
          refine L0 (wanted_none rfl) rfl (y_assign (v := _) rfl rfl) ?_
          refine Lnil ?_
          refine W_seq ?_
          by_cases hrn : r = none
          · skip
            obtain ⟨rfl, rfl⟩ := hr2 hrn
            obtain ⟨rfl, rfl⟩ := hq2 hrn
            refine W_region ?_
            refine L0 (wanted_none rfl) rfl (y_move (v := _) rfl rfl) ?_
            refine L0 (wanted_none rfl) rfl (y_move (v := Value.int _ _) rfl rfl) ?_
            refine Lc (wanted_none rfl) (c_call rfl rfl rfl Tryz.func7 (by kernel_rfl) rfl (bare_of (.inr rfl) w133 (hR.keep hs135 (by simp [keys]))) rfl ?_)
            rintro _ w136 ⟨rfl, hc137⟩
            have hs138 := hs135.call0 hc137
            refine L0 (wanted_none rfl) rfl (y_move (v := Value.bool _) rfl rfl) ?_
            refine Lkn (t := 86) (b0 := true) rfl (by rfl) (fun h139 => ?_)
            refine L0 (wanted_yesB rfl rfl rfl h139) rfl (y_move rfl rfl) ?_
            refine L0 (wanted_yesB rfl rfl rfl h139) rfl (y_move rfl rfl) ?_
            refine Lc (wanted_yesB rfl rfl rfl h139) (c_call rfl rfl rfl Tryz.func19 (by kernel_rfl) rfl (sameFiles_any [] _ _ (fun _ => .nilIface) (fun _ => .nilIface) (by simp) (fun f hf => by cases hf) w136 (FlsAt.empty _ _) (FlsAt.empty _ _)) rfl ?_)
            rintro _ w140 ⟨rfl, hc141⟩
            have hs142 := hs138.call0 hc141
            refine L0 (wanted_none rfl) rfl (y_pickT rfl rfl h139 rfl) ?_
            refine L0 (wanted_none rfl) rfl (y_assign (v := Value.bool _) rfl rfl) ?_
            refine Lnil ?_
            refine W_ret ?_
            refine fin1 (fn := Tryz.f3) rfl rfl ?_
            exact ⟨rfl, hs142⟩
          · skip
            obtain ⟨m, rfl⟩ := Option.ne_none_iff_exists'.1 hrn
            obtain ⟨rfl, vdl, hfl0⟩ := hr3 m rfl
            obtain ⟨rfl, vdm, hfm⟩ := hq3 m rfl
            have hfl := hfl0.keep0 hcc
            refine W_region ?_
            refine L0 (wanted_none rfl) rfl (y_move (v := _) rfl rfl) ?_
            refine L0 (wanted_none rfl) rfl (y_move (v := Value.int _ _) rfl rfl) ?_
            refine Lc (wanted_none rfl) (c_call rfl rfl rfl Tryz.func7 (by kernel_rfl) rfl (bare_of (.inl ⟨rfl, rfl⟩) w133 (hR.keep hs135 (by simp [keys]))) rfl ?_)
            rintro vf w143 ⟨rfl, hc144⟩
            have hs145 := hs135.call0 hc144
            have hcd := hc144
            refine L0 (wanted_none rfl) rfl (y_move (v := Value.bool _) rfl rfl) ?_
            refine Lkn (t := 86) (b0 := true) rfl (by rfl) (fun h146 => ?_)
            refine L0 (wanted_yesB rfl rfl rfl h146) rfl (y_move rfl rfl) ?_
            refine L0 (wanted_yesB rfl rfl rfl h146) rfl (y_move rfl rfl) ?_
            refine Lc (wanted_yesB rfl rfl rfl h146) (c_call rfl rfl rfl Tryz.func19 (by kernel_rfl) rfl (sameFiles_any m vm vl vdm vdl hr1.1.few1.1 hr1.1.few1.2 w143 (hfm.keep0 hcd) (hfl.keep0 hcd)) rfl ?_)
            rintro _ w147 ⟨rfl, hc148⟩
            have hs149 := hs145.call0 hc148
            refine L0 (wanted_none rfl) rfl (y_pickT rfl rfl h146 rfl) ?_
            refine L0 (wanted_none rfl) rfl (y_assign (v := Value.bool _) rfl rfl) ?_
            refine Lnil ?_
            refine W_ret ?_
            refine fin1 (fn := Tryz.f3) rfl rfl ?_
            exact ⟨rfl, hs149⟩
        · have h121' := h121
          first | replace h121' := of_decide_eq_false h121' | replace h121' := bnF' h121' | skip
          refine Lno (wanted_noB rfl rfl rfl h121 (by decide)) rfl ?_
          refine Lno (wanted_noB rfl rfl rfl h121 (by decide)) rfl ?_
          refine Lno (wanted_noB rfl rfl rfl h121 (by decide)) rfl ?_
          refine Lno (wanted_noB rfl rfl rfl h121 (by decide)) rfl ?_
          refine Lno (wanted_noB rfl rfl rfl h121 (by decide)) rfl ?_
          refine L0 (wanted_none rfl) rfl (y_pickF rfl rfl h121 rfl) ?_
          refine Lnil ?_
          refine W_condF rfl rfl ?_
          refine W_skip ?_
          refine W_seq ?_
          refine W_seq ?_
          refine W_region ?_
          refine L0 (wanted_none rfl) rfl (y_move (v := Value.int _ _) rfl rfl) ?_
          refine L0 (wanted_none rfl) rfl (y_eq rfl rfl rfl) ?_
          refine L0 (wanted_none rfl) rfl (y_move (v := Value.bool _) rfl rfl) ?_
          refine Lkn (t := 65) (b0 := false) rfl (by rfl) (fun h150 => ?_)
          refine Lno (wanted_noB rfl rfl rfl h150 (by decide)) rfl ?_
          refine Lno (wanted_noB rfl rfl rfl h150 (by decide)) rfl ?_
          refine Lno (wanted_noB rfl rfl rfl h150 (by decide)) rfl ?_
          refine Lno (wanted_noB rfl rfl rfl h150 (by decide)) rfl ?_
          refine Lno (wanted_noB rfl rfl rfl h150 (by decide)) rfl ?_
          refine Lno (wanted_noB rfl rfl rfl h150 (by decide)) rfl ?_
          refine L0 (wanted_none rfl) rfl (y_pickF rfl rfl h150 rfl) ?_
          refine Lnil ?_
          refine W_condF rfl rfl ?_
          refine W_skip ?_
          refine W_seq ?_
          refine W_region ?_
          refine L0 (wanted_none rfl) rfl (y_move (v := Value.string ⟨⟨_⟩⟩) rfl rfl) ?_
          refine Lc (wanted_none rfl) (c_call rfl rfl rfl Tryz.func17 (by kernel_rfl) rfl (rparse_any s (by omega) w117 (hE.keep0 hs119)) rfl ?_)
          rintro vf w151 ⟨⟨vl, e3, r, rfl, hr1, hr2, hr3⟩, hc152⟩
          have hs153 := hs119.call0 hc152
          refine L0 (wanted_none rfl) rfl (y_move (v := Value.tuple ⟨_⟩) rfl rfl) ?_
          refine L0 (wanted_none rfl) rfl (y_extract rfl rfl rfl) ?_
          refine L0 (wanted_none rfl) rfl (y_extract rfl rfl rfl) ?_
          refine L0 (wanted_none rfl) rfl (y_assign rfl rfl) ?_
          refine L0 (wanted_none rfl) rfl (y_assign (v := Value.int _ _) rfl rfl) ?_
          refine Lnil ?_
          refine W_seq ?_
          refine W_region ?_
          refine L0 (wanted_none rfl) rfl (y_move (v := Value.string ⟨⟨_⟩⟩) rfl rfl) ?_
          refine Lc (wanted_none rfl) (c_call rfl rfl rfl Tryz.func18 (by kernel_rfl) rfl (parse3_any s (by omega) w151 (hE.keep0 hs153)) rfl ?_)
          rintro vf w154 ⟨⟨vm, e4, r2, rfl, hq1, hq2, hq3⟩, hc155⟩
          have hs156 := hs153.call0 hc155
          obtain rfl := Reads.unique hr1 hq1
          have hcc := hc155
          refine L0 (wanted_none rfl) rfl (y_move (v := Value.tuple ⟨_⟩) rfl rfl) ?_
          refine L0 (wanted_none rfl) rfl (y_extract rfl rfl rfl) ?_
          refine L0 (wanted_none rfl) rfl (y_extract rfl rfl rfl) ?_
          refine L0 (wanted_none rfl) rfl (y_assign rfl rfl) ?_
          refine L0 (wanted_none rfl) rfl (y_assign (v := _) rfl rfl) ?_
          refine Lnil ?_
          refine W_seq ?_
          by_cases hrn : r = none
          · skip
            obtain ⟨rfl, rfl⟩ := hr2 hrn
            obtain ⟨rfl, rfl⟩ := hq2 hrn
            refine W_region ?_
            refine L0 (wanted_none rfl) rfl (y_move (v := _) rfl rfl) ?_
            refine L0 (wanted_none rfl) rfl (y_move (v := Value.int _ _) rfl rfl) ?_
            refine Lc (wanted_none rfl) (c_call rfl rfl rfl Tryz.func7 (by kernel_rfl) rfl (bare_of (.inr rfl) w154 (hR.keep hs156 (by simp [keys]))) rfl ?_)
            rintro _ w157 ⟨rfl, hc158⟩
            have hs159 := hs156.call0 hc158
            refine L0 (wanted_none rfl) rfl (y_move (v := Value.bool _) rfl rfl) ?_
            refine Lkn (t := 86) (b0 := true) rfl (by rfl) (fun h160 => ?_)
            refine L0 (wanted_yesB rfl rfl rfl h160) rfl (y_move rfl rfl) ?_
            refine L0 (wanted_yesB rfl rfl rfl h160) rfl (y_move rfl rfl) ?_
            refine Lc (wanted_yesB rfl rfl rfl h160) (c_call rfl rfl rfl Tryz.func19 (by kernel_rfl) rfl (sameFiles_any [] _ _ (fun _ => .nilIface) (fun _ => .nilIface) (by simp) (fun f hf => by cases hf) w157 (FlsAt.empty _ _) (FlsAt.empty _ _)) rfl ?_)
            rintro _ w161 ⟨rfl, hc162⟩
            have hs163 := hs159.call0 hc162
            refine L0 (wanted_none rfl) rfl (y_pickT rfl rfl h160 rfl) ?_
            refine L0 (wanted_none rfl) rfl (y_assign (v := Value.bool _) rfl rfl) ?_
            refine Lnil ?_
            refine W_ret ?_
            refine fin1 (fn := Tryz.f3) rfl rfl ?_
            exact ⟨rfl, hs163⟩
          · skip
            obtain ⟨m, rfl⟩ := Option.ne_none_iff_exists'.1 hrn
            obtain ⟨rfl, vdl, hfl0⟩ := hr3 m rfl
            obtain ⟨rfl, vdm, hfm⟩ := hq3 m rfl
            have hfl := hfl0.keep0 hcc
            refine W_region ?_
            refine L0 (wanted_none rfl) rfl (y_move (v := _) rfl rfl) ?_
            refine L0 (wanted_none rfl) rfl (y_move (v := Value.int _ _) rfl rfl) ?_
            refine Lc (wanted_none rfl) (c_call rfl rfl rfl Tryz.func7 (by kernel_rfl) rfl (bare_of (.inl ⟨rfl, rfl⟩) w154 (hR.keep hs156 (by simp [keys]))) rfl ?_)
            rintro vf w164 ⟨rfl, hc165⟩
            have hs166 := hs156.call0 hc165
            have hcd := hc165
            refine L0 (wanted_none rfl) rfl (y_move (v := Value.bool _) rfl rfl) ?_
            refine Lkn (t := 86) (b0 := true) rfl (by rfl) (fun h167 => ?_)
            refine L0 (wanted_yesB rfl rfl rfl h167) rfl (y_move rfl rfl) ?_
            refine L0 (wanted_yesB rfl rfl rfl h167) rfl (y_move rfl rfl) ?_
            refine Lc (wanted_yesB rfl rfl rfl h167) (c_call rfl rfl rfl Tryz.func19 (by kernel_rfl) rfl (sameFiles_any m vm vl vdm vdl hr1.1.few1.1 hr1.1.few1.2 w164 (hfm.keep0 hcd) (hfl.keep0 hcd)) rfl ?_)
            rintro _ w168 ⟨rfl, hc169⟩
            have hs170 := hs166.call0 hc169
            refine L0 (wanted_none rfl) rfl (y_pickT rfl rfl h167 rfl) ?_
            refine L0 (wanted_none rfl) rfl (y_assign (v := Value.bool _) rfl rfl) ?_
            refine Lnil ?_
            refine W_ret ?_
            refine fin1 (fn := Tryz.f3) rfl rfl ?_
            exact ⟨rfl, hs170⟩
end Go.Proofs.YtkolfgmpmnelmabGreatDoor.Ent

/-
  Walks: the document's in, Name, Need, Right.
-/
import Derived.Test.YtkolfgmpmnelmabGreatDoorU1
namespace Go.Proofs.YtkolfgmpmnelmabGreatDoor.Ent
open Go Vx Go.Proofs
set_option linter.unusedVariables false
set_option maxRecDepth 8000
set_option maxHeartbeats 4000000
theorem rin_any (n a b : Int) (w : World) : C Tryz.prog 24 ⟨[iv n, iv a, iv b]⟩ w fun v w' => v = .bool (decide (a ≤ n ∧ n ≤ b)) ∧ St w [] w' := by
  refine C_enter (n := 15) Tryz.func24 rfl rfl rfl (fun w1 hs1 => ?_)
  refine W_seq ?_
  refine W_region ?_
  refine L0 (wanted_none rfl) rfl (y_assign (v := Value.bool _) rfl rfl) ?_
  refine Lnil ?_
  refine W_seq ?_
  refine W_region ?_
  refine L0 (wanted_none rfl) rfl (y_move (v := Value.int _ _) rfl rfl) ?_
  refine L0 (wanted_none rfl) rfl (y_move (v := Value.int _ _) rfl rfl) ?_
  refine L0 (wanted_none rfl) rfl (y_le rfl rfl rfl) ?_
  refine L0 (wanted_none rfl) rfl (y_move (v := Value.bool _) rfl rfl) ?_
  refine Lsp (t := 10) rfl (fun h2 => ?_) (fun h2 => ?_)
  · have h2' := h2
    first | replace h2' := of_decide_eq_true h2' | replace h2' := bnT' h2' | skip
    refine L0 (wanted_yesB rfl rfl rfl h2) rfl (y_move (v := Value.int _ _) rfl rfl) ?_
    refine L0 (wanted_yesB rfl rfl rfl h2) rfl (y_move (v := Value.int _ _) rfl rfl) ?_
    refine L0 (wanted_yesB rfl rfl rfl h2) rfl (y_le rfl rfl rfl) ?_
    refine L0 (wanted_none rfl) rfl (y_pickT rfl rfl h2 rfl) ?_
    refine L0 (wanted_none rfl) rfl (y_assign (v := Value.bool _) rfl rfl) ?_
    refine Lnil ?_
    refine W_ret ?_
    refine fin1 (fn := Tryz.f24) rfl rfl ?_
    first | exact ⟨congrArg Value.bool (by rw [Bool.eq_iff_iff, decide_eq_true_iff, decide_eq_true_iff]; omega), hs1⟩ | exact ⟨congrArg Value.bool (by rw [eq_comm, decide_eq_false_iff_not]; omega), hs1⟩
  · have h2' := h2
    first | replace h2' := of_decide_eq_false h2' | replace h2' := bnF' h2' | skip
    refine Lno (wanted_noB rfl rfl rfl h2 (by decide)) rfl ?_
    refine Lno (wanted_noB rfl rfl rfl h2 (by decide)) rfl ?_
    refine Lno (wanted_noB rfl rfl rfl h2 (by decide)) rfl ?_
    refine L0 (wanted_none rfl) rfl (y_pickF rfl rfl h2 rfl) ?_
    refine L0 (wanted_none rfl) rfl (y_assign (v := Value.bool _) rfl rfl) ?_
    refine Lnil ?_
    refine W_ret ?_
    refine fin1 (fn := Tryz.f24) rfl rfl ?_
    first | exact ⟨congrArg Value.bool (by rw [Bool.eq_iff_iff, decide_eq_true_iff, decide_eq_true_iff]; omega), hs1⟩ | exact ⟨congrArg Value.bool (by rw [eq_comm, decide_eq_false_iff_not]; omega), hs1⟩
theorem rneed_any (n : Int) (h0 : -9223372036854775808 ≤ n) (h1 : n ≤ 9223372036854775807) (w : World) : C Tryz.prog 13 ⟨[iv n]⟩ w fun v w' => v = iv (needI n) ∧ St w [] w' := by
  refine C_enter (n := 9) Tryz.func13 rfl rfl rfl (fun w1 hs1 => ?_)
  refine W_seq ?_
  refine W_region ?_
  refine L0 (wanted_none rfl) rfl (y_assign (v := Value.int _ _) rfl rfl) ?_
  refine Lnil ?_
  refine W_seq ?_
  refine W_seq ?_
  refine W_region ?_
  refine L0 (wanted_none rfl) rfl (y_move (v := Value.int _ _) rfl rfl) ?_
  refine L0 (wanted_none rfl) rfl (y_le rfl rfl rfl) ?_
  refine Lnil ?_
  refine Wsp (t := 4) rfl (fun h2 => ?_) (fun h2 => ?_)
  · have h2' := h2
    first | replace h2' := of_decide_eq_true h2' | replace h2' := bnT' h2' | skip
    refine W_condT rfl h2 ?_
    refine W_seq ?_
    refine W_region ?_
    refine L0 (wanted_none rfl) rfl (y_assign (v := Value.int _ _) rfl rfl) ?_
    refine Lnil ?_
    refine W_ret ?_
    refine fin1 (fn := Tryz.f13) rfl rfl ?_
    first | exact ⟨congrArg _ (needI_zero (by omega)).symm, hs1⟩ | exact ⟨congrArg _ (needI_pos (by omega)).symm, hs1⟩
  · have h2' := h2
    first | replace h2' := of_decide_eq_false h2' | replace h2' := bnF' h2' | skip
    refine W_condF rfl h2 ?_
    refine W_skip ?_
    refine W_seq ?_
    refine W_region ?_
    refine L0 (wanted_none rfl) rfl (y_move (v := Value.int _ _) rfl rfl) ?_
    refine L0 (wanted_none rfl) rfl (y_sub64 rfl rfl rfl (by omega)) ?_
    refine L0 (wanted_none rfl) rfl (y_quo64 rfl rfl rfl (by omega) (by omega) (by omega)) ?_
    refine L0 (wanted_none rfl) rfl (y_add64 rfl rfl rfl (by omega)) ?_
    refine L0 (wanted_none rfl) rfl (y_assign (v := Value.int _ _) rfl rfl) ?_
    refine Lnil ?_
    refine W_ret ?_
    refine fin1 (fn := Tryz.f13) rfl rfl ?_
    first | exact ⟨congrArg _ (needI_zero (by omega)).symm, hs1⟩ | exact ⟨congrArg _ (needI_pos (by omega)).symm, hs1⟩
theorem low_iff (c : UInt8) : low c = true ↔ 97 ≤ (c.toNat : Int) ∧ (c.toNat : Int) ≤ 122 := by
  rw [low, Bool.and_eq_true, decide_eq_true_iff, decide_eq_true_iff]; omega
theorem dig_iff (c : UInt8) : dig c = true ↔ 48 ≤ (c.toNat : Int) ∧ (c.toNat : Int) ≤ 57 := by
  rw [dig, Bool.and_eq_true, decide_eq_true_iff, decide_eq_true_iff]; omega
theorem rname_any (s : List UInt8) (hl : s.length ≤ 100000) (w : World) : C Tryz.prog 11 ⟨[str s]⟩ w fun v w' => (∃ bo, v = .bool bo ∧ (bo = true ↔ NameP s)) ∧ St w [] w' := by
  refine C_enter (n := 37) Tryz.func11 rfl rfl rfl (fun w1 hs1 => ?_)
  refine W_seq ?_
  refine W_region ?_
  refine L0 (wanted_none rfl) rfl (y_assign (v := Value.bool _) rfl rfl) ?_
  refine Lnil ?_
  refine W_seq ?_
  refine W_seq ?_
  refine W_region ?_
  refine L0 (wanted_none rfl) rfl (y_move (v := Value.string ⟨⟨_⟩⟩) rfl rfl) ?_
  refine L0 (wanted_none rfl) rfl (y_len rfl Tryz.underlying9 rfl) ?_
  refine L0 (wanted_none rfl) rfl (y_move (v := Value.int _ _) rfl rfl) ?_
  refine Lnil ?_
  refine W_block ?_
  refine W_loop (G := Nat) (fun i aL wl => ∃ e, aL = A 37 ((7, iv i) :: (6, iv s.length) :: (0, str s) :: e) ∧ i ≤ s.length ∧ NameTo s i ∧ St w [] wl) (fun i => s.length - i) (0) ?_ ?_
  · exact ⟨_, A_pins _ _ [7, 6, 0], Nat.zero_le _, NameTo.zero s, hs1⟩
  rintro i _ w2 ⟨ehs3, rfl, hi, hn, hs3⟩
  refine W_seq ?_
  refine W_region ?_
  refine L0 (wanted_none rfl) rfl (y_lt rfl rfl rfl) ?_
  refine Lnil ?_
  refine W_seq ?_
  refine Wsp (t := 8) rfl (fun h4 => ?_) (fun h4 => ?_)
  · have h4' := h4
    first | replace h4' := of_decide_eq_true h4' | replace h4' := bnT' h4' | skip
    refine W_condT rfl h4 ?_
    refine W_skip ?_
    refine W_seq ?_
    refine W_block ?_
    refine W_seq ?_
    refine W_region ?_
    refine L0 (wanted_none rfl) rfl (y_move (v := Value.int _ _) rfl rfl) ?_
    refine L0 (wanted_none rfl) rfl (y_assign (v := Value.int _ _) rfl rfl) ?_
    refine Lnil ?_
    refine W_seq ?_
    refine W_region ?_
    refine L0 (wanted_none rfl) rfl (y_move (v := Value.string ⟨⟨_⟩⟩) rfl rfl) ?_
    refine L0 (wanted_none rfl) rfl (y_move (v := Value.int _ _) rfl rfl) ?_
    refine L0 (wanted_none rfl) rfl (y_sindex rfl Tryz.underlying9 rfl rfl (by omega) (by omega)) ?_
    refine L0 (wanted_none rfl) rfl (y_assign (v := Value.int _ _) rfl rfl) ?_
    refine Lnil ?_
    refine W_seq ?_
    refine W_region ?_
    refine L0 (wanted_none rfl) rfl (y_move (v := Value.int _ _) rfl rfl) ?_
    refine L0 (wanted_none rfl) rfl (y_ge rfl rfl rfl) ?_
    refine L0 (wanted_none rfl) rfl (y_move (v := Value.bool _) rfl rfl) ?_
    refine Lsp (t := 15) rfl (fun h5 => ?_) (fun h5 => ?_)
    · have h5' := h5
      first | replace h5' := of_decide_eq_true h5' | replace h5' := bnT' h5' | skip
      refine L0 (wanted_yesB rfl rfl rfl h5) rfl (y_move (v := Value.int _ _) rfl rfl) ?_
      refine L0 (wanted_yesB rfl rfl rfl h5) rfl (y_le rfl rfl rfl) ?_
      refine L0 (wanted_none rfl) rfl (y_pickT rfl rfl h5 rfl) ?_
      refine L0 (wanted_none rfl) rfl (y_not rfl rfl) ?_
      refine L0 (wanted_none rfl) rfl (y_move (v := Value.bool _) rfl rfl) ?_
      refine Lsp (t := 20) rfl (fun h6 => ?_) (fun h6 => ?_)
      · have h6' := h6
        first | replace h6' := of_decide_eq_true h6' | replace h6' := bnT' h6' | skip
        refine L0 (wanted_yesB rfl rfl rfl h6) rfl (y_move (v := Value.int _ _) rfl rfl) ?_
        refine L0 (wanted_yesB rfl rfl rfl h6) rfl (y_eq rfl rfl rfl) ?_
        refine L0 (wanted_yesB rfl rfl rfl h6) rfl (y_move (v := Value.bool _) rfl rfl) ?_
        refine Lsp (t := 23) rfl (fun h7 => ?_) (fun h7 => ?_)
        · have h7' := h7
          first | replace h7' := of_decide_eq_true h7' | replace h7' := bnT' h7' | skip
          refine Lno (wanted_noB rfl rfl rfl h7 (by decide)) rfl ?_
          refine Lno (wanted_noB rfl rfl rfl h7 (by decide)) rfl ?_
          refine Lno (wanted_noB rfl rfl rfl h7 (by decide)) rfl ?_
          refine Lno (wanted_noU rfl rfl rfl) rfl ?_
          refine Lno (wanted_noU rfl rfl rfl) rfl ?_
          refine Lno (wanted_noB rfl rfl rfl h7 (by decide)) rfl ?_
          refine Lno (wanted_noB rfl rfl rfl h7 (by decide)) rfl ?_
          refine L0 (wanted_yesB rfl rfl rfl h6) rfl (y_pickT rfl rfl h7 rfl) ?_
          refine L0 (wanted_none rfl) rfl (y_pickT rfl rfl h6 rfl) ?_
          refine Lnil ?_
          refine W_condT rfl rfl ?_
          refine W_seq ?_
          refine W_region ?_
          refine L0 (wanted_none rfl) rfl (y_assign (v := Value.bool _) rfl rfl) ?_
          refine Lnil ?_
          refine W_ret ?_
          refine fin1 (fn := Tryz.f11) rfl rfl ?_
          first
          | (obtain rfl : i = s.length := by omega
             exact ⟨⟨_, rfl, by rw [decide_eq_true_iff, nameP_iff]; exact ⟨fun h => ⟨by omega, by omega, hn⟩, fun h => ⟨by omega, by omega⟩⟩⟩, hs3⟩)
          | (refine ⟨⟨false, rfl, iff_of_false (by decide) (fun hN => ?_)⟩, hs3⟩
             have h7 := ((nameP_iff s).1 hN).2.2 i (by omega)
             rw [low_iff, dig_iff] at h7
             simp only [Int.toNat_natCast] at *
             omega)
        · have h7' := h7
          first | replace h7' := of_decide_eq_false h7' | replace h7' := bnF' h7' | skip
          refine L0 (wanted_yesB rfl rfl rfl h7) rfl (y_move (v := Value.int _ _) rfl rfl) ?_
          refine L0 (wanted_yesB rfl rfl rfl h7) rfl (y_ge rfl rfl rfl) ?_
          refine L0 (wanted_yesB rfl rfl rfl h7) rfl (y_move (v := Value.bool _) rfl rfl) ?_
          refine Lsp (t := 26) rfl (fun h8 => ?_) (fun h8 => ?_)
          · have h8' := h8
            first | replace h8' := of_decide_eq_true h8' | replace h8' := bnT' h8' | skip
            refine L0 (wanted_yesB rfl rfl rfl h8) rfl (y_move (v := Value.int _ _) rfl rfl) ?_
            refine L0 (wanted_yesB rfl rfl rfl h8) rfl (y_le rfl rfl rfl) ?_
            refine L0 (wanted_yesB rfl rfl rfl h7) rfl (y_pickT rfl rfl h8 rfl) ?_
            refine L0 (wanted_yesB rfl rfl rfl h7) rfl (y_not rfl rfl) ?_
            refine L0 (wanted_yesB rfl rfl rfl h6) rfl (y_pickF rfl rfl h7 rfl) ?_
            refine L0 (wanted_none rfl) rfl (y_pickT rfl rfl h6 rfl) ?_
            refine Lnil ?_
            refine Wsp (t := 32) rfl (fun h9 => ?_) (fun h9 => ?_)
            · have h9' := h9
              first | replace h9' := of_decide_eq_true h9' | replace h9' := bnT' h9' | skip
              refine W_condT rfl h9 ?_
              refine W_seq ?_
              refine W_region ?_
              refine L0 (wanted_none rfl) rfl (y_assign (v := Value.bool _) rfl rfl) ?_
              refine Lnil ?_
              refine W_ret ?_
              refine fin1 (fn := Tryz.f11) rfl rfl ?_
              first
              | (obtain rfl : i = s.length := by omega
                 exact ⟨⟨_, rfl, by rw [decide_eq_true_iff, nameP_iff]; exact ⟨fun h => ⟨by omega, by omega, hn⟩, fun h => ⟨by omega, by omega⟩⟩⟩, hs3⟩)
              | (refine ⟨⟨false, rfl, iff_of_false (by decide) (fun hN => ?_)⟩, hs3⟩
                 have h7 := ((nameP_iff s).1 hN).2.2 i (by omega)
                 rw [low_iff, dig_iff] at h7
                 simp only [Int.toNat_natCast] at *
                 omega)
            · have h9' := h9
              first | replace h9' := of_decide_eq_false h9' | replace h9' := bnF' h9' | skip
              refine W_condF rfl h9 ?_
              refine W_skip ?_
              refine W_region ?_
              refine L0 (wanted_none rfl) rfl (y_add64 rfl rfl rfl (by omega)) ?_
              refine L0 (wanted_none rfl) rfl (y_move (v := Value.int _ _) rfl rfl) ?_
              refine Lnil ?_
              exact ⟨i + 1, by first | omega | (dsimp only; done) | (dsimp only; omega), _, A_c (iv_eq (by first | omega | (dsimp only; done) | (dsimp only; omega))) (A_c rfl (A_c rfl (rfl))), by omega, hn.succ (by simp only [Int.toNat_natCast] at *; rw [low_iff, dig_iff]; omega), hs3⟩
          · have h8' := h8
            first | replace h8' := of_decide_eq_false h8' | replace h8' := bnF' h8' | skip
            refine Lno (wanted_noB rfl rfl rfl h8 (by decide)) rfl ?_
            refine Lno (wanted_noB rfl rfl rfl h8 (by decide)) rfl ?_
            refine L0 (wanted_yesB rfl rfl rfl h7) rfl (y_pickF rfl rfl h8 rfl) ?_
            refine L0 (wanted_yesB rfl rfl rfl h7) rfl (y_not rfl rfl) ?_
            refine Lkn (t := 30) (b0 := true) rfl rfl (fun h10 => ?_)
            refine L0 (wanted_yesB rfl rfl rfl h6) rfl (y_pickF rfl rfl h7 rfl) ?_
            refine L0 (wanted_none rfl) rfl (y_pickT rfl rfl h6 rfl) ?_
            refine Lnil ?_
            refine W_condT rfl h10 ?_
            refine W_seq ?_
            refine W_region ?_
            refine L0 (wanted_none rfl) rfl (y_assign (v := Value.bool _) rfl rfl) ?_
            refine Lnil ?_
            refine W_ret ?_
            refine fin1 (fn := Tryz.f11) rfl rfl ?_
            first
            | (obtain rfl : i = s.length := by omega
               exact ⟨⟨_, rfl, by rw [decide_eq_true_iff, nameP_iff]; exact ⟨fun h => ⟨by omega, by omega, hn⟩, fun h => ⟨by omega, by omega⟩⟩⟩, hs3⟩)
            | (refine ⟨⟨false, rfl, iff_of_false (by decide) (fun hN => ?_)⟩, hs3⟩
               have h7 := ((nameP_iff s).1 hN).2.2 i (by omega)
               rw [low_iff, dig_iff] at h7
               simp only [Int.toNat_natCast] at *
               omega)
      · have h6' := h6
        first | replace h6' := of_decide_eq_false h6' | replace h6' := bnF' h6' | skip
        refine Lno (wanted_noB rfl rfl rfl h6 (by decide)) rfl ?_
        refine Lno (wanted_noB rfl rfl rfl h6 (by decide)) rfl ?_
        refine Lno (wanted_noB rfl rfl rfl h6 (by decide)) rfl ?_
        refine Lno (wanted_noU rfl rfl rfl) rfl ?_
        refine Lno (wanted_noU rfl rfl rfl) rfl ?_
        refine Lno (wanted_noU rfl rfl rfl) rfl ?_
        refine Lno (wanted_noU rfl rfl rfl) rfl ?_
        refine Lno (wanted_noU rfl rfl rfl) rfl ?_
        refine Lno (wanted_noU rfl rfl rfl) rfl ?_
        refine Lno (wanted_noU rfl rfl rfl) rfl ?_
        refine Lno (wanted_noB rfl rfl rfl h6 (by decide)) rfl ?_
        refine L0 (wanted_none rfl) rfl (y_pickF rfl rfl h6 rfl) ?_
        refine Lnil ?_
        refine W_condF rfl rfl ?_
        refine W_skip ?_
        refine W_region ?_
        refine L0 (wanted_none rfl) rfl (y_add64 rfl rfl rfl (by omega)) ?_
        refine L0 (wanted_none rfl) rfl (y_move (v := Value.int _ _) rfl rfl) ?_
        refine Lnil ?_
        exact ⟨i + 1, by first | omega | (dsimp only; done) | (dsimp only; omega), _, A_c (iv_eq (by first | omega | (dsimp only; done) | (dsimp only; omega))) (A_c rfl (A_c rfl (rfl))), by omega, hn.succ (by simp only [Int.toNat_natCast] at *; rw [low_iff, dig_iff]; omega), hs3⟩
    · have h5' := h5
      first | replace h5' := of_decide_eq_false h5' | replace h5' := bnF' h5' | skip
      refine Lno (wanted_noB rfl rfl rfl h5 (by decide)) rfl ?_
      refine Lno (wanted_noB rfl rfl rfl h5 (by decide)) rfl ?_
      refine L0 (wanted_none rfl) rfl (y_pickF rfl rfl h5 rfl) ?_
      refine L0 (wanted_none rfl) rfl (y_not rfl rfl) ?_
      refine Lkn (t := 19) (b0 := true) rfl rfl (fun h11 => ?_)
      refine L0 (wanted_none rfl) rfl (y_move (v := Value.bool _) rfl rfl) ?_
      refine L0 (wanted_yesB rfl rfl rfl h11) rfl (y_move (v := Value.int _ _) rfl rfl) ?_
      refine L0 (wanted_yesB rfl rfl rfl h11) rfl (y_eq rfl rfl rfl) ?_
      refine L0 (wanted_yesB rfl rfl rfl h11) rfl (y_move (v := Value.bool _) rfl rfl) ?_
      refine Lsp (t := 23) rfl (fun h12 => ?_) (fun h12 => ?_)
      · have h12' := h12
        first | replace h12' := of_decide_eq_true h12' | replace h12' := bnT' h12' | skip
        refine Lno (wanted_noB rfl rfl rfl h12 (by decide)) rfl ?_
        refine Lno (wanted_noB rfl rfl rfl h12 (by decide)) rfl ?_
        refine Lno (wanted_noB rfl rfl rfl h12 (by decide)) rfl ?_
        refine Lno (wanted_noU rfl rfl rfl) rfl ?_
        refine Lno (wanted_noU rfl rfl rfl) rfl ?_
        refine Lno (wanted_noB rfl rfl rfl h12 (by decide)) rfl ?_
        refine Lno (wanted_noB rfl rfl rfl h12 (by decide)) rfl ?_
        refine L0 (wanted_yesB rfl rfl rfl h11) rfl (y_pickT rfl rfl h12 rfl) ?_
        refine L0 (wanted_none rfl) rfl (y_pickT rfl rfl h11 rfl) ?_
        refine Lnil ?_
        refine W_condT rfl rfl ?_
        refine W_seq ?_
        refine W_region ?_
        refine L0 (wanted_none rfl) rfl (y_assign (v := Value.bool _) rfl rfl) ?_
        refine Lnil ?_
        refine W_ret ?_
        refine fin1 (fn := Tryz.f11) rfl rfl ?_
        first
        | (obtain rfl : i = s.length := by omega
           exact ⟨⟨_, rfl, by rw [decide_eq_true_iff, nameP_iff]; exact ⟨fun h => ⟨by omega, by omega, hn⟩, fun h => ⟨by omega, by omega⟩⟩⟩, hs3⟩)
        | (refine ⟨⟨false, rfl, iff_of_false (by decide) (fun hN => ?_)⟩, hs3⟩
           have h7 := ((nameP_iff s).1 hN).2.2 i (by omega)
           rw [low_iff, dig_iff] at h7
           simp only [Int.toNat_natCast] at *
           omega)
      · have h12' := h12
        first | replace h12' := of_decide_eq_false h12' | replace h12' := bnF' h12' | skip
        refine L0 (wanted_yesB rfl rfl rfl h12) rfl (y_move (v := Value.int _ _) rfl rfl) ?_
        refine L0 (wanted_yesB rfl rfl rfl h12) rfl (y_ge rfl rfl rfl) ?_
        refine L0 (wanted_yesB rfl rfl rfl h12) rfl (y_move (v := Value.bool _) rfl rfl) ?_
        refine Lsp (t := 26) rfl (fun h13 => ?_) (fun h13 => ?_)
        · have h13' := h13
          first | replace h13' := of_decide_eq_true h13' | replace h13' := bnT' h13' | skip
          refine L0 (wanted_yesB rfl rfl rfl h13) rfl (y_move (v := Value.int _ _) rfl rfl) ?_
          refine L0 (wanted_yesB rfl rfl rfl h13) rfl (y_le rfl rfl rfl) ?_
          refine L0 (wanted_yesB rfl rfl rfl h12) rfl (y_pickT rfl rfl h13 rfl) ?_
          refine L0 (wanted_yesB rfl rfl rfl h12) rfl (y_not rfl rfl) ?_
          refine L0 (wanted_yesB rfl rfl rfl h11) rfl (y_pickF rfl rfl h12 rfl) ?_
          refine L0 (wanted_none rfl) rfl (y_pickT rfl rfl h11 rfl) ?_
          refine Lnil ?_
          refine Wsp (t := 32) rfl (fun h14 => ?_) (fun h14 => ?_)
          · have h14' := h14
            first | replace h14' := of_decide_eq_true h14' | replace h14' := bnT' h14' | skip
            refine W_condT rfl h14 ?_
            refine W_seq ?_
            refine W_region ?_
            refine L0 (wanted_none rfl) rfl (y_assign (v := Value.bool _) rfl rfl) ?_
            refine Lnil ?_
            refine W_ret ?_
            refine fin1 (fn := Tryz.f11) rfl rfl ?_
            first
            | (obtain rfl : i = s.length := by omega
               exact ⟨⟨_, rfl, by rw [decide_eq_true_iff, nameP_iff]; exact ⟨fun h => ⟨by omega, by omega, hn⟩, fun h => ⟨by omega, by omega⟩⟩⟩, hs3⟩)
            | (refine ⟨⟨false, rfl, iff_of_false (by decide) (fun hN => ?_)⟩, hs3⟩
               have h7 := ((nameP_iff s).1 hN).2.2 i (by omega)
               rw [low_iff, dig_iff] at h7
               simp only [Int.toNat_natCast] at *
               omega)
          · have h14' := h14
            first | replace h14' := of_decide_eq_false h14' | replace h14' := bnF' h14' | skip
            refine W_condF rfl h14 ?_
            refine W_skip ?_
            refine W_region ?_
            refine L0 (wanted_none rfl) rfl (y_add64 rfl rfl rfl (by omega)) ?_
            refine L0 (wanted_none rfl) rfl (y_move (v := Value.int _ _) rfl rfl) ?_
            refine Lnil ?_
            exact ⟨i + 1, by first | omega | (dsimp only; done) | (dsimp only; omega), _, A_c (iv_eq (by first | omega | (dsimp only; done) | (dsimp only; omega))) (A_c rfl (A_c rfl (rfl))), by omega, hn.succ (by simp only [Int.toNat_natCast] at *; rw [low_iff, dig_iff]; omega), hs3⟩
        · have h13' := h13
          first | replace h13' := of_decide_eq_false h13' | replace h13' := bnF' h13' | skip
          refine Lno (wanted_noB rfl rfl rfl h13 (by decide)) rfl ?_
          refine Lno (wanted_noB rfl rfl rfl h13 (by decide)) rfl ?_
          refine L0 (wanted_yesB rfl rfl rfl h12) rfl (y_pickF rfl rfl h13 rfl) ?_
          refine L0 (wanted_yesB rfl rfl rfl h12) rfl (y_not rfl rfl) ?_
          refine Lkn (t := 30) (b0 := true) rfl rfl (fun h15 => ?_)
          refine L0 (wanted_yesB rfl rfl rfl h11) rfl (y_pickF rfl rfl h12 rfl) ?_
          refine L0 (wanted_none rfl) rfl (y_pickT rfl rfl h11 rfl) ?_
          refine Lnil ?_
          refine W_condT rfl h15 ?_
          refine W_seq ?_
          refine W_region ?_
          refine L0 (wanted_none rfl) rfl (y_assign (v := Value.bool _) rfl rfl) ?_
          refine Lnil ?_
          refine W_ret ?_
          refine fin1 (fn := Tryz.f11) rfl rfl ?_
          first
          | (obtain rfl : i = s.length := by omega
             exact ⟨⟨_, rfl, by rw [decide_eq_true_iff, nameP_iff]; exact ⟨fun h => ⟨by omega, by omega, hn⟩, fun h => ⟨by omega, by omega⟩⟩⟩, hs3⟩)
          | (refine ⟨⟨false, rfl, iff_of_false (by decide) (fun hN => ?_)⟩, hs3⟩
             have h7 := ((nameP_iff s).1 hN).2.2 i (by omega)
             rw [low_iff, dig_iff] at h7
             simp only [Int.toNat_natCast] at *
             omega)
  · have h4' := h4
    first | replace h4' := of_decide_eq_false h4' | replace h4' := bnF' h4' | skip
    refine W_condF rfl h4 ?_
    refine W_exit ?_
    refine W_seq ?_
    refine W_region ?_
    refine L0 (wanted_none rfl) rfl (y_move (v := Value.string ⟨⟨_⟩⟩) rfl rfl) ?_
    refine L0 (wanted_none rfl) rfl (y_len rfl Tryz.underlying9 rfl) ?_
    refine Lc (wanted_none rfl) (c_call rfl rfl rfl Tryz.func24 (by kernel_rfl) rfl (rin_any (s.length : Int) 1 10 w2) rfl ?_)
    rintro _ w16 ⟨rfl, hc17⟩
    have hs18 := hs3.call0 hc17
    refine L0 (wanted_none rfl) rfl (y_assign (v := Value.bool _) rfl rfl) ?_
    refine Lnil ?_
    refine W_ret ?_
    refine fin1 (fn := Tryz.f11) rfl rfl ?_
    first
    | (obtain rfl : i = s.length := by omega
       exact ⟨⟨_, rfl, by rw [decide_eq_true_iff, nameP_iff]; exact ⟨fun h => ⟨by omega, by omega, hn⟩, fun h => ⟨by omega, by omega⟩⟩⟩, hs18⟩)
    | (refine ⟨⟨false, rfl, iff_of_false (by decide) (fun hN => ?_)⟩, hs18⟩
       have h7 := ((nameP_iff s).1 hN).2.2 i (by omega)
       rw [low_iff, dig_iff] at h7
       simp only [Int.toNat_natCast] at *
       omega)
/-- Few, and short enough to be counted. -/
structure FewL (l : List Fl) : Prop where
  len : l.length ≤ 1000
  nm : ∀ f ∈ l, f.nm.length ≤ 1000
  cs : ∀ f ∈ l, f.cs.length ≤ 1000
theorem Ok1.le {l : List Fl} {i : Nat} (h : Ok1 l i) : (l.getD i default).cs.length ≤ 25 := by
  have h1 := h.need
  have h2 := h.size
  rw [needI] at h1; omega
theorem allCells_le {l : List Fl} : ∀ {i : Nat}, i ≤ l.length → (∀ j, j < i → Ok1 l j) → (allCells (l.take i)).length ≤ 25 * i
  | 0, _, _ => by simp [allCells]
  | i + 1, hi, h => by
    have h1 := allCells_le (l := l) (i := i) (by omega) (fun j hj => h j (by omega))
    have h2 := (h i (by omega)).le
    rw [allCells_take (by omega), List.length_append]; omega
theorem ok1_succ {l : List Fl} {i : Nat} (h : ∀ j, j < i → Ok1 l j) (o : Ok1 l i) : ∀ j, j < i + 1 → Ok1 l j := fun j hj => by
  rcases Nat.lt_or_ge j i with h1 | h1
  · exact h j h1
  · obtain rfl : j = i := by omega
    exact o
theorem rright_any (l : List Fl) (v0 : Value) (vc : Nat → Value) (hL : FewL l) (w : World) (hF : FlsAt w v0 l vc) : C Tryz.prog 9 ⟨[v0]⟩ w fun v w' => (∃ bo, v = .bool bo ∧ (bo = true ↔ RightP l)) ∧ St w [] w' := by
  have hlen := hL.len
  refine C_enter (n := 76) Tryz.func9 rfl rfl rfl (fun w1 hs1 => ?_)
  refine W_seq ?_
  refine W_region ?_
  refine L0 (wanted_none rfl) rfl (y_assign (v := Value.bool _) rfl rfl) ?_
  refine Lnil ?_
  refine W_seq ?_
  refine W_region ?_
  refine Lc (wanted_none rfl) (c_makeMap hs1 rfl rfl (fun b2 w3 hbb2 hs4 => ?_))
  refine L0 (wanted_none rfl) rfl (y_assign (v := Value.map _) rfl rfl) ?_
  refine Lnil ?_
  refine W_seq ?_
  refine W_region ?_
  refine L0 (wanted_none rfl) rfl (y_assign (v := Value.int _ _) rfl rfl) ?_
  refine Lnil ?_
  refine W_seq ?_
  refine W_seq ?_
  refine W_region ?_
  refine L0 (wanted_none rfl) rfl (y_move (v := v0) rfl rfl) ?_
  refine L0 (wanted_none rfl) rfl (y_slenOps (v := v0) rfl Tryz.underlying22 rfl hF.shape) ?_
  refine L0 (wanted_none rfl) rfl (y_move (v := Value.int _ _) rfl rfl) ?_
  refine Lnil ?_
  refine W_block ?_
  refine W_loop (G := Nat × Array MapEntry × Nat) (fun g aL wl => ∃ e, aL = A 76 ((12, iv g.1) :: (11, iv l.length) :: (10, v0) :: (0, v0) :: (3, .map (some b2)) :: (4, iv (allCells (l.take g.1)).length) :: e) ∧ g.1 ≤ l.length ∧ (∀ j, j < g.1 → Ok1 l j) ∧ SeenL g.2.1 (allCells (l.take g.1)) ∧ St w [(b2, .map g.2.1 g.2.2)] wl) (fun g => l.length - g.1) ((0, #[], 0)) ?_ ?_
  · exact ⟨_, A_pins _ _ [12, 11, 10, 0, 3, 4], Nat.zero_le _, (fun j hj => absurd hj (Nat.not_lt_zero _)), SeenL.nil, hs4⟩
  rintro g _ w5 ⟨ehs6, rfl, hi, hR, hS, hs6⟩
  obtain ⟨i, es, c⟩ := g
  dsimp only at *
  refine W_seq ?_
  refine W_region ?_
  refine L0 (wanted_none rfl) rfl (y_lt rfl rfl rfl) ?_
  refine Lnil ?_
  refine W_seq ?_
  refine Wsp (t := 13) rfl (fun h7 => ?_) (fun h7 => ?_)
  · have h7' := h7
    first | replace h7' := of_decide_eq_true h7' | replace h7' := bnT' h7' | skip
    refine W_condT rfl h7 ?_
    refine W_skip ?_
    refine W_seq ?_
    refine W_block ?_
    refine W_seq ?_
    have hOc := hF.cell i (by omega)
    have hKe := hF.cells i (by omega)
    have hOb := hF.lt (by omega)
    obtain ⟨f, hf⟩ : ∃ f, f = l.getD i default := ⟨_, rfl⟩
    obtain ⟨vi, hvi⟩ : ∃ vi, vi = vc i := ⟨_, rfl⟩
    rw [← hf, ← hvi] at hOc hKe
    have hOc : ∀ q u, (flCells f vi)[q]? = some u → w.cell? ⟨adB v0, adO v0 + (i : Int).toNat * 3 + q, none⟩ = some u := hOc
    have hfm : f ∈ l := by rw [hf]; exact getDFl_mem (by omega)
    have hal := allCells_le (by omega) hR
    refine W_region ?_
    refine L0 (wanted_none rfl) rfl (y_move (v := Value.int _ _) rfl rfl) ?_
    refine L0 (wanted_none rfl) rfl (y_indexOps (v := v0) rfl Tryz.underlying22 sz44 rfl rfl hF.shape (by omega) (by omega)) ?_
    refine L1 (wanted_none rfl) rfl hs6 ((y_loadNOld (vs := flCells f vi) rfl Tryz.underlying44 rfl sz44 rfl hOc rfl (by decide) (old_notin hOb (fr1 hbb2)))) ?_
    refine Lc (wanted_none rfl) (c_alloc hs6 rfl rfl zr44 (fun b8 w9 hbb8 hs10 => ?_))
    refine L0 (wanted_none rfl) rfl (y_assign (v := Value.int _ _) rfl rfl) ?_
    refine Lc (wanted_none rfl) (c_storeN (i := 0) hs10 rfl rfl rfl rfl sz44 (by rfl) (by intro u hu; simp only [flCells, List.mem_cons, List.not_mem_nil, or_false] at hu; rcases hu with rfl | rfl | rfl <;> first | rfl | exact hKe.oneE) rfl (by decide) (Fz.zero _) (fun w11 hs12 => ?_))
    have hs12 := hs12.at0E (c' := ⟨flCells f vi⟩) rfl
    refine Lnil ?_
    refine W_seq ?_
    refine W_seq ?_
    have hPc : 0 < i → w.cell? ⟨adB v0, adO v0 + ((i : Int) - 1).toNat * 3 + 0, none⟩ = some (str (l.getD (i - 1) default).nm) := fun h0 => by have e := hF.cell (i - 1) (by omega) 0 _ rfl; rwa [show ((i : Int) - 1).toNat = i - 1 from by omega]
    refine W_drawSt [(0, 0), (1, 1), (3, 2), (0, 3), (0, 4), (0, 5), (0, 6), (0, 7), (0, 8), (0, 10), (0, 11), (1, 9), (0, 12), (0, 13), (0, 14), (1, 15), (0, 16), (0, 17), (0, 18), (0, 19), (0, 20), (1, 21), (3, 22), (0, 23), (0, 24), (0, 25), (0, 26), (0, 29), (1, 27), (1, 30), (0, 28), (3, 31), (0, 32), (0, 33)] hs12 mixed (by kernel_rfl) (fun w13 hs14 => ?_)
    refine E0 (wanted_none rfl) rfl (y_fieldAddr rfl Tryz.underlying44 rfl sz9 rfl) ?_
    refine E1 hs14 (wanted_none rfl) rfl (y_load 0 rfl Tryz.underlying9 rfl rfl rfl rfl) ?_
    refine E3 (wanted_none rfl) (c_call rfl rfl rfl Tryz.func11 (by kernel_rfl) rfl (rname_any f.nm (by have := hL.nm f hfm; omega) w13) rfl ?_)
    rintro vf w15 ⟨⟨bn, rfl, hbn⟩, hc16⟩
    have hs17 := hs14.call0 hc16
    refine ⟨fun _ => hs17, ?_⟩
    refine E0 (wanted_none rfl) rfl (y_not rfl rfl) ?_
    refine E0 (wanted_none rfl) rfl (y_move (v := Value.bool _) rfl rfl) ?_
    refine Esp (t := 21) rfl (fun h18 => ?_) (fun h18 => ?_)
    · have h18' := h18
      first | replace h18' := of_decide_eq_true h18' | replace h18' := bnT' h18' | skip
      refine Eno (wanted_noB rfl rfl rfl h18 (by decide)) rfl ?_
      refine Eno (wanted_noB rfl rfl rfl h18 (by decide)) rfl ?_
      refine Eno (wanted_noB rfl rfl rfl h18 (by decide)) rfl ?_
      refine Eno (wanted_noU rfl rfl rfl) rfl ?_
      refine Eno (wanted_noU rfl rfl rfl) rfl ?_
      refine Eno (wanted_noU rfl rfl rfl) rfl ?_
      refine E1no hs17 (wanted_noU rfl rfl rfl) rfl ?_
      refine Eno (wanted_noU rfl rfl rfl) rfl ?_
      refine Eno (wanted_noU rfl rfl rfl) rfl ?_
      refine Eno (wanted_noU rfl rfl rfl) rfl ?_
      refine E1no hs17 (wanted_noU rfl rfl rfl) rfl ?_
      refine Eno (wanted_noU rfl rfl rfl) rfl ?_
      refine Eno (wanted_noB rfl rfl rfl h18 (by decide)) rfl ?_
      refine E0 (wanted_none rfl) rfl (y_pickT rfl rfl h18 rfl) ?_
      refine E0 (wanted_none rfl) rfl (y_move (v := Value.bool _) rfl rfl) ?_
      refine Eno (wanted_noB rfl rfl rfl rfl (by decide)) rfl ?_
      refine E1no hs17 (wanted_noB rfl rfl rfl rfl (by decide)) rfl ?_
      refine E3no (wanted_noB rfl rfl rfl rfl (by decide)) rfl ?_
      refine Eno (wanted_noB rfl rfl rfl rfl (by decide)) rfl ?_
      refine E0 (wanted_none rfl) rfl (y_pickT rfl rfl (rfl : true = true) rfl) ?_
      refine E0 (wanted_none rfl) rfl (y_move (v := Value.bool _) rfl rfl) ?_
      refine Eno (wanted_noB rfl rfl rfl rfl (by decide)) rfl ?_
      refine Eno (wanted_noB rfl rfl rfl rfl (by decide)) rfl ?_
      refine E1no hs17 (wanted_noB rfl rfl rfl rfl (by decide)) rfl ?_
      refine E1no hs17 (wanted_noB rfl rfl rfl rfl (by decide)) rfl ?_
      refine Eno (wanted_noB rfl rfl rfl rfl (by decide)) rfl ?_
      refine E3no (wanted_noB rfl rfl rfl rfl (by decide)) rfl ?_
      refine Eno (wanted_noB rfl rfl rfl rfl (by decide)) rfl ?_
      refine E0 (wanted_none rfl) rfl (y_pickT rfl rfl (rfl : true = true) rfl) ?_
      refine Enil ?_
      refine W_condT rfl rfl ?_
      refine W_seq ?_
      refine W_region ?_
      refine L0 (wanted_none rfl) rfl (y_assign (v := Value.bool _) rfl rfl) ?_
      refine Lnil ?_
      refine W_ret ?_
      refine fin1 (fn := Tryz.f9) rfl rfl ?_
      first
      | (obtain rfl : i = l.length := by omega
         have hS7 := hS
         have e7 : (allCells (l.take l.length)).length = (allCells l).length := by rw [List.take_length]
         rw [List.take_length] at hS7
         first
         | exact ⟨⟨_, rfl, by rw [decide_eq_true_iff]; exact ⟨fun h => right_of hR (by omega) (hS7.eq.1 (by omega)), fun h => by have := h.few; omega⟩⟩, hs17.drop (.inl hbb2)⟩
         | exact ⟨⟨false, rfl, iff_of_false (by decide) (fun h => by have h7 := hS7.eq.2 h.once; omega)⟩, hs17.drop (.inl hbb2)⟩)
      | exact ⟨⟨false, rfl, iff_of_false (by decide) (fun hRR => by
          have hN := hRR.ok1 (i := i) (by omega)
          have g1 := hN.name; have g2 := hN.rise; have g3 := hN.size; have g4 := hN.need; have g5 := hN.range
          rw [← hf] at g1 g2 g3 g4 g5
          first | omega | exact absurd (hbn.2 g1) (by simpa using ‹(!bn) = true›) | exact absurd (g2 (by omega)) (by simpa using ‹(!Op.bytesLess (l.getD (i - 1) default).nm f.nm) = true›) | (have g8 := g5 (f.cs.getD k 0) (getD_mem (by omega)); first | omega | (simp at *; omega)) | (simp at *; omega))⟩, hs17.drops (fun x hx => .inl (fr2 hbb8 hbb2 x hx))⟩
    · have h18' := h18
      first | replace h18' := of_decide_eq_false h18' | replace h18' := bnF' h18' | skip
      refine E0 (wanted_yesB rfl rfl rfl h18) rfl (y_move (v := Value.int _ _) rfl rfl) ?_
      refine E0 (wanted_yesB rfl rfl rfl h18) rfl (y_gt rfl rfl rfl) ?_
      refine E0 (wanted_yesB rfl rfl rfl h18) rfl (y_move (v := Value.bool _) rfl rfl) ?_
      refine Esp (t := 24) rfl (fun h19 => ?_) (fun h19 => ?_)
      · have h19' := h19
        first | replace h19' := of_decide_eq_true h19' | replace h19' := bnT' h19' | skip
        refine E0 (wanted_yesB rfl rfl rfl h19) rfl (y_fieldAddr rfl Tryz.underlying44 rfl sz9 rfl) ?_
        refine E0 (wanted_yesB rfl rfl rfl h19) rfl (y_move (v := v0) rfl rfl) ?_
        refine E0 (wanted_yesB rfl rfl rfl h19) rfl (y_move (v := Value.int _ _) rfl rfl) ?_
        refine E1 hs17 (wanted_yesB rfl rfl rfl h19) rfl (y_load 0 rfl Tryz.underlying9 rfl rfl rfl rfl) ?_
        refine E0 (wanted_yesB rfl rfl rfl h19) rfl (y_sub64 rfl rfl rfl (by omega)) ?_
        refine E0 (wanted_yesB rfl rfl rfl h19) rfl (y_indexOps (v := v0) rfl Tryz.underlying22 sz44 rfl rfl hF.shape (by omega) (by omega)) ?_
        refine E0 (wanted_yesB rfl rfl rfl h19) rfl (y_fieldAddr rfl Tryz.underlying44 rfl sz9 rfl) ?_
        refine E1 hs17 (wanted_yesB rfl rfl rfl h19) rfl ((y_loadOld rfl Tryz.underlying9 rfl rfl (hPc (by omega)) (old_notin hOb (fr2 hbb8 hbb2)))) ?_
        refine E0 (wanted_yesB rfl rfl rfl h19) rfl (y_sle rfl rfl rfl) ?_
        refine E0 (wanted_yesB rfl rfl rfl h18) rfl (y_pickT rfl rfl h19 rfl) ?_
        refine E0 (wanted_none rfl) rfl (y_pickF rfl rfl h18 rfl) ?_
        refine E0 (wanted_none rfl) rfl (y_move (v := Value.bool _) rfl rfl) ?_
        refine Esp (t := 36) rfl (fun h20 => ?_) (fun h20 => ?_)
        · have h20' := h20
          first | replace h20' := of_decide_eq_true h20' | replace h20' := bnT' h20' | skip
          refine Eno (wanted_noB rfl rfl rfl h20 (by decide)) rfl ?_
          refine E1no hs17 (wanted_noB rfl rfl rfl h20 (by decide)) rfl ?_
          refine E3no (wanted_noB rfl rfl rfl h20 (by decide)) rfl ?_
          refine Eno (wanted_noB rfl rfl rfl h20 (by decide)) rfl ?_
          refine E0 (wanted_none rfl) rfl (y_pickT rfl rfl h20 rfl) ?_
          refine E0 (wanted_none rfl) rfl (y_move (v := Value.bool _) rfl rfl) ?_
          refine Eno (wanted_noB rfl rfl rfl rfl (by decide)) rfl ?_
          refine Eno (wanted_noB rfl rfl rfl rfl (by decide)) rfl ?_
          refine E1no hs17 (wanted_noB rfl rfl rfl rfl (by decide)) rfl ?_
          refine E1no hs17 (wanted_noB rfl rfl rfl rfl (by decide)) rfl ?_
          refine Eno (wanted_noB rfl rfl rfl rfl (by decide)) rfl ?_
          refine E3no (wanted_noB rfl rfl rfl rfl (by decide)) rfl ?_
          refine Eno (wanted_noB rfl rfl rfl rfl (by decide)) rfl ?_
          refine E0 (wanted_none rfl) rfl (y_pickT rfl rfl (rfl : true = true) rfl) ?_
          refine Enil ?_
          refine W_condT rfl rfl ?_
          refine W_seq ?_
          refine W_region ?_
          refine L0 (wanted_none rfl) rfl (y_assign (v := Value.bool _) rfl rfl) ?_
          refine Lnil ?_
          refine W_ret ?_
          refine fin1 (fn := Tryz.f9) rfl rfl ?_
          first
          | (obtain rfl : i = l.length := by omega
             have hS7 := hS
             have e7 : (allCells (l.take l.length)).length = (allCells l).length := by rw [List.take_length]
             rw [List.take_length] at hS7
             first
             | exact ⟨⟨_, rfl, by rw [decide_eq_true_iff]; exact ⟨fun h => right_of hR (by omega) (hS7.eq.1 (by omega)), fun h => by have := h.few; omega⟩⟩, hs17.drop (.inl hbb2)⟩
             | exact ⟨⟨false, rfl, iff_of_false (by decide) (fun h => by have h7 := hS7.eq.2 h.once; omega)⟩, hs17.drop (.inl hbb2)⟩)
          | exact ⟨⟨false, rfl, iff_of_false (by decide) (fun hRR => by
              have hN := hRR.ok1 (i := i) (by omega)
              have g1 := hN.name; have g2 := hN.rise; have g3 := hN.size; have g4 := hN.need; have g5 := hN.range
              rw [← hf] at g1 g2 g3 g4 g5
              first | omega | exact absurd (hbn.2 g1) (by simpa using ‹(!bn) = true›) | exact absurd (g2 (by omega)) (by simpa using ‹(!Op.bytesLess (l.getD (i - 1) default).nm f.nm) = true›) | (have g8 := g5 (f.cs.getD k 0) (getD_mem (by omega)); first | omega | (simp at *; omega)) | (simp at *; omega))⟩, hs17.drops (fun x hx => .inl (fr2 hbb8 hbb2 x hx))⟩
        · have h20' := h20
          first | replace h20' := of_decide_eq_false h20' | replace h20' := bnF' h20' | skip
          refine E0 (wanted_yesB rfl rfl rfl h20) rfl (y_fieldAddr rfl Tryz.underlying44 rfl sz3 rfl) ?_
          refine E1 hs17 (wanted_yesB rfl rfl rfl h20) rfl (y_load 0 rfl Tryz.underlying3 rfl rfl rfl rfl) ?_
          refine E3 (wanted_yesB rfl rfl rfl h20) (c_call rfl rfl rfl Tryz.func24 (by kernel_rfl) rfl (rin_any f.sz 0 1920 w15) rfl ?_)
          rintro _ w21 ⟨rfl, hc22⟩
          have hs23 := hs17.call0 hc22
          refine ⟨fun _ => hs23, ?_⟩
          refine E0 (wanted_yesB rfl rfl rfl h20) rfl (y_not rfl rfl) ?_
          refine E0 (wanted_none rfl) rfl (y_pickF rfl rfl h20 rfl) ?_
          refine E0 (wanted_none rfl) rfl (y_move (v := Value.bool _) rfl rfl) ?_
          refine Esp (t := 42) rfl (fun h24 => ?_) (fun h24 => ?_)
          · have h24' := h24
            first | replace h24' := of_decide_eq_true h24' | replace h24' := bnT' h24' | skip
            refine Eno (wanted_noB rfl rfl rfl h24 (by decide)) rfl ?_
            refine Eno (wanted_noB rfl rfl rfl h24 (by decide)) rfl ?_
            refine E1no hs23 (wanted_noB rfl rfl rfl h24 (by decide)) rfl ?_
            refine E1no hs23 (wanted_noB rfl rfl rfl h24 (by decide)) rfl ?_
            refine Eno (wanted_noB rfl rfl rfl h24 (by decide)) rfl ?_
            refine E3no (wanted_noB rfl rfl rfl h24 (by decide)) rfl ?_
            refine Eno (wanted_noB rfl rfl rfl h24 (by decide)) rfl ?_
            refine E0 (wanted_none rfl) rfl (y_pickT rfl rfl h24 rfl) ?_
            refine Enil ?_
            refine W_condT rfl rfl ?_
            refine W_seq ?_
            refine W_region ?_
            refine L0 (wanted_none rfl) rfl (y_assign (v := Value.bool _) rfl rfl) ?_
            refine Lnil ?_
            refine W_ret ?_
            refine fin1 (fn := Tryz.f9) rfl rfl ?_
            first
            | (obtain rfl : i = l.length := by omega
               have hS7 := hS
               have e7 : (allCells (l.take l.length)).length = (allCells l).length := by rw [List.take_length]
               rw [List.take_length] at hS7
               first
               | exact ⟨⟨_, rfl, by rw [decide_eq_true_iff]; exact ⟨fun h => right_of hR (by omega) (hS7.eq.1 (by omega)), fun h => by have := h.few; omega⟩⟩, hs23.drop (.inl hbb2)⟩
               | exact ⟨⟨false, rfl, iff_of_false (by decide) (fun h => by have h7 := hS7.eq.2 h.once; omega)⟩, hs23.drop (.inl hbb2)⟩)
            | exact ⟨⟨false, rfl, iff_of_false (by decide) (fun hRR => by
                have hN := hRR.ok1 (i := i) (by omega)
                have g1 := hN.name; have g2 := hN.rise; have g3 := hN.size; have g4 := hN.need; have g5 := hN.range
                rw [← hf] at g1 g2 g3 g4 g5
                first | omega | exact absurd (hbn.2 g1) (by simpa using ‹(!bn) = true›) | exact absurd (g2 (by omega)) (by simpa using ‹(!Op.bytesLess (l.getD (i - 1) default).nm f.nm) = true›) | (have g8 := g5 (f.cs.getD k 0) (getD_mem (by omega)); first | omega | (simp at *; omega)) | (simp at *; omega))⟩, hs23.drops (fun x hx => .inl (fr2 hbb8 hbb2 x hx))⟩
          · have h24' := h24
            first | replace h24' := of_decide_eq_false h24' | replace h24' := bnF' h24' | skip
            refine E0 (wanted_yesB rfl rfl rfl h24) rfl (y_fieldAddr rfl Tryz.underlying44 rfl sz35 rfl) ?_
            refine E0 (wanted_yesB rfl rfl rfl h24) rfl (y_fieldAddr rfl Tryz.underlying44 rfl sz3 rfl) ?_
            refine E1 hs23 (wanted_yesB rfl rfl rfl h24) rfl ((y_load 0 rfl Tryz.underlying35 rfl rfl rfl (v := vi) rfl)) ?_
            refine E1 hs23 (wanted_yesB rfl rfl rfl h24) rfl (y_load 0 rfl Tryz.underlying3 rfl rfl rfl rfl) ?_
            refine E0 (wanted_yesB rfl rfl rfl h24) rfl (y_slenSl rfl Tryz.underlying35 rfl hKe) ?_
            refine E3 (wanted_yesB rfl rfl rfl h24) (c_call rfl rfl rfl Tryz.func13 (by kernel_rfl) rfl (rneed_any f.sz (by omega) (by omega) w21) rfl ?_)
            rintro _ w25 ⟨rfl, hc26⟩
            have hs27 := hs23.call0 hc26
            refine ⟨fun _ => hs27, ?_⟩
            refine E0 (wanted_yesB rfl rfl rfl h24) rfl (y_ne rfl rfl rfl) ?_
            refine E0 (wanted_none rfl) rfl (y_pickF rfl rfl h24 rfl) ?_
            refine Enil ?_
            refine Wsp (t := 50) rfl (fun h28 => ?_) (fun h28 => ?_)
            · have h28' := h28
              first | replace h28' := of_decide_eq_true h28' | replace h28' := bnT' h28' | skip
              refine W_condT rfl h28 ?_
              refine W_seq ?_
              refine W_region ?_
              refine L0 (wanted_none rfl) rfl (y_assign (v := Value.bool _) rfl rfl) ?_
              refine Lnil ?_
              refine W_ret ?_
              refine fin1 (fn := Tryz.f9) rfl rfl ?_
              first
              | (obtain rfl : i = l.length := by omega
                 have hS7 := hS
                 have e7 : (allCells (l.take l.length)).length = (allCells l).length := by rw [List.take_length]
                 rw [List.take_length] at hS7
                 first
                 | exact ⟨⟨_, rfl, by rw [decide_eq_true_iff]; exact ⟨fun h => right_of hR (by omega) (hS7.eq.1 (by omega)), fun h => by have := h.few; omega⟩⟩, hs27.drop (.inl hbb2)⟩
                 | exact ⟨⟨false, rfl, iff_of_false (by decide) (fun h => by have h7 := hS7.eq.2 h.once; omega)⟩, hs27.drop (.inl hbb2)⟩)
              | exact ⟨⟨false, rfl, iff_of_false (by decide) (fun hRR => by
                  have hN := hRR.ok1 (i := i) (by omega)
                  have g1 := hN.name; have g2 := hN.rise; have g3 := hN.size; have g4 := hN.need; have g5 := hN.range
                  rw [← hf] at g1 g2 g3 g4 g5
                  first | omega | exact absurd (hbn.2 g1) (by simpa using ‹(!bn) = true›) | exact absurd (g2 (by omega)) (by simpa using ‹(!Op.bytesLess (l.getD (i - 1) default).nm f.nm) = true›) | (have g8 := g5 (f.cs.getD k 0) (getD_mem (by omega)); first | omega | (simp at *; omega)) | (simp at *; omega))⟩, hs27.drops (fun x hx => .inl (fr2 hbb8 hbb2 x hx))⟩
            · have h28' := h28
              first | replace h28' := of_decide_eq_false h28' | replace h28' := bnF' h28' | skip
              refine W_condF rfl h28 ?_
              refine W_skip ?_
              refine W_seq ?_
              have hnl := hL.cs f hfm
              refine W_region ?_
              refine L0 (wanted_none rfl) rfl (y_fieldAddr rfl Tryz.underlying44 rfl sz35 rfl) ?_
              refine L1 (wanted_none rfl) rfl hs27 ((y_load 0 rfl Tryz.underlying35 rfl rfl rfl (v := vi) rfl)) ?_
              refine L0 (wanted_none rfl) rfl (y_slenSl rfl Tryz.underlying35 rfl hKe) ?_
              refine L0 (wanted_none rfl) rfl (y_move (v := Value.int _ _) rfl rfl) ?_
              refine Lnil ?_
              refine W_block ?_
              refine W_loop (G := Nat × Array MapEntry × Nat) (fun g aL wl => ∃ e, aL = A 76 ((54, iv g.1) :: (53, iv f.cs.length) :: (52, vi) :: (12, iv i) :: (11, iv l.length) :: (10, v0) :: (0, v0) :: (3, .map (some b2)) :: (4, iv ((allCells (l.take i)).length + g.1 : Nat)) :: e) ∧ g.1 ≤ f.cs.length ∧ (∀ x ∈ f.cs.take g.1, 3 ≤ x ∧ x < 24) ∧ SeenL g.2.1 (allCells (l.take i) ++ f.cs.take g.1) ∧ St w [(b8, .cells ⟨flCells f vi⟩ 44 (0, 0)), (b2, .map g.2.1 g.2.2)] wl) (fun g => f.cs.length - g.1) ((0, es, c)) ?_ ?_
              · exact ⟨_, A_pins _ _ [54, 53, 52, 12, 11, 10, 0, 3, 4], Nat.zero_le _, (by simp), (by simpa using hS), hs27⟩
              rintro g _ w29 ⟨ehs30, rfl, hk, hrg, hS2, hs30⟩
              obtain ⟨k, es2, c2⟩ := g
              dsimp only at *
              refine W_seq ?_
              refine W_region ?_
              refine L0 (wanted_none rfl) rfl (y_lt rfl rfl rfl) ?_
              refine Lnil ?_
              refine W_seq ?_
              refine Wsp (t := 55) rfl (fun h31 => ?_) (fun h31 => ?_)
              · have h31' := h31
                first | replace h31' := of_decide_eq_true h31' | replace h31' := bnT' h31' | skip
                refine W_condT rfl h31 ?_
                refine W_skip ?_
                refine W_seq ?_
                refine W_block ?_
                refine W_seq ?_
                refine W_region ?_
                refine L0 (wanted_none rfl) rfl (y_indexSlAt rfl Tryz.underlying35 sz3 rfl rfl hKe (by omega) (by omega)) ?_
                refine L1 (wanted_none rfl) rfl hs30 (y_loadSl k rfl Tryz.underlying3 rfl rfl hKe (by omega) (by omega) (fun x hx => (by obtain ⟨y, hy, rfl⟩ := List.mem_map.1 hx; exact fr2 hbb8 hbb2 y hy))) ?_
                refine L0 (wanted_none rfl) rfl (y_assign (v := Value.int _ _) rfl rfl) ?_
                refine Lnil ?_
                refine W_seq ?_
                refine W_seq ?_
                refine W_region ?_
                refine L0 (wanted_none rfl) rfl (y_move (v := Value.int _ _) rfl rfl) ?_
                refine Lc (wanted_none rfl) (c_call rfl rfl rfl Tryz.func24 (by kernel_rfl) rfl (rin_any (f.cs.getD k 0) 3 23 w29) rfl ?_)
                rintro _ w32 ⟨rfl, hc33⟩
                have hs34 := hs30.call0 hc33
                refine L0 (wanted_none rfl) rfl (y_not rfl rfl) ?_
                refine Lnil ?_
                refine Wsp (t := 60) rfl (fun h35 => ?_) (fun h35 => ?_)
                · have h35' := h35
                  first | replace h35' := of_decide_eq_true h35' | replace h35' := bnT' h35' | skip
                  refine W_condT rfl h35 ?_
                  refine W_seq ?_
                  refine W_region ?_
                  refine L0 (wanted_none rfl) rfl (y_assign (v := Value.bool _) rfl rfl) ?_
                  refine Lnil ?_
                  refine W_ret ?_
                  refine fin1 (fn := Tryz.f9) rfl rfl ?_
                  first
                  | (obtain rfl : i = l.length := by omega
                     have hS7 := hS
                     have e7 : (allCells (l.take l.length)).length = (allCells l).length := by rw [List.take_length]
                     rw [List.take_length] at hS7
                     first
                     | exact ⟨⟨_, rfl, by rw [decide_eq_true_iff]; exact ⟨fun h => right_of hR (by omega) (hS7.eq.1 (by omega)), fun h => by have := h.few; omega⟩⟩, hs34.drop (.inl hbb2)⟩
                     | exact ⟨⟨false, rfl, iff_of_false (by decide) (fun h => by have h7 := hS7.eq.2 h.once; omega)⟩, hs34.drop (.inl hbb2)⟩)
                  | exact ⟨⟨false, rfl, iff_of_false (by decide) (fun hRR => by
                      have hN := hRR.ok1 (i := i) (by omega)
                      have g1 := hN.name; have g2 := hN.rise; have g3 := hN.size; have g4 := hN.need; have g5 := hN.range
                      rw [← hf] at g1 g2 g3 g4 g5
                      first | omega | exact absurd (hbn.2 g1) (by simpa using ‹(!bn) = true›) | exact absurd (g2 (by omega)) (by simpa using ‹(!Op.bytesLess (l.getD (i - 1) default).nm f.nm) = true›) | (have g8 := g5 (f.cs.getD k 0) (getD_mem (by omega)); first | omega | (simp at *; omega)) | (simp at *; omega))⟩, hs34.drops (fun x hx => .inl (fr2 hbb8 hbb2 x hx))⟩
                · have h35' := h35
                  first | replace h35' := of_decide_eq_false h35' | replace h35' := bnF' h35' | skip
                  refine W_condF rfl h35 ?_
                  refine W_skip ?_
                  refine W_seq ?_
                  refine W_region ?_
                  refine L0 (wanted_none rfl) rfl (y_move (v := Value.map _) rfl rfl) ?_
                  refine L0 (wanted_none rfl) rfl (y_move (v := Value.int _ _) rfl rfl) ?_
                  refine Lc (wanted_none rfl) (c_mapSeen (i := 1) hS2 hs34 rfl rfl rfl rfl rfl Tryz.underlying50 Tryz.underlying3 rfl (fun es3 c3 w36 hS3 hs37 => ?_))
                  refine Lnil ?_
                  refine W_region ?_
                  refine L0 (wanted_none rfl) rfl (y_move (v := Value.int _ _) rfl rfl) ?_
                  refine L0 (wanted_none rfl) rfl (y_add64 rfl rfl rfl (by omega)) ?_
                  refine L0 (wanted_none rfl) rfl (y_assign (v := Value.int _ _) rfl rfl) ?_
                  refine Lnil ?_
                  refine W_region ?_
                  refine L0 (wanted_none rfl) rfl (y_add64 rfl rfl rfl (by omega)) ?_
                  refine L0 (wanted_none rfl) rfl (y_move (v := Value.int _ _) rfl rfl) ?_
                  refine Lnil ?_
                  exact ⟨(k + 1, es3, c3), by first | omega | (dsimp only; done) | (dsimp only; omega), _, A_c (iv_eq (by first | omega | (dsimp only; done) | (dsimp only; omega))) (A_c rfl (A_c rfl (A_c rfl (A_c rfl (A_c rfl (A_c rfl (A_c rfl (A_c (iv_eq (by first | omega | (dsimp only; done) | (dsimp only; omega))) (rfl))))))))), by omega, (by rw [take_snoc (by omega)]; intro x hx; rcases List.mem_append.1 hx with h7 | h7; exact hrg x h7; rw [List.mem_singleton] at h7; subst h7; omega), (by rw [take_snoc (by omega), ← List.append_assoc]; exact hS3), hs37⟩
              · have h31' := h31
                first | replace h31' := of_decide_eq_false h31' | replace h31' := bnF' h31' | skip
                refine W_condF rfl h31 ?_
                refine W_exit ?_
                refine W_region ?_
                refine L0 (wanted_none rfl) rfl (y_add64 rfl rfl rfl (by omega)) ?_
                refine L0 (wanted_none rfl) rfl (y_move (v := Value.int _ _) rfl rfl) ?_
                refine Lnil ?_
                have ek : f.cs.take k = f.cs := List.take_of_length_le (by omega)
                rw [ek] at hrg hS2
                have ekk : k = f.cs.length := by omega
                have hO : Ok1 l i := ⟨hf ▸ hbn.1 (by simpa using ‹(!bn) = false›), fun h0 => by first | (exfalso; omega) | (rw [← hf]; simpa using ‹(!Op.bytesLess (l.getD (i - 1) default).nm f.nm) = false›), by rw [← hf]; first | omega | (simp at *; omega), by rw [← hf]; first | omega | (simp at *; omega), by rw [← hf]; exact hrg⟩
                exact ⟨(i + 1, es2, c2), by first | omega | (dsimp only; done) | (dsimp only; omega), _, A_c (iv_eq (by first | omega | (dsimp only; done) | (dsimp only; omega))) (A_c rfl (A_c rfl (A_c rfl (A_c rfl (A_c (iv_eq (by rw [allCells_take (by omega), ← hf, List.length_append]; omega)) (rfl)))))), by omega, ok1_succ hR hO, (by rw [allCells_take (by omega), ← hf]; exact hS2), hs30.drop (.inl hbb8)⟩
      · have h19' := h19
        first | replace h19' := of_decide_eq_false h19' | replace h19' := bnF' h19' | skip
        refine Eno (wanted_noB rfl rfl rfl h19 (by decide)) rfl ?_
        refine Eno (wanted_noB rfl rfl rfl h19 (by decide)) rfl ?_
        refine Eno (wanted_noB rfl rfl rfl h19 (by decide)) rfl ?_
        refine E1no hs17 (wanted_noB rfl rfl rfl h19 (by decide)) rfl ?_
        refine Eno (wanted_noB rfl rfl rfl h19 (by decide)) rfl ?_
        refine Eno (wanted_noB rfl rfl rfl h19 (by decide)) rfl ?_
        refine Eno (wanted_noB rfl rfl rfl h19 (by decide)) rfl ?_
        refine E1no hs17 (wanted_noB rfl rfl rfl h19 (by decide)) rfl ?_
        refine Eno (wanted_noB rfl rfl rfl h19 (by decide)) rfl ?_
        refine E0 (wanted_yesB rfl rfl rfl h18) rfl (y_pickF rfl rfl h19 rfl) ?_
        refine E0 (wanted_none rfl) rfl (y_pickF rfl rfl h18 rfl) ?_
        refine E0 (wanted_none rfl) rfl (y_move (v := Value.bool _) rfl rfl) ?_
        refine E0 (wanted_yesB rfl rfl rfl rfl) rfl (y_fieldAddr rfl Tryz.underlying44 rfl sz3 rfl) ?_
        refine E1 hs17 (wanted_yesB rfl rfl rfl rfl) rfl (y_load 0 rfl Tryz.underlying3 rfl rfl rfl rfl) ?_
        refine E3 (wanted_yesB rfl rfl rfl rfl) (c_call rfl rfl rfl Tryz.func24 (by kernel_rfl) rfl (rin_any f.sz 0 1920 w15) rfl ?_)
        rintro _ w38 ⟨rfl, hc39⟩
        have hs40 := hs17.call0 hc39
        refine ⟨fun _ => hs40, ?_⟩
        refine E0 (wanted_yesB rfl rfl rfl rfl) rfl (y_not rfl rfl) ?_
        refine E0 (wanted_none rfl) rfl (y_pickF rfl rfl (rfl : false = false) rfl) ?_
        refine E0 (wanted_none rfl) rfl (y_move (v := Value.bool _) rfl rfl) ?_
        refine Esp (t := 42) rfl (fun h41 => ?_) (fun h41 => ?_)
        · have h41' := h41
          first | replace h41' := of_decide_eq_true h41' | replace h41' := bnT' h41' | skip
          refine Eno (wanted_noB rfl rfl rfl h41 (by decide)) rfl ?_
          refine Eno (wanted_noB rfl rfl rfl h41 (by decide)) rfl ?_
          refine E1no hs40 (wanted_noB rfl rfl rfl h41 (by decide)) rfl ?_
          refine E1no hs40 (wanted_noB rfl rfl rfl h41 (by decide)) rfl ?_
          refine Eno (wanted_noB rfl rfl rfl h41 (by decide)) rfl ?_
          refine E3no (wanted_noB rfl rfl rfl h41 (by decide)) rfl ?_
          refine Eno (wanted_noB rfl rfl rfl h41 (by decide)) rfl ?_
          refine E0 (wanted_none rfl) rfl (y_pickT rfl rfl h41 rfl) ?_
          refine Enil ?_
          refine W_condT rfl rfl ?_
          refine W_seq ?_
          refine W_region ?_
          refine L0 (wanted_none rfl) rfl (y_assign (v := Value.bool _) rfl rfl) ?_
          refine Lnil ?_
          refine W_ret ?_
          refine fin1 (fn := Tryz.f9) rfl rfl ?_
          first
          | (obtain rfl : i = l.length := by omega
             have hS7 := hS
             have e7 : (allCells (l.take l.length)).length = (allCells l).length := by rw [List.take_length]
             rw [List.take_length] at hS7
             first
             | exact ⟨⟨_, rfl, by rw [decide_eq_true_iff]; exact ⟨fun h => right_of hR (by omega) (hS7.eq.1 (by omega)), fun h => by have := h.few; omega⟩⟩, hs40.drop (.inl hbb2)⟩
             | exact ⟨⟨false, rfl, iff_of_false (by decide) (fun h => by have h7 := hS7.eq.2 h.once; omega)⟩, hs40.drop (.inl hbb2)⟩)
          | exact ⟨⟨false, rfl, iff_of_false (by decide) (fun hRR => by
              have hN := hRR.ok1 (i := i) (by omega)
              have g1 := hN.name; have g2 := hN.rise; have g3 := hN.size; have g4 := hN.need; have g5 := hN.range
              rw [← hf] at g1 g2 g3 g4 g5
              first | omega | exact absurd (hbn.2 g1) (by simpa using ‹(!bn) = true›) | exact absurd (g2 (by omega)) (by simpa using ‹(!Op.bytesLess (l.getD (i - 1) default).nm f.nm) = true›) | (have g8 := g5 (f.cs.getD k 0) (getD_mem (by omega)); first | omega | (simp at *; omega)) | (simp at *; omega))⟩, hs40.drops (fun x hx => .inl (fr2 hbb8 hbb2 x hx))⟩
        · have h41' := h41
          first | replace h41' := of_decide_eq_false h41' | replace h41' := bnF' h41' | skip
          refine E0 (wanted_yesB rfl rfl rfl h41) rfl (y_fieldAddr rfl Tryz.underlying44 rfl sz35 rfl) ?_
          refine E0 (wanted_yesB rfl rfl rfl h41) rfl (y_fieldAddr rfl Tryz.underlying44 rfl sz3 rfl) ?_
          refine E1 hs40 (wanted_yesB rfl rfl rfl h41) rfl ((y_load 0 rfl Tryz.underlying35 rfl rfl rfl (v := vi) rfl)) ?_
          refine E1 hs40 (wanted_yesB rfl rfl rfl h41) rfl (y_load 0 rfl Tryz.underlying3 rfl rfl rfl rfl) ?_
          refine E0 (wanted_yesB rfl rfl rfl h41) rfl (y_slenSl rfl Tryz.underlying35 rfl hKe) ?_
          refine E3 (wanted_yesB rfl rfl rfl h41) (c_call rfl rfl rfl Tryz.func13 (by kernel_rfl) rfl (rneed_any f.sz (by omega) (by omega) w38) rfl ?_)
          rintro _ w42 ⟨rfl, hc43⟩
          have hs44 := hs40.call0 hc43
          refine ⟨fun _ => hs44, ?_⟩
          refine E0 (wanted_yesB rfl rfl rfl h41) rfl (y_ne rfl rfl rfl) ?_
          refine E0 (wanted_none rfl) rfl (y_pickF rfl rfl h41 rfl) ?_
          refine Enil ?_
          refine Wsp (t := 50) rfl (fun h45 => ?_) (fun h45 => ?_)
          · have h45' := h45
            first | replace h45' := of_decide_eq_true h45' | replace h45' := bnT' h45' | skip
            refine W_condT rfl h45 ?_
            refine W_seq ?_
            refine W_region ?_
            refine L0 (wanted_none rfl) rfl (y_assign (v := Value.bool _) rfl rfl) ?_
            refine Lnil ?_
            refine W_ret ?_
            refine fin1 (fn := Tryz.f9) rfl rfl ?_
            first
            | (obtain rfl : i = l.length := by omega
               have hS7 := hS
               have e7 : (allCells (l.take l.length)).length = (allCells l).length := by rw [List.take_length]
               rw [List.take_length] at hS7
               first
               | exact ⟨⟨_, rfl, by rw [decide_eq_true_iff]; exact ⟨fun h => right_of hR (by omega) (hS7.eq.1 (by omega)), fun h => by have := h.few; omega⟩⟩, hs44.drop (.inl hbb2)⟩
               | exact ⟨⟨false, rfl, iff_of_false (by decide) (fun h => by have h7 := hS7.eq.2 h.once; omega)⟩, hs44.drop (.inl hbb2)⟩)
            | exact ⟨⟨false, rfl, iff_of_false (by decide) (fun hRR => by
                have hN := hRR.ok1 (i := i) (by omega)
                have g1 := hN.name; have g2 := hN.rise; have g3 := hN.size; have g4 := hN.need; have g5 := hN.range
                rw [← hf] at g1 g2 g3 g4 g5
                first | omega | exact absurd (hbn.2 g1) (by simpa using ‹(!bn) = true›) | exact absurd (g2 (by omega)) (by simpa using ‹(!Op.bytesLess (l.getD (i - 1) default).nm f.nm) = true›) | (have g8 := g5 (f.cs.getD k 0) (getD_mem (by omega)); first | omega | (simp at *; omega)) | (simp at *; omega))⟩, hs44.drops (fun x hx => .inl (fr2 hbb8 hbb2 x hx))⟩
          · have h45' := h45
            first | replace h45' := of_decide_eq_false h45' | replace h45' := bnF' h45' | skip
            refine W_condF rfl h45 ?_
            refine W_skip ?_
            refine W_seq ?_
            have hnl := hL.cs f hfm
            refine W_region ?_
            refine L0 (wanted_none rfl) rfl (y_fieldAddr rfl Tryz.underlying44 rfl sz35 rfl) ?_
            refine L1 (wanted_none rfl) rfl hs44 ((y_load 0 rfl Tryz.underlying35 rfl rfl rfl (v := vi) rfl)) ?_
            refine L0 (wanted_none rfl) rfl (y_slenSl rfl Tryz.underlying35 rfl hKe) ?_
            refine L0 (wanted_none rfl) rfl (y_move (v := Value.int _ _) rfl rfl) ?_
            refine Lnil ?_
            refine W_block ?_
            refine W_loop (G := Nat × Array MapEntry × Nat) (fun g aL wl => ∃ e, aL = A 76 ((54, iv g.1) :: (53, iv f.cs.length) :: (52, vi) :: (12, iv i) :: (11, iv l.length) :: (10, v0) :: (0, v0) :: (3, .map (some b2)) :: (4, iv ((allCells (l.take i)).length + g.1 : Nat)) :: e) ∧ g.1 ≤ f.cs.length ∧ (∀ x ∈ f.cs.take g.1, 3 ≤ x ∧ x < 24) ∧ SeenL g.2.1 (allCells (l.take i) ++ f.cs.take g.1) ∧ St w [(b8, .cells ⟨flCells f vi⟩ 44 (0, 0)), (b2, .map g.2.1 g.2.2)] wl) (fun g => f.cs.length - g.1) ((0, es, c)) ?_ ?_
            · exact ⟨_, A_pins _ _ [54, 53, 52, 12, 11, 10, 0, 3, 4], Nat.zero_le _, (by simp), (by simpa using hS), hs44⟩
            rintro g _ w46 ⟨ehs47, rfl, hk, hrg, hS2, hs47⟩
            obtain ⟨k, es2, c2⟩ := g
            dsimp only at *
            refine W_seq ?_
            refine W_region ?_
            refine L0 (wanted_none rfl) rfl (y_lt rfl rfl rfl) ?_
            refine Lnil ?_
            refine W_seq ?_
            refine Wsp (t := 55) rfl (fun h48 => ?_) (fun h48 => ?_)
            · have h48' := h48
              first | replace h48' := of_decide_eq_true h48' | replace h48' := bnT' h48' | skip
              refine W_condT rfl h48 ?_
              refine W_skip ?_
              refine W_seq ?_
              refine W_block ?_
              refine W_seq ?_
              refine W_region ?_
              refine L0 (wanted_none rfl) rfl (y_indexSlAt rfl Tryz.underlying35 sz3 rfl rfl hKe (by omega) (by omega)) ?_
              refine L1 (wanted_none rfl) rfl hs47 (y_loadSl k rfl Tryz.underlying3 rfl rfl hKe (by omega) (by omega) (fun x hx => (by obtain ⟨y, hy, rfl⟩ := List.mem_map.1 hx; exact fr2 hbb8 hbb2 y hy))) ?_
              refine L0 (wanted_none rfl) rfl (y_assign (v := Value.int _ _) rfl rfl) ?_
              refine Lnil ?_
              refine W_seq ?_
              refine W_seq ?_
              refine W_region ?_
              refine L0 (wanted_none rfl) rfl (y_move (v := Value.int _ _) rfl rfl) ?_
              refine Lc (wanted_none rfl) (c_call rfl rfl rfl Tryz.func24 (by kernel_rfl) rfl (rin_any (f.cs.getD k 0) 3 23 w46) rfl ?_)
              rintro _ w49 ⟨rfl, hc50⟩
              have hs51 := hs47.call0 hc50
              refine L0 (wanted_none rfl) rfl (y_not rfl rfl) ?_
              refine Lnil ?_
              refine Wsp (t := 60) rfl (fun h52 => ?_) (fun h52 => ?_)
              · have h52' := h52
                first | replace h52' := of_decide_eq_true h52' | replace h52' := bnT' h52' | skip
                refine W_condT rfl h52 ?_
                refine W_seq ?_
                refine W_region ?_
                refine L0 (wanted_none rfl) rfl (y_assign (v := Value.bool _) rfl rfl) ?_
                refine Lnil ?_
                refine W_ret ?_
                refine fin1 (fn := Tryz.f9) rfl rfl ?_
                first
                | (obtain rfl : i = l.length := by omega
                   have hS7 := hS
                   have e7 : (allCells (l.take l.length)).length = (allCells l).length := by rw [List.take_length]
                   rw [List.take_length] at hS7
                   first
                   | exact ⟨⟨_, rfl, by rw [decide_eq_true_iff]; exact ⟨fun h => right_of hR (by omega) (hS7.eq.1 (by omega)), fun h => by have := h.few; omega⟩⟩, hs51.drop (.inl hbb2)⟩
                   | exact ⟨⟨false, rfl, iff_of_false (by decide) (fun h => by have h7 := hS7.eq.2 h.once; omega)⟩, hs51.drop (.inl hbb2)⟩)
                | exact ⟨⟨false, rfl, iff_of_false (by decide) (fun hRR => by
                    have hN := hRR.ok1 (i := i) (by omega)
                    have g1 := hN.name; have g2 := hN.rise; have g3 := hN.size; have g4 := hN.need; have g5 := hN.range
                    rw [← hf] at g1 g2 g3 g4 g5
                    first | omega | exact absurd (hbn.2 g1) (by simpa using ‹(!bn) = true›) | exact absurd (g2 (by omega)) (by simpa using ‹(!Op.bytesLess (l.getD (i - 1) default).nm f.nm) = true›) | (have g8 := g5 (f.cs.getD k 0) (getD_mem (by omega)); first | omega | (simp at *; omega)) | (simp at *; omega))⟩, hs51.drops (fun x hx => .inl (fr2 hbb8 hbb2 x hx))⟩
              · have h52' := h52
                first | replace h52' := of_decide_eq_false h52' | replace h52' := bnF' h52' | skip
                refine W_condF rfl h52 ?_
                refine W_skip ?_
                refine W_seq ?_
                refine W_region ?_
                refine L0 (wanted_none rfl) rfl (y_move (v := Value.map _) rfl rfl) ?_
                refine L0 (wanted_none rfl) rfl (y_move (v := Value.int _ _) rfl rfl) ?_
                refine Lc (wanted_none rfl) (c_mapSeen (i := 1) hS2 hs51 rfl rfl rfl rfl rfl Tryz.underlying50 Tryz.underlying3 rfl (fun es3 c3 w53 hS3 hs54 => ?_))
                refine Lnil ?_
                refine W_region ?_
                refine L0 (wanted_none rfl) rfl (y_move (v := Value.int _ _) rfl rfl) ?_
                refine L0 (wanted_none rfl) rfl (y_add64 rfl rfl rfl (by omega)) ?_
                refine L0 (wanted_none rfl) rfl (y_assign (v := Value.int _ _) rfl rfl) ?_
                refine Lnil ?_
                refine W_region ?_
                refine L0 (wanted_none rfl) rfl (y_add64 rfl rfl rfl (by omega)) ?_
                refine L0 (wanted_none rfl) rfl (y_move (v := Value.int _ _) rfl rfl) ?_
                refine Lnil ?_
                exact ⟨(k + 1, es3, c3), by first | omega | (dsimp only; done) | (dsimp only; omega), _, A_c (iv_eq (by first | omega | (dsimp only; done) | (dsimp only; omega))) (A_c rfl (A_c rfl (A_c rfl (A_c rfl (A_c rfl (A_c rfl (A_c rfl (A_c (iv_eq (by first | omega | (dsimp only; done) | (dsimp only; omega))) (rfl))))))))), by omega, (by rw [take_snoc (by omega)]; intro x hx; rcases List.mem_append.1 hx with h7 | h7; exact hrg x h7; rw [List.mem_singleton] at h7; subst h7; omega), (by rw [take_snoc (by omega), ← List.append_assoc]; exact hS3), hs54⟩
            · have h48' := h48
              first | replace h48' := of_decide_eq_false h48' | replace h48' := bnF' h48' | skip
              refine W_condF rfl h48 ?_
              refine W_exit ?_
              refine W_region ?_
              refine L0 (wanted_none rfl) rfl (y_add64 rfl rfl rfl (by omega)) ?_
              refine L0 (wanted_none rfl) rfl (y_move (v := Value.int _ _) rfl rfl) ?_
              refine Lnil ?_
              have ek : f.cs.take k = f.cs := List.take_of_length_le (by omega)
              rw [ek] at hrg hS2
              have ekk : k = f.cs.length := by omega
              have hO : Ok1 l i := ⟨hf ▸ hbn.1 (by simpa using ‹(!bn) = false›), fun h0 => by first | (exfalso; omega) | (rw [← hf]; simpa using ‹(!Op.bytesLess (l.getD (i - 1) default).nm f.nm) = false›), by rw [← hf]; first | omega | (simp at *; omega), by rw [← hf]; first | omega | (simp at *; omega), by rw [← hf]; exact hrg⟩
              exact ⟨(i + 1, es2, c2), by first | omega | (dsimp only; done) | (dsimp only; omega), _, A_c (iv_eq (by first | omega | (dsimp only; done) | (dsimp only; omega))) (A_c rfl (A_c rfl (A_c rfl (A_c rfl (A_c (iv_eq (by rw [allCells_take (by omega), ← hf, List.length_append]; omega)) (rfl)))))), by omega, ok1_succ hR hO, (by rw [allCells_take (by omega), ← hf]; exact hS2), hs47.drop (.inl hbb8)⟩
  · have h7' := h7
    first | replace h7' := of_decide_eq_false h7' | replace h7' := bnF' h7' | skip
    refine W_condF rfl h7 ?_
    refine W_exit ?_
    refine W_seq ?_
    refine W_region ?_
    refine L0 (wanted_none rfl) rfl (y_move (v := Value.map _) rfl rfl) ?_
    refine L1 (wanted_none rfl) rfl hs6 (y_lenMap (i := 0) rfl Tryz.underlying50 rfl rfl) ?_
    refine L0 (wanted_none rfl) rfl (y_move (v := Value.int _ _) rfl rfl) ?_
    refine L0 (wanted_none rfl) rfl (y_eq rfl rfl rfl) ?_
    refine L0 (wanted_none rfl) rfl (y_move (v := Value.bool _) rfl rfl) ?_
    refine Lsp (t := 71) rfl (fun h55 => ?_) (fun h55 => ?_)
    · have h55' := h55
      first | replace h55' := of_decide_eq_true h55' | replace h55' := bnT' h55' | skip
      refine L0 (wanted_yesB rfl rfl rfl h55) rfl (y_move (v := v0) rfl rfl) ?_
      refine L0 (wanted_yesB rfl rfl rfl h55) rfl (y_slenOps (v := v0) rfl Tryz.underlying22 rfl hF.shape) ?_
      refine L0 (wanted_yesB rfl rfl rfl h55) rfl (y_le rfl rfl rfl) ?_
      refine L0 (wanted_none rfl) rfl (y_pickT rfl rfl h55 rfl) ?_
      refine L0 (wanted_none rfl) rfl (y_assign (v := Value.bool _) rfl rfl) ?_
      refine Lnil ?_
      refine W_ret ?_
      refine fin1 (fn := Tryz.f9) rfl rfl ?_
      first
      | (obtain rfl : i = l.length := by omega
         have hS7 := hS
         have e7 : (allCells (l.take l.length)).length = (allCells l).length := by rw [List.take_length]
         rw [List.take_length] at hS7
         first
         | exact ⟨⟨_, rfl, by rw [decide_eq_true_iff]; exact ⟨fun h => right_of hR (by omega) (hS7.eq.1 (by omega)), fun h => by have := h.few; omega⟩⟩, hs6.drop (.inl hbb2)⟩
         | exact ⟨⟨false, rfl, iff_of_false (by decide) (fun h => by have h7 := hS7.eq.2 h.once; omega)⟩, hs6.drop (.inl hbb2)⟩)
      | exact ⟨⟨false, rfl, iff_of_false (by decide) (fun hRR => by
          have hN := hRR.ok1 (i := i) (by omega)
          have g1 := hN.name; have g2 := hN.rise; have g3 := hN.size; have g4 := hN.need; have g5 := hN.range
          rw [← hf] at g1 g2 g3 g4 g5
          first | omega | exact absurd (hbn.2 g1) (by simpa using ‹(!bn) = true›) | exact absurd (g2 (by omega)) (by simpa using ‹(!Op.bytesLess (l.getD (i - 1) default).nm f.nm) = true›) | (have g8 := g5 (f.cs.getD k 0) (getD_mem (by omega)); first | omega | (simp at *; omega)) | (simp at *; omega))⟩, hs6.drops (fun x hx => .inl (fr2 hbNOBLOCK hbb2 x hx))⟩
    · have h55' := h55
      first | replace h55' := of_decide_eq_false h55' | replace h55' := bnF' h55' | skip
      refine Lno (wanted_noB rfl rfl rfl h55 (by decide)) rfl ?_
      refine Lno (wanted_noB rfl rfl rfl h55 (by decide)) rfl ?_
      refine Lno (wanted_noB rfl rfl rfl h55 (by decide)) rfl ?_
      refine L0 (wanted_none rfl) rfl (y_pickF rfl rfl h55 rfl) ?_
      refine L0 (wanted_none rfl) rfl (y_assign (v := Value.bool _) rfl rfl) ?_
      refine Lnil ?_
      refine W_ret ?_
      refine fin1 (fn := Tryz.f9) rfl rfl ?_
      first
      | (obtain rfl : i = l.length := by omega
         have hS7 := hS
         have e7 : (allCells (l.take l.length)).length = (allCells l).length := by rw [List.take_length]
         rw [List.take_length] at hS7
         first
         | exact ⟨⟨_, rfl, by rw [decide_eq_true_iff]; exact ⟨fun h => right_of hR (by omega) (hS7.eq.1 (by omega)), fun h => by have := h.few; omega⟩⟩, hs6.drop (.inl hbb2)⟩
         | exact ⟨⟨false, rfl, iff_of_false (by decide) (fun h => by have h7 := hS7.eq.2 h.once; omega)⟩, hs6.drop (.inl hbb2)⟩)
      | exact ⟨⟨false, rfl, iff_of_false (by decide) (fun hRR => by
          have hN := hRR.ok1 (i := i) (by omega)
          have g1 := hN.name; have g2 := hN.rise; have g3 := hN.size; have g4 := hN.need; have g5 := hN.range
          rw [← hf] at g1 g2 g3 g4 g5
          first | omega | exact absurd (hbn.2 g1) (by simpa using ‹(!bn) = true›) | exact absurd (g2 (by omega)) (by simpa using ‹(!Op.bytesLess (l.getD (i - 1) default).nm f.nm) = true›) | (have g8 := g5 (f.cs.getD k 0) (getD_mem (by omega)); first | omega | (simp at *; omega)) | (simp at *; omega))⟩, hs6.drops (fun x hx => .inl (fr2 hbNOBLOCK hbb2 x hx))⟩
end Go.Proofs.YtkolfgmpmnelmabGreatDoor.Ent

/-
  Walks: keep.streamed.
-/
import Derived.Test.YtkolfgmpmnelmaaS4
import Derived.Test.YtkolfgmpmnelmaaS3
import Derived.Test.YtkolfgmpmnelmaaP5
namespace Go.Proofs.Ytkolfgmpmnelmaa
open Go Vx Go.Proofs
set_option linter.unusedVariables false
set_option maxHeartbeats 400000
set_option maxRecDepth 4000

theorem streamed_any (w : World) : C Try.prog 8 ⟨[]⟩ w fun v w' => v = .bool true ∧ St w [] w' := by
  refine C_enter (n := 39) Try.func8 rfl rfl rfl (fun w1 hs1 => ?_)
  refine W_seq ?_
  refine W_region ?_
  refine L0 (wanted_none rfl) rfl (y_assign (v := Value.bool _) rfl rfl) ?_
  refine Lnil ?_
  refine W_seq ?_
  refine W_region ?_
  refine L0 (wanted_none rfl) rfl (y_assign (v := Value.string ⟨⟨_⟩⟩) rfl rfl) ?_
  refine Lnil ?_
  refine W_seq ?_
  refine W_seq ?_
  refine W_region ?_
  refine L0 (wanted_none rfl) rfl (y_move (v := Value.int _ _) rfl rfl) ?_
  refine Lnil ?_
  refine W_block ?_
  refine W_loop (G := Nat) (fun g a wl => ∃ e, a = A 39 ((5, iv g) :: (1, str (keyN g)) :: e) ∧ g ≤ 32 ∧ St w [] wl) (fun g => 32 - g) (0) ?_ ?_
  · exact ⟨_, A_pins _ _ [5, 1], by omega, hs1⟩
  rintro g _ w2 ⟨ehs3, rfl, hg, hs3⟩
  have hlen := keyN_len g
  refine W_seq ?_
  refine W_region ?_
  refine L0 (wanted_none rfl) rfl (y_lt rfl rfl rfl) ?_
  refine Lnil ?_
  refine W_seq ?_
  refine Wsp (t := 6) rfl (fun h4 => ?_) (fun h4 => ?_)
  · have h4' := h4
    first | replace h4' := of_decide_eq_true h4' | replace h4' := bnT' h4' | skip
    refine W_condT rfl h4 ?_
    refine W_skip ?_
    refine W_seq ?_
    refine W_block ?_
    refine W_seq ?_
    refine W_region ?_
    refine L0 (wanted_none rfl) rfl (y_move (v := Value.int _ _) rfl rfl) ?_
    refine L0 (wanted_none rfl) rfl (y_assign (v := Value.int _ _) rfl rfl) ?_
    refine Lnil ?_
    refine W_region ?_
    refine L0 (wanted_none rfl) rfl (y_move (v := Value.string ⟨⟨_⟩⟩) rfl rfl) ?_
    refine L0 (wanted_none rfl) rfl (y_move (v := Value.int _ _) rfl rfl) ?_
    refine L0 (wanted_none rfl) rfl (y_cito8 rfl Try.underlying3 Try.underlying5 rfl) ?_
    refine Lc (wanted_none rfl) (c_bs1 (v0 := bv _) hs3 rfl rfl Try.underlying71 sz5 zr5 rfl rfl (fun b5 w6 hbb5 hs7 => ?_))
    refine L1 (wanted_none rfl) rfl hs7 (y_bstr rfl Try.underlying71 Try.underlying5 Try.underlying9 rfl (Row.of_block (E := 5) (xs := bs [u8of g]) hbb5 (by simp)) (fun x hx => by first | exact hx | exact List.mem_cons.2 (.inl (List.mem_singleton.1 hx)) | simp [hx])) ?_
    refine L0 (wanted_none rfl) rfl (y_scat rfl rfl rfl (by first | omega | (simp; omega) | (simp only [List.length_append, List.length_cons, List.length_nil]; omega))) ?_
    refine L0 (wanted_none rfl) rfl (y_assign (v := Value.string ⟨⟨_⟩⟩) rfl rfl) ?_
    refine Lnil ?_
    refine W_region ?_
    refine L0 (wanted_none rfl) rfl (y_add64 rfl rfl rfl (by omega)) ?_
    refine L0 (wanted_none rfl) rfl (y_move (v := Value.int _ _) rfl rfl) ?_
    refine Lnil ?_
    replace hs7 := hs7.drop (.inl (by assumption))
    exact ⟨g + 1, by (try dsimp only); omega, _, A_c (iv_eq (by (try dsimp only); omega)) (A_c rfl (rfl)), by omega, hs7⟩
  · have h4' := h4
    first | replace h4' := of_decide_eq_false h4' | replace h4' := bnF' h4' | skip
    refine W_condF rfl h4 ?_
    refine W_exit ?_
    refine W_seq ?_
    obtain rfl : g = 32 := by omega
    have hlb := block_len (keyN 32) 1 nonceK
    refine W_region ?_
    refine L0 (wanted_none rfl) rfl (y_move (v := Value.string ⟨⟨_⟩⟩) rfl rfl) ?_
    refine Lc (wanted_none rfl) (c_call rfl rfl rfl Try.func9 (by kernel_rfl) rfl (block_any _ nonceK 1 hlen rfl (by omega) (by omega) w2) rfl ?_)
    rintro _ w8 ⟨rfl, hc9⟩
    have hs10 := hs3.call0 hc9
    refine L0 (wanted_none rfl) rfl (y_move (v := Value.tuple ⟨_⟩) rfl rfl) ?_
    refine L0 (wanted_none rfl) rfl (y_extract rfl rfl rfl) ?_
    refine L0 (wanted_none rfl) rfl (y_extract rfl rfl rfl) ?_
    refine L0 (wanted_none rfl) rfl (y_assign (v := Value.string ⟨⟨_⟩⟩) rfl rfl) ?_
    refine L0 (wanted_none rfl) rfl (y_assign (v := _) rfl rfl) ?_
    refine Lnil ?_
    refine W_seq ?_
    refine W_region ?_
    refine L0 (wanted_none rfl) rfl (y_move (v := _) rfl rfl) ?_
    refine L0 (wanted_none rfl) rfl (y_eqNilNil rfl Try.underlying24 rfl) ?_
    refine L0 (wanted_none rfl) rfl (y_move (v := Value.bool _) rfl rfl) ?_
    refine L0 (wanted_yesB rfl rfl rfl rfl) rfl (y_move (v := Value.string ⟨⟨_⟩⟩) rfl rfl) ?_
    refine L0 (wanted_yesB rfl rfl rfl rfl) rfl (y_len rfl Try.underlying9 rfl) ?_
    refine L0 (wanted_yesB rfl rfl rfl rfl) rfl (y_eq rfl rfl rfl) ?_
    refine L0 (wanted_none rfl) rfl (y_pickT rfl rfl (rfl : true = true) rfl) ?_
    refine L0 (wanted_none rfl) rfl (y_move (v := Value.bool _) rfl rfl) ?_
    refine Lkn (t := 27) (b0 := true) rfl (by rw [hlb]; rfl) (fun h11 => ?_)
    refine L0 (wanted_yesB rfl rfl rfl h11) rfl (y_move (v := Value.string ⟨⟨_⟩⟩) rfl rfl) ?_
    refine L0 (wanted_yesB rfl rfl rfl h11) rfl (y_sslice_hi rfl Try.underlying9 rfl rfl (by have := hlb; omega)) ?_
    refine Lc (wanted_yesB rfl rfl rfl h11) (c_call rfl rfl rfl Try.func40 (by kernel_rfl) rfl (hex_any _ (by rw [List.length_take]; omega) w8) rfl ?_)
    rintro _ w12 ⟨rfl, hc13⟩
    have hs14 := hs10.call0 hc13
    refine L0 (wanted_yesB rfl rfl rfl h11) rfl (y_seq rfl rfl rfl) ?_
    refine L0 (wanted_none rfl) rfl (y_pickT rfl rfl h11 rfl) ?_
    refine L0 (wanted_none rfl) rfl (y_move (v := Value.bool _) rfl rfl) ?_
    refine Lkn (t := 33) (b0 := true) rfl (by exact decide_eq_true known_head) (fun h15 => ?_)
    refine L0 (wanted_yesB rfl rfl rfl h15) rfl (y_move (v := Value.string ⟨⟨_⟩⟩) rfl rfl) ?_
    refine L0 (wanted_yesB rfl rfl rfl h15) rfl (y_sslice_lo rfl Try.underlying9 rfl rfl (by have := hlb; omega)) ?_
    refine Lc (wanted_yesB rfl rfl rfl h15) (c_call rfl rfl rfl Try.func40 (by kernel_rfl) rfl (hex_any _ (by rw [List.length_drop]; omega) w12) rfl ?_)
    rintro _ w16 ⟨rfl, hc17⟩
    have hs18 := hs14.call0 hc17
    refine L0 (wanted_yesB rfl rfl rfl h15) rfl (y_seq rfl rfl rfl) ?_
    refine L0 (wanted_none rfl) rfl (y_pickT rfl rfl h15 rfl) ?_
    refine L0 (wanted_none rfl) rfl (y_assign (v := Value.bool _) rfl rfl) ?_
    refine Lnil ?_
    refine W_ret ?_
    refine fin1 (fn := Try.f8) rfl rfl ?_
    exact ⟨congrArg Value.bool (by assumption), hs18⟩
end Go.Proofs.Ytkolfgmpmnelmaa

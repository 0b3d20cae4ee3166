/-
  Walks: keep.StreamApart.
-/
import Derived.Test.YtkolfgmpmnelmaaS5
namespace Go.Proofs.Ytkolfgmpmnelmaa
open Go Vx Go.Proofs
set_option linter.unusedVariables false
set_option maxHeartbeats 400000
set_option maxRecDepth 4000

def valid (key : List UInt8) (n : Int) (nonce : List UInt8) : Prop := key.length = 32 ∧ nonce.length = 12 ∧ 0 ≤ n ∧ n < 4294967296
theorem beganOf_len {key : List UInt8} {n : Int} {nonce : List UInt8} (h1 : key.length = 32) (h2 : nonce.length = 12) : (beganOf key n nonce).length = 4 * 16 := by
  have : (num4 n).length = 4 := rfl
  simp only [beganOf, List.length_append, h1, h2, this]; rfl
theorem apart_long (key other nonce more : List UInt8) (n m : Int) (h : 40 < key.length ∨ 40 < other.length ∨ 40 < nonce.length ∨ 40 < more.length) (w : World) :
    C Try.prog 3 ⟨[str key, str other, iv n, iv m, str nonce, str more]⟩ w fun v w' => v = .bool true ∧ St w [] w' := by
  refine C_enter (n := 105) Try.func3 rfl rfl rfl (fun w1 hs1 => ?_)
  refine W_seq ?_
  refine W_region ?_
  refine L0 (wanted_none rfl) rfl (y_assign (v := Value.bool _) rfl rfl) ?_
  refine Lnil ?_
  refine W_seq ?_
  refine W_seq ?_
  refine W_region ?_
  refine L0 (wanted_none rfl) rfl (y_move (v := Value.string ⟨⟨_⟩⟩) rfl rfl) ?_
  refine L0 (wanted_none rfl) rfl (y_len rfl Try.underlying9 rfl) ?_
  refine L0 (wanted_none rfl) rfl (y_gt rfl rfl rfl) ?_
  refine L0 (wanted_none rfl) rfl (y_move (v := Value.bool _) rfl rfl) ?_
  refine Lsp (t := 21) rfl (fun h2 => ?_) (fun h2 => ?_)
  · have h2' := h2
    first | replace h2' := of_decide_eq_true h2' | replace h2' := bnT' h2' | skip
    refine Lno (wanted_noB rfl rfl rfl h2 (by decide)) rfl ?_
    refine Lno (wanted_noB rfl rfl rfl h2 (by decide)) rfl ?_
    refine Lno (wanted_noB rfl rfl rfl h2 (by decide)) rfl ?_
    refine L0 (wanted_none rfl) rfl (y_pickT rfl rfl h2 rfl) ?_
    refine L0 (wanted_none rfl) rfl (y_move (v := Value.bool _) rfl rfl) ?_
    refine Lno (wanted_noB rfl rfl rfl rfl (by decide)) rfl ?_
    refine Lno (wanted_noB rfl rfl rfl rfl (by decide)) rfl ?_
    refine Lno (wanted_noB rfl rfl rfl rfl (by decide)) rfl ?_
    refine L0 (wanted_none rfl) rfl (y_pickT rfl rfl (rfl : true = true) rfl) ?_
    refine L0 (wanted_none rfl) rfl (y_move (v := Value.bool _) rfl rfl) ?_
    refine Lno (wanted_noB rfl rfl rfl rfl (by decide)) rfl ?_
    refine Lno (wanted_noB rfl rfl rfl rfl (by decide)) rfl ?_
    refine Lno (wanted_noB rfl rfl rfl rfl (by decide)) rfl ?_
    refine L0 (wanted_none rfl) rfl (y_pickT rfl rfl (rfl : true = true) rfl) ?_
    refine Lnil ?_
    refine W_condT rfl rfl ?_
    refine W_seq ?_
    refine W_region ?_
    refine L0 (wanted_none rfl) rfl (y_assign (v := Value.bool _) rfl rfl) ?_
    refine Lnil ?_
    refine W_ret ?_
    refine fin1 (fn := Try.f3) rfl rfl ?_
    exact ⟨rfl, hs1⟩
  · have h2' := h2
    first | replace h2' := of_decide_eq_false h2' | replace h2' := bnF' h2' | skip
    refine L0 (wanted_yesB rfl rfl rfl h2) rfl (y_move (v := Value.string ⟨⟨_⟩⟩) rfl rfl) ?_
    refine L0 (wanted_yesB rfl rfl rfl h2) rfl (y_len rfl Try.underlying9 rfl) ?_
    refine L0 (wanted_yesB rfl rfl rfl h2) rfl (y_gt rfl rfl rfl) ?_
    refine L0 (wanted_none rfl) rfl (y_pickF rfl rfl h2 rfl) ?_
    refine L0 (wanted_none rfl) rfl (y_move (v := Value.bool _) rfl rfl) ?_
    refine Lsp (t := 26) rfl (fun h3 => ?_) (fun h3 => ?_)
    · have h3' := h3
      first | replace h3' := of_decide_eq_true h3' | replace h3' := bnT' h3' | skip
      refine Lno (wanted_noB rfl rfl rfl h3 (by decide)) rfl ?_
      refine Lno (wanted_noB rfl rfl rfl h3 (by decide)) rfl ?_
      refine Lno (wanted_noB rfl rfl rfl h3 (by decide)) rfl ?_
      refine L0 (wanted_none rfl) rfl (y_pickT rfl rfl h3 rfl) ?_
      refine L0 (wanted_none rfl) rfl (y_move (v := Value.bool _) rfl rfl) ?_
      refine Lno (wanted_noB rfl rfl rfl rfl (by decide)) rfl ?_
      refine Lno (wanted_noB rfl rfl rfl rfl (by decide)) rfl ?_
      refine Lno (wanted_noB rfl rfl rfl rfl (by decide)) rfl ?_
      refine L0 (wanted_none rfl) rfl (y_pickT rfl rfl (rfl : true = true) rfl) ?_
      refine Lnil ?_
      refine W_condT rfl rfl ?_
      refine W_seq ?_
      refine W_region ?_
      refine L0 (wanted_none rfl) rfl (y_assign (v := Value.bool _) rfl rfl) ?_
      refine Lnil ?_
      refine W_ret ?_
      refine fin1 (fn := Try.f3) rfl rfl ?_
      exact ⟨rfl, hs1⟩
    · have h3' := h3
      first | replace h3' := of_decide_eq_false h3' | replace h3' := bnF' h3' | skip
      refine L0 (wanted_yesB rfl rfl rfl h3) rfl (y_move (v := Value.string ⟨⟨_⟩⟩) rfl rfl) ?_
      refine L0 (wanted_yesB rfl rfl rfl h3) rfl (y_len rfl Try.underlying9 rfl) ?_
      refine L0 (wanted_yesB rfl rfl rfl h3) rfl (y_gt rfl rfl rfl) ?_
      refine L0 (wanted_none rfl) rfl (y_pickF rfl rfl h3 rfl) ?_
      refine L0 (wanted_none rfl) rfl (y_move (v := Value.bool _) rfl rfl) ?_
      refine Lsp (t := 31) rfl (fun h4 => ?_) (fun h4 => ?_)
      · have h4' := h4
        first | replace h4' := of_decide_eq_true h4' | replace h4' := bnT' h4' | skip
        refine Lno (wanted_noB rfl rfl rfl h4 (by decide)) rfl ?_
        refine Lno (wanted_noB rfl rfl rfl h4 (by decide)) rfl ?_
        refine Lno (wanted_noB rfl rfl rfl h4 (by decide)) rfl ?_
        refine L0 (wanted_none rfl) rfl (y_pickT rfl rfl h4 rfl) ?_
        refine Lnil ?_
        refine W_condT rfl rfl ?_
        refine W_seq ?_
        refine W_region ?_
        refine L0 (wanted_none rfl) rfl (y_assign (v := Value.bool _) rfl rfl) ?_
        refine Lnil ?_
        refine W_ret ?_
        refine fin1 (fn := Try.f3) rfl rfl ?_
        exact ⟨rfl, hs1⟩
      · have h4' := h4
        first | replace h4' := of_decide_eq_false h4' | replace h4' := bnF' h4' | skip
        refine L0 (wanted_yesB rfl rfl rfl h4) rfl (y_move (v := Value.string ⟨⟨_⟩⟩) rfl rfl) ?_
        refine L0 (wanted_yesB rfl rfl rfl h4) rfl (y_len rfl Try.underlying9 rfl) ?_
        refine L0 (wanted_yesB rfl rfl rfl h4) rfl (y_gt rfl rfl rfl) ?_
        refine L0 (wanted_none rfl) rfl (y_pickF rfl rfl h4 rfl) ?_
        refine Lnil ?_
        refine Wkn (t := 35) (b0 := true) rfl (by first | exact decide_eq_true (by omega) | exact bnT (by omega) | (simp; omega)) (fun h5 => ?_)
        refine W_condT rfl h5 ?_
        refine W_seq ?_
        refine W_region ?_
        refine L0 (wanted_none rfl) rfl (y_assign (v := Value.bool _) rfl rfl) ?_
        refine Lnil ?_
        refine W_ret ?_
        refine fin1 (fn := Try.f3) rfl rfl ?_
        exact ⟨rfl, hs1⟩
theorem apart_ee (key other nonce more : List UInt8) (n m : Int) (l1 : key.length ≤ 40) (l2 : other.length ≤ 40) (l3 : nonce.length ≤ 40) (l4 : more.length ≤ 40) (v1 : ¬ valid key n nonce) (v2 : ¬ valid other m more) (w : World) :
    C Try.prog 3 ⟨[str key, str other, iv n, iv m, str nonce, str more]⟩ w fun v w' => v = .bool true ∧ St w [] w' := by
  refine C_enter (n := 105) Try.func3 rfl rfl rfl (fun w1 hs1 => ?_)
  refine W_seq ?_
  refine W_region ?_
  refine L0 (wanted_none rfl) rfl (y_assign (v := Value.bool _) rfl rfl) ?_
  refine Lnil ?_
  refine W_seq ?_
  refine W_seq ?_
  refine W_region ?_
  refine L0 (wanted_none rfl) rfl (y_move (v := Value.string ⟨⟨_⟩⟩) rfl rfl) ?_
  refine L0 (wanted_none rfl) rfl (y_len rfl Try.underlying9 rfl) ?_
  refine L0 (wanted_none rfl) rfl (y_gt rfl rfl rfl) ?_
  refine L0 (wanted_none rfl) rfl (y_move (v := Value.bool _) rfl rfl) ?_
  refine Lkn (t := 21) (b0 := false) rfl (by first | exact decide_eq_false (by omega) | exact bnF (by omega) | (simp; omega)) (fun h2 => ?_)
  refine L0 (wanted_yesB rfl rfl rfl h2) rfl (y_move (v := Value.string ⟨⟨_⟩⟩) rfl rfl) ?_
  refine L0 (wanted_yesB rfl rfl rfl h2) rfl (y_len rfl Try.underlying9 rfl) ?_
  refine L0 (wanted_yesB rfl rfl rfl h2) rfl (y_gt rfl rfl rfl) ?_
  refine L0 (wanted_none rfl) rfl (y_pickF rfl rfl h2 rfl) ?_
  refine L0 (wanted_none rfl) rfl (y_move (v := Value.bool _) rfl rfl) ?_
  refine Lkn (t := 26) (b0 := false) rfl (by first | exact decide_eq_false (by omega) | exact bnF (by omega) | (simp; omega)) (fun h3 => ?_)
  refine L0 (wanted_yesB rfl rfl rfl h3) rfl (y_move (v := Value.string ⟨⟨_⟩⟩) rfl rfl) ?_
  refine L0 (wanted_yesB rfl rfl rfl h3) rfl (y_len rfl Try.underlying9 rfl) ?_
  refine L0 (wanted_yesB rfl rfl rfl h3) rfl (y_gt rfl rfl rfl) ?_
  refine L0 (wanted_none rfl) rfl (y_pickF rfl rfl h3 rfl) ?_
  refine L0 (wanted_none rfl) rfl (y_move (v := Value.bool _) rfl rfl) ?_
  refine Lkn (t := 31) (b0 := false) rfl (by first | exact decide_eq_false (by omega) | exact bnF (by omega) | (simp; omega)) (fun h4 => ?_)
  refine L0 (wanted_yesB rfl rfl rfl h4) rfl (y_move (v := Value.string ⟨⟨_⟩⟩) rfl rfl) ?_
  refine L0 (wanted_yesB rfl rfl rfl h4) rfl (y_len rfl Try.underlying9 rfl) ?_
  refine L0 (wanted_yesB rfl rfl rfl h4) rfl (y_gt rfl rfl rfl) ?_
  refine L0 (wanted_none rfl) rfl (y_pickF rfl rfl h4 rfl) ?_
  refine Lnil ?_
  refine Wkn (t := 35) (b0 := false) rfl (by first | exact decide_eq_false (by omega) | exact bnF (by omega) | (simp; omega)) (fun h5 => ?_)
  refine W_condF rfl h5 ?_
  refine W_skip ?_
  refine W_seq ?_
  refine W_seq ?_
  refine W_region ?_
  refine Lc (wanted_none rfl) (c_call rfl rfl rfl Try.func8 (by kernel_rfl) rfl (streamed_any w1) rfl ?_)
  rintro _ w6 ⟨rfl, hc7⟩
  have hs8 := hs1.call0 hc7
  refine L0 (wanted_none rfl) rfl (y_not rfl rfl) ?_
  refine Lnil ?_
  refine Wkn (t := 37) (b0 := false) rfl (by rfl) (fun h9 => ?_)
  refine W_condF rfl h9 ?_
  refine W_skip ?_
  refine W_seq ?_
  refine W_region ?_
  refine L0 (wanted_none rfl) rfl (y_move (v := Value.string ⟨⟨_⟩⟩) rfl rfl) ?_
  refine L0 (wanted_none rfl) rfl (y_move (v := Value.int _ _) rfl rfl) ?_
  refine L0 (wanted_none rfl) rfl (y_move (v := Value.string ⟨⟨_⟩⟩) rfl rfl) ?_
  refine Lc (wanted_none rfl) (c_call rfl rfl rfl Try.func9 (by kernel_rfl) rfl (block_err _ _ _ v1 w6) rfl ?_)
  rintro _ w10 ⟨rfl, hc11⟩
  have hs12 := hs8.call0 hc11
  refine L0 (wanted_none rfl) rfl (y_move (v := Value.tuple ⟨_⟩) rfl rfl) ?_
  refine L0 (wanted_none rfl) rfl (y_extract rfl rfl rfl) ?_
  refine L0 (wanted_none rfl) rfl (y_extract rfl rfl rfl) ?_
  refine L0 (wanted_none rfl) rfl (y_assign (v := Value.string ⟨⟨_⟩⟩) rfl rfl) ?_
  refine L0 (wanted_none rfl) rfl (y_assign (v := _) rfl rfl) ?_
  refine Lnil ?_
  refine W_seq ?_
  refine W_region ?_
  refine L0 (wanted_none rfl) rfl (y_move (v := Value.string ⟨⟨_⟩⟩) rfl rfl) ?_
  refine L0 (wanted_none rfl) rfl (y_move (v := Value.int _ _) rfl rfl) ?_
  refine L0 (wanted_none rfl) rfl (y_move (v := Value.string ⟨⟨_⟩⟩) rfl rfl) ?_
  refine Lc (wanted_none rfl) (c_call rfl rfl rfl Try.func9 (by kernel_rfl) rfl (block_err _ _ _ v2 w10) rfl ?_)
  rintro _ w13 ⟨rfl, hc14⟩
  have hs15 := hs12.call0 hc14
  refine L0 (wanted_none rfl) rfl (y_move (v := Value.tuple ⟨_⟩) rfl rfl) ?_
  refine L0 (wanted_none rfl) rfl (y_extract rfl rfl rfl) ?_
  refine L0 (wanted_none rfl) rfl (y_extract rfl rfl rfl) ?_
  refine L0 (wanted_none rfl) rfl (y_assign (v := Value.string ⟨⟨_⟩⟩) rfl rfl) ?_
  refine L0 (wanted_none rfl) rfl (y_assign (v := _) rfl rfl) ?_
  refine Lnil ?_
  refine W_seq ?_
  refine W_seq ?_
  refine W_region ?_
  refine L0 (wanted_none rfl) rfl (y_move (v := _) rfl rfl) ?_
  refine L0 (wanted_none rfl) rfl (y_neNil rfl Try.underlying24 rfl) ?_
  refine L0 (wanted_none rfl) rfl (y_move (v := Value.bool _) rfl rfl) ?_
  refine Lno (wanted_noB rfl rfl rfl rfl (by decide)) rfl ?_
  refine Lno (wanted_noB rfl rfl rfl rfl (by decide)) rfl ?_
  refine L0 (wanted_none rfl) rfl (y_pickT rfl rfl (rfl : true = true) rfl) ?_
  refine Lnil ?_
  refine W_condT rfl rfl ?_
  refine W_seq ?_
  refine W_region ?_
  refine L0 (wanted_none rfl) rfl (y_assign (v := Value.bool _) rfl rfl) ?_
  refine Lnil ?_
  refine W_ret ?_
  refine fin1 (fn := Try.f3) rfl rfl ?_
  exact ⟨rfl, hs15⟩
theorem apart_eo (key other nonce more : List UInt8) (n m : Int) (l1 : key.length ≤ 40) (l2 : other.length ≤ 40) (l3 : nonce.length ≤ 40) (l4 : more.length ≤ 40) (v1 : ¬ valid key n nonce) (v2 : valid other m more) (w : World) :
    C Try.prog 3 ⟨[str key, str other, iv n, iv m, str nonce, str more]⟩ w fun v w' => v = .bool true ∧ St w [] w' := by
  refine C_enter (n := 105) Try.func3 rfl rfl rfl (fun w1 hs1 => ?_)
  refine W_seq ?_
  refine W_region ?_
  refine L0 (wanted_none rfl) rfl (y_assign (v := Value.bool _) rfl rfl) ?_
  refine Lnil ?_
  refine W_seq ?_
  refine W_seq ?_
  refine W_region ?_
  refine L0 (wanted_none rfl) rfl (y_move (v := Value.string ⟨⟨_⟩⟩) rfl rfl) ?_
  refine L0 (wanted_none rfl) rfl (y_len rfl Try.underlying9 rfl) ?_
  refine L0 (wanted_none rfl) rfl (y_gt rfl rfl rfl) ?_
  refine L0 (wanted_none rfl) rfl (y_move (v := Value.bool _) rfl rfl) ?_
  refine Lkn (t := 21) (b0 := false) rfl (by first | exact decide_eq_false (by omega) | exact bnF (by omega) | (simp; omega)) (fun h2 => ?_)
  refine L0 (wanted_yesB rfl rfl rfl h2) rfl (y_move (v := Value.string ⟨⟨_⟩⟩) rfl rfl) ?_
  refine L0 (wanted_yesB rfl rfl rfl h2) rfl (y_len rfl Try.underlying9 rfl) ?_
  refine L0 (wanted_yesB rfl rfl rfl h2) rfl (y_gt rfl rfl rfl) ?_
  refine L0 (wanted_none rfl) rfl (y_pickF rfl rfl h2 rfl) ?_
  refine L0 (wanted_none rfl) rfl (y_move (v := Value.bool _) rfl rfl) ?_
  refine Lkn (t := 26) (b0 := false) rfl (by first | exact decide_eq_false (by omega) | exact bnF (by omega) | (simp; omega)) (fun h3 => ?_)
  refine L0 (wanted_yesB rfl rfl rfl h3) rfl (y_move (v := Value.string ⟨⟨_⟩⟩) rfl rfl) ?_
  refine L0 (wanted_yesB rfl rfl rfl h3) rfl (y_len rfl Try.underlying9 rfl) ?_
  refine L0 (wanted_yesB rfl rfl rfl h3) rfl (y_gt rfl rfl rfl) ?_
  refine L0 (wanted_none rfl) rfl (y_pickF rfl rfl h3 rfl) ?_
  refine L0 (wanted_none rfl) rfl (y_move (v := Value.bool _) rfl rfl) ?_
  refine Lkn (t := 31) (b0 := false) rfl (by first | exact decide_eq_false (by omega) | exact bnF (by omega) | (simp; omega)) (fun h4 => ?_)
  refine L0 (wanted_yesB rfl rfl rfl h4) rfl (y_move (v := Value.string ⟨⟨_⟩⟩) rfl rfl) ?_
  refine L0 (wanted_yesB rfl rfl rfl h4) rfl (y_len rfl Try.underlying9 rfl) ?_
  refine L0 (wanted_yesB rfl rfl rfl h4) rfl (y_gt rfl rfl rfl) ?_
  refine L0 (wanted_none rfl) rfl (y_pickF rfl rfl h4 rfl) ?_
  refine Lnil ?_
  refine Wkn (t := 35) (b0 := false) rfl (by first | exact decide_eq_false (by omega) | exact bnF (by omega) | (simp; omega)) (fun h5 => ?_)
  refine W_condF rfl h5 ?_
  refine W_skip ?_
  refine W_seq ?_
  refine W_seq ?_
  refine W_region ?_
  refine Lc (wanted_none rfl) (c_call rfl rfl rfl Try.func8 (by kernel_rfl) rfl (streamed_any w1) rfl ?_)
  rintro _ w6 ⟨rfl, hc7⟩
  have hs8 := hs1.call0 hc7
  refine L0 (wanted_none rfl) rfl (y_not rfl rfl) ?_
  refine Lnil ?_
  refine Wkn (t := 37) (b0 := false) rfl (by rfl) (fun h9 => ?_)
  refine W_condF rfl h9 ?_
  refine W_skip ?_
  refine W_seq ?_
  refine W_region ?_
  refine L0 (wanted_none rfl) rfl (y_move (v := Value.string ⟨⟨_⟩⟩) rfl rfl) ?_
  refine L0 (wanted_none rfl) rfl (y_move (v := Value.int _ _) rfl rfl) ?_
  refine L0 (wanted_none rfl) rfl (y_move (v := Value.string ⟨⟨_⟩⟩) rfl rfl) ?_
  refine Lc (wanted_none rfl) (c_call rfl rfl rfl Try.func9 (by kernel_rfl) rfl (block_err _ _ _ v1 w6) rfl ?_)
  rintro _ w10 ⟨rfl, hc11⟩
  have hs12 := hs8.call0 hc11
  refine L0 (wanted_none rfl) rfl (y_move (v := Value.tuple ⟨_⟩) rfl rfl) ?_
  refine L0 (wanted_none rfl) rfl (y_extract rfl rfl rfl) ?_
  refine L0 (wanted_none rfl) rfl (y_extract rfl rfl rfl) ?_
  refine L0 (wanted_none rfl) rfl (y_assign (v := Value.string ⟨⟨_⟩⟩) rfl rfl) ?_
  refine L0 (wanted_none rfl) rfl (y_assign (v := _) rfl rfl) ?_
  refine Lnil ?_
  refine W_seq ?_
  refine W_region ?_
  refine L0 (wanted_none rfl) rfl (y_move (v := Value.string ⟨⟨_⟩⟩) rfl rfl) ?_
  refine L0 (wanted_none rfl) rfl (y_move (v := Value.int _ _) rfl rfl) ?_
  refine L0 (wanted_none rfl) rfl (y_move (v := Value.string ⟨⟨_⟩⟩) rfl rfl) ?_
  refine Lc (wanted_none rfl) (c_call rfl rfl rfl Try.func9 (by kernel_rfl) rfl (block_any _ _ _ v2.1 v2.2.1 v2.2.2.1 v2.2.2.2 w10) rfl ?_)
  rintro _ w13 ⟨rfl, hc14⟩
  have hs15 := hs12.call0 hc14
  refine L0 (wanted_none rfl) rfl (y_move (v := Value.tuple ⟨_⟩) rfl rfl) ?_
  refine L0 (wanted_none rfl) rfl (y_extract rfl rfl rfl) ?_
  refine L0 (wanted_none rfl) rfl (y_extract rfl rfl rfl) ?_
  refine L0 (wanted_none rfl) rfl (y_assign (v := Value.string ⟨⟨_⟩⟩) rfl rfl) ?_
  refine L0 (wanted_none rfl) rfl (y_assign (v := _) rfl rfl) ?_
  refine Lnil ?_
  refine W_seq ?_
  refine W_seq ?_
  refine W_region ?_
  refine L0 (wanted_none rfl) rfl (y_move (v := _) rfl rfl) ?_
  refine L0 (wanted_none rfl) rfl (y_neNil rfl Try.underlying24 rfl) ?_
  refine L0 (wanted_none rfl) rfl (y_move (v := Value.bool _) rfl rfl) ?_
  refine Lno (wanted_noB rfl rfl rfl rfl (by decide)) rfl ?_
  refine Lno (wanted_noB rfl rfl rfl rfl (by decide)) rfl ?_
  refine L0 (wanted_none rfl) rfl (y_pickT rfl rfl (rfl : true = true) rfl) ?_
  refine Lnil ?_
  refine W_condT rfl rfl ?_
  refine W_seq ?_
  refine W_region ?_
  refine L0 (wanted_none rfl) rfl (y_assign (v := Value.bool _) rfl rfl) ?_
  refine Lnil ?_
  refine W_ret ?_
  refine fin1 (fn := Try.f3) rfl rfl ?_
  exact ⟨rfl, hs15⟩
theorem apart_oe (key other nonce more : List UInt8) (n m : Int) (l1 : key.length ≤ 40) (l2 : other.length ≤ 40) (l3 : nonce.length ≤ 40) (l4 : more.length ≤ 40) (v1 : valid key n nonce) (v2 : ¬ valid other m more) (w : World) :
    C Try.prog 3 ⟨[str key, str other, iv n, iv m, str nonce, str more]⟩ w fun v w' => v = .bool true ∧ St w [] w' := by
  refine C_enter (n := 105) Try.func3 rfl rfl rfl (fun w1 hs1 => ?_)
  refine W_seq ?_
  refine W_region ?_
  refine L0 (wanted_none rfl) rfl (y_assign (v := Value.bool _) rfl rfl) ?_
  refine Lnil ?_
  refine W_seq ?_
  refine W_seq ?_
  refine W_region ?_
  refine L0 (wanted_none rfl) rfl (y_move (v := Value.string ⟨⟨_⟩⟩) rfl rfl) ?_
  refine L0 (wanted_none rfl) rfl (y_len rfl Try.underlying9 rfl) ?_
  refine L0 (wanted_none rfl) rfl (y_gt rfl rfl rfl) ?_
  refine L0 (wanted_none rfl) rfl (y_move (v := Value.bool _) rfl rfl) ?_
  refine Lkn (t := 21) (b0 := false) rfl (by first | exact decide_eq_false (by omega) | exact bnF (by omega) | (simp; omega)) (fun h2 => ?_)
  refine L0 (wanted_yesB rfl rfl rfl h2) rfl (y_move (v := Value.string ⟨⟨_⟩⟩) rfl rfl) ?_
  refine L0 (wanted_yesB rfl rfl rfl h2) rfl (y_len rfl Try.underlying9 rfl) ?_
  refine L0 (wanted_yesB rfl rfl rfl h2) rfl (y_gt rfl rfl rfl) ?_
  refine L0 (wanted_none rfl) rfl (y_pickF rfl rfl h2 rfl) ?_
  refine L0 (wanted_none rfl) rfl (y_move (v := Value.bool _) rfl rfl) ?_
  refine Lkn (t := 26) (b0 := false) rfl (by first | exact decide_eq_false (by omega) | exact bnF (by omega) | (simp; omega)) (fun h3 => ?_)
  refine L0 (wanted_yesB rfl rfl rfl h3) rfl (y_move (v := Value.string ⟨⟨_⟩⟩) rfl rfl) ?_
  refine L0 (wanted_yesB rfl rfl rfl h3) rfl (y_len rfl Try.underlying9 rfl) ?_
  refine L0 (wanted_yesB rfl rfl rfl h3) rfl (y_gt rfl rfl rfl) ?_
  refine L0 (wanted_none rfl) rfl (y_pickF rfl rfl h3 rfl) ?_
  refine L0 (wanted_none rfl) rfl (y_move (v := Value.bool _) rfl rfl) ?_
  refine Lkn (t := 31) (b0 := false) rfl (by first | exact decide_eq_false (by omega) | exact bnF (by omega) | (simp; omega)) (fun h4 => ?_)
  refine L0 (wanted_yesB rfl rfl rfl h4) rfl (y_move (v := Value.string ⟨⟨_⟩⟩) rfl rfl) ?_
  refine L0 (wanted_yesB rfl rfl rfl h4) rfl (y_len rfl Try.underlying9 rfl) ?_
  refine L0 (wanted_yesB rfl rfl rfl h4) rfl (y_gt rfl rfl rfl) ?_
  refine L0 (wanted_none rfl) rfl (y_pickF rfl rfl h4 rfl) ?_
  refine Lnil ?_
  refine Wkn (t := 35) (b0 := false) rfl (by first | exact decide_eq_false (by omega) | exact bnF (by omega) | (simp; omega)) (fun h5 => ?_)
  refine W_condF rfl h5 ?_
  refine W_skip ?_
  refine W_seq ?_
  refine W_seq ?_
  refine W_region ?_
  refine Lc (wanted_none rfl) (c_call rfl rfl rfl Try.func8 (by kernel_rfl) rfl (streamed_any w1) rfl ?_)
  rintro _ w6 ⟨rfl, hc7⟩
  have hs8 := hs1.call0 hc7
  refine L0 (wanted_none rfl) rfl (y_not rfl rfl) ?_
  refine Lnil ?_
  refine Wkn (t := 37) (b0 := false) rfl (by rfl) (fun h9 => ?_)
  refine W_condF rfl h9 ?_
  refine W_skip ?_
  refine W_seq ?_
  refine W_region ?_
  refine L0 (wanted_none rfl) rfl (y_move (v := Value.string ⟨⟨_⟩⟩) rfl rfl) ?_
  refine L0 (wanted_none rfl) rfl (y_move (v := Value.int _ _) rfl rfl) ?_
  refine L0 (wanted_none rfl) rfl (y_move (v := Value.string ⟨⟨_⟩⟩) rfl rfl) ?_
  refine Lc (wanted_none rfl) (c_call rfl rfl rfl Try.func9 (by kernel_rfl) rfl (block_any _ _ _ v1.1 v1.2.1 v1.2.2.1 v1.2.2.2 w6) rfl ?_)
  rintro _ w10 ⟨rfl, hc11⟩
  have hs12 := hs8.call0 hc11
  refine L0 (wanted_none rfl) rfl (y_move (v := Value.tuple ⟨_⟩) rfl rfl) ?_
  refine L0 (wanted_none rfl) rfl (y_extract rfl rfl rfl) ?_
  refine L0 (wanted_none rfl) rfl (y_extract rfl rfl rfl) ?_
  refine L0 (wanted_none rfl) rfl (y_assign (v := Value.string ⟨⟨_⟩⟩) rfl rfl) ?_
  refine L0 (wanted_none rfl) rfl (y_assign (v := _) rfl rfl) ?_
  refine Lnil ?_
  refine W_seq ?_
  refine W_region ?_
  refine L0 (wanted_none rfl) rfl (y_move (v := Value.string ⟨⟨_⟩⟩) rfl rfl) ?_
  refine L0 (wanted_none rfl) rfl (y_move (v := Value.int _ _) rfl rfl) ?_
  refine L0 (wanted_none rfl) rfl (y_move (v := Value.string ⟨⟨_⟩⟩) rfl rfl) ?_
  refine Lc (wanted_none rfl) (c_call rfl rfl rfl Try.func9 (by kernel_rfl) rfl (block_err _ _ _ v2 w10) rfl ?_)
  rintro _ w13 ⟨rfl, hc14⟩
  have hs15 := hs12.call0 hc14
  refine L0 (wanted_none rfl) rfl (y_move (v := Value.tuple ⟨_⟩) rfl rfl) ?_
  refine L0 (wanted_none rfl) rfl (y_extract rfl rfl rfl) ?_
  refine L0 (wanted_none rfl) rfl (y_extract rfl rfl rfl) ?_
  refine L0 (wanted_none rfl) rfl (y_assign (v := Value.string ⟨⟨_⟩⟩) rfl rfl) ?_
  refine L0 (wanted_none rfl) rfl (y_assign (v := _) rfl rfl) ?_
  refine Lnil ?_
  refine W_seq ?_
  refine W_seq ?_
  refine W_region ?_
  refine L0 (wanted_none rfl) rfl (y_move (v := _) rfl rfl) ?_
  refine L0 (wanted_none rfl) rfl (y_neNilNil rfl Try.underlying24 rfl) ?_
  refine L0 (wanted_none rfl) rfl (y_move (v := Value.bool _) rfl rfl) ?_
  refine L0 (wanted_yesB rfl rfl rfl rfl) rfl (y_move (v := _) rfl rfl) ?_
  refine L0 (wanted_yesB rfl rfl rfl rfl) rfl (y_neNil rfl Try.underlying24 rfl) ?_
  refine L0 (wanted_none rfl) rfl (y_pickF rfl rfl (rfl : false = false) rfl) ?_
  refine Lnil ?_
  refine W_condT rfl rfl ?_
  refine W_seq ?_
  refine W_region ?_
  refine L0 (wanted_none rfl) rfl (y_assign (v := Value.bool _) rfl rfl) ?_
  refine Lnil ?_
  refine W_ret ?_
  refine fin1 (fn := Try.f3) rfl rfl ?_
  exact ⟨rfl, hs15⟩
theorem apart_oo (key other nonce more : List UInt8) (n m : Int) (l1 : key.length ≤ 40) (l2 : other.length ≤ 40) (l3 : nonce.length ≤ 40) (l4 : more.length ≤ 40) (v1 : valid key n nonce) (v2 : valid other m more) (w : World) :
    C Try.prog 3 ⟨[str key, str other, iv n, iv m, str nonce, str more]⟩ w fun v w' => v = .bool true ∧ St w [] w' := by
  refine C_enter (n := 105) Try.func3 rfl rfl rfl (fun w1 hs1 => ?_)
  refine W_seq ?_
  refine W_region ?_
  refine L0 (wanted_none rfl) rfl (y_assign (v := Value.bool _) rfl rfl) ?_
  refine Lnil ?_
  refine W_seq ?_
  refine W_seq ?_
  refine W_region ?_
  refine L0 (wanted_none rfl) rfl (y_move (v := Value.string ⟨⟨_⟩⟩) rfl rfl) ?_
  refine L0 (wanted_none rfl) rfl (y_len rfl Try.underlying9 rfl) ?_
  refine L0 (wanted_none rfl) rfl (y_gt rfl rfl rfl) ?_
  refine L0 (wanted_none rfl) rfl (y_move (v := Value.bool _) rfl rfl) ?_
  refine Lkn (t := 21) (b0 := false) rfl (by first | exact decide_eq_false (by omega) | exact bnF (by omega) | (simp; omega)) (fun h2 => ?_)
  refine L0 (wanted_yesB rfl rfl rfl h2) rfl (y_move (v := Value.string ⟨⟨_⟩⟩) rfl rfl) ?_
  refine L0 (wanted_yesB rfl rfl rfl h2) rfl (y_len rfl Try.underlying9 rfl) ?_
  refine L0 (wanted_yesB rfl rfl rfl h2) rfl (y_gt rfl rfl rfl) ?_
  refine L0 (wanted_none rfl) rfl (y_pickF rfl rfl h2 rfl) ?_
  refine L0 (wanted_none rfl) rfl (y_move (v := Value.bool _) rfl rfl) ?_
  refine Lkn (t := 26) (b0 := false) rfl (by first | exact decide_eq_false (by omega) | exact bnF (by omega) | (simp; omega)) (fun h3 => ?_)
  refine L0 (wanted_yesB rfl rfl rfl h3) rfl (y_move (v := Value.string ⟨⟨_⟩⟩) rfl rfl) ?_
  refine L0 (wanted_yesB rfl rfl rfl h3) rfl (y_len rfl Try.underlying9 rfl) ?_
  refine L0 (wanted_yesB rfl rfl rfl h3) rfl (y_gt rfl rfl rfl) ?_
  refine L0 (wanted_none rfl) rfl (y_pickF rfl rfl h3 rfl) ?_
  refine L0 (wanted_none rfl) rfl (y_move (v := Value.bool _) rfl rfl) ?_
  refine Lkn (t := 31) (b0 := false) rfl (by first | exact decide_eq_false (by omega) | exact bnF (by omega) | (simp; omega)) (fun h4 => ?_)
  refine L0 (wanted_yesB rfl rfl rfl h4) rfl (y_move (v := Value.string ⟨⟨_⟩⟩) rfl rfl) ?_
  refine L0 (wanted_yesB rfl rfl rfl h4) rfl (y_len rfl Try.underlying9 rfl) ?_
  refine L0 (wanted_yesB rfl rfl rfl h4) rfl (y_gt rfl rfl rfl) ?_
  refine L0 (wanted_none rfl) rfl (y_pickF rfl rfl h4 rfl) ?_
  refine Lnil ?_
  refine Wkn (t := 35) (b0 := false) rfl (by first | exact decide_eq_false (by omega) | exact bnF (by omega) | (simp; omega)) (fun h5 => ?_)
  refine W_condF rfl h5 ?_
  refine W_skip ?_
  refine W_seq ?_
  refine W_seq ?_
  refine W_region ?_
  refine Lc (wanted_none rfl) (c_call rfl rfl rfl Try.func8 (by kernel_rfl) rfl (streamed_any w1) rfl ?_)
  rintro _ w6 ⟨rfl, hc7⟩
  have hs8 := hs1.call0 hc7
  refine L0 (wanted_none rfl) rfl (y_not rfl rfl) ?_
  refine Lnil ?_
  refine Wkn (t := 37) (b0 := false) rfl (by rfl) (fun h9 => ?_)
  refine W_condF rfl h9 ?_
  refine W_skip ?_
  refine W_seq ?_
  refine W_region ?_
  refine L0 (wanted_none rfl) rfl (y_move (v := Value.string ⟨⟨_⟩⟩) rfl rfl) ?_
  refine L0 (wanted_none rfl) rfl (y_move (v := Value.int _ _) rfl rfl) ?_
  refine L0 (wanted_none rfl) rfl (y_move (v := Value.string ⟨⟨_⟩⟩) rfl rfl) ?_
  refine Lc (wanted_none rfl) (c_call rfl rfl rfl Try.func9 (by kernel_rfl) rfl (block_any _ _ _ v1.1 v1.2.1 v1.2.2.1 v1.2.2.2 w6) rfl ?_)
  rintro _ w10 ⟨rfl, hc11⟩
  have hs12 := hs8.call0 hc11
  refine L0 (wanted_none rfl) rfl (y_move (v := Value.tuple ⟨_⟩) rfl rfl) ?_
  refine L0 (wanted_none rfl) rfl (y_extract rfl rfl rfl) ?_
  refine L0 (wanted_none rfl) rfl (y_extract rfl rfl rfl) ?_
  refine L0 (wanted_none rfl) rfl (y_assign (v := Value.string ⟨⟨_⟩⟩) rfl rfl) ?_
  refine L0 (wanted_none rfl) rfl (y_assign (v := _) rfl rfl) ?_
  refine Lnil ?_
  refine W_seq ?_
  refine W_region ?_
  refine L0 (wanted_none rfl) rfl (y_move (v := Value.string ⟨⟨_⟩⟩) rfl rfl) ?_
  refine L0 (wanted_none rfl) rfl (y_move (v := Value.int _ _) rfl rfl) ?_
  refine L0 (wanted_none rfl) rfl (y_move (v := Value.string ⟨⟨_⟩⟩) rfl rfl) ?_
  refine Lc (wanted_none rfl) (c_call rfl rfl rfl Try.func9 (by kernel_rfl) rfl (block_any _ _ _ v2.1 v2.2.1 v2.2.2.1 v2.2.2.2 w10) rfl ?_)
  rintro _ w13 ⟨rfl, hc14⟩
  have hs15 := hs12.call0 hc14
  refine L0 (wanted_none rfl) rfl (y_move (v := Value.tuple ⟨_⟩) rfl rfl) ?_
  refine L0 (wanted_none rfl) rfl (y_extract rfl rfl rfl) ?_
  refine L0 (wanted_none rfl) rfl (y_extract rfl rfl rfl) ?_
  refine L0 (wanted_none rfl) rfl (y_assign (v := Value.string ⟨⟨_⟩⟩) rfl rfl) ?_
  refine L0 (wanted_none rfl) rfl (y_assign (v := _) rfl rfl) ?_
  refine Lnil ?_
  refine W_seq ?_
  refine W_seq ?_
  refine W_region ?_
  refine L0 (wanted_none rfl) rfl (y_move (v := _) rfl rfl) ?_
  refine L0 (wanted_none rfl) rfl (y_neNilNil rfl Try.underlying24 rfl) ?_
  refine L0 (wanted_none rfl) rfl (y_move (v := Value.bool _) rfl rfl) ?_
  refine L0 (wanted_yesB rfl rfl rfl rfl) rfl (y_move (v := _) rfl rfl) ?_
  refine L0 (wanted_yesB rfl rfl rfl rfl) rfl (y_neNilNil rfl Try.underlying24 rfl) ?_
  refine L0 (wanted_none rfl) rfl (y_pickF rfl rfl (rfl : false = false) rfl) ?_
  refine Lnil ?_
  refine W_condF rfl rfl ?_
  refine W_skip ?_
  refine W_seq ?_
  refine W_region ?_
  refine L0 (wanted_none rfl) rfl (y_move (v := Value.string ⟨⟨_⟩⟩) rfl rfl) ?_
  refine L0 (wanted_none rfl) rfl (y_move (v := Value.string ⟨⟨_⟩⟩) rfl rfl) ?_
  refine L0 (wanted_none rfl) rfl (y_seq rfl rfl rfl) ?_
  refine L0 (wanted_none rfl) rfl (y_move (v := Value.bool _) rfl rfl) ?_
  refine Lsp (t := 61) rfl (fun h16 => ?_) (fun h16 => ?_)
  · have h16' := h16
    first | replace h16' := of_decide_eq_true h16' | replace h16' := bnT' h16' | skip
    refine L0 (wanted_yesB rfl rfl rfl h16) rfl (y_move (v := Value.int _ _) rfl rfl) ?_
    refine L0 (wanted_yesB rfl rfl rfl h16) rfl (y_move (v := Value.int _ _) rfl rfl) ?_
    refine L0 (wanted_yesB rfl rfl rfl h16) rfl (y_eq rfl rfl rfl) ?_
    refine L0 (wanted_none rfl) rfl (y_pickT rfl rfl h16 rfl) ?_
    refine L0 (wanted_none rfl) rfl (y_move (v := Value.bool _) rfl rfl) ?_
    refine Lsp (t := 66) rfl (fun h17 => ?_) (fun h17 => ?_)
    · have h17' := h17
      first | replace h17' := of_decide_eq_true h17' | replace h17' := bnT' h17' | skip
      refine L0 (wanted_yesB rfl rfl rfl h17) rfl (y_move (v := Value.string ⟨⟨_⟩⟩) rfl rfl) ?_
      refine L0 (wanted_yesB rfl rfl rfl h17) rfl (y_move (v := Value.string ⟨⟨_⟩⟩) rfl rfl) ?_
      refine L0 (wanted_yesB rfl rfl rfl h17) rfl (y_seq rfl rfl rfl) ?_
      refine L0 (wanted_none rfl) rfl (y_pickT rfl rfl h17 rfl) ?_
      refine L0 (wanted_none rfl) rfl (y_assign (v := Value.bool _) rfl rfl) ?_
      refine Lnil ?_
      refine W_seq ?_
      refine W_region ?_
      refine L0 (wanted_none rfl) rfl (y_move (v := Value.string ⟨⟨_⟩⟩) rfl rfl) ?_
      refine L0 (wanted_none rfl) rfl (y_len rfl Try.underlying9 rfl) ?_
      refine L0 (wanted_none rfl) rfl (y_eq rfl rfl rfl) ?_
      refine L0 (wanted_none rfl) rfl (y_move (v := Value.bool _) rfl rfl) ?_
      refine Lkn (t := 74) (b0 := true) rfl (by rw [block_len]; rfl) (fun h18 => ?_)
      refine L0 (wanted_yesB rfl rfl rfl h18) rfl (y_move (v := Value.string ⟨⟨_⟩⟩) rfl rfl) ?_
      refine L0 (wanted_yesB rfl rfl rfl h18) rfl (y_len rfl Try.underlying9 rfl) ?_
      refine L0 (wanted_yesB rfl rfl rfl h18) rfl (y_eq rfl rfl rfl) ?_
      refine L0 (wanted_none rfl) rfl (y_pickT rfl rfl h18 rfl) ?_
      refine L0 (wanted_none rfl) rfl (y_move (v := Value.bool _) rfl rfl) ?_
      refine Lkn (t := 79) (b0 := true) rfl (by rw [block_len]; rfl) (fun h19 => ?_)
      refine L0 (wanted_yesB rfl rfl rfl h19) rfl (y_move (v := Value.string ⟨⟨_⟩⟩) rfl rfl) ?_
      refine L0 (wanted_yesB rfl rfl rfl h19) rfl (y_move (v := Value.string ⟨⟨_⟩⟩) rfl rfl) ?_
      refine L0 (wanted_yesB rfl rfl rfl h19) rfl (y_move (v := Value.int _ _) rfl rfl) ?_
      refine L0 (wanted_yesB rfl rfl rfl h19) rfl (y_move (v := Value.string ⟨⟨_⟩⟩) rfl rfl) ?_
      refine Lc (wanted_yesB rfl rfl rfl h19) (c_call rfl rfl rfl Try.func11 (by kernel_rfl) rfl (began_any _ _ _ (by omega) (by omega) w13) rfl ?_)
      rintro _ w20 ⟨rfl, hc21⟩
      have hs22 := hs15.call0 hc21
      refine Lc (wanted_yesB rfl rfl rfl h19) (c_call rfl rfl rfl Try.func10 (by kernel_rfl) rfl (less_any _ _ 16 (by rw [block_len]) (by rw [beganOf_len v1.1 v1.2.1]) (by omega) w20) rfl ?_)
      rintro _ w23 ⟨rfl, hc24⟩
      have hs25 := hs22.call0 hc24
      refine L0 (wanted_yesB rfl rfl rfl h19) rfl (y_move (v := Value.string ⟨⟨_⟩⟩) rfl rfl) ?_
      refine L0 (wanted_yesB rfl rfl rfl h19) rfl (y_move (v := Value.string ⟨⟨_⟩⟩) rfl rfl) ?_
      refine L0 (wanted_yesB rfl rfl rfl h19) rfl (y_move (v := Value.int _ _) rfl rfl) ?_
      refine L0 (wanted_yesB rfl rfl rfl h19) rfl (y_move (v := Value.string ⟨⟨_⟩⟩) rfl rfl) ?_
      refine Lc (wanted_yesB rfl rfl rfl h19) (c_call rfl rfl rfl Try.func11 (by kernel_rfl) rfl (began_any _ _ _ (by omega) (by omega) w23) rfl ?_)
      rintro _ w26 ⟨rfl, hc27⟩
      have hs28 := hs25.call0 hc27
      refine Lc (wanted_yesB rfl rfl rfl h19) (c_call rfl rfl rfl Try.func10 (by kernel_rfl) rfl (less_any _ _ 16 (by rw [block_len]) (by rw [beganOf_len v2.1 v2.2.1]) (by omega) w26) rfl ?_)
      rintro _ w29 ⟨rfl, hc30⟩
      have hs31 := hs28.call0 hc30
      refine L0 (wanted_yesB rfl rfl rfl h19) rfl (y_seq rfl rfl rfl) ?_
      refine L0 (wanted_yesB rfl rfl rfl h19) rfl (y_move (v := Value.bool _) rfl rfl) ?_
      refine L0 (wanted_yesB rfl rfl rfl h19) rfl (y_beq rfl Try.underlying4 rfl rfl) ?_
      refine L0 (wanted_none rfl) rfl (y_pickT rfl rfl h19 rfl) ?_
      refine L0 (wanted_none rfl) rfl (y_move (v := Value.bool _) rfl rfl) ?_
      refine Lkn (t := 96) (b0 := true) rfl (by simp only [less_iff v1.1 v2.1 v1.2.1 v2.2.1 v1.2.2.1 v1.2.2.2 v2.2.2.1 v2.2.2.2]; simp [*]) (fun h32 => ?_)
      refine L0 (wanted_yesB rfl rfl rfl h32) rfl (y_move (v := Value.bool _) rfl rfl) ?_
      refine L0 (wanted_yesB rfl rfl rfl h32) rfl (y_not rfl rfl) ?_
      refine L0 (wanted_yesB rfl rfl rfl h32) rfl (y_move (v := Value.bool _) rfl rfl) ?_
      refine Lsp (t := 99) rfl (fun h33 => ?_) (fun h33 => ?_)
      · have h33' := h33
        refine Lno (wanted_noB rfl rfl rfl h33 (by decide)) rfl ?_
        refine Lno (wanted_noB rfl rfl rfl h33 (by decide)) rfl ?_
        refine Lno (wanted_noB rfl rfl rfl h33 (by decide)) rfl ?_
        refine L0 (wanted_yesB rfl rfl rfl h32) rfl (y_pickT rfl rfl h33 rfl) ?_
        refine L0 (wanted_none rfl) rfl (y_pickT rfl rfl h32 rfl) ?_
        refine L0 (wanted_none rfl) rfl (y_assign (v := Value.bool _) rfl rfl) ?_
        refine Lnil ?_
        refine W_ret ?_
        refine fin1 (fn := Try.f3) rfl rfl ?_
        first | exact ⟨by with_reducible rfl, hs31⟩ | exact ⟨congrArg Value.bool (by simp_all), hs31⟩
      · have h33' := h33
        refine L0 (wanted_yesB rfl rfl rfl h33) rfl (y_move (v := Value.string ⟨⟨_⟩⟩) rfl rfl) ?_
        refine L0 (wanted_yesB rfl rfl rfl h33) rfl (y_move (v := Value.string ⟨⟨_⟩⟩) rfl rfl) ?_
        refine L0 (wanted_yesB rfl rfl rfl h33) rfl (y_seq rfl rfl rfl) ?_
        refine L0 (wanted_yesB rfl rfl rfl h32) rfl (y_pickF rfl rfl h33 rfl) ?_
        refine L0 (wanted_none rfl) rfl (y_pickT rfl rfl h32 rfl) ?_
        refine L0 (wanted_none rfl) rfl (y_assign (v := Value.bool _) rfl rfl) ?_
        refine Lnil ?_
        refine W_ret ?_
        refine fin1 (fn := Try.f3) rfl rfl ?_
        first | exact ⟨by with_reducible rfl, hs31⟩ | exact ⟨congrArg Value.bool (by simp_all), hs31⟩
    · have h17' := h17
      first | replace h17' := of_decide_eq_false h17' | replace h17' := bnF' h17' | skip
      refine Lno (wanted_noB rfl rfl rfl h17 (by decide)) rfl ?_
      refine Lno (wanted_noB rfl rfl rfl h17 (by decide)) rfl ?_
      refine Lno (wanted_noB rfl rfl rfl h17 (by decide)) rfl ?_
      refine L0 (wanted_none rfl) rfl (y_pickF rfl rfl h17 rfl) ?_
      refine L0 (wanted_none rfl) rfl (y_assign (v := Value.bool _) rfl rfl) ?_
      refine Lnil ?_
      refine W_seq ?_
      refine W_region ?_
      refine L0 (wanted_none rfl) rfl (y_move (v := Value.string ⟨⟨_⟩⟩) rfl rfl) ?_
      refine L0 (wanted_none rfl) rfl (y_len rfl Try.underlying9 rfl) ?_
      refine L0 (wanted_none rfl) rfl (y_eq rfl rfl rfl) ?_
      refine L0 (wanted_none rfl) rfl (y_move (v := Value.bool _) rfl rfl) ?_
      refine Lkn (t := 74) (b0 := true) rfl (by rw [block_len]; rfl) (fun h34 => ?_)
      refine L0 (wanted_yesB rfl rfl rfl h34) rfl (y_move (v := Value.string ⟨⟨_⟩⟩) rfl rfl) ?_
      refine L0 (wanted_yesB rfl rfl rfl h34) rfl (y_len rfl Try.underlying9 rfl) ?_
      refine L0 (wanted_yesB rfl rfl rfl h34) rfl (y_eq rfl rfl rfl) ?_
      refine L0 (wanted_none rfl) rfl (y_pickT rfl rfl h34 rfl) ?_
      refine L0 (wanted_none rfl) rfl (y_move (v := Value.bool _) rfl rfl) ?_
      refine Lkn (t := 79) (b0 := true) rfl (by rw [block_len]; rfl) (fun h35 => ?_)
      refine L0 (wanted_yesB rfl rfl rfl h35) rfl (y_move (v := Value.string ⟨⟨_⟩⟩) rfl rfl) ?_
      refine L0 (wanted_yesB rfl rfl rfl h35) rfl (y_move (v := Value.string ⟨⟨_⟩⟩) rfl rfl) ?_
      refine L0 (wanted_yesB rfl rfl rfl h35) rfl (y_move (v := Value.int _ _) rfl rfl) ?_
      refine L0 (wanted_yesB rfl rfl rfl h35) rfl (y_move (v := Value.string ⟨⟨_⟩⟩) rfl rfl) ?_
      refine Lc (wanted_yesB rfl rfl rfl h35) (c_call rfl rfl rfl Try.func11 (by kernel_rfl) rfl (began_any _ _ _ (by omega) (by omega) w13) rfl ?_)
      rintro _ w36 ⟨rfl, hc37⟩
      have hs38 := hs15.call0 hc37
      refine Lc (wanted_yesB rfl rfl rfl h35) (c_call rfl rfl rfl Try.func10 (by kernel_rfl) rfl (less_any _ _ 16 (by rw [block_len]) (by rw [beganOf_len v1.1 v1.2.1]) (by omega) w36) rfl ?_)
      rintro _ w39 ⟨rfl, hc40⟩
      have hs41 := hs38.call0 hc40
      refine L0 (wanted_yesB rfl rfl rfl h35) rfl (y_move (v := Value.string ⟨⟨_⟩⟩) rfl rfl) ?_
      refine L0 (wanted_yesB rfl rfl rfl h35) rfl (y_move (v := Value.string ⟨⟨_⟩⟩) rfl rfl) ?_
      refine L0 (wanted_yesB rfl rfl rfl h35) rfl (y_move (v := Value.int _ _) rfl rfl) ?_
      refine L0 (wanted_yesB rfl rfl rfl h35) rfl (y_move (v := Value.string ⟨⟨_⟩⟩) rfl rfl) ?_
      refine Lc (wanted_yesB rfl rfl rfl h35) (c_call rfl rfl rfl Try.func11 (by kernel_rfl) rfl (began_any _ _ _ (by omega) (by omega) w39) rfl ?_)
      rintro _ w42 ⟨rfl, hc43⟩
      have hs44 := hs41.call0 hc43
      refine Lc (wanted_yesB rfl rfl rfl h35) (c_call rfl rfl rfl Try.func10 (by kernel_rfl) rfl (less_any _ _ 16 (by rw [block_len]) (by rw [beganOf_len v2.1 v2.2.1]) (by omega) w42) rfl ?_)
      rintro _ w45 ⟨rfl, hc46⟩
      have hs47 := hs44.call0 hc46
      refine L0 (wanted_yesB rfl rfl rfl h35) rfl (y_seq rfl rfl rfl) ?_
      refine L0 (wanted_yesB rfl rfl rfl h35) rfl (y_move (v := Value.bool _) rfl rfl) ?_
      refine L0 (wanted_yesB rfl rfl rfl h35) rfl (y_beq rfl Try.underlying4 rfl rfl) ?_
      refine L0 (wanted_none rfl) rfl (y_pickT rfl rfl h35 rfl) ?_
      refine L0 (wanted_none rfl) rfl (y_move (v := Value.bool _) rfl rfl) ?_
      refine Lkn (t := 96) (b0 := true) rfl (by simp only [less_iff v1.1 v2.1 v1.2.1 v2.2.1 v1.2.2.1 v1.2.2.2 v2.2.2.1 v2.2.2.2]; simp [*]) (fun h48 => ?_)
      refine L0 (wanted_yesB rfl rfl rfl h48) rfl (y_move (v := Value.bool _) rfl rfl) ?_
      refine L0 (wanted_yesB rfl rfl rfl h48) rfl (y_not rfl rfl) ?_
      refine L0 (wanted_yesB rfl rfl rfl h48) rfl (y_move (v := Value.bool _) rfl rfl) ?_
      refine Lsp (t := 99) rfl (fun h49 => ?_) (fun h49 => ?_)
      · have h49' := h49
        refine Lno (wanted_noB rfl rfl rfl h49 (by decide)) rfl ?_
        refine Lno (wanted_noB rfl rfl rfl h49 (by decide)) rfl ?_
        refine Lno (wanted_noB rfl rfl rfl h49 (by decide)) rfl ?_
        refine L0 (wanted_yesB rfl rfl rfl h48) rfl (y_pickT rfl rfl h49 rfl) ?_
        refine L0 (wanted_none rfl) rfl (y_pickT rfl rfl h48 rfl) ?_
        refine L0 (wanted_none rfl) rfl (y_assign (v := Value.bool _) rfl rfl) ?_
        refine Lnil ?_
        refine W_ret ?_
        refine fin1 (fn := Try.f3) rfl rfl ?_
        first | exact ⟨by with_reducible rfl, hs47⟩ | exact ⟨congrArg Value.bool (by simp_all), hs47⟩
      · have h49' := h49
        refine L0 (wanted_yesB rfl rfl rfl h49) rfl (y_move (v := Value.string ⟨⟨_⟩⟩) rfl rfl) ?_
        refine L0 (wanted_yesB rfl rfl rfl h49) rfl (y_move (v := Value.string ⟨⟨_⟩⟩) rfl rfl) ?_
        refine L0 (wanted_yesB rfl rfl rfl h49) rfl (y_seq rfl rfl rfl) ?_
        refine L0 (wanted_yesB rfl rfl rfl h48) rfl (y_pickF rfl rfl h49 rfl) ?_
        refine L0 (wanted_none rfl) rfl (y_pickT rfl rfl h48 rfl) ?_
        refine L0 (wanted_none rfl) rfl (y_assign (v := Value.bool _) rfl rfl) ?_
        refine Lnil ?_
        refine W_ret ?_
        refine fin1 (fn := Try.f3) rfl rfl ?_
        first | exact ⟨by with_reducible rfl, hs47⟩ | exact ⟨congrArg Value.bool (by simp_all), hs47⟩
  · have h16' := h16
    first | replace h16' := of_decide_eq_false h16' | replace h16' := bnF' h16' | skip
    refine Lno (wanted_noB rfl rfl rfl h16 (by decide)) rfl ?_
    refine Lno (wanted_noB rfl rfl rfl h16 (by decide)) rfl ?_
    refine Lno (wanted_noB rfl rfl rfl h16 (by decide)) rfl ?_
    refine L0 (wanted_none rfl) rfl (y_pickF rfl rfl h16 rfl) ?_
    refine L0 (wanted_none rfl) rfl (y_move (v := Value.bool _) rfl rfl) ?_
    refine Lno (wanted_noB rfl rfl rfl rfl (by decide)) rfl ?_
    refine Lno (wanted_noB rfl rfl rfl rfl (by decide)) rfl ?_
    refine Lno (wanted_noB rfl rfl rfl rfl (by decide)) rfl ?_
    refine L0 (wanted_none rfl) rfl (y_pickF rfl rfl (rfl : false = false) rfl) ?_
    refine L0 (wanted_none rfl) rfl (y_assign (v := Value.bool _) rfl rfl) ?_
    refine Lnil ?_
    refine W_seq ?_
    refine W_region ?_
    refine L0 (wanted_none rfl) rfl (y_move (v := Value.string ⟨⟨_⟩⟩) rfl rfl) ?_
    refine L0 (wanted_none rfl) rfl (y_len rfl Try.underlying9 rfl) ?_
    refine L0 (wanted_none rfl) rfl (y_eq rfl rfl rfl) ?_
    refine L0 (wanted_none rfl) rfl (y_move (v := Value.bool _) rfl rfl) ?_
    refine Lkn (t := 74) (b0 := true) rfl (by rw [block_len]; rfl) (fun h50 => ?_)
    refine L0 (wanted_yesB rfl rfl rfl h50) rfl (y_move (v := Value.string ⟨⟨_⟩⟩) rfl rfl) ?_
    refine L0 (wanted_yesB rfl rfl rfl h50) rfl (y_len rfl Try.underlying9 rfl) ?_
    refine L0 (wanted_yesB rfl rfl rfl h50) rfl (y_eq rfl rfl rfl) ?_
    refine L0 (wanted_none rfl) rfl (y_pickT rfl rfl h50 rfl) ?_
    refine L0 (wanted_none rfl) rfl (y_move (v := Value.bool _) rfl rfl) ?_
    refine Lkn (t := 79) (b0 := true) rfl (by rw [block_len]; rfl) (fun h51 => ?_)
    refine L0 (wanted_yesB rfl rfl rfl h51) rfl (y_move (v := Value.string ⟨⟨_⟩⟩) rfl rfl) ?_
    refine L0 (wanted_yesB rfl rfl rfl h51) rfl (y_move (v := Value.string ⟨⟨_⟩⟩) rfl rfl) ?_
    refine L0 (wanted_yesB rfl rfl rfl h51) rfl (y_move (v := Value.int _ _) rfl rfl) ?_
    refine L0 (wanted_yesB rfl rfl rfl h51) rfl (y_move (v := Value.string ⟨⟨_⟩⟩) rfl rfl) ?_
    refine Lc (wanted_yesB rfl rfl rfl h51) (c_call rfl rfl rfl Try.func11 (by kernel_rfl) rfl (began_any _ _ _ (by omega) (by omega) w13) rfl ?_)
    rintro _ w52 ⟨rfl, hc53⟩
    have hs54 := hs15.call0 hc53
    refine Lc (wanted_yesB rfl rfl rfl h51) (c_call rfl rfl rfl Try.func10 (by kernel_rfl) rfl (less_any _ _ 16 (by rw [block_len]) (by rw [beganOf_len v1.1 v1.2.1]) (by omega) w52) rfl ?_)
    rintro _ w55 ⟨rfl, hc56⟩
    have hs57 := hs54.call0 hc56
    refine L0 (wanted_yesB rfl rfl rfl h51) rfl (y_move (v := Value.string ⟨⟨_⟩⟩) rfl rfl) ?_
    refine L0 (wanted_yesB rfl rfl rfl h51) rfl (y_move (v := Value.string ⟨⟨_⟩⟩) rfl rfl) ?_
    refine L0 (wanted_yesB rfl rfl rfl h51) rfl (y_move (v := Value.int _ _) rfl rfl) ?_
    refine L0 (wanted_yesB rfl rfl rfl h51) rfl (y_move (v := Value.string ⟨⟨_⟩⟩) rfl rfl) ?_
    refine Lc (wanted_yesB rfl rfl rfl h51) (c_call rfl rfl rfl Try.func11 (by kernel_rfl) rfl (began_any _ _ _ (by omega) (by omega) w55) rfl ?_)
    rintro _ w58 ⟨rfl, hc59⟩
    have hs60 := hs57.call0 hc59
    refine Lc (wanted_yesB rfl rfl rfl h51) (c_call rfl rfl rfl Try.func10 (by kernel_rfl) rfl (less_any _ _ 16 (by rw [block_len]) (by rw [beganOf_len v2.1 v2.2.1]) (by omega) w58) rfl ?_)
    rintro _ w61 ⟨rfl, hc62⟩
    have hs63 := hs60.call0 hc62
    refine L0 (wanted_yesB rfl rfl rfl h51) rfl (y_seq rfl rfl rfl) ?_
    refine L0 (wanted_yesB rfl rfl rfl h51) rfl (y_move (v := Value.bool _) rfl rfl) ?_
    refine L0 (wanted_yesB rfl rfl rfl h51) rfl (y_beq rfl Try.underlying4 rfl rfl) ?_
    refine L0 (wanted_none rfl) rfl (y_pickT rfl rfl h51 rfl) ?_
    refine L0 (wanted_none rfl) rfl (y_move (v := Value.bool _) rfl rfl) ?_
    refine Lkn (t := 96) (b0 := true) rfl (by simp only [less_iff v1.1 v2.1 v1.2.1 v2.2.1 v1.2.2.1 v1.2.2.2 v2.2.2.1 v2.2.2.2]; simp [*]) (fun h64 => ?_)
    refine L0 (wanted_yesB rfl rfl rfl h64) rfl (y_move (v := Value.bool _) rfl rfl) ?_
    refine L0 (wanted_yesB rfl rfl rfl h64) rfl (y_not rfl rfl) ?_
    refine L0 (wanted_yesB rfl rfl rfl h64) rfl (y_move (v := Value.bool _) rfl rfl) ?_
    refine Lsp (t := 99) rfl (fun h65 => ?_) (fun h65 => ?_)
    · have h65' := h65
      refine Lno (wanted_noB rfl rfl rfl h65 (by decide)) rfl ?_
      refine Lno (wanted_noB rfl rfl rfl h65 (by decide)) rfl ?_
      refine Lno (wanted_noB rfl rfl rfl h65 (by decide)) rfl ?_
      refine L0 (wanted_yesB rfl rfl rfl h64) rfl (y_pickT rfl rfl h65 rfl) ?_
      refine L0 (wanted_none rfl) rfl (y_pickT rfl rfl h64 rfl) ?_
      refine L0 (wanted_none rfl) rfl (y_assign (v := Value.bool _) rfl rfl) ?_
      refine Lnil ?_
      refine W_ret ?_
      refine fin1 (fn := Try.f3) rfl rfl ?_
      first | exact ⟨by with_reducible rfl, hs63⟩ | exact ⟨congrArg Value.bool (by simp_all), hs63⟩
    · have h65' := h65
      refine L0 (wanted_yesB rfl rfl rfl h65) rfl (y_move (v := Value.string ⟨⟨_⟩⟩) rfl rfl) ?_
      refine L0 (wanted_yesB rfl rfl rfl h65) rfl (y_move (v := Value.string ⟨⟨_⟩⟩) rfl rfl) ?_
      refine L0 (wanted_yesB rfl rfl rfl h65) rfl (y_seq rfl rfl rfl) ?_
      refine L0 (wanted_yesB rfl rfl rfl h64) rfl (y_pickF rfl rfl h65 rfl) ?_
      refine L0 (wanted_none rfl) rfl (y_pickT rfl rfl h64 rfl) ?_
      refine L0 (wanted_none rfl) rfl (y_assign (v := Value.bool _) rfl rfl) ?_
      refine Lnil ?_
      refine W_ret ?_
      refine fin1 (fn := Try.f3) rfl rfl ?_
      first | exact ⟨by with_reducible rfl, hs63⟩ | exact ⟨congrArg Value.bool (by simp_all), hs63⟩
theorem apart_any (key other nonce more : List UInt8) (n m : Int) (w : World) :
    C Try.prog 3 ⟨[str key, str other, iv n, iv m, str nonce, str more]⟩ w fun v w' => v = .bool true ∧ St w [] w' := by
  by_cases h : 40 < key.length ∨ 40 < other.length ∨ 40 < nonce.length ∨ 40 < more.length
  · exact apart_long key other nonce more n m h w
  · by_cases v1 : valid key n nonce <;> by_cases v2 : valid other m more
    · exact apart_oo key other nonce more n m (by omega) (by omega) (by omega) (by omega) v1 v2 w
    · exact apart_oe key other nonce more n m (by omega) (by omega) (by omega) (by omega) v1 v2 w
    · exact apart_eo key other nonce more n m (by omega) (by omega) (by omega) (by omega) v1 v2 w
    · exact apart_ee key other nonce more n m (by omega) (by omega) (by omega) (by omega) v1 v2 w
end Go.Proofs.Ytkolfgmpmnelmaa

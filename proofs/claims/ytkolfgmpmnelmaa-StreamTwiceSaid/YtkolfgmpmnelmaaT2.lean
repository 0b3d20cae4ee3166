/-
  Walks: keep.StreamTwice, and its plain law.
-/
import Derived.Test.YtkolfgmpmnelmaaT1
namespace Go.Proofs.Ytkolfgmpmnelmaa
open Go Vx Go.Proofs
set_option linter.unusedVariables false
set_option maxHeartbeats 400000
set_option maxRecDepth 4000

theorem xorOf_len (k n s : List UInt8) : (xorOf k n s).length = s.length := xorN_len _ _ _
theorem xorOf_getD (k n s : List UInt8) (j : Nat) (h : j < s.length) : (xorOf k n s).getD j 0 = s.getD j 0 ^^^ ks k n j := by
  rw [xorOf, xorN_getD _ _ _ _ h, if_pos h]
theorem list_ext {a b : List UInt8} (hl : a.length = b.length) (h : ∀ j, j < a.length → a.getD j 0 = b.getD j 0) : a = b := by
  apply List.ext_getElem hl
  intro j h1 h2
  have := h j h1
  rw [List.getD_eq_getElem?_getD, List.getD_eq_getElem?_getD, List.getElem?_eq_getElem h1, List.getElem?_eq_getElem h2] at this
  exact this
theorem xor_cancel (a b : UInt8) : a ^^^ b ^^^ b = a := by rw [UInt8.xor_assoc, UInt8.xor_self, UInt8.xor_zero]
theorem xor_xor (k n s : List UInt8) : xorOf k n (xorOf k n s) = s := by
  apply list_ext (by rw [xorOf_len, xorOf_len])
  intro j h
  rw [xorOf_len, xorOf_len] at h
  rw [xorOf_getD _ _ _ _ (by rw [xorOf_len]; exact h), xorOf_getD _ _ _ _ h, xor_cancel]
theorem getD_take (s : List UInt8) (c j : Nat) (h : j < c) : (s.take c).getD j 0 = s.getD j 0 := by
  rw [List.getD_eq_getElem?_getD, List.getD_eq_getElem?_getD, List.getElem?_take_of_lt h]
theorem xor_take (k n s : List UInt8) (c : Nat) : xorOf k n (s.take c) = (xorOf k n s).take c := by
  apply list_ext (by rw [xorOf_len, List.length_take, List.length_take, xorOf_len])
  intro j h
  rw [xorOf_len, List.length_take] at h
  rw [xorOf_getD _ _ _ _ (by rw [List.length_take]; exact h), getD_take _ _ _ (by omega), getD_take _ _ _ (by omega), xorOf_getD _ _ _ _ (by omega)]
theorem xor_pair (k n s t : List UInt8) (j : Nat) (h1 : j < s.length) (h2 : j < t.length) : (xorOf k n s).getD j 0 ^^^ (xorOf k n t).getD j 0 = s.getD j 0 ^^^ t.getD j 0 := by
  rw [xorOf_getD _ _ _ _ h1, xorOf_getD _ _ _ _ h2]
  have h : ∀ a b c : UInt8, (a ^^^ c) ^^^ (b ^^^ c) = a ^^^ b := fun a b c => by
    rw [UInt8.xor_assoc, UInt8.xor_comm b c, ← UInt8.xor_assoc c c b, UInt8.xor_self, UInt8.zero_xor]
  exact h _ _ _

theorem twice_long (key nonce s t : List UInt8) (cut : Int) (h : 40 < key.length ∨ 40 < nonce.length ∨ 300 < s.length ∨ 300 < t.length) (w : World) :
    C Try.prog 4 ⟨[str key, str nonce, str s, str t, iv cut]⟩ w fun v w' => v = .bool true ∧ St w [] w' := by
  refine C_enter (n := 138) Try.func4 rfl rfl rfl (fun w1 hs1 => ?_)
  refine W_seq ?_
  refine W_region ?_
  refine L0 (wanted_none rfl) rfl (y_assign (v := Value.bool _) rfl rfl) ?_
  refine Lnil ?_
  refine W_seq ?_
  refine W_seq ?_
  refine W_region ?_
  refine L0 (wanted_none rfl) rfl (y_move (v := Value.string ⟨⟨_⟩⟩) rfl rfl) ?_
  refine L0 (wanted_none rfl) rfl (y_len rfl Try.underlying9 rfl) ?_
  refine L0 (wanted_none rfl) rfl (y_gt rfl rfl rfl) ?_
  refine L0 (wanted_none rfl) rfl (y_move (v := Value.bool _) rfl rfl) ?_
  refine Lsp (t := 22) rfl (fun h2 => ?_) (fun h2 => ?_)
  · have h2' := h2
    first | replace h2' := of_decide_eq_true h2' | replace h2' := bnT' h2' | skip
    refine Lno (wanted_noB rfl rfl rfl h2 (by decide)) rfl ?_
    refine Lno (wanted_noB rfl rfl rfl h2 (by decide)) rfl ?_
    refine Lno (wanted_noB rfl rfl rfl h2 (by decide)) rfl ?_
    refine L0 (wanted_none rfl) rfl (y_pickT rfl rfl h2 rfl) ?_
    refine L0 (wanted_none rfl) rfl (y_move (v := Value.bool _) rfl rfl) ?_
    refine Lno (wanted_noB rfl rfl rfl rfl (by decide)) rfl ?_
    refine Lno (wanted_noB rfl rfl rfl rfl (by decide)) rfl ?_
    refine Lno (wanted_noB rfl rfl rfl rfl (by decide)) rfl ?_
    refine L0 (wanted_none rfl) rfl (y_pickT rfl rfl (rfl : true = true) rfl) ?_
    refine L0 (wanted_none rfl) rfl (y_move (v := Value.bool _) rfl rfl) ?_
    refine Lno (wanted_noB rfl rfl rfl rfl (by decide)) rfl ?_
    refine Lno (wanted_noB rfl rfl rfl rfl (by decide)) rfl ?_
    refine Lno (wanted_noB rfl rfl rfl rfl (by decide)) rfl ?_
    refine L0 (wanted_none rfl) rfl (y_pickT rfl rfl (rfl : true = true) rfl) ?_
    refine Lnil ?_
    refine W_condT rfl rfl ?_
    refine W_seq ?_
    refine W_region ?_
    refine L0 (wanted_none rfl) rfl (y_assign (v := Value.bool _) rfl rfl) ?_
    refine Lnil ?_
    refine W_ret ?_
    refine fin1 (fn := Try.f4) rfl rfl ?_
    exact ⟨rfl, hs1⟩
  · have h2' := h2
    first | replace h2' := of_decide_eq_false h2' | replace h2' := bnF' h2' | skip
    refine L0 (wanted_yesB rfl rfl rfl h2) rfl (y_move (v := Value.string ⟨⟨_⟩⟩) rfl rfl) ?_
    refine L0 (wanted_yesB rfl rfl rfl h2) rfl (y_len rfl Try.underlying9 rfl) ?_
    refine L0 (wanted_yesB rfl rfl rfl h2) rfl (y_gt rfl rfl rfl) ?_
    refine L0 (wanted_none rfl) rfl (y_pickF rfl rfl h2 rfl) ?_
    refine L0 (wanted_none rfl) rfl (y_move (v := Value.bool _) rfl rfl) ?_
    refine Lsp (t := 27) rfl (fun h3 => ?_) (fun h3 => ?_)
    · have h3' := h3
      first | replace h3' := of_decide_eq_true h3' | replace h3' := bnT' h3' | skip
      refine Lno (wanted_noB rfl rfl rfl h3 (by decide)) rfl ?_
      refine Lno (wanted_noB rfl rfl rfl h3 (by decide)) rfl ?_
      refine Lno (wanted_noB rfl rfl rfl h3 (by decide)) rfl ?_
      refine L0 (wanted_none rfl) rfl (y_pickT rfl rfl h3 rfl) ?_
      refine L0 (wanted_none rfl) rfl (y_move (v := Value.bool _) rfl rfl) ?_
      refine Lno (wanted_noB rfl rfl rfl rfl (by decide)) rfl ?_
      refine Lno (wanted_noB rfl rfl rfl rfl (by decide)) rfl ?_
      refine Lno (wanted_noB rfl rfl rfl rfl (by decide)) rfl ?_
      refine L0 (wanted_none rfl) rfl (y_pickT rfl rfl (rfl : true = true) rfl) ?_
      refine Lnil ?_
      refine W_condT rfl rfl ?_
      refine W_seq ?_
      refine W_region ?_
      refine L0 (wanted_none rfl) rfl (y_assign (v := Value.bool _) rfl rfl) ?_
      refine Lnil ?_
      refine W_ret ?_
      refine fin1 (fn := Try.f4) rfl rfl ?_
      exact ⟨rfl, hs1⟩
    · have h3' := h3
      first | replace h3' := of_decide_eq_false h3' | replace h3' := bnF' h3' | skip
      refine L0 (wanted_yesB rfl rfl rfl h3) rfl (y_move (v := Value.string ⟨⟨_⟩⟩) rfl rfl) ?_
      refine L0 (wanted_yesB rfl rfl rfl h3) rfl (y_len rfl Try.underlying9 rfl) ?_
      refine L0 (wanted_yesB rfl rfl rfl h3) rfl (y_gt rfl rfl rfl) ?_
      refine L0 (wanted_none rfl) rfl (y_pickF rfl rfl h3 rfl) ?_
      refine L0 (wanted_none rfl) rfl (y_move (v := Value.bool _) rfl rfl) ?_
      refine Lsp (t := 32) rfl (fun h4 => ?_) (fun h4 => ?_)
      · have h4' := h4
        first | replace h4' := of_decide_eq_true h4' | replace h4' := bnT' h4' | skip
        refine Lno (wanted_noB rfl rfl rfl h4 (by decide)) rfl ?_
        refine Lno (wanted_noB rfl rfl rfl h4 (by decide)) rfl ?_
        refine Lno (wanted_noB rfl rfl rfl h4 (by decide)) rfl ?_
        refine L0 (wanted_none rfl) rfl (y_pickT rfl rfl h4 rfl) ?_
        refine Lnil ?_
        refine W_condT rfl rfl ?_
        refine W_seq ?_
        refine W_region ?_
        refine L0 (wanted_none rfl) rfl (y_assign (v := Value.bool _) rfl rfl) ?_
        refine Lnil ?_
        refine W_ret ?_
        refine fin1 (fn := Try.f4) rfl rfl ?_
        exact ⟨rfl, hs1⟩
      · have h4' := h4
        first | replace h4' := of_decide_eq_false h4' | replace h4' := bnF' h4' | skip
        refine L0 (wanted_yesB rfl rfl rfl h4) rfl (y_move (v := Value.string ⟨⟨_⟩⟩) rfl rfl) ?_
        refine L0 (wanted_yesB rfl rfl rfl h4) rfl (y_len rfl Try.underlying9 rfl) ?_
        refine L0 (wanted_yesB rfl rfl rfl h4) rfl (y_gt rfl rfl rfl) ?_
        refine L0 (wanted_none rfl) rfl (y_pickF rfl rfl h4 rfl) ?_
        refine Lnil ?_
        refine Wkn (t := 36) (b0 := true) rfl (by first | exact decide_eq_true (by omega) | exact bnT (by omega) | (simp; omega)) (fun h5 => ?_)
        refine W_condT rfl h5 ?_
        refine W_seq ?_
        refine W_region ?_
        refine L0 (wanted_none rfl) rfl (y_assign (v := Value.bool _) rfl rfl) ?_
        refine Lnil ?_
        refine W_ret ?_
        refine fin1 (fn := Try.f4) rfl rfl ?_
        exact ⟨rfl, hs1⟩
theorem twice_err (key nonce s t : List UInt8) (cut : Int) (l1 : key.length ≤ 40) (l2 : nonce.length ≤ 40) (l3 : s.length ≤ 300) (l4 : t.length ≤ 300) (h : ¬ (key.length = 32 ∧ nonce.length = 12)) (w : World) :
    C Try.prog 4 ⟨[str key, str nonce, str s, str t, iv cut]⟩ w fun v w' => v = .bool true ∧ St w [] w' := by
  refine C_enter (n := 138) Try.func4 rfl rfl rfl (fun w1 hs1 => ?_)
  refine W_seq ?_
  refine W_region ?_
  refine L0 (wanted_none rfl) rfl (y_assign (v := Value.bool _) rfl rfl) ?_
  refine Lnil ?_
  refine W_seq ?_
  refine W_seq ?_
  refine W_region ?_
  refine L0 (wanted_none rfl) rfl (y_move (v := Value.string ⟨⟨_⟩⟩) rfl rfl) ?_
  refine L0 (wanted_none rfl) rfl (y_len rfl Try.underlying9 rfl) ?_
  refine L0 (wanted_none rfl) rfl (y_gt rfl rfl rfl) ?_
  refine L0 (wanted_none rfl) rfl (y_move (v := Value.bool _) rfl rfl) ?_
  refine Lkn (t := 22) (b0 := false) rfl (by first | exact decide_eq_false (by omega) | exact bnF (by omega) | (simp; omega)) (fun h2 => ?_)
  refine L0 (wanted_yesB rfl rfl rfl h2) rfl (y_move (v := Value.string ⟨⟨_⟩⟩) rfl rfl) ?_
  refine L0 (wanted_yesB rfl rfl rfl h2) rfl (y_len rfl Try.underlying9 rfl) ?_
  refine L0 (wanted_yesB rfl rfl rfl h2) rfl (y_gt rfl rfl rfl) ?_
  refine L0 (wanted_none rfl) rfl (y_pickF rfl rfl h2 rfl) ?_
  refine L0 (wanted_none rfl) rfl (y_move (v := Value.bool _) rfl rfl) ?_
  refine Lkn (t := 27) (b0 := false) rfl (by first | exact decide_eq_false (by omega) | exact bnF (by omega) | (simp; omega)) (fun h3 => ?_)
  refine L0 (wanted_yesB rfl rfl rfl h3) rfl (y_move (v := Value.string ⟨⟨_⟩⟩) rfl rfl) ?_
  refine L0 (wanted_yesB rfl rfl rfl h3) rfl (y_len rfl Try.underlying9 rfl) ?_
  refine L0 (wanted_yesB rfl rfl rfl h3) rfl (y_gt rfl rfl rfl) ?_
  refine L0 (wanted_none rfl) rfl (y_pickF rfl rfl h3 rfl) ?_
  refine L0 (wanted_none rfl) rfl (y_move (v := Value.bool _) rfl rfl) ?_
  refine Lkn (t := 32) (b0 := false) rfl (by first | exact decide_eq_false (by omega) | exact bnF (by omega) | (simp; omega)) (fun h4 => ?_)
  refine L0 (wanted_yesB rfl rfl rfl h4) rfl (y_move (v := Value.string ⟨⟨_⟩⟩) rfl rfl) ?_
  refine L0 (wanted_yesB rfl rfl rfl h4) rfl (y_len rfl Try.underlying9 rfl) ?_
  refine L0 (wanted_yesB rfl rfl rfl h4) rfl (y_gt rfl rfl rfl) ?_
  refine L0 (wanted_none rfl) rfl (y_pickF rfl rfl h4 rfl) ?_
  refine Lnil ?_
  refine Wkn (t := 36) (b0 := false) rfl (by first | exact decide_eq_false (by omega) | exact bnF (by omega) | (simp; omega)) (fun h5 => ?_)
  refine W_condF rfl h5 ?_
  refine W_skip ?_
  refine W_seq ?_
  refine W_seq ?_
  refine W_region ?_
  refine Lc (wanted_none rfl) (c_call rfl rfl rfl Try.func8 (by kernel_rfl) rfl (streamed_any w1) rfl ?_)
  rintro _ w6 ⟨rfl, hc7⟩
  have hs8 := hs1.call0 hc7
  refine L0 (wanted_none rfl) rfl (y_not rfl rfl) ?_
  refine Lnil ?_
  refine Wkn (t := 38) (b0 := false) rfl (by rfl) (fun h9 => ?_)
  refine W_condF rfl h9 ?_
  refine W_skip ?_
  refine W_seq ?_
  refine W_region ?_
  refine L0 (wanted_none rfl) rfl (y_move (v := Value.string ⟨⟨_⟩⟩) rfl rfl) ?_
  refine L0 (wanted_none rfl) rfl (y_move (v := Value.string ⟨⟨_⟩⟩) rfl rfl) ?_
  refine L0 (wanted_none rfl) rfl (y_move (v := Value.string ⟨⟨_⟩⟩) rfl rfl) ?_
  refine Lc (wanted_none rfl) (c_call rfl rfl rfl Try.func12 (by kernel_rfl) rfl (xor_err _ _ _ (by omega) h w6) rfl ?_)
  rintro _ w10 ⟨rfl, hc11⟩
  have hs12 := hs8.call0 hc11
  refine L0 (wanted_none rfl) rfl (y_move (v := Value.tuple ⟨_⟩) rfl rfl) ?_
  refine L0 (wanted_none rfl) rfl (y_extract rfl rfl rfl) ?_
  refine L0 (wanted_none rfl) rfl (y_extract rfl rfl rfl) ?_
  refine L0 (wanted_none rfl) rfl (y_assign (v := Value.string ⟨⟨_⟩⟩) rfl rfl) ?_
  refine L0 (wanted_none rfl) rfl (y_assign (v := _) rfl rfl) ?_
  refine Lnil ?_
  refine W_seq ?_
  refine W_region ?_
  refine L0 (wanted_none rfl) rfl (y_move (v := Value.string ⟨⟨_⟩⟩) rfl rfl) ?_
  refine L0 (wanted_none rfl) rfl (y_move (v := Value.string ⟨⟨_⟩⟩) rfl rfl) ?_
  refine L0 (wanted_none rfl) rfl (y_move (v := Value.string ⟨⟨_⟩⟩) rfl rfl) ?_
  refine Lc (wanted_none rfl) (c_call rfl rfl rfl Try.func12 (by kernel_rfl) rfl (xor_err _ _ _ (by omega) h w10) rfl ?_)
  rintro _ w13 ⟨rfl, hc14⟩
  have hs15 := hs12.call0 hc14
  refine L0 (wanted_none rfl) rfl (y_move (v := Value.tuple ⟨_⟩) rfl rfl) ?_
  refine L0 (wanted_none rfl) rfl (y_extract rfl rfl rfl) ?_
  refine L0 (wanted_none rfl) rfl (y_extract rfl rfl rfl) ?_
  refine L0 (wanted_none rfl) rfl (y_assign (v := Value.string ⟨⟨_⟩⟩) rfl rfl) ?_
  refine L0 (wanted_none rfl) rfl (y_assign (v := _) rfl rfl) ?_
  refine Lnil ?_
  refine W_seq ?_
  refine W_seq ?_
  refine W_region ?_
  refine L0 (wanted_none rfl) rfl (y_move (v := _) rfl rfl) ?_
  refine L0 (wanted_none rfl) rfl (y_neNil rfl Try.underlying24 rfl) ?_
  refine L0 (wanted_none rfl) rfl (y_move (v := Value.bool _) rfl rfl) ?_
  refine Lno (wanted_noB rfl rfl rfl rfl (by decide)) rfl ?_
  refine Lno (wanted_noB rfl rfl rfl rfl (by decide)) rfl ?_
  refine L0 (wanted_none rfl) rfl (y_pickT rfl rfl (rfl : true = true) rfl) ?_
  refine Lnil ?_
  refine W_condT rfl rfl ?_
  refine W_seq ?_
  refine W_region ?_
  refine L0 (wanted_none rfl) rfl (y_move (v := Value.string ⟨⟨_⟩⟩) rfl rfl) ?_
  refine L0 (wanted_none rfl) rfl (y_len rfl Try.underlying9 rfl) ?_
  refine L0 (wanted_none rfl) rfl (y_ne rfl rfl rfl) ?_
  refine L0 (wanted_none rfl) rfl (y_move (v := Value.bool _) rfl rfl) ?_
  refine Lsp (t := 62) rfl (fun h16 => ?_) (fun h16 => ?_)
  · have h16' := h16
    first | replace h16' := of_decide_eq_true h16' | replace h16' := bnT' h16' | skip
    refine Lno (wanted_noB rfl rfl rfl h16 (by decide)) rfl ?_
    refine Lno (wanted_noB rfl rfl rfl h16 (by decide)) rfl ?_
    refine Lno (wanted_noB rfl rfl rfl h16 (by decide)) rfl ?_
    refine L0 (wanted_none rfl) rfl (y_pickT rfl rfl h16 rfl) ?_
    refine L0 (wanted_none rfl) rfl (y_assign (v := Value.bool _) rfl rfl) ?_
    refine Lnil ?_
    refine W_ret ?_
    refine fin1 (fn := Try.f4) rfl rfl ?_
    first | exact ⟨rfl, hs15⟩ | exact ⟨congrArg Value.bool (bnT (by omega)), hs15⟩
  · have h16' := h16
    first | replace h16' := of_decide_eq_false h16' | replace h16' := bnF' h16' | skip
    refine L0 (wanted_yesB rfl rfl rfl h16) rfl (y_move (v := Value.string ⟨⟨_⟩⟩) rfl rfl) ?_
    refine L0 (wanted_yesB rfl rfl rfl h16) rfl (y_len rfl Try.underlying9 rfl) ?_
    refine L0 (wanted_yesB rfl rfl rfl h16) rfl (y_ne rfl rfl rfl) ?_
    refine L0 (wanted_none rfl) rfl (y_pickF rfl rfl h16 rfl) ?_
    refine L0 (wanted_none rfl) rfl (y_assign (v := Value.bool _) rfl rfl) ?_
    refine Lnil ?_
    refine W_ret ?_
    refine fin1 (fn := Try.f4) rfl rfl ?_
    first | exact ⟨rfl, hs15⟩ | exact ⟨congrArg Value.bool (bnT (by omega)), hs15⟩
theorem twice_ok (key nonce s t : List UInt8) (cut : Int) (l3 : s.length ≤ 300) (l4 : t.length ≤ 300) (hkl : key.length = 32) (hnl : nonce.length = 12) (w : World) :
    C Try.prog 4 ⟨[str key, str nonce, str s, str t, iv cut]⟩ w fun v w' => v = .bool true ∧ St w [] w' := by
  have hp := pickOf_range (a := cut) (n := (s.length : Int) + 1) (by omega)
  refine C_enter (n := 138) Try.func4 rfl rfl rfl (fun w1 hs1 => ?_)
  refine W_seq ?_
  refine W_region ?_
  refine L0 (wanted_none rfl) rfl (y_assign (v := Value.bool _) rfl rfl) ?_
  refine Lnil ?_
  refine W_seq ?_
  refine W_seq ?_
  refine W_region ?_
  refine L0 (wanted_none rfl) rfl (y_move (v := Value.string ⟨⟨_⟩⟩) rfl rfl) ?_
  refine L0 (wanted_none rfl) rfl (y_len rfl Try.underlying9 rfl) ?_
  refine L0 (wanted_none rfl) rfl (y_gt rfl rfl rfl) ?_
  refine L0 (wanted_none rfl) rfl (y_move (v := Value.bool _) rfl rfl) ?_
  refine Lkn (t := 22) (b0 := false) rfl (by first | exact decide_eq_false (by omega) | exact bnF (by omega) | (simp; omega)) (fun h2 => ?_)
  refine L0 (wanted_yesB rfl rfl rfl h2) rfl (y_move (v := Value.string ⟨⟨_⟩⟩) rfl rfl) ?_
  refine L0 (wanted_yesB rfl rfl rfl h2) rfl (y_len rfl Try.underlying9 rfl) ?_
  refine L0 (wanted_yesB rfl rfl rfl h2) rfl (y_gt rfl rfl rfl) ?_
  refine L0 (wanted_none rfl) rfl (y_pickF rfl rfl h2 rfl) ?_
  refine L0 (wanted_none rfl) rfl (y_move (v := Value.bool _) rfl rfl) ?_
  refine Lkn (t := 27) (b0 := false) rfl (by first | exact decide_eq_false (by omega) | exact bnF (by omega) | (simp; omega)) (fun h3 => ?_)
  refine L0 (wanted_yesB rfl rfl rfl h3) rfl (y_move (v := Value.string ⟨⟨_⟩⟩) rfl rfl) ?_
  refine L0 (wanted_yesB rfl rfl rfl h3) rfl (y_len rfl Try.underlying9 rfl) ?_
  refine L0 (wanted_yesB rfl rfl rfl h3) rfl (y_gt rfl rfl rfl) ?_
  refine L0 (wanted_none rfl) rfl (y_pickF rfl rfl h3 rfl) ?_
  refine L0 (wanted_none rfl) rfl (y_move (v := Value.bool _) rfl rfl) ?_
  refine Lkn (t := 32) (b0 := false) rfl (by first | exact decide_eq_false (by omega) | exact bnF (by omega) | (simp; omega)) (fun h4 => ?_)
  refine L0 (wanted_yesB rfl rfl rfl h4) rfl (y_move (v := Value.string ⟨⟨_⟩⟩) rfl rfl) ?_
  refine L0 (wanted_yesB rfl rfl rfl h4) rfl (y_len rfl Try.underlying9 rfl) ?_
  refine L0 (wanted_yesB rfl rfl rfl h4) rfl (y_gt rfl rfl rfl) ?_
  refine L0 (wanted_none rfl) rfl (y_pickF rfl rfl h4 rfl) ?_
  refine Lnil ?_
  refine Wkn (t := 36) (b0 := false) rfl (by first | exact decide_eq_false (by omega) | exact bnF (by omega) | (simp; omega)) (fun h5 => ?_)
  refine W_condF rfl h5 ?_
  refine W_skip ?_
  refine W_seq ?_
  refine W_seq ?_
  refine W_region ?_
  refine Lc (wanted_none rfl) (c_call rfl rfl rfl Try.func8 (by kernel_rfl) rfl (streamed_any w1) rfl ?_)
  rintro _ w6 ⟨rfl, hc7⟩
  have hs8 := hs1.call0 hc7
  refine L0 (wanted_none rfl) rfl (y_not rfl rfl) ?_
  refine Lnil ?_
  refine Wkn (t := 38) (b0 := false) rfl (by rfl) (fun h9 => ?_)
  refine W_condF rfl h9 ?_
  refine W_skip ?_
  refine W_seq ?_
  refine W_region ?_
  refine L0 (wanted_none rfl) rfl (y_move (v := Value.string ⟨⟨_⟩⟩) rfl rfl) ?_
  refine L0 (wanted_none rfl) rfl (y_move (v := Value.string ⟨⟨_⟩⟩) rfl rfl) ?_
  refine L0 (wanted_none rfl) rfl (y_move (v := Value.string ⟨⟨_⟩⟩) rfl rfl) ?_
  refine Lc (wanted_none rfl) (c_call rfl rfl rfl Try.func12 (by kernel_rfl) rfl (xor_any _ _ _ (by omega) hkl hnl w6) rfl ?_)
  rintro _ w10 ⟨rfl, hc11⟩
  have hs12 := hs8.call0 hc11
  refine L0 (wanted_none rfl) rfl (y_move (v := Value.tuple ⟨_⟩) rfl rfl) ?_
  refine L0 (wanted_none rfl) rfl (y_extract rfl rfl rfl) ?_
  refine L0 (wanted_none rfl) rfl (y_extract rfl rfl rfl) ?_
  refine L0 (wanted_none rfl) rfl (y_assign (v := Value.string ⟨⟨_⟩⟩) rfl rfl) ?_
  refine L0 (wanted_none rfl) rfl (y_assign (v := _) rfl rfl) ?_
  refine Lnil ?_
  refine W_seq ?_
  refine W_region ?_
  refine L0 (wanted_none rfl) rfl (y_move (v := Value.string ⟨⟨_⟩⟩) rfl rfl) ?_
  refine L0 (wanted_none rfl) rfl (y_move (v := Value.string ⟨⟨_⟩⟩) rfl rfl) ?_
  refine L0 (wanted_none rfl) rfl (y_move (v := Value.string ⟨⟨_⟩⟩) rfl rfl) ?_
  refine Lc (wanted_none rfl) (c_call rfl rfl rfl Try.func12 (by kernel_rfl) rfl (xor_any _ _ _ (by omega) hkl hnl w10) rfl ?_)
  rintro _ w13 ⟨rfl, hc14⟩
  have hs15 := hs12.call0 hc14
  refine L0 (wanted_none rfl) rfl (y_move (v := Value.tuple ⟨_⟩) rfl rfl) ?_
  refine L0 (wanted_none rfl) rfl (y_extract rfl rfl rfl) ?_
  refine L0 (wanted_none rfl) rfl (y_extract rfl rfl rfl) ?_
  refine L0 (wanted_none rfl) rfl (y_assign (v := Value.string ⟨⟨_⟩⟩) rfl rfl) ?_
  refine L0 (wanted_none rfl) rfl (y_assign (v := _) rfl rfl) ?_
  refine Lnil ?_
  refine W_seq ?_
  refine W_seq ?_
  refine W_region ?_
  refine L0 (wanted_none rfl) rfl (y_move (v := _) rfl rfl) ?_
  refine L0 (wanted_none rfl) rfl (y_neNilNil rfl Try.underlying24 rfl) ?_
  refine L0 (wanted_none rfl) rfl (y_move (v := Value.bool _) rfl rfl) ?_
  refine L0 (wanted_yesB rfl rfl rfl rfl) rfl (y_move (v := _) rfl rfl) ?_
  refine L0 (wanted_yesB rfl rfl rfl rfl) rfl (y_neNilNil rfl Try.underlying24 rfl) ?_
  refine L0 (wanted_none rfl) rfl (y_pickF rfl rfl (rfl : false = false) rfl) ?_
  refine Lnil ?_
  refine W_condF rfl rfl ?_
  refine W_skip ?_
  refine W_seq ?_
  refine W_region ?_
  refine L0 (wanted_none rfl) rfl (y_move (v := Value.string ⟨⟨_⟩⟩) rfl rfl) ?_
  refine L0 (wanted_none rfl) rfl (y_move (v := Value.string ⟨⟨_⟩⟩) rfl rfl) ?_
  refine L0 (wanted_none rfl) rfl (y_move (v := Value.string ⟨⟨_⟩⟩) rfl rfl) ?_
  refine Lc (wanted_none rfl) (c_call rfl rfl rfl Try.func12 (by kernel_rfl) rfl (xor_any key nonce _ (by rw [xorOf_len]; omega) hkl hnl w13) rfl ?_)
  rintro _ w16 ⟨rfl, hc17⟩
  have hs18 := hs15.call0 hc17
  refine L0 (wanted_none rfl) rfl (y_move (v := Value.tuple ⟨_⟩) rfl rfl) ?_
  refine L0 (wanted_none rfl) rfl (y_extract rfl rfl rfl) ?_
  refine L0 (wanted_none rfl) rfl (y_extract rfl rfl rfl) ?_
  refine L0 (wanted_none rfl) rfl (y_assign (v := Value.string ⟨⟨_⟩⟩) rfl rfl) ?_
  refine L0 (wanted_none rfl) rfl (y_assign (v := _) rfl rfl) ?_
  refine Lnil ?_
  refine W_seq ?_
  refine W_seq ?_
  refine W_region ?_
  refine L0 (wanted_none rfl) rfl (y_move (v := _) rfl rfl) ?_
  refine L0 (wanted_none rfl) rfl (y_neNilNil rfl Try.underlying24 rfl) ?_
  refine L0 (wanted_none rfl) rfl (y_move (v := Value.bool _) rfl rfl) ?_
  refine L0 (wanted_yesB rfl rfl rfl rfl) rfl (y_move (v := Value.string ⟨⟨_⟩⟩) rfl rfl) ?_
  refine L0 (wanted_yesB rfl rfl rfl rfl) rfl (y_move (v := Value.string ⟨⟨_⟩⟩) rfl rfl) ?_
  refine L0 (wanted_yesB rfl rfl rfl rfl) rfl (y_sne rfl rfl rfl) ?_
  refine L0 (wanted_none rfl) rfl (y_pickF rfl rfl (rfl : false = false) rfl) ?_
  refine L0 (wanted_none rfl) rfl (y_move (v := Value.bool _) rfl rfl) ?_
  refine Lkn (t := 81) (b0 := false) rfl (by exact bnF (xor_xor _ _ _)) (fun h19 => ?_)
  refine L0 (wanted_yesB rfl rfl rfl h19) rfl (y_move (v := Value.string ⟨⟨_⟩⟩) rfl rfl) ?_
  refine L0 (wanted_yesB rfl rfl rfl h19) rfl (y_len rfl Try.underlying9 rfl) ?_
  refine L0 (wanted_yesB rfl rfl rfl h19) rfl (y_move (v := Value.string ⟨⟨_⟩⟩) rfl rfl) ?_
  refine L0 (wanted_yesB rfl rfl rfl h19) rfl (y_len rfl Try.underlying9 rfl) ?_
  refine L0 (wanted_yesB rfl rfl rfl h19) rfl (y_ne rfl rfl rfl) ?_
  refine L0 (wanted_none rfl) rfl (y_pickF rfl rfl h19 rfl) ?_
  refine Lnil ?_
  refine Wkn (t := 87) (b0 := false) rfl (by exact bnF (by rw [xorOf_len])) (fun h20 => ?_)
  refine W_condF rfl h20 ?_
  refine W_skip ?_
  refine W_seq ?_
  refine W_seq ?_
  refine W_region ?_
  refine L0 (wanted_none rfl) rfl (y_assign (v := Value.int _ _) rfl rfl) ?_
  refine Lnil ?_
  refine W_block ?_
  refine W_loop (G := Nat) (fun i a wl => ∃ e, a = A 138 ((17, iv i) :: (11, str (xorOf key nonce s)) :: (13, str (xorOf key nonce t)) :: (0, str key) :: (1, str nonce) :: (2, str s) :: (3, str t) :: (4, iv cut) :: e) ∧ i ≤ s.length ∧ St w [] wl) (fun i => s.length + 1 - i) (0) ?_ ?_
  · exact ⟨_, A_pins _ _ [17, 11, 13, 0, 1, 2, 3, 4], by omega, hs18⟩
  rintro i _ w21 ⟨ehs22, rfl, hi, hs22⟩
  refine W_seq ?_
  refine W_seq ?_
  refine W_region ?_
  refine L0 (wanted_none rfl) rfl (y_move (v := Value.int _ _) rfl rfl) ?_
  refine L0 (wanted_none rfl) rfl (y_move (v := Value.string ⟨⟨_⟩⟩) rfl rfl) ?_
  refine L0 (wanted_none rfl) rfl (y_len rfl Try.underlying9 rfl) ?_
  refine L0 (wanted_none rfl) rfl (y_lt rfl rfl rfl) ?_
  refine L0 (wanted_none rfl) rfl (y_move (v := Value.bool _) rfl rfl) ?_
  refine Lsp (t := 92) rfl (fun h23 => ?_) (fun h23 => ?_)
  · have h23' := h23
    first | replace h23' := of_decide_eq_true h23' | replace h23' := bnT' h23' | skip
    refine L0 (wanted_yesB rfl rfl rfl h23) rfl (y_move (v := Value.int _ _) rfl rfl) ?_
    refine L0 (wanted_yesB rfl rfl rfl h23) rfl (y_move (v := Value.string ⟨⟨_⟩⟩) rfl rfl) ?_
    refine L0 (wanted_yesB rfl rfl rfl h23) rfl (y_len rfl Try.underlying9 rfl) ?_
    refine L0 (wanted_yesB rfl rfl rfl h23) rfl (y_lt rfl rfl rfl) ?_
    refine L0 (wanted_none rfl) rfl (y_pickT rfl rfl h23 rfl) ?_
    refine Lnil ?_
    refine Wsp (t := 97) rfl (fun h24 => ?_) (fun h24 => ?_)
    · have h24' := h24
      first | replace h24' := of_decide_eq_true h24' | replace h24' := bnT' h24' | skip
      refine W_condT rfl h24 ?_
      refine W_skip ?_
      refine W_seq ?_
      refine W_block ?_
      refine W_seq ?_
      refine W_drawSt [(0, 0), (0, 1), (0, 3), (0, 4), (0, 7), (0, 8), (0, 10), (0, 11), (0, 2), (0, 5), (0, 9), (0, 12), (0, 6), (0, 13), (0, 14)] hs22 mixed (by kernel_rfl) (fun w25 hs26 => ?_)
      refine E0 (wanted_none rfl) rfl (y_move (v := Value.string ⟨⟨_⟩⟩) rfl rfl) ?_
      refine E0 (wanted_none rfl) rfl (y_move (v := Value.int _ _) rfl rfl) ?_
      refine E0 (wanted_none rfl) rfl (y_move (v := Value.string ⟨⟨_⟩⟩) rfl rfl) ?_
      refine E0 (wanted_none rfl) rfl (y_move (v := Value.int _ _) rfl rfl) ?_
      refine E0 (wanted_none rfl) rfl (y_move (v := Value.string ⟨⟨_⟩⟩) rfl rfl) ?_
      refine E0 (wanted_none rfl) rfl (y_move (v := Value.int _ _) rfl rfl) ?_
      refine E0 (wanted_none rfl) rfl (y_move (v := Value.string ⟨⟨_⟩⟩) rfl rfl) ?_
      refine E0 (wanted_none rfl) rfl (y_move (v := Value.int _ _) rfl rfl) ?_
      refine E0 (wanted_none rfl) rfl (y_sindex rfl Try.underlying9 rfl rfl (by omega) (by rw [xorOf_len]; omega)) ?_
      refine E0 (wanted_none rfl) rfl (y_sindex rfl Try.underlying9 rfl rfl (by omega) (by rw [xorOf_len]; omega)) ?_
      refine E0 (wanted_none rfl) rfl (y_sindex rfl Try.underlying9 rfl rfl (by omega) (by omega)) ?_
      refine E0 (wanted_none rfl) rfl (y_sindex rfl Try.underlying9 rfl rfl (by omega) (by omega)) ?_
      refine E0 (wanted_none rfl) rfl (y_xor8 rfl rfl rfl) ?_
      refine E0 (wanted_none rfl) rfl (y_xor8 rfl rfl rfl) ?_
      refine E0 (wanted_none rfl) rfl (y_ne rfl rfl rfl) ?_
      refine Enil ?_
      refine Wkn (t := 114) (b0 := false) rfl (by exact bnF (congrArg (fun x : UInt8 => (x.toNat : Int)) (xor_pair key nonce s t i (by omega) (by omega)))) (fun h27 => ?_)
      refine W_condF rfl h27 ?_
      refine W_skip ?_
      refine W_region ?_
      refine L0 (wanted_none rfl) rfl (y_move (v := Value.int _ _) rfl rfl) ?_
      refine L0 (wanted_none rfl) rfl (y_add64 rfl rfl rfl (by omega)) ?_
      refine L0 (wanted_none rfl) rfl (y_assign (v := Value.int _ _) rfl rfl) ?_
      refine Lnil ?_
      exact ⟨i + 1, by (try dsimp only); omega, _, A_c (iv_eq (by (try dsimp only); omega)) (A_c rfl (A_c rfl (A_c rfl (A_c rfl (A_c rfl (A_c rfl (A_c rfl (rfl)))))))), by omega, hs26⟩
    · have h24' := h24
      first | replace h24' := of_decide_eq_false h24' | replace h24' := bnF' h24' | skip
      refine W_condF rfl h24 ?_
      refine W_exit ?_
      refine W_seq ?_
      refine W_region ?_
      refine L0 (wanted_none rfl) rfl (y_move (v := Value.int _ _) rfl rfl) ?_
      refine L0 (wanted_none rfl) rfl (y_move (v := Value.string ⟨⟨_⟩⟩) rfl rfl) ?_
      refine L0 (wanted_none rfl) rfl (y_len rfl Try.underlying9 rfl) ?_
      refine L0 (wanted_none rfl) rfl (y_add64 rfl rfl rfl (by omega)) ?_
      refine Lc (wanted_none rfl) (c_call rfl rfl rfl Try.func13 (by kernel_rfl) rfl (pick_any cut _ (by omega) (by omega) w21) rfl ?_)
      rintro _ w28 ⟨rfl, hc29⟩
      have hs30 := hs22.call0 hc29
      refine L0 (wanted_none rfl) rfl (y_assign (v := Value.int _ _) rfl rfl) ?_
      refine Lnil ?_
      refine W_seq ?_
      refine W_region ?_
      refine L0 (wanted_none rfl) rfl (y_move (v := Value.string ⟨⟨_⟩⟩) rfl rfl) ?_
      refine L0 (wanted_none rfl) rfl (y_move (v := Value.string ⟨⟨_⟩⟩) rfl rfl) ?_
      refine L0 (wanted_none rfl) rfl (y_move (v := Value.string ⟨⟨_⟩⟩) rfl rfl) ?_
      refine L0 (wanted_none rfl) rfl (y_move (v := Value.int _ _) rfl rfl) ?_
      refine L0 (wanted_none rfl) rfl (y_sslice_hi rfl Try.underlying9 rfl rfl (by omega)) ?_
      refine Lc (wanted_none rfl) (c_call rfl rfl rfl Try.func12 (by kernel_rfl) rfl (xor_any key nonce _ (by rw [List.length_take]; omega) hkl hnl w28) rfl ?_)
      rintro _ w31 ⟨rfl, hc32⟩
      have hs33 := hs30.call0 hc32
      refine L0 (wanted_none rfl) rfl (y_move (v := Value.tuple ⟨_⟩) rfl rfl) ?_
      refine L0 (wanted_none rfl) rfl (y_extract rfl rfl rfl) ?_
      refine L0 (wanted_none rfl) rfl (y_extract rfl rfl rfl) ?_
      refine L0 (wanted_none rfl) rfl (y_assign (v := Value.string ⟨⟨_⟩⟩) rfl rfl) ?_
      refine L0 (wanted_none rfl) rfl (y_assign (v := _) rfl rfl) ?_
      refine Lnil ?_
      refine W_seq ?_
      refine W_region ?_
      refine L0 (wanted_none rfl) rfl (y_move (v := _) rfl rfl) ?_
      refine L0 (wanted_none rfl) rfl (y_eqNilNil rfl Try.underlying24 rfl) ?_
      refine L0 (wanted_none rfl) rfl (y_move (v := Value.bool _) rfl rfl) ?_
      refine L0 (wanted_yesB rfl rfl rfl rfl) rfl (y_move (v := Value.string ⟨⟨_⟩⟩) rfl rfl) ?_
      refine L0 (wanted_yesB rfl rfl rfl rfl) rfl (y_move (v := Value.string ⟨⟨_⟩⟩) rfl rfl) ?_
      refine L0 (wanted_yesB rfl rfl rfl rfl) rfl (y_move (v := Value.int _ _) rfl rfl) ?_
      refine L0 (wanted_yesB rfl rfl rfl rfl) rfl (y_sslice_hi rfl Try.underlying9 rfl rfl (by rw [xorOf_len]; omega)) ?_
      refine L0 (wanted_yesB rfl rfl rfl rfl) rfl (y_seq rfl rfl rfl) ?_
      refine L0 (wanted_none rfl) rfl (y_pickT rfl rfl (rfl : true = true) rfl) ?_
      refine L0 (wanted_none rfl) rfl (y_assign (v := Value.bool _) rfl rfl) ?_
      refine Lnil ?_
      refine W_ret ?_
      refine fin1 (fn := Try.f4) rfl rfl ?_
      exact ⟨congrArg Value.bool (decide_eq_true (xor_take _ _ _ _)), hs33⟩
  · have h23' := h23
    first | replace h23' := of_decide_eq_false h23' | replace h23' := bnF' h23' | skip
    refine Lno (wanted_noB rfl rfl rfl h23 (by decide)) rfl ?_
    refine Lno (wanted_noB rfl rfl rfl h23 (by decide)) rfl ?_
    refine Lno (wanted_noB rfl rfl rfl h23 (by decide)) rfl ?_
    refine Lno (wanted_noB rfl rfl rfl h23 (by decide)) rfl ?_
    refine L0 (wanted_none rfl) rfl (y_pickF rfl rfl h23 rfl) ?_
    refine Lnil ?_
    refine W_condF rfl rfl ?_
    refine W_exit ?_
    refine W_seq ?_
    refine W_region ?_
    refine L0 (wanted_none rfl) rfl (y_move (v := Value.int _ _) rfl rfl) ?_
    refine L0 (wanted_none rfl) rfl (y_move (v := Value.string ⟨⟨_⟩⟩) rfl rfl) ?_
    refine L0 (wanted_none rfl) rfl (y_len rfl Try.underlying9 rfl) ?_
    refine L0 (wanted_none rfl) rfl (y_add64 rfl rfl rfl (by omega)) ?_
    refine Lc (wanted_none rfl) (c_call rfl rfl rfl Try.func13 (by kernel_rfl) rfl (pick_any cut _ (by omega) (by omega) w21) rfl ?_)
    rintro _ w34 ⟨rfl, hc35⟩
    have hs36 := hs22.call0 hc35
    refine L0 (wanted_none rfl) rfl (y_assign (v := Value.int _ _) rfl rfl) ?_
    refine Lnil ?_
    refine W_seq ?_
    refine W_region ?_
    refine L0 (wanted_none rfl) rfl (y_move (v := Value.string ⟨⟨_⟩⟩) rfl rfl) ?_
    refine L0 (wanted_none rfl) rfl (y_move (v := Value.string ⟨⟨_⟩⟩) rfl rfl) ?_
    refine L0 (wanted_none rfl) rfl (y_move (v := Value.string ⟨⟨_⟩⟩) rfl rfl) ?_
    refine L0 (wanted_none rfl) rfl (y_move (v := Value.int _ _) rfl rfl) ?_
    refine L0 (wanted_none rfl) rfl (y_sslice_hi rfl Try.underlying9 rfl rfl (by omega)) ?_
    refine Lc (wanted_none rfl) (c_call rfl rfl rfl Try.func12 (by kernel_rfl) rfl (xor_any key nonce _ (by rw [List.length_take]; omega) hkl hnl w34) rfl ?_)
    rintro _ w37 ⟨rfl, hc38⟩
    have hs39 := hs36.call0 hc38
    refine L0 (wanted_none rfl) rfl (y_move (v := Value.tuple ⟨_⟩) rfl rfl) ?_
    refine L0 (wanted_none rfl) rfl (y_extract rfl rfl rfl) ?_
    refine L0 (wanted_none rfl) rfl (y_extract rfl rfl rfl) ?_
    refine L0 (wanted_none rfl) rfl (y_assign (v := Value.string ⟨⟨_⟩⟩) rfl rfl) ?_
    refine L0 (wanted_none rfl) rfl (y_assign (v := _) rfl rfl) ?_
    refine Lnil ?_
    refine W_seq ?_
    refine W_region ?_
    refine L0 (wanted_none rfl) rfl (y_move (v := _) rfl rfl) ?_
    refine L0 (wanted_none rfl) rfl (y_eqNilNil rfl Try.underlying24 rfl) ?_
    refine L0 (wanted_none rfl) rfl (y_move (v := Value.bool _) rfl rfl) ?_
    refine L0 (wanted_yesB rfl rfl rfl rfl) rfl (y_move (v := Value.string ⟨⟨_⟩⟩) rfl rfl) ?_
    refine L0 (wanted_yesB rfl rfl rfl rfl) rfl (y_move (v := Value.string ⟨⟨_⟩⟩) rfl rfl) ?_
    refine L0 (wanted_yesB rfl rfl rfl rfl) rfl (y_move (v := Value.int _ _) rfl rfl) ?_
    refine L0 (wanted_yesB rfl rfl rfl rfl) rfl (y_sslice_hi rfl Try.underlying9 rfl rfl (by rw [xorOf_len]; omega)) ?_
    refine L0 (wanted_yesB rfl rfl rfl rfl) rfl (y_seq rfl rfl rfl) ?_
    refine L0 (wanted_none rfl) rfl (y_pickT rfl rfl (rfl : true = true) rfl) ?_
    refine L0 (wanted_none rfl) rfl (y_assign (v := Value.bool _) rfl rfl) ?_
    refine Lnil ?_
    refine W_ret ?_
    refine fin1 (fn := Try.f4) rfl rfl ?_
    exact ⟨congrArg Value.bool (decide_eq_true (xor_take _ _ _ _)), hs39⟩
theorem twice_any (key nonce s t : List UInt8) (cut : Int) (w : World) :
    C Try.prog 4 ⟨[str key, str nonce, str s, str t, iv cut]⟩ w fun v w' => v = .bool true ∧ St w [] w' := by
  by_cases h : 40 < key.length ∨ 40 < nonce.length ∨ 300 < s.length ∨ 300 < t.length
  · exact twice_long key nonce s t cut h w
  · by_cases h1 : key.length = 32 ∧ nonce.length = 12
    · exact twice_ok key nonce s t cut (by omega) (by omega) h1.1 h1.2 w
    · exact twice_err key nonce s t cut (by omega) (by omega) (by omega) (by omega) h1 w
end Go.Proofs.Ytkolfgmpmnelmaa
